import PyProof.Rows.All
import Wide.All
import OpenK.AllK
import Wide.FinOn
import KE.KStateDown
import Lean
import HandS.ForMost
import HandS.ForExc
import HandS.Defaults
import HandS.IsInst
import HandS.Finally
import HandS.ListItems
import HandS.SortInts
import HandS.SortKw
import HandS.Walk
import HandS.Iter
import HandS.Text
import HandS.Base
import HandS.Call
import HandS.More
import PyProof.Rows.TmSorted
import PyProof.Rows.SortStr
import HandS.Evl
import HandS.DictComp
import HandS.ExcIs
import HandS.SetFor
import HandS.CallSlots
import KE.DataCmp
import KE.IntTextLaws
import HandS.ExcInit
import HandS.ExcField
import KE.KExcIs
import KE.KDictWalk
import HandS.Head0
import HandS.Head1
import HandS.Head2
import HandS.HeadEnd
import HandS.HeadHook1
import HandS.HeadHook2
import PySem.Challenge.RW_cuehall_k10_texts_not_read
set_option Elab.async false
set_option linter.all false
set_option maxRecDepth 100000
set_option maxHeartbeats 4000000
namespace Cue
open PySem PySem.Spec PyProof.Rows L2
/-! ## The library of this claim: rules that the hand layer lacks, defs in bundles. Own work. -/
section
variable {X : Cx}
/-! ### a def of the module, a method of a class, with all that a call wants -/
structure Def (P : Program) (w : World) (K : PySem.W.Frag) (mg : Str → Option Value) (base : Heap) (k : Nat) (x : Str) (ps : List Str) (sp : Sp) : Prop where
  ex : ∃ f fd, mg x = some (.ref f) ∧ PySem.W.keepIn K (.ref f) = true ∧ FnOk P w K mg base (L2.CX P w) k f fd ps sp ∧ Binds K fd ps []
structure MDef (P : Program) (w : World) (K : PySem.W.Frag) (mg : Str → Option Value) (base : Heap) (C : Addr) (k : Nat) (m : Str) (ps : List Str) (dvs : List V) (sp : Sp) : Prop where
  ex : ∃ f fd ds, Meth K C m f ∧ FnOk P w K mg base (L2.CX P w) k f fd ps sp ∧ Binds K fd ps ds ∧ Vals dvs ds
structure IDef (P : Program) (w : World) (K : PySem.W.Frag) (mg : Str → Option Value) (base : Heap) (f : Addr) (k : Nat) (ps : List Str) (sp : Sp) : Prop where
  ex : ∃ fd, FnOk P w K mg base (L2.CX P w) k f fd ps sp ∧ Binds K fd ps []
section
variable {k : Nat} {x m : Str} {ps : List Str} {sp : Sp} {dvs : List V} {E : XK} {p pos apos : Pos} {e o : Expr} {es : List Expr} {ta : TE} {t : TA} {C f : Addr}
theorem pe_fn (D : Def X.prog X.w X.K X.mg X.base k x ps sp) (hr : Room k X.A) (hg : Gl X x) (hx : Passes (L2.CX X.prog X.w) X E) (ha : PA X (e :: es) t)
    (hdb : (x == ("__debug__" : Str)) = false := by decide) (he : starEach (e :: es) X.env = (false, eval e X.env) :: starEach es X.env := by rfl) (hpl : (backTo pos (starEach es X.env)).any (·.1) = false := by rfl) :
    PE X (.Call (.Name x p) (e :: es) [] pos) (tCall sp [] E t) := by
  obtain ⟨f, fd, hm, hk, F, hb⟩ := D.ex
  exact pe_call F hr hg hm hk hb .nil hx ha hdb he hpl
theorem pe_mt {pl : Sem Bool} (c : Cls X.K C) (D : MDef X.prog X.w X.K X.mg X.base C k m ps dvs sp) (hr : Room k X.A) (hx : Passes (L2.CX X.prog X.w) X E) (he : PE X o ta) (ha : PA X (e :: es) t)
    (hst : starEach (e :: es) X.env = (false, eval e X.env) :: starEach es X.env := by rfl) (hpl : (backTo pos (starEach es X.env)).any (·.1) = false := by rfl)
    (ht : eval (.Call (.Attribute o m apos) (e :: es) [] pos) X.env = (do
      let ov ← eval o X.env
      standAt apos.atName
      let (f, first) ← holding [ov] (getMethod ov m pl)
      callWith pos f first (backTo pos (starEach (e :: es) X.env)) (backToKw pos (keywordEach [] X.env))) := by rfl) :
    PE X (.Call (.Attribute o m apos) (e :: es) [] pos) (tMeth C m sp dvs E ta t) := by
  obtain ⟨f, fd, ds, hm, F, hb, hd⟩ := D.ex
  exact pe_meth he c hm F hr hb hd hx ha hst hpl ht
theorem pe_mt0 {pl : Sem Bool} (c : Cls X.K C) (D : MDef X.prog X.w X.K X.mg X.base C k m ps dvs sp) (hr : Room k X.A) (hx : Passes (L2.CX X.prog X.w) X E) (he : PE X o ta)
    (ht : eval (.Call (.Attribute o m apos) [] [] pos) X.env = (do
      let ov ← eval o X.env
      standAt apos.atName
      let (f, first) ← holding [ov] (getMethod ov m pl)
      callWith pos f first (backTo pos (starEach [] X.env)) (backToKw pos (keywordEach [] X.env))) := by rfl) :
    PE X (.Call (.Attribute o m apos) [] [] pos) (tMeth C m sp dvs E ta tNil) := by
  obtain ⟨f, fd, ds, hm, F, hb, hd⟩ := D.ex
  exact pe_meth0 he c hm F hr hb hd hx ht
theorem pe_mk (M : Mk X.K C f) (D : IDef X.prog X.w X.K X.mg X.base f k ps sp) (hr : Room (k + 1) X.A) (hg : Gl X x) (hm : X.mg x = some (.ref C)) (hx : Passes (L2.CX X.prog X.w) X E) (ha : PA X (e :: es) t)
    (hdb : (x == ("__debug__" : Str)) = false := by decide) (he : starEach (e :: es) X.env = (false, eval e X.env) :: starEach es X.env := by rfl) (hpl : (backTo pos (starEach es X.env)).any (·.1) = false := by rfl) :
    PE X (.Call (.Name x p) (e :: es) [] pos) (tMake C sp [] E t) := by
  obtain ⟨fd, F, hb⟩ := D.ex
  exact pe_make M F hr hg hm hb .nil hx ha hdb he hpl
theorem pe_mk0 (M : Mk X.K C f) (D : IDef X.prog X.w X.K X.mg X.base f k ps sp) (hr : Room (k + 1) X.A) (hg : Gl X x) (hm : X.mg x = some (.ref C)) (hx : Passes (L2.CX X.prog X.w) X E)
    (hdb : (x == ("__debug__" : Str)) = false := by decide) : PE X (.Call (.Name x p) [] [] pos) (tMake C sp [] E tNil) := by
  obtain ⟨fd, F, hb⟩ := D.ex
  exact pe_make0 M F hr hg hm hb .nil hx hdb
end
/-! ### promises by the number of parameters -/
def sp1 (φ : V → Hp → VK → XK → Prop) : Sp := fun vs H Q E => ∃ a, vs = [a] ∧ φ a H Q E
def sp2 (φ : V → V → Hp → VK → XK → Prop) : Sp := fun vs H Q E => ∃ a b, vs = [a, b] ∧ φ a b H Q E
def sp3 (φ : V → V → V → Hp → VK → XK → Prop) : Sp := fun vs H Q E => ∃ a b c, vs = [a, b, c] ∧ φ a b c H Q E
def sp4 (φ : V → V → V → V → Hp → VK → XK → Prop) : Sp := fun vs H Q E => ∃ a b c d, vs = [a, b, c, d] ∧ φ a b c d H Q E
def sp5 (φ : V → V → V → V → V → Hp → VK → XK → Prop) : Sp := fun vs H Q E => ∃ a b c d e, vs = [a, b, c, d, e] ∧ φ a b c d e H Q E
theorem len1 {φ} : ∀ vs H Q E, sp1 φ vs H Q E → vs.length = 1 := by
  rintro _ _ _ _ ⟨a, rfl, _⟩; rfl
theorem len2 {φ} : ∀ vs H Q E, sp2 φ vs H Q E → vs.length = 2 := by
  rintro _ _ _ _ ⟨a, b, rfl, _⟩; rfl
theorem len3 {φ} : ∀ vs H Q E, sp3 φ vs H Q E → vs.length = 3 := by
  rintro _ _ _ _ ⟨a, b, c, rfl, _⟩; rfl
theorem len4 {φ} : ∀ vs H Q E, sp4 φ vs H Q E → vs.length = 4 := by
  rintro _ _ _ _ ⟨a, b, c, d, rfl, _⟩; rfl
theorem len5 {φ} : ∀ vs H Q E, sp5 φ vs H Q E → vs.length = 5 := by
  rintro _ _ _ _ ⟨a, b, c, d, e, rfl, _⟩; rfl
section
variable {P : Program} {w : World} {K : PySem.W.Frag} {mg : Str → Option Value} {base : Heap} {x q : Str} {st : Stmt} {N ps : List Str} {sp : Sp} {k : Nat} {f C : Addr} {dl : List V}
/-- what a def's body is to show: nothing is raised; or what is raised goes out -/
abbrev BodyN (P : Program) (w : World) (K : PySem.W.Frag) (mg : Str → Option Value) (base : Heap) (N : List Str) (q : Str) (st : Stmt) (f : Addr) (k : Nat) (sp : Sp) : Prop :=
  ∀ (cdv : Value) (A : Around) (outer : List Env) (s : Shared) (H : Hp) (vs : List V) (Q : VK) (E : XK), Room k (A.deeper (envOfC q (defScope st) s.heap.objs.size f cdv)) → sp vs H Q E →
    ∃ t, PSs (cxOf (L2.CX P w) P w K mg base N q (defScope st) f cdv A outer s H E).nox (defBody st) t ∧ t { nx := fun _ H' => Q .non H', rt := Q } (start N vs) H
abbrev BodyX (P : Program) (w : World) (K : PySem.W.Frag) (mg : Str → Option Value) (base : Heap) (N : List Str) (q : Str) (st : Stmt) (f : Addr) (k : Nat) (sp : Sp) : Prop :=
  ∀ (cdv : Value) (A : Around) (outer : List Env) (s : Shared) (H : Hp) (vs : List V) (Q : VK) (E : XK), Room k (A.deeper (envOfC q (defScope st) s.heap.objs.size f cdv)) → sp vs H Q E →
    ∃ t, PSs (cxOf (L2.CX P w) P w K mg base N q (defScope st) f cdv A outer s H E) (defBody st) t ∧ t { nx := fun _ H' => Q .non H', rt := Q } (start N vs) H
theorem BodyN.up (b : BodyN P w K mg base N q st f k sp) : BodyX P w K mg base N q st f k sp := fun cdv A outer s H vs Q E hr h => by
  obtain ⟨t, h1, h2⟩ := b cdv A outer s H vs Q E hr h
  exact ⟨t, PSs.nox h1, h2⟩
/-- how n arguments bind to n parameters -/
abbrev BindsAll (x q : Str) (st : Stmt) (ps : List Str) : Prop := ∀ (kV doc pm : Value) (an : Option Addr) (cdv ct : Value) (us : List Value), us.length = ps.length →
  bindArgs (PySem.W.fnOf x q (defArgs st) (defBody st) (defScope st) .none kV doc pm an cdv ct) ⟨us, []⟩ = pure (ps.zip us)
theorem mkDef (F : ∃ fd, FunD K x q (defArgs st) (defBody st) (defScope st) [] [] f fd) (g : mg x = some (.ref f)) (S : FnScope N ps (defScope st)) (B : BindsAll x q st ps) (len : ∀ vs H Q E, sp vs H Q E → vs.length = ps.length)
    (b : BodyX P w K mg base N q st f k sp) : Def P w K mg base (k + 1) x ps sp := by
  obtain ⟨fd, F⟩ := F
  exact ⟨f, fd, g, F.kp, F.ok S len b, F.bindsN B⟩
theorem mkM (F : ∃ fd, FunD K x q (defArgs st) (defBody st) (defScope st) [] [] f fd) (g : Meth K C x f) (S : FnScope N ps (defScope st)) (B : BindsAll x q st ps) (len : ∀ vs H Q E, sp vs H Q E → vs.length = ps.length)
    (b : BodyX P w K mg base N q st f k sp) : MDef P w K mg base C (k + 1) x ps [] sp := by
  obtain ⟨fd, F⟩ := F
  exact ⟨f, fd, [], g, F.ok S len b, F.bindsN B, .nil⟩
theorem mkI (F : ∃ fd, FunD K x q (defArgs st) (defBody st) (defScope st) [] [] f fd) (S : FnScope N ps (defScope st)) (B : BindsAll x q st ps) (len : ∀ vs H Q E, sp vs H Q E → vs.length = ps.length)
    (b : BodyX P w K mg base N q st f k sp) : IDef P w K mg base f (k + 1) ps sp := by
  obtain ⟨fd, F⟩ := F
  exact ⟨fd, F.ok S len b, F.bindsN B⟩
theorem Def.up {j : Nat} (D : Def P w K mg base k x ps sp) (h : k ≤ j) : Def P w K mg base j x ps sp := by
  obtain ⟨f, fd, a, b, F, c⟩ := D.ex
  exact ⟨f, fd, a, b, F.mono h, c⟩
end
/-! ### heaps -/
theorem same_upd {H : Hp} {p : Addr} {o : HO} (h : H p = none) : Same H (upd H p o) := fun b u e => by
  rw [upd_ne (ne_of_none e h)]; exact e
theorem sm_mut {H H' : Hp} {p : Addr} {o : HO} (e : Same H H') (h : H p = none) : Same H (upd H' p o) := fun b u z => by
  rw [upd_ne (ne_of_none z h)]; exact e b u z
theorem sm_new {H H' : Hp} {p : Addr} {o : HO} (e : Same H H') (h : H' p = none) : Same H (upd H' p o) := sm_mut e (e.free h)
theorem sm_seqT {K : PySem.W.Frag} {H H' : Hp} {a : Addr} {xs : List V} (e : Same H H') (h : SqT K H a xs) : SqT K H' a xs := by
  rcases h with (h | ⟨o, h⟩) | h
  · exact .inl (.inl (e _ _ h))
  · exact .inl (.inr ⟨o, e _ _ h⟩)
  · exact .inr h
/-! ### list + list, each only read -/
theorem op_catS : OpR X (binaryOp .Add) (fun x y H Q => ∃ l b xs zs, x = .ref l ∧ y = .ref b ∧ SqL X.K H l xs ∧ SqL X.K H b zs ∧ xs.length + zs.length ≤ sizeLine ∧ ∀ p, H p = none → Q (.ref p) (upd H p (.lst (xs ++ zs)))) := by
  intro pins s σ H x y v u Q I rx ry h
  obtain ⟨l, b, xs, zs, rfl, rfl, hl, hb, hz, q⟩ := h
  cases rx; cases ry
  obtain ⟨vs, r, pl, z⟩ := I.list hl
  obtain ⟨ws, r2, pl2, z2⟩ := I.list hb
  have n1 := r.length; have n2 := r2.length
  obtain ⟨⟨c1, d1, t1, l1⟩, k1, e1, g1, f1⟩ := pl
  obtain ⟨⟨c2, d2, t2, l2⟩, k2, e2, g2, f2⟩ := pl2
  obtain ⟨f1, h1⟩ := f1; obtain ⟨f2, h2⟩ := f2
  cases g1; cases g2; cases f1; cases f2; cases h1; cases h2
  refine concat_meets ⟨_, e1, rfl⟩ ⟨_, e2, rfl⟩ noFill_list_add seq_list_add PySem.F.slot_list_add PySem.F.entry_list_add (PySem.F.args_list_add_2 _ _) (list_addW l b _ _ k1 k2 _ _ _ _ (by rw [List.size_toArray, List.size_toArray]; omega)) ⟨e1, e2, ?_⟩
  rw [show vs.toArray ++ ws.toArray = (vs ++ ws).toArray by simp]
  exact ⟨.ref _, _, I.lnew (t' := s.toks) (r.append r2) (by rw [List.length_append]; omega), rfl, q _ I.fresh⟩
/-! ### things, and what isinstance tells of them -/
/-- a thing of no own class -/
def Pl (H : Hp) : V → Prop
  | .non => True | .bl _ => True | .int _ => True | .str z => z.length ≤ 100000 ∧ PyData.strOk z = true
  | .ref a => (∃ xs, H a = some (.lst xs)) ∨ (∃ xs, H a = some (.tup xs)) ∨ ∃ kvs, H a = some (.dK kvs)
  | _ => False
theorem Pl.same {H H' : Hp} {x : V} (e : Same H H') (h : Pl H x) : Pl H' x := by
  cases x <;> try exact h
  rcases h with ⟨xs, h⟩ | ⟨xs, h⟩ | ⟨xs, h⟩
  · exact .inl ⟨xs, e _ _ h⟩
  · exact .inr (.inl ⟨xs, e _ _ h⟩)
  · exact .inr (.inr ⟨xs, e _ _ h⟩)
def isInt : V → Bool | .int _ => true | .bl _ => true | _ => false
def isBl : V → Bool | .bl _ => true | _ => false
def isStr : V → Bool | .str _ => true | _ => false
theorem Pl.ty {K : PySem.W.Frag} {H : Hp} {x : V} (h : Pl H x) : ∃ t, TyX K H x (.type t) ∧ kitB t "int" = some (isInt x) ∧ kitB t "bool" = some (isBl x) ∧ kitB t "str" = some (isStr x) := by
  cases x with
  | non => exact ⟨_, .base .non, (show kitB "NoneType" "int" = some false by decide +kernel), (show kitB "NoneType" "bool" = some false by decide +kernel), (show kitB "NoneType" "str" = some false by decide +kernel)⟩
  | bl b => exact ⟨_, .base (.bl b), (show kitB "bool" "int" = some true by decide +kernel), (show kitB "bool" "bool" = some true by decide +kernel), (show kitB "bool" "str" = some false by decide +kernel)⟩
  | int i => exact ⟨_, .base (.int i), (show kitB "int" "int" = some true by decide +kernel), (show kitB "int" "bool" = some false by decide +kernel), (show kitB "int" "str" = some false by decide +kernel)⟩
  | str z => exact ⟨_, .base (.str z), (show kitB "str" "int" = some false by decide +kernel), (show kitB "str" "bool" = some false by decide +kernel), (show kitB "str" "str" = some true by decide +kernel)⟩
  | ref a =>
    rcases h with ⟨xs, h⟩ | ⟨xs, h⟩ | ⟨xs, h⟩
    · exact ⟨_, .base (.lst h), (show kitB "list" "int" = some false by decide +kernel), (show kitB "list" "bool" = some false by decide +kernel), (show kitB "list" "str" = some false by decide +kernel)⟩
    · exact ⟨_, .base (.tup h), (show kitB "tuple" "int" = some false by decide +kernel), (show kitB "tuple" "bool" = some false by decide +kernel), (show kitB "tuple" "str" = some false by decide +kernel)⟩
    · exact ⟨_, .base (.dK h), (show kitB "dict" "int" = some false by decide +kernel), (show kitB "dict" "bool" = some false by decide +kernel), (show kitB "dict" "str" = some false by decide +kernel)⟩
  | byt b => exact h.elim
  | flt b => exact h.elim
  | ty n => exact h.elim
/-- isinstance(x, T) of a thing -/
theorem is_int {K : PySem.W.Frag} {H : Hp} {x : V} {Q : VK} (h : Pl H x) (q : Q (.bl (isInt x)) H) : rIsi K [x, .ty "int"] H Q := by
  obtain ⟨t, a, b, _, _⟩ := h.ty (K := K)
  exact ⟨_, _, _, _, _, rfl, .ty _, a, kit_ty b, q⟩
theorem is_bool {K : PySem.W.Frag} {H : Hp} {x : V} {Q : VK} (h : Pl H x) (q : Q (.bl (isBl x)) H) : rIsi K [x, .ty "bool"] H Q := by
  obtain ⟨t, a, _, b, _⟩ := h.ty (K := K)
  exact ⟨_, _, _, _, _, rfl, .ty _, a, kit_ty b, q⟩
theorem is_str {K : PySem.W.Frag} {H : Hp} {x : V} {Q : VK} (h : Pl H x) (q : Q (.bl (isStr x)) H) : rIsi K [x, .ty "str"] H Q := by
  obtain ⟨t, a, _, _, b⟩ := h.ty (K := K)
  exact ⟨_, _, _, _, _, rfl, .ty _, a, kit_ty b, q⟩
theorem call_isInt : CallR X (.builtin "isinstance") (fun vs H Q => ∃ x, vs = [x, .ty "int"] ∧ Pl H x ∧ Q (.bl (isInt x)) H) := fun pins s σ H xs us Q I r q => by
  obtain ⟨x, rfl, h, q⟩ := q
  exact call_isi pins s σ H _ us Q I r (is_int h q)
theorem call_isBl : CallR X (.builtin "isinstance") (fun vs H Q => ∃ x, vs = [x, .ty "bool"] ∧ Pl H x ∧ Q (.bl (isBl x)) H) := fun pins s σ H xs us Q I r q => by
  obtain ⟨x, rfl, h, q⟩ := q
  exact call_isi pins s σ H _ us Q I r (is_bool h q)
theorem call_isStr : CallR X (.builtin "isinstance") (fun vs H Q => ∃ x, vs = [x, .ty "str"] ∧ Pl H x ∧ Q (.bl (isStr x)) H) := fun pins s σ H xs us Q I r q => by
  obtain ⟨x, rfl, h, q⟩ := q
  exact call_isi pins s σ H _ us Q I r (is_str h q)
theorem call_isLst : CallR X (.builtin "isinstance") (fun vs H Q => ∃ a xs, vs = [.ref a, .ty "list"] ∧ H a = some (.lst xs) ∧ Q (.bl true) H) := fun pins s σ H xs us Q I r q => by
  obtain ⟨a, ys, rfl, h, q⟩ := q
  exact call_isi pins s σ H _ us Q I r ⟨_, _, _, _, _, rfl, .ty _, .base (.lst h), kit_ty (by decide +kernel), q⟩
theorem call_isDct : CallR X (.builtin "isinstance") (fun vs H Q => ∃ a kvs, vs = [.ref a, .ty "dict"] ∧ H a = some (.dK kvs) ∧ Q (.bl true) H) := fun pins s σ H xs us Q I r q => by
  obtain ⟨a, ys, rfl, h, q⟩ := q
  exact call_isi pins s σ H _ us Q I r ⟨_, _, _, _, _, rfl, .ty _, .base (.dK h), kit_ty (by decide +kernel), q⟩
theorem call_isTup : CallR X (.builtin "isinstance") (fun vs H Q => ∃ a xs, vs = [.ref a, .ty "tuple"] ∧ H a = some (.tup xs) ∧ Q (.bl true) H) := fun pins s σ H xs us Q I r q => by
  obtain ⟨a, ys, rfl, h, q⟩ := q
  exact call_isi pins s σ H _ us Q I r ⟨_, _, _, _, _, rfl, .ty _, .base (.tup h), kit_ty (by decide +kernel), q⟩

/-! ### comprehensions: the new list, item by item -/
/-- the items of a text, of a range -/
def sgn (z : Str) : List V := z.cps.toList.map fun c => .str ⟨#[c]⟩
def rng (lo : Int) (n : Nat) : List V := (List.range n).map fun i => .int (lo + (i : Nat))
theorem walk_sgn {z : Str} : Walk (Its z) (sgn z).length (fun _ => True) (YAt (sgn z)) := by
  have e : (sgn z).length = z.cps.size := by simp [sgn]
  rw [e]
  refine ⟨fun i H hi _ => hi, fun _ _ => Nat.le_refl _, fun i H v H' hi _ y => ?_⟩
  obtain ⟨rfl, c, h1, rfl⟩ := y
  exact ⟨rfl, by simp [sgn, h1]⟩
theorem walk_rng {lo : Int} {n : Nat} : Walk (Itr lo n) (rng lo n).length (fun _ => True) (YAt (rng lo n)) := by
  have e : (rng lo n).length = n := by simp [rng]
  rw [e]
  refine ⟨fun i H hi _ => hi, fun _ _ => Nat.le_refl _, fun i H v H' hi _ y => ?_⟩
  obtain ⟨rfl, rfl⟩ := y
  exact ⟨rfl, by simp [rng, hi]⟩
theorem walk_ks {d : Addr} {o : Obj} {kvs : List (Key × V)} : Walk (Itk d o kvs) (kvs.map fun kv => kV kv.1).length (fun H => H d = some (.frz o (.dK kvs))) (YAt (kvs.map fun kv => kV kv.1)) := by
  rw [List.length_map]
  refine walk_keys.mono (fun _ h => h) fun i H x H' _ _ y => ?_
  obtain ⟨rfl, k, v, h1, rfl⟩ := y
  exact ⟨rfl, by simp [h1]⟩
theorem walk_vs {d : Addr} {o : Obj} {kvs : List (Key × V)} : Walk (Itd d o kvs) (kvs.map (·.2)).length (fun H => H d = some (.frz o (.dK kvs))) (YAt (kvs.map (·.2))) := by
  rw [List.length_map]
  refine walk_values.mono (fun _ h => h) fun i H x H' _ _ y => ?_
  obtain ⟨rfl, k, h1⟩ := y
  exact ⟨rfl, by simp [h1]⟩
/-- what a comprehension with one name wants behind its source -/
abbrev LcGoal (J : It) (g : TG) (tt : TT) (te : TE) (vs : List Nat) (σ : L2.St) (H1 : Hp) (D : Addr) (Qd : Hp → Prop) : Prop := ∃ W : Nat → Nat → Hp → Prop, (∃ m, W 0 m (upd H1 D (.lst []))) ∧ ∀ i m H, W i m H →
  (J.stop i H ∧ Qd H) ∨ (J.go i H ∧ ∃ Nx : Hp → Prop, (∀ H', Nx H' → ∃ m', m' < m ∧ W (i + 1) m' H') ∧ ∀ x H', J.yld i H x H' → g x (wipe σ vs) H' fun σ2 H2 => wipe σ2 vs = wipe σ vs ∧ tt σ2 H2 fun b H3 =>
    if b = true then te σ2 H3 fun y H4 => ∃ acc, H4 D = some (.lst acc) ∧ acc.length < sizeLine ∧ Nx (upd H4 D (.lst (acc ++ [y]))) else Nx H3)
theorem paired_snoc {α β : Type} {F : α → β → Prop} : ∀ {xs : List α} {ys : List β} {x : α} {y : β}, Paired F xs ys → F x y → Paired F (xs ++ [x]) (ys ++ [y])
  | _, _, _, _, .nil, h => .cons h .nil
  | _, _, _, _, .cons h t, h' => .cons h (paired_snoc t h')
theorem paired_len {α β : Type} {F : α → β → Prop} : ∀ {xs : List α} {ys : List β}, Paired F xs ys → xs.length = ys.length
  | _, _, .nil => rfl
  | _, _, .cons _ t => by simp [paired_len t]
theorem paired_fn {α β : Type} {g : α → β} : ∀ {xs : List α} {ys : List β}, Paired (fun x y => y = g x) xs ys → ys = xs.map g
  | _, _, .nil => rfl
  | _, _, .cons h t => by rw [h, paired_fn t]; rfl
theorem take_snoc {α : Type} {xs : List α} {i : Nat} {x : α} (h : xs[i]? = some x) : xs.take (i + 1) = xs.take i ++ [x] := by
  rw [List.take_add_one, h]; rfl
/-- all but lists are as they were -/
def NL (H H' : Hp) : Prop := ∀ b o, (∀ l, o ≠ .lst l) → H b = some o → H' b = some o
theorem Same.nl {H H' : Hp} (s : Same H H') : NL H H' := fun b o _ e => s b o e
theorem nl_upd {H : Hp} {D : Addr} {l l' : List V} (h : H D = some (.lst l)) : NL H (upd H D (.lst l')) := fun b o n e => by
  have : b ≠ D := fun z => by
    subst z
    rw [h] at e
    exact n l (Option.some.inj e).symm
  rw [upd_ne this]; exact e
theorem paired_imp {α β : Type} {F G : α → β → Prop} (h : ∀ a b, F a b → G a b) : ∀ {xs : List α} {ys : List β}, Paired F xs ys → Paired G xs ys
  | _, _, .nil => .nil
  | _, _, .cons a t => .cons (h _ _ a) (paired_imp h t)
/-- over items that stand, to one name: R tells what an element is made of its item -/
theorem lc_rel {J : It} {G : Hp → Prop} {xs : List V} (w : Walk J xs.length G (YAt xs)) {j : Nat} {tt : TT} {te : TE} {vs : List Nat} {σ : L2.St} {H1 : Hp} {D : Addr} {Qd : Hp → Prop} (nD : H1 D = none) (f : V → Bool) (R : V → V → Hp → Prop)
    (hR : ∀ x y H H', NL H H' → R x y H → R x y H') (hz : xs.length < sizeLine) (hw : ∀ x, wipe ((wipe σ vs).set j (some x)) vs = wipe σ vs) (hG : ∀ H, Same H1 H → G H)
    (ht : ∀ x ∈ xs, ∀ H, Same H1 H → ∀ Q' : Bool → Hp → Prop, (∀ H', Same H H' → Q' (f x) H') → tt ((wipe σ vs).set j (some x)) H Q')
    (he : ∀ x ∈ xs, f x = true → ∀ H, Same H1 H → ∀ Q' : VK, (∀ y H', Same H H' → R x y H' → Q' y H') → te ((wipe σ vs).set j (some x)) H Q')
    (q : ∀ H ys, Same H1 H → H D = some (.lst ys) → Paired (fun x y => R x y H) (xs.filter f) ys → Qd H) : LcGoal J (gName j) tt te vs σ H1 D Qd := by
  refine lc_it w (fun i H => Same H1 H ∧ ∃ ys, H D = some (.lst ys) ∧ Paired (fun x y => R x y H) ((xs.take i).filter f) ys) ⟨same_upd nD, [], upd_same, .nil⟩ (fun i H _ p => hG H p.1) ?_ ?_
  · rintro i x H H' hi ⟨s1, ys, hD, p⟩ ⟨rfl, hx⟩
    have hm : x ∈ xs := List.mem_of_getElem? hx
    refine ⟨hw x, ht x hm _ s1 _ fun H2 s2 => ?_⟩
    have p2 : Paired (fun x y => R x y H2) ((xs.take i).filter f) ys := paired_imp (fun a b h => hR a b _ _ (Same.nl s2) h) p
    cases e : f x with
    | false =>
      refine iteF ⟨s1.trans s2, ys, s2 _ _ hD, ?_⟩
      rw [take_snoc hx, List.filter_append, List.filter_cons, e]
      simpa using p2
    | true =>
      refine iteT (he x hm e _ (s1.trans s2) _ fun y H3 s3 r => ?_)
      have hD3 := s3 _ _ (s2 _ _ hD)
      have hl : ys.length < sizeLine := by
        rw [← paired_len p]
        exact Nat.lt_of_le_of_lt (Nat.le_trans (List.length_filter_le _ _) (by rw [List.length_take]; exact Nat.min_le_right _ _)) hz
      refine ⟨ys, hD3, hl, sm_mut ((s1.trans s2).trans s3) nD, _, upd_same, ?_⟩
      rw [take_snoc hx, List.filter_append, List.filter_cons, e]
      have n3 := nl_upd (l' := ys ++ [y]) hD3
      exact paired_snoc (paired_imp (fun a b h => hR a b _ _ n3 (hR a b _ _ (Same.nl s3) h)) p2) (hR _ _ _ _ n3 r)
  · rintro H ⟨s1, ys, hD, p⟩
    rw [List.take_length] at p
    exact q H ys s1 hD p
/-- .. where each element is a value of its item -/
theorem lc_pure {J : It} {G : Hp → Prop} {xs : List V} (w : Walk J xs.length G (YAt xs)) {j : Nat} {tt : TT} {te : TE} {vs : List Nat} {σ : L2.St} {H1 : Hp} {D : Addr} {Qd : Hp → Prop} (nD : H1 D = none) (f : V → Bool) (g : V → V)
    (hz : xs.length < sizeLine) (hw : ∀ x, wipe ((wipe σ vs).set j (some x)) vs = wipe σ vs) (hG : ∀ H, Same H1 H → G H)
    (ht : ∀ x ∈ xs, ∀ H, Same H1 H → ∀ Q' : Bool → Hp → Prop, (∀ H', Same H H' → Q' (f x) H') → tt ((wipe σ vs).set j (some x)) H Q')
    (he : ∀ x ∈ xs, f x = true → ∀ H, Same H1 H → ∀ Q' : VK, (∀ H', Same H H' → Q' (g x) H') → te ((wipe σ vs).set j (some x)) H Q')
    (q : ∀ H, Same H1 H → H D = some (.lst ((xs.filter f).map g)) → Qd H) : LcGoal J (gName j) tt te vs σ H1 D Qd :=
  lc_rel w nD f (fun x y _ => y = g x) (fun _ _ _ _ _ h => h) hz hw hG ht (fun x hm e H s Q' k => he x hm e H s Q' fun H' s' => k _ H' s' rfl) fun H ys s hD p => q H s (by rw [paired_fn p] at hD; exact hD)
/-- a comprehension without tests -/
def yes : V → Bool := fun _ => true
theorem filter_yes (xs : List V) : xs.filter yes = xs := List.filter_eq_self.mpr fun _ _ => rfl
theorem tt_yes {σ : L2.St} {H : Hp} {Q' : Bool → Hp → Prop} (x : V) (k : ∀ H', Same H H' → Q' (yes x) H') : tYes σ H Q' := k H (Same.refl H)
end

/-! ### == and != of data -/
def dV : V → PyData
  | .bl b => .bool b | .int i => .int i | .str z => .str z | _ => .none
def okV : V → Bool
  | .non => true | .bl _ => true | .int _ => true | .str z => PyData.strOk z | _ => false
section
variable {K : PySem.W.Frag} {H : Hp}
theorem dp_flat {x : V} (h : okV x = true) : Dp K H x (dV x) := by
  cases x <;> first | exact .non | exact .bl _ | exact .int _ | exact .str _ | exact absurd h (by simp [okV])
theorem dpAll_flat : ∀ {xs : List V}, (∀ x ∈ xs, okV x = true) → DpAll K H xs (xs.map dV)
  | [], _ => .nil
  | x :: r, h => .cons (dp_flat (h x List.mem_cons_self)) (dpAll_flat fun y hy => h y (List.mem_cons_of_mem _ hy))
theorem lay_flat {x : V} (h : okV x = true) : (dV x).canLay0 = true ∧ (dV x).depth ≤ 0 := by
  cases x with
  | str z => exact ⟨by simpa [dV, PyData.canLay0, okV] using h, by simp [dV, PyData.depth]⟩
  | non => exact ⟨by simp [dV, PyData.canLay0], by simp [dV, PyData.depth]⟩
  | bl b => exact ⟨by simp [dV, PyData.canLay0], by simp [dV, PyData.depth]⟩
  | int b => exact ⟨by simp [dV, PyData.canLay0], by simp [dV, PyData.depth]⟩
  | _ => exact absurd h (by simp [okV])
theorem lay_all {ds : List PyData} {n : Nat} : (∀ d ∈ ds, d.canLay0 = true ∧ d.depth ≤ n) → PyData.canLayAll0 ds = true ∧ PyData.depthAll ds ≤ n := by
  induction ds with
  | nil => intro _; exact ⟨by simp [PyData.canLayAll0], by simp [PyData.depthAll]⟩
  | cons d r ih =>
    intro h
    have h1 := h d List.mem_cons_self
    have h2 := ih fun e he => h e (List.mem_cons_of_mem _ he)
    simp only [PyData.canLayAll0, PyData.depthAll, h1.1, h2.1, Bool.and_self, true_and]
    have := h1.2; have := h2.2
    omega
theorem lay_list {ds : List PyData} {n : Nat} (h : ∀ d ∈ ds, d.canLay0 = true ∧ d.depth ≤ n) : (PyData.list ds).canLay0 = true ∧ (PyData.list ds).depth ≤ n + 1 := by
  have := lay_all h
  simp only [PyData.canLay0, PyData.depth, this.1, true_and]
  have := this.2
  omega
theorem lay_tup {ds : List PyData} {n : Nat} (h : ∀ d ∈ ds, d.canLay0 = true ∧ d.depth ≤ n) : (PyData.tuple ds).canLay0 = true ∧ (PyData.tuple ds).depth ≤ n + 1 := by
  have := lay_all h
  simp only [PyData.canLay0, PyData.depth, this.1, true_and]
  have := this.2
  omega
theorem shaped_of {d : PyData} {n : Nat} (h : d.canLay0 = true ∧ d.depth ≤ n) (hn : n ≤ 64) : SeqAt.shaped d = true := by
  simp only [SeqAt.shaped, h.1, Bool.true_and, decide_eq_true_eq]
  exact Nat.le_trans h.2 hn
/-- data at a value: told, and of a shape that == looks at -/
def Dat (K : PySem.W.Frag) (H : Hp) (x : V) (d : PyData) (n : Nat) : Prop := Dp K H x d ∧ d.canLay0 = true ∧ d.depth ≤ n
theorem dat_flat {x : V} (h : okV x = true) : Dat K H x (dV x) 0 := ⟨dp_flat h, lay_flat h⟩
theorem dat_lst {a : Addr} {xs : List V} (e : SqL K H a xs) (h : ∀ x ∈ xs, okV x = true) : Dat K H (.ref a) (.list (xs.map dV)) 1 :=
  ⟨.lst e (dpAll_flat h), lay_list fun d hd => by
    obtain ⟨x, hx, rfl⟩ := List.mem_map.mp hd
    exact lay_flat (h x hx)⟩
theorem dat_tup {a : Addr} {xs : List V} (e : SqT K H a xs) (h : ∀ x ∈ xs, okV x = true) : Dat K H (.ref a) (.tuple (xs.map dV)) 1 :=
  ⟨.tup e (dpAll_flat h), lay_tup fun d hd => by
    obtain ⟨x, hx, rfl⟩ := List.mem_map.mp hd
    exact lay_flat (h x hx)⟩
theorem dat_lstD {a : Addr} {xs : List V} {ds : List PyData} {n : Nat} (e : SqL K H a xs) (h : Paired (fun x d => Dat K H x d n) xs ds) : Dat K H (.ref a) (.list ds) (n + 1) := by
  have k : DpAll K H xs ds ∧ ∀ d ∈ ds, d.canLay0 = true ∧ d.depth ≤ n := by
    clear e
    induction h with
    | nil => exact ⟨.nil, fun d hd => by cases hd⟩
    | cons h1 _ ih => exact ⟨.cons h1.1 ih.1, fun d hd => by
        rcases List.mem_cons.mp hd with rfl | hd
        · exact h1.2
        · exact ih.2 d hd⟩
  exact ⟨.lst e k.1, lay_list k.2⟩
theorem eqD_same {x y : V} {d : PyData} {n : Nat} {Q : VK} (hx : Dat K H x d n) (hy : Dat K H y d n) (hn : n ≤ 64) (q : Q (.bl true) H) : rEqD K x y H Q := by
  refine ⟨d, d, hx.1, hy.1, shaped_of hx.2 hn, shaped_of hx.2 hn, ?_⟩
  rw [SeqAt.eqv_refl _ hx.2.1]; exact q
theorem neD_same {x y : V} {d : PyData} {n : Nat} {Q : VK} (hx : Dat K H x d n) (hy : Dat K H y d n) (hn : n ≤ 64) (q : Q (.bl false) H) : rNeD K x y H Q := by
  refine ⟨d, d, hx.1, hy.1, shaped_of hx.2 hn, shaped_of hx.2 hn, ?_⟩
  rw [SeqAt.eqv_refl _ hx.2.1]; exact q
theorem eqv_nil (ds : List PyData) : PyData.eqv (.list ds) (.list []) = ds.isEmpty := by
  cases ds <;> simp [PyData.eqv, PyData.eqvAll]
/-- .. with the empty list -/
theorem eqD_nil {x : V} {b : Addr} {ds : List PyData} {n : Nat} {Q : VK} (hx : Dat K H x (.list ds) n) (hb : H b = some (.lst [])) (hn : n ≤ 64) (q : Q (.bl ds.isEmpty) H) : rEqD K x (.ref b) H Q := by
  have hy := dat_lst (K := K) (xs := []) (.inl (.inl hb)) (fun x h => by cases h)
  refine ⟨_, _, hx.1, hy.1, shaped_of hx.2 hn, shaped_of hy.2 (by decide), ?_⟩
  rw [List.map_nil, eqv_nil]; exact q
theorem neD_nil {x : V} {b : Addr} {ds : List PyData} {n : Nat} {Q : VK} (hx : Dat K H x (.list ds) n) (hb : H b = some (.lst [])) (hn : n ≤ 64) (q : Q (.bl !ds.isEmpty) H) : rNeD K x (.ref b) H Q := by
  have hy := dat_lst (K := K) (xs := []) (.inl (.inl hb)) (fun x h => by cases h)
  refine ⟨_, _, hx.1, hy.1, shaped_of hx.2 hn, shaped_of hy.2 (by decide), ?_⟩
  rw [List.map_nil, eqv_nil]; exact q
end
/-! ### texts -/
/-- a text's signs are signs -/
theorem okS_iff {z : Str} : PyData.strOk z = true ↔ ∀ c ∈ z.cps.toList, c < 1114112 := by
  show (z.cps.all fun c => decide (c < 1114112)) = true ↔ _
  rw [← Array.all_toList, List.all_eq_true]
  simp only [decide_eq_true_eq]
theorem okS_append {a b : Str} (ha : PyData.strOk a = true) (hb : PyData.strOk b = true) : PyData.strOk (a ++ b) = true := by
  rw [okS_iff] at *
  intro c hc
  have : (a ++ b).cps.toList = a.cps.toList ++ b.cps.toList := by rw [Str.cps_append, Array.toList_append]
  rw [this] at hc
  rcases List.mem_append.mp hc with h | h
  · exact ha c h
  · exact hb c h
theorem okS_cut {z : Str} (h : PyData.strOk z = true) (lo hi : Option Int) : PyData.strOk (cutS z lo hi) = true := by
  rw [okS_iff] at *
  intro c hc
  have : c ∈ ((z.cps.toList.drop (HT.sIx z.length 0 lo)).take (HT.sIx z.length z.length hi - HT.sIx z.length 0 lo)) := by simpa [cutS] using hc
  exact h c (List.mem_of_mem_drop (List.mem_of_mem_take this))
theorem okS_join {s : Str} (hs : PyData.strOk s = true) : ∀ {ys : List Str}, (∀ y ∈ ys, PyData.strOk y = true) → PyData.strOk (Txt.join s ys) = true := by
  intro ys h
  have e : Txt.join s ys = Str.join s ys := StrLaws.glued_eq_join s ys
  rw [e]
  induction ys with
  | nil => exact okS_iff.mpr fun c hc => by simp [Str.join, Str.empty] at hc
  | cons y r ih =>
    cases r with
    | nil => exact h y List.mem_cons_self
    | cons z r => exact okS_append (okS_append (h y List.mem_cons_self) hs) (ih (fun w hw => h w (List.mem_cons_of_mem _ hw)) (StrLaws.glued_eq_join s _))
theorem okS_one {c : Nat} (h : c < 1114112) : PyData.strOk ⟨#[c]⟩ = true := by
  rw [okS_iff]; intro d hd
  have : d = c := by simpa using hd
  omega
theorem len_join (s : Str) (ys : List Str) : (Txt.join s ys).length = (ys.map (·.length)).sum + (ys.length - 1) * s.length := size_glued s ys
section
variable {X : Cx}
/-- text * number -/
theorem op_muls : OpR X (binaryOp .Mult) (fun x y H Q => ∃ (z : Str) (n : Int), x = .str z ∧ y = .int n ∧ z.length ≤ 1000 ∧ 0 ≤ n ∧ n ≤ 1000 ∧ Q (.str (Txt.mul z n)) H) := by
  intro pins s σ H x y v u Q I rx ry h
  obtain ⟨z, n, rfl, rfl, hz, h0, h1, q⟩ := h
  obtain ⟨t, rfl⟩ := rx
  obtain ⟨k, rfl⟩ := ry
  refine SB.mul ⟨?_, ?_, ?_⟩ fun t' k => ⟨.str _, H, I.tok _, ⟨_, rfl⟩, q⟩
  · simp only [Bool.or_eq_false_iff, decide_eq_false_iff_not]; omega
  · intro h2 _ h3
    have : (9223372036854775807 : Int) / 1000 ≤ (2 ^ 63 - 1) / n := by
      refine Int.le_ediv_of_mul_le (by omega) ?_
      omega
    omega
  · intro _ _
    have : z.length * n.toNat ≤ 1000 * 1000 := Nat.mul_le_mul hz (by omega)
    simp only [Builtin.Str.tooLong, decide_eq_false_iff_not, sizeLine_eq]
    omega
end

/-! ### list.count of flat items -/
section
variable {X : Cx}
def rCntF (K : PySem.W.Frag) : V → List V → Hp → VK → Prop := fun x xs H Q => ∃ (a : Addr) (ys : List V) (y : V), x = V.ref a ∧ xs = [y] ∧ SqL K H a ys ∧ flatV y = true ∧ ys.all flatV = true ∧ Q (.int ((ys.countP fun z => eqV z y : Nat) : Int)) H
theorem count_flat {y : V} : ∀ {ys : List V} {us : List Value}, Vals ys us → ys.all flatV = true → us.countP (eqU y) = ys.countP fun z => eqV z y
  | _, _, .nil, _ => rfl
  | _, _, .cons r t, f => by
    obtain ⟨f1, f2⟩ := Bool.and_eq_true_iff.mp (by simpa only [List.all_cons] using f)
    have ih := count_flat (y := y) t f2
    have e : eqU y _ = eqV _ y := eqU_of r f1
    rw [List.countP_cons, List.countP_cons, ih, e]
theorem mt_lcountF : MtR X "list.count" (rCntF X.K) := by
  intro pins s σ H x xs v us Q I rx rxs h
  obtain ⟨a, ys, y, rfl, rfl, hs, fy, fys, q⟩ := h
  cases rx
  cases rxs with
  | cons ry rt =>
    rename_i uy ut
    cases rt
    obtain ⟨its, rv, ⟨⟨cls, dd, data, sl⟩, n, ho, hc, hdn, hd⟩, hlen⟩ := I.list hs
    simp only at hc hd
    subst hc hd
    refine call_meets PySem.F.slot_list_count ⟨_, ho, rfl⟩ PySem.F.entry_list_count (PySem.F.args_list_count_2 _ _)
      (SeqAt.list_countAt a its.toArray n dd sl uy (eqU y)) ⟨ho, fun u' hu' => mem_eqAt ry fy rv fys u' (by simpa using hu'), ?_⟩
    have ec : its.toArray.toList.countP (eqU y) = ys.countP fun z => eqV z y := count_flat rv fys
    refine ⟨.int ((ys.countP fun z => eqV z y : Nat) : Int), H, I.tok _, ⟨s.toks, ?_⟩, q⟩
    show Value.int ((its.toArray.toList.countP (eqU y) : Nat) : Int) s.toks = Value.int ((ys.countP fun z => eqV z y : Nat) : Int) s.toks
    rw [ec]
end
/-! ### a caught exception, kept behind its suite -/
/-- an exception object of the class cls, its own dict d, at a -/
def XO (cls : Value) (d : Option Addr) (a : Addr) : HO := .ext fun h => ∃ (oe : Obj) (vs : Array Value), h.get? a = some oe ∧ Zc cls d oe ∧ oe.data = .fields vs
theorem xo_ok {P : Program} {w : World} {H : Hp} {h : Heap} {a : Addr} {cls : Value} {d : Option Addr} {oe : Obj} {vs : Array Value} (e : h.get? a = some oe) (z : Zc cls d oe) (hd : oe.data = .fields vs) : ObjOk P w H h a (XO cls d a) :=
  ⟨⟨oe, vs, e, z, hd⟩, ⟨oe, e⟩, fun _ _ ⟨o, v, q, r⟩ k => ⟨o, v, k o q, r⟩⟩
theorem HOk.track {P : Program} {w : World} {H : Hp} {h : Heap} {a : Addr} {o : HO} (x : HOk P w H h) (hn : H a = none) (new : ObjOk P w (upd H a o) h a o) : HOk P w (upd H a o) h := fun b u e => by
  by_cases hb : b = a
  · subst hb
    rw [upd_same] at e
    cases e
    exact new
  · rw [upd_ne hb] at e
    exact (x b u e).stay (fun c v _ q => q) (fun c q => by rw [upd_ne (ne_of_none q hn)]; exact q) fun c xs q => by rw [upd_ne (ne_of_none q hn)]; exact q
section
variable {X : Cx} {pins : List (Addr × Obj)} {σ : L2.St} {H : Hp} {s sI s' : Shared} {B : Heap} {a : Addr} {o : HO}
/-- back on the ground, the exception tracked -/
theorem landedX (I : Inv X pins σ H sI) (nb : ∀ b o, sI.heap.get? b = some o → b ∉ frs X.stack → B.get? b = some o) (st : B.StaysIn s'.heap) (up : sI.heap.UpToSlots s'.heap) (os : s'.os = sI.os) (ag : AllBare s'.gens)
    (na : H a = none) (nI : sI.heap.get? a = none) (new : ObjOk X.prog X.w (upd H a o) s'.heap a o) : Inv X pins σ (upd H a o) s' := by
  have nf : ∀ b ∈ frs X.stack, ∀ o, sI.heap.get? b = some o → ∃ sl, s'.heap.get? b = some { o with slots := sl } := fun b hb o e => by
    obtain ⟨_, o', e', hd⟩ := I.stack.mem hb
    rw [e] at e'; cases e'
    exact up b o e hd
  have J := I.call (ch := []) (h' := s'.heap) (g' := s'.gens) (t' := s'.toks) (d' := s'.drawn) (H' := upd H a o)
    ⟨fun b o e _ hb _ => st b o (nb b o e hb), fun b o e _ hb _ => nf b hb o e, fun b o e n _ => by rw [upd_ne fun (z : b = a) => by rw [z, nI] at e; cases e]; exact n, fun b o e _ => by
      by_cases hb : b ∈ frs X.stack
      · obtain ⟨sl, q⟩ := nf b hb o e
        exact ⟨_, q⟩
      · exact ⟨o, st b o (nb b o e hb)⟩, fun b xs e => by rw [upd_ne (ne_of_none e na)]; exact e, fun b u v e => by rw [upd_ne (ne_of_none e na)]; exact e, fun b ps e => ⟨#[], by rw [upd_ne (ne_of_none e na), e]; simp⟩⟩
    (HOk.track ((I.inGround nb).kept st) na new) ag (fun _ z => nomatch z)
  obtain ⟨a1, a2, a3, a4, a5⟩ := s'
  have e5 : a5 = sI.os := os
  subst e5
  exact J
theorem toSuite (I : Inv X pins σ H s) (a : Addr) : Inv (X.suite a (X.pn ++ pins)) [] σ H s :=
  ⟨I.ok.suite _ _, I.os, I.bare, I.base, I.loc, I.cell, I.free, I.freeC, fun p hp => I.pin p (by rw [List.append_nil] at hp; exact hp), I.hok, I.len⟩
theorem unSuite {pn' : List (Addr × Obj)} (I : Inv (X.suite a (X.pn ++ pins)) pn' σ H s) (ok : X.Ok) : Inv X pins σ H s :=
  ⟨ok, I.os, I.bare, I.base, I.loc, I.cell, I.free, I.freeC, fun p hp => I.pin p (List.mem_append_left _ hp), I.hok, I.len⟩
end
/-- what the clause 'except x as n: m = n' wishes: the error stands tracked, m is it -/
def wKeep (K : PySem.W.Frag) (c : Value) (i : Nat) (ts : Addr → Value → Option Addr → TS) (Wout : WX) (D : Ends) : WX := fun cls d σ H =>
  ∃ b, PySem.W.exmOne K cls c = some b ∧ (b = true → ∀ a, H a = none → ts a cls d { nx := fun σ' H' => D.nx (σ'.set i none) H', rt := D.rt, bk := fun σ' H' => D.bk (σ'.set i none) H', ct := fun σ' H' => D.ct (σ'.set i none) H' } (σ.set i (some (.ref a))) (upd H a (XO cls d a))) ∧
    (b = false → Wout cls d σ H)
section
variable {X : Cx} {x n : Str} {c : Value} {i : Nat} {body suite : List Stmt} {b₀ : Stmt} {np pos pos' : Pos} {tb : WX → TS} {ts : Addr → Value → Option Addr → TS} {Wout : WX}
theorem ps_try_keep (hs : X.stack = X.env :: X.outer) (hf : X.env.frame = some X.env.locals) (hN : X.N.Nodup) (hi : X.N[i]? = some n) (hln : X.env.kindOf n = some .local) (hc : Names X x c) (tk : Takes X Wout)
    (hb : ∀ (W : WX) (pn : List (Addr × Obj)) (xe : Value → Shared → Prop), Takes (X.tr pn xe) W → PassesOwn (model X.prog X.w) X.A X.env xe → PSs (X.tr pn xe) body (tb W))
    (hsu : ∀ (a : Addr) (cls : Value) (d : Option Addr) (pn : List (Addr × Obj)), PSs (X.suite a pn) (b₀ :: suite) (ts a cls d)) :
    PS X (.Try body [.ExceptHandler (some (.Name x np)) (some n) (b₀ :: suite) pos'] [] [] pos) (fun D σ H => tb (wKeep X.K c i ts Wout D) D σ H) := by
  refine ⟨fun pins s σ H D I h => ?_⟩
  have ok := I.ok
  have hfr : X.A.frames = some (X.env :: X.outer) := by rw [ok.frames, hs]
  have hloc : Loc X.env.scope n := .inl hln
  refine wpAny_Try_except ?_
  refine wpAny_mono ((hb (wKeep X.K c i ts Wout D) (X.pn ++ pins) (fun e s₁ => wpAny (model X.prog X.w) X.A (noteFrame e X.env) (fun _ s₂ => wpAny (model X.prog X.w) X.A (setFlight e none) (fun _ s₃ =>
    wpAny (model X.prog X.w) X.A (handleBy e X.env [.ExceptHandler (some (.Name x np)) (some n) (b₀ :: suite) pos']) (SP X pins D) X.xe s₃) X.xe s₂) X.xe s₁) (fun u s' xx => ?_) PassesOwn.looking).run [] s σ H D (I.toTry _) h) (fun f s1 hsp => ?_) (fun e s1 he => he)
  · -- the catch
    obtain ⟨a, B, sI, pins', σ', H', cls, d, rfl, J', nb, up, sky, na, os, ag, b, hb1, hyes, hno⟩ := xx
    have J : Inv X pins σ' H' sI := J'.ofTry ok
    have sky' : Sky B (X.env :: X.outer) a (Zc cls d) X.env.locals s'.heap := by rw [← hs]; exact sky
    show wpAny (model X.prog X.w) X.A (noteFrame (.ref a) X.env) _ _ _
    refine Sky.land Zc.steady hfr hf sky' fun h3 fl3 up3 => ?_
    have J3 : Inv X pins σ' H' { s' with heap := h3 } := J.landed nb fl3.1 (up.trans up3) os ag
    obtain ⟨oe3, vs3, he3, hz3, hd3⟩ := fl3.there
    have notFr : ∀ {h : Heap} {o : Obj} {vs : Array Value}, h.FunFrames B (X.env :: X.outer) → h.get? a = some o → o.data = .fields vs → a ∉ frs (X.env :: X.outer) := fun {h o vs} ff e dd hm => by
      obtain ⟨_, o', e', hnf⟩ := ff.mem hm
      rw [e] at e'; cases e'
      exact hnf _ dd
    have nfr := notFr fl3.2.2.1 he3 hd3
    have nL : a ≠ X.env.locals := fun z => nfr (List.mem_filterMap.mpr ⟨X.env, List.mem_cons_self, by rw [hf, z]⟩)
    have nF : a ∉ X.fs := fun hm => by
      obtain ⟨e, he, q⟩ := List.mem_filterMap.mp hm
      exact nfr (List.mem_filterMap.mpr ⟨e, List.mem_cons_of_mem _ he, q⟩)
    have nI : sI.heap.get? a = none := by
      cases e : sI.heap.get? a with
      | none => rfl
      | some o =>
        have := nb a o e (by rw [hs]; exact nfr)
        rw [fl3.2.1] at this; cases this
    have S3 := J3.suite he3 hd3 na nL nF
    refine wpAny_handleBy_cons (codeAny_handlers_test ?_) (by intro q; cases q)
    have LT : PySem.W.Looks (model X.prog X.w) h3 (typeOf (.ref a)) cls := fun A Q E s k q => wpAny_typeOf_ref (k _ _ he3) (by rw [hz3.1]; exact q)
    have LM := PySem.W.exm_one (M := model X.prog X.w) (J3.kIn) LT hb1
    have test : ∀ {Q : Value → Shared → Prop} {E : Value → Shared → Prop}, Q c { s' with heap := h3 } → wpAny (model X.prog X.w) (X.A.mark (some (.ref a))) (eval (.Name x np) X.env) Q E { s' with heap := h3 } := fun {Q E} q => by
      obtain ⟨hg, hdbg, hm | ⟨hm, hv, hnn⟩⟩ := hc
      · exact ld_glob (X := X.suite a ((a, oe3) :: (X.pn ++ pins))) S3 hg hm q hdbg
      · exact ld_blt (X := X.suite a ((a, oe3) :: (X.pn ++ pins))) S3 hg hm hv q hnn hdbg
    refine test (LM.here ?_)
    cases b with
    | true =>
      refine codeAny_handlers_suite_as ?_
      refine HandSPX.lands_againZ fl3 fun h4 fl4 up4 => ?_
      obtain ⟨oe4, vs4, he4, hz4, hd4⟩ := fl4.there
      have J4 : Inv X pins σ' (upd H' a (XO cls d a)) { s' with heap := h4 } := landedX J nb fl4.1 ((up.trans up3).trans up4) os ag na nI (xo_ok he4 hz4 hd4)
      have S4 := toSuite J4 a
      refine store_ok (X := X.suite a (X.pn ++ pins)) (v := .ref a) S4 hN hi hloc rfl (fun s5 S5 => ?_) (.inr hln)
      refine wpAny_mono ((hsu a cls d (X.pn ++ pins)).run [] s5 _ (upd H' a (XO cls d a)) _ S5 (hyes rfl a na)) (fun f s6 hsp => ?_) (fun _ _ z => False.elim z)
      have end_ : ∀ {σ6 : L2.St} {H6 : Hp} {Q : Shared → Prop}, Inv (X.suite a (X.pn ++ pins)) [] σ6 H6 s6 → (∀ s7, Inv X pins (σ6.set i none) H6 s7 → Q s7) →
          wpAny (model X.prog X.w) X.A (do bindName X.env n .none; unbindBehindTheSuite X.env n pos') (fun _ s7 => Q s7) X.xe s6 := fun {σ6 H6 Q} S6 hq => gone_ok (unSuite S6 ok) hN hi hln hq
      cases f with
      | next =>
        obtain ⟨σ6, H6, S6, q6⟩ := hsp
        exact end_ S6 fun s7 J7 => ⟨_, _, J7, q6⟩
      | brk =>
        obtain ⟨σ6, H6, S6, q6⟩ := hsp
        exact end_ S6 fun s7 J7 => ⟨_, _, J7, q6⟩
      | cont =>
        obtain ⟨σ6, H6, S6, q6⟩ := hsp
        exact end_ S6 fun s7 J7 => ⟨_, _, J7, q6⟩
      | ret u =>
        obtain ⟨v6, σ6, H6, S6, r6, q6⟩ := hsp
        exact end_ S6 fun s7 J7 => ⟨_, _, _, J7, r6, q6⟩
    | false =>
      show wpAny _ X.A (handleBy (.ref a) X.env []) _ _ _
      refine wpAny_handleBy_nil ?_
      obtain ⟨k1, k2, k3, oe, vs, T, oT, ts', he, hz, hd, h1, hr⟩ := id fl3
      unfold PySem.passOn
      refine wpAny_bind (wpAny_field he hd h1 ?_)
      rw [if_neg (show ¬ ((Value.ref T == Value.none) = true) from by simp)]
      have fin : wpAny (model X.prog X.w) X.A (setFlight (.ref a) X.env.frame) (fun _ s4 => wpAny (model X.prog X.w) X.A (throw (.ref a) : Sem Flow) (SP X pins D) X.xe s4) X.xe { s' with heap := h3 } := by
        rw [hf]
        refine HandSPX.setFlight_upZ fl3 fun h4 hh4 up4 => wpAny_throw (tk _ _ ?_)
        exact ⟨a, B, sI, pins, σ', H', cls, d, rfl, J, nb, (up.trans up3).trans up4, .inr (.inr (by rw [hs]; exact hh4)), na, os, ag, hno rfl⟩
      first
        | exact wpAny_bind (wpAny_pure (wpAny_bind fin))
        | exact wpAny_bind fin
  · cases f with
    | next =>
      obtain ⟨σ', H', J', q⟩ := hsp
      exact wpAny_execs_nil ⟨σ', H', J'.ofTry ok, q⟩
    | brk =>
      obtain ⟨σ', H', J', q⟩ := hsp
      exact ⟨σ', H', J'.ofTry ok, q⟩
    | cont =>
      obtain ⟨σ', H', J', q⟩ := hsp
      exact ⟨σ', H', J'.ofTry ok, q⟩
    | ret u =>
      obtain ⟨v, σ', H', J', r, q⟩ := hsp
      exact ⟨v, σ', H', J'.ofTry ok, r, q⟩
end
/-! ### isinstance of it -/
/-- what an error's class tells: its own, of the base B, of others -/
structure ErC (K : PySem.W.Frag) (D B : Addr) (ks : List (Addr × Bool)) : Prop where
  c : ExcC K D
  v : PySem.W.kitOne K (.ref D) (.type "ValueError") = some true
  m : PySem.W.exmOne K (.ref D) (.ref B) = some true
  k : ∀ x ∈ ks, PySem.W.kitOne K (.ref D) (.ref x.1) = some x.2
def erB (K : PySem.W.Frag) (D B : Addr) (ks : List (Addr × Bool)) : Bool :=
  He.eqO (PySem.W.findIn K (.ref D) "__getattribute__") (some (some (.builtin "BaseException.__getattribute__"))) && (He.eqO (PySem.W.findIn K (.ref D) "__getattr__") (some none) && (decide (PySem.W.subIn K (.ref D) (.type "BaseException") = some true) && (PySem.W.hasDictIn K D && (
  He.eqO (PySem.W.findIn K (.ref D) "__class__") (some (some (.builtin "object.__class__"))) && (He.eqO (PySem.W.specialIn K (.builtin "object.__class__") "__get__") (some (some (.builtin "getset_descriptor.__get__"))) && (decide (PySem.W.takesIn K (.builtin "object.__class__") = some true) && (decide (PySem.W.mroIn K D (.type "object") = some true) && (
  decide (PySem.W.kitOne K (.ref D) (.type "ValueError") = some true) && (decide (PySem.W.exmOne K (.ref D) (.ref B) = some true) && ks.all fun x => decide (PySem.W.kitOne K (.ref D) (.ref x.1) = some x.2))))))))))
theorem erB_ok {K : PySem.W.Frag} {D B : Addr} {ks : List (Addr × Bool)} (h : erB K D B ks = true) : ErC K D B ks := by
  obtain ⟨a1, h⟩ := He.ba h
  obtain ⟨a2, h⟩ := He.ba h
  obtain ⟨a3, h⟩ := He.ba h
  obtain ⟨a4, h⟩ := He.ba h
  obtain ⟨a5, h⟩ := He.ba h
  obtain ⟨a6, h⟩ := He.ba h
  obtain ⟨a7, h⟩ := He.ba h
  obtain ⟨a8, h⟩ := He.ba h
  obtain ⟨a9, h⟩ := He.ba h
  obtain ⟨a10, h⟩ := He.ba h
  exact ⟨⟨He.eqO_ok a1, He.eqO_ok a2, of_decide_eq_true a3, a4, He.eqO_ok a5, He.eqO_ok a6, of_decide_eq_true a7, of_decide_eq_true a8⟩, of_decide_eq_true a9, of_decide_eq_true a10, fun x hx => of_decide_eq_true (List.all_eq_true.mp h x hx)⟩
/-- isinstance(e, c), e an error that stands -/
def rIsX (K : PySem.W.Frag) : List V → Hp → VK → Prop := fun xs H Q => ∃ (a D : Addr) (c : V) (cv : Value) (b : Bool), xs = [.ref a, c] ∧ H a = some (XO (.ref D) none a) ∧ ExcC K D ∧ (∀ u, RelV c u → u = cv) ∧ PySem.W.kitOne K (.ref D) cv = some b ∧ Q (.bl b) H
theorem call_isX {X : Cx} : CallR X (.builtin "isinstance") (rIsX X.K) := by
  intro pins s σ H xs us Q I r h
  obtain ⟨a, D, c, cv, b, rfl, ha, C, hcv, e, q⟩ := h
  cases r with
  | cons rx rr =>
    cases rr with
    | cons rt rr =>
      cases rr
      cases rx
      have ec := hcv _ rt
      subst ec
      obtain ⟨⟨oe, vs, hget, hz, hv⟩, _, _⟩ := I.hok a _ ha
      have J : PySem.W.InstAt s.heap a oe D none := by
        obtain ⟨oc, od, oda, osl⟩ := oe
        obtain ⟨h1, h2⟩ := hz
        dsimp only at h1 h2 hv
        subst h1 h2 hv
        exact ⟨hget, rfl, rfl, trivial⟩
      exact PySem.W.kia_one (PySem.W.handS_kitx_exc C.hg C.hk C.hs C.hd C.ha C.hn C.ht C.hm) I.kIn J e (fun z => nomatch z) fun tk => ⟨.bl b, H, I.kept (t' := tk) fun _ _ z => z, rfl, q⟩
/-! ### the head, with facts of one's own -/
def obsX (fa : List He.Fa) (fn : List He.DefD) (ex : List (PySem.W.Frag → Bool)) (K : PySem.W.Frag) : He.AlD := (((fa.all fun f => f.ok K) && fn.all fun d => d.ok K) && ex.all fun p => p K, fn.map fun d => He.fnW K d.at_)
def obsXG (n : Nat) (fa : List He.Fa) (fn : List He.DefD) (ex : List (PySem.W.Frag → Bool)) (g : Addr → Option Obj) : He.AlD := obsX fa fn ex (He.frG g (He.asD g n))
structure SaysX (fa : List He.Fa) (fn : List He.DefD) (ex : List (PySem.W.Frag → Bool)) (K : PySem.W.Frag) : Prop where
  c : He.SaysD fa fn K
  x : ∀ p ∈ ex, p K = true
theorem saysX_of {fa : List He.Fa} {fn : List He.DefD} {ex : List (PySem.W.Frag → Bool)} {K : PySem.W.Frag} (h : obsX fa fn ex K = He.valD fn) : SaysX fa fn ex K := by
  have h1 : (((fa.all fun f => f.ok K) && fn.all fun d => d.ok K) && ex.all fun p => p K) = true := congrArg (fun z : He.AlD => z.1) h
  have h2 : (fn.map fun d => He.fnW K d.at_) = fn.map He.DefD.val := congrArg (fun z : He.AlD => z.2) h
  obtain ⟨a, b⟩ := He.ba h1
  exact ⟨Prod.ext a h2, fun p hp => List.all_eq_true.mp b p hp⟩
def hookX (n : Nat) (fa : List He.Fa) (fn : List He.DefD) (ex : List (PySem.W.Frag → Bool)) : PySem.W.Hook where
  α := He.AlD
  obs := fun s => obsXG n fa fn ex s.heap.get?
  val := fun _ => He.valD fn
  says := fun _ h => ∃ K : PySem.W.Frag, K.In h ∧ SaysX fa fn ex K
  of := fun _ _ e => ⟨_, He.frG_in, saysX_of e⟩
  keeps := fun _ _ _ ⟨K, hK, c⟩ k => ⟨K, PySem.W.Frag.In.keeps hK k, c⟩
theorem obsXG_eq {n : Nat} {fa : List He.Fa} {fn : List He.DefD} {ex : List (PySem.W.Frag → Bool)} {g : Addr → Option Obj} {s : Shared} (h : ∀ a, g a = s.heap.get? a) : obsXG n fa fn ex g = (hookX n fa fn ex).obs s := by
  have e : g = s.heap.get? := funext h
  rw [e] <;> rfl
/-! ### calls within a try -/
theorem takesF {X : Cx} : Takes X (fun _ _ _ _ => False) := fun _ _ x => by
  obtain ⟨_, _, _, _, _, _, _, _, _, _, _, _, _, _, _, _, z⟩ := x
  exact z.elim
theorem ps_absurd {X : Cx} {st : Stmt} : PS X st (fun _ _ _ => False) := ⟨fun _ _ _ _ _ _ h => h.elim⟩
section
variable {X : Cx} {k : Nat} {x m : Str} {ps : List Str} {sp : Sp} {dvs : List V} {W : WX} {p pos apos : Pos} {e o : Expr} {es : List Expr} {ta : TE} {t : TA} {C : Addr}
def tFnE (sp : Sp) (E : L2.St → XK) (t : TA) : TE := fun σ H Q => t σ H fun vs H1 => sp vs H1 Q (E σ)
theorem pe_fnS (D : Def X.prog X.w X.K X.mg X.base k x ps sp) (hr : Room k X.A) (hg : Gl X x) (tk : Takes X W) (ha : PA X (e :: es) t)
    (hdb : (x == ("__debug__" : Str)) = false := by decide) (he : starEach (e :: es) X.env = (false, eval e X.env) :: starEach es X.env := by rfl) (hpl : (backTo pos (starEach es X.env)).any (·.1) = false := by rfl) :
    PE X (.Call (.Name x p) (e :: es) [] pos) (tFnE sp (WE W) t) := by
  obtain ⟨f, fd, hm, hk, F, hb⟩ := D.ex
  exact pe_callS F hr hg hm hk hb (fun σ => passAt tk σ) ha hdb he hpl
def tMtE (C : Addr) (m : Str) (sp : Sp) (dvs : List V) (E : L2.St → XK) (ta : TE) (t : TA) : TE := fun σ H Q => ta σ H fun x H1 => ∃ a dx fs, x = .ref a ∧ H1 a = some (.ins C dx fs) ∧ fs.lookup m = none ∧ t σ H1 fun vs H2 => sp (x :: (vs ++ dvs)) H2 Q (E σ)
theorem pe_mtS {pl : Sem Bool} (c : Cls X.K C) (D : MDef X.prog X.w X.K X.mg X.base C k m ps dvs sp) (hr : Room k X.A) (tk : Takes X W) (he : PE X o ta) (ha : PA X (e :: es) t)
    (hst : starEach (e :: es) X.env = (false, eval e X.env) :: starEach es X.env := by rfl) (hpl : (backTo pos (starEach es X.env)).any (·.1) = false := by rfl)
    (ht : eval (.Call (.Attribute o m apos) (e :: es) [] pos) X.env = (do
      let ov ← eval o X.env
      standAt apos.atName
      let (f, first) ← holding [ov] (getMethod ov m pl)
      callWith pos f first (backTo pos (starEach (e :: es) X.env)) (backToKw pos (keywordEach [] X.env))) := by rfl) :
    PE X (.Call (.Attribute o m apos) (e :: es) [] pos) (tMtE C m sp dvs (WE W) ta t) := by
  obtain ⟨f, fd, ds, hm, F, hb, hd⟩ := D.ex
  refine ⟨fun pins s σ H Q I h => ?_⟩
  refine PySem.W.methodCall_KW (pl := pl) (thn (he.run pins s σ H _ I h) fun u s1 ⟨x, H1, I1, rx, a, dx, fs, ex, ea, l, q⟩ => ?_) ht
  subst ex
  obtain rfl : u = Value.ref a := rx
  refine getmeth_ok I1 ea c hm l ?_
  refine PySem.W.callWith_K (first := [.ref a]) (h₀ := X.base) I.ok.mod.kin hm.kp (thn (ha.run pos pins s1 σ H1 _ I1 q) fun us s2 ⟨vs, H2, I2, r, q2⟩ => ⟨I2.kIn, ?_⟩) hst hpl
  exact run_fnSD (us := .ref a :: us) (vs := .ref a :: vs) F hr hb hd (passAt tk σ) I2 (.cons rfl r) q2
end
/-! ### rules with the text by places told apart -/
theorem ix_listK {X : Cx} {K : PySem.W.Frag} (hK : X.K = K) : IxR X (rIxL K) := by subst hK; exact ix_list
theorem call_len_seqK {X : Cx} {K : PySem.W.Frag} (hK : X.K = K) : CallR X (.builtin "len") (fun xs H Q => ∃ p ys, xs = [.ref p] ∧ (SqL K H p ys ∨ SqT K H p ys) ∧ Q (.int ys.length) H) := by subst hK; exact call_len_seq
theorem ix_tupK {X : Cx} {K : PySem.W.Frag} (hK : X.K = K) : IxR X (rIxT K) := by subst hK; exact ix_tup

/-! ### order of lists of data -/
def rCmpD (K : PySem.W.Frag) (f : PyData → PyData → Bool) : R2 := fun x y H Q => ∃ d e, Dp K H x d ∧ Dp K H y e ∧ PySem.W.alike d e = true ∧ d ≠ .none ∧ d.depth ≤ 8 ∧ Q (.bl (f d e)) H
theorem op_gtD {X : Cx} (hu : X.A.units + 64 < cLine) : OpR X (compareOp .Gt) (rCmpD X.K fun d e => PySem.W.dataLt e d) := by
  intro pins s σ H x y v u Q I rx ry h
  obtain ⟨d, e, hd, he, al, hn, dp, q⟩ := h
  obtain ⟨as, r1⟩ := Dp.reads I d x v hd rx
  obtain ⟨bs, r2⟩ := Dp.reads I e y u he ry
  exact PySem.W.gt_data r1 r2 al hn (by omega) ⟨.bl _, H, I, rfl, q⟩
theorem op_geD {X : Cx} (hu : X.A.units + 64 < cLine) : OpR X (compareOp .GtE) (rCmpD X.K fun d e => !PySem.W.dataLt d e) := by
  intro pins s σ H x y v u Q I rx ry h
  obtain ⟨d, e, hd, he, al, hn, dp, q⟩ := h
  obtain ⟨as, r1⟩ := Dp.reads I d x v hd rx
  obtain ⟨bs, r2⟩ := Dp.reads I e y u he ry
  exact PySem.W.ge_data r1 r2 al hn (by omega) ⟨.bl _, H, I, rfl, q⟩
theorem dlt_nil_cons {x : PyData} {r : List PyData} : PySem.W.dataLt (.list []) (.list (x :: r)) = true := by
  simp [PySem.W.dataLt, PySem.W.keyToks, PySem.W.keyToksAll, PyProof.Rows.lexLt, PyProof.Rows.itemLt]
theorem dlt_cons_nil {x : PyData} {r : List PyData} : PySem.W.dataLt (.list (x :: r)) (.list []) = false := by
  simp [PySem.W.dataLt, PySem.W.keyToks, PySem.W.keyToksAll, PyProof.Rows.lexLt, PyProof.Rows.itemLt]
theorem dlt_int {a b : Int} : PySem.W.dataLt (.list [.int a]) (.list [.int b]) = decide (a < b) := by
  simp [PySem.W.dataLt, PySem.W.keyToks, PySem.W.keyToksAll, PyProof.Rows.lexLt, PyProof.Rows.itemLt]
theorem dlt_str {a b : Str} : PySem.W.dataLt (.list [.str a]) (.list [.str b]) = PyProof.Rows.strKind.blt a.cps.toList b.cps.toList := by
  simp [PySem.W.dataLt, PySem.W.keyToks, PySem.W.keyToksAll, PyProof.Rows.lexLt, PyProof.Rows.itemLt]
theorem dlt_strS {a b : Str} : PySem.W.dataLt (.list [.str a]) (.list [.str b]) = ltCps a.cps.toList b.cps.toList := by
  rw [dlt_str, PyProof.Rows.ltCps_eq]
theorem op_in_seqK {X : Cx} {K : PySem.W.Frag} (hK : X.K = K) : OpR X (compareOp .In) (rIn K false) := by subst hK; exact op_in_seq

/-! ### an error with an __init__ of its own: it asks its base's, then keeps one field -/
def oexB (K : PySem.W.Frag) (C : Addr) : Bool :=
  (match K.lookup C with
  | some ⟨.type "type", _, .cls cd, sl⟩ => (match cd.mro, sl.toList with
    | .ref C' :: bm, [_, _, _, _, some (.builtin n), _] => decide (C' = C) && (decide (n = "ValueError.__new__") && (!cd.hasDel && (cd.hasDict && PySem.HandSPX.refsVE bm)))
    | _, _ => false)
  | _ => false) && (He.eqO (PySem.W.findIn K (.ref C) "__setattr__") (some (some (.builtin "object.__setattr__"))) && (decide (PySem.W.subIn K (.ref C) (.type "BaseException") = some true) && (decide (PySem.W.typeIn K (.ref C) = some (.type "type")) && PySem.W.keepIn K (.ref C))))
theorem oexB_ok {K : PySem.W.Frag} {C : Addr} (h : oexB K C = true) : OexC K C := by
  obtain ⟨a1, h⟩ := He.ba h
  obtain ⟨a2, h⟩ := He.ba h
  obtain ⟨a3, h⟩ := He.ba h
  obtain ⟨a4, a5⟩ := He.ba h
  refine ⟨?_, He.eqO_ok a2, of_decide_eq_true a3, of_decide_eq_true a4, a5⟩
  split at a1
  · rename_i dd cd sl ho
    split at a1
    · rename_i C' bm k0 k1 k2 k3 n k5 hm hs
      obtain ⟨b1, a1⟩ := He.ba a1
      obtain ⟨b2, a1⟩ := He.ba a1
      obtain ⟨b3, a1⟩ := He.ba a1
      obtain ⟨b4, b5⟩ := He.ba a1
      have b1 := of_decide_eq_true b1
      have b2 := of_decide_eq_true b2
      obtain ⟨nm, bs, mro, ns, qn, hd, sn, sub, ab, col, del⟩ := cd
      dsimp only at hm b3 b4
      have b3 : del = false := by simpa using b3
      subst hm b3 b4 b1 b2
      have hsl : sl = #[k0, k1, k2, k3, some (.builtin "ValueError.__new__"), k5] := by
        obtain ⟨l⟩ := sl
        simp only at hs
        rw [hs]
      subst hsl
      exact ⟨nm, qn, ns, bs, bm, sn, sub, ab, col, dd, k0, k1, k2, k3, k5, ho, b5⟩
    · cases a1
  · cases a1
/-- what is told of such a class (at C, over B, its __init__ at f) -/
structure NtC (K : PySem.W.Frag) (C B f : Addr) : Prop where
  o : OexC K C
  i : PySem.W.findIn K (.ref C) "__init__" = some (some (.ref f))
  t : PySem.W.typeIn K (.ref f) = some (.type "function")
  r : PySem.W.findIn K (.ref C) "row" = some none
  bg : PySem.W.specialIn K (.ref B) "__getattribute__" = some (some (.builtin "type.__getattribute__"))
  br : PySem.W.readsIn K B (.type "type") = true
  bf : PySem.W.findCls K (.ref B) (.type "type") "__init__" = some (.val (.builtin "ValueError.__init__"))
def clsB (K : PySem.W.Frag) (B : Addr) : Bool := match PySem.W.findCls K (.ref B) (.type "type") "__init__" with
  | some (.val v) => decide (v = .builtin "ValueError.__init__")
  | _ => false
def ntB (K : PySem.W.Frag) (C B f : Addr) : Bool := oexB K C && (He.eqO (PySem.W.findIn K (.ref C) "__init__") (some (some (.ref f))) && (decide (PySem.W.typeIn K (.ref f) = some (.type "function")) && (He.eqO (PySem.W.findIn K (.ref C) "row") (some none) && (He.eqO (PySem.W.specialIn K (.ref B) "__getattribute__") (some (some (.builtin "type.__getattribute__"))) && (PySem.W.readsIn K B (.type "type") && clsB K B)))))
theorem ntB_ok {K : PySem.W.Frag} {C B f : Addr} (h : ntB K C B f = true) : NtC K C B f := by
  obtain ⟨a1, h⟩ := He.ba h
  obtain ⟨a2, h⟩ := He.ba h
  obtain ⟨a3, h⟩ := He.ba h
  obtain ⟨a4, h⟩ := He.ba h
  obtain ⟨a5, h⟩ := He.ba h
  obtain ⟨a6, a7⟩ := He.ba h
  refine ⟨oexB_ok a1, He.eqO_ok a2, of_decide_eq_true a3, He.eqO_ok a4, He.eqO_ok a5, a6, ?_⟩
  unfold clsB at a7
  split at a7
  · rename_i v hv
    rw [hv, of_decide_eq_true a7]
  · cases a7
section
variable {X : Cx} {e : Expr} {es : List Expr} {ta : TA} {p1 p2 pos : Pos}
/-- B.__init__(self, ..), B an own class over ValueError -/
theorem pe_ceinit {c : Str} {B : Addr} {pl : Sem Bool} (hg : Gl X c) (hm : X.mg c = some (.ref B)) (bg : PySem.W.specialIn X.K (.ref B) "__getattribute__" = some (some (.builtin "type.__getattribute__"))) (br : PySem.W.readsIn X.K B (.type "type") = true)
    (bf : PySem.W.findCls X.K (.ref B) (.type "type") "__init__" = some (.val (.builtin "ValueError.__init__"))) (ha : PA X (e :: es) ta)
    (hc : eval (.Call (.Attribute (.Name c p1) "__init__" p2) (e :: es) [] pos) X.env = (do
      let cv ← eval (.Name c p1) X.env
      standAt p2.atName
      let (fn, first) ← holding [cv] (getMethod cv "__init__" pl)
      callWith pos fn first (backTo pos (starEach (e :: es) X.env)) (backToKw pos (keywordEach [] X.env))) := by rfl)
    (hdb : (c == ("__debug__" : Str)) = false := by decide) (he : starEach (e :: es) X.env = (false, eval e X.env) :: starEach es X.env := by rfl) (hpl : (backTo pos (starEach es X.env)).any (·.1) = false := by rfl) :
    PE X (.Call (.Attribute (.Name c p1) "__init__" p2) (e :: es) [] pos) (tVeI X.K ta) := by
  refine ⟨fun pins s σ H Q I h => ?_⟩
  refine PySem.W.methodCall_KW (ld_glob I hg hm ?_ hdb) hc
  refine PySem.W.method_cls I.kIn bg (PySem.W.cls_value I.kIn br bf (by decide +kernel) ?_)
  show wpAny _ _ (callWith pos (Value.builtin "ValueError.__init__") [] (backTo pos (starEach (e :: es) X.env)) []) _ _ _
  refine PyProof.Rows.callWith_method1 (thn (ha.run pos pins _ σ H _ (I.tok _) h) fun us s1 ⟨vs, H1, I1, r1, a, C, ws, ev, hl, T, ea, q⟩ => ?_) he hpl
  subst ev
  cases r1 with
  | @cons _ u0 _ ur ra rw' =>
    obtain rfl : u0 = Value.ref a := ra
    exact oinit_ok T I1 ea (by rw [← Paired.length rw', sizeLine_eq]; omega) fun s' J => ⟨.non, H1, J, rfl, q⟩
end
/-! ### isinstance and a field of such an error, kept -/
/-- isinstance(e, c): the error's own dict may stand -/
def rIsX2 (K : PySem.W.Frag) : List V → Hp → VK → Prop := fun xs H Q => ∃ (a D dd : Addr) (fs : List (Str × V)) (c : V) (cv : Value) (b : Bool), xs = [.ref a, c] ∧ H a = some (XO (.ref D) (some dd) a) ∧ H dd = some (.xd fs) ∧ ExcC K D ∧ (∀ u, RelV c u → u = cv) ∧ PySem.W.kitOne K (.ref D) cv = some b ∧ Q (.bl b) H
theorem xo_inst {P : Program} {w : World} {H : Hp} {h : Heap} {a D dd : Addr} {fs : List (Str × V)} (hok : HOk P w H h) (ha : H a = some (XO (.ref D) (some dd) a)) (hd : H dd = some (.xd fs)) :
    ∃ (oe od : Obj) (mA : Str → Option Value), PySem.W.InstAt h a oe D (some od) ∧ (∀ g, RelO (fs.lookup g) (mA g)) ∧ ∀ g, PySem.W.lookIn g od = some (mA g) := by
  have xa : ObjOk P w H h a (XO (.ref D) (some dd) a) := hok a _ ha
  obtain ⟨⟨oe, vs, hget, hz, hv⟩, _, _⟩ := xa
  have hx : ObjOk P w H h dd (.xd fs) := hok dd _ hd
  obtain ⟨mA, hns, hr⟩ := hx
  obtain ⟨od, ho, hl⟩ := lookIn_ns hns
  exact ⟨oe, od, mA, ⟨hget, hz.1, by unfold PySem.W.notCls; rw [hv] <;> rfl, by rw [hz.2]; exact ho⟩, hr, hl⟩
theorem call_isX2 {X : Cx} : CallR X (.builtin "isinstance") (rIsX2 X.K) := by
  intro pins s σ H xs us Q I r h
  obtain ⟨a, D, dd, fs, c, cv, b, rfl, ha, hd, C, hcv, e, q⟩ := h
  cases r with
  | cons rx rr =>
    cases rr with
    | cons rt rr =>
      cases rr
      cases rx
      have ec := hcv _ rt
      subst ec
      obtain ⟨oe, od, mA, J, _, _⟩ := xo_inst I.hok ha hd
      obtain ⟨cd, hcd, _⟩ := PySem.W.any_some C.hd
      exact PySem.W.kia_one (PySem.W.kitx_exc (by rw [hcd]; rfl) C.hg C.hk C.hs C.ha C.hn C.ht C.hm) I.kIn J e (fun z => nomatch z) fun tk => ⟨.bl b, H, I.kept (t' := tk) fun _ _ z => z, rfl, q⟩
/-- e.f -/
def tXf2 (K : PySem.W.Frag) (f : Str) (te : TE) : TE := fun σ H Q => te σ H fun x H1 => ∃ (a D dd : Addr) (fs : List (Str × V)) (v : V), x = .ref a ∧ H1 a = some (XO (.ref D) (some dd) a) ∧ H1 dd = some (.xd fs) ∧ ExcC K D ∧ PySem.W.findIn K (.ref D) f = some none ∧ fs.lookup f = some v ∧ Q v H1
theorem pe_xf2 {X : Cx} {e : Expr} {te : TE} {pos : Pos} {n : Str} (he : PE X e te) (hb : attributeBase e n X.env (eval e X.env) = eval e X.env := by rfl) : PE X (.Attribute e n pos) (tXf2 X.K n te) := by
  refine ⟨fun pins s σ H Q I h => ?_⟩
  refine attr_of hb (thn (he.run pins s σ H _ I h) fun u s1 hh => ?_)
  obtain ⟨x, H1, I1, rx, a, D, dd, fs, v, ex, ha, hd, T, hno, l, q⟩ := hh
  subst ex
  obtain rfl : u = Value.ref a := rx
  obtain ⟨oe, od, mA, J, hr, hl⟩ := xo_inst I1.hok ha hd
  obtain ⟨u, hu, ru⟩ := RelO.some_of (v := v) (o := mA n) (by rw [← l]; exact hr n)
  exact HandSPX.exc_get I1.kIn J T.hg T.hk T.hs (PySem.W.findObj_own T.hd hno rfl (by rw [hl, hu])) (handed_of ru) ⟨v, H1, I1.tok _, ru, q⟩
theorem pmk_nt {X : Cx} {x : Str} {C B f : Addr} {k : Nat} {ps : List Str} {sp : Sp} {e : Expr} {es : List Expr} {ta : TA} {p pos : Pos} (N : NtC X.K C B f) (D : IDef X.prog X.w X.K X.mg X.base f k ps sp) (hr : Room (k + 1) X.A) (hx : Passes (L2.CX X.prog X.w) X (fun _ _ _ => False)) (hg : Gl X x) (hm : X.mg x = some (.ref C)) (ha : PA X (e :: es) ta)
    (hdb : (x == ("__debug__" : Str)) = false := by decide) (he : starEach (e :: es) X.env = (false, eval e X.env) :: starEach es X.env := by rfl) (hpl : (backTo pos (starEach es X.env)).any (·.1) = false := by rfl) :
    PMk X (.Call (.Name x p) (e :: es) [] pos) (tMkO C sp [] ta) := by
  obtain ⟨fd, F, hb⟩ := D.ex
  exact pmk_oex N.o N.i N.t F hr hb .nil hx hg hm ha hdb he hpl
/-! ### isinstance(x, int): a thing, or an instance of an own class -/
structure NInt (K : PySem.W.Frag) (C : Addr) : Prop where
  ha : PySem.W.findIn K (.ref C) "__class__" = some (some (.builtin "object.__class__"))
  hn : PySem.W.specialIn K (.builtin "object.__class__") "__get__" = some (some (.builtin "getset_descriptor.__get__"))
  ht : PySem.W.takesIn K (.builtin "object.__class__") = some true
  hm : PySem.W.mroIn K C (.type "object") = some true
  hk : PySem.W.kitOne K (.ref C) (.type "int") = some false
def nintB (K : PySem.W.Frag) (C : Addr) : Bool := He.eqO (PySem.W.findIn K (.ref C) "__class__") (some (some (.builtin "object.__class__"))) && (He.eqO (PySem.W.specialIn K (.builtin "object.__class__") "__get__") (some (some (.builtin "getset_descriptor.__get__"))) && (decide (PySem.W.takesIn K (.builtin "object.__class__") = some true) && (decide (PySem.W.mroIn K C (.type "object") = some true) && decide (PySem.W.kitOne K (.ref C) (.type "int") = some false))))
theorem nintB_ok {K : PySem.W.Frag} {C : Addr} (h : nintB K C = true) : NInt K C := by
  obtain ⟨a2, h⟩ := He.ba h
  obtain ⟨a3, h⟩ := He.ba h
  obtain ⟨a4, h⟩ := He.ba h
  obtain ⟨a5, a6⟩ := He.ba h
  exact ⟨He.eqO_ok a2, He.eqO_ok a3, of_decide_eq_true a4, of_decide_eq_true a5, of_decide_eq_true a6⟩
def rIsIntP (K : PySem.W.Frag) : List V → Hp → VK → Prop := fun vs H Q => ∃ x, vs = [x, .ty "int"] ∧ ((Pl H x ∧ Q (.bl (isInt x)) H) ∨ ∃ (p C dx : Addr) (fs : List (Str × V)), x = .ref p ∧ H p = some (.ins C dx fs) ∧ Cls K C ∧ NInt K C ∧ Q (.bl false) H)
theorem call_isIntP {X : Cx} : CallR X (.builtin "isinstance") (rIsIntP X.K) := fun pins s σ H xs us Q I r q => by
  obtain ⟨x, rfl, ⟨h, q⟩ | ⟨p, C, dx, fs, rfl, hp, L, N, q⟩⟩ := q
  · exact call_isi pins s σ H _ us Q I r (is_int h q)
  · exact call_isi pins s σ H _ us Q I r ⟨_, _, _, _, _, rfl, .ty _, .base (.ins hp L N.ha N.hn N.ht N.hm), N.hk, q⟩
/-! ### max(d) of a dict with numbers as keys -/
def rMaxDK : List V → Hp → VK → Prop := fun xs H Q => ∃ (a : Addr) (kvs : List (Key × V)) (ns : List Int), xs = [V.ref a] ∧ Rd H a (.dK kvs) ∧ kvs.map (·.1) = ns.map Sum.inl ∧ 0 < ns.length ∧ ∀ m, m ∈ ns → (∀ y, y ∈ ns → y ≤ m) → Q (.int m) H
theorem cr_maxDK {X : Cx} (hc : X.calm = true) : CallR X (.builtin "max") rMaxDK := by
  intro pins s σ H xs us Q I rx h
  obtain ⟨a, kvs, ns, rfl, hd, hns, hne, q⟩ := h
  rw [Vals.ref1 rx]
  obtain ⟨z, lo, vs, rel, dd⟩ := dk_rd I.hok hd
  obtain ⟨es, ep, raw, hsz, hent⟩ := PySem.Heap.DictOf.raw (knd := mixKind X.prog X.w) dd
  have hvl : kvs.length = vs.length := rel.length
  have hkn : kvs.length = ns.length := by
    have e := congrArg List.length hns
    rwa [List.length_map, List.length_map] at e
  have hkeys : vs.map (·.1) = ns.map Sum.inl := by rw [← rel.keys]; exact hns
  have hP : ∀ i v, (∃ hi : i < es.size, v = es[i].key) → ∃ t, v = .int (ns.getD i 0) t := by
    rintro i v ⟨hi, rfl⟩
    have hi2 : i < vs.length := by omega
    have hi3 : i < ns.length := by omega
    obtain ⟨h1, _⟩ := hent i hi vs[i].1 vs[i].2 (List.getElem?_eq_getElem hi2)
    have e2 : vs[i].1 = Sum.inl ns[i] := by
      have y : (vs.map (·.1))[i]? = (ns.map Sum.inl)[i]? := by rw [hkeys]
      rw [List.getElem?_map, List.getElem?_map, List.getElem?_eq_getElem hi2, List.getElem?_eq_getElem hi3] at y
      exact Option.some.inj y
    rw [e2] at h1
    have e3 : ns.getD i 0 = ns[i] := by rw [List.getD_eq_getElem?_getD, List.getElem?_eq_getElem hi3] <;> rfl
    rw [e3]
    have h1 : keyIs (Sum.inl ns[i]) es[i].key = true := h1
    rcases keyIs_shape h1 with ⟨j, t, ek, ev⟩ | ⟨y, t, ek, _⟩
    · cases ek; exact ⟨t, ev⟩
    · cases ek
  have ha : a < s.heap.objs.size := by
    obtain ⟨o, ho, _⟩ := raw
    exact Heap.lt_size ho
  refine call_max_walk ?_
  refine wpAny_pyIter_dict_raw lo raw ?_
  refine ⟨s.heap.objs.size, [s.heap.objs.size, a], [s.heap.objs.size], es.size, _, _, fun i j => decide (ns.getD i 0 > ns.getD j 0), rfl, Walks.rawKeys (A := X.A.in1) (I.ok.hd hc) _ a (Nat.ne_of_lt ha) es ep, ⟨⟨_, Heap.get?_push_size _ rfl, rfl, ?_⟩, raw.at fun o e => Heap.get?_push_of_some _ e⟩, fun b hb => ?_, by omega, CmpOf.ints_gt (fun i => ns.getD i 0) hP, fun v h' tk hv' hk => ?_⟩
  · rfl
  · show b < (s.heap.push _).objs.size
    rw [size_push']
    rcases List.mem_cons.mp hb with y | y
    · rw [y]; exact Nat.lt_succ_self _
    · rw [List.mem_singleton.mp y]; exact Nat.lt_succ_of_lt ha
  · obtain ⟨t, rfl⟩ := hP _ _ hv'
    obtain ⟨m1', m2'⟩ := argBest_gt (fun i => ns.getD i 0) (es.size - 1)
    have m1 : argBest (fun i j => decide (ns.getD i 0 > ns.getD j 0)) (es.size - 1) ≤ es.size - 1 := m1'
    have m2 : ∀ j, j ≤ es.size - 1 → ns.getD j 0 ≤ ns.getD (argBest (fun i j => decide (ns.getD i 0 > ns.getD j 0)) (es.size - 1)) 0 := m2'
    have hk2 : ∀ b o, s.heap.get? b = some o → h'.get? b = some o := fun b o e => hk b o (fun y => by rw [List.mem_singleton.mp y] at e; exact absurd (Heap.lt_size e) (Nat.lt_irrefl _)) (Heap.get?_push_of_some _ e)
    refine ⟨.int _, H, I.kept (t' := tk) hk2, ⟨t, rfl⟩, q _ (PySem.getD_mem (by omega)) fun y hy => ?_⟩
    obtain ⟨j, hj, e⟩ := List.mem_iff_getElem.mp hy
    have y1 := m2 j (by omega)
    have e3 : ns.getD j 0 = y := by rw [List.getD_eq_getElem?_getD, List.getElem?_eq_getElem hj, ← e] <;> rfl
    rw [e3] at y1
    exact y1
/-! ### the head, with the interpreter's own statics read too -/
def obsYG (n : Nat) (fa : List He.Fa) (fn : List He.DefD) (ex : List (PySem.W.Frag → Bool)) (g : Addr → Option Obj) : He.AlD := obsX fa fn ex (He.frG g (He.asD g n ++ [cStatics]))
def hookY (n : Nat) (fa : List He.Fa) (fn : List He.DefD) (ex : List (PySem.W.Frag → Bool)) : PySem.W.Hook where
  α := He.AlD
  obs := fun s => obsYG n fa fn ex s.heap.get?
  val := fun _ => He.valD fn
  says := fun _ h => ∃ K : PySem.W.Frag, K.In h ∧ SaysX fa fn ex K
  of := fun _ _ e => ⟨_, He.frG_in, saysX_of e⟩
  keeps := fun _ _ _ ⟨K, hK, c⟩ k => ⟨K, PySem.W.Frag.In.keeps hK k, c⟩
theorem obsYG_eq {n : Nat} {fa : List He.Fa} {fn : List He.DefD} {ex : List (PySem.W.Frag → Bool)} {g : Addr → Option Obj} {s : Shared} (h : ∀ a, g a = s.heap.get? a) : obsYG n fa fn ex g = (hookY n fa fn ex).obs s := by
  have e : g = s.heap.get? := funext h
  rw [e] <;> rfl
theorem op_notIn_seqK {X : Cx} {K : PySem.W.Frag} (hK : X.K = K) : OpR X (compareOp .NotIn) (rIn K true) := by subst hK; exact op_notIn_seq

def topS (i : Nat) : Stmt := PySem.Challenge.pw_cuehall_k10_texts_not_read.main.body.getD i (.Pass ⟨0, 0, 0, 0⟩)
abbrev s_is_whole : Stmt := topS 15
abbrev s_is_cue : Stmt := topS 16
abbrev s_is_lamp : Stmt := topS 17
abbrev s_is_level : Stmt := topS 18
abbrev s_is_fade : Stmt := topS 19
abbrev s_need_word : Stmt := topS 22
abbrev s_number_in : Stmt := topS 27
abbrev s_read : Stmt := topS 29
abbrev s__law_mixed : Stmt := topS 31
abbrev s__law_cell : Stmt := topS 32
abbrev s__law_lamps : Stmt := topS 33
abbrev s__law_numbers : Stmt := topS 34
abbrev s__law_level : Stmt := topS 35
abbrev s__law_look : Stmt := topS 36
abbrev s__law_whole : Stmt := topS 37
abbrev s__law_same : Stmt := topS 38
abbrev s__law_cue_right : Stmt := topS 39
abbrev s__law_stands : Stmt := topS 40
abbrev s__law_hold : Stmt := topS 41
abbrev s__law_behind : Stmt := topS 42
abbrev s__law_put : Stmt := topS 43
abbrev s__law_only : Stmt := topS 44
abbrev s__law_lift : Stmt := topS 45
abbrev s__law_done : Stmt := topS 46
abbrev s__law_built : Stmt := topS 47
abbrev s__law_class : Stmt := topS 48
abbrev s__law_number_in : Stmt := topS 49
abbrev s__law_cue_in : Stmt := topS 50
abbrev s__law_word_in : Stmt := topS 51
abbrev s__law_read : Stmt := topS 52
abbrev s__law_text : Stmt := topS 53
abbrev s__law_bad : Stmt := topS 54
abbrev s__law_changed : Stmt := topS 55
abbrev s__law_tried : Stmt := topS 56
abbrev s__law_told_lamps : Stmt := topS 57
abbrev s_law : Stmt := topS 58
abbrev s_NoText___init__ : Stmt := inClass (topS 8) 0
abbrev s_Cue___init__ : Stmt := inClass (topS 23) 0
abbrev s_Play___init__ : Stmt := inClass (topS 24) 0
abbrev s_Play_sure : Stmt := inClass (topS 24) 1
abbrev s_Play_put : Stmt := inClass (topS 24) 2
abbrev s_Play_numbers : Stmt := inClass (topS 24) 3
abbrev s_Play_cue : Stmt := inClass (topS 24) 4
abbrev s_Play_tell : Stmt := inClass (topS 24) 5
abbrev s_Play_untell : Stmt := inClass (topS 24) 6
abbrev s_Play_look : Stmt := inClass (topS 24) 7
abbrev s_Play_level : Stmt := inClass (topS 24) 8
abbrev s_Play_behind : Stmt := inClass (topS 24) 9
abbrev s_Play_hold : Stmt := inClass (topS 24) 10
abbrev s_Play_only : Stmt := inClass (topS 24) 11
abbrev s_Play_cut : Stmt := inClass (topS 24) 12
abbrev s_Play_lift : Stmt := inClass (topS 24) 13
abbrev s_Play_spare : Stmt := inClass (topS 24) 14
abbrev s_Play_least : Stmt := inClass (topS 24) 15
abbrev s_Reader___init__ : Stmt := inClass (topS 28) 0
abbrev s_Reader_take_cue : Stmt := inClass (topS 28) 1
abbrev s_Reader_take_word : Stmt := inClass (topS 28) 2
abbrev s_Reader_taken : Stmt := inClass (topS 28) 3
abbrev ExcOk (K : PySem.W.Frag) (C : Addr) : Prop := PySem.W.excIn K C He.veBase "ValueError.__new__" = true ∧ PySem.W.keepIn K (.ref C) = true ∧ PySem.W.subIn K (.ref C) (.type "BaseException") = some true ∧ PySem.W.typeIn K (.ref C) = some (.type "type")
structure Txt (K : PySem.W.Frag) (mg : Str → Option Value) : Prop where
  g_is_whole : mg "is_whole" = some (.ref (He.ga K "is_whole"))
  g_is_cue : mg "is_cue" = some (.ref (He.ga K "is_cue"))
  g_is_lamp : mg "is_lamp" = some (.ref (He.ga K "is_lamp"))
  g_is_level : mg "is_level" = some (.ref (He.ga K "is_level"))
  g_is_fade : mg "is_fade" = some (.ref (He.ga K "is_fade"))
  g_need_word : mg "need_word" = some (.ref (He.ga K "need_word"))
  g_number_in : mg "number_in" = some (.ref (He.ga K "number_in"))
  g_read : mg "read" = some (.ref (He.ga K "read"))
  g__law_mixed : mg "_law_mixed" = some (.ref (He.ga K "_law_mixed"))
  g__law_cell : mg "_law_cell" = some (.ref (He.ga K "_law_cell"))
  g__law_lamps : mg "_law_lamps" = some (.ref (He.ga K "_law_lamps"))
  g__law_numbers : mg "_law_numbers" = some (.ref (He.ga K "_law_numbers"))
  g__law_level : mg "_law_level" = some (.ref (He.ga K "_law_level"))
  g__law_look : mg "_law_look" = some (.ref (He.ga K "_law_look"))
  g__law_whole : mg "_law_whole" = some (.ref (He.ga K "_law_whole"))
  g__law_same : mg "_law_same" = some (.ref (He.ga K "_law_same"))
  g__law_cue_right : mg "_law_cue_right" = some (.ref (He.ga K "_law_cue_right"))
  g__law_stands : mg "_law_stands" = some (.ref (He.ga K "_law_stands"))
  g__law_hold : mg "_law_hold" = some (.ref (He.ga K "_law_hold"))
  g__law_behind : mg "_law_behind" = some (.ref (He.ga K "_law_behind"))
  g__law_put : mg "_law_put" = some (.ref (He.ga K "_law_put"))
  g__law_only : mg "_law_only" = some (.ref (He.ga K "_law_only"))
  g__law_lift : mg "_law_lift" = some (.ref (He.ga K "_law_lift"))
  g__law_done : mg "_law_done" = some (.ref (He.ga K "_law_done"))
  g__law_built : mg "_law_built" = some (.ref (He.ga K "_law_built"))
  g__law_class : mg "_law_class" = some (.ref (He.ga K "_law_class"))
  g__law_number_in : mg "_law_number_in" = some (.ref (He.ga K "_law_number_in"))
  g__law_cue_in : mg "_law_cue_in" = some (.ref (He.ga K "_law_cue_in"))
  g__law_word_in : mg "_law_word_in" = some (.ref (He.ga K "_law_word_in"))
  g__law_read : mg "_law_read" = some (.ref (He.ga K "_law_read"))
  g__law_text : mg "_law_text" = some (.ref (He.ga K "_law_text"))
  g__law_bad : mg "_law_bad" = some (.ref (He.ga K "_law_bad"))
  g__law_changed : mg "_law_changed" = some (.ref (He.ga K "_law_changed"))
  g__law_tried : mg "_law_tried" = some (.ref (He.ga K "_law_tried"))
  g__law_told_lamps : mg "_law_told_lamps" = some (.ref (He.ga K "_law_told_lamps"))
  g_law : mg "law" = some (.ref (He.ga K "law"))
  g_CueError : mg "CueError" = some (.ref (He.ga K "CueError"))
  g_NoCue : mg "NoCue" = some (.ref (He.ga K "NoCue"))
  g_Taken : mg "Taken" = some (.ref (He.ga K "Taken"))
  g_TooMany : mg "TooMany" = some (.ref (He.ga K "TooMany"))
  g_NoLamp : mg "NoLamp" = some (.ref (He.ga K "NoLamp"))
  g_NoLevel : mg "NoLevel" = some (.ref (He.ga K "NoLevel"))
  g_NoTime : mg "NoTime" = some (.ref (He.ga K "NoTime"))
  g_NoText : mg "NoText" = some (.ref (He.ga K "NoText"))
  g_Cue : mg "Cue" = some (.ref (He.ga K "Cue"))
  g_Play : mg "Play" = some (.ref (He.ga K "Play"))
  g_Reader : mg "Reader" = some (.ref (He.ga K "Reader"))
  z_isinstance : mg "isinstance" = none
  z_int : mg "int" = none
  z_bool : mg "bool" = none
  z_str : mg "str" = none
  z_list : mg "list" = none
  z_dict : mg "dict" = none
  z_tuple : mg "tuple" = none
  z_len : mg "len" = none
  z_all : mg "all" = none
  z_sorted : mg "sorted" = none
  z_range : mg "range" = none
  z_enumerate : mg "enumerate" = none
  z_zip : mg "zip" = none
  z_max : mg "max" = none
  z_ValueError : mg "ValueError" = none
  g_LETTERS : ∃ t, mg "LETTERS" = some (.str "abcdefghijklmnopqrstuvwxyz" t)
  g_LONGEST : ∃ t, mg "LONGEST" = some (.int 8 t)
  g_LAST_CUE : ∃ t, mg "LAST_CUE" = some (.int 999999 t)
  g_FULL : ∃ t, mg "FULL" = some (.int 100 t)
  g_LONGEST_FADE : ∃ t, mg "LONGEST_FADE" = some (.int 6000 t)
  g_MOST_CUES : ∃ t, mg "MOST_CUES" = some (.int 100 t)
  g_FIGURES : ∃ t, mg "FIGURES" = some (.str "0123456789" t)
  c_Cue : Cls K (He.ga K "Cue")
  n_Cue_up : NoAttr K (He.ga K "Cue") "up"
  n_Cue_down : NoAttr K (He.ga K "Cue") "down"
  n_Cue_fresh : NoAttr K (He.ga K "Cue") "fresh"
  n_Cue_words : NoAttr K (He.ga K "Cue") "words"
  k_Cue : Mk K (He.ga K "Cue") (He.ma K (He.ga K "Cue") "__init__")
  c_Play : Cls K (He.ga K "Play")
  n_Play_kept : NoAttr K (He.ga K "Play") "kept"
  k_Play : Mk K (He.ga K "Play") (He.ma K (He.ga K "Play") "__init__")
  m_Play_sure : Meth K (He.ga K "Play") "sure" (He.ma K (He.ga K "Play") "sure")
  m_Play_put : Meth K (He.ga K "Play") "put" (He.ma K (He.ga K "Play") "put")
  m_Play_numbers : Meth K (He.ga K "Play") "numbers" (He.ma K (He.ga K "Play") "numbers")
  m_Play_cue : Meth K (He.ga K "Play") "cue" (He.ma K (He.ga K "Play") "cue")
  m_Play_tell : Meth K (He.ga K "Play") "tell" (He.ma K (He.ga K "Play") "tell")
  m_Play_untell : Meth K (He.ga K "Play") "untell" (He.ma K (He.ga K "Play") "untell")
  m_Play_look : Meth K (He.ga K "Play") "look" (He.ma K (He.ga K "Play") "look")
  m_Play_level : Meth K (He.ga K "Play") "level" (He.ma K (He.ga K "Play") "level")
  m_Play_behind : Meth K (He.ga K "Play") "behind" (He.ma K (He.ga K "Play") "behind")
  m_Play_hold : Meth K (He.ga K "Play") "hold" (He.ma K (He.ga K "Play") "hold")
  m_Play_only : Meth K (He.ga K "Play") "only" (He.ma K (He.ga K "Play") "only")
  m_Play_cut : Meth K (He.ga K "Play") "cut" (He.ma K (He.ga K "Play") "cut")
  m_Play_lift : Meth K (He.ga K "Play") "lift" (He.ma K (He.ga K "Play") "lift")
  m_Play_spare : Meth K (He.ga K "Play") "spare" (He.ma K (He.ga K "Play") "spare")
  m_Play_least : Meth K (He.ga K "Play") "least" (He.ma K (He.ga K "Play") "least")
  c_Reader : Cls K (He.ga K "Reader")
  n_Reader_play : NoAttr K (He.ga K "Reader") "play"
  k_Reader : Mk K (He.ga K "Reader") (He.ma K (He.ga K "Reader") "__init__")
  m_Reader_take_cue : Meth K (He.ga K "Reader") "take_cue" (He.ma K (He.ga K "Reader") "take_cue")
  m_Reader_take_word : Meth K (He.ga K "Reader") "take_word" (He.ma K (He.ga K "Reader") "take_word")
  m_Reader_taken : Meth K (He.ga K "Reader") "taken" (He.ma K (He.ga K "Reader") "taken")
  x_CueError : ExcOk K (He.ga K "CueError")
  x_NoCue : ExcOk K (He.ga K "NoCue")
  x_Taken : ExcOk K (He.ga K "Taken")
  x_TooMany : ExcOk K (He.ga K "TooMany")
  x_NoLamp : ExcOk K (He.ga K "NoLamp")
  x_NoLevel : ExcOk K (He.ga K "NoLevel")
  x_NoTime : ExcOk K (He.ga K "NoTime")
  nt : NtC K (He.ga K "NoText") (He.ga K "CueError") (He.ma K (He.ga K "NoText") "__init__")
  p_Play : NInt K (He.ga K "Play")
  e_NoCue : ErC K (He.ga K "NoCue") (He.ga K "CueError") [((He.ga K "NoCue"), true), ((He.ga K "Taken"), false), ((He.ga K "TooMany"), false), ((He.ga K "NoLamp"), false), ((He.ga K "NoLevel"), false), ((He.ga K "NoTime"), false), ((He.ga K "NoText"), false)]
  e_Taken : ErC K (He.ga K "Taken") (He.ga K "CueError") [((He.ga K "NoCue"), false), ((He.ga K "Taken"), true), ((He.ga K "TooMany"), false), ((He.ga K "NoLamp"), false), ((He.ga K "NoLevel"), false), ((He.ga K "NoTime"), false), ((He.ga K "NoText"), false)]
  e_TooMany : ErC K (He.ga K "TooMany") (He.ga K "CueError") [((He.ga K "NoCue"), false), ((He.ga K "Taken"), false), ((He.ga K "TooMany"), true), ((He.ga K "NoLamp"), false), ((He.ga K "NoLevel"), false), ((He.ga K "NoTime"), false), ((He.ga K "NoText"), false)]
  e_NoLamp : ErC K (He.ga K "NoLamp") (He.ga K "CueError") [((He.ga K "NoCue"), false), ((He.ga K "Taken"), false), ((He.ga K "TooMany"), false), ((He.ga K "NoLamp"), true), ((He.ga K "NoLevel"), false), ((He.ga K "NoTime"), false), ((He.ga K "NoText"), false)]
  e_NoLevel : ErC K (He.ga K "NoLevel") (He.ga K "CueError") [((He.ga K "NoCue"), false), ((He.ga K "Taken"), false), ((He.ga K "TooMany"), false), ((He.ga K "NoLamp"), false), ((He.ga K "NoLevel"), true), ((He.ga K "NoTime"), false), ((He.ga K "NoText"), false)]
  e_NoTime : ErC K (He.ga K "NoTime") (He.ga K "CueError") [((He.ga K "NoCue"), false), ((He.ga K "Taken"), false), ((He.ga K "TooMany"), false), ((He.ga K "NoLamp"), false), ((He.ga K "NoLevel"), false), ((He.ga K "NoTime"), true), ((He.ga K "NoText"), false)]
  e_NoText : ErC K (He.ga K "NoText") (He.ga K "CueError") [((He.ga K "NoCue"), false), ((He.ga K "Taken"), false), ((He.ga K "TooMany"), false), ((He.ga K "NoLamp"), false), ((He.ga K "NoLevel"), false), ((He.ga K "NoTime"), false), ((He.ga K "NoText"), true)]
  d_is_whole : ∃ fd, FunD K "is_whole" "is_whole" (defArgs s_is_whole) (defBody s_is_whole) (defScope s_is_whole) [] [] (He.ga K "is_whole") fd
  d_is_cue : ∃ fd, FunD K "is_cue" "is_cue" (defArgs s_is_cue) (defBody s_is_cue) (defScope s_is_cue) [] [] (He.ga K "is_cue") fd
  d_is_lamp : ∃ fd, FunD K "is_lamp" "is_lamp" (defArgs s_is_lamp) (defBody s_is_lamp) (defScope s_is_lamp) [] [] (He.ga K "is_lamp") fd
  d_is_level : ∃ fd, FunD K "is_level" "is_level" (defArgs s_is_level) (defBody s_is_level) (defScope s_is_level) [] [] (He.ga K "is_level") fd
  d_is_fade : ∃ fd, FunD K "is_fade" "is_fade" (defArgs s_is_fade) (defBody s_is_fade) (defScope s_is_fade) [] [] (He.ga K "is_fade") fd
  d_need_word : ∃ fd, FunD K "need_word" "need_word" (defArgs s_need_word) (defBody s_need_word) (defScope s_need_word) [] [] (He.ga K "need_word") fd
  d_number_in : ∃ fd, FunD K "number_in" "number_in" (defArgs s_number_in) (defBody s_number_in) (defScope s_number_in) [] [] (He.ga K "number_in") fd
  d_read : ∃ fd, FunD K "read" "read" (defArgs s_read) (defBody s_read) (defScope s_read) [] [] (He.ga K "read") fd
  d__law_mixed : ∃ fd, FunD K "_law_mixed" "_law_mixed" (defArgs s__law_mixed) (defBody s__law_mixed) (defScope s__law_mixed) [] [] (He.ga K "_law_mixed") fd
  d__law_cell : ∃ fd, FunD K "_law_cell" "_law_cell" (defArgs s__law_cell) (defBody s__law_cell) (defScope s__law_cell) [] [] (He.ga K "_law_cell") fd
  d__law_lamps : ∃ fd, FunD K "_law_lamps" "_law_lamps" (defArgs s__law_lamps) (defBody s__law_lamps) (defScope s__law_lamps) [] [] (He.ga K "_law_lamps") fd
  d__law_numbers : ∃ fd, FunD K "_law_numbers" "_law_numbers" (defArgs s__law_numbers) (defBody s__law_numbers) (defScope s__law_numbers) [] [] (He.ga K "_law_numbers") fd
  d__law_level : ∃ fd, FunD K "_law_level" "_law_level" (defArgs s__law_level) (defBody s__law_level) (defScope s__law_level) [] [] (He.ga K "_law_level") fd
  d__law_look : ∃ fd, FunD K "_law_look" "_law_look" (defArgs s__law_look) (defBody s__law_look) (defScope s__law_look) [] [] (He.ga K "_law_look") fd
  d__law_whole : ∃ fd, FunD K "_law_whole" "_law_whole" (defArgs s__law_whole) (defBody s__law_whole) (defScope s__law_whole) [] [] (He.ga K "_law_whole") fd
  d__law_same : ∃ fd, FunD K "_law_same" "_law_same" (defArgs s__law_same) (defBody s__law_same) (defScope s__law_same) [] [] (He.ga K "_law_same") fd
  d__law_cue_right : ∃ fd, FunD K "_law_cue_right" "_law_cue_right" (defArgs s__law_cue_right) (defBody s__law_cue_right) (defScope s__law_cue_right) [] [] (He.ga K "_law_cue_right") fd
  d__law_stands : ∃ fd, FunD K "_law_stands" "_law_stands" (defArgs s__law_stands) (defBody s__law_stands) (defScope s__law_stands) [] [] (He.ga K "_law_stands") fd
  d__law_hold : ∃ fd, FunD K "_law_hold" "_law_hold" (defArgs s__law_hold) (defBody s__law_hold) (defScope s__law_hold) [] [] (He.ga K "_law_hold") fd
  d__law_behind : ∃ fd, FunD K "_law_behind" "_law_behind" (defArgs s__law_behind) (defBody s__law_behind) (defScope s__law_behind) [] [] (He.ga K "_law_behind") fd
  d__law_put : ∃ fd, FunD K "_law_put" "_law_put" (defArgs s__law_put) (defBody s__law_put) (defScope s__law_put) [] [] (He.ga K "_law_put") fd
  d__law_only : ∃ fd, FunD K "_law_only" "_law_only" (defArgs s__law_only) (defBody s__law_only) (defScope s__law_only) [] [] (He.ga K "_law_only") fd
  d__law_lift : ∃ fd, FunD K "_law_lift" "_law_lift" (defArgs s__law_lift) (defBody s__law_lift) (defScope s__law_lift) [] [] (He.ga K "_law_lift") fd
  d__law_done : ∃ fd, FunD K "_law_done" "_law_done" (defArgs s__law_done) (defBody s__law_done) (defScope s__law_done) [] [] (He.ga K "_law_done") fd
  d__law_built : ∃ fd, FunD K "_law_built" "_law_built" (defArgs s__law_built) (defBody s__law_built) (defScope s__law_built) [] [] (He.ga K "_law_built") fd
  d__law_class : ∃ fd, FunD K "_law_class" "_law_class" (defArgs s__law_class) (defBody s__law_class) (defScope s__law_class) [] [] (He.ga K "_law_class") fd
  d__law_number_in : ∃ fd, FunD K "_law_number_in" "_law_number_in" (defArgs s__law_number_in) (defBody s__law_number_in) (defScope s__law_number_in) [] [] (He.ga K "_law_number_in") fd
  d__law_cue_in : ∃ fd, FunD K "_law_cue_in" "_law_cue_in" (defArgs s__law_cue_in) (defBody s__law_cue_in) (defScope s__law_cue_in) [] [] (He.ga K "_law_cue_in") fd
  d__law_word_in : ∃ fd, FunD K "_law_word_in" "_law_word_in" (defArgs s__law_word_in) (defBody s__law_word_in) (defScope s__law_word_in) [] [] (He.ga K "_law_word_in") fd
  d__law_read : ∃ fd, FunD K "_law_read" "_law_read" (defArgs s__law_read) (defBody s__law_read) (defScope s__law_read) [] [] (He.ga K "_law_read") fd
  d__law_text : ∃ fd, FunD K "_law_text" "_law_text" (defArgs s__law_text) (defBody s__law_text) (defScope s__law_text) [] [] (He.ga K "_law_text") fd
  d__law_bad : ∃ fd, FunD K "_law_bad" "_law_bad" (defArgs s__law_bad) (defBody s__law_bad) (defScope s__law_bad) [] [] (He.ga K "_law_bad") fd
  d__law_changed : ∃ fd, FunD K "_law_changed" "_law_changed" (defArgs s__law_changed) (defBody s__law_changed) (defScope s__law_changed) [] [] (He.ga K "_law_changed") fd
  d__law_tried : ∃ fd, FunD K "_law_tried" "_law_tried" (defArgs s__law_tried) (defBody s__law_tried) (defScope s__law_tried) [] [] (He.ga K "_law_tried") fd
  d__law_told_lamps : ∃ fd, FunD K "_law_told_lamps" "_law_told_lamps" (defArgs s__law_told_lamps) (defBody s__law_told_lamps) (defScope s__law_told_lamps) [] [] (He.ga K "_law_told_lamps") fd
  d_law : ∃ fd, FunD K "law" "law" (defArgs s_law) (defBody s_law) (defScope s_law) [] [] (He.ga K "law") fd
  d_NoText___init__ : ∃ fd, FunD K "__init__" "NoText.__init__" (defArgs s_NoText___init__) (defBody s_NoText___init__) (defScope s_NoText___init__) [] [] (He.ma K (He.ga K "NoText") "__init__") fd
  d_Cue___init__ : ∃ fd, FunD K "__init__" "Cue.__init__" (defArgs s_Cue___init__) (defBody s_Cue___init__) (defScope s_Cue___init__) [] [] (He.ma K (He.ga K "Cue") "__init__") fd
  d_Play___init__ : ∃ fd, FunD K "__init__" "Play.__init__" (defArgs s_Play___init__) (defBody s_Play___init__) (defScope s_Play___init__) [] [] (He.ma K (He.ga K "Play") "__init__") fd
  d_Play_sure : ∃ fd, FunD K "sure" "Play.sure" (defArgs s_Play_sure) (defBody s_Play_sure) (defScope s_Play_sure) [] [] (He.ma K (He.ga K "Play") "sure") fd
  d_Play_put : ∃ fd, FunD K "put" "Play.put" (defArgs s_Play_put) (defBody s_Play_put) (defScope s_Play_put) [.int 0, .int 0, .bl false] [] (He.ma K (He.ga K "Play") "put") fd
  d_Play_numbers : ∃ fd, FunD K "numbers" "Play.numbers" (defArgs s_Play_numbers) (defBody s_Play_numbers) (defScope s_Play_numbers) [] [] (He.ma K (He.ga K "Play") "numbers") fd
  d_Play_cue : ∃ fd, FunD K "cue" "Play.cue" (defArgs s_Play_cue) (defBody s_Play_cue) (defScope s_Play_cue) [] [] (He.ma K (He.ga K "Play") "cue") fd
  d_Play_tell : ∃ fd, FunD K "tell" "Play.tell" (defArgs s_Play_tell) (defBody s_Play_tell) (defScope s_Play_tell) [] [] (He.ma K (He.ga K "Play") "tell") fd
  d_Play_untell : ∃ fd, FunD K "untell" "Play.untell" (defArgs s_Play_untell) (defBody s_Play_untell) (defScope s_Play_untell) [] [] (He.ma K (He.ga K "Play") "untell") fd
  d_Play_look : ∃ fd, FunD K "look" "Play.look" (defArgs s_Play_look) (defBody s_Play_look) (defScope s_Play_look) [] [] (He.ma K (He.ga K "Play") "look") fd
  d_Play_level : ∃ fd, FunD K "level" "Play.level" (defArgs s_Play_level) (defBody s_Play_level) (defScope s_Play_level) [] [] (He.ma K (He.ga K "Play") "level") fd
  d_Play_behind : ∃ fd, FunD K "behind" "Play.behind" (defArgs s_Play_behind) (defBody s_Play_behind) (defScope s_Play_behind) [] [] (He.ma K (He.ga K "Play") "behind") fd
  d_Play_hold : ∃ fd, FunD K "hold" "Play.hold" (defArgs s_Play_hold) (defBody s_Play_hold) (defScope s_Play_hold) [] [] (He.ma K (He.ga K "Play") "hold") fd
  d_Play_only : ∃ fd, FunD K "only" "Play.only" (defArgs s_Play_only) (defBody s_Play_only) (defScope s_Play_only) [] [] (He.ma K (He.ga K "Play") "only") fd
  d_Play_cut : ∃ fd, FunD K "cut" "Play.cut" (defArgs s_Play_cut) (defBody s_Play_cut) (defScope s_Play_cut) [] [] (He.ma K (He.ga K "Play") "cut") fd
  d_Play_lift : ∃ fd, FunD K "lift" "Play.lift" (defArgs s_Play_lift) (defBody s_Play_lift) (defScope s_Play_lift) [] [] (He.ma K (He.ga K "Play") "lift") fd
  d_Play_spare : ∃ fd, FunD K "spare" "Play.spare" (defArgs s_Play_spare) (defBody s_Play_spare) (defScope s_Play_spare) [] [] (He.ma K (He.ga K "Play") "spare") fd
  d_Play_least : ∃ fd, FunD K "least" "Play.least" (defArgs s_Play_least) (defBody s_Play_least) (defScope s_Play_least) [] [] (He.ma K (He.ga K "Play") "least") fd
  d_Reader___init__ : ∃ fd, FunD K "__init__" "Reader.__init__" (defArgs s_Reader___init__) (defBody s_Reader___init__) (defScope s_Reader___init__) [] [] (He.ma K (He.ga K "Reader") "__init__") fd
  d_Reader_take_cue : ∃ fd, FunD K "take_cue" "Reader.take_cue" (defArgs s_Reader_take_cue) (defBody s_Reader_take_cue) (defScope s_Reader_take_cue) [] [] (He.ma K (He.ga K "Reader") "take_cue") fd
  d_Reader_take_word : ∃ fd, FunD K "take_word" "Reader.take_word" (defArgs s_Reader_take_word) (defBody s_Reader_take_word) (defScope s_Reader_take_word) [] [] (He.ma K (He.ga K "Reader") "take_word") fd
  d_Reader_taken : ∃ fd, FunD K "taken" "Reader.taken" (defArgs s_Reader_taken) (defBody s_Reader_taken) (defScope s_Reader_taken) [] [] (He.ma K (He.ga K "Reader") "taken") fd
def D_is_whole : He.DefD := ⟨("is_whole", none), "is_whole", "is_whole", defArgs s_is_whole, defBody s_is_whole, defScope s_is_whole, [], []⟩
def D_is_cue : He.DefD := ⟨("is_cue", none), "is_cue", "is_cue", defArgs s_is_cue, defBody s_is_cue, defScope s_is_cue, [], []⟩
def D_is_lamp : He.DefD := ⟨("is_lamp", none), "is_lamp", "is_lamp", defArgs s_is_lamp, defBody s_is_lamp, defScope s_is_lamp, [], []⟩
def D_is_level : He.DefD := ⟨("is_level", none), "is_level", "is_level", defArgs s_is_level, defBody s_is_level, defScope s_is_level, [], []⟩
def D_is_fade : He.DefD := ⟨("is_fade", none), "is_fade", "is_fade", defArgs s_is_fade, defBody s_is_fade, defScope s_is_fade, [], []⟩
def D_need_word : He.DefD := ⟨("need_word", none), "need_word", "need_word", defArgs s_need_word, defBody s_need_word, defScope s_need_word, [], []⟩
def D_number_in : He.DefD := ⟨("number_in", none), "number_in", "number_in", defArgs s_number_in, defBody s_number_in, defScope s_number_in, [], []⟩
def D_read : He.DefD := ⟨("read", none), "read", "read", defArgs s_read, defBody s_read, defScope s_read, [], []⟩
def D__law_mixed : He.DefD := ⟨("_law_mixed", none), "_law_mixed", "_law_mixed", defArgs s__law_mixed, defBody s__law_mixed, defScope s__law_mixed, [], []⟩
def D__law_cell : He.DefD := ⟨("_law_cell", none), "_law_cell", "_law_cell", defArgs s__law_cell, defBody s__law_cell, defScope s__law_cell, [], []⟩
def D__law_lamps : He.DefD := ⟨("_law_lamps", none), "_law_lamps", "_law_lamps", defArgs s__law_lamps, defBody s__law_lamps, defScope s__law_lamps, [], []⟩
def D__law_numbers : He.DefD := ⟨("_law_numbers", none), "_law_numbers", "_law_numbers", defArgs s__law_numbers, defBody s__law_numbers, defScope s__law_numbers, [], []⟩
def D__law_level : He.DefD := ⟨("_law_level", none), "_law_level", "_law_level", defArgs s__law_level, defBody s__law_level, defScope s__law_level, [], []⟩
def D__law_look : He.DefD := ⟨("_law_look", none), "_law_look", "_law_look", defArgs s__law_look, defBody s__law_look, defScope s__law_look, [], []⟩
def D__law_whole : He.DefD := ⟨("_law_whole", none), "_law_whole", "_law_whole", defArgs s__law_whole, defBody s__law_whole, defScope s__law_whole, [], []⟩
def D__law_same : He.DefD := ⟨("_law_same", none), "_law_same", "_law_same", defArgs s__law_same, defBody s__law_same, defScope s__law_same, [], []⟩
def D__law_cue_right : He.DefD := ⟨("_law_cue_right", none), "_law_cue_right", "_law_cue_right", defArgs s__law_cue_right, defBody s__law_cue_right, defScope s__law_cue_right, [], []⟩
def D__law_stands : He.DefD := ⟨("_law_stands", none), "_law_stands", "_law_stands", defArgs s__law_stands, defBody s__law_stands, defScope s__law_stands, [], []⟩
def D__law_hold : He.DefD := ⟨("_law_hold", none), "_law_hold", "_law_hold", defArgs s__law_hold, defBody s__law_hold, defScope s__law_hold, [], []⟩
def D__law_behind : He.DefD := ⟨("_law_behind", none), "_law_behind", "_law_behind", defArgs s__law_behind, defBody s__law_behind, defScope s__law_behind, [], []⟩
def D__law_put : He.DefD := ⟨("_law_put", none), "_law_put", "_law_put", defArgs s__law_put, defBody s__law_put, defScope s__law_put, [], []⟩
def D__law_only : He.DefD := ⟨("_law_only", none), "_law_only", "_law_only", defArgs s__law_only, defBody s__law_only, defScope s__law_only, [], []⟩
def D__law_lift : He.DefD := ⟨("_law_lift", none), "_law_lift", "_law_lift", defArgs s__law_lift, defBody s__law_lift, defScope s__law_lift, [], []⟩
def D__law_done : He.DefD := ⟨("_law_done", none), "_law_done", "_law_done", defArgs s__law_done, defBody s__law_done, defScope s__law_done, [], []⟩
def D__law_built : He.DefD := ⟨("_law_built", none), "_law_built", "_law_built", defArgs s__law_built, defBody s__law_built, defScope s__law_built, [], []⟩
def D__law_class : He.DefD := ⟨("_law_class", none), "_law_class", "_law_class", defArgs s__law_class, defBody s__law_class, defScope s__law_class, [], []⟩
def D__law_number_in : He.DefD := ⟨("_law_number_in", none), "_law_number_in", "_law_number_in", defArgs s__law_number_in, defBody s__law_number_in, defScope s__law_number_in, [], []⟩
def D__law_cue_in : He.DefD := ⟨("_law_cue_in", none), "_law_cue_in", "_law_cue_in", defArgs s__law_cue_in, defBody s__law_cue_in, defScope s__law_cue_in, [], []⟩
def D__law_word_in : He.DefD := ⟨("_law_word_in", none), "_law_word_in", "_law_word_in", defArgs s__law_word_in, defBody s__law_word_in, defScope s__law_word_in, [], []⟩
def D__law_read : He.DefD := ⟨("_law_read", none), "_law_read", "_law_read", defArgs s__law_read, defBody s__law_read, defScope s__law_read, [], []⟩
def D__law_text : He.DefD := ⟨("_law_text", none), "_law_text", "_law_text", defArgs s__law_text, defBody s__law_text, defScope s__law_text, [], []⟩
def D__law_bad : He.DefD := ⟨("_law_bad", none), "_law_bad", "_law_bad", defArgs s__law_bad, defBody s__law_bad, defScope s__law_bad, [], []⟩
def D__law_changed : He.DefD := ⟨("_law_changed", none), "_law_changed", "_law_changed", defArgs s__law_changed, defBody s__law_changed, defScope s__law_changed, [], []⟩
def D__law_tried : He.DefD := ⟨("_law_tried", none), "_law_tried", "_law_tried", defArgs s__law_tried, defBody s__law_tried, defScope s__law_tried, [], []⟩
def D__law_told_lamps : He.DefD := ⟨("_law_told_lamps", none), "_law_told_lamps", "_law_told_lamps", defArgs s__law_told_lamps, defBody s__law_told_lamps, defScope s__law_told_lamps, [], []⟩
def D_law : He.DefD := ⟨("law", none), "law", "law", defArgs s_law, defBody s_law, defScope s_law, [], []⟩
def D_NoText___init__ : He.DefD := ⟨("NoText", some "__init__"), "__init__", "NoText.__init__", defArgs s_NoText___init__, defBody s_NoText___init__, defScope s_NoText___init__, [], []⟩
def D_Cue___init__ : He.DefD := ⟨("Cue", some "__init__"), "__init__", "Cue.__init__", defArgs s_Cue___init__, defBody s_Cue___init__, defScope s_Cue___init__, [], []⟩
def D_Play___init__ : He.DefD := ⟨("Play", some "__init__"), "__init__", "Play.__init__", defArgs s_Play___init__, defBody s_Play___init__, defScope s_Play___init__, [], []⟩
def D_Play_sure : He.DefD := ⟨("Play", some "sure"), "sure", "Play.sure", defArgs s_Play_sure, defBody s_Play_sure, defScope s_Play_sure, [], []⟩
def D_Play_put : He.DefD := ⟨("Play", some "put"), "put", "Play.put", defArgs s_Play_put, defBody s_Play_put, defScope s_Play_put, [.int 0, .int 0, .bl false], []⟩
def D_Play_numbers : He.DefD := ⟨("Play", some "numbers"), "numbers", "Play.numbers", defArgs s_Play_numbers, defBody s_Play_numbers, defScope s_Play_numbers, [], []⟩
def D_Play_cue : He.DefD := ⟨("Play", some "cue"), "cue", "Play.cue", defArgs s_Play_cue, defBody s_Play_cue, defScope s_Play_cue, [], []⟩
def D_Play_tell : He.DefD := ⟨("Play", some "tell"), "tell", "Play.tell", defArgs s_Play_tell, defBody s_Play_tell, defScope s_Play_tell, [], []⟩
def D_Play_untell : He.DefD := ⟨("Play", some "untell"), "untell", "Play.untell", defArgs s_Play_untell, defBody s_Play_untell, defScope s_Play_untell, [], []⟩
def D_Play_look : He.DefD := ⟨("Play", some "look"), "look", "Play.look", defArgs s_Play_look, defBody s_Play_look, defScope s_Play_look, [], []⟩
def D_Play_level : He.DefD := ⟨("Play", some "level"), "level", "Play.level", defArgs s_Play_level, defBody s_Play_level, defScope s_Play_level, [], []⟩
def D_Play_behind : He.DefD := ⟨("Play", some "behind"), "behind", "Play.behind", defArgs s_Play_behind, defBody s_Play_behind, defScope s_Play_behind, [], []⟩
def D_Play_hold : He.DefD := ⟨("Play", some "hold"), "hold", "Play.hold", defArgs s_Play_hold, defBody s_Play_hold, defScope s_Play_hold, [], []⟩
def D_Play_only : He.DefD := ⟨("Play", some "only"), "only", "Play.only", defArgs s_Play_only, defBody s_Play_only, defScope s_Play_only, [], []⟩
def D_Play_cut : He.DefD := ⟨("Play", some "cut"), "cut", "Play.cut", defArgs s_Play_cut, defBody s_Play_cut, defScope s_Play_cut, [], []⟩
def D_Play_lift : He.DefD := ⟨("Play", some "lift"), "lift", "Play.lift", defArgs s_Play_lift, defBody s_Play_lift, defScope s_Play_lift, [], []⟩
def D_Play_spare : He.DefD := ⟨("Play", some "spare"), "spare", "Play.spare", defArgs s_Play_spare, defBody s_Play_spare, defScope s_Play_spare, [], []⟩
def D_Play_least : He.DefD := ⟨("Play", some "least"), "least", "Play.least", defArgs s_Play_least, defBody s_Play_least, defScope s_Play_least, [], []⟩
def D_Reader___init__ : He.DefD := ⟨("Reader", some "__init__"), "__init__", "Reader.__init__", defArgs s_Reader___init__, defBody s_Reader___init__, defScope s_Reader___init__, [], []⟩
def D_Reader_take_cue : He.DefD := ⟨("Reader", some "take_cue"), "take_cue", "Reader.take_cue", defArgs s_Reader_take_cue, defBody s_Reader_take_cue, defScope s_Reader_take_cue, [], []⟩
def D_Reader_take_word : He.DefD := ⟨("Reader", some "take_word"), "take_word", "Reader.take_word", defArgs s_Reader_take_word, defBody s_Reader_take_word, defScope s_Reader_take_word, [], []⟩
def D_Reader_taken : He.DefD := ⟨("Reader", some "taken"), "taken", "Reader.taken", defArgs s_Reader_taken, defBody s_Reader_taken, defScope s_Reader_taken, [], []⟩
def fn : List He.DefD := [D_is_whole, D_is_cue, D_is_lamp, D_is_level, D_is_fade, D_need_word, D_number_in, D_read, D__law_mixed, D__law_cell, D__law_lamps, D__law_numbers, D__law_level, D__law_look, D__law_whole, D__law_same, D__law_cue_right, D__law_stands, D__law_hold, D__law_behind, D__law_put, D__law_only, D__law_lift, D__law_done, D__law_built, D__law_class, D__law_number_in, D__law_cue_in, D__law_word_in, D__law_read, D__law_text, D__law_bad, D__law_changed, D__law_tried, D__law_told_lamps, D_law, D_NoText___init__, D_Cue___init__, D_Play___init__, D_Play_sure, D_Play_put, D_Play_numbers, D_Play_cue, D_Play_tell, D_Play_untell, D_Play_look, D_Play_level, D_Play_behind, D_Play_hold, D_Play_only, D_Play_cut, D_Play_lift, D_Play_spare, D_Play_least, D_Reader___init__, D_Reader_take_cue, D_Reader_take_word, D_Reader_taken]
def fa : List He.Fa := [.glo "is_whole", .glo "is_cue", .glo "is_lamp", .glo "is_level", .glo "is_fade", .glo "need_word", .glo "number_in", .glo "read", .glo "_law_mixed", .glo "_law_cell", .glo "_law_lamps", .glo "_law_numbers", .glo "_law_level", .glo "_law_look", .glo "_law_whole", .glo "_law_same", .glo "_law_cue_right", .glo "_law_stands", .glo "_law_hold", .glo "_law_behind", .glo "_law_put", .glo "_law_only", .glo "_law_lift", .glo "_law_done", .glo "_law_built", .glo "_law_class", .glo "_law_number_in", .glo "_law_cue_in", .glo "_law_word_in", .glo "_law_read", .glo "_law_text", .glo "_law_bad", .glo "_law_changed", .glo "_law_tried", .glo "_law_told_lamps", .glo "law", .glo "CueError", .glo "NoCue", .glo "Taken", .glo "TooMany", .glo "NoLamp", .glo "NoLevel", .glo "NoTime", .glo "NoText", .glo "Cue", .glo "Play", .glo "Reader", .free "isinstance", .free "int", .free "bool", .free "str", .free "list", .free "dict", .free "tuple", .free "len", .free "all", .free "sorted", .free "range", .free "enumerate", .free "zip", .free "max", .free "ValueError", .str "LETTERS" "abcdefghijklmnopqrstuvwxyz", .int "LONGEST" 8, .int "LAST_CUE" 999999, .int "FULL" 100, .int "LONGEST_FADE" 6000, .int "MOST_CUES" 100, .str "FIGURES" "0123456789", .cls "Cue", .noat "Cue" "up", .noat "Cue" "down", .noat "Cue" "fresh", .noat "Cue" "words", .mkr "Cue", .cls "Play", .noat "Play" "kept", .mkr "Play", .meth "Play" "sure", .meth "Play" "put", .meth "Play" "numbers", .meth "Play" "cue", .meth "Play" "tell", .meth "Play" "untell", .meth "Play" "look", .meth "Play" "level", .meth "Play" "behind", .meth "Play" "hold", .meth "Play" "only", .meth "Play" "cut", .meth "Play" "lift", .meth "Play" "spare", .meth "Play" "least", .cls "Reader", .noat "Reader" "play", .mkr "Reader", .meth "Reader" "take_cue", .meth "Reader" "take_word", .meth "Reader" "taken", .exc "CueError", .exc "NoCue", .exc "Taken", .exc "TooMany", .exc "NoLamp", .exc "NoLevel", .exc "NoTime"]
def loose : List PySem.Str := ([("CueError" : PySem.Str), ("NoCue" : PySem.Str), ("Taken" : PySem.Str), ("TooMany" : PySem.Str), ("NoLamp" : PySem.Str), ("NoLevel" : PySem.Str), ("NoTime" : PySem.Str), ("NoText" : PySem.Str), ("LETTERS" : PySem.Str), ("LONGEST" : PySem.Str), ("LAST_CUE" : PySem.Str), ("FULL" : PySem.Str), ("LONGEST_FADE" : PySem.Str), ("is_whole" : PySem.Str), ("is_cue" : PySem.Str), ("is_lamp" : PySem.Str), ("is_level" : PySem.Str), ("is_fade" : PySem.Str), ("MOST_CUES" : PySem.Str), ("need_word" : PySem.Str), ("Cue" : PySem.Str), ("Play" : PySem.Str), ("FIGURES" : PySem.Str), ("number_in" : PySem.Str), ("Reader" : PySem.Str), ("read" : PySem.Str), ("_law_mixed" : PySem.Str), ("_law_cell" : PySem.Str), ("_law_lamps" : PySem.Str), ("_law_numbers" : PySem.Str), ("_law_level" : PySem.Str), ("_law_look" : PySem.Str), ("_law_whole" : PySem.Str), ("_law_same" : PySem.Str), ("_law_cue_right" : PySem.Str)] : List PySem.Str) ++ ([("_law_stands" : PySem.Str), ("_law_hold" : PySem.Str), ("_law_behind" : PySem.Str), ("_law_put" : PySem.Str), ("_law_only" : PySem.Str), ("_law_lift" : PySem.Str), ("_law_done" : PySem.Str), ("_law_built" : PySem.Str), ("_law_class" : PySem.Str), ("_law_number_in" : PySem.Str), ("_law_cue_in" : PySem.Str), ("_law_word_in" : PySem.Str), ("_law_read" : PySem.Str), ("_law_text" : PySem.Str), ("_law_bad" : PySem.Str), ("_law_changed" : PySem.Str), ("_law_tried" : PySem.Str), ("_law_told_lamps" : PySem.Str)] : List PySem.Str)
abbrev R : PySem.W.OpenRow := PySem.W.OpenLaw.row PySem.Challenge.rw_cuehall_k10_texts_not_read
def exf : List (PySem.W.Frag → Bool) := [fun K => ntB K (He.ga K "NoText") (He.ga K "CueError") (He.ma K (He.ga K "NoText") "__init__"), fun K => nintB K (He.ga K "Play"), fun K => erB K (He.ga K "NoCue") (He.ga K "CueError") [((He.ga K "NoCue"), true), ((He.ga K "Taken"), false), ((He.ga K "TooMany"), false), ((He.ga K "NoLamp"), false), ((He.ga K "NoLevel"), false), ((He.ga K "NoTime"), false), ((He.ga K "NoText"), false)], fun K => erB K (He.ga K "Taken") (He.ga K "CueError") [((He.ga K "NoCue"), false), ((He.ga K "Taken"), true), ((He.ga K "TooMany"), false), ((He.ga K "NoLamp"), false), ((He.ga K "NoLevel"), false), ((He.ga K "NoTime"), false), ((He.ga K "NoText"), false)], fun K => erB K (He.ga K "TooMany") (He.ga K "CueError") [((He.ga K "NoCue"), false), ((He.ga K "Taken"), false), ((He.ga K "TooMany"), true), ((He.ga K "NoLamp"), false), ((He.ga K "NoLevel"), false), ((He.ga K "NoTime"), false), ((He.ga K "NoText"), false)], fun K => erB K (He.ga K "NoLamp") (He.ga K "CueError") [((He.ga K "NoCue"), false), ((He.ga K "Taken"), false), ((He.ga K "TooMany"), false), ((He.ga K "NoLamp"), true), ((He.ga K "NoLevel"), false), ((He.ga K "NoTime"), false), ((He.ga K "NoText"), false)], fun K => erB K (He.ga K "NoLevel") (He.ga K "CueError") [((He.ga K "NoCue"), false), ((He.ga K "Taken"), false), ((He.ga K "TooMany"), false), ((He.ga K "NoLamp"), false), ((He.ga K "NoLevel"), true), ((He.ga K "NoTime"), false), ((He.ga K "NoText"), false)], fun K => erB K (He.ga K "NoTime") (He.ga K "CueError") [((He.ga K "NoCue"), false), ((He.ga K "Taken"), false), ((He.ga K "TooMany"), false), ((He.ga K "NoLamp"), false), ((He.ga K "NoLevel"), false), ((He.ga K "NoTime"), true), ((He.ga K "NoText"), false)], fun K => erB K (He.ga K "NoText") (He.ga K "CueError") [((He.ga K "NoCue"), false), ((He.ga K "Taken"), false), ((He.ga K "TooMany"), false), ((He.ga K "NoLamp"), false), ((He.ga K "NoLevel"), false), ((He.ga K "NoTime"), false), ((He.ga K "NoText"), true)]]
abbrev hk : PySem.W.Hook := hookY 5 fa fn exf
def ob (s : PySem.W.SharedT) : He.AlD := obsYG 5 fa fn exf (HandSHeadRun.getT s)
theorem ob_eq (s : PySem.W.SharedT) : ob s = hk.obs s.abs := obsYG_eq (HandSHeadRun.getT_eq s)
theorem run (w : World) : HandSHeadRun.RunEq R (PySem.W.view R.prog [58]) hk ob 8000 loose w := by
  intro os
  kernel_rfl
theorem txt_of {K : PySem.W.Frag} {h : Heap} {mg : Str → Option Value} (X : K.In h) (G : h.Ns mainGlobals mg) (cx : SaysX fa fn exf K) : Txt K mg where
  g_is_whole := He.glo_ok X G (cx.c.fact 0 rfl)
  g_is_cue := He.glo_ok X G (cx.c.fact 1 rfl)
  g_is_lamp := He.glo_ok X G (cx.c.fact 2 rfl)
  g_is_level := He.glo_ok X G (cx.c.fact 3 rfl)
  g_is_fade := He.glo_ok X G (cx.c.fact 4 rfl)
  g_need_word := He.glo_ok X G (cx.c.fact 5 rfl)
  g_number_in := He.glo_ok X G (cx.c.fact 6 rfl)
  g_read := He.glo_ok X G (cx.c.fact 7 rfl)
  g__law_mixed := He.glo_ok X G (cx.c.fact 8 rfl)
  g__law_cell := He.glo_ok X G (cx.c.fact 9 rfl)
  g__law_lamps := He.glo_ok X G (cx.c.fact 10 rfl)
  g__law_numbers := He.glo_ok X G (cx.c.fact 11 rfl)
  g__law_level := He.glo_ok X G (cx.c.fact 12 rfl)
  g__law_look := He.glo_ok X G (cx.c.fact 13 rfl)
  g__law_whole := He.glo_ok X G (cx.c.fact 14 rfl)
  g__law_same := He.glo_ok X G (cx.c.fact 15 rfl)
  g__law_cue_right := He.glo_ok X G (cx.c.fact 16 rfl)
  g__law_stands := He.glo_ok X G (cx.c.fact 17 rfl)
  g__law_hold := He.glo_ok X G (cx.c.fact 18 rfl)
  g__law_behind := He.glo_ok X G (cx.c.fact 19 rfl)
  g__law_put := He.glo_ok X G (cx.c.fact 20 rfl)
  g__law_only := He.glo_ok X G (cx.c.fact 21 rfl)
  g__law_lift := He.glo_ok X G (cx.c.fact 22 rfl)
  g__law_done := He.glo_ok X G (cx.c.fact 23 rfl)
  g__law_built := He.glo_ok X G (cx.c.fact 24 rfl)
  g__law_class := He.glo_ok X G (cx.c.fact 25 rfl)
  g__law_number_in := He.glo_ok X G (cx.c.fact 26 rfl)
  g__law_cue_in := He.glo_ok X G (cx.c.fact 27 rfl)
  g__law_word_in := He.glo_ok X G (cx.c.fact 28 rfl)
  g__law_read := He.glo_ok X G (cx.c.fact 29 rfl)
  g__law_text := He.glo_ok X G (cx.c.fact 30 rfl)
  g__law_bad := He.glo_ok X G (cx.c.fact 31 rfl)
  g__law_changed := He.glo_ok X G (cx.c.fact 32 rfl)
  g__law_tried := He.glo_ok X G (cx.c.fact 33 rfl)
  g__law_told_lamps := He.glo_ok X G (cx.c.fact 34 rfl)
  g_law := He.glo_ok X G (cx.c.fact 35 rfl)
  g_CueError := He.glo_ok X G (cx.c.fact 36 rfl)
  g_NoCue := He.glo_ok X G (cx.c.fact 37 rfl)
  g_Taken := He.glo_ok X G (cx.c.fact 38 rfl)
  g_TooMany := He.glo_ok X G (cx.c.fact 39 rfl)
  g_NoLamp := He.glo_ok X G (cx.c.fact 40 rfl)
  g_NoLevel := He.glo_ok X G (cx.c.fact 41 rfl)
  g_NoTime := He.glo_ok X G (cx.c.fact 42 rfl)
  g_NoText := He.glo_ok X G (cx.c.fact 43 rfl)
  g_Cue := He.glo_ok X G (cx.c.fact 44 rfl)
  g_Play := He.glo_ok X G (cx.c.fact 45 rfl)
  g_Reader := He.glo_ok X G (cx.c.fact 46 rfl)
  z_isinstance := He.free_ok X G (cx.c.fact 47 rfl)
  z_int := He.free_ok X G (cx.c.fact 48 rfl)
  z_bool := He.free_ok X G (cx.c.fact 49 rfl)
  z_str := He.free_ok X G (cx.c.fact 50 rfl)
  z_list := He.free_ok X G (cx.c.fact 51 rfl)
  z_dict := He.free_ok X G (cx.c.fact 52 rfl)
  z_tuple := He.free_ok X G (cx.c.fact 53 rfl)
  z_len := He.free_ok X G (cx.c.fact 54 rfl)
  z_all := He.free_ok X G (cx.c.fact 55 rfl)
  z_sorted := He.free_ok X G (cx.c.fact 56 rfl)
  z_range := He.free_ok X G (cx.c.fact 57 rfl)
  z_enumerate := He.free_ok X G (cx.c.fact 58 rfl)
  z_zip := He.free_ok X G (cx.c.fact 59 rfl)
  z_max := He.free_ok X G (cx.c.fact 60 rfl)
  z_ValueError := He.free_ok X G (cx.c.fact 61 rfl)
  g_LETTERS := He.str_ok X G (cx.c.fact 62 rfl)
  g_LONGEST := He.int_ok X G (cx.c.fact 63 rfl)
  g_LAST_CUE := He.int_ok X G (cx.c.fact 64 rfl)
  g_FULL := He.int_ok X G (cx.c.fact 65 rfl)
  g_LONGEST_FADE := He.int_ok X G (cx.c.fact 66 rfl)
  g_MOST_CUES := He.int_ok X G (cx.c.fact 67 rfl)
  g_FIGURES := He.str_ok X G (cx.c.fact 68 rfl)
  c_Cue := He.cls_ok (cx.c.fact 69 rfl)
  n_Cue_up := He.noat_ok (cx.c.fact 70 rfl)
  n_Cue_down := He.noat_ok (cx.c.fact 71 rfl)
  n_Cue_fresh := He.noat_ok (cx.c.fact 72 rfl)
  n_Cue_words := He.noat_ok (cx.c.fact 73 rfl)
  k_Cue := He.mkr_ok (cx.c.fact 74 rfl)
  c_Play := He.cls_ok (cx.c.fact 75 rfl)
  n_Play_kept := He.noat_ok (cx.c.fact 76 rfl)
  k_Play := He.mkr_ok (cx.c.fact 77 rfl)
  m_Play_sure := He.meth_ok (cx.c.fact 78 rfl)
  m_Play_put := He.meth_ok (cx.c.fact 79 rfl)
  m_Play_numbers := He.meth_ok (cx.c.fact 80 rfl)
  m_Play_cue := He.meth_ok (cx.c.fact 81 rfl)
  m_Play_tell := He.meth_ok (cx.c.fact 82 rfl)
  m_Play_untell := He.meth_ok (cx.c.fact 83 rfl)
  m_Play_look := He.meth_ok (cx.c.fact 84 rfl)
  m_Play_level := He.meth_ok (cx.c.fact 85 rfl)
  m_Play_behind := He.meth_ok (cx.c.fact 86 rfl)
  m_Play_hold := He.meth_ok (cx.c.fact 87 rfl)
  m_Play_only := He.meth_ok (cx.c.fact 88 rfl)
  m_Play_cut := He.meth_ok (cx.c.fact 89 rfl)
  m_Play_lift := He.meth_ok (cx.c.fact 90 rfl)
  m_Play_spare := He.meth_ok (cx.c.fact 91 rfl)
  m_Play_least := He.meth_ok (cx.c.fact 92 rfl)
  c_Reader := He.cls_ok (cx.c.fact 93 rfl)
  n_Reader_play := He.noat_ok (cx.c.fact 94 rfl)
  k_Reader := He.mkr_ok (cx.c.fact 95 rfl)
  m_Reader_take_cue := He.meth_ok (cx.c.fact 96 rfl)
  m_Reader_take_word := He.meth_ok (cx.c.fact 97 rfl)
  m_Reader_taken := He.meth_ok (cx.c.fact 98 rfl)
  x_CueError := He.exc_ok (cx.c.fact 99 rfl)
  x_NoCue := He.exc_ok (cx.c.fact 100 rfl)
  x_Taken := He.exc_ok (cx.c.fact 101 rfl)
  x_TooMany := He.exc_ok (cx.c.fact 102 rfl)
  x_NoLamp := He.exc_ok (cx.c.fact 103 rfl)
  x_NoLevel := He.exc_ok (cx.c.fact 104 rfl)
  x_NoTime := He.exc_ok (cx.c.fact 105 rfl)
  nt := ntB_ok (cx.x _ (List.mem_of_getElem? (i := 0) rfl))
  p_Play := nintB_ok (cx.x _ (List.mem_of_getElem? (i := 1) rfl))
  e_NoCue := erB_ok (cx.x _ (List.mem_of_getElem? (i := 2) rfl))
  e_Taken := erB_ok (cx.x _ (List.mem_of_getElem? (i := 3) rfl))
  e_TooMany := erB_ok (cx.x _ (List.mem_of_getElem? (i := 4) rfl))
  e_NoLamp := erB_ok (cx.x _ (List.mem_of_getElem? (i := 5) rfl))
  e_NoLevel := erB_ok (cx.x _ (List.mem_of_getElem? (i := 6) rfl))
  e_NoTime := erB_ok (cx.x _ (List.mem_of_getElem? (i := 7) rfl))
  e_NoText := erB_ok (cx.x _ (List.mem_of_getElem? (i := 8) rfl))
  d_is_whole := cx.c.def_ 0 (d := D_is_whole) rfl
  d_is_cue := cx.c.def_ 1 (d := D_is_cue) rfl
  d_is_lamp := cx.c.def_ 2 (d := D_is_lamp) rfl
  d_is_level := cx.c.def_ 3 (d := D_is_level) rfl
  d_is_fade := cx.c.def_ 4 (d := D_is_fade) rfl
  d_need_word := cx.c.def_ 5 (d := D_need_word) rfl
  d_number_in := cx.c.def_ 6 (d := D_number_in) rfl
  d_read := cx.c.def_ 7 (d := D_read) rfl
  d__law_mixed := cx.c.def_ 8 (d := D__law_mixed) rfl
  d__law_cell := cx.c.def_ 9 (d := D__law_cell) rfl
  d__law_lamps := cx.c.def_ 10 (d := D__law_lamps) rfl
  d__law_numbers := cx.c.def_ 11 (d := D__law_numbers) rfl
  d__law_level := cx.c.def_ 12 (d := D__law_level) rfl
  d__law_look := cx.c.def_ 13 (d := D__law_look) rfl
  d__law_whole := cx.c.def_ 14 (d := D__law_whole) rfl
  d__law_same := cx.c.def_ 15 (d := D__law_same) rfl
  d__law_cue_right := cx.c.def_ 16 (d := D__law_cue_right) rfl
  d__law_stands := cx.c.def_ 17 (d := D__law_stands) rfl
  d__law_hold := cx.c.def_ 18 (d := D__law_hold) rfl
  d__law_behind := cx.c.def_ 19 (d := D__law_behind) rfl
  d__law_put := cx.c.def_ 20 (d := D__law_put) rfl
  d__law_only := cx.c.def_ 21 (d := D__law_only) rfl
  d__law_lift := cx.c.def_ 22 (d := D__law_lift) rfl
  d__law_done := cx.c.def_ 23 (d := D__law_done) rfl
  d__law_built := cx.c.def_ 24 (d := D__law_built) rfl
  d__law_class := cx.c.def_ 25 (d := D__law_class) rfl
  d__law_number_in := cx.c.def_ 26 (d := D__law_number_in) rfl
  d__law_cue_in := cx.c.def_ 27 (d := D__law_cue_in) rfl
  d__law_word_in := cx.c.def_ 28 (d := D__law_word_in) rfl
  d__law_read := cx.c.def_ 29 (d := D__law_read) rfl
  d__law_text := cx.c.def_ 30 (d := D__law_text) rfl
  d__law_bad := cx.c.def_ 31 (d := D__law_bad) rfl
  d__law_changed := cx.c.def_ 32 (d := D__law_changed) rfl
  d__law_tried := cx.c.def_ 33 (d := D__law_tried) rfl
  d__law_told_lamps := cx.c.def_ 34 (d := D__law_told_lamps) rfl
  d_law := cx.c.def_ 35 (d := D_law) rfl
  d_NoText___init__ := cx.c.def_ 36 (d := D_NoText___init__) rfl
  d_Cue___init__ := cx.c.def_ 37 (d := D_Cue___init__) rfl
  d_Play___init__ := cx.c.def_ 38 (d := D_Play___init__) rfl
  d_Play_sure := cx.c.def_ 39 (d := D_Play_sure) rfl
  d_Play_put := cx.c.def_ 40 (d := D_Play_put) rfl
  d_Play_numbers := cx.c.def_ 41 (d := D_Play_numbers) rfl
  d_Play_cue := cx.c.def_ 42 (d := D_Play_cue) rfl
  d_Play_tell := cx.c.def_ 43 (d := D_Play_tell) rfl
  d_Play_untell := cx.c.def_ 44 (d := D_Play_untell) rfl
  d_Play_look := cx.c.def_ 45 (d := D_Play_look) rfl
  d_Play_level := cx.c.def_ 46 (d := D_Play_level) rfl
  d_Play_behind := cx.c.def_ 47 (d := D_Play_behind) rfl
  d_Play_hold := cx.c.def_ 48 (d := D_Play_hold) rfl
  d_Play_only := cx.c.def_ 49 (d := D_Play_only) rfl
  d_Play_cut := cx.c.def_ 50 (d := D_Play_cut) rfl
  d_Play_lift := cx.c.def_ 51 (d := D_Play_lift) rfl
  d_Play_spare := cx.c.def_ 52 (d := D_Play_spare) rfl
  d_Play_least := cx.c.def_ 53 (d := D_Play_least) rfl
  d_Reader___init__ := cx.c.def_ 54 (d := D_Reader___init__) rfl
  d_Reader_take_cue := cx.c.def_ 55 (d := D_Reader_take_cue) rfl
  d_Reader_take_word := cx.c.def_ 56 (d := D_Reader_take_word) rfl
  d_Reader_taken := cx.c.def_ 57 (d := D_Reader_taken) rfl
/-! ## what names, numbers are -/
/-- a whole number (no truth) within two bounds -/
def wholeV (lo hi : Int) : V → Bool
  | .int i => decide (lo ≤ i) && decide (i ≤ hi)
  | _ => false
def letter (c : Nat) : Bool := decide (97 ≤ c) && decide (c ≤ 122)
/-- a lamp's name -/
def lampS (z : Str) : Bool := decide (1 ≤ z.length) && decide (z.length ≤ 8) && z.cps.toList.all letter
def lampV : V → Bool
  | .str z => lampS z
  | _ => false

/-! ## The mathematics of plays: sorted tables -/
/-! ### an order, tables sorted by it -/
structure Lin {κ : Type} (lt : κ → κ → Prop) : Prop where
  irr : ∀ a, ¬ lt a a
  tr : ∀ a b c, lt a b → lt b c → lt a c
  tri : ∀ a b, a ≠ b → lt a b ∨ lt b a
theorem linI : Lin (fun a b : Int => a < b) := ⟨fun a h => by omega, fun a b c h h' => by omega, fun a b h => by omega⟩
theorem ltCps_irr : ∀ a, ltCps a a = false
  | [] => rfl
  | x :: r => by simp [ltCps, ltCps_irr r]
theorem ltCps_tr : ∀ a b c, ltCps a b = true → ltCps b c = true → ltCps a c = true
  | [], [], _, h, _ => by simp [ltCps] at h
  | [], _ :: _, [], _, h => by simp [ltCps] at h
  | [], _ :: _, _ :: _, _, _ => rfl
  | _ :: _, [], _, h, _ => by simp [ltCps] at h
  | _ :: _, _ :: _, [], _, h => by simp [ltCps] at h
  | x :: a, y :: b, z :: c, h, h' => by
    simp only [ltCps, Bool.or_eq_true, decide_eq_true_eq, Bool.and_eq_true, beq_iff_eq] at *
    rcases h with h | ⟨rfl, h⟩
    · rcases h' with h' | ⟨rfl, h'⟩
      · exact .inl (by omega)
      · exact .inl h
    · rcases h' with h' | ⟨rfl, h'⟩
      · exact .inl h'
      · exact .inr ⟨rfl, ltCps_tr a b c h h'⟩
theorem ltCps_tri : ∀ a b, a ≠ b → ltCps a b = true ∨ ltCps b a = true
  | [], [], h => absurd rfl h
  | [], _ :: _, _ => .inl rfl
  | _ :: _, [], _ => .inr rfl
  | x :: a, y :: b, h => by
    simp only [ltCps, Bool.or_eq_true, decide_eq_true_eq, Bool.and_eq_true, beq_iff_eq]
    rcases Nat.lt_trichotomy x y with k | rfl | k
    · exact .inl (.inl k)
    · rcases ltCps_tri a b (fun e => h (by rw [e])) with k | k
      · exact .inl (.inr ⟨rfl, k⟩)
      · exact .inr (.inr ⟨rfl, k⟩)
    · exact .inr (.inl k)
/-- the alphabet -/
def ltS (a b : Str) : Prop := ltCps a.cps.toList b.cps.toList = true
instance (a b : Str) : Decidable (ltS a b) := inferInstanceAs (Decidable (_ = true))
theorem linS : Lin ltS := ⟨fun a h => by simp [ltS, ltCps_irr] at h, fun a b c => ltCps_tr _ _ _, fun a b h => ltCps_tri _ _ fun e => h (ext_toList e)⟩
section
variable {κ α : Type} [DecidableEq κ] {lt : κ → κ → Prop} [DecidableRel lt]
theorem Lin.asym (L : Lin lt) {a b : κ} (h : lt a b) : ¬ lt b a := fun h' => L.irr a (L.tr _ _ _ h h')
/-- two rising lists with the same members are one -/
theorem rising_eq (L : Lin lt) : ∀ {l l' : List κ}, l.Pairwise lt → l'.Pairwise lt → (∀ x, x ∈ l ↔ x ∈ l') → l = l'
  | [], [], _, _, _ => rfl
  | [], y :: r, _, _, h => absurd ((h y).mpr List.mem_cons_self) (by simp)
  | x :: r, [], _, _, h => absurd ((h x).mp List.mem_cons_self) (by simp)
  | x :: r, y :: t, h1, h2, h => by
    obtain ⟨a1, b1⟩ := List.pairwise_cons.mp h1
    obtain ⟨a2, b2⟩ := List.pairwise_cons.mp h2
    have e : x = y := by
      rcases List.mem_cons.mp ((h x).mp List.mem_cons_self) with e | hx
      · exact e
      · rcases List.mem_cons.mp ((h y).mpr List.mem_cons_self) with e | hy
        · exact e.symm
        · exact absurd (a2 x hx) (L.asym (a1 y hy))
    subst e
    rw [rising_eq L b1 b2 fun z => ?_]
    constructor
    · intro hz
      rcases List.mem_cons.mp ((h z).mp (List.mem_cons_of_mem _ hz)) with e | k
      · subst e; exact absurd (a1 _ hz) (L.irr _)
      · exact k
    · intro hz
      rcases List.mem_cons.mp ((h z).mpr (List.mem_cons_of_mem _ hz)) with e | k
      · subst e; exact absurd (a2 _ hz) (L.irr _)
      · exact k
theorem rising_nodup (L : Lin lt) {l : List κ} (h : l.Pairwise lt) : l.Nodup := h.imp fun {a b} k e => by subst e; exact L.irr _ k
/-- what a table holds at a key -/
def get : List (κ × α) → κ → Option α
  | [], _ => none
  | (a, v) :: r, k => if a = k then some v else get r k
/-- a pair put in its place -/
def put (lt : κ → κ → Prop) [DecidableRel lt] (k : κ) (v : α) : List (κ × α) → List (κ × α)
  | [] => [(k, v)]
  | (a, x) :: r => if a = k then (k, v) :: r else if lt k a then (k, v) :: (a, x) :: r else (a, x) :: put lt k v r
def del (k : κ) (l : List (κ × α)) : List (κ × α) := l.filter fun e => decide (e.1 ≠ k)
abbrev Rising (lt : κ → κ → Prop) (l : List (κ × α)) : Prop := (l.map (·.1)).Pairwise lt
theorem get_mem : ∀ {l : List (κ × α)} {k : κ} {v : α}, get l k = some v → (k, v) ∈ l
  | (a, x) :: r, k, v, h => by
    unfold get at h
    by_cases e : a = k
    · rw [if_pos e] at h
      cases h; subst e
      exact List.mem_cons_self
    · rw [if_neg e] at h
      exact List.mem_cons_of_mem _ (get_mem h)
theorem get_none_iff : ∀ {l : List (κ × α)} {k : κ}, get l k = none ↔ k ∉ l.map (·.1)
  | [], k => by simp [get]
  | (a, x) :: r, k => by
    unfold get
    by_cases e : a = k
    · simp [e]
    · rw [if_neg e, get_none_iff, List.map_cons, List.mem_cons, not_or]
      exact ⟨fun h => ⟨fun z => e z.symm, h⟩, fun h => h.2⟩
theorem get_some_iff {l : List (κ × α)} {k : κ} : (∃ v, get l k = some v) ↔ k ∈ l.map (·.1) := by
  cases h : get l k with
  | none => simp [get_none_iff.mp h]
  | some v => simp only [Option.some.injEq, exists_eq', true_iff]; exact List.mem_map.mpr ⟨_, get_mem h, rfl⟩
theorem get_of_mem : ∀ {l : List (κ × α)} {k : κ} {v : α}, (l.map (·.1)).Nodup → (k, v) ∈ l → get l k = some v
  | (a, x) :: r, k, v, hn, h => by
    obtain ⟨h1, h2⟩ := List.nodup_cons.mp hn
    unfold get
    rcases List.mem_cons.mp h with e | h
    · cases e; rw [if_pos rfl]
    · rw [if_neg, get_of_mem h2 h]
      rintro rfl
      exact h1 (List.mem_map.mpr ⟨_, h, rfl⟩)
theorem get_put (k : κ) (v : α) : ∀ (l : List (κ × α)) (j : κ), get (put lt k v l) j = if j = k then some v else get l j
  | [], j => by
    unfold put get
    by_cases e : j = k
    · rw [if_pos e.symm, if_pos e]
    · rw [if_neg fun z => e z.symm, if_neg e]; rfl
  | (a, x) :: r, j => by
    unfold put
    by_cases e : a = k
    · rw [if_pos e]
      subst e
      unfold get
      by_cases z : a = j
      · rw [if_pos z, if_pos z.symm]
      · rw [if_neg z, if_neg fun y => z y.symm, if_neg z]
    · rw [if_neg e]
      by_cases h : lt k a
      · rw [if_pos h]
        by_cases z : k = j
        · rw [get, if_pos z, if_pos z.symm]
        · rw [get, if_neg z, if_neg fun y => z y.symm]
      · rw [if_neg h, get]
        by_cases z : a = j
        · rw [if_pos z, if_neg (fun y => e (z.trans y)), get, if_pos z]
        · rw [if_neg z, get_put k v r j, get, if_neg z]
theorem keys_put (k : κ) (v : α) : ∀ (l : List (κ × α)) (j : κ), j ∈ (put lt k v l).map (·.1) ↔ j = k ∨ j ∈ l.map (·.1) := by
  intro l j
  rw [← get_some_iff, get_put, ← get_some_iff]
  by_cases e : j = k <;> simp [e]
theorem rising_put (L : Lin lt) (k : κ) (v : α) : ∀ {l : List (κ × α)}, Rising lt l → Rising lt (put lt k v l)
  | [], _ => List.pairwise_singleton _ _
  | (a, x) :: r, h => by
    obtain ⟨h1, h2⟩ := List.pairwise_cons.mp h
    unfold put
    by_cases e : a = k
    · subst e; rw [if_pos rfl]; exact h
    · rw [if_neg e]
      by_cases z : lt k a
      · rw [if_pos z]
        refine List.pairwise_cons.mpr ⟨fun b hb => ?_, h⟩
        rcases List.mem_cons.mp hb with rfl | hb
        · exact z
        · exact L.tr _ _ _ z (h1 b hb)
      · rw [if_neg z]
        refine List.pairwise_cons.mpr ⟨fun b hb => ?_, rising_put L k v h2⟩
        rcases (keys_put k v r b).mp hb with rfl | hb
        · rcases L.tri a b e with q | q
          · exact q
          · exact absurd q z
        · exact h1 b hb
theorem get_del (k : κ) : ∀ (l : List (κ × α)) (j : κ), get (del k l) j = if j = k then none else get l j
  | [], j => by simp [del, get]
  | (a, x) :: r, j => by
    have ih := get_del k r j
    unfold del at ih ⊢
    by_cases e : a = k
    · rw [List.filter_cons_of_neg (by simp [e]), ih]
      by_cases z : j = k
      · rw [if_pos z, if_pos z]
      · rw [if_neg z, if_neg z, get, if_neg (fun y => z (y.symm.trans e))]
    · rw [List.filter_cons_of_pos (by simp [e]), get, get, ih]
      by_cases z : a = j
      · rw [if_pos z, if_pos z, if_neg (fun y => e (z.trans y))]
      · rw [if_neg z, if_neg z]
theorem rising_del {k : κ} {l : List (κ × α)} (h : Rising lt l) : Rising lt (del k l) := h.sublist (List.Sublist.map _ List.filter_sublist)
theorem table_ext (L : Lin lt) {l l' : List (κ × α)} (h : Rising lt l) (h' : Rising lt l') (e : ∀ k, get l k = get l' k) : l = l' := by
  have hk : l.map (·.1) = l'.map (·.1) := rising_eq L h h' fun x => by rw [← get_some_iff, ← get_some_iff, e]
  clear h'
  induction l generalizing l' with
  | nil =>
    cases l' with
    | nil => rfl
    | cons y t => simp at hk
  | cons x r ih =>
    cases l' with
    | nil => simp at hk
    | cons y t =>
      obtain ⟨hxy, hrt⟩ := List.cons.inj hk
      have hxy : x.1 = y.1 := hxy
      obtain ⟨h1, h2⟩ := List.pairwise_cons.mp h
      have e1 := e x.1
      rw [get, if_pos rfl, get, if_pos hxy.symm] at e1
      have exy : x = y := Prod.ext hxy (Option.some.inj e1)
      rw [exy, ih h2 (fun k => ?_) hrt]
      by_cases z : x.1 = k
      · subst z
        have n1 : get r x.1 = none := get_none_iff.mpr fun hm => L.irr _ (h1 _ hm)
        have n2 : get t x.1 = none := get_none_iff.mpr fun hm => L.irr _ (h1 _ (by rw [hrt]; exact hm))
        rw [n1, n2]
      · have := e k
        rwa [get, if_neg z, get, if_neg (by rw [← hxy]; exact z)] at this
theorem get_filter (p : α → Bool) : ∀ {l : List (κ × α)}, (l.map (·.1)).Nodup → ∀ k, get (l.filter fun e => p e.2) k = (get l k).filter p
  | [], _, k => rfl
  | (a, x) :: r, hn, k => by
    obtain ⟨h1, h2⟩ := List.nodup_cons.mp hn
    have ih := get_filter p h2 k
    by_cases hp : p x = true
    · rw [List.filter_cons_of_pos (by exact hp), get, get, ih]
      by_cases z : a = k
      · rw [if_pos z, if_pos z, Option.filter_some, if_pos hp]
      · rw [if_neg z, if_neg z]
    · rw [List.filter_cons_of_neg (by exact hp), ih, get]
      by_cases z : a = k
      · subst z
        rw [if_pos rfl, get_none_iff.mpr h1, Option.filter_some, if_neg hp]; rfl
      · rw [if_neg z]
end
/-- a list without doubles within another one is no longer -/
theorem nodup_le {κ : Type} [DecidableEq κ] : ∀ {l u : List κ}, l.Nodup → (∀ x ∈ l, x ∈ u) → l.length ≤ u.length
  | [], _, _, _ => Nat.zero_le _
  | x :: r, u, h, hs => by
    obtain ⟨h1, h2⟩ := List.nodup_cons.mp h
    have ih := nodup_le (u := u.erase x) h2 fun y hy => by
      refine (List.mem_erase_of_ne fun (e : y = x) => h1 (e ▸ hy)).mpr (hs y (List.mem_cons_of_mem _ hy))
    have hx := hs x List.mem_cons_self
    rw [List.length_erase_of_mem hx] at ih
    have : 0 < u.length := List.length_pos_of_mem hx
    rw [List.length_cons]; omega
theorem sortedS_rising : ∀ {l : List Str}, sortedS l = true → l.Nodup → l.Pairwise ltS := by
  have aux : ∀ (l : List Str) (p : Str), risingS p l = true → (p :: l).Nodup → (p :: l).Pairwise ltS := by
    intro l
    induction l with
    | nil => intro p _ _; simp
    | cons x r ih =>
      intro p h hn
      obtain ⟨h1, h2⟩ := Bool.and_eq_true_iff.mp (show (!ltCps x.cps.toList p.cps.toList && risingS x r) = true from h)
      obtain ⟨n1, n2⟩ := List.nodup_cons.mp hn
      have ihx := ih x h2 n2
      have px : ltS p x := by
        rcases linS.tri p x (fun e => n1 (e ▸ List.mem_cons_self)) with q | q
        · exact q
        · have : ltCps x.cps.toList p.cps.toList = true := q
          rw [this] at h1; simp at h1
      refine List.pairwise_cons.mpr ⟨fun y hy => ?_, ihx⟩
      rcases List.mem_cons.mp hy with rfl | hy
      · exact px
      · exact linS.tr _ _ _ px ((List.pairwise_cons.mp ihx).1 y hy)
  intro l h hn
  cases l with
  | nil => exact .nil
  | cons x r => exact aux r x h hn
theorem le_rising {l : List Int} (h : l.Pairwise (· ≤ ·)) (hn : l.Nodup) : l.Pairwise (fun a b => a < b) := by
  have := h.and hn
  exact this.imp fun ⟨a, b⟩ => by omega

/-! ### plays -/
abbrev Ws := List (Str × Int)
structure CueC where
  up : Int
  down : Int
  fresh : Bool
  words : Ws
abbrev Book := List (Int × CueC)
abbrev ltI (a b : Int) : Prop := a < b
/-- all words of more, over acc -/
def over (acc more : Ws) : Ws := more.foldl (fun a w => put ltS w.1 w.2 a) acc
def stepW (acc : Ws) (c : CueC) : Ws := over (if c.fresh then [] else acc) c.words
/-- all levels told behind the cues of a play -/
def lookW (M : Book) : Ws := M.foldl (fun a e => stepW a e.2) []
def upto (M : Book) (n : Int) : Book := M.filter fun e => decide (e.1 ≤ n)
def lev (M : Book) (n : Int) (l : Str) : Int := (get (lookW (upto M n)) l).getD 0
def look (M : Book) (n : Int) : Ws := (lookW (upto M n)).filter fun e => decide (0 < e.2)
/-- the level by a walk back -/
def levR (l : Str) : Book → Int
  | [] => 0
  | e :: r => match get e.2.words l with
    | some v => v
    | none => if e.2.fresh then 0 else levR l r
theorem get_over (l : Str) : ∀ (more acc : Ws), (more.map (·.1)).Nodup → get (over acc more) l = (match get more l with | some v => some v | none => get acc l)
  | [], acc, _ => rfl
  | (a, v) :: r, acc, h => by
    obtain ⟨h1, h2⟩ := List.nodup_cons.mp h
    show get (over (put ltS a v acc) r) l = _
    rw [get_over l r _ h2, get_put, get]
    by_cases e : a = l
    · subst e
      rw [if_pos rfl, get_none_iff.mpr h1]
      simp
    · rw [if_neg e, if_neg fun z => e z.symm]
theorem rising_over : ∀ (more acc : Ws), Rising ltS acc → Rising ltS (over acc more)
  | [], _, h => h
  | (a, v) :: r, acc, h => rising_over r _ (rising_put linS a v h)
theorem keys_over (l : Str) (more acc : Ws) (hn : (more.map (·.1)).Nodup) : l ∈ (over acc more).map (·.1) ↔ l ∈ more.map (·.1) ∨ l ∈ acc.map (·.1) := by
  rw [← get_some_iff, get_over l more acc hn, ← get_some_iff, ← get_some_iff]
  cases get more l <;> simp
/-- a play as it should be: U bounds the lamps -/
structure Good (U : List Str) (M : Book) : Prop where
  srt : Rising ltI M
  wsrt : ∀ e ∈ M, Rising ltS e.2.words
  num : ∀ e ∈ M, 1 ≤ e.1 ∧ e.1 ≤ 999999
  wrd : ∀ e ∈ M, ∀ w ∈ e.2.words, w.1 ∈ U ∧ 0 ≤ w.2 ∧ w.2 ≤ 100
  fad : ∀ e ∈ M, 0 ≤ e.2.up ∧ e.2.up ≤ 6000 ∧ 0 ≤ e.2.down ∧ e.2.down ≤ 6000
  len : M.length ≤ 1000
/-- the lamps of a play: few, good names -/
structure Lamps (U : List Str) : Prop where
  few : U.length ≤ 60
  ok : ∀ l ∈ U, lampS l = true
theorem Good.sub {U : List Str} {M M' : Book} (g : Good U M) (h : M'.Sublist M) : Good U M' :=
  ⟨g.srt.sublist (h.map _), fun e he => g.wsrt e (h.subset he), fun e he => g.num e (h.subset he), fun e he => g.wrd e (h.subset he), fun e he => g.fad e (h.subset he), Nat.le_trans h.length_le g.len⟩
theorem Good.nodup {U : List Str} {M : Book} (g : Good U M) : (M.map (·.1)).Nodup := rising_nodup linI g.srt
theorem Good.wnd {U : List Str} {M : Book} (g : Good U M) {e : Int × CueC} (he : e ∈ M) : (e.2.words.map (·.1)).Nodup := rising_nodup linS (g.wsrt e he)
theorem Good.at {U : List Str} {M : Book} (g : Good U M) {n : Int} {c : CueC} (h : get M n = some c) : (n, c) ∈ M := get_mem h
theorem Good.few {U : List Str} {M : Book} (g : Good U M) (u : Lamps U) {e : Int × CueC} (he : e ∈ M) : e.2.words.length ≤ 60 := by
  have := nodup_le (g.wnd he) (u := U) fun x hx => by
    obtain ⟨w, hw, rfl⟩ := List.mem_map.mp hx
    exact (g.wrd e he w hw).1
  rw [List.length_map] at this
  exact Nat.le_trans this u.few
theorem rising_stepW {acc : Ws} {c : CueC} (h : Rising ltS acc) : Rising ltS (stepW acc c) := by
  unfold stepW
  refine rising_over _ _ ?_
  by_cases e : c.fresh = true
  · rw [if_pos e]; exact .nil
  · rw [if_neg e]; exact h
theorem rising_lookW (M : Book) : Rising ltS (lookW M) := by
  suffices ∀ (M : Book) (a : Ws), Rising ltS a → Rising ltS (M.foldl (fun a e => stepW a e.2) a) from this M [] .nil
  intro M
  induction M with
  | nil => exact fun a h => h
  | cons e r ih => exact fun a h => ih _ (rising_stepW h)
theorem get_stepW {acc : Ws} {c : CueC} (hn : (c.words.map (·.1)).Nodup) (l : Str) : get (stepW acc c) l = (match get c.words l with | some v => some v | none => if c.fresh then none else get acc l) := by
  unfold stepW
  rw [get_over l _ _ hn]
  cases get c.words l with
  | some v => rfl
  | none =>
    by_cases e : c.fresh = true
    · simp only [if_pos e]; rfl
    · simp only [if_neg e]
/-- the level told last, by a walk back -/
theorem lookW_levR (l : Str) (M : Book) (hn : ∀ e ∈ M, (e.2.words.map (·.1)).Nodup) : (get (lookW M) l).getD 0 = levR l M.reverse := by
  have aux : ∀ R : Book, (∀ e ∈ R, (e.2.words.map (·.1)).Nodup) → (get (lookW R.reverse) l).getD 0 = levR l R := by
    intro R
    induction R with
    | nil => exact fun _ => rfl
    | cons e r ih =>
      intro h
      have e1 : lookW (e :: r).reverse = stepW (lookW r.reverse) e.2 := by
        unfold lookW
        rw [List.reverse_cons, List.foldl_append]
        rfl
      rw [e1, get_stepW (h e List.mem_cons_self), levR]
      cases get e.2.words l with
      | some v => rfl
      | none =>
        by_cases z : e.2.fresh = true
        · simp only [if_pos z]; rfl
        · simp only [if_neg z]; exact ih fun x hx => h x (List.mem_cons_of_mem _ hx)
  have := aux M.reverse fun e he => hn e (List.mem_reverse.mp he)
  rwa [List.reverse_reverse] at this
theorem lookW_val {U : List Str} {M : Book} (g : Good U M) : ∀ w ∈ lookW M, w.1 ∈ U ∧ 0 ≤ w.2 ∧ w.2 ≤ 100 := by
  have key : ∀ (M : Book) (a : Ws), (∀ e ∈ M, (e.2.words.map (·.1)).Nodup ∧ ∀ w ∈ e.2.words, w.1 ∈ U ∧ 0 ≤ w.2 ∧ w.2 ≤ 100) → (∀ l v, get a l = some v → l ∈ U ∧ 0 ≤ v ∧ v ≤ 100) →
      ∀ l v, get (M.foldl (fun a e => stepW a e.2) a) l = some v → l ∈ U ∧ 0 ≤ v ∧ v ≤ 100 := by
    intro M
    induction M with
    | nil => exact fun a _ h => h
    | cons e r ih =>
      intro a h ha
      refine ih (stepW a e.2) (fun x hx => h x (List.mem_cons_of_mem _ hx)) fun l v hv => ?_
      obtain ⟨h1, h2⟩ := h e List.mem_cons_self
      rw [get_stepW h1] at hv
      cases z : get e.2.words l with
      | some y =>
        rw [z] at hv
        cases hv
        exact h2 _ (get_mem z)
      | none =>
        rw [z] at hv
        by_cases f : e.2.fresh = true
        · simp only [if_pos f] at hv; cases hv
        · simp only [if_neg f] at hv; exact ha l v hv
  intro w hw
  exact key M [] (fun e he => ⟨g.wnd he, g.wrd e he⟩) (fun l v h => by cases h) w.1 w.2 (get_of_mem (rising_nodup linS (rising_lookW M)) hw)
theorem lookW_few {U : List Str} {M : Book} (g : Good U M) (u : Lamps U) : (lookW M).length ≤ 60 := by
  have := nodup_le (rising_nodup linS (rising_lookW M)) (u := U) fun x hx => by
    obtain ⟨w, hw, rfl⟩ := List.mem_map.mp hx
    exact (lookW_val g w hw).1
  rw [List.length_map] at this
  exact Nat.le_trans this u.few
theorem Good.upto {U : List Str} {M : Book} (g : Good U M) (n : Int) : Good U (upto M n) := g.sub List.filter_sublist
theorem look_rising (M : Book) (n : Int) : Rising ltS (look M n) := (rising_lookW _).sublist (List.filter_sublist.map _)
theorem get_look (M : Book) (n : Int) (l : Str) : get (look M n) l = (get (lookW (upto M n)) l).filter fun v => decide (0 < v) :=
  get_filter (fun v => decide (0 < v)) (rising_nodup linS (rising_lookW _)) l
theorem lev_range {U : List Str} {M : Book} (g : Good U M) (n : Int) (l : Str) : 0 ≤ lev M n l ∧ lev M n l ≤ 100 := by
  unfold lev
  cases h : get (lookW (upto M n)) l with
  | none => exact ⟨by decide, by decide⟩
  | some v => exact (lookW_val (g.upto n) _ (get_mem h)).2
/-- the level that the look tells -/
theorem look_lev {U : List Str} {M : Book} (g : Good U M) (n : Int) (l : Str) : (get (look M n) l).getD 0 = lev M n l := by
  rw [get_look]
  unfold lev
  cases h : get (lookW (upto M n)) l with
  | none => rfl
  | some v =>
    have := (lookW_val (g.upto n) _ (get_mem h)).2.1
    by_cases z : 0 < v
    · simp [Option.filter, z]
    · have e : v = 0 := by omega
      simp [Option.filter, e]
theorem get_look_lev {U : List Str} {M : Book} (g : Good U M) (n : Int) (l : Str) : get (look M n) l = if 0 < lev M n l then some (lev M n l) else none := by
  rw [get_look]
  unfold lev
  cases h : get (lookW (upto M n)) l with
  | none => rfl
  | some v => simp only [Option.filter_some, Option.getD_some, decide_eq_true_eq]
/-- two plays with the same levels at a cue have one look there -/
theorem look_eq {U U' : List Str} {M M' : Book} (g : Good U M) (g' : Good U' M') {n n' : Int} (h : ∀ l, lev M n l = lev M' n' l) : look M n = look M' n' :=
  table_ext linS (look_rising _ _) (look_rising _ _) fun l => by rw [get_look_lev g, get_look_lev g', h]
theorem lev_out {U : List Str} {M : Book} (g : Good U M) (n : Int) {l : Str} (h : l ∉ U) : lev M n l = 0 := by
  unfold lev
  cases e : get (lookW (upto M n)) l with
  | none => rfl
  | some v => exact absurd (lookW_val (g.upto n) _ (get_mem e)).1 h
/-- the look as the levels of lamps in alphabetical order -/
theorem look_of_lamps {U : List Str} {M : Book} (g : Good U M) (n : Int) {ls : List Str} (hs : ls.Pairwise ltS) (hu : ∀ l, 0 < lev M n l → l ∈ ls) :
    look M n = (ls.filter fun l => decide (0 < lev M n l)).map fun l => (l, lev M n l) := by
  refine table_ext linS (look_rising _ _) ?_ fun l => ?_
  · show List.Pairwise _ _
    rw [List.map_map]
    have : ((fun x : Str × Int => x.1) ∘ fun l => (l, lev M n l)) = id := rfl
    rw [this, List.map_id]
    exact hs.sublist List.filter_sublist
  · rw [get_look_lev g]
    have nd : (List.map (fun x : Str × Int => x.1) ((ls.filter fun l => decide (0 < lev M n l)).map fun l => (l, lev M n l))).Nodup := by
      rw [List.map_map]
      have : ((fun x : Str × Int => x.1) ∘ fun l => (l, lev M n l)) = id := rfl
      rw [this, List.map_id]
      exact (rising_nodup linS hs).sublist List.filter_sublist
    by_cases z : 0 < lev M n l
    · rw [if_pos z]
      refine (get_of_mem nd (List.mem_map.mpr ⟨l, List.mem_filter.mpr ⟨hu l z, by simpa using z⟩, rfl⟩)).symm
    · rw [if_neg z]
      refine (get_none_iff.mpr fun hm => ?_).symm
      obtain ⟨w, hw, rfl⟩ := List.mem_map.mp hm
      obtain ⟨k, hk, rfl⟩ := List.mem_map.mp hw
      exact z (by simpa using (List.mem_filter.mp hk).2)
/-! ### changes of a play -/
/-- the words of a cue changed -/
def setW (n : Int) (f : Ws → Ws) (M : Book) : Book := M.map fun e => if e.1 = n then (e.1, { e.2 with words := f e.2.words }) else e
theorem setW_keys (n : Int) (f : Ws → Ws) (M : Book) : (setW n f M).map (·.1) = M.map (·.1) := by
  unfold setW
  rw [List.map_map]
  refine List.map_congr_left fun e _ => ?_
  by_cases h : e.1 = n <;> simp [h]
theorem get_setW (n : Int) (f : Ws → Ws) : ∀ (M : Book) (j : Int), get (setW n f M) j = if j = n then (get M j).map (fun c => { c with words := f c.words }) else get M j
  | [], j => by simp [setW, get]
  | (a, c) :: r, j => by
    have ih := get_setW n f r j
    unfold setW at ih ⊢
    rw [List.map_cons]
    by_cases e : a = n
    · subst e
      rw [if_pos rfl, get, get, ih]
      by_cases z : a = j
      · rw [if_pos z, if_pos z, if_pos z.symm]; rfl
      · rw [if_neg z, if_neg z]
    · rw [if_neg e, get, get, ih]
      by_cases z : a = j
      · rw [if_pos z, if_pos z, if_neg fun y => e (z.trans y)]
      · rw [if_neg z, if_neg z]
theorem mem_setW {n : Int} {f : Ws → Ws} {M : Book} {e : Int × CueC} (h : e ∈ setW n f M) : ∃ e0 ∈ M, e.1 = e0.1 ∧ e.2.up = e0.2.up ∧ e.2.down = e0.2.down ∧ e.2.fresh = e0.2.fresh ∧ (e.2.words = e0.2.words ∨ (e0.1 = n ∧ e.2.words = f e0.2.words)) := by
  obtain ⟨e0, h0, rfl⟩ := List.mem_map.mp h
  refine ⟨e0, h0, ?_⟩
  by_cases z : e0.1 = n
  · rw [if_pos z]; exact ⟨rfl, rfl, rfl, rfl, .inr ⟨z, rfl⟩⟩
  · rw [if_neg z]; exact ⟨rfl, rfl, rfl, rfl, .inl rfl⟩
theorem Good.setW {U : List Str} {M : Book} (g : Good U M) {n : Int} {f : Ws → Ws} (h : ∀ ws, Rising ltS ws → (∀ w ∈ ws, w.1 ∈ U ∧ 0 ≤ w.2 ∧ w.2 ≤ 100) → Rising ltS (f ws) ∧ ∀ w ∈ f ws, w.1 ∈ U ∧ 0 ≤ w.2 ∧ w.2 ≤ 100) : Good U (setW n f M) := by
  refine ⟨by show List.Pairwise _ _; rw [setW_keys]; exact g.srt, fun e he => ?_, fun e he => ?_, fun e he => ?_, fun e he => ?_, by unfold Cue.setW; rw [List.length_map]; exact g.len⟩
  all_goals obtain ⟨e0, h0, h1, h2, h3, h4, h5⟩ := mem_setW he
  · rcases h5 with h5 | ⟨_, h5⟩
    · rw [h5]; exact g.wsrt e0 h0
    · rw [h5]; exact (h _ (g.wsrt e0 h0) (g.wrd e0 h0)).1
  · rw [h1]; exact g.num e0 h0
  · rcases h5 with h5 | ⟨_, h5⟩
    · rw [h5]; exact g.wrd e0 h0
    · rw [h5]; exact (h _ (g.wsrt e0 h0) (g.wrd e0 h0)).2
  · rw [h2, h3]; exact g.fad e0 h0
theorem wok_put {U : List Str} {l : Str} {v : Int} (hl : l ∈ U) (h0 : 0 ≤ v) (h1 : v ≤ 100) {ws : Ws} (hs : Rising ltS ws) (hw : ∀ w ∈ ws, w.1 ∈ U ∧ 0 ≤ w.2 ∧ w.2 ≤ 100) :
    Rising ltS (put ltS l v ws) ∧ ∀ w ∈ put ltS l v ws, w.1 ∈ U ∧ 0 ≤ w.2 ∧ w.2 ≤ 100 := by
  refine ⟨rising_put linS l v hs, fun w hm => ?_⟩
  have e := get_of_mem (rising_nodup linS (rising_put linS l v hs)) hm
  rw [get_put] at e
  by_cases z : w.1 = l
  · rw [if_pos z] at e
    cases e
    exact ⟨z ▸ hl, h0, h1⟩
  · rw [if_neg z] at e
    exact hw _ (get_mem e)
theorem wok_del {U : List Str} {l : Str} {ws : Ws} (hs : Rising ltS ws) (hw : ∀ w ∈ ws, w.1 ∈ U ∧ 0 ≤ w.2 ∧ w.2 ≤ 100) :
    Rising ltS (del l ws) ∧ ∀ w ∈ del l ws, w.1 ∈ U ∧ 0 ≤ w.2 ∧ w.2 ≤ 100 := ⟨rising_del hs, fun w hm => hw w (List.mem_filter.mp hm).1⟩
theorem len_put (n : Int) (c : CueC) (M : Book) : (put ltI n c M).length ≤ M.length + 1 := by
  induction M with
  | nil => exact Nat.le_refl _
  | cons e r ih =>
    unfold put
    split
    · exact Nat.le_succ _
    · split
      · exact Nat.le_refl _
      · exact Nat.succ_le_succ ih
theorem Good.put {U : List Str} {M : Book} (g : Good U M) {n : Int} {c : CueC} (hn : 1 ≤ n ∧ n ≤ 999999) (hs : Rising ltS c.words) (hw : ∀ w ∈ c.words, w.1 ∈ U ∧ 0 ≤ w.2 ∧ w.2 ≤ 100) (hf : 0 ≤ c.up ∧ c.up ≤ 6000 ∧ 0 ≤ c.down ∧ c.down ≤ 6000)
    (hl : M.length < 1000) : Good U (put ltI n c M) := by
  have key : ∀ e ∈ Cue.put ltI n c M, e = (n, c) ∨ e ∈ M := fun e he => by
    have h := get_of_mem (rising_nodup linI (rising_put linI n c g.srt)) (v := e.2) he
    rw [get_put] at h
    by_cases z : e.1 = n
    · rw [if_pos z] at h
      exact .inl (Prod.ext z (Option.some.inj h).symm)
    · rw [if_neg z] at h
      exact .inr (get_mem h)
  refine ⟨rising_put linI n c g.srt, fun e he => ?_, fun e he => ?_, fun e he => ?_, fun e he => ?_, ?_⟩
  · rcases key e he with rfl | h
    · exact hs
    · exact g.wsrt e h
  · rcases key e he with rfl | h
    · exact hn
    · exact g.num e h
  · rcases key e he with rfl | h
    · exact hw
    · exact g.wrd e h
  · rcases key e he with rfl | h
    · exact hf
    · exact g.fad e h
  · have := len_put n c M; omega
theorem Good.del {U : List Str} {M : Book} (g : Good U M) (n : Int) : Good U (del n M) := g.sub List.filter_sublist

/-! ## Tables of cues on the heap -/
section
variable {κ : Type} [DecidableEq κ]
theorem valV_iff {kvs : List (κ × V)} {k : κ} : (valV kvs k).isSome = true ↔ k ∈ kvs.map (·.1) := by
  cases h : valV kvs k with
  | none => simp [valV_not h]
  | some v => simp only [Option.isSome_some, true_iff]; exact valV_in h
theorem valV_drop (k j : κ) : ∀ kvs : List (κ × V), valV (dropK kvs k) j = if j = k then none else valV kvs j
  | [] => by simp [dropK, valV]
  | p :: r => by
    have ih := valV_drop k j r
    by_cases e : p.1 = k
    · rw [dropK_pos e, ih]
      by_cases z : j = k
      · rw [if_pos z, if_pos z]
      · rw [if_neg z, if_neg z, valV_neg fun y => z (y.symm.trans e)]
    · rw [dropK_neg e]
      by_cases z : p.1 = j
      · rw [valV_pos z, valV_pos z, if_neg fun y => e (z.trans y)]
      · rw [valV_neg z, ih, valV_neg z]
theorem putK_keys {kvs : List (κ × V)} {k : κ} {v : V} : (putK kvs k v).map (·.1) = if k ∈ kvs.map (·.1) then kvs.map (·.1) else kvs.map (·.1) ++ [k] := by
  unfold putK
  have e : (kvs.any fun kv => decide (kv.1 = k)) = decide (k ∈ kvs.map (·.1)) := by
    rw [valV_any, Bool.eq_iff_iff, valV_iff, decide_eq_true_eq]
  rw [e]
  by_cases h : k ∈ kvs.map (·.1)
  · rw [if_pos (decide_eq_true h), if_pos h, List.map_map]
    refine List.map_congr_left fun p _ => ?_
    by_cases z : p.1 = k <;> simp [z]
  · rw [if_neg (by simpa using h), if_neg h, List.map_append]; rfl
theorem nd_putK' {kvs : List (κ × V)} {k : κ} {v : V} (h : (kvs.map (·.1)).Nodup) : ((putK kvs k v).map (·.1)).Nodup := by
  rw [putK_keys]
  split
  · exact h
  · exact nd_snoc h ‹_›
theorem mem_putK {kvs : List (κ × V)} {k j : κ} {v : V} (h : j ∈ (putK kvs k v).map (·.1)) : j = k ∨ j ∈ kvs.map (·.1) := by
  rw [putK_keys] at h
  split at h
  · exact .inr h
  · rcases List.mem_append.mp h with h | h
    · exact .inr h
    · exact .inl (List.mem_singleton.mp h)
theorem mem_dropK {kvs : List (κ × V)} {k j : κ} (h : j ∈ (dropK kvs k).map (·.1)) : j ∈ kvs.map (·.1) := by
  obtain ⟨p, hp, rfl⟩ := List.mem_map.mp h
  exact List.mem_map.mpr ⟨p, dropK_mem hp, rfl⟩
end
/-! ### words -/
/-- a dict's pairs hold the words ws, in some order -/
structure WK (kvs : List (Key × V)) (ws : Ws) : Prop where
  nd : (kvs.map (·.1)).Nodup
  ks : ∀ k ∈ kvs.map (·.1), ∃ l, k = Sum.inr l
  vl : ∀ l, valV kvs (Sum.inr l) = (get ws l).map V.int
theorem WK.nil : WK [] [] := ⟨List.nodup_nil, fun k h => (by cases h), fun l => rfl⟩
theorem WK.put {kvs : List (Key × V)} {ws : Ws} (h : WK kvs ws) (l : Str) (v : Int) : WK (putK kvs (Sum.inr l) (.int v)) (put ltS l v ws) := by
  refine ⟨nd_putK' h.nd, fun k hk => ?_, fun j => ?_⟩
  · rcases mem_putK hk with rfl | hk
    · exact ⟨l, rfl⟩
    · exact h.ks k hk
  · rw [valV_put, get_put, h.vl]
    by_cases e : j = l
    · rw [if_pos (by rw [e]), if_pos e]; rfl
    · rw [if_neg (fun z => e (Sum.inr.inj z)), if_neg e]
theorem WK.drop {kvs : List (Key × V)} {ws : Ws} (h : WK kvs ws) (l : Str) : WK (dropK kvs (Sum.inr l)) (del l ws) := by
  refine ⟨nd_dropK h.nd, fun k hk => h.ks k (mem_dropK hk), fun j => ?_⟩
  rw [valV_drop, get_del, h.vl]
  by_cases e : j = l
  · rw [if_pos (by rw [e]), if_pos e]; rfl
  · rw [if_neg (fun z => e (Sum.inr.inj z)), if_neg e]
/-- its keys, as texts -/
theorem inr_keys : ∀ {ks : List Key}, (∀ k ∈ ks, ∃ l : Str, k = Sum.inr l) → ∃ ls : List Str, ks = ls.map Sum.inr
  | [], _ => ⟨[], rfl⟩
  | k :: r, h => by
    obtain ⟨l, rfl⟩ := h k List.mem_cons_self
    obtain ⟨ls, rfl⟩ := inr_keys fun j hj => h j (List.mem_cons_of_mem _ hj)
    exact ⟨l :: ls, rfl⟩
theorem inl_keys : ∀ {ks : List Key}, (∀ k ∈ ks, ∃ n : Int, k = Sum.inl n) → ∃ ns : List Int, ks = ns.map Sum.inl
  | [], _ => ⟨[], rfl⟩
  | k :: r, h => by
    obtain ⟨l, rfl⟩ := h k List.mem_cons_self
    obtain ⟨ls, rfl⟩ := inl_keys fun j hj => h j (List.mem_cons_of_mem _ hj)
    exact ⟨l :: ls, rfl⟩
theorem map_inj {α β : Type} {f : α → β} (hf : ∀ a b, f a = f b → a = b) : ∀ {l l' : List α}, l.map f = l'.map f → l = l'
  | [], [], _ => rfl
  | [], _ :: _, h => by simp at h
  | _ :: _, [], h => by simp at h
  | a :: l, b :: l', h => by
    obtain ⟨h1, h2⟩ := List.cons.inj h
    rw [hf _ _ h1, map_inj hf h2]
theorem nodup_of_map {α β : Type} {f : α → β} {l : List α} (h : (l.map f).Nodup) : l.Nodup := (List.pairwise_map.mp h).imp fun {a b} k e => k (congrArg f e)
theorem nodup_map {α β : Type} {f : α → β} (hf : ∀ a b, f a = f b → a = b) {l : List α} (h : l.Nodup) : (l.map f).Nodup := List.pairwise_map.mpr (h.imp fun {a b} k e => k (hf a b e))
theorem WK.keys {kvs : List (Key × V)} {ws : Ws} (h : WK kvs ws) : ∃ ls : List Str, kvs.map (·.1) = ls.map Sum.inr ∧ ls.Nodup ∧ ∀ l, l ∈ ls ↔ l ∈ ws.map (·.1) := by
  obtain ⟨ls, e⟩ := inr_keys h.ks
  refine ⟨ls, e, nodup_of_map (e ▸ h.nd), fun l => ?_⟩
  rw [← get_some_iff]
  have : l ∈ ls ↔ Sum.inr l ∈ kvs.map (·.1) := by
    rw [e]
    exact ⟨fun h => List.mem_map.mpr ⟨l, h, rfl⟩, fun h => by
      obtain ⟨x, hx, z⟩ := List.mem_map.mp h
      rwa [Sum.inr.inj z] at hx⟩
  rw [this, ← valV_iff, h.vl]
  cases get ws l <;> simp
theorem perm_of_mem {α : Type} [DecidableEq α] : ∀ {l l' : List α}, l.Nodup → l'.Nodup → (∀ x, x ∈ l ↔ x ∈ l') → l.Perm l'
  | [], l', _, _, h => by
    cases l' with
    | nil => exact .nil
    | cons y t => exact absurd ((h y).mpr List.mem_cons_self) (by simp)
  | x :: r, l', h1, h2, h => by
    obtain ⟨a, b⟩ := List.nodup_cons.mp h1
    have hx := (h x).mp List.mem_cons_self
    refine (List.Perm.cons x (perm_of_mem b (h2.erase x) fun y => ?_)).trans (List.perm_cons_erase hx).symm
    by_cases e : y = x
    · subst e
      exact ⟨fun hy => absurd hy a, fun hy => absurd hy h2.not_mem_erase⟩
    · rw [List.mem_erase_of_ne e, ← h y, List.mem_cons]
      exact ⟨fun z => .inr z, fun z => z.resolve_left e⟩
theorem WK.len {kvs : List (Key × V)} {ws : Ws} (h : WK kvs ws) (hs : Rising ltS ws) : kvs.length = ws.length := by
  obtain ⟨ls, e, hn, hm⟩ := h.keys
  have h1 := congrArg List.length e
  have h2 := (perm_of_mem hn (rising_nodup linS hs) hm).length_eq
  rw [List.length_map, List.length_map] at h1
  rw [List.length_map] at h2
  omega
/-- sorted(d) -/
theorem WK.sorted {kvs : List (Key × V)} {ws : Ws} (h : WK kvs ws) (hs : Rising ltS ws) {ks ys : List Str} (hk : kvs.map (·.1) = ks.map Sum.inr) (hp : ys.Perm ks) (hy : sortedS ys = true) : ys = ws.map (·.1) := by
  obtain ⟨ls, e, hn, hm⟩ := h.keys
  have e2 : ks = ls := by
    have : ks.map (Sum.inr : Str → Key) = ls.map Sum.inr := hk.symm.trans e
    exact map_inj (fun a b z => Sum.inr.inj z) this
  subst e2
  exact rising_eq linS (sortedS_rising hy (hp.nodup_iff.mpr hn)) hs fun x => by rw [hp.mem_iff, hm]
def WordsAt (H : Hp) (w : Addr) (ws : Ws) : Prop := ∃ kvs, H w = some (.dK kvs) ∧ WK kvs ws
/-- a dict that tells just the table, in its order -/
def dW (ws : Ws) : List (Key × V) := ws.map fun w => (Sum.inr w.1, V.int w.2)
theorem valV_dW (l : Str) : ∀ ws : Ws, valV (dW ws) (Sum.inr l) = (get ws l).map V.int
  | [] => rfl
  | (a, v) :: r => by
    show valV ((Sum.inr a, V.int v) :: dW r) (Sum.inr l) = _
    unfold get
    by_cases e : a = l
    · rw [valV_pos (by rw [e]), if_pos e]; rfl
    · rw [valV_neg (fun z => e (Sum.inr.inj z)), if_neg e, valV_dW l r]
theorem WK.dW {ws : Ws} (h : (ws.map (·.1)).Nodup) : WK (dW ws) ws := by
  have e : (Cue.dW ws).map (·.1) = (ws.map (·.1)).map Sum.inr := by simp [Cue.dW]
  refine ⟨by rw [e]; exact nodup_map (fun a b z => Sum.inr.inj z) h, fun k hk => ?_, fun l => valV_dW l ws⟩
  rw [e] at hk
  obtain ⟨l, _, rfl⟩ := List.mem_map.mp hk
  exact ⟨l, rfl⟩
/-! ### tables of records -/
def box (lk : Option Obj) (u : HO) : HO := match lk with
  | none => u
  | some o => .frz o u
theorem box_rd {H : Hp} {d : Addr} {lk : Option Obj} {u : HO} (h : H d = some (box lk u)) : Rd H d u := by
  cases lk with
  | none => exact .inl h
  | some o => exact .inr ⟨o, h⟩
structure TK (kvs : List (Key × V)) (M : Book) (ad : Int → Addr) : Prop where
  nd : (kvs.map (·.1)).Nodup
  ks : ∀ k ∈ kvs.map (·.1), ∃ n, k = Sum.inl n
  vl : ∀ n, valV kvs (Sum.inl n) = (get M n).map fun _ => V.ref (ad n)
/-- where the n-th record and its words lie -/
abbrev Ads := Int → Addr × Addr
def adSet (ad : Ads) (n : Int) (x : Addr × Addr) : Ads := fun m => if m = n then x else ad m
theorem TK.nil {ad : Int → Addr} : TK [] [] ad := ⟨List.nodup_nil, fun k h => (by cases h), fun l => rfl⟩
theorem TK.put {kvs : List (Key × V)} {M : Book} {ad : Ads} (h : TK kvs M fun n => (ad n).1) (n : Int) (c : CueC) (x : Addr × Addr) : TK (putK kvs (Sum.inl n) (.ref x.1)) (put ltI n c M) fun m => (adSet ad n x m).1 := by
  refine ⟨nd_putK' h.nd, fun k hk => ?_, fun j => ?_⟩
  · rcases mem_putK hk with rfl | hk
    · exact ⟨n, rfl⟩
    · exact h.ks k hk
  · rw [valV_put, get_put, h.vl]
    by_cases e : j = n
    · rw [if_pos (by rw [e]), if_pos e]; simp [adSet, e]
    · rw [if_neg (fun z => e (Sum.inl.inj z)), if_neg e]; simp [adSet, e]
theorem TK.drop {kvs : List (Key × V)} {M : Book} {ad : Int → Addr} (h : TK kvs M ad) (n : Int) : TK (dropK kvs (Sum.inl n)) (del n M) ad := by
  refine ⟨nd_dropK h.nd, fun k hk => h.ks k (mem_dropK hk), fun j => ?_⟩
  rw [valV_drop, get_del, h.vl]
  by_cases e : j = n
  · rw [if_pos (by rw [e]), if_pos e]; rfl
  · rw [if_neg (fun z => e (Sum.inl.inj z)), if_neg e]
theorem TK.keys {kvs : List (Key × V)} {M : Book} {ad : Int → Addr} (h : TK kvs M ad) : ∃ ns : List Int, kvs.map (·.1) = ns.map Sum.inl ∧ ns.Nodup ∧ ∀ n, n ∈ ns ↔ n ∈ M.map (·.1) := by
  obtain ⟨ls, e⟩ := inl_keys h.ks
  refine ⟨ls, e, nodup_of_map (e ▸ h.nd), fun l => ?_⟩
  rw [← get_some_iff]
  have : l ∈ ls ↔ Sum.inl l ∈ kvs.map (·.1) := by
    rw [e]
    exact ⟨fun h => List.mem_map.mpr ⟨l, h, rfl⟩, fun h => by
      obtain ⟨x, hx, z⟩ := List.mem_map.mp h
      rwa [Sum.inl.inj z] at hx⟩
  rw [this, ← valV_iff, h.vl]
  cases get M l <;> simp
theorem TK.len {kvs : List (Key × V)} {M : Book} {ad : Int → Addr} (h : TK kvs M ad) (hs : Rising ltI M) : kvs.length = M.length := by
  obtain ⟨ls, e, hn, hm⟩ := h.keys
  have h1 := congrArg List.length e
  have h2 := (perm_of_mem hn (rising_nodup linI hs) hm).length_eq
  rw [List.length_map, List.length_map] at h1
  rw [List.length_map] at h2
  omega
/-- sorted(d), its keys numbers -/
theorem TK.sorted {kvs : List (Key × V)} {M : Book} {ad : Int → Addr} (h : TK kvs M ad) (hs : Rising ltI M) {ks ys : List Int} (hk : kvs.map (·.1) = ks.map Sum.inl) (hp : ys.Perm ks) (hy : ys.Pairwise (· ≤ ·)) : ys = M.map (·.1) := by
  obtain ⟨ls, e, hn, hm⟩ := h.keys
  have e2 : ks = ls := by
    have : ks.map (Sum.inl : Int → Key) = ls.map Sum.inl := hk.symm.trans e
    exact map_inj (fun a b z => Sum.inl.inj z) this
  subst e2
  exact rising_eq linI (le_rising hy (hp.nodup_iff.mpr hn)) hs fun x => by rw [hp.mem_iff, hm]
abbrev RcT := HO → Int → Int → Bool → Addr → Prop
/-- a dict at d from numbers to records; each with a dict of words -/
structure TabAt (Rc : RcT) (lk : Option Obj) (H : Hp) (d : Addr) (ad : Ads) (M : Book) : Prop where
  top : ∃ kvs, H d = some (box lk (.dK kvs)) ∧ TK kvs M fun n => (ad n).1
  row : ∀ n c, get M n = some c → ∃ o, H (ad n).1 = some o ∧ Rc o c.up c.down c.fresh (ad n).2
  wrd : ∀ n c, get M n = some c → WordsAt H (ad n).2 c.words
  inj : ∀ n m c e, get M n = some c → get M m = some e → n ≠ m → (ad n).1 ≠ (ad m).1 ∧ (ad n).2 ≠ (ad m).2
  out : ∀ n c, get M n = some c → (ad n).1 ≠ d ∧ (ad n).2 ≠ d
  crs : ∀ n m c e, get M n = some c → get M m = some e → (ad n).1 ≠ (ad m).2
/-- what belongs to such a table -/
def foot (d : Addr) (ad : Ads) (M : Book) (b : Addr) : Prop := b = d ∨ ∃ n c, get M n = some c ∧ (b = (ad n).1 ∨ b = (ad n).2)
/-- all but F is as it was; F' is no more than F and new things -/
def Chg (F : Addr → Prop) (H H' : Hp) : Prop := ∀ b o, H b = some o → ¬ F b → H' b = some o
def Grow (H : Hp) (F F' : Addr → Prop) : Prop := ∀ b, F' b → F b ∨ H b = none
theorem Same.chg {F : Addr → Prop} {H H' : Hp} (s : Same H H') : Chg F H H' := fun b o e _ => s b o e
section
variable {Rc : RcT} {lk : Option Obj} {H H' : Hp} {d : Addr} {ad : Ads} {M : Book}
theorem TabAt.has (T : TabAt Rc lk H d ad M) {b : Addr} (h : foot d ad M b) : ∃ o, H b = some o := by
  rcases h with rfl | ⟨n, c, hn, rfl | rfl⟩
  · obtain ⟨kvs, e, _⟩ := T.top
    exact ⟨_, e⟩
  · obtain ⟨o, e, _⟩ := T.row n c hn
    exact ⟨_, e⟩
  · obtain ⟨kvs, e, _⟩ := T.wrd n c hn
    exact ⟨_, e⟩
theorem TabAt.frame (T : TabAt Rc lk H d ad M) (k : ∀ b o, foot d ad M b → H b = some o → H' b = some o) : TabAt Rc lk H' d ad M := by
  refine ⟨?_, fun n c hn => ?_, fun n c hn => ?_, T.inj, T.out, T.crs⟩
  · obtain ⟨kvs, e, h⟩ := T.top
    exact ⟨kvs, k _ _ (.inl rfl) e, h⟩
  · obtain ⟨o, e, h⟩ := T.row n c hn
    exact ⟨o, k _ _ (.inr ⟨n, c, hn, .inl rfl⟩) e, h⟩
  · obtain ⟨kvs, e, h⟩ := T.wrd n c hn
    exact ⟨kvs, k _ _ (.inr ⟨n, c, hn, .inr rfl⟩) e, h⟩
theorem TabAt.same (T : TabAt Rc lk H d ad M) (s : Same H H') : TabAt Rc lk H' d ad M := T.frame fun b o _ e => s b o e
/-- the words of a row changed -/
theorem TabAt.word (T : TabAt Rc lk H d ad M) {n : Int} {c : CueC} {f : Ws → Ws} (hn : get M n = some c) (k : ∀ b o, foot d ad M b → b ≠ (ad n).2 → H b = some o → H' b = some o) (hw : WordsAt H' (ad n).2 (f c.words)) :
    TabAt Rc lk H' d ad (setW n f M) := by
  have back : ∀ m e, get (setW n f M) m = some e → ∃ e0, get M m = some e0 ∧ e.up = e0.up ∧ e.down = e0.down ∧ e.fresh = e0.fresh ∧ e.words = if m = n then f e0.words else e0.words := by
    intro m e h
    rw [get_setW] at h
    by_cases z : m = n
    · rw [if_pos z] at h
      obtain ⟨e0, h0, rfl⟩ := Option.map_eq_some_iff.mp h
      exact ⟨e0, h0, rfl, rfl, rfl, by rw [if_pos z]⟩
    · rw [if_neg z] at h
      exact ⟨e, h, rfl, rfl, rfl, by rw [if_neg z]⟩
  refine ⟨?_, fun m e hm => ?_, fun m e hm => ?_, fun m j e g hm hj ne => ?_, fun m e hm => ?_, fun m j e g hm hj => ?_⟩
  · obtain ⟨kvs, e, h⟩ := T.top
    refine ⟨kvs, k _ _ (.inl rfl) (T.out n c hn).2.symm e, h.nd, h.ks, fun m => ?_⟩
    rw [h.vl, get_setW]
    by_cases z : m = n
    · rw [if_pos z]; cases get M m <;> rfl
    · rw [if_neg z]
  · obtain ⟨e0, h0, h1, h2, h3, _⟩ := back m e hm
    obtain ⟨o, ho, hr⟩ := T.row m e0 h0
    rw [h1, h2, h3]
    exact ⟨o, k _ _ (.inr ⟨m, e0, h0, .inl rfl⟩) (T.crs m n e0 c h0 hn) ho, hr⟩
  · obtain ⟨e0, h0, _, _, _, h4⟩ := back m e hm
    rw [h4]
    by_cases z : m = n
    · subst z
      rw [hn] at h0
      cases h0
      rw [if_pos rfl]; exact hw
    · rw [if_neg z]
      obtain ⟨kvs, ho, hk⟩ := T.wrd m e0 h0
      exact ⟨kvs, k _ _ (.inr ⟨m, e0, h0, .inr rfl⟩) (T.inj m n e0 c h0 hn z).2 ho, hk⟩
  · obtain ⟨e0, h0, _⟩ := back m e hm
    obtain ⟨g0, g1, _⟩ := back j g hj
    exact T.inj m j e0 g0 h0 g1 ne
  · obtain ⟨e0, h0, _⟩ := back m e hm
    exact T.out m e0 h0
  · obtain ⟨e0, h0, _⟩ := back m e hm
    obtain ⟨g0, g1, _⟩ := back j g hj
    exact T.crs m j e0 g0 h0 g1
theorem foot_word {n : Int} {f : Ws → Ws} {b : Addr} : foot d ad (setW n f M) b ↔ foot d ad M b := by
  have : ∀ m, (∃ c, get (setW n f M) m = some c) ↔ ∃ c, get M m = some c := fun m => by
    rw [get_some_iff, get_some_iff, setW_keys]
  unfold foot
  refine or_congr Iff.rfl ⟨?_, ?_⟩
  · rintro ⟨m, c, hc, h⟩
    obtain ⟨e, he⟩ := (this m).mp ⟨c, hc⟩
    exact ⟨m, e, he, h⟩
  · rintro ⟨m, c, hc, h⟩
    obtain ⟨e, he⟩ := (this m).mpr ⟨c, hc⟩
    exact ⟨m, e, he, h⟩
/-- a row put in, or put anew -/
theorem TabAt.add (T : TabAt Rc none H d ad M) {n : Int} {c : CueC} {r w : Addr} {o : HO} {kvs : List (Key × V)} (hd : H d = some (.dK kvs)) (hd' : H' d = some (.dK (putK kvs (Sum.inl n) (.ref r)))) (hr : H' r = some o) (ho : Rc o c.up c.down c.fresh w) (hw : WordsAt H' w c.words)
    (nr : ¬ foot d ad M r) (nw : ¬ foot d ad M w) (nrw : r ≠ w) (k : ∀ b u, foot d ad M b → b ≠ d → H b = some u → H' b = some u) : TabAt Rc none H' d (adSet ad n (r, w)) (put ltI n c M) := by
  have tk : TK kvs M fun n => (ad n).1 := by
    obtain ⟨kvs', e, h⟩ := T.top
    rw [hd] at e
    cases e
    exact h
  have back : ∀ m e, get (put ltI n c M) m = some e → (m = n ∧ e = c) ∨ (m ≠ n ∧ get M m = some e) := fun m e h => by
    rw [get_put] at h
    by_cases z : m = n
    · rw [if_pos z] at h; exact .inl ⟨z, (Option.some.inj h).symm⟩
    · rw [if_neg z] at h; exact .inr ⟨z, h⟩
  have aN : adSet ad n (r, w) n = (r, w) := by simp [adSet]
  have aM : ∀ m, m ≠ n → adSet ad n (r, w) m = ad m := fun m h => by simp [adSet, h]
  have fr : ∀ m e, get M m = some e → r ≠ (ad m).1 ∧ r ≠ (ad m).2 ∧ w ≠ (ad m).1 ∧ w ≠ (ad m).2 := fun m e h =>
    ⟨fun z => nr (.inr ⟨m, e, h, .inl z⟩), fun z => nr (.inr ⟨m, e, h, .inr z⟩), fun z => nw (.inr ⟨m, e, h, .inl z⟩), fun z => nw (.inr ⟨m, e, h, .inr z⟩)⟩
  refine ⟨⟨_, hd', tk.put n c (r, w)⟩, fun m e hm => ?_, fun m e hm => ?_, fun m j e g hm hj ne => ?_, fun m e hm => ?_, fun m j e g hm hj => ?_⟩
  · rcases back m e hm with ⟨rfl, rfl⟩ | ⟨z, h⟩
    · rw [aN]; exact ⟨o, hr, ho⟩
    · rw [aM m z]
      obtain ⟨u, hu, q⟩ := T.row m e h
      exact ⟨u, k _ _ (.inr ⟨m, e, h, .inl rfl⟩) (T.out m e h).1 hu, q⟩
  · rcases back m e hm with ⟨rfl, rfl⟩ | ⟨z, h⟩
    · rw [aN]; exact hw
    · rw [aM m z]
      obtain ⟨u, hu, q⟩ := T.wrd m e h
      exact ⟨u, k _ _ (.inr ⟨m, e, h, .inr rfl⟩) (T.out m e h).2 hu, q⟩
  · rcases back m e hm with ⟨rfl, rfl⟩ | ⟨z, h⟩
    · rcases back j g hj with ⟨rfl, rfl⟩ | ⟨z', h'⟩
      · exact absurd rfl ne
      · rw [aN, aM j z']; exact ⟨(fr j g h').1, (fr j g h').2.2.2⟩
    · rcases back j g hj with ⟨rfl, rfl⟩ | ⟨z', h'⟩
      · rw [aN, aM m z]; exact ⟨(fr m e h).1.symm, (fr m e h).2.2.2.symm⟩
      · rw [aM m z, aM j z']; exact T.inj m j e g h h' ne
  · rcases back m e hm with ⟨rfl, rfl⟩ | ⟨z, h⟩
    · rw [aN]; exact ⟨fun z => nr (.inl z), fun z => nw (.inl z)⟩
    · rw [aM m z]; exact T.out m e h
  · rcases back m e hm with ⟨rfl, rfl⟩ | ⟨z, h⟩
    · rcases back j g hj with ⟨rfl, rfl⟩ | ⟨z', h'⟩
      · rw [aN]; exact nrw
      · rw [aN, aM j z']; exact (fr j g h').2.1
    · rcases back j g hj with ⟨rfl, rfl⟩ | ⟨z', h'⟩
      · rw [aN, aM m z]; exact (fr m e h).2.2.1.symm
      · rw [aM m z, aM j z']; exact T.crs m j e g h h'
theorem foot_add {n : Int} {c : CueC} {r w b : Addr} (h : foot d (adSet ad n (r, w)) (put ltI n c M) b) : foot d ad M b ∨ b = r ∨ b = w := by
  rcases h with rfl | ⟨m, e, hm, hb⟩
  · exact .inl (.inl rfl)
  · rw [get_put] at hm
    by_cases z : m = n
    · subst z
      simp only [adSet, if_pos rfl] at hb
      rcases hb with h | h
      · exact .inr (.inl h)
      · exact .inr (.inr h)
    · rw [if_neg z] at hm
      simp only [adSet, if_neg z] at hb
      exact .inl (.inr ⟨m, e, hm, hb⟩)
/-- a row dropped -/
theorem TabAt.drop (T : TabAt Rc none H d ad M) {n : Int} {kvs : List (Key × V)} (hd : H d = some (.dK kvs)) (hd' : H' d = some (.dK (dropK kvs (Sum.inl n)))) (k : ∀ b u, foot d ad M b → b ≠ d → H b = some u → H' b = some u) :
    TabAt Rc none H' d ad (del n M) := by
  have tk : TK kvs M fun n => (ad n).1 := by
    obtain ⟨kvs', e, h⟩ := T.top
    rw [hd] at e
    cases e
    exact h
  have back : ∀ m e, get (del n M) m = some e → get M m = some e := fun m e h => by
    rw [get_del] at h
    by_cases z : m = n
    · rw [if_pos z] at h; cases h
    · rwa [if_neg z] at h
  refine ⟨⟨_, hd', tk.drop n⟩, fun m e hm => ?_, fun m e hm => ?_, fun m j e g hm hj => T.inj m j e g (back m e hm) (back j g hj), fun m e hm => T.out m e (back m e hm), fun m j e g hm hj => T.crs m j e g (back m e hm) (back j g hj)⟩
  · obtain ⟨u, hu, q⟩ := T.row m e (back m e hm)
    exact ⟨u, k _ _ (.inr ⟨m, e, back m e hm, .inl rfl⟩) (T.out m e (back m e hm)).1 hu, q⟩
  · obtain ⟨u, hu, q⟩ := T.wrd m e (back m e hm)
    exact ⟨u, k _ _ (.inr ⟨m, e, back m e hm, .inr rfl⟩) (T.out m e (back m e hm)).2 hu, q⟩
theorem foot_drop {n : Int} {b : Addr} (h : foot d ad (del n M) b) : foot d ad M b := by
  rcases h with rfl | ⟨m, e, hm, hb⟩
  · exact .inl rfl
  · rw [get_del] at hm
    by_cases z : m = n
    · rw [if_pos z] at hm; cases hm
    · rw [if_neg z] at hm; exact .inr ⟨m, e, hm, hb⟩
end

/-! ### sorted(d) of a dict with numbers as keys, any number of them; sorted(d, reverse=True) -/
section
variable {X : Cx} {pins : List (Addr × Obj)} {σ : L2.St} {H : Hp} {s : Shared}
/-- the keys that were collected are these numbers -/
theorem keys_ints {ks : List Int} {vs : List (Key × Value)} {acc : Array Value} (hkeys : vs.map (·.1) = ks.map Sum.inl) (h : ItemsOf (fun j v => ∃ (k : Key) (x : Value), vs[j]? = some (k, x) ∧ keyIs k v = true) acc vs.length) : IntsAre acc.toList ks ∧ acc.toList.length = ks.length := by
  have hl : vs.length = ks.length := by
    have := congrArg List.length hkeys
    rwa [List.length_map, List.length_map] at this
  have hal : acc.toList.length = ks.length := by rw [Array.length_toList, h.1, hl]
  refine ⟨ints_each hal fun j v e => ?_, hal⟩
  obtain ⟨k, x, e1, e2⟩ := h.2 j v (by rw [← Array.getElem?_toList]; exact e)
  have e3 := congrArg (fun l => l[j]?) hkeys
  simp only [List.getElem?_map, e1, Option.map_some] at e3
  obtain ⟨y, hy, rfl⟩ := Option.map_eq_some_iff.mp e3.symm
  rcases keyIs_shape e2 with ⟨i, t, ek, rfl⟩ | ⟨z, t, ek, _⟩
  · cases ek; exact ⟨y, t, hy, rfl⟩
  · cases ek
theorem sortDI_run (hcalm : X.calm = true) {a : Addr} {kvs : List (Key × V)} {ks : List Int} {b : Option Bool} {kw : List (Str × Value)} {Q : VK} (I : Inv X pins σ H s) (hd : Rd H a (.dK kvs)) (hks : kvs.map (·.1) = ks.map Sum.inl)
    (hb : match b with | none => kw = [] | some b => (∀ a, Builtin.«list.sort» ⟨[.ref a], kw⟩ = Builtin.«list.sort» ⟨[.ref a], [(Str.ofString "reverse", .bool b)]⟩)) (ha1 : argsOk "sorted" ⟨[.ref a], kw⟩) (ha2 : ∀ a, argsOk "list.sort" ⟨[a], kw⟩)
    (q : ∀ (ys : List Int) (p : Addr), ys.Perm ks → OrdB (b.getD false) ys → H p = none → Q (.ref p) (upd H p (.lst (ys.map V.int)))) : wpAny (model X.prog X.w) X.A (call (.builtin "sorted") [.ref a] kw) (EP X pins σ Q) X.xe s := by
  obtain ⟨z, lo, vs, rel, dd⟩ := dk_rd I.hok hd
  obtain ⟨ep, hat⟩ := dd.dictAt
  have hkeys : vs.map (·.1) = ks.map Sum.inl := by rw [← rel.keys]; exact hks
  have hz : vs.length ≤ sizeLine := rel.length ▸ z
  have cnt : ∀ {α : Type} {n : Nat} {k : Unit → Sem α} {Q' : α → Shared → Prop} {E' : Value → Shared → Prop} {A' : Around}, wpAny (model X.prog X.w) A' (k ()) Q' E' s → checkCount "sorted" 1 1 n = pure () → wpAny (model X.prog X.w) A' (checkCount "sorted" 1 1 n >>= k) Q' E' s := fun h e => by rw [e]; exact wpAny_bind (wpAny_pure h)
  refine call_function_entry_kw PyProof.Rows.kind_sorted PyProof.Rows.plain_sorted PyProof.Rows.entry_sorted ha1 (by
    unfold Builtin.«sorted»
    refine cnt ?_ rfl
    refine wpAny_bind (PySem.W.kdu_collect (A := X.A.in1) (PySem.W.kdl_dict (knd := mixKind X.prog X.w) (kvs := vs) (ep := ep) lo) (I.ok.hd hcalm) hat hz fun h' tk acc hk hacc => ?_)
    obtain ⟨hS, hal⟩ := keys_ints hkeys hacc
    have I1 : Inv X pins σ H { s with heap := h', toks := tk } := I.kept hk
    have hlen : ks.length ≤ sizeLine := by
      have := congrArg List.length hkeys
      rw [List.length_map, List.length_map] at this
      omega
    refine wpAny_bind (wpAny_newList ?_ (hal ▸ hlen))
    have hoL : (h'.push (seqObj "list" acc.toList.toArray 0)).get? h'.objs.size = some (seqObj "list" acc.toList.toArray 0) := Heap.get?_push_size _ rfl
    have fin : ∀ (out : List Value) (ns : List Int), IntsAre out ns → ns.Perm ks → OrdB (b.getD false) ns → EP X pins σ Q (.ref h'.objs.size) { s with heap := sortedHeap (h'.push (seqObj "list" acc.toList.toArray 0)) h'.objs.size acc.toList out.toArray, toks := tk } := by
      intro out ns g1 g2 g3
      obtain ⟨e', he'⟩ := PyProof.Rows.sortedHeap_at (vs := acc.toList) (out := out.toArray) hoL
      refine ⟨.ref h'.objs.size, upd H h'.objs.size (.lst (ns.map V.int)), I1.laid (t' := tk) (fun c u e => ?_) (Nat.le_refl _) (show ObjOk X.prog X.w _ _ _ (.lst (ns.map V.int)) from ⟨by rw [List.length_map, g2.length_eq]; exact hlen, out, e', vals_of_ints g1, he'⟩), rfl, q ns _ g2 g3 (I1.hok.fresh (Nat.le_refl _))⟩
      have hc : c < h'.objs.size := Heap.lt_size e
      rw [PyProof.Rows.sortedHeap_old (Nat.ne_of_lt hc) (size_push' .. ▸ Nat.lt_succ_of_lt hc)]
      exact Heap.get?_push_of_some _ e
    cases b with
    | none =>
      cases hb
      refine wpAny_bind (wpAny_holding (wpAny_call_entry PyProof.Rows.slot_list_sort ⟨_, hoL, rfl⟩ PyProof.Rows.entry_list_sort
        (SrtO.list_sort_ord (s := { s with heap := h'.push (seqObj "list" acc.toList.toArray 0), toks := tk }) SrtO.swo_int hoL (hal ▸ hlen) (fun h2 => SrtO.ints_sortable hS h2) fun out h1 h2 => ⟨_, rfl, ?_⟩) (PyProof.Rows.args_list_sort _)))
      obtain ⟨k1, k2, k3⟩ := SrtO.ints_out hS h1 h2
      exact wpAny_pure ⟨_, rfl, fin out _ k1 k2 k3⟩
    | some b =>
      refine wpAny_bind (wpAny_holding (wpAny_call_entry_kw PyProof.Rows.slot_list_sort ⟨_, hoL, rfl⟩ PyProof.Rows.entry_list_sort ?_ (ha2 _)))
      rw [hb]
      refine SrtR.list_sort_ordR (s := { s with heap := h'.push (seqObj "list" acc.toList.toArray 0), toks := tk }) SrtO.swo_int hoL (hal ▸ hlen) (fun h2 => SrtO.ints_sortable hS h2) fun out h1 h2 => ⟨_, rfl, ?_⟩
      obtain ⟨ns', k1, k2, k3⟩ := SrtR.ints_outR hS h1 h2
      have := fin _ ns' k1 k2 k3
      rw [Array.toArray_toList] at this
      exact wpAny_pure ⟨_, rfl, this⟩)
/-- sorted(d), numbers -/
theorem call_sortedDA (hcalm : X.calm = true) : CallR X (.builtin "sorted") (fun xs H Q => ∃ (a : Addr) (kvs : List (Key × V)) (ks : List Int), xs = [.ref a] ∧ Rd H a (.dK kvs) ∧ kvs.map (·.1) = ks.map Sum.inl ∧ ∀ (ys : List Int) (p : Addr), ys.Perm ks → ys.Pairwise (· ≤ ·) → H p = none → Q (.ref p) (upd H p (.lst (ys.map V.int)))) := by
  intro pins s σ H xs us Q I r h
  obtain ⟨a, kvs, ks, rfl, hd, hks, q⟩ := h
  obtain rfl := Vals.ref1 r
  exact sortDI_run hcalm (b := none) I hd hks rfl (PyProof.Rows.args_sorted1 _) (fun _ => PyProof.Rows.args_list_sort _) q
/-- sorted(d, reverse=True), numbers -/
theorem cr_sortedDR (hcalm : X.calm = true) : CallRK X (.builtin "sorted") [Str.ofString "reverse"] (fun xs zs H Q => ∃ (a : Addr) (kvs : List (Key × V)) (ks : List Int), xs = [.ref a] ∧ zs = [.bl true] ∧ Rd H a (.dK kvs) ∧ kvs.map (·.1) = ks.map Sum.inl ∧ ∀ (ys : List Int) (p : Addr), ys.Perm ks → ys.Pairwise (· ≥ ·) → H p = none → Q (.ref p) (upd H p (.lst (ys.map V.int)))) := by
  intro pins s σ H xs zs us ws Q I r rz h
  obtain ⟨a, kvs, ks, rfl, rfl, hd, hks, q⟩ := h
  obtain rfl := Vals.ref1 r
  obtain ⟨w1, rfl, e1⟩ := vals1 rz
  obtain rfl : w1 = Value.bool true := e1
  exact sortDI_run hcalm (b := some true) I hd hks (fun a => rfl) (PyProof.Rows.args_sorted_rev _ _) (fun _ => PyProof.Rows.args_list_sort_rev _ _) q
end
section
variable {X : Cx}
/-- d.update(e) of another dict -/
theorem mt_dupdate : MtR X "dict.update" (fun x xs H Q => ∃ d o kvs more, x = .ref d ∧ xs = [.ref o] ∧ d ≠ o ∧ H d = some (.dK kvs) ∧ Rd H o (.dK more) ∧ kvs.length + more.length ≤ sizeLine ∧ Q .non (upd H d (.dK (mergeK kvs more)))) := by
  intro pins s σ H x xs v us Q I rx rv h
  obtain ⟨d, o, kvs, more, rfl, rfl, hne, hd, ho, hz, q⟩ := h
  obtain rfl : v = Value.ref d := rx
  obtain rfl := Vals.ref1 rv
  obtain ⟨z1, n1, vs, r1, d1⟩ := dk_of I.hok hd
  obtain ⟨z2, n2, ws, r2, d2⟩ := dk_rd I.hok ho
  have hl : (mergeK kvs more).length ≤ sizeLine := Nat.le_trans (length_mergeK more kvs) hz
  refine call_meetsIn PySem.F.slot_dict_update d1.typeIs PySem.F.entry_dict_update (PySem.F.args_dict_update_2 _ _) (meets_dict_update (mixKind X.prog X.w) d o hne n2) ⟨vs, ws, d1, d2, by rw [← r1.length, ← r2.length]; exact hz, fun h' e1 e2 sb => ?_⟩
  have he : ∃ q, h'.get? d = some q := let ⟨q, _, _, hq, _⟩ := e1; ⟨q, hq⟩
  exact ⟨.non, _, d_write I (by rw [hd]; exact True.intro) sb he (dk_new hl n1 (r2.merge r1) e1), rfl, q⟩
/-- len(d), the dict locked or not -/
theorem call_lenR : CallR X (.builtin "len") (fun xs H Q => ∃ a kvs, xs = [V.ref a] ∧ Rd H a (.dK kvs) ∧ Q (.int kvs.length) H) := by
  intro pins s σ H xs us Q I r h
  obtain ⟨a, kvs, rfl, hd, q⟩ := h
  obtain rfl := Vals.ref1 r
  exact d_len I hd fun t s' I' => ⟨.int kvs.length, H, I', ⟨t, rfl⟩, q⟩
/-- sorted(d, reverse=True) -/
theorem pe_sortedDR {e : Expr} {te : TE} {p pos kp : Pos} {j : Nat} {kpos : Pos} (he : PE X e te) (hg : Gl X "sorted") (hm : X.mg "sorted" = none) (hc : X.calm = true := by rfl)
    (hE : backTo pos (starEach [e] X.env) = (false, eval e X.env) :: backTo pos (starEach [] X.env) := by rfl) (hs : starEach [e] X.env = (false, eval e X.env) :: starEach [] X.env := by rfl) :
    PE X (.Call (.Name "sorted" p) [e] [⟨some "reverse", .Constant (.bool true) j kp, kpos⟩] pos) (tCKw (fun xs zs H Q => ∃ (a : Addr) (kvs : List (Key × V)) (ks : List Int), xs = [.ref a] ∧ zs = [.bl true] ∧ Rd H a (.dK kvs) ∧ kvs.map (·.1) = ks.map Sum.inl ∧ ∀ (ys : List Int) (p : Addr), ys.Perm ks → ys.Pairwise (· ≥ ·) → H p = none → Q (.ref p) (upd H p (.lst (ys.map V.int)))) (tCons te tNil) (tCons (tC (.bl true)) tNil)) :=
  pe_callBK (cr_sortedDR hc) hg hm (by decide +kernel) (pa_cons he pa_nil hs) (pk_cons pe_bl pk_nil) (he := hE) (hpl := by rw [hE]; rfl)
end

/-! ### dicts made of pairs -/
theorem mergeK_nil' : ∀ {kvs acc : List (Key × V)}, ((acc ++ kvs).map (·.1)).Nodup → mergeK acc kvs = acc ++ kvs
  | [], acc, _ => by simp [mergeK]
  | (k, v) :: r, acc, h => by
    have hk : k ∉ acc.map (·.1) := by
      rw [List.map_append, List.map_cons, List.nodup_append] at h
      exact fun hm => h.2.2 k hm k List.mem_cons_self rfl
    have hv : valV acc k = none := by
      cases e : valV acc k with
      | none => rfl
      | some v => exact absurd (valV_in e) hk
    have e1 : mergeK acc ((k, v) :: r) = mergeK (putK acc k v) r := rfl
    rw [e1, putK_new v hv, mergeK_nil' (by simpa using h)]
    simp
theorem mergeK_nil {kvs : List (Key × V)} (h : (kvs.map (·.1)).Nodup) : mergeK [] kvs = kvs := by simpa using mergeK_nil' (acc := []) (by simpa using h)
/-- the pairs of texts and values, as a list of tuples told -/
theorem pairs_dict {K : PySem.W.Frag} {H : Hp} {g : Str → V} : ∀ {ls : List Str} {ys : List V}, Paired (fun x y => ∃ t l, x = V.str l ∧ y = V.ref t ∧ H t = some (.tup [.str l, g l])) (ls.map V.str) ys →
    ∃ ps : List Addr, ys = ps.map V.ref ∧ Paired (fun p kv => SqT K H p [kV kv.1, kv.2]) ps (ls.map fun l => ((Sum.inr l : Key), g l))
  | [], _, .nil => ⟨[], rfl, .nil⟩
  | l :: r, _, .cons h t => by
    obtain ⟨q, l', e, rfl, ht⟩ := h
    cases e
    obtain ⟨ps, rfl, hp⟩ := pairs_dict t
    exact ⟨q :: ps, rfl, .cons (.inl (.inl ht)) hp⟩
theorem strs_filter {p : Str → Bool} {f : V → Bool} (h : ∀ l, f (.str l) = p l) : ∀ ls : List Str, (ls.map V.str).filter f = (ls.filter p).map V.str
  | [] => rfl
  | l :: r => by
    rw [List.map_cons]
    cases e : p l with
    | true => rw [List.filter_cons_of_pos (by rw [h, e]), List.filter_cons_of_pos e, strs_filter h r]; rfl
    | false => rw [List.filter_cons_of_neg (by rw [h, e]; simp), List.filter_cons_of_neg (by rw [e]; simp), strs_filter h r]
/-- a table's pairs, by its keys -/
theorem dW_keys {ws : Ws} (h : (ws.map (·.1)).Nodup) (p : Int → Bool) : dW (ws.filter fun e => p e.2) = ((ws.map (·.1)).filter fun l => p ((get ws l).getD 0)).map fun l => ((Sum.inr l : Key), V.int ((get ws l).getD 0)) := by
  have key : ∀ e ∈ ws, (get ws e.1).getD 0 = e.2 := fun e he => by rw [get_of_mem (v := e.2) h he]; rfl
  have aux : ∀ r : Ws, (∀ e ∈ r, (get ws e.1).getD 0 = e.2) → dW (r.filter fun e => p e.2) = ((r.map (·.1)).filter fun l => p ((get ws l).getD 0)).map fun l => ((Sum.inr l : Key), V.int ((get ws l).getD 0)) := by
    intro r
    induction r with
    | nil => exact fun _ => rfl
    | cons e r ih =>
      intro hr
      have h1 := hr e List.mem_cons_self
      have h2 := ih fun x hx => hr x (List.mem_cons_of_mem _ hx)
      cases z : p e.2 with
      | true =>
        rw [List.filter_cons_of_pos (by exact z), List.map_cons, List.filter_cons_of_pos (by simp only [h1]; exact z), List.map_cons, ← h2]
        show _ :: _ = _
        rw [h1]; rfl
      | false => rw [List.filter_cons_of_neg (by rw [z]; simp), List.map_cons, List.filter_cons_of_neg (by simp only [h1, z]; simp), ← h2]
  exact aux ws key
theorem dW_all {ws : Ws} (h : (ws.map (·.1)).Nodup) : dW ws = (ws.map (·.1)).map fun l => ((Sum.inr l : Key), V.int ((get ws l).getD 0)) := by
  have := dW_keys h fun _ => true
  rwa [List.filter_eq_self.mpr fun _ _ => rfl, List.filter_eq_self.mpr fun _ _ => rfl] at this
theorem dW_nodup {ws : Ws} (h : Rising ltS ws) : ((dW ws).map (·.1)).Nodup := (WK.dW (rising_nodup linS h)).nd
/-- one dict put over another -/
theorem WK.merge {kvs more : List (Key × V)} {acc ws : Ws} (h : WK kvs acc) (h2 : WK more ws) (hs : (ws.map (·.1)).Nodup) : WK (mergeK kvs more) (over acc ws) := by
  have vm : ∀ (more kvs : List (Key × V)) (k : Key), (more.map (·.1)).Nodup → valV (mergeK kvs more) k = (match valV more k with | some v => some v | none => valV kvs k) := by
    intro more
    induction more with
    | nil => exact fun kvs k _ => rfl
    | cons p r ih =>
      intro kvs k hn
      obtain ⟨n1, n2⟩ := List.nodup_cons.mp hn
      show valV (mergeK (putK kvs p.1 p.2) r) k = _
      rw [ih _ k n2, valV_put]
      by_cases e : p.1 = k
      · subst e
        have : valV r p.1 = none := by
          cases z : valV r p.1 with
          | none => rfl
          | some v => exact absurd (valV_in z) n1
        rw [this, valV_pos rfl, if_pos rfl]
      · rw [valV_neg e, if_neg fun z => e z.symm]
  have nd : ∀ (more kvs : List (Key × V)), (kvs.map (·.1)).Nodup → ((mergeK kvs more).map (·.1)).Nodup := by
    intro more
    induction more with
    | nil => exact fun kvs h => h
    | cons p r ih => exact fun kvs h => ih _ (nd_putK' h)
  have km : ∀ (more kvs : List (Key × V)) (k : Key), k ∈ (mergeK kvs more).map (·.1) → k ∈ more.map (·.1) ∨ k ∈ kvs.map (·.1) := by
    intro more
    induction more with
    | nil => exact fun kvs k h => .inr h
    | cons p r ih =>
      intro kvs k h
      rcases ih _ k h with h | h
      · exact .inl (List.mem_cons_of_mem _ h)
      · rcases mem_putK h with rfl | h
        · exact .inl List.mem_cons_self
        · exact .inr h
  refine ⟨nd more kvs h.nd, fun k hk => ?_, fun l => ?_⟩
  · rcases km more kvs k hk with hk | hk
    · exact h2.ks k hk
    · exact h.ks k hk
  · rw [vm more kvs _ h2.nd, h2.vl, get_over l ws acc hs, h.vl]
    cases get ws l <;> rfl
/-- the numbers of a play, as values -/
def nums (M : Book) : List V := (M.map (·.1)).map V.int
theorem nums_at {M : Book} {i : Nat} {y : V} (h : (nums M)[i]? = some y) : ∃ e, M[i]? = some e ∧ y = .int e.1 := by
  unfold nums at h
  rw [List.map_map, List.getElem?_map] at h
  obtain ⟨e, he, rfl⟩ := Option.map_eq_some_iff.mp h
  exact ⟨e, he, rfl⟩
theorem upto_take {U : List Str} {M : Book} (g : Good U M) {n : Int} {i : Nat} (h1 : ∀ e ∈ M.take i, e.1 ≤ n) (h2 : ∀ e, M[i]? = some e → n < e.1) : upto M n = M.take i := by
  have hd : ∀ e ∈ M.drop i, n < e.1 := by
    intro e he
    cases hi : M[i]? with
    | none =>
      rw [List.drop_eq_nil_of_le (List.getElem?_eq_none_iff.mp hi)] at he
      cases he
    | some x =>
      have hx := h2 x hi
      have : M.drop i = x :: M.drop (i + 1) := by
        obtain ⟨hl, ex⟩ := List.getElem?_eq_some_iff.mp hi
        rw [List.drop_eq_getElem_cons hl, ex]
      have srt : Rising ltI (M.drop i) := g.srt.sublist ((List.drop_sublist i M).map _)
      rw [this] at he srt
      rcases List.mem_cons.mp he with rfl | he
      · exact hx
      · have := (List.pairwise_cons.mp srt).1 e.1 (List.mem_map.mpr ⟨e, he, rfl⟩)
        have : x.1 < e.1 := this
        omega
  unfold upto
  conv => lhs; rw [← List.take_append_drop i M]
  rw [List.filter_append, List.filter_eq_self.mpr fun e he => by simpa using h1 e he, List.filter_eq_nil_iff.mpr fun e he => by simpa using hd e he, List.append_nil]
theorem lookW_snoc {M : Book} {i : Nat} {e : Int × CueC} (h : M[i]? = some e) : lookW (M.take (i + 1)) = stepW (lookW (M.take i)) e.2 := by
  unfold lookW
  rw [take_snoc h, List.foldl_append]; rfl

/-! ## cuehall.names -/
section
variable {P : Program} {w : World} {K : PySem.W.Frag} {mg : Str → Option Value} {base : Heap}
def spWhole3 : Sp := sp3 fun x a b H Q _ => ∃ lo hi : Int, a = .int lo ∧ b = .int hi ∧ Pl H x ∧ Q (.bl (wholeV lo hi x)) H
def spWhole (lo hi : Int) : Sp := sp1 fun x H Q _ => Pl H x ∧ Q (.bl (wholeV lo hi x)) H
theorem sc_is_whole : FnScope ["thing", "least", "most"] ["thing", "least", "most"] (defScope s_is_whole) := ⟨rfl, rfl, rfl, by decide +kernel, rfl, by decide +kernel, by decide +kernel⟩
theorem d_is_whole (T : Txt K mg) : Def P w K mg base 1 "is_whole" ["thing", "least", "most"] (spWhole3) := by
  refine mkDef T.d_is_whole T.g_is_whole sc_is_whole (fun _ _ _ _ _ _ us hl => match us, hl with | [_, _, _], _ => rfl) len3 (BodyN.up fun cdv A outer s H vs Q E hr h => ?_)
  obtain ⟨x, _, _, rfl, lo, hi, rfl, rfl, hx, q⟩ := h
  have hu := hu_of hr
  refine ⟨_, (pss_one (ps_ret (pe_and (pe_callB call_isInt (by rfl) T.z_isinstance (by decide +kernel) (pa_cons (pv 0) (pa_cons (pe_bltn (v := .ty "int") rfl T.z_int (by decide +kernel) rfl) pa_nil))) (pe_and (pe_not (pe_callB call_isBl (by rfl) T.z_isinstance (by decide +kernel) (pa_cons (pv 0) (pa_cons (pe_bltn (v := .ty "bool") rfl T.z_bool (by decide +kernel) rfl) pa_nil)))) (pe_one (pe_chain op_le op_le (pv 1) (pv 0) (pv 2))))))), ?_⟩
  refine ⟨_, rfl, _, rfl, hx, _, rfl, ?_⟩
  cases x with
  | int i =>
    refine ⟨_, rfl, _, rfl, hx, _, rfl, _, rfl, ?_⟩
    refine ⟨_, rfl, _, rfl, _, _, rfl, rfl, _, rfl, ?_⟩
    by_cases h : lo ≤ i
    · rw [if_pos (decide_eq_true h)]
      refine ⟨_, rfl, _, _, rfl, rfl, ?_⟩
      have e : wholeV lo hi (.int i) = decide (i ≤ hi) := by simp [wholeV, h]
      rw [e] at q; exact q
    · rw [if_neg (by simpa using h)]
      have e : wholeV lo hi (.int i) = false := by simp [wholeV, h]
      rw [e] at q; exact q
  | bl b => exact ⟨_, rfl, _, rfl, hx, _, rfl, _, rfl, q⟩
  | _ => exact q
theorem sc_is_cue : FnScope ["thing"] ["thing"] (defScope s_is_cue) := ⟨rfl, rfl, rfl, by decide +kernel, rfl, by decide +kernel, by decide +kernel⟩
theorem d_is_cue (T : Txt K mg) : Def P w K mg base 2 "is_cue" ["thing"] (spWhole 1 999999) := by
  have d_is_whole := d_is_whole (P := P) (w := w) (base := base) T
  refine mkDef T.d_is_cue T.g_is_cue sc_is_cue (fun _ _ _ _ _ _ us hl => match us, hl with | [_], _ => rfl) len1 (BodyN.up fun cdv A outer s H vs Q E hr h => ?_)
  obtain ⟨x, rfl, hx, q⟩ := h
  have hu := hu_of hr
  refine ⟨_, (pss_one (ps_ret (pe_fn d_is_whole (hr.mono (by decide)) (by rfl) passL (pa_cons (pv 0) (pa_cons pe_int (pa_cons (pe_glob (v := .int 999999) rfl (T.g_LAST_CUE).choose_spec ⟨_, rfl⟩) pa_nil)))))), ?_⟩
  exact ⟨_, rfl, _, _, _, rfl, _, _, rfl, rfl, hx, q⟩
theorem sc_is_level : FnScope ["thing"] ["thing"] (defScope s_is_level) := ⟨rfl, rfl, rfl, by decide +kernel, rfl, by decide +kernel, by decide +kernel⟩
theorem d_is_level (T : Txt K mg) : Def P w K mg base 2 "is_level" ["thing"] (spWhole 0 100) := by
  have d_is_whole := d_is_whole (P := P) (w := w) (base := base) T
  refine mkDef T.d_is_level T.g_is_level sc_is_level (fun _ _ _ _ _ _ us hl => match us, hl with | [_], _ => rfl) len1 (BodyN.up fun cdv A outer s H vs Q E hr h => ?_)
  obtain ⟨x, rfl, hx, q⟩ := h
  have hu := hu_of hr
  refine ⟨_, (pss_one (ps_ret (pe_fn d_is_whole (hr.mono (by decide)) (by rfl) passL (pa_cons (pv 0) (pa_cons pe_int (pa_cons (pe_glob (v := .int 100) rfl (T.g_FULL).choose_spec ⟨_, rfl⟩) pa_nil)))))), ?_⟩
  exact ⟨_, rfl, _, _, _, rfl, _, _, rfl, rfl, hx, q⟩
theorem sc_is_fade : FnScope ["thing"] ["thing"] (defScope s_is_fade) := ⟨rfl, rfl, rfl, by decide +kernel, rfl, by decide +kernel, by decide +kernel⟩
theorem d_is_fade (T : Txt K mg) : Def P w K mg base 2 "is_fade" ["thing"] (spWhole 0 6000) := by
  have d_is_whole := d_is_whole (P := P) (w := w) (base := base) T
  refine mkDef T.d_is_fade T.g_is_fade sc_is_fade (fun _ _ _ _ _ _ us hl => match us, hl with | [_], _ => rfl) len1 (BodyN.up fun cdv A outer s H vs Q E hr h => ?_)
  obtain ⟨x, rfl, hx, q⟩ := h
  have hu := hu_of hr
  refine ⟨_, (pss_one (ps_ret (pe_fn d_is_whole (hr.mono (by decide)) (by rfl) passL (pa_cons (pv 0) (pa_cons pe_int (pa_cons (pe_glob (v := .int 6000) rfl (T.g_LONGEST_FADE).choose_spec ⟨_, rfl⟩) pa_nil)))))), ?_⟩
  exact ⟨_, rfl, _, _, _, rfl, _, _, rfl, rfl, hx, q⟩
end

theorem mem_letters (c : Nat) : decide (c ∈ (Str.ofString "abcdefghijklmnopqrstuvwxyz").cps.toList) = letter c := by
  have e : (Str.ofString "abcdefghijklmnopqrstuvwxyz").cps.toList = (List.range 26).map (fun i => 97 + i) := by decide +kernel
  rw [e, letter, Bool.eq_iff_iff]
  simp only [decide_eq_true_eq, Bool.and_eq_true, List.mem_map, List.mem_range]
  exact ⟨fun ⟨i, h, e⟩ => by omega, fun h => ⟨c - 97, by omega, by omega⟩⟩
section
variable {P : Program} {w : World} {K : PySem.W.Frag} {mg : Str → Option Value} {base : Heap}
def spLamp : Sp := sp1 fun x H Q _ => Pl H x ∧ ∀ H', Same H H' → Q (.bl (lampV x)) H'
theorem sc_is_lamp : FnScope ["thing", "sign"] ["thing"] (defScope s_is_lamp) := ⟨rfl, rfl, rfl, by decide +kernel, rfl, by decide +kernel, by decide +kernel⟩
theorem d_is_lamp (T : Txt K mg) : Def P w K mg base 1 "is_lamp" ["thing"] (spLamp) := by
  refine mkDef T.d_is_lamp T.g_is_lamp sc_is_lamp (fun _ _ _ _ _ _ us hl => match us, hl with | [_], _ => rfl) len1 (BodyN.up fun cdv A outer s H vs Q E hr h => ?_)
  obtain ⟨x, rfl, hx, q⟩ := h
  have hu := hu_of hr
  refine ⟨_, (pss_one (ps_ret (pe_and (pe_callB call_isStr (by rfl) T.z_isinstance (by decide +kernel) (pa_cons (pv 0) (pa_cons (pe_bltn (v := .ty "str") rfl T.z_str (by decide +kernel) rfl) pa_nil))) (pe_and (pe_chain op_le op_le pe_int (pe_callB call_len_str (by rfl) T.z_len (by decide +kernel) (pa_cons (pv 0) pa_nil)) (pe_glob (v := .int 8) rfl (T.g_LONGEST).choose_spec ⟨_, rfl⟩)) (pe_one (pe_callB (cr_all rfl) (by rfl) T.z_all (by decide +kernel) (pa_cons (pe_lc (own := [("sign", 1)]) rfl sc_is_lamp.nd (pi_str (pv 0)) (blkOk_by (own := [("sign", 1)]) (N := ["thing", "sign"]) (sc := defScope s_is_lamp) (by decide +kernel)) (fun _ _ _ _ _ => pg_name (i := 1) sc_is_lamp.nd rfl (Or.inl rfl)) (fun _ _ _ _ _ => pts_nil) (fun _ _ _ _ _ => (pe_cmpR op_in_sign (pv 1) (pe_glob (v := .str "abcdefghijklmnopqrstuvwxyz") rfl (T.g_LETTERS).choose_spec ⟨_, rfl⟩) rfl))) pa_nil))))))), ?_⟩
  refine ⟨_, rfl, _, rfl, hx, _, rfl, ?_⟩
  cases x with
  | str z =>
    have hz : z.length ≤ 100000 := hx.1
    have hs : z.length ≤ sizeLine := Nat.le_trans hz (by rw [sizeLine_eq]; decide)
    refine iteT ⟨_, rfl, _, rfl, hs, _, _, rfl, rfl, _, rfl, ?_⟩
    by_cases h1 : (1 : Int) ≤ z.length
    · rw [if_pos (decide_eq_true h1)]
      refine ⟨_, _, rfl, rfl, _, rfl, ?_⟩
      by_cases h2 : (z.length : Int) ≤ 8
      · rw [if_pos (decide_eq_true h2)]
        refine ⟨_, rfl, z, rfl, ?_⟩
        intro D nD
        refine lc_pure (walk_sgn (z := z)) nD yes (fun v => match v with | .str y => .bl (y.cps.toList.all letter) | _ => .non) ?_ ?_ (fun _ _ => trivial) (fun x _ H _ Q' k => tt_yes x k) ?_ ?_
        · rw [sgn, List.length_map, sizeLine_eq]
          have : z.cps.toList.length = z.length := by simp [Str.length]
          omega
        · exact fun _ => rfl
        · intro v hv _ H' s1 Q' k
          obtain ⟨c, _, rfl⟩ := List.mem_map.mp hv
          refine ⟨_, rfl, _, _, rfl, rfl, ?_⟩
          rw [mem_letters]
          have := k H' (Same.refl _)
          simpa using this
        · intro H' s1 hD
          rw [filter_yes] at hD
          refine ⟨D, z.cps.toList.map letter, rfl, .inl (.inl (by rw [hD, sgn, List.map_map, List.map_map]; congr 2; refine List.map_congr_left fun c _ => ?_; simp)), ?_⟩
          have e : (List.map letter z.cps.toList).all id = z.cps.toList.all letter := by simp [List.all_map]
          have e2 : lampV (.str z) = z.cps.toList.all letter := by
            have a : 1 ≤ z.length := by omega
            have b : z.length ≤ 8 := by omega
            simp [lampV, lampS, a, b]
          rw [e, ← e2]
          exact q H' s1
      · rw [if_neg (by simpa using h2)]
        have e : lampV (.str z) = false := by
          have b : ¬ z.length ≤ 8 := by omega
          simp [lampV, lampS, b]
        have := q H (Same.refl H)
        rw [e] at this; exact this
    · rw [if_neg (by simpa using h1)]
      have e : lampV (.str z) = false := by
        have b : ¬ 1 ≤ z.length := by omega
        simp only [lampV, lampS, decide_eq_false b, Bool.false_and]
      have := q H (Same.refl H)
      rw [e] at this; exact ⟨_, rfl, iteF this⟩
  | _ => exact q H (Same.refl H)
end

/-! ## the law's draws -/
/-- the law's scrambler -/
def mixed (c k : Int) : Int :=
  let one := (c + 7919 * k + 104729) * 48271 % 2147483647
  (one * one + 69621 * one) % 2147483629 / 7
theorem mixed_nn (c k : Int) : 0 ≤ mixed c k ∧ mixed c k < 306783376 := by
  unfold mixed; simp only; omega
section
variable {P : Program} {w : World} {K : PySem.W.Frag} {mg : Str → Option Value} {base : Heap}
def spMixed : Sp := sp2 fun a b H Q _ => ∃ c k : Int, a = .int c ∧ b = .int k ∧ Q (.int (mixed c k)) H
theorem sc__law_mixed : FnScope ["_law_cell_here", "_law_k", "_law_one"] ["_law_cell_here", "_law_k"] (defScope s__law_mixed) := ⟨rfl, rfl, rfl, by decide +kernel, rfl, by decide +kernel, by decide +kernel⟩
theorem d__law_mixed (T : Txt K mg) : Def P w K mg base 1 "_law_mixed" ["_law_cell_here", "_law_k"] (spMixed) := by
  refine mkDef T.d__law_mixed T.g__law_mixed sc__law_mixed (fun _ _ _ _ _ _ us hl => match us, hl with | [_, _], _ => rfl) len2 (BodyN.up fun cdv A outer s H vs Q E hr h => ?_)
  obtain ⟨_, _, rfl, c, k, rfl, rfl, q⟩ := h
  have hu := hu_of hr
  refine ⟨_, (pss_cons (ps_set (i := 2) sc__law_mixed.nd rfl (Or.inl rfl) (pe_op op_mod (pe_op op_mul (pe_op op_add (pe_op op_add (pv 0) (pe_op op_mul pe_int (pv 1))) pe_int) pe_int) pe_int))
    (pss_one (ps_ret (pe_op op_fdiv (pe_op op_mod (pe_op op_add (pe_op op_mul (pv 2) (pv 2)) (pe_op op_mul pe_int (pv 2))) pe_int) pe_int)))), ?_⟩
  refine ⟨_, rfl, _, rfl, _, _, rfl, rfl, .inl ⟨by decide, by decide⟩, _, _, rfl, rfl, _, _, rfl, rfl, _, _, rfl, rfl, .inr ⟨by decide, by decide⟩, _, _, rfl, rfl, by simp, ?_⟩
  have h1 : 0 ≤ (c + 7919 * k + 104729) * 48271 % 2147483647 := Int.emod_nonneg _ (by decide)
  have h2 : (c + 7919 * k + 104729) * 48271 % 2147483647 < 2147483647 := Int.emod_lt_of_pos _ (by decide)
  exact ⟨_, rfl, _, rfl, _, _, rfl, rfl, .inl ⟨by omega, by omega⟩, _, rfl, _, _, rfl, rfl, .inl ⟨by decide, by decide⟩, _, _, rfl, rfl, _, _, rfl, rfl, by simp, _, _, rfl, rfl, ⟨by decide, by decide⟩, q⟩
def spIsWhole : Sp := sp1 fun x H Q _ => Pl H x ∧ Q (.bl (isInt x && !isBl x)) H
theorem sc__law_whole : FnScope ["_law_found"] ["_law_found"] (defScope s__law_whole) := ⟨rfl, rfl, rfl, by decide +kernel, rfl, by decide +kernel, by decide +kernel⟩
theorem d__law_whole (T : Txt K mg) : Def P w K mg base 1 "_law_whole" ["_law_found"] (spIsWhole) := by
  refine mkDef T.d__law_whole T.g__law_whole sc__law_whole (fun _ _ _ _ _ _ us hl => match us, hl with | [_], _ => rfl) len1 (BodyN.up fun cdv A outer s H vs Q E hr h => ?_)
  obtain ⟨x, rfl, hx, q⟩ := h
  have hu := hu_of hr
  refine ⟨_, (pss_one (ps_ret (pe_and (pe_callB call_isInt (by rfl) T.z_isinstance (by decide +kernel) (pa_cons (pv 0) (pa_cons (pe_bltn (v := .ty "int") rfl T.z_int (by decide +kernel) rfl) pa_nil))) (pe_one (pe_not (pe_callB call_isBl (by rfl) T.z_isinstance (by decide +kernel) (pa_cons (pv 0) (pa_cons (pe_bltn (v := .ty "bool") rfl T.z_bool (by decide +kernel) rfl) pa_nil)))))))), ?_⟩
  refine ⟨_, rfl, _, rfl, hx, _, rfl, ?_⟩
  cases e : isInt x with
  | false => rw [e] at q; exact iteF q
  | true =>
    rw [e] at q
    exact iteT ⟨_, rfl, _, rfl, hx, _, rfl, q⟩
/-- an index that lies in a list -/
theorem at_in {α : Type} {xs : List α} {i : Int} {n : Nat} (h : xs.length = n) (h0 : 0 ≤ i) (h1 : i < n) : ∃ v, v ∈ xs ∧ atI xs i = some v := by
  subst h
  have hj : i.toNat < xs.length := by omega
  refine ⟨xs[i.toNat], List.getElem_mem hj, ?_⟩
  have := atI_nat (xs := xs) (j := i.toNat) (v := xs[i.toNat]) (by simp)
  rwa [Int.toNat_of_nonneg h0] at this
end

/-! ## Plays on the heap -/
/-- an attribute, the text by places told apart -/
theorem pe_fldK {X : Cx} {K : PySem.W.Frag} {e : Expr} {ta : TE} {f : Str} {pos : Pos} (hK : X.K = K) (he : PE X e ta) (hb : attributeBase e f X.env (eval e X.env) = eval e X.env) : PE X (.Attribute e f pos) (tFld K ta f) := by
  subst hK; exact pe_fld he hb
theorem s_ne {a b : Str} (h : decide (a = b) = false) : ¬ a = b := of_decide_eq_false h
/-- the attributes of a cue, in the order of its __init__ -/
def cueF (u d : Int) (f : Bool) (w : Addr) : List (Str × V) := [("up", .int u), ("down", .int d), ("fresh", .bl f), ("words", .ref w)]
theorem lookup_hit {a b : Str} {x : V} {r : List (Str × V)} (h : decide (a = b) = true) : List.lookup a ((b, x) :: r) = some x := by
  have : a = b := of_decide_eq_true h
  subst this
  simp [List.lookup]
theorem lookup_miss {a b : Str} {x : V} {r : List (Str × V)} (h : decide (a = b) = false) : List.lookup a ((b, x) :: r) = List.lookup a r := by
  have : (a == b) = false := by simpa using of_decide_eq_false h
  simp [List.lookup, this]
theorem cueF_up {u d : Int} {f : Bool} {w : Addr} : (cueF u d f w).lookup ("up" : Str) = some (V.int u) := lookup_hit (by decide +kernel)
theorem cueF_down {u d : Int} {f : Bool} {w : Addr} : (cueF u d f w).lookup ("down" : Str) = some (V.int d) := (lookup_miss (by decide +kernel)).trans (lookup_hit (by decide +kernel))
theorem cueF_fresh {u d : Int} {f : Bool} {w : Addr} : (cueF u d f w).lookup ("fresh" : Str) = some (V.bl f) := (lookup_miss (by decide +kernel)).trans ((lookup_miss (by decide +kernel)).trans (lookup_hit (by decide +kernel)))
theorem cueF_words {u d : Int} {f : Bool} {w : Addr} : (cueF u d f w).lookup ("words" : Str) = some (V.ref w) := (lookup_miss (by decide +kernel)).trans ((lookup_miss (by decide +kernel)).trans ((lookup_miss (by decide +kernel)).trans (lookup_hit (by decide +kernel))))
def playF (d : Addr) : List (Str × V) := [("kept", .ref d)]
theorem playF_kept {d : Addr} : (playF d).lookup ("kept" : Str) = some (V.ref d) := lookup_hit (by decide +kernel)
theorem playF_no {d : Addr} {m : Str} (h : decide (m = ("kept" : Str)) = false) : (playF d).lookup m = none := (lookup_miss h).trans rfl
def RcP (K : PySem.W.Frag) : RcT := fun o u d f w => ∃ dx, o = .ins (He.ga K "Cue") dx (cueF u d f w)
def RcM : RcT := fun o u d f w => o = .lst [.int u, .int d, .bl f, .ref w]
/-- a play at p: its dict at d, its cues where ad says; M what it holds -/
structure PlayAt (K : PySem.W.Frag) (U : List Str) (H : Hp) (p d : Addr) (ad : Ads) (M : Book) : Prop where
  ob : ∃ dx, H p = some (.ins (He.ga K "Play") dx (playF d))
  tb : TabAt (RcP K) none H d ad M
  off : ¬ foot d ad M p
  good : Good U M
  lamps : Lamps U
def footP (p d : Addr) (ad : Ads) (M : Book) (b : Addr) : Prop := b = p ∨ foot d ad M b
section
variable {K : PySem.W.Frag} {U : List Str} {H H' : Hp} {p d : Addr} {ad : Ads} {M : Book}
theorem PlayAt.has (T : PlayAt K U H p d ad M) {b : Addr} (h : footP p d ad M b) : ∃ o, H b = some o := by
  rcases h with rfl | h
  · obtain ⟨dx, e⟩ := T.ob
    exact ⟨_, e⟩
  · exact T.tb.has h
theorem PlayAt.frame (T : PlayAt K U H p d ad M) (k : ∀ b o, footP p d ad M b → H b = some o → H' b = some o) : PlayAt K U H' p d ad M := by
  obtain ⟨dx, e⟩ := T.ob
  exact ⟨⟨dx, k _ _ (.inl rfl) e⟩, T.tb.frame fun b o h => k b o (.inr h), T.off, T.good, T.lamps⟩
theorem PlayAt.same (T : PlayAt K U H p d ad M) (s : Same H H') : PlayAt K U H' p d ad M := T.frame fun b o _ e => s b o e
theorem PlayAt.ne_p (T : PlayAt K U H p d ad M) {b : Addr} (h : foot d ad M b) : b ≠ p := fun z => T.off (z ▸ h)
/-- the words of a cue changed -/
theorem PlayAt.word (T : PlayAt K U H p d ad M) {n : Int} {c : CueC} {f : Ws → Ws} (hn : get M n = some c) (k : ∀ b o, footP p d ad M b → b ≠ (ad n).2 → H b = some o → H' b = some o) (hw : WordsAt H' (ad n).2 (f c.words)) (g : Good U (setW n f M)) :
    PlayAt K U H' p d ad (setW n f M) := by
  obtain ⟨dx, e⟩ := T.ob
  refine ⟨⟨dx, k _ _ (.inl rfl) ?_ e⟩, T.tb.word hn (fun b o h => k b o (.inr h)) hw, fun h => T.off (foot_word.mp h), g, T.lamps⟩
  exact fun z => T.off (z ▸ .inr ⟨n, c, hn, .inr rfl⟩)
/-- what stands at a cue -/
theorem PlayAt.cue (T : PlayAt K U H p d ad M) {n : Int} {c : CueC} (hn : get M n = some c) : ∃ dx kvs, H (ad n).1 = some (.ins (He.ga K "Cue") dx (cueF c.up c.down c.fresh (ad n).2)) ∧ H (ad n).2 = some (.dK kvs) ∧ WK kvs c.words := by
  obtain ⟨o, h1, dx, rfl⟩ := T.tb.row n c hn
  obtain ⟨kvs, h2, h3⟩ := T.tb.wrd n c hn
  exact ⟨dx, kvs, h1, h2, h3⟩
theorem PlayAt.kept (T : PlayAt K U H p d ad M) : ∃ dx kvs, H p = some (.ins (He.ga K "Play") dx (playF d)) ∧ H d = some (.dK kvs) ∧ TK kvs M fun n => (ad n).1 := by
  obtain ⟨dx, e⟩ := T.ob
  obtain ⟨kvs, h, k⟩ := T.tb.top
  exact ⟨dx, kvs, e, h, k⟩
end
def cueOf (M : Book) : V → Option CueC
  | .int n => get M n
  | _ => none
theorem cueOf_range {U : List Str} {M : Book} (g : Good U M) {x : V} {c : CueC} (h : cueOf M x = some c) : wholeV 1 999999 x = true := by
  cases x with
  | int n =>
    have := g.num _ (get_mem h)
    simp [wholeV, this.1, this.2]
  | _ => cases h

section
variable {P : Program} {w : World} {K : PySem.W.Frag} {mg : Str → Option Value} {base : Heap}
/-- an own error is wished for -/
abbrev Er (K : PySem.W.Frag) (x : Str) (E : XK) (H : Hp) : Prop := ∀ H', Same H H' → E (.ref (He.ga K x)) none H'
def spNeed (K : PySem.W.Frag) : Sp := sp2 fun l v H Q E => Pl H l ∧ Pl H v ∧ (lampV l = true → wholeV 0 100 v = true → ∀ H', Same H H' → Q .non H') ∧ (lampV l = false → Er K "NoLamp" E H) ∧ (lampV l = true → wholeV 0 100 v = false → Er K "NoLevel" E H)
theorem sc_need_word : FnScope ["lamp", "level"] ["lamp", "level"] (defScope s_need_word) := ⟨rfl, rfl, rfl, by decide +kernel, rfl, by decide +kernel, by decide +kernel⟩
theorem d_need_word (T : Txt K mg) : Def P w K mg base 3 "need_word" ["lamp", "level"] (spNeed K) := by
  have d_is_lamp := d_is_lamp (P := P) (w := w) (base := base) T
  have d_is_level := d_is_level (P := P) (w := w) (base := base) T
  refine mkDef T.d_need_word T.g_need_word sc_need_word (fun _ _ _ _ _ _ us hl => match us, hl with | [_, _], _ => rfl) len2 (fun cdv A outer s H vs Q E hr h => ?_)
  obtain ⟨l, v, rfl, hl, hv, q, e1, e2⟩ := h
  have hu := hu_of hr
  refine ⟨_, (pss_cons (ps_if (pt_not (pt_val (pe_fn d_is_lamp (hr.mono (by decide)) (by rfl) (passes_call (takes_of rfl rfl rfl rfl) fun _ _ _ _ h => h) (pa_cons (pv 0) pa_nil))))
    (pss_one (ps_raise rfl (takes_of rfl rfl rfl rfl) (pmk_own PySem.F.excBase_ValueError T.x_NoLamp.1 T.g_NoLamp T.x_NoLamp.2.1 (raises_own T.x_NoLamp.2.2.1 T.x_NoLamp.2.2.2) rfl)))
    pss_nil)
    (pss_one (ps_if (pt_not (pt_val (pe_fn d_is_level (hr.mono (by decide)) (by rfl) (passes_call (takes_of rfl rfl rfl rfl) fun _ _ _ _ h => h) (pa_cons (pv 1) pa_nil))))
    (pss_one (ps_raise rfl (takes_of rfl rfl rfl rfl) (pmk_own PySem.F.excBase_ValueError T.x_NoLevel.1 T.g_NoLevel T.x_NoLevel.2.1 (raises_own T.x_NoLevel.2.2.1 T.x_NoLevel.2.2.2) rfl)))
    pss_nil))), ?_⟩
  refine ⟨_, rfl, _, rfl, hl, fun H1 s1 => ⟨_, rfl, ?_⟩⟩
  cases c1 : lampV l with
  | false => exact e1 c1 H1 s1
  | true =>
    refine ⟨_, rfl, _, rfl, Pl.same s1 hv, _, rfl, ?_⟩
    cases c2 : wholeV 0 100 v with
    | false => exact e2 c1 c2 H1 s1
    | true => exact q c1 c2 H1 s1
def spCueInit (K : PySem.W.Frag) : Sp := sp4 fun s u dn f H Q _ => ∃ (x dx : Addr) (a b : Int) (c : Bool), s = .ref x ∧ u = .int a ∧ dn = .int b ∧ f = .bl c ∧ H x = some (.ins (He.ga K "Cue") dx []) ∧
  ∀ w' H', H w' = none → w' ≠ x → H' x = some (.ins (He.ga K "Cue") dx (cueF a b c w')) → H' w' = some (.dK []) → (∀ y o, H y = some o → y ≠ x → H' y = some o) → Q .non H'
theorem sc_Cue___init__ : FnScope ["self", "up", "down", "fresh"] ["self", "up", "down", "fresh"] (defScope s_Cue___init__) := ⟨rfl, rfl, rfl, by decide +kernel, rfl, by decide +kernel, by decide +kernel⟩
theorem d_Cue___init__ (T : Txt K mg) : IDef P w K mg base (He.ma K (He.ga K "Cue") "__init__") 1 ["self", "up", "down", "fresh"] (spCueInit K) := by
  refine mkI T.d_Cue___init__ sc_Cue___init__ (fun _ _ _ _ _ _ us hl => match us, hl with | [_, _, _, _], _ => rfl) len4 (BodyN.up fun cdv A outer s H vs Q E hr h => ?_)
  obtain ⟨_, _, _, _, rfl, x, dx, a, b, c, rfl, rfl, rfl, rfl, hx, q⟩ := h
  have hu := hu_of hr
  refine ⟨_, (pss_cons (ps_fld (pv 0) (pv 1) rfl)
    (pss_cons (ps_fld (pv 0) (pv 2) rfl)
    (pss_cons (ps_fld (pv 0) (pv 3) rfl)
    (pss_one (ps_fld (pv 0) pe_dnewK rfl))))), ?_⟩
  have p1 : putF ("up" : Str) (V.int a) [] = [(("up" : Str), V.int a)] := rfl
  refine ⟨_, rfl, _, rfl, x, _, dx, _, rfl, hx, T.c_Cue, T.n_Cue_up, by simp, ?_⟩
  refine ⟨_, rfl, _, rfl, x, _, dx, _, rfl, upd_same, T.c_Cue, T.n_Cue_down, Nat.le_trans (Nat.succ_le_succ (length_putF _ _ _)) (by simp), ?_⟩
  refine ⟨_, rfl, _, rfl, x, _, dx, _, rfl, upd_same, T.c_Cue, T.n_Cue_fresh, Nat.le_trans (Nat.succ_le_succ (Nat.le_trans (length_putF _ _ _) (Nat.succ_le_succ (length_putF _ _ _)))) (by simp), ?_⟩
  intro w' nw
  have nx : w' ≠ x := fun z => by
    rw [z, upd_same] at nw; cases nw
  refine ⟨_, rfl, x, _, dx, _, rfl, by rw [upd_ne nx.symm]; exact upd_same, T.c_Cue, T.n_Cue_words, Nat.le_trans (Nat.succ_le_succ (Nat.le_trans (length_putF _ _ _) (Nat.succ_le_succ (Nat.le_trans (length_putF _ _ _) (Nat.succ_le_succ (length_putF _ _ _)))))) (by simp), ?_⟩
  have hw : H w' = none := by
    rw [upd_ne nx, upd_ne nx, upd_ne nx] at nw; exact nw
  refine q w' _ hw nx ?_ (by rw [upd_ne nx]; exact upd_same) fun y o e ne => by rw [upd_ne ne, upd_ne (ne_of_none e hw), upd_ne ne, upd_ne ne, upd_ne ne]; exact e
  rw [upd_same]
  have f1 : ¬ (("up" : Str) = "down") := by decide +kernel
  have f2 : ¬ (("up" : Str) = "fresh") := by decide +kernel
  have f3 : ¬ (("down" : Str) = "fresh") := by decide +kernel
  have f4 : ¬ (("up" : Str) = "words") := by decide +kernel
  have f5 : ¬ (("down" : Str) = "words") := by decide +kernel
  have f6 : ¬ (("fresh" : Str) = "words") := by decide +kernel
  simp only [putF, if_neg f1, if_neg f2, if_neg f3, if_neg f4, if_neg f5, if_neg f6]
  rfl
def spPlayInit (K : PySem.W.Frag) : Sp := sp1 fun s H Q _ => ∃ x dx, s = .ref x ∧ H x = some (.ins (He.ga K "Play") dx []) ∧
  ∀ d H', H d = none → H' x = some (.ins (He.ga K "Play") dx (playF d)) → H' d = some (.dK []) → (∀ y o, H y = some o → y ≠ x → H' y = some o) → Q .non H'
theorem sc_Play___init__ : FnScope ["self"] ["self"] (defScope s_Play___init__) := ⟨rfl, rfl, rfl, by decide +kernel, rfl, by decide +kernel, by decide +kernel⟩
theorem d_Play___init__ (T : Txt K mg) : IDef P w K mg base (He.ma K (He.ga K "Play") "__init__") 1 ["self"] (spPlayInit K) := by
  refine mkI T.d_Play___init__ sc_Play___init__ (fun _ _ _ _ _ _ us hl => match us, hl with | [_], _ => rfl) len1 (BodyN.up fun cdv A outer s H vs Q E hr h => ?_)
  obtain ⟨_, rfl, x, dx, rfl, hx, q⟩ := h
  have hu := hu_of hr
  refine ⟨_, (pss_one (ps_fld (pv 0) pe_dnewK rfl)), ?_⟩
  intro d nd
  have nx : d ≠ x := (ne_of_none hx nd).symm
  refine ⟨_, rfl, x, _, dx, _, rfl, by rw [upd_ne nx.symm]; exact hx, T.c_Play, T.n_Play_kept, by simp, ?_⟩
  exact q d _ nd (by rw [upd_same]; rfl) (by rw [upd_ne nx]; exact upd_same) fun y o e ne => by rw [upd_ne ne, upd_ne (ne_of_none e nd)]; exact e
def spSure (K : PySem.W.Frag) : Sp := sp2 fun s x H Q E => ∃ p d ad M U, s = .ref p ∧ PlayAt K U H p d ad M ∧ Pl H x ∧ (∀ n c, x = .int n → get M n = some c → Q (.ref (ad n).1) H) ∧ (cueOf M x = none → Er K "NoCue" E H)
theorem sc_Play_sure : FnScope ["self", "number"] ["self", "number"] (defScope s_Play_sure) := ⟨rfl, rfl, rfl, by decide +kernel, rfl, by decide +kernel, by decide +kernel⟩
theorem d_Play_sure (T : Txt K mg) : MDef P w K mg base (He.ga K "Play") 3 "sure" ["self", "number"] [] (spSure K) := by
  have d_is_cue := d_is_cue (P := P) (w := w) (base := base) T
  refine mkM T.d_Play_sure T.m_Play_sure sc_Play_sure (fun _ _ _ _ _ _ us hl => match us, hl with | [_, _], _ => rfl) len2 (fun cdv A outer s H vs Q E hr h => ?_)
  obtain ⟨_, x, rfl, p, d, ad, M, U, rfl, hp, hx, q, e1⟩ := h
  have hu := hu_of hr
  refine ⟨_, (pss_cons (ps_if (PW.pt (pw_or (pt_not (pt_val (pe_fn d_is_cue (hr.mono (by decide)) (by rfl) (passes_call (takes_of rfl rfl rfl rfl) fun _ _ _ _ h => h) (pa_cons (pv 1) pa_nil)))) (pw_or1 (pt_cmp (pc_dnotin (by exact hu) (pv 1) (pe_fld (pv 0) rfl))))))
    (pss_one (ps_raise rfl (takes_of rfl rfl rfl rfl) (pmk_own PySem.F.excBase_ValueError T.x_NoCue.1 T.g_NoCue T.x_NoCue.2.1 (raises_own T.x_NoCue.2.2.1 T.x_NoCue.2.2.2) rfl)))
    pss_nil)
    (pss_one (ps_ret (pe_dget (by exact hu) (pe_fld (pv 0) rfl) (pv 1) (fun _ _ => rfl))))), ?_⟩
  obtain ⟨dx, kvs, h1, h2, tk⟩ := hp.kept
  refine ⟨_, rfl, _, rfl, hx, _, rfl, ?_⟩
  cases c1 : wholeV 1 999999 x with
  | false =>
    refine iteT (iteT (e1 ?_ H (Same.refl H)))
    cases z : cueOf M x with
    | none => rfl
    | some c =>
      have := cueOf_range hp.good z
      rw [c1] at this; cases this
  | true =>
    cases x with
    | int n =>
      refine iteF ⟨_, rfl, _, rfl, p, _, dx, _, _, rfl, h1, T.c_Play, T.n_Play_kept, playF_kept, d, _, rfl, DGet.k (k := Sum.inl n) h2, _, rfl, ?_⟩
      rw [tk.vl]
      cases z : get M n with
      | none => exact iteT (e1 z H (Same.refl H))
      | some c => exact iteF ⟨_, rfl, p, _, dx, _, _, rfl, h1, T.c_Play, T.n_Play_kept, playF_kept, _, rfl, d, _, rfl, by rw [show some (V.ref (ad n).1) = valV kvs (Sum.inl n) by rw [tk.vl, z]; rfl]; exact DGet.k (k := Sum.inl n) h2, q n c rfl z⟩
    | _ => cases c1
end

section
variable {P : Program} {w : World} {K : PySem.W.Frag} {mg : Str → Option Value} {base : Heap}
/-- a play is changed, the rest is not -/
def Becomes (K : PySem.W.Frag) (U : List Str) (H : Hp) (p d : Addr) (ad : Ads) (M M' : Book) (k : Hp → Prop) : Prop :=
  ∀ H' ad', PlayAt K U H' p d ad' M' → Chg (footP p d ad M) H H' → Grow H (footP p d ad M) (footP p d ad' M') → k H'
def spPut (K : PySem.W.Frag) : Sp := sp5 fun s x u dn f H Q E => ∃ p d ad M U b, s = .ref p ∧ f = .bl b ∧ PlayAt K U H p d ad M ∧ Pl H x ∧ Pl H u ∧ Pl H dn ∧
  (wholeV 1 999999 x = false → Er K "NoCue" E H) ∧ (wholeV 1 999999 x = true → cueOf M x ≠ none → Er K "Taken" E H) ∧
  (wholeV 1 999999 x = true → cueOf M x = none → (wholeV 0 6000 u && wholeV 0 6000 dn) = false → Er K "NoTime" E H) ∧
  (wholeV 1 999999 x = true → cueOf M x = none → (wholeV 0 6000 u && wholeV 0 6000 dn) = true → 100 ≤ M.length → Er K "TooMany" E H) ∧
  (∀ n i j, x = .int n → u = .int i → dn = .int j → (1 ≤ n ∧ n ≤ 999999) → (0 ≤ i ∧ i ≤ 6000 ∧ 0 ≤ j ∧ j ≤ 6000) → get M n = none → M.length < 100 → Becomes K U H p d ad M (put ltI n ⟨i, j, b, []⟩ M) (Q .non))
theorem whole_int {lo hi : Int} {x : V} (h : wholeV lo hi x = true) : ∃ i, x = .int i ∧ lo ≤ i ∧ i ≤ hi := by
  cases x with
  | int i => exact ⟨i, rfl, by simpa [wholeV] using h⟩
  | _ => cases h
theorem whole_of {lo hi i : Int} (h : lo ≤ i ∧ i ≤ hi) : wholeV lo hi (.int i) = true := by simp [wholeV, h.1, h.2]
theorem sc_Play_put : FnScope ["self", "number", "up", "down", "fresh"] ["self", "number", "up", "down", "fresh"] (defScope s_Play_put) := ⟨rfl, rfl, rfl, by decide +kernel, rfl, by decide +kernel, by decide +kernel⟩
theorem f_Play_put (T : Txt K mg) {fd : FuncData} (F : FunD K "put" "Play.put" (defArgs s_Play_put) (defBody s_Play_put) (defScope s_Play_put) [V.int 0, V.int 0, V.bl false] [] (He.ma K (He.ga K "Play") "put") fd) : FnOk P w K mg base (L2.CX P w) 3 (He.ma K (He.ga K "Play") "put") fd ["self", "number", "up", "down", "fresh"] (spPut K) := by
  have d_Cue___init__ := d_Cue___init__ (P := P) (w := w) (base := base) T
  have d_is_cue := d_is_cue (P := P) (w := w) (base := base) T
  have d_is_fade := d_is_fade (P := P) (w := w) (base := base) T
  refine F.ok sc_Play_put len5 (fun cdv A outer s H vs Q E hr h => ?_)
  obtain ⟨_, x, u, dn, _, rfl, p, d, ad, M, U, b, rfl, rfl, hp, hx, hu', hd', e1, e2, e3, e4, q⟩ := h
  have hu := hu_of hr
  refine ⟨_, (pss_cons (ps_if (pt_not (pt_val (pe_fn d_is_cue (hr.mono (by decide)) (by rfl) (passes_call (takes_of rfl rfl rfl rfl) fun _ _ _ _ h => h) (pa_cons (pv 1) pa_nil))))
    (pss_one (ps_raise rfl (takes_of rfl rfl rfl rfl) (pmk_own PySem.F.excBase_ValueError T.x_NoCue.1 T.g_NoCue T.x_NoCue.2.1 (raises_own T.x_NoCue.2.2.1 T.x_NoCue.2.2.2) rfl)))
    pss_nil)
    (pss_cons (ps_if (pt_cmp (pc_din (by exact hu) (pv 1) (pe_fld (pv 0) rfl)))
    (pss_one (ps_raise rfl (takes_of rfl rfl rfl rfl) (pmk_own PySem.F.excBase_ValueError T.x_Taken.1 T.g_Taken T.x_Taken.2.1 (raises_own T.x_Taken.2.2.1 T.x_Taken.2.2.2) rfl)))
    pss_nil)
    (pss_cons (ps_if (PW.pt (pw_or (pt_not (pt_val (pe_fn d_is_fade (hr.mono (by decide)) (by rfl) (passes_call (takes_of rfl rfl rfl rfl) fun _ _ _ _ h => h) (pa_cons (pv 2) pa_nil)))) (pw_or1 (pt_not (pt_val (pe_fn d_is_fade (hr.mono (by decide)) (by rfl) (passes_call (takes_of rfl rfl rfl rfl) fun _ _ _ _ h => h) (pa_cons (pv 3) pa_nil)))))))
    (pss_one (ps_raise rfl (takes_of rfl rfl rfl rfl) (pmk_own PySem.F.excBase_ValueError T.x_NoTime.1 T.g_NoTime T.x_NoTime.2.1 (raises_own T.x_NoTime.2.2.1 T.x_NoTime.2.2.2) rfl)))
    pss_nil)
    (pss_cons (ps_if (pt_cmpR op_ge (pe_callB call_lenR (by rfl) T.z_len (by decide +kernel) (pa_cons (pe_fld (pv 0) rfl) pa_nil)) (pe_glob (v := .int 100) rfl (T.g_MOST_CUES).choose_spec ⟨_, rfl⟩) (nomark _))
    (pss_one (ps_raise rfl (takes_of rfl rfl rfl rfl) (pmk_own PySem.F.excBase_ValueError T.x_TooMany.1 T.g_TooMany T.x_TooMany.2.1 (raises_own T.x_TooMany.2.2.1 T.x_TooMany.2.2.2) rfl)))
    pss_nil)
    (pss_one (ps_dput hu (pe_fld (pv 0) rfl) (pv 1) (pe_mk T.k_Cue d_Cue___init__ (hr.mono (by decide)) (by rfl) T.g_Cue (passes_call (takes_of rfl rfl rfl rfl) fun _ _ _ _ h => h) (pa_cons (pv 2) (pa_cons (pv 3) (pa_cons (pv 4) pa_nil)))) rfl)))))), ?_⟩
  obtain ⟨dx, kvs, h1, h2, tk⟩ := hp.kept
  refine ⟨_, rfl, _, rfl, hx, _, rfl, ?_⟩
  cases c1 : wholeV 1 999999 x with
  | false => exact iteT (e1 c1 H (Same.refl H))
  | true =>
    obtain ⟨n, rfl, hn⟩ := whole_int c1
    refine iteF ⟨_, rfl, _, rfl, p, _, dx, _, _, rfl, h1, T.c_Play, T.n_Play_kept, playF_kept, d, _, rfl, DGet.k (k := Sum.inl n) h2, _, rfl, ?_⟩
    rw [tk.vl]
    cases c2 : get M n with
    | some c => exact iteT (e2 c1 (by show get M n ≠ none; rw [c2]; simp) H (Same.refl H))
    | none =>
      refine iteF ⟨_, rfl, _, rfl, hu', _, rfl, ?_⟩
      cases c3 : wholeV 0 6000 u with
      | false => exact iteT (iteT (e3 c1 c2 (by rw [c3]; rfl) H (Same.refl H)))
      | true =>
        refine iteF ⟨_, rfl, _, rfl, hd', _, rfl, ?_⟩
        cases c4 : wholeV 0 6000 dn with
        | false => exact iteT (e3 c1 c2 (by rw [c3, c4]; rfl) H (Same.refl H))
        | true =>
          refine iteF ⟨_, rfl, p, _, dx, _, _, rfl, h1, T.c_Play, T.n_Play_kept, playF_kept, d, kvs, rfl, .inl h2, _, _, rfl, rfl, _, rfl, ite2 (fun c5 => ?_) (fun c5 => ?_)⟩
          · have c5 : (100 : Int) ≤ kvs.length := of_decide_eq_true c5
            exact e4 c1 c2 (by rw [c3, c4]; rfl) (by rw [← tk.len hp.good.srt]; omega) H (Same.refl H)
          · have c5 : ¬ (100 : Int) ≤ kvs.length := fun z => c5 (decide_eq_true z)
            have hl : M.length < 100 := by rw [← tk.len hp.good.srt]; omega
            obtain ⟨i, rfl, hi⟩ := whole_int c3
            obtain ⟨j, rfl, hj⟩ := whole_int c4
            refine ⟨_, rfl, _, rfl, _, rfl, fun r dr nr ndr ner => ⟨_, _, _, _, rfl, r, dr, i, j, b, rfl, rfl, rfl, rfl, upd_same, fun w' H1 nw nwr er ew kp => ⟨rfl, ?_⟩⟩⟩
            have kp' : ∀ y o, H y = some o → H1 y = some o := fun y o e => kp y o (by rw [upd_ne (ne_of_none e nr), upd_ne (ne_of_none e ndr)]; exact e) (ne_of_none e nr)
            have nw' : H w' = none := by
              have : w' ≠ r := nwr
              rw [upd_ne this] at nw
              by_cases z : w' = dr
              · rw [z, upd_same] at nw; cases nw
              · rwa [upd_ne z] at nw
            refine ⟨_, rfl, p, _, dx, _, _, rfl, kp' _ _ h1, T.c_Play, T.n_Play_kept, playF_kept, _, rfl, d, _, rfl, DPut.k (k := Sum.inl n) (kp' _ _ h2) (by rw [sizeLine_eq]; omega), ?_⟩
            have hasF := fun {b} (h : footP p d ad M b) => hp.has h
            have nrF : ¬ foot d ad M r := fun h => by obtain ⟨o, e⟩ := hasF (.inr h); rw [nr] at e; cases e
            have nwF : ¬ foot d ad M w' := fun h => by obtain ⟨o, e⟩ := hasF (.inr h); rw [nw'] at e; cases e
            have rd : r ≠ d := fun z => nrF (.inl z)
            have wd : w' ≠ d := fun z => nwF (.inl z)
            have pd : p ≠ d := fun z => hp.off (.inl z)
            have tb := hp.tb.add (c := ⟨i, j, b, []⟩) (H' := upd H1 d (.dK (putK kvs (Sum.inl n) (.ref r)))) h2 upd_same (by rw [upd_ne rd]; exact er) ⟨dr, rfl⟩ ⟨[], by rw [upd_ne wd]; exact ew, .nil⟩ nrF nwF nwr.symm (fun y o _ ne e => by rw [upd_ne ne]; exact kp' y o e)
            refine q n i j rfl rfl rfl hn ⟨hi.1, hi.2, hj.1, hj.2⟩ c2 hl _ _ ⟨⟨dx, by rw [upd_ne pd]; exact kp' _ _ h1⟩, tb, fun h => ?_, hp.good.put hn .nil (by simp) ⟨hi.1, hi.2, hj.1, hj.2⟩ (by omega), hp.lamps⟩ (fun y o e ne => by rw [upd_ne fun z => ne (.inr (.inl z))]; exact kp' y o e) (fun y hy => ?_)
            · rcases foot_add h with h | h | h
              · exact hp.off h
              · exact absurd (h ▸ h1) (by rw [nr]; simp)
              · exact absurd (h ▸ h1) (by rw [nw']; simp)
            · rcases hy with h | h
              · exact .inl (.inl h)
              · rcases foot_add h with h | h | h
                · exact .inl (.inr h)
                · exact .inr (h ▸ nr)
                · exact .inr (h ▸ nw')
def spNumbers (K : PySem.W.Frag) : Sp := sp1 fun s H Q _ => ∃ p d ad M U, s = .ref p ∧ PlayAt K U H p d ad M ∧ ∀ H' l, Same H H' → H l = none → H' l = some (.lst (nums M)) → Q (.ref l) H'
theorem d_Play_put (T : Txt K mg) : MDef P w K mg base (He.ga K "Play") 3 "put" ["self", "number", "up", "down", "fresh"] (List.drop 3 [V.int 0, V.int 0, V.bl false]) (spPut K) := by
  obtain ⟨fd, F⟩ := T.d_Play_put
  obtain ⟨ds, hv, hb⟩ := F.binds1 (ps := ["self", "number", "up", "down", "fresh"]) 5 3 (by simp) (by simp) (fun _ _ _ _ _ _ _ us its hu hi => match us, its, hu, hi with | [_, _, _, _, _], [_, _, _], _, _ => ⟨_, rfl, rfl⟩)
  exact ⟨_, fd, ds, T.m_Play_put, f_Play_put T F, hb, hv⟩
theorem d_Play_put_1 (T : Txt K mg) : MDef P w K mg base (He.ga K "Play") 3 "put" ["self", "number", "up", "down", "fresh"] (List.drop 2 [V.int 0, V.int 0, V.bl false]) (spPut K) := by
  obtain ⟨fd, F⟩ := T.d_Play_put
  obtain ⟨ds, hv, hb⟩ := F.binds1 (ps := ["self", "number", "up", "down", "fresh"]) 4 2 (by simp) (by simp) (fun _ _ _ _ _ _ _ us its hu hi => match us, its, hu, hi with | [_, _, _, _], [_, _, _], _, _ => ⟨_, rfl, rfl⟩)
  exact ⟨_, fd, ds, T.m_Play_put, f_Play_put T F, hb, hv⟩
theorem d_Play_put_2 (T : Txt K mg) : MDef P w K mg base (He.ga K "Play") 3 "put" ["self", "number", "up", "down", "fresh"] (List.drop 1 [V.int 0, V.int 0, V.bl false]) (spPut K) := by
  obtain ⟨fd, F⟩ := T.d_Play_put
  obtain ⟨ds, hv, hb⟩ := F.binds1 (ps := ["self", "number", "up", "down", "fresh"]) 3 1 (by simp) (by simp) (fun _ _ _ _ _ _ _ us its hu hi => match us, its, hu, hi with | [_, _, _], [_, _, _], _, _ => ⟨_, rfl, rfl⟩)
  exact ⟨_, fd, ds, T.m_Play_put, f_Play_put T F, hb, hv⟩
theorem d_Play_put_3 (T : Txt K mg) : MDef P w K mg base (He.ga K "Play") 3 "put" ["self", "number", "up", "down", "fresh"] (List.drop 0 [V.int 0, V.int 0, V.bl false]) (spPut K) := by
  obtain ⟨fd, F⟩ := T.d_Play_put
  obtain ⟨ds, hv, hb⟩ := F.binds1 (ps := ["self", "number", "up", "down", "fresh"]) 2 0 (by simp) (by simp) (fun _ _ _ _ _ _ _ us its hu hi => match us, its, hu, hi with | [_, _], [_, _, _], _, _ => ⟨_, rfl, rfl⟩)
  exact ⟨_, fd, ds, T.m_Play_put, f_Play_put T F, hb, hv⟩
theorem sc_Play_numbers : FnScope ["self"] ["self"] (defScope s_Play_numbers) := ⟨rfl, rfl, rfl, by decide +kernel, rfl, by decide +kernel, by decide +kernel⟩
theorem d_Play_numbers (T : Txt K mg) : MDef P w K mg base (He.ga K "Play") 1 "numbers" ["self"] [] (spNumbers K) := by
  refine mkM T.d_Play_numbers T.m_Play_numbers sc_Play_numbers (fun _ _ _ _ _ _ us hl => match us, hl with | [_], _ => rfl) len1 (BodyN.up fun cdv A outer s H vs Q E hr h => ?_)
  obtain ⟨_, rfl, p, d, ad, M, U, rfl, hp, q⟩ := h
  have hu := hu_of hr
  refine ⟨_, (pss_one (ps_ret (pe_callB (call_sortedDA rfl) (by rfl) T.z_sorted (by decide +kernel) (pa_cons (pe_fld (pv 0) rfl) pa_nil)))), ?_⟩
  obtain ⟨dx, kvs, h1, h2, tk⟩ := hp.kept
  obtain ⟨ns, hk, _, _⟩ := tk.keys
  refine ⟨_, rfl, p, _, dx, _, _, rfl, h1, T.c_Play, T.n_Play_kept, playF_kept, d, kvs, ns, rfl, .inl h2, hk, fun ys l hp1 hp2 nl => ?_⟩
  rw [tk.sorted hp.good.srt hk hp1 hp2]
  exact q _ l (same_upd nl) nl upd_same
def spCue (K : PySem.W.Frag) : Sp := sp2 fun s x H Q E => ∃ p d ad M U, s = .ref p ∧ PlayAt K U H p d ad M ∧ Pl H x ∧
  (∀ n c, x = .int n → get M n = some c → ∀ H' t w', Same H H' → H t = none → H w' = none → H' t = some (.tup [.int c.up, .int c.down, .bl c.fresh, .ref w']) → H' w' = some (.dK (dW c.words)) → Q (.ref t) H') ∧ (cueOf M x = none → Er K "NoCue" E H)
theorem sc_Play_cue : FnScope ["self", "number", "found", "words", "lamp"] ["self", "number"] (defScope s_Play_cue) := ⟨rfl, rfl, rfl, by decide +kernel, rfl, by decide +kernel, by decide +kernel⟩
theorem d_Play_cue (T : Txt K mg) : MDef P w K mg base (He.ga K "Play") 4 "cue" ["self", "number"] [] (spCue K) := by
  have d_Play_sure := d_Play_sure (P := P) (w := w) (base := base) T
  refine mkM T.d_Play_cue T.m_Play_cue sc_Play_cue (fun _ _ _ _ _ _ us hl => match us, hl with | [_, _], _ => rfl) len2 (fun cdv A outer s H vs Q E hr h => ?_)
  obtain ⟨_, x, rfl, p, d, ad, M, U, rfl, hp, hx, q, e1⟩ := h
  have hu := hu_of hr
  refine ⟨_, (pss_cons (ps_set (i := 2) sc_Play_cue.nd rfl (Or.inr rfl) (pe_mt T.c_Play d_Play_sure (hr.mono (by decide)) (passes_call (takes_of rfl rfl rfl rfl) fun _ _ _ _ h => h) (pv 0) (pa_cons (pv 1) pa_nil)))
    (pss_cons (ps_set (i := 3) sc_Play_cue.nd rfl (Or.inl rfl) (pe_callTy (call_dictP rfl) (by rfl) T.z_dict (by decide +kernel) (pa_cons (pe_lc (own := [("lamp", 4)]) rfl sc_Play_cue.nd (pi_list (pe_callB (call_sortedD rfl) (by rfl) T.z_sorted (by decide +kernel) (pa_cons (pe_fld (pv 2) rfl) pa_nil))) (blkOk_by (own := [("lamp", 4)]) (N := ["self", "number", "found", "words", "lamp"]) (sc := defScope s_Play_cue) (by decide +kernel)) (fun _ _ _ _ _ => pg_name (i := 4) sc_Play_cue.nd rfl (Or.inl rfl)) (fun _ _ _ _ _ => pts_nil) (fun _ _ _ _ _ => (pe_tup (pa_cons (pv 4) (pa_cons (pe_dget (by exact hu) (pe_fldK (K := K) rfl (pv 2) rfl) (pv 4) (fun _ _ => rfl)) pa_nil))))) pa_nil)))
    (pss_one (ps_ret (pe_tup (pa_cons (pe_fld (pv 2) rfl) (pa_cons (pe_fld (pv 2) rfl) (pa_cons (pe_fld (pv 2) rfl) (pa_cons (pv 3) pa_nil))))))))), ?_⟩
  obtain ⟨dx, kv0, h1, h2, tk⟩ := hp.kept
  refine ⟨_, rfl, _, _, _, rfl, h1, playF_no (by decide +kernel), _, rfl, _, _, rfl, p, d, ad, M, U, rfl, hp, hx, fun n c ex hn => ?_, e1⟩
  obtain ⟨dc, kvs, c1, c2, wk⟩ := hp.cue hn
  have hm := hp.good.at hn
  have hw := hp.good.wsrt _ hm
  obtain ⟨ks, hk, _, _⟩ := wk.keys
  have hfew := hp.good.few hp.lamps hm
  refine ⟨_, rfl, _, _, _, _, _, rfl, c1, T.c_Cue, T.n_Cue_words, cueF_words, _, kvs, ks, rfl, .inl c2, hk, ?_, fun ys l hp1 hp2 nl => ?_⟩
  · have := congrArg List.length hk
    rw [List.length_map, List.length_map, wk.len hw] at this
    have hfew : c.words.length ≤ 60 := hfew
    omega
  rw [wk.sorted hw hk hp1 hp2]
  have s1 := same_upd (o := HO.lst ((c.words.map (·.1)).map V.str)) nl
  refine ⟨l, rfl, ⟨_, .inl (.inl upd_same)⟩, fun D nD => ?_⟩
  refine lc_rel (walk_list (K := K) (a := l) (xs := (c.words.map (·.1)).map V.str)) nD yes (fun x y H' => ∃ t l, x = V.str l ∧ y = V.ref t ∧ H' t = some (.tup [.str l, .int ((get c.words l).getD 0)])) ?_ ?_ (fun _ => rfl) (fun H5 s5 => .inl (.inl (s5 _ _ upd_same))) (fun x _ H _ Q' k => tt_yes x k) ?_ ?_
  · rintro x y H1 H2 nl' ⟨t, l', rfl, rfl, h⟩
    exact ⟨t, l', rfl, rfl, nl' _ _ (fun _ z => by cases z) h⟩
  · rw [List.length_map, List.length_map, sizeLine_eq]
    have hfew : c.words.length ≤ 60 := hfew
    omega
  · rintro y hy _ H5 s5 Q' k
    obtain ⟨z, hz, rfl⟩ := List.mem_map.mp hy
    obtain ⟨v, hv⟩ := get_some_iff.mpr hz
    have c1' := s5 _ _ (s1 _ _ c1)
    have c2' := s5 _ _ (s1 _ _ c2)
    refine ⟨_, rfl, _, rfl, _, _, _, _, _, rfl, c1', T.c_Cue, T.n_Cue_words, cueF_words, _, rfl, _, .int v, rfl, by rw [show some (V.int v) = valV kvs (Sum.inr z) by rw [wk.vl, hv]; rfl]; exact DGet.k (k := Sum.inr z) c2', by simp [sizeLine_eq], fun t nt => ?_⟩
    exact k _ _ (same_upd nt) ⟨t, z, rfl, rfl, by rw [upd_same, hv]; rfl⟩
  · intro H5 ys' s5 hD hpair
    rw [filter_yes] at hpair
    obtain ⟨ps, rfl, hps⟩ := pairs_dict (K := K) (g := fun l => V.int ((get c.words l).getD 0)) hpair
    rw [← dW_all (rising_nodup linS hw)] at hps
    refine ⟨D, ps, _, rfl, .inl (.inl hD), hps, fun w' nw => ?_⟩
    rw [mergeK_nil (dW_nodup hw)]
    have s6 := (s1.trans s5).trans (same_upd (o := HO.dK (dW c.words)) nw)
    have c1' := s6 _ _ c1
    refine ⟨_, rfl, _, _, _, _, _, rfl, c1', T.c_Cue, T.n_Cue_up, cueF_up, _, rfl, _, _, _, _, _, rfl, c1', T.c_Cue, T.n_Cue_down, cueF_down, _, rfl, _, _, _, _, _, rfl, c1', T.c_Cue, T.n_Cue_fresh, cueF_fresh, _, rfl, by simp [sizeLine_eq], fun t nt => ?_⟩
    have s7 := s6.trans (same_upd (o := HO.tup [.int c.up, .int c.down, .bl c.fresh, .ref w']) nt)
    exact q n c ex hn _ t w' s7 (s6.free nt) ((s1.trans s5).free nw) upd_same (by rw [upd_ne (fun z => by rw [← z, upd_same] at nt; cases nt)]; exact upd_same)
def spTell (K : PySem.W.Frag) : Sp := sp4 fun s x l v H Q E => ∃ p d ad M U, s = .ref p ∧ PlayAt K U H p d ad M ∧ Pl H x ∧ Pl H l ∧ Pl H v ∧ (cueOf M x = none → Er K "NoCue" E H) ∧ (cueOf M x ≠ none → lampV l = false → Er K "NoLamp" E H) ∧ (cueOf M x ≠ none → lampV l = true → wholeV 0 100 v = false → Er K "NoLevel" E H) ∧
  (∀ n c z i, x = .int n → get M n = some c → l = .str z → v = .int i → lampV l = true → (0 ≤ i ∧ i ≤ 100) → z ∈ U ∧ ∀ H', PlayAt K U H' p d ad (setW n (put ltS z i) M) → Chg (footP p d ad M) H H' → Q .non H')
theorem cue_some {M : Book} {x : V} {n : Int} {c : CueC} (ex : x = .int n) (h : get M n = some c) : cueOf M x ≠ none := by
  subst ex; show get M n ≠ none; rw [h]; simp
theorem sc_Play_tell : FnScope ["self", "number", "lamp", "level", "found"] ["self", "number", "lamp", "level"] (defScope s_Play_tell) := ⟨rfl, rfl, rfl, by decide +kernel, rfl, by decide +kernel, by decide +kernel⟩
theorem d_Play_tell (T : Txt K mg) : MDef P w K mg base (He.ga K "Play") 4 "tell" ["self", "number", "lamp", "level"] [] (spTell K) := by
  have d_Play_sure := d_Play_sure (P := P) (w := w) (base := base) T
  have d_need_word := d_need_word (P := P) (w := w) (base := base) T
  refine mkM T.d_Play_tell T.m_Play_tell sc_Play_tell (fun _ _ _ _ _ _ us hl => match us, hl with | [_, _, _, _], _ => rfl) len4 (fun cdv A outer s H vs Q E hr h => ?_)
  obtain ⟨_, x, l, v, rfl, p, d, ad, M, U, rfl, hp, hx, hl, hv, e1, e2, e3, q⟩ := h
  have hu := hu_of hr
  refine ⟨_, (pss_cons (ps_set (i := 4) sc_Play_tell.nd rfl (Or.inl rfl) (pe_mt T.c_Play d_Play_sure (hr.mono (by decide)) (passes_call (takes_of rfl rfl rfl rfl) fun _ _ _ _ h => h) (pv 0) (pa_cons (pv 1) pa_nil)))
    (pss_cons (ps_expr (pe_fn d_need_word (hr.mono (by decide)) (by rfl) (passes_call (takes_of rfl rfl rfl rfl) fun _ _ _ _ h => h) (pa_cons (pv 2) (pa_cons (pv 3) pa_nil))))
    (pss_one (ps_dput hu (pe_fld (pv 4) rfl) (pv 2) (pv 3) rfl)))), ?_⟩
  obtain ⟨dx, kv0, h1, h2, tk⟩ := hp.kept
  refine ⟨_, rfl, _, _, _, rfl, h1, playF_no (by decide +kernel), _, rfl, _, _, rfl, p, d, ad, M, U, rfl, hp, hx, fun n c ex hn => ?_, e1⟩
  refine ⟨_, rfl, _, rfl, _, _, rfl, hl, hv, fun k1 k2 H1 s1 => ?_, e2 (cue_some ex hn), e3 (cue_some ex hn)⟩
  obtain ⟨z, rfl⟩ : ∃ z, l = .str z := by
    cases l with
    | str z => exact ⟨z, rfl⟩
    | _ => cases k1
  obtain ⟨i, rfl, hi⟩ := whole_int k2
  obtain ⟨hz, q⟩ := q n c z i ex hn rfl rfl k1 hi
  have hp1 := hp.same s1
  obtain ⟨dc, kvs, c1, c2, wk⟩ := hp1.cue hn
  have hm := hp.good.at hn
  refine ⟨_, rfl, _, rfl, _, _, _, _, _, rfl, c1, T.c_Cue, T.n_Cue_words, cueF_words, _, rfl, _, _, rfl, DPut.k (k := Sum.inr z) c2 (by rw [wk.len (hp.good.wsrt _ hm), sizeLine_eq]; exact Nat.lt_of_le_of_lt (hp.good.few hp.lamps hm) (by decide)), ?_⟩
  refine q _ (hp1.word hn (fun b o _ ne e => by rw [upd_ne ne]; exact e) ⟨_, upd_same, wk.put z i⟩ (hp.good.setW fun ws hs hw => wok_put hz hi.1 hi.2 hs hw)) fun b o e ne => ?_
  rw [upd_ne fun y => ne (.inr (.inr ⟨n, c, hn, .inr y⟩))]
  exact s1 _ _ e
def spUntell (K : PySem.W.Frag) : Sp := sp3 fun s x l H Q E => ∃ p d ad M U, s = .ref p ∧ PlayAt K U H p d ad M ∧ Pl H x ∧ Pl H l ∧ (cueOf M x = none → Er K "NoCue" E H) ∧
  (∀ n c, x = .int n → get M n = some c → (∀ z, l = .str z → get c.words z = none) → Er K "NoLamp" E H) ∧
  (∀ n c z, x = .int n → get M n = some c → l = .str z → get c.words z ≠ none → lampS z = true ∧ ∀ H', PlayAt K U H' p d ad (setW n (del z) M) → Chg (footP p d ad M) H H' → Q .non H')
theorem sc_Play_untell : FnScope ["self", "number", "lamp", "found"] ["self", "number", "lamp"] (defScope s_Play_untell) := ⟨rfl, rfl, rfl, by decide +kernel, rfl, by decide +kernel, by decide +kernel⟩
theorem d_Play_untell (T : Txt K mg) : MDef P w K mg base (He.ga K "Play") 4 "untell" ["self", "number", "lamp"] [] (spUntell K) := by
  have d_Play_sure := d_Play_sure (P := P) (w := w) (base := base) T
  have d_is_lamp := d_is_lamp (P := P) (w := w) (base := base) T
  refine mkM T.d_Play_untell T.m_Play_untell sc_Play_untell (fun _ _ _ _ _ _ us hl => match us, hl with | [_, _, _], _ => rfl) len3 (fun cdv A outer s H vs Q E hr h => ?_)
  obtain ⟨_, x, l, rfl, p, d, ad, M, U, rfl, hp, hx, hl, e1, e2, q⟩ := h
  have hu := hu_of hr
  refine ⟨_, (pss_cons (ps_set (i := 3) sc_Play_untell.nd rfl (Or.inl rfl) (pe_mt T.c_Play d_Play_sure (hr.mono (by decide)) (passes_call (takes_of rfl rfl rfl rfl) fun _ _ _ _ h => h) (pv 0) (pa_cons (pv 1) pa_nil)))
    (pss_cons (ps_if (PW.pt (pw_or (pt_not (pt_val (pe_fn d_is_lamp (hr.mono (by decide)) (by rfl) (passes_call (takes_of rfl rfl rfl rfl) fun _ _ _ _ h => h) (pa_cons (pv 2) pa_nil)))) (pw_or1 (pt_cmp (pc_dnotin (by exact hu) (pv 2) (pe_fld (pv 3) rfl))))))
    (pss_one (ps_raise rfl (takes_of rfl rfl rfl rfl) (pmk_own PySem.F.excBase_ValueError T.x_NoLamp.1 T.g_NoLamp T.x_NoLamp.2.1 (raises_own T.x_NoLamp.2.2.1 T.x_NoLamp.2.2.2) rfl)))
    pss_nil)
    (pss_one (ps_expr (pe_dpop1 (pe_fld (pv 3) rfl) (pv 2) ⟨rfl, rfl, rfl, rfl⟩))))), ?_⟩
  obtain ⟨dx, kv0, h1, h2, tk⟩ := hp.kept
  refine ⟨_, rfl, _, _, _, rfl, h1, playF_no (by decide +kernel), _, rfl, _, _, rfl, p, d, ad, M, U, rfl, hp, hx, fun n c ex hn => ?_, e1⟩
  have hm := hp.good.at hn
  refine ⟨_, rfl, _, rfl, hl, fun H1 s1 => ⟨_, rfl, ?_⟩⟩
  have hp1 := hp.same s1
  obtain ⟨dc, kvs, c1, c2, wk⟩ := hp1.cue hn
  cases k1 : lampV l with
  | false =>
    refine iteT (iteT (e2 n c ex hn (fun z ez => ?_) H1 s1))
    cases hz : get c.words z with
    | none => rfl
    | some v =>
      obtain ⟨hU, _⟩ := hp.good.wrd _ hm _ (get_mem hz)
      have := hp.lamps.ok _ hU
      rw [ez] at k1
      rw [show lampV (.str z) = lampS z from rfl, this] at k1; cases k1
  | true =>
    obtain ⟨z, rfl⟩ : ∃ z, l = .str z := by
      cases l with
      | str z => exact ⟨z, rfl⟩
      | _ => cases k1
    refine iteF ⟨_, rfl, _, rfl, _, _, _, _, _, rfl, c1, T.c_Cue, T.n_Cue_words, cueF_words, _, _, rfl, DGet.k (k := Sum.inr z) c2, _, rfl, ?_⟩
    rw [wk.vl]
    cases hz : get c.words z with
    | none => exact iteT (e2 n c ex hn (fun z' ez => by cases ez; exact hz) H1 s1)
    | some v =>
      refine iteF ⟨_, rfl, _, _, _, _, _, rfl, c1, T.c_Cue, T.n_Cue_words, cueF_words, _, rfl, .inl ⟨_, .inl c2⟩, _, rfl, kvs, Sum.inr z, .int v, c2, rfl, by rw [wk.vl, hz]; rfl, ?_⟩
      refine (q n c z ex hn rfl (by rw [hz]; simp)).2 _ (hp1.word hn (fun b o _ ne e => by rw [upd_ne ne]; exact e) ⟨_, upd_same, wk.drop z⟩ (hp.good.setW fun ws hs hw => wok_del hs hw)) fun b o e ne => ?_
      rw [upd_ne fun y => ne (.inr (.inr ⟨n, c, hn, .inr y⟩))]
      exact s1 _ _ e
end

/-! ## What a play tells: look, level -/
theorem TK.get {H : Hp} {d : Addr} {kvs : List (Key × V)} {M : Book} {ad : Int → Addr} (h : TK kvs M ad) (e : Rd H d (.dK kvs)) (n : Int) : DGet H d (.int n) ((get M n).map fun _ => V.ref (ad n)) := .inl ⟨kvs, Sum.inl n, e, rfl, (h.vl n).symm⟩
theorem TK.hit {H : Hp} {d : Addr} {kvs : List (Key × V)} {M : Book} {ad : Int → Addr} (h : TK kvs M ad) (e : Rd H d (.dK kvs)) {n : Int} {c : CueC} (hn : Cue.get M n = some c) : DGet H d (.int n) (some (V.ref (ad n))) := by
  have := h.get e n
  rwa [hn] at this
theorem WK.get {H : Hp} {w : Addr} {kvs : List (Key × V)} {ws : Ws} (h : WK kvs ws) (e : Rd H w (.dK kvs)) (l : Str) : DGet H w (.str l) ((get ws l).map V.int) := .inl ⟨kvs, Sum.inr l, e, rfl, (h.vl l).symm⟩
theorem WK.hit {H : Hp} {w : Addr} {kvs : List (Key × V)} {ws : Ws} (h : WK kvs ws) (e : Rd H w (.dK kvs)) {l : Str} {v : Int} (hl : Cue.get ws l = some v) : DGet H w (.str l) (some (V.int v)) := by
  have := h.get e l
  rwa [hl] at this
theorem Good.take {U : List Str} {M : Book} (g : Good U M) (i : Nat) : Good U (M.take i) := g.sub (List.take_sublist i M)
theorem over_none (acc : Ws) : over acc [] = acc := rfl
section
variable {P : Program} {w : World} {K : PySem.W.Frag} {mg : Str → Option Value} {base : Heap}
def spLook (K : PySem.W.Frag) : Sp := sp2 fun s x H Q E => ∃ p d ad M U, s = .ref p ∧ PlayAt K U H p d ad M ∧ Pl H x ∧
  (∀ n c, x = .int n → get M n = some c → ∀ H' w', Same H H' → H w' = none → H' w' = some (.dK (dW (look M n))) → Q (.ref w') H') ∧ (cueOf M x = none → Er K "NoCue" E H)
theorem sc_Play_look : FnScope ["self", "number", "levels", "one", "lamp"] ["self", "number"] (defScope s_Play_look) := ⟨rfl, rfl, rfl, by decide +kernel, rfl, by decide +kernel, by decide +kernel⟩
theorem d_Play_look (T : Txt K mg) : MDef P w K mg base (He.ga K "Play") 4 "look" ["self", "number"] [] (spLook K) := by
  have d_Play_sure := d_Play_sure (P := P) (w := w) (base := base) T
  have d_Play_numbers := d_Play_numbers (P := P) (w := w) (base := base) T
  refine mkM T.d_Play_look T.m_Play_look sc_Play_look (fun _ _ _ _ _ _ us hl => match us, hl with | [_, _], _ => rfl) len2 (fun cdv A outer s H vs Q E hr h => ?_)
  obtain ⟨_, x, rfl, p, d, ad, M, U, rfl, hp, hx, q, e1⟩ := h
  have hu := hu_of hr
  refine ⟨_, (pss_cons (ps_expr (pe_mt T.c_Play d_Play_sure (hr.mono (by decide)) (passes_call (takes_of rfl rfl rfl rfl) fun _ _ _ _ h => h) (pv 0) (pa_cons (pv 1) pa_nil)))
    (pss_cons (ps_set (i := 2) sc_Play_look.nd rfl (Or.inr rfl) pe_dnewK)
    (Evl.pss_cut (ps_for (passes_of rfl) rfl (pi_list (pe_mt0 T.c_Play d_Play_numbers (hr.mono (by decide)) (passes_call (takes_of rfl rfl rfl rfl) fun _ _ _ _ h => h) (pv 0))) (pg_name (i := 3) sc_Play_look.nd rfl (Or.inl rfl))
    (pss_cons (ps_if (pt_cmpR op_gt (pv 3) (pv 1) (nomark _))
    (pss_one ps_break)
    pss_nil)
    (pss_cons (ps_if (pt_val (pe_fld (pe_dget (by exact hu) (pe_fld (pv 0) rfl) (pv 3) (fun _ _ => rfl)) rfl))
    (pss_one (ps_set (i := 2) sc_Play_look.nd rfl (Or.inr rfl) pe_dnewK))
    pss_nil)
    (pss_one (ps_expr (pe_bm PySem.F.plainAttrs_dict PySem.F.slot_dict_update PySem.F.type_dict_update mt_dupdate (pv 2) (pa_cons (pe_fld (pe_dget (by exact hu) (pe_fld (pv 0) rfl) (pv 3) (fun _ _ => rfl)) rfl) pa_nil)))))))
    (pss_one (ps_ret (pe_callTy (call_dictP rfl) (by rfl) T.z_dict (by decide +kernel) (pa_cons (pe_lc (own := [("lamp", 4)]) rfl sc_Play_look.nd (pi_list (pe_callB (call_sortedD rfl) (by rfl) T.z_sorted (by decide +kernel) (pa_cons (pv 2) pa_nil))) (blkOk_by (own := [("lamp", 4)]) (N := ["self", "number", "levels", "one", "lamp"]) (sc := defScope s_Play_look) (by decide +kernel)) (fun _ _ _ _ _ => pg_name (i := 4) sc_Play_look.nd rfl (Or.inl rfl)) (fun _ _ _ _ _ => (pts_one (pt_cmpR op_gt (pe_dget (by exact hu) (pv 2) (pv 4) (fun _ _ => rfl)) pe_int (nomark _)))) (fun _ _ _ _ _ => (pe_tup (pa_cons (pv 4) (pa_cons (pe_dget (by exact hu) (pv 2) (pv 4) (fun _ _ => rfl)) pa_nil))))) pa_nil))))))), ?_⟩
  obtain ⟨dx, kv0, h1, h2, tk⟩ := hp.kept
  refine ⟨_, rfl, _, _, _, rfl, h1, playF_no (by decide +kernel), _, rfl, _, _, rfl, p, d, ad, M, U, rfl, hp, hx, fun n c ex hn => ?_, e1⟩
  subst ex
  intro l0 nl0
  have s0 := same_upd (o := HO.dK []) nl0
  have g := hp.good
  have sub : ∀ i, ∀ e ∈ M.take i, e ∈ M := fun i e h => List.mem_of_mem_take h
  refine ⟨fun σ H' => ∃ l v3, σ = [some (.ref p), some (.int n), some (.ref l), v3, none] ∧ Same H H' ∧ H l = none ∧ WordsAt H' l (lookW (upto M n)), ?_, ?_⟩
  · refine ⟨_, rfl, _, _, _, rfl, s0 _ _ h1, playF_no (by decide +kernel), _, rfl, p, d, ad, M, U, rfl, hp.same s0, fun H1 ln s1 nln eln => ⟨ln, rfl, ⟨_, .inl (.inl eln)⟩, ?_⟩⟩
    have sln : H ln = none := s0.free nln
    refine for_list (K := K) (a := ln) (xs := nums M) (fun i σ H' => ∃ l v3, σ = [some (.ref p), some (.int n), some (.ref l), v3, none] ∧ Same H H' ∧ H l = none ∧ H' ln = some (.lst (nums M)) ∧ WordsAt H' l (lookW (M.take i)) ∧ ∀ e ∈ M.take i, e.1 ≤ n) ?_ ?_ ?_ ?_
    · exact ⟨l0, none, rfl, s0.trans s1, nl0, eln, ⟨[], s1 _ _ upd_same, .nil⟩, fun e h => by simp at h⟩
    · rintro i σ H' _ ⟨l, v3, _, _, _, h, _⟩
      exact .inl (.inl h)
    · rintro i y σ H' hy ⟨l, v3, rfl, s2, nl, hln, hW, hle⟩
      obtain ⟨e, he, rfl⟩ := nums_at hy
      have hm : e ∈ M := List.mem_of_getElem? he
      have hge : get M e.1 = some e.2 := get_of_mem g.nodup hm
      refine ⟨_, rfl, _, rfl, _, _, rfl, rfl, _, rfl, ite2 (fun c1 => ?_) (fun c1 => ?_)⟩
      · have c1 : n < e.1 := of_decide_eq_true c1
        refine ⟨l, _, rfl, s2, nl, ?_⟩
        rw [upto_take g hle (fun e' h' => by rw [he] at h'; cases h'; exact c1)]
        exact hW
      · have c1 : ¬ n < e.1 := fun z => c1 (decide_eq_true z)
        have hp2 := hp.same s2
        obtain ⟨dx2, kv2, k1, k2, tk2⟩ := hp2.kept
        obtain ⟨dc, kvs, e1, e2, wk⟩ := hp2.cue hge
        have hle' : ∀ x ∈ M.take (i + 1), x.1 ≤ n := fun x hx => by
          rw [take_snoc he] at hx
          rcases List.mem_append.mp hx with h | h
          · exact hle x h
          · rw [List.mem_singleton.mp h]; omega
        have fin : ∀ (l' : Addr) (H3 : Hp) (acc : Ws), Same H H3 → H l' = none → H3 ln = some (.lst (nums M)) → WordsAt H3 l' acc → Rising ltS acc → acc.length ≤ 60 → over acc e.2.words = lookW (M.take (i + 1)) →
            ∃ H4, Same H H4 ∧ H4 ln = some (.lst (nums M)) ∧ WordsAt H4 l' (lookW (M.take (i + 1))) ∧ ∃ kva, H3 l' = some (.dK kva) ∧ l' ≠ (ad e.1).2 ∧ H3 (ad e.1).2 = some (.dK kvs) ∧ kva.length + kvs.length ≤ sizeLine ∧ H4 = upd H3 l' (.dK (mergeK kva kvs)) := by
          rintro l' H3 acc s3 nl' hl3 ⟨kva, ea, wa⟩ hr hlen hov
          have f2 := g.few hp.lamps hm
          have lw := wk.len (g.wsrt _ hm)
          have la := wa.len hr
          obtain ⟨dc', kvs', _, e2', _⟩ := hp.cue hge
          have ee := s2 _ _ e2'
          rw [e2] at ee
          obtain rfl : kvs = kvs' := by injection ee with h; injection h
          have ne : l' ≠ ln := fun z => by
            subst z; rw [ea] at hl3; cases hl3
          refine ⟨upd H3 l' (.dK (mergeK kva kvs)), sm_mut s3 nl', by rw [upd_ne ne.symm]; exact hl3, ⟨_, upd_same, ?_⟩, kva, ea, fun z => ?_, s3 _ _ e2', by rw [sizeLine_eq]; omega, rfl⟩
          · rw [← hov]
            exact wa.merge wk (g.wnd hm)
          · rw [z, e2'] at nl'; cases nl'
        refine ⟨_, rfl, p, _, dx2, _, _, rfl, k1, T.c_Play, T.n_Play_kept, playF_kept, _, rfl, d, _, rfl, tk2.hit (.inl k2) hge, _, _, _, _, _, rfl, e1, T.c_Cue, T.n_Cue_fresh, cueF_fresh, _, rfl, ite2 (fun c2 => ?_) (fun c2 => ?_)⟩
        · intro l' nl'
          have s3 := same_upd (o := HO.dK []) nl'
          obtain ⟨H4, t1, t2, t3, kva, t4, t5, t6, t7, rfl⟩ := fin l' _ [] (s2.trans s3) (s2.free nl') (s3 _ _ hln) ⟨[], upd_same, .nil⟩ .nil (by simp) (by rw [lookW_snoc he, stepW, if_pos c2])
          exact ⟨_, rfl, .inr (.inr (.inl ⟨rfl, .inl ⟨_, t4⟩⟩)), _, rfl, p, _, dx2, _, _, rfl, s3 _ _ k1, T.c_Play, T.n_Play_kept, playF_kept, _, rfl, d, _, rfl, tk2.hit (.inl (s3 _ _ k2)) hge, _, _, _, _, _, rfl, s3 _ _ e1, T.c_Cue, T.n_Cue_words, cueF_words, _, _, _, _, rfl, rfl, t5, t4, .inl t6, t7, l', _, rfl, t1, s2.free nl', t2, t3, hle'⟩
        · obtain ⟨H4, t1, t2, t3, kva, t4, t5, t6, t7, rfl⟩ := fin l _ _ s2 nl hln hW (rising_lookW _) (lookW_few (g.take i) hp.lamps) (by rw [lookW_snoc he, stepW, if_neg c2])
          exact ⟨_, rfl, .inr (.inr (.inl ⟨rfl, .inl ⟨_, t4⟩⟩)), _, rfl, p, _, dx2, _, _, rfl, k1, T.c_Play, T.n_Play_kept, playF_kept, _, rfl, d, _, rfl, tk2.hit (.inl k2) hge, _, _, _, _, _, rfl, e1, T.c_Cue, T.n_Cue_words, cueF_words, _, _, _, _, rfl, rfl, t5, t4, .inl t6, t7, l, _, rfl, t1, nl, t2, t3, hle'⟩
    · rintro σ H' ⟨l, v3, rfl, s2, nl, hln, hW, hle⟩
      refine ⟨l, v3, rfl, s2, nl, ?_⟩
      have e0 : (nums M).length = M.length := by simp [nums]
      rw [e0, List.take_length] at hle hW
      have : upto M n = M := List.filter_eq_self.mpr fun e he => by simpa using hle e he
      rw [this]; exact hW
  · rintro σ H2 ⟨l, v3, rfl, s2, nl, kvs, hl, wk⟩
    have hr := rising_lookW (upto M n)
    obtain ⟨ks, hk, _, _⟩ := wk.keys
    have hfew := lookW_few (g.upto n) hp.lamps
    have hlen := wk.len hr
    refine ⟨_, rfl, _, kvs, ks, rfl, .inl hl, hk, ?_, fun ys a hp1 hp2 na => ?_⟩
    · have := congrArg List.length hk
      rw [List.length_map, List.length_map] at this
      omega
    rw [wk.sorted hr hk hp1 hp2]
    have s1 := same_upd (o := HO.lst (((lookW (upto M n)).map (·.1)).map V.str)) na
    refine ⟨a, rfl, ⟨_, .inl (.inl upd_same)⟩, fun D nD => ?_⟩
    refine lc_rel (walk_list (K := K) (a := a) (xs := ((lookW (upto M n)).map (·.1)).map V.str)) nD (fun x => match x with | .str z => decide (0 < (get (lookW (upto M n)) z).getD 0) | _ => false) (fun x y H' => ∃ t z, x = V.str z ∧ y = V.ref t ∧ H' t = some (.tup [.str z, .int ((get (lookW (upto M n)) z).getD 0)])) ?_ ?_ (fun _ => rfl) (fun H5 s5 => .inl (.inl (s5 _ _ upd_same))) ?_ ?_ ?_
    · rintro x y H1 H2 nl' ⟨t, z, rfl, rfl, h⟩
      exact ⟨t, z, rfl, rfl, nl' _ _ (fun _ z => by cases z) h⟩
    · rw [List.length_map, List.length_map, sizeLine_eq]; omega
    · rintro y hy H5 s5 Q' k
      obtain ⟨z, hz, rfl⟩ := List.mem_map.mp hy
      obtain ⟨v, hv⟩ := get_some_iff.mpr hz
      refine ⟨_, rfl, _, rfl, _, .int v, rfl, wk.hit (.inl (s5 _ _ (s1 _ _ hl))) hv, _, _, rfl, rfl, _, rfl, ?_⟩
      have := k H5 (Same.refl _)
      simp only [hv, Option.getD_some] at this
      exact this
    · rintro y hy _ H5 s5 Q' k
      obtain ⟨z, hz, rfl⟩ := List.mem_map.mp hy
      obtain ⟨v, hv⟩ := get_some_iff.mpr hz
      refine ⟨_, rfl, _, rfl, _, rfl, _, .int v, rfl, wk.hit (.inl (s5 _ _ (s1 _ _ hl))) hv, by simp [sizeLine_eq], fun t nt => ?_⟩
      exact k _ _ (same_upd nt) ⟨t, z, rfl, rfl, by rw [upd_same, hv]; rfl⟩
    · intro H5 ys' s5 hD hpair
      rw [strs_filter (p := fun z => decide (0 < (get (lookW (upto M n)) z).getD 0)) (fun _ => rfl)] at hpair
      obtain ⟨ps, rfl, hps⟩ := pairs_dict (K := K) (g := fun z => V.int ((get (lookW (upto M n)) z).getD 0)) hpair
      rw [← dW_keys (rising_nodup linS hr) (fun v => decide (0 < v))] at hps
      refine ⟨D, ps, _, rfl, .inl (.inl hD), hps, fun w' nw => ?_⟩
      show Q _ (upd H5 w' (.dK (mergeK [] (dW (look M n)))))
      rw [mergeK_nil (dW_nodup (look_rising M n))]
      have s6 := (s2.trans (s1.trans s5)).trans (same_upd (o := HO.dK (dW (look M n))) nw)
      exact q n c rfl hn _ w' s6 ((s2.trans (s1.trans s5)).free nw) upd_same
def spLevel (K : PySem.W.Frag) : Sp := sp3 fun s x l H Q E => ∃ p d ad M U, s = .ref p ∧ PlayAt K U H p d ad M ∧ Pl H x ∧ Pl H l ∧
  (∀ n c z, x = .int n → get M n = some c → l = .str z → lampS z = true → ∀ H', Same H H' → Q (.int (lev M n z)) H') ∧ (cueOf M x = none → Er K "NoCue" E H) ∧ (cueOf M x ≠ none → lampV l = false → Er K "NoLamp" E H)
theorem sc_Play_level : FnScope ["self", "number", "lamp", "found"] ["self", "number", "lamp"] (defScope s_Play_level) := ⟨rfl, rfl, rfl, by decide +kernel, rfl, by decide +kernel, by decide +kernel⟩
theorem d_Play_level (T : Txt K mg) : MDef P w K mg base (He.ga K "Play") 5 "level" ["self", "number", "lamp"] [] (spLevel K) := by
  have d_Play_look := d_Play_look (P := P) (w := w) (base := base) T
  have d_is_lamp := d_is_lamp (P := P) (w := w) (base := base) T
  refine mkM T.d_Play_level T.m_Play_level sc_Play_level (fun _ _ _ _ _ _ us hl => match us, hl with | [_, _, _], _ => rfl) len3 (fun cdv A outer s H vs Q E hr h => ?_)
  obtain ⟨_, x, l, rfl, p, d, ad, M, U, rfl, hp, hx, hl, q, e1, e2⟩ := h
  have hu := hu_of hr
  refine ⟨_, (pss_cons (ps_set (i := 3) sc_Play_level.nd rfl (Or.inl rfl) (pe_mt T.c_Play d_Play_look (hr.mono (by decide)) (passes_call (takes_of rfl rfl rfl rfl) fun _ _ _ _ h => h) (pv 0) (pa_cons (pv 1) pa_nil)))
    (pss_cons (ps_if (pt_not (pt_val (pe_fn d_is_lamp (hr.mono (by decide)) (by rfl) (passes_call (takes_of rfl rfl rfl rfl) fun _ _ _ _ h => h) (pa_cons (pv 2) pa_nil))))
    (pss_one (ps_raise rfl (takes_of rfl rfl rfl rfl) (pmk_own PySem.F.excBase_ValueError T.x_NoLamp.1 T.g_NoLamp T.x_NoLamp.2.1 (raises_own T.x_NoLamp.2.2.1 T.x_NoLamp.2.2.2) rfl)))
    pss_nil)
    (pss_one (ps_ret (pe_dget2 (by exact hu) (pv 3) (pv 2) pe_int ⟨rfl, rfl, rfl, rfl⟩))))), ?_⟩
  obtain ⟨dx, kv0, h1, h2, tk⟩ := hp.kept
  refine ⟨_, rfl, _, _, _, rfl, h1, playF_no (by decide +kernel), _, rfl, _, _, rfl, p, d, ad, M, U, rfl, hp, hx, fun n c ex hn H1 w' s1 nw hw => ?_, e1⟩
  refine ⟨_, rfl, _, rfl, hl.same s1, fun H2 s2 => ⟨_, rfl, ?_⟩⟩
  cases k1 : lampV l with
  | false => exact iteT (e2 (cue_some ex hn) k1 H2 (s1.trans s2))
  | true =>
    obtain ⟨z, rfl⟩ : ∃ z, l = .str z := by
      cases l with
      | str z => exact ⟨z, rfl⟩
      | _ => cases k1
    refine iteF ⟨_, rfl, _, rfl, .inl ⟨_, .inl (s2 _ _ hw)⟩, _, rfl, _, (WK.dW (rising_nodup linS (look_rising M n))).get (.inl (s2 _ _ hw)) z, ?_⟩
    have e : ((get (look M n) z).map V.int).getD (.int 0) = .int (lev M n z) := by
      rw [← look_lev hp.good]
      cases get (look M n) z <;> rfl
    rw [e]
    exact q n c z ex hn rfl k1 H2 (s1.trans s2)
end

/-! ## What a law draws: lamps, numbers -/
theorem letter_at {i : Int} (h0 : 0 ≤ i) (h1 : i < 26) : atI (Str.ofString "abcdefghijklmnopqrstuvwxyz").cps.toList i = some (97 + i.toNat) := by
  have e : (Str.ofString "abcdefghijklmnopqrstuvwxyz").cps.toList = (List.range 26).map (fun i => 97 + i) := by decide +kernel
  have hj : i.toNat < 26 := by omega
  have := atI_nat (xs := (Str.ofString "abcdefghijklmnopqrstuvwxyz").cps.toList) (j := i.toNat) (v := 97 + i.toNat) (by rw [e, List.getElem?_map, List.getElem?_range hj]; rfl)
  rwa [Int.toNat_of_nonneg h0] at this
theorem mul_cps {c : Nat} {m : Int} (h : 1 ≤ m) : (Txt.mul ⟨#[c]⟩ m).cps.toList = List.replicate m.toNat c := by
  have aux : ∀ (k : Nat) (acc : Array Nat), ((List.replicate k #[c]).foldl (· ++ ·) acc).toList = acc.toList ++ List.replicate k c := by
    intro k
    induction k with
    | zero => intro acc; simp
    | succ k ih =>
      intro acc
      rw [List.replicate_succ, List.foldl_cons, ih, Array.toList_append, List.replicate_succ, List.append_assoc]; rfl
  unfold Txt.mul
  rw [if_neg (by omega)]
  by_cases h1 : m = 1
  · subst h1; rfl
  · have e : (m == 1 || (⟨#[c]⟩ : Str).length == 0) = false := by
      have : (⟨#[c]⟩ : Str).length = 1 := rfl
      rw [this]; simp [h1]
    rw [e, if_neg (by simp)]
    have := aux m.toNat #[]
    simpa using this
/-- a lamp's signs -/
def lampL (b s m i : Nat) : List Nat := List.replicate i b ++ s :: List.replicate (m - 1 - i) b
def lampZ (b s : Nat) (m i : Int) : Str := cutS (Txt.mul ⟨#[b]⟩ m) none (some i) ++ ⟨#[s]⟩ ++ cutS (Txt.mul ⟨#[b]⟩ m) (some (i + 1)) none
theorem lamp_cps {b s : Nat} {m i : Int} (hi : 0 ≤ i) (him : i < m) : (lampZ b s m i).cps.toList = lampL b s m.toNat i.toNat := by
  obtain ⟨k, rfl⟩ := Int.eq_ofNat_of_zero_le hi
  obtain ⟨n, rfl⟩ := Int.eq_ofNat_of_zero_le (show 0 ≤ m by omega)
  have e0 := mul_cps (c := b) (m := (n : Int)) (by omega)
  have el : (Txt.mul ⟨#[b]⟩ (n : Int)).length = n := by
    show (Txt.mul ⟨#[b]⟩ (n : Int)).cps.size = n
    rw [← Array.length_toList, e0, List.length_replicate]; rfl
  unfold lampZ lampL
  rw [Str.cps_append, Str.cps_append, Array.toList_append, Array.toList_append]
  unfold cutS
  rw [el, e0, show ((k : Int) + 1) = ((k + 1 : Nat) : Int) by omega, HT.sIx_nat, HT.sIx_nat, HT.sIx_none, HT.sIx_none]
  simp only [Int.toNat_natCast, List.drop_zero, List.take_replicate, List.drop_replicate]
  have a1 : min (min k n - 0) (n - 0) = k := by omega
  have a2 : min (n - min (k + 1) n) (n - min (k + 1) n) = n - 1 - k := by omega
  rw [a1, a2, List.append_assoc]; rfl
theorem lampZ_ok {b s : Nat} {m i : Int} (hi : 0 ≤ i) (him : i < m) (hm : m ≤ 8) (hb : 97 ≤ b ∧ b ≤ 122) (hs : 97 ≤ s ∧ s ≤ 122) : lampS (lampZ b s m i) = true := by
  have e := lamp_cps (b := b) (s := s) hi him
  have el : (lampZ b s m i).length = m.toNat := by
    show (lampZ b s m i).cps.size = _
    rw [← Array.length_toList, e, lampL, List.length_append, List.length_cons, List.length_replicate, List.length_replicate]; omega
  unfold lampS
  rw [el, e]
  simp only [Bool.and_eq_true, decide_eq_true_eq, List.all_eq_true]
  refine ⟨⟨by omega, by omega⟩, fun c hc => ?_⟩
  have : c = b ∨ c = s := by
    rcases List.mem_append.mp hc with h | h
    · exact .inl (List.eq_of_mem_replicate h)
    · rcases List.mem_cons.mp h with h | h
      · exact .inr h
      · exact .inl (List.eq_of_mem_replicate h)
  simp only [letter, Bool.and_eq_true, decide_eq_true_eq]
  rcases this with rfl | rfl
  · exact hb
  · exact hs
theorem lampZ_inj {b s t : Nat} {m i : Int} (hi : 0 ≤ i) (him : i < m) (h : lampZ b s m i = lampZ b t m i) : s = t := by
  have e := lamp_cps (b := b) (s := s) hi him
  rw [h, lamp_cps hi him] at e
  unfold lampL at e
  have := List.append_cancel_left e
  exact (List.cons.inj this).1.symm
/-- the sixth lamps of a draw -/
def lampK (c : Int) (k : Nat) : Str := lampZ (97 + (c / 8 % 26).toNat) (97 + ((c / 1664 + 5 * (0 + (k : Int))) % 26).toNat) (1 + c % 8) (c / 208 % (1 + c % 8))
def lamps6 (c : Int) : List Str := (List.range 6).map (lampK c)
theorem lampK_dom {c : Int} : (0 ≤ c / 208 % (1 + c % 8)) ∧ c / 208 % (1 + c % 8) < 1 + c % 8 ∧ 1 + c % 8 ≤ 8 ∧ 1 ≤ 1 + c % 8 :=
  have h : 0 < 1 + c % 8 := by omega
  ⟨Int.emod_nonneg _ (by omega), Int.emod_lt_of_pos _ h, by omega, by omega⟩
theorem lamps6_len (c : Int) : (lamps6 c).length = 6 := by simp [lamps6]
theorem lamps6_ok (c : Int) : ∀ z ∈ lamps6 c, lampS z = true := by
  intro z hz
  obtain ⟨k, _, rfl⟩ := List.mem_map.mp hz
  obtain ⟨a1, a2, a3, a4⟩ := lampK_dom (c := c)
  exact lampZ_ok a1 a2 a3 (by omega) (by omega)
theorem lamps6_nodup (c : Int) : (lamps6 c).Nodup := by
  unfold lamps6
  refine List.pairwise_map.mpr ?_
  have : (List.range 6).Pairwise (fun a b => a < b ∧ b < 6) := by decide
  refine this.imp fun {a b} h e => ?_
  obtain ⟨a1, a2, _, _⟩ := lampK_dom (c := c)
  have := lampZ_inj a1 a2 e
  omega
theorem lamps6_take (c : Int) {k : Nat} (h : k < 6) : (lamps6 c).take (k + 1) = (lamps6 c).take k ++ [lampK c k] := take_snoc (by unfold lamps6; rw [List.getElem?_map, List.getElem?_range h]; rfl)
theorem lamps6_U (c : Int) : Lamps (lamps6 c) := ⟨by rw [lamps6_len]; decide, lamps6_ok c⟩
theorem lampS_okS {z : Str} (h : lampS z = true) : PyData.strOk z = true := by
  rw [okS_iff]
  intro c hc
  unfold lampS at h
  simp only [Bool.and_eq_true, List.all_eq_true] at h
  have := h.2 c hc
  simp only [letter, Bool.and_eq_true, decide_eq_true_eq] at this
  omega
theorem lampS_len {z : Str} (h : lampS z = true) : z.length ≤ 8 := by
  unfold lampS at h
  simp only [Bool.and_eq_true, decide_eq_true_eq] at h
  exact h.1.2
theorem lampS_pl {H : Hp} {z : Str} (h : lampS z = true) : Pl H (.str z) := ⟨Nat.le_trans (lampS_len h) (by decide), lampS_okS h⟩
def nums9 (c : Int) : List Int := [1, 2, 3, 10, 20 + c % 999000, 20 + c % 999000 + 1, 20 + c % 999000 + 2, 999998, 999999]
theorem nums9_ok (c : Int) : ∀ n ∈ nums9 c, 1 ≤ n ∧ n ≤ 999999 := by
  intro n hn
  simp only [nums9, List.mem_cons, List.not_mem_nil, or_false] at hn
  omega

section
variable {P : Program} {w : World} {K : PySem.W.Frag} {mg : Str → Option Value} {base : Heap}
def spLaw (K : PySem.W.Frag) : Sp := sp1 fun v H Q _ => ∃ (a : Addr) (ns : List Int), v = .ref a ∧ ns.length ≤ 63 ∧ SqL K H a (ns.map V.int) ∧ ∀ H', Q (.bl true) H'
def spCell (K : PySem.W.Frag) : Sp := sp2 fun a k H Q _ => ∃ (p : Addr) (ns : List Int) (i : Int), a = .ref p ∧ k = .int i ∧ 0 ≤ i ∧ SqL K H p (ns.map V.int) ∧ ∀ v : Int, Q (.int v) H
theorem sc__law_cell : FnScope ["_law_script", "_law_k"] ["_law_script", "_law_k"] (defScope s__law_cell) := ⟨rfl, rfl, rfl, by decide +kernel, rfl, by decide +kernel, by decide +kernel⟩
theorem d__law_cell (T : Txt K mg) : Def P w K mg base 1 "_law_cell" ["_law_script", "_law_k"] (spCell K) := by
  refine mkDef T.d__law_cell T.g__law_cell sc__law_cell (fun _ _ _ _ _ _ us hl => match us, hl with | [_, _], _ => rfl) len2 (BodyN.up fun cdv A outer s H vs Q E hr h => ?_)
  obtain ⟨_, _, rfl, p, ns, i, rfl, rfl, h0, hs, q⟩ := h
  have hu := hu_of hr
  refine ⟨_, (pss_cons (ps_if (pt_cmpR op_lt (pv 1) (pe_callB call_len_seq (by rfl) T.z_len (by decide +kernel) (pa_cons (pv 0) pa_nil)) (nomark _))
    (pss_one (ps_ret (pe_ix ix_list (pv 0) (pv 1) (fun _ _ => rfl))))
    pss_nil)
    (pss_one (ps_ret (pe_op op_mul pe_int (pv 1))))), ?_⟩
  refine ⟨_, rfl, _, rfl, _, _, rfl, .inl hs, _, _, rfl, rfl, _, rfl, ite2 (fun c1 => ?_) (fun c1 => ?_)⟩
  · have c1 : i < ((ns.map V.int).length : Int) := of_decide_eq_true c1
    obtain ⟨v, hv, ha⟩ := at_in (n := (ns.map V.int).length) rfl h0 c1
    obtain ⟨z, _, rfl⟩ := List.mem_map.mp hv
    exact ⟨_, rfl, _, rfl, _, _, _, _, rfl, rfl, hs, ha, q z⟩
  · exact ⟨_, rfl, _, _, rfl, rfl, .inl ⟨by decide, by decide⟩, q _⟩
def spLamps : Sp := sp1 fun a H Q _ => ∃ c : Int, a = .int c ∧ ∀ H' l, Same H H' → H l = none → H' l = some (.lst ((lamps6 c).map V.str)) → Q (.ref l) H'
theorem sc__law_lamps : FnScope ["_law_cell_here", "_law_letters", "_law_size", "_law_base", "_law_spot", "_law_found", "_law_k", "_law_sign"] ["_law_cell_here"] (defScope s__law_lamps) := ⟨rfl, rfl, rfl, by decide +kernel, rfl, by decide +kernel, by decide +kernel⟩
theorem d__law_lamps (T : Txt K mg) : Def P w K mg base 1 "_law_lamps" ["_law_cell_here"] (spLamps) := by
  refine mkDef T.d__law_lamps T.g__law_lamps sc__law_lamps (fun _ _ _ _ _ _ us hl => match us, hl with | [_], _ => rfl) len1 (BodyN.up fun cdv A outer s H vs Q E hr h => ?_)
  obtain ⟨_, rfl, c, rfl, q⟩ := h
  have hu := hu_of hr
  refine ⟨_, (pss_cons (ps_set (i := 1) sc__law_lamps.nd rfl (Or.inl rfl) pe_str)
    (pss_cons (ps_set (i := 2) sc__law_lamps.nd rfl (Or.inl rfl) (pe_op op_add pe_int (pe_op op_mod (pv 0) pe_int)))
    (pss_cons (ps_set (i := 3) sc__law_lamps.nd rfl (Or.inl rfl) (pe_op op_muls (pe_ix ix_str (pv 1) (pe_op op_mod (pe_op op_fdiv (pv 0) pe_int) pe_int) (fun _ _ => rfl)) (pv 2)))
    (pss_cons (ps_set (i := 4) sc__law_lamps.nd rfl (Or.inl rfl) (pe_op op_mod (pe_op op_fdiv (pv 0) pe_int) (pv 2)))
    (pss_cons (ps_set (i := 5) sc__law_lamps.nd rfl (Or.inl rfl) (pe_lst pa_nil))
    (pss_cons (ps_for PassesOwn.never rfl (pi_range1 (by rfl) T.z_range (pa_cons pe_int pa_nil)) (pg_name (i := 6) sc__law_lamps.nd rfl (Or.inl rfl))
    (pss_cons (ps_set (i := 7) sc__law_lamps.nd rfl (Or.inl rfl) (pe_ix ix_str (pv 1) (pe_op op_mod (pe_op op_add (pe_op op_fdiv (pv 0) pe_int) (pe_op op_mul pe_int (pv 6))) pe_int) (fun _ _ => rfl)))
    (pss_one (ps_expr (pe_bm PySem.F.plainAttrs_list PySem.F.slot_list_append PySem.F.type_list_append mt_append (pv 5) (pa_cons (pe_op op_add_str (pe_op op_add_str (pe_slice sl_str (pv 3) po_none (po_some (pv 4))) (pv 7)) (pe_slice sl_str (pv 3) (po_some (pe_op op_add (pv 4) pe_int)) po_none)) pa_nil))))))
    (pss_one (ps_ret (pv 5))))))))), ?_⟩
  obtain ⟨a1, a2, a3, a4⟩ := lampK_dom (c := c)
  have lz : (Str.ofString "abcdefghijklmnopqrstuvwxyz").length ≤ sizeLine := by rw [sizeLine_eq]; decide +kernel
  refine ⟨_, rfl, _, _, rfl, rfl, by simp, _, _, rfl, rfl, ?_⟩
  refine ⟨_, rfl, _, rfl, _, _, rfl, rfl, ⟨by decide, by decide⟩, _, _, rfl, rfl, by simp, _, _, _, rfl, rfl, lz, letter_at (Int.emod_nonneg _ (by decide)) (Int.emod_lt_of_pos _ (by decide)), _, rfl, _, _, rfl, rfl, show (1 : Nat) ≤ 1000 by decide, by omega, by omega, ?_⟩
  refine ⟨_, rfl, _, _, rfl, rfl, ⟨by decide, by decide⟩, _, rfl, _, _, rfl, rfl, show (0 : Int) < 1 + c % 8 by omega, ?_⟩
  refine ⟨by simp [sizeLine_eq], fun l nl => ?_⟩
  refine ⟨6, rfl, by decide, by decide, for_range (n := 6) (fun i σ H' => ∃ v6 v7, σ = [some (.int c), some (.str "abcdefghijklmnopqrstuvwxyz"), some (.int (1 + c % 8)), some (.str (Txt.mul ⟨#[97 + (c / 8 % 26).toNat]⟩ (1 + c % 8))), some (.int (c / 208 % (1 + c % 8))), some (.ref l), v6, v7] ∧ Same H H' ∧ H' l = some (.lst (((lamps6 c).take i).map V.str))) ⟨none, none, rfl, same_upd nl, upd_same⟩ ?_ ?_⟩
  · rintro i σ H' hi ⟨v6, v7, rfl, s1, hl⟩
    have lb : (Txt.mul ⟨#[97 + (c / 8 % 26).toNat]⟩ (1 + c % 8)).length ≤ 8 := by
      show (Txt.mul ⟨#[97 + (c / 8 % 26).toNat]⟩ (1 + c % 8)).cps.size ≤ 8
      rw [← Array.length_toList, mul_cps a4, List.length_replicate]; omega
    have lb2 : (Txt.mul ⟨#[97 + (c / 8 % 26).toNat]⟩ (1 + c % 8)).length ≤ sizeLine := Nat.le_trans lb (by rw [sizeLine_eq]; decide)
    refine ⟨_, rfl, _, rfl, _, _, rfl, rfl, ⟨by decide, by decide⟩, _, rfl, _, _, rfl, rfl, .inl ⟨by decide, by decide⟩, _, _, rfl, rfl, _, _, rfl, rfl, by simp, _, _, _, rfl, rfl, lz, letter_at (Int.emod_nonneg _ (by decide)) (Int.emod_lt_of_pos _ (by decide)), ?_⟩
    refine ⟨_, rfl, .inl ⟨rfl, _, .inl (.inl hl)⟩, _, rfl, _, rfl, _, rfl, _, rfl, lb2, _, rfl, _, _, rfl, rfl, ?_, _, rfl, _, rfl, _, _, rfl, rfl, _, rfl, _, rfl, lb2, _, _, rfl, rfl, ?_, _, _, _, rfl, rfl, hl, ?_, ?_⟩
    · have := cutS_length (Txt.mul ⟨#[97 + (c / 8 % 26).toNat]⟩ (1 + c % 8)) none (some (c / 208 % (1 + c % 8)))
      rw [sizeLine_eq]
      show _ + 1 ≤ _
      omega
    · have h1 := cutS_length (Txt.mul ⟨#[97 + (c / 8 % 26).toNat]⟩ (1 + c % 8)) none (some (c / 208 % (1 + c % 8)))
      have h2 := cutS_length (Txt.mul ⟨#[97 + (c / 8 % 26).toNat]⟩ (1 + c % 8)) (some (c / 208 % (1 + c % 8) + 1)) none
      rw [sizeLine_eq, Str.length_append]
      show _ + 1 + _ ≤ _
      omega
    · rw [List.length_map, List.length_take, lamps6_len, sizeLine_eq]; omega
    · refine ⟨_, _, rfl, sm_mut s1 nl, ?_⟩
      rw [upd_same, lamps6_take c hi, List.map_append]; rfl
  · rintro σ H' ⟨v6, v7, rfl, s1, hl⟩
    refine ⟨_, rfl, q H' l s1 nl ?_⟩
    rwa [show (lamps6 c).take 6 = lamps6 c from List.take_of_length_le (by rw [lamps6_len]; decide)] at hl
def spNums : Sp := sp1 fun a H Q _ => ∃ c : Int, a = .int c ∧ ∀ H' l, Same H H' → H l = none → H' l = some (.lst ((nums9 c).map V.int)) → Q (.ref l) H'
theorem sc__law_numbers : FnScope ["_law_cell_here", "_law_one"] ["_law_cell_here"] (defScope s__law_numbers) := ⟨rfl, rfl, rfl, by decide +kernel, rfl, by decide +kernel, by decide +kernel⟩
theorem d__law_numbers (T : Txt K mg) : Def P w K mg base 1 "_law_numbers" ["_law_cell_here"] (spNums) := by
  refine mkDef T.d__law_numbers T.g__law_numbers sc__law_numbers (fun _ _ _ _ _ _ us hl => match us, hl with | [_], _ => rfl) len1 (BodyN.up fun cdv A outer s H vs Q E hr h => ?_)
  obtain ⟨_, rfl, c, rfl, q⟩ := h
  have hu := hu_of hr
  refine ⟨_, (pss_cons (ps_set (i := 1) sc__law_numbers.nd rfl (Or.inl rfl) (pe_op op_add pe_int (pe_op op_mod (pv 0) pe_int)))
    (pss_one (ps_ret (pe_lst (pa_cons pe_int (pa_cons pe_int (pa_cons pe_int (pa_cons pe_int (pa_cons (pv 1) (pa_cons (pe_op op_add (pv 1) pe_int) (pa_cons (pe_op op_add (pv 1) pe_int) (pa_cons pe_int (pa_cons pe_int pa_nil))))))))))))), ?_⟩
  refine ⟨_, rfl, _, _, rfl, rfl, by simp, _, _, rfl, rfl, _, rfl, _, rfl, _, _, rfl, rfl, _, rfl, _, _, rfl, rfl, by simp [sizeLine_eq], fun p np => ?_⟩
  exact q _ p (same_upd np) np upd_same
end

/-! ## The law's own book beside the play -/
theorem iteY {b : Bool} {A B : Prop} (h : b = true) (x : A) : if b = true then A else B := by rw [if_pos h]; exact x
theorem iteN {b : Bool} {A B : Prop} (h : b = false) (x : B) : if b = true then A else B := by rw [if_neg (by rw [h]; simp)]; exact x
/-- the level, by a walk through all cues from the last one on -/
def levL (n : Int) (l : Str) : Book → Int
  | [] => 0
  | e :: r => if e.1 ≤ n then (match get e.2.words l with
    | some v => v
    | none => if e.2.fresh then 0 else levL n l r) else levL n l r
theorem levL_levR (n : Int) (l : Str) : ∀ R : Book, levL n l R = levR l (R.filter fun e => decide (e.1 ≤ n))
  | [] => rfl
  | e :: r => by
    unfold levL
    by_cases h : e.1 ≤ n
    · rw [if_pos h, List.filter_cons_of_pos (by simpa using h), levR, levL_levR n l r] <;> rfl
    · rw [if_neg h, List.filter_cons_of_neg (by simpa using h), levL_levR n l r]
theorem lev_levL {U : List Str} {M : Book} (g : Good U M) (n : Int) (l : Str) : lev M n l = levL n l M.reverse := by
  unfold lev
  rw [lookW_levR l (upto M n) fun e he => g.wnd (List.mem_filter.mp he).1, levL_levR]
  unfold upto
  rw [List.filter_reverse]
theorem levL_at {n : Int} {l : Str} {R : Book} {i : Nat} {e : Int × CueC} (h : R[i]? = some e) : levL n l (R.drop i) = levL n l (e :: R.drop (i + 1)) := by
  obtain ⟨hl, rfl⟩ := List.getElem?_eq_some_iff.mp h
  rw [List.drop_eq_getElem_cons hl]
theorem TK.sortedR {kvs : List (Key × V)} {M : Book} {ad : Int → Addr} (h : TK kvs M ad) (hs : Rising ltI M) {ks ys : List Int} (hk : kvs.map (·.1) = ks.map Sum.inl) (hp : ys.Perm ks) (hy : ys.Pairwise (· ≥ ·)) : ys = M.reverse.map (·.1) := by
  have := h.sorted hs hk ((List.reverse_perm ys).trans hp) (List.pairwise_reverse.mpr hy)
  rw [List.map_reverse, ← this, List.reverse_reverse]
section
variable {lk : Option Obj} {H : Hp} {d : Addr} {ad : Ads} {M : Book}
theorem TabAt.topR (T : TabAt RcM lk H d ad M) : ∃ kvs, Rd H d (.dK kvs) ∧ TK kvs M fun n => (ad n).1 := by
  obtain ⟨kvs, h, k⟩ := T.top
  exact ⟨kvs, box_rd h, k⟩
theorem TabAt.recd (T : TabAt RcM lk H d ad M) {n : Int} {c : CueC} (h : get M n = some c) : H (ad n).1 = some (.lst [.int c.up, .int c.down, .bl c.fresh, .ref (ad n).2]) := by
  obtain ⟨o, e, rfl⟩ := T.row n c h
  exact e
end
/-- what has been touched is within F; what is meant now is within F or new -/
def Mv (H : Hp) (F : Addr → Prop) (H' : Hp) (F' : Addr → Prop) : Prop := Chg F H H' ∧ Grow H F F'
theorem Mv.refl {H : Hp} {F : Addr → Prop} : Mv H F H F := ⟨fun _ _ e _ => e, fun _ h => .inl h⟩
theorem Mv.same {H H' : Hp} {F : Addr → Prop} (s : Same H H') : Mv H F H' F := ⟨fun b o e _ => s b o e, fun _ h => .inl h⟩
theorem Mv.trans {H H1 H2 : Hp} {F F1 F2 : Addr → Prop} (a : Mv H F H1 F1) (b : Mv H1 F1 H2 F2) : Mv H F H2 F2 := by
  refine ⟨fun x o e nf => b.1 x o (a.1 x o e nf) fun h => ?_, fun x h => ?_⟩
  · rcases a.2 x h with h | h
    · exact nf h
    · rw [h] at e; cases e
  · rcases b.2 x h with h | h
    · exact a.2 x h
    · by_cases z : F x
      · exact .inl z
      · refine .inr ?_
        cases e : H x with
        | none => rfl
        | some o => rw [a.1 x o e z] at h; cases h
/-- a play and the law's book, apart from each other -/
structure Two (K : PySem.W.Frag) (U : List Str) (NS : List Int) (H : Hp) (p dp : Addr) (ap : Ads) (Mp : Book) (dm : Addr) (am : Ads) (Mm : Book) : Prop where
  play : PlayAt K U H p dp ap Mp
  tab : TabAt RcM none H dm am Mm
  good : Good U Mm
  dis : ∀ b, footP p dp ap Mp b → foot dm am Mm b → False
  nmb : ∀ e ∈ Mm, e.1 ∈ NS
def footT (p dp : Addr) (ap : Ads) (Mp : Book) (dm : Addr) (am : Ads) (Mm : Book) (b : Addr) : Prop := footP p dp ap Mp b ∨ foot dm am Mm b
section
variable {K : PySem.W.Frag} {U : List Str} {NS : List Int} {H H' : Hp} {p dp dm : Addr} {ap ap' am : Ads} {Mp Mp' Mm : Book}
theorem Two.same (T : Two K U NS H p dp ap Mp dm am Mm) (s : Same H H') : Two K U NS H' p dp ap Mp dm am Mm := ⟨T.play.same s, T.tab.same s, T.good, T.dis, T.nmb⟩
theorem Two.has (T : Two K U NS H p dp ap Mp dm am Mm) {b : Addr} (h : footT p dp ap Mp dm am Mm b) : ∃ o, H b = some o := by
  rcases h with h | h
  · exact T.play.has h
  · exact T.tab.has h
/-- the play was changed -/
theorem Two.deed (T : Two K U NS H p dp ap Mp dm am Mm) (h : PlayAt K U H' p dp ap' Mp') (c : Chg (footP p dp ap Mp) H H') (g : Grow H (footP p dp ap Mp) (footP p dp ap' Mp')) :
    Two K U NS H' p dp ap' Mp' dm am Mm ∧ Mv H (footT p dp ap Mp dm am Mm) H' (footT p dp ap' Mp' dm am Mm) := by
  refine ⟨⟨h, T.tab.frame fun b o hb e => c b o e fun z => T.dis b z hb, T.good, fun b hb hm => ?_, T.nmb⟩, fun b o e n => c b o e fun z => n (.inl z), fun b hb => ?_⟩
  · rcases g b hb with h1 | h1
    · exact T.dis b h1 hm
    · obtain ⟨o, e⟩ := T.tab.has hm
      rw [h1] at e; cases e
  · rcases hb with h1 | h1
    · rcases g b h1 with h2 | h2
      · exact .inl (.inl h2)
      · exact .inr h2
    · exact .inl (.inr h1)
/-- words of the law's book were changed -/
theorem Two.word (T : Two K U NS H p dp ap Mp dm am Mm) {n : Int} {c : CueC} {f : Ws → Ws} {kvs : List (Key × V)} (hn : get Mm n = some c) (hw : WK kvs (f c.words)) (g : Good U (setW n f Mm)) :
    Two K U NS (upd H (am n).2 (.dK kvs)) p dp ap Mp dm am (setW n f Mm) ∧ Mv H (footT p dp ap Mp dm am Mm) (upd H (am n).2 (.dK kvs)) (footT p dp ap Mp dm am (setW n f Mm)) := by
  have hf : foot dm am Mm (am n).2 := .inr ⟨n, c, hn, .inr rfl⟩
  refine ⟨⟨T.play.frame fun b o hb e => by rw [upd_ne fun (z : b = (am n).2) => T.dis b hb (z ▸ hf)]; exact e, T.tab.word hn (fun b o _ ne e => by rw [upd_ne ne]; exact e) ⟨_, upd_same, hw⟩, g, fun b hb hm => T.dis b hb (foot_word.mp hm), fun e he => ?_⟩, fun b o e nf => by rw [upd_ne fun (z : b = (am n).2) => nf (.inr (z ▸ hf))]; exact e, fun b hb => ?_⟩
  · have : e.1 ∈ (setW n f Mm).map (·.1) := List.mem_map.mpr ⟨e, he, rfl⟩
    rw [setW_keys] at this
    obtain ⟨e', h1, h2⟩ := List.mem_map.mp this
    rw [← h2]; exact T.nmb e' h1
  · rcases hb with h | h
    · exact .inl (.inl h)
    · exact .inl (.inr (foot_word.mp h))
/-- a cue was put into the law's book -/
theorem Two.add (T : Two K U NS H p dp ap Mp dm am Mm) {n : Int} {c : CueC} {r w : Addr} {kvs : List (Key × V)} (hd : H dm = some (.dK kvs)) (hr : H r = some (.lst [.int c.up, .int c.down, .bl c.fresh, .ref w])) (hw : WordsAt H w c.words)
    (nr : ¬ footT p dp ap Mp dm am Mm r) (nw : ¬ footT p dp ap Mp dm am Mm w) (nrw : r ≠ w) (g : Good U (put ltI n c Mm)) (hn : n ∈ NS) :
    Two K U NS (upd H dm (.dK (putK kvs (Sum.inl n) (.ref r)))) p dp ap Mp dm (adSet am n (r, w)) (put ltI n c Mm) := by
  have rd : r ≠ dm := fun z => nr (.inr (.inl z))
  have wd : w ≠ dm := fun z => nw (.inr (.inl z))
  refine ⟨T.play.frame fun b o hb e => by rw [upd_ne fun z => T.dis b hb (.inl z)]; exact e, T.tab.add hd upd_same (by rw [upd_ne rd]; exact hr) rfl ?_ (fun z => nr (.inr z)) (fun z => nw (.inr z)) nrw (fun b u _ ne e => by rw [upd_ne ne]; exact e), g, fun b hb hm => ?_, fun e he => ?_⟩
  · obtain ⟨k, e, q⟩ := hw
    exact ⟨k, by rw [upd_ne wd]; exact e, q⟩
  · rcases foot_add hm with h | h | h
    · exact T.dis b hb h
    · exact nr (.inl (h ▸ hb))
    · exact nw (.inl (h ▸ hb))
  · have h := (keys_put n c Mm e.1).mp (List.mem_map.mpr ⟨e, he, rfl⟩)
    rcases h with h | h
    · rw [h]; exact hn
    · obtain ⟨e', h1, h2⟩ := List.mem_map.mp h
      rw [← h2]; exact T.nmb e' h1
/-- a cue was dropped from the law's book -/
theorem Two.drop (T : Two K U NS H p dp ap Mp dm am Mm) {n : Int} {kvs : List (Key × V)} (hd : H dm = some (.dK kvs)) :
    Two K U NS (upd H dm (.dK (dropK kvs (Sum.inl n)))) p dp ap Mp dm am (del n Mm) ∧ Mv H (footT p dp ap Mp dm am Mm) (upd H dm (.dK (dropK kvs (Sum.inl n)))) (footT p dp ap Mp dm am (del n Mm)) := by
  refine ⟨⟨T.play.frame fun b o hb e => by rw [upd_ne fun z => T.dis b hb (.inl z)]; exact e, T.tab.drop hd upd_same (fun b u _ ne e => by rw [upd_ne ne]; exact e), T.good.del n, fun b hb hm => T.dis b hb (foot_drop hm), fun e he => T.nmb e (List.mem_filter.mp he).1⟩, fun b o e nf => by rw [upd_ne fun z => nf (.inr (.inl z))]; exact e, fun b hb => ?_⟩
  rcases hb with h | h
  · exact .inl (.inl h)
  · exact .inl (.inr (foot_drop h))
theorem Two.few (T : Two K U NS H p dp ap Mp dm am Mm) (h : NS.length ≤ 9) : Mm.length ≤ 9 := by
  have := nodup_le T.good.nodup (u := NS) fun x hx => by
    obtain ⟨e, he, rfl⟩ := List.mem_map.mp hx
    exact T.nmb e he
  rw [List.length_map] at this; omega
end
/-- a dict that is walked is locked, and let go -/
theorem same_unlock {H H' : Hp} {d : Addr} {u x : HO} (h : H d = some u) (s : Same (upd H d x) H') : Same H (upd H' d u) := fun b o e => by
  by_cases z : b = d
  · subst z; rw [upd_same, ← h, e]
  · rw [upd_ne z]; exact s b o (by rw [upd_ne z]; exact e)
theorem TabAt.locked {H : Hp} {d : Addr} {ad : Ads} {M : Book} (T : TabAt RcM none H d ad M) {kvs : List (Key × V)} (h : H d = some (.dK kvs)) (od : Obj) : TabAt RcM (some od) (upd H d (.frz od (.dK kvs))) d ad M := by
  refine ⟨⟨kvs, upd_same, ?_⟩, fun n c hn => ?_, fun n c hn => ?_, T.inj, T.out, T.crs⟩
  · obtain ⟨k', e, q⟩ := T.top
    rw [h] at e
    cases e; exact q
  · obtain ⟨o, e, q⟩ := T.row n c hn
    exact ⟨o, by rw [upd_ne (T.out n c hn).1]; exact e, q⟩
  · obtain ⟨o, e, q⟩ := T.wrd n c hn
    exact ⟨o, by rw [upd_ne (T.out n c hn).2]; exact e, q⟩
theorem dW_snoc (ws : Ws) (l : Str) (v : Int) : dW (ws ++ [(l, v)]) = dW ws ++ [(Sum.inr l, V.int v)] := by simp [dW]
theorem putK_dW {ws : Ws} {l : Str} {v : Int} (h : l ∉ ws.map (·.1)) : putK (dW ws) (Sum.inr l) (.int v) = dW (ws ++ [(l, v)]) := by
  rw [dW_snoc, putK_new]
  rw [valV_dW, get_none_iff.mpr h]; rfl
/-- pairs, as data -/
theorem dat_items {K : PySem.W.Frag} {H : Hp} {ts : List Addr} {ws : Ws} (h : Paired (fun (t : Addr) (q : Key × V) => H t = some (.tup [kV q.1, q.2])) ts (dW ws)) (ok : ∀ w ∈ ws, PyData.strOk w.1 = true) :
    Paired (fun x d => Dat K H x d 1) (ts.map V.ref) (ws.map fun w => PyData.tuple [.str w.1, .int w.2]) := by
  induction ws generalizing ts with
  | nil => cases h; exact .nil
  | cons w r ih =>
    cases h with
    | cons h1 h2 =>
      refine .cons ?_ (ih h2 fun x hx => ok x (List.mem_cons_of_mem _ hx))
      exact dat_tup (xs := [.str w.1, .int w.2]) (.inl (.inl h1)) (by
        intro x hx
        simp only [List.mem_cons, List.not_mem_nil, or_false] at hx
        rcases hx with rfl | rfl
        · exact ok w List.mem_cons_self
        · rfl)
theorem look_mem {U : List Str} {M : Book} (g : Good U M) (n : Int) : ∀ w ∈ look M n, w.1 ∈ U ∧ 0 ≤ w.2 ∧ w.2 ≤ 100 := fun w hw => lookW_val (g.upto n) w (List.mem_filter.mp hw).1
theorem look_few {U : List Str} {M : Book} (g : Good U M) (u : Lamps U) (n : Int) : (look M n).length ≤ 60 := Nat.le_trans (List.length_filter_le _ _) (lookW_few (g.upto n) u)

theorem sortedS_le : ∀ {l : List Str}, sortedS l = true → l.Pairwise (fun a b => ¬ ltS b a) := by
  have aux : ∀ (l : List Str) (p : Str), risingS p l = true → (p :: l).Pairwise (fun a b => ¬ ltS b a) := by
    intro l
    induction l with
    | nil => intro p _; simp
    | cons x r ih =>
      intro p h
      obtain ⟨h1, h2⟩ := Bool.and_eq_true_iff.mp (show (!ltCps x.cps.toList p.cps.toList && risingS x r) = true from h)
      have ihx := ih x h2
      have px : ¬ ltS x p := fun q => by
        have : ltCps x.cps.toList p.cps.toList = true := q
        rw [this] at h1; simp at h1
      refine List.pairwise_cons.mpr ⟨fun y hy => ?_, ihx⟩
      rcases List.mem_cons.mp hy with rfl | hy
      · exact px
      · have h3 := (List.pairwise_cons.mp ihx).1 y hy
        intro q
        by_cases e : x = p
        · subst e; exact h3 q
        · rcases linS.tri x p e with k | k
          · exact px k
          · exact h3 (linS.tr _ _ _ q k)
  intro l h
  cases l with
  | nil => exact .nil
  | cons x r => exact aux r x h
theorem put_hit {k : Str} {v : Int} : ∀ {W : Ws}, Rising ltS W → get W k = some v → put ltS k v W = W
  | [], _, h => by cases h
  | (a, x) :: r, hr, h => by
    obtain ⟨h1, h2⟩ := List.pairwise_cons.mp hr
    unfold put
    rw [get] at h
    by_cases e : a = k
    · rw [if_pos e] at h ⊢
      cases h; rw [e]
    · rw [if_neg e] at h ⊢
      have : ltS a k := h1 k (List.mem_map.mpr ⟨_, get_mem h, rfl⟩)
      rw [if_neg (linS.asym this), put_hit h2 h]
theorem put_end {k : Str} {v : Int} : ∀ {W : Ws}, Rising ltS W → (∀ y ∈ W, ltS y.1 k) → put ltS k v W = W ++ [(k, v)]
  | [], _, _ => rfl
  | (a, x) :: r, hr, h => by
    have h0 := h _ List.mem_cons_self
    unfold put
    have ne : a ≠ k := fun e => linS.irr k (e ▸ h0)
    rw [if_neg ne, if_neg (linS.asym h0), put_end (List.pairwise_cons.mp hr).2 fun y hy => h y (List.mem_cons_of_mem _ hy)]
    rfl
theorem valV_of_mem {κ : Type} [DecidableEq κ] : ∀ {kvs : List (κ × V)} {k : κ} {v : V}, (kvs.map (·.1)).Nodup → (k, v) ∈ kvs → valV kvs k = some v
  | [], _, _, _, h => by cases h
  | (a, x) :: r, k, v, hn, h => by
    obtain ⟨h1, h2⟩ := List.nodup_cons.mp hn
    unfold valV
    rcases List.mem_cons.mp h with e | h
    · cases e; simp
    · have : a ≠ k := fun z => h1 (z ▸ List.mem_map.mpr ⟨_, h, rfl⟩)
      rw [List.find?_cons_of_neg (by simpa using this)]
      exact valV_of_mem h2 h
theorem putK_hit {κ : Type} [DecidableEq κ] {kvs : List (κ × V)} {k : κ} {v : V} (h : valV kvs k = some v) (hn : (kvs.map (·.1)).Nodup) : putK kvs k v = kvs := by
  unfold putK
  by_cases c : (kvs.any fun kv => decide (kv.1 = k)) = true
  · rw [if_pos c]
    have : kvs.map (fun kv => if kv.1 = k then (kv.1, v) else kv) = kvs.map id := List.map_congr_left fun kv hm => by
      by_cases e : kv.1 = k
      · rw [if_pos e]
        have := valV_of_mem (v := kv.2) hn hm
        rw [e, h] at this
        cases this; rfl
      · rw [if_neg e]; rfl
    rw [this, List.map_id]
  · exfalso
    apply c
    unfold valV at h
    obtain ⟨kv, hf, _⟩ := Option.map_eq_some_iff.mp h
    exact List.any_eq_true.mpr ⟨kv, List.mem_of_find?_eq_some hf, List.find?_some (p := fun kv : κ × V => decide (kv.1 = k)) hf⟩
section
variable {P : Program} {w : World} {K : PySem.W.Frag} {mg : Str → Option Value} {base : Heap}
def spLLevel : Sp := sp3 fun m n l H Q _ => ∃ lk d ad M U i z, m = .ref d ∧ n = .int i ∧ l = .str z ∧ TabAt RcM lk H d ad M ∧ Good U M ∧ ∀ H', Same H H' → Q (.int (lev M i z)) H'
theorem sc__law_level : FnScope ["_law_model", "_law_number", "_law_lamp", "_law_one"] ["_law_model", "_law_number", "_law_lamp"] (defScope s__law_level) := ⟨rfl, rfl, rfl, by decide +kernel, rfl, by decide +kernel, by decide +kernel⟩
theorem d__law_level (T : Txt K mg) : Def P w K mg base 1 "_law_level" ["_law_model", "_law_number", "_law_lamp"] (spLLevel) := by
  refine mkDef T.d__law_level T.g__law_level sc__law_level (fun _ _ _ _ _ _ us hl => match us, hl with | [_, _, _], _ => rfl) len3 (BodyN.up fun cdv A outer s H vs Q E hr h => ?_)
  obtain ⟨_, _, _, rfl, lk, d, ad, M, U, n, z, rfl, rfl, rfl, hT, g, q⟩ := h
  have hu := hu_of hr
  refine ⟨_, (pss_cons (ps_for PassesOwn.never rfl (pi_list (pe_sortedDR (pv 0) (by rfl) T.z_sorted)) (pg_name (i := 3) sc__law_level.nd rfl (Or.inl rfl))
    (pss_cons (ps_if (PW.pt (pw_and (pt_cmpR op_le (pv 3) (pv 1) (nomark _)) (pw_and1 (pt_cmp (pc_din (by exact hu) (pv 2) (pe_ix ix_list (pe_dget (by exact hu) (pv 0) (pv 3) (fun _ _ => rfl)) pe_int (fun _ _ => rfl)))))))
    (pss_one (ps_ret (pe_dget (by exact hu) (pe_ix ix_list (pe_dget (by exact hu) (pv 0) (pv 3) (fun _ _ => rfl)) pe_int (fun _ _ => rfl)) (pv 2) (fun _ _ => rfl))))
    pss_nil)
    (pss_one (ps_if (PW.pt (pw_and (pt_cmpR op_le (pv 3) (pv 1) (nomark _)) (pw_and1 (pt_val (pe_ix ix_list (pe_dget (by exact hu) (pv 0) (pv 3) (fun _ _ => rfl)) pe_int (fun _ _ => rfl))))))
    (pss_one (ps_ret pe_int))
    pss_nil))))
    (pss_one (ps_ret pe_int))), ?_⟩
  obtain ⟨kvs, rd, tk⟩ := hT.topR
  obtain ⟨ns, hk, _, _⟩ := tk.keys
  refine ⟨_, rfl, _, kvs, ns, rfl, rfl, rd, hk, fun ys p hp1 hp2 np => ?_⟩
  rw [tk.sortedR g.srt hk hp1 hp2]
  have s0 := same_upd (o := HO.lst ((M.reverse.map (·.1)).map V.int)) np
  refine ⟨p, rfl, ⟨_, .inl (.inl upd_same)⟩, for_list (K := K) (a := p) (xs := (M.reverse.map (·.1)).map V.int) (fun i σ H' => ∃ v3, σ = [some (.ref d), some (.int n), some (.str z), v3] ∧ Same H H' ∧ H' p = some (.lst ((M.reverse.map (·.1)).map V.int)) ∧ lev M n z = levL n z (M.reverse.drop i)) ⟨none, rfl, s0, upd_same, lev_levL g n z⟩ (fun i σ H' _ ⟨_, _, _, h, _⟩ => .inl (.inl h)) ?_ ?_⟩
  · rintro i x σ H' hx ⟨v3, rfl, s1, hl, hv⟩
    rw [List.map_map, List.getElem?_map] at hx
    obtain ⟨e, he, rfl⟩ := Option.map_eq_some_iff.mp hx
    have hm : e ∈ M := List.mem_reverse.mp (List.mem_of_getElem? he)
    have hge : get M e.1 = some e.2 := get_of_mem g.nodup hm
    have T1 := hT.same s1
    obtain ⟨kv1, rd1, tk1⟩ := T1.topR
    have hrec := T1.recd hge
    obtain ⟨kw, ew, wk⟩ := T1.wrd _ _ hge
    rw [levL_at he, levL] at hv
    have nxt : (e.1 ≤ n → get e.2.words z = none → e.2.fresh = false) → (e.1 ≤ n → get e.2.words z = none) → lev M n z = levL n z (M.reverse.drop (i + 1)) := by
      intro h1 h2
      by_cases c : e.1 ≤ n
      · rw [if_pos c, h2 c, h1 c (h2 c)] at hv
        simpa using hv
      · rwa [if_neg c] at hv
    have fin : (e.1 ≤ n → get e.2.words z = none) → ∀ v4 : Option V, (e.1 ≤ n → get e.2.words z = none → e.2.fresh = false) → ∃ v3, [some (V.ref d), some (.int n), some (.str z), v4] = [some (V.ref d), some (.int n), some (.str z), v3] ∧ Same H H' ∧ H' p = some (.lst ((M.reverse.map (·.1)).map V.int)) ∧ lev M n z = levL n z (M.reverse.drop (i + 1)) :=
      fun h2 v4 h1 => ⟨v4, rfl, s1, hl, nxt h1 h2⟩
    refine ⟨_, rfl, _, rfl, _, _, rfl, rfl, _, rfl, ite2 (fun c1 => ?_) (fun c1 => ?_)⟩
    · have c1 : e.1 ≤ n := of_decide_eq_true c1
      refine ⟨_, rfl, _, rfl, _, rfl, d, _, rfl, tk1.hit rd1 hge, _, _, _, _, rfl, rfl, .inl (.inl hrec), rfl, _, _, rfl, wk.get (.inl ew) z, _, rfl, ?_⟩
      cases hz : get e.2.words z with
      | some v =>
        refine iteT ⟨_, rfl, _, rfl, d, _, rfl, tk1.hit rd1 hge, _, _, _, _, rfl, rfl, .inl (.inl hrec), rfl, _, rfl, _, _, rfl, wk.hit (.inl ew) hz, ?_⟩
        rw [if_pos c1, hz] at hv
        have hv : lev M n z = v := hv
        rw [← hv]
        exact q H' s1
      | none =>
        refine iteF ⟨_, rfl, _, rfl, _, _, rfl, rfl, _, rfl, iteY (decide_eq_true c1) ⟨_, rfl, _, rfl, d, _, rfl, tk1.hit rd1 hge, _, _, _, _, rfl, rfl, .inl (.inl hrec), rfl, _, rfl, ite2 (fun c2 => ?_) (fun c2 => ?_)⟩⟩
        · rw [if_pos c1, hz] at hv
          have hv : lev M n z = if e.2.fresh = true then 0 else _ := hv
          rw [if_pos c2] at hv
          rw [← hv]
          exact q H' s1
        · exact fin (fun _ => hz) _ fun _ _ => by simpa using c2
    · have c1 : ¬ e.1 ≤ n := fun y => c1 (decide_eq_true y)
      refine iteF ⟨_, rfl, _, rfl, _, _, rfl, rfl, _, rfl, iteN (decide_eq_false c1) (iteF ?_)⟩
      exact fin (fun y => absurd y c1) _ fun y => absurd y c1
  · rintro σ H' ⟨v3, rfl, s1, hl, hv⟩
    rw [show ((M.reverse.map (·.1)).map V.int).length = M.reverse.length by simp, List.drop_length] at hv
    have hv : lev M n z = 0 := hv
    rw [← hv]
    exact q H' s1
/-- lamps asked for: all of U, perhaps more, perhaps twice -/
structure Asked (U ls : List Str) : Prop where
  cov : ∀ z ∈ U, z ∈ ls
  ok : ∀ z ∈ ls, lampS z = true
  few : ls.length ≤ 60
theorem Asked.self {U : List Str} (u : Lamps U) : Asked U U := ⟨fun _ h => h, u.ok, u.few⟩
def spLLook : Sp := sp3 fun m n a H Q _ => ∃ lk d ad M U i l ls, m = .ref d ∧ n = .int i ∧ a = .ref l ∧ TabAt RcM lk H d ad M ∧ Good U M ∧ Asked U ls ∧ H l = some (.lst (ls.map V.str)) ∧ ∀ H' r, Same H H' → H r = none → H' r = some (.dK (dW (look M i))) → Q (.ref r) H'
theorem sc__law_look : FnScope ["_law_model", "_law_number", "_law_lamps_here", "_law_found", "_law_lamp", "_law_level_here"] ["_law_model", "_law_number", "_law_lamps_here"] (defScope s__law_look) := ⟨rfl, rfl, rfl, by decide +kernel, rfl, by decide +kernel, by decide +kernel⟩
theorem d__law_look (T : Txt K mg) : Def P w K mg base 2 "_law_look" ["_law_model", "_law_number", "_law_lamps_here"] (spLLook) := by
  have d__law_level := d__law_level (P := P) (w := w) (base := base) T
  refine mkDef T.d__law_look T.g__law_look sc__law_look (fun _ _ _ _ _ _ us hl => match us, hl with | [_, _, _], _ => rfl) len3 (BodyN.up fun cdv A outer s H vs Q E hr h => ?_)
  obtain ⟨_, _, _, rfl, lk, d, ad, M, U, n, l, ls, rfl, rfl, rfl, hT, g, hA, hl, q⟩ := h
  have hu := hu_of hr
  refine ⟨_, (pss_cons (ps_set (i := 3) sc__law_look.nd rfl (Or.inl rfl) pe_dnewK)
    (pss_cons (ps_for PassesOwn.never rfl (pi_list (pe_callB cr_sortedS (by rfl) T.z_sorted (by decide +kernel) (pa_cons (pv 2) pa_nil))) (pg_name (i := 4) sc__law_look.nd rfl (Or.inl rfl))
    (pss_cons (ps_set (i := 5) sc__law_look.nd rfl (Or.inl rfl) (pe_fn d__law_level (hr.mono (by decide)) (by rfl) passL (pa_cons (pv 0) (pa_cons (pv 1) (pa_cons (pv 4) pa_nil)))))
    (pss_one (ps_if (pt_cmpR op_gt (pv 5) pe_int (nomark _))
    (pss_one (ps_dput hu (pv 3) (pv 4) (pv 5) rfl))
    pss_nil))))
    (pss_one (ps_ret (pv 3))))), ?_⟩
  intro f nf
  have s0 := same_upd (o := HO.dK []) nf
  have hU := hA.few
  refine ⟨_, rfl, _, _, rfl, .inl (.inl (s0 _ _ hl)), by omega, fun ys p hp1 hp2 np => ?_⟩
  have sp : Same H (upd (upd H f (.dK [])) p (.lst (ys.map V.str))) := s0.trans (same_upd np)
  have ry : ys.Pairwise (fun a b => ¬ ltS b a) := sortedS_le hp2
  have fp : f ≠ p := fun z => by rw [← z, upd_same] at np; cases np
  refine ⟨p, rfl, ⟨_, .inl (.inl upd_same)⟩, for_list (K := K) (a := p) (xs := ys.map V.str) (fun i σ H' => ∃ v4 v5 W, σ = [some (.ref d), some (.int n), some (.ref l), some (.ref f), v4, v5] ∧ Same H H' ∧ H' p = some (.lst (ys.map V.str)) ∧ H' f = some (.dK (dW W)) ∧ Rising ltS W ∧ ∀ z, get W z = if z ∈ ys.take i ∧ 0 < lev M n z then some (lev M n z) else none) ⟨none, none, [], rfl, sp, upd_same, by rw [upd_ne fp]; exact upd_same, .nil, fun z => by simp [get]⟩ (fun i σ H' _ ⟨_, _, _, _, _, h, _⟩ => .inl (.inl h)) ?_ ?_⟩
  · rintro i x σ H' hx ⟨v4, v5, W, rfl, s1, hl', hf, rW, gW⟩
    rw [List.getElem?_map] at hx
    obtain ⟨z, hz, rfl⟩ := Option.map_eq_some_iff.mp hx
    refine ⟨_, rfl, _, rfl, _, rfl, _, _, _, rfl, lk, d, ad, M, U, n, z, rfl, rfl, rfl, hT.same s1, g, fun H2 s2 => ?_⟩
    have etk : ∀ y, y ∈ ys.take (i + 1) ↔ y ∈ ys.take i ∨ y = z := fun y => by rw [take_snoc hz, List.mem_append, List.mem_singleton]
    refine ⟨_, rfl, _, _, rfl, rfl, _, rfl, ite2 (fun c1 => ?_) (fun c1 => ?_)⟩
    · have c1 : 0 < lev M n z := of_decide_eq_true c1
      have hlen : W.length ≤ 60 := by
        have := nodup_le (rising_nodup linS rW) (u := ls) fun y hy => by
          obtain ⟨v, hv⟩ := get_some_iff.mpr hy
          rw [gW] at hv
          by_cases c : y ∈ ys.take i ∧ 0 < lev M n y
          · exact (hp1.mem_iff).mp (List.mem_of_mem_take c.1)
          · rw [if_neg c] at hv; cases hv
        rw [List.length_map] at this; omega
      refine ⟨_, rfl, _, rfl, _, rfl, _, _, rfl, DPut.k (k := Sum.inr z) (s2 _ _ hf) (by simp only [dW, List.length_map, sizeLine_eq]; omega), ?_⟩
      have e : putK (dW W) (Sum.inr z) (.int (lev M n z)) = dW (put ltS z (lev M n z) W) := by
        cases hW : get W z with
        | some v =>
          have ev : v = lev M n z := by
            rw [gW] at hW
            by_cases c : z ∈ ys.take i ∧ 0 < lev M n z
            · rw [if_pos c] at hW; exact (Option.some.inj hW).symm
            · rw [if_neg c] at hW; cases hW
          rw [ev] at hW
          rw [put_hit rW hW, putK_hit (by rw [valV_dW, hW]; rfl) (dW_nodup rW)]
        | none =>
          have hno : z ∉ W.map (·.1) := get_none_iff.mp hW
          rw [putK_dW hno, put_end rW fun y hy => ?_]
          obtain ⟨v, hv⟩ := get_some_iff.mpr (List.mem_map.mpr ⟨y, hy, rfl⟩)
          rw [gW] at hv
          by_cases c : y.1 ∈ ys.take i ∧ 0 < lev M n y.1
          · have h1 : ¬ ltS z y.1 := by
              have := ry.sublist (List.take_sublist (i + 1) ys)
              rw [take_snoc hz, List.pairwise_append] at this
              exact this.2.2 y.1 c.1 z (by simp)
            rcases linS.tri y.1 z (fun e => hno (e ▸ List.mem_map.mpr ⟨y, hy, rfl⟩)) with h | h
            · exact h
            · exact absurd h h1
          · rw [if_neg c] at hv; cases hv
      refine ⟨_, _, put ltS z (lev M n z) W, rfl, sm_mut (s1.trans s2) nf, by rw [upd_ne fp.symm]; exact s2 _ _ hl', by rw [upd_same, e], rising_put linS _ _ rW, fun y => ?_⟩
      rw [get_put, gW]
      by_cases c : y = z
      · subst c
        rw [if_pos rfl, if_pos ⟨(etk y).mpr (.inr rfl), c1⟩]
      · rw [if_neg c]
        have : (y ∈ ys.take (i + 1) ∧ 0 < lev M n y) ↔ (y ∈ ys.take i ∧ 0 < lev M n y) := by rw [etk]; exact ⟨fun h => ⟨h.1.resolve_right c, h.2⟩, fun h => ⟨.inl h.1, h.2⟩⟩
        simp only [this]
    · have c1 : ¬ 0 < lev M n z := fun y => c1 (decide_eq_true y)
      refine ⟨_, _, W, rfl, s1.trans s2, s2 _ _ hl', s2 _ _ hf, rW, fun y => ?_⟩
      rw [gW]
      have : (y ∈ ys.take (i + 1) ∧ 0 < lev M n y) ↔ (y ∈ ys.take i ∧ 0 < lev M n y) := by
        rw [etk]
        refine ⟨fun h => ⟨h.1.resolve_right fun e => c1 (e ▸ h.2), h.2⟩, fun h => ⟨.inl h.1, h.2⟩⟩
      simp only [this]
  · rintro σ H' ⟨v4, v5, W, rfl, s1, hl', hf, rW, gW⟩
    refine ⟨_, rfl, q H' f s1 nf ?_⟩
    have eW : W = look M n := table_ext linS rW (look_rising M n) fun z => by
      rw [gW, get_look_lev g, List.take_of_length_le (by rw [List.length_map]; exact Nat.le_refl _)]
      by_cases c : 0 < lev M n z
      · rw [if_pos c, if_pos ⟨(hp1.mem_iff).mpr (hA.cov z (Decidable.byContradiction fun h => by rw [lev_out g n h] at c; omega)), c⟩]
      · rw [if_neg c, if_neg fun h => c h.2]
    rw [← eW]; exact hf
def spLSame : Sp := sp2 fun a b H Q _ => ∃ x y ws, a = .ref x ∧ b = .ref y ∧ H x = some (.dK (dW ws)) ∧ H y = some (.dK (dW ws)) ∧ ws.length ≤ 60 ∧ (∀ e ∈ ws, PyData.strOk e.1 = true) ∧ ∀ H', Same H H' → Q (.bl true) H'
theorem sc__law_same : FnScope ["_law_found", "_law_due", "_law_one"] ["_law_found", "_law_due"] (defScope s__law_same) := ⟨rfl, rfl, rfl, by decide +kernel, rfl, by decide +kernel, by decide +kernel⟩
theorem d__law_same (T : Txt K mg) : Def P w K mg base 2 "_law_same" ["_law_found", "_law_due"] (spLSame) := by
  have d__law_whole := d__law_whole (P := P) (w := w) (base := base) T
  refine mkDef T.d__law_same T.g__law_same sc__law_same (fun _ _ _ _ _ _ us hl => match us, hl with | [_, _], _ => rfl) len2 (BodyN.up fun cdv A outer s H vs Q E hr h => ?_)
  obtain ⟨_, _, rfl, x, y, ws, rfl, rfl, hx, hy, hlen, ok, q⟩ := h
  have hu := hu_of hr
  refine ⟨_, (pss_cons (ps_if (PW.pt (pw_or (pt_not (pt_val (pe_callB call_isDct (by rfl) T.z_isinstance (by decide +kernel) (pa_cons (pv 0) (pa_cons (pe_bltn (v := .ty "dict") rfl T.z_dict (by decide +kernel) rfl) pa_nil))))) (pw_or1 (pt_cmpR (op_neD hr.units) (LiI.pe_listItems rfl (pv 0) (by rfl) T.z_list (by decide +kernel)) (LiI.pe_listItems rfl (pv 1) (by rfl) T.z_list (by decide +kernel)) (nomark _)))))
    (pss_one (ps_ret pe_bl))
    pss_nil)
    (pss_one (ps_ret (pe_callB (cr_all rfl) (by rfl) T.z_all (by decide +kernel) (pa_cons (pe_lock (pe_lc (own := [("_law_one", 2)]) rfl sc__law_same.nd (pi_values (pv 0)) (blkOk_by (own := [("_law_one", 2)]) (N := ["_law_found", "_law_due", "_law_one"]) (sc := defScope s__law_same) (by decide +kernel)) (fun _ _ _ _ _ => pg_name (i := 2) sc__law_same.nd rfl (Or.inl rfl)) (fun _ _ _ _ _ => pts_nil) (fun _ _ _ _ _ => (pe_fn d__law_whole (hr.mono (by decide)) (by rfl) passL (pa_cons (pv 2) pa_nil))) /-LOCK-/)) pa_nil))))), ?_⟩
  refine ⟨_, rfl, x, _, rfl, hx, _, rfl, iteF ⟨_, rfl, x, _, rfl, hx, fun H1 l1 ts s1 n1 _ _ e1 pr1 => ⟨_, rfl, y, _, rfl, s1 _ _ hy, fun H2 l2 us s2 n2 _ _ e2 pr2 => ?_⟩⟩⟩
  have s1 : Same H H1 := s1
  have s2 : Same H1 H2 := s2
  have d1 := dat_lstD (K := K) (H := H2) (.inl (.inl (s2 _ _ e1))) (dat_items (K := K) (paired_imp (fun a b h => s2 _ _ h) pr1) ok)
  have d2 := dat_lstD (K := K) (H := H2) (.inl (.inl e2)) (dat_items (K := K) pr2 ok)
  refine neD_same d1 d2 (by decide) ⟨_, rfl, iteF ?_⟩
  have s12 := s1.trans s2
  refine ⟨x, _, s12 _ _ hx, trivial, fun od => ?_⟩
  have low : ∀ H', Same (upd H2 x (.frz od (.dK (dW ws)))) H' → Same H (upd H' x (.dK (dW ws))) := fun H' s => s12.trans (same_unlock (s12 _ _ hx) s)
  refine ⟨_, rfl, x, od, dW ws, rfl, upd_same, fun D nD => ?_⟩
  refine lc_pure (walk_vs (d := x) (o := od) (kvs := dW ws)) nD yes (fun _ => .bl true) ?_ (fun _ => rfl) (fun H5 s5 => s5 _ _ upd_same) (fun x _ H _ Q' k => tt_yes x k) ?_ ?_
  · simp only [dW, List.length_map, sizeLine_eq]; omega
  · intro v hv _ H5 s5 Q' k
    obtain ⟨kv, hkv, rfl⟩ := List.mem_map.mp hv
    obtain ⟨e, _, rfl⟩ := List.mem_map.mp hkv
    exact ⟨_, rfl, _, rfl, trivial, k H5 (Same.refl _)⟩
  · intro H5 s5 hD
    rw [filter_yes] at hD
    refine ⟨s5 _ _ upd_same, ?_⟩
    have nDx : D ≠ x := fun z => by rw [z, upd_same] at nD; cases nD
    refine ⟨D, ((dW ws).map (·.2)).map fun _ => true, rfl, .inl (.inl (by rw [upd_ne nDx, hD, List.map_map, List.map_map, List.map_map]; rfl)), ?_⟩
    have : (((dW ws).map (·.2)).map fun _ => true).all id = true := by simp
    rw [this]
    exact q _ (low _ s5)
end

section
variable {P : Program} {w : World} {K : PySem.W.Frag} {mg : Str → Option Value} {base : Heap}
def spLCue (K : PySem.W.Frag) : Sp := sp3 fun a m n H Q _ => ∃ p dp ap M U lk dm am i c, a = .ref p ∧ m = .ref dm ∧ n = .int i ∧ PlayAt K U H p dp ap M ∧ TabAt RcM lk H dm am M ∧ get M i = some c ∧ ∀ H', Same H H' → Q (.bl true) H'
theorem sc__law_cue_right : FnScope ["_law_play", "_law_model", "_law_number", "_law_found", "_law_up", "_law_down", "_law_fresh", "_law_words", "_law_lamp"] ["_law_play", "_law_model", "_law_number"] (defScope s__law_cue_right) := ⟨rfl, rfl, rfl, by decide +kernel, rfl, by decide +kernel, by decide +kernel⟩
theorem d__law_cue_right (T : Txt K mg) : Def P w K mg base 5 "_law_cue_right" ["_law_play", "_law_model", "_law_number"] (spLCue K) := by
  have d_Play_cue := d_Play_cue (P := P) (w := w) (base := base) T
  have d__law_same := d__law_same (P := P) (w := w) (base := base) T
  have d__law_whole := d__law_whole (P := P) (w := w) (base := base) T
  refine mkDef T.d__law_cue_right T.g__law_cue_right sc__law_cue_right (fun _ _ _ _ _ _ us hl => match us, hl with | [_, _, _], _ => rfl) len3 (BodyN.up fun cdv A outer s H vs Q E hr h => ?_)
  obtain ⟨_, _, _, rfl, p, dp, ap, M, U, lk, dm, am, i, c, rfl, rfl, rfl, hp, hT, hn, q⟩ := h
  have hu := hu_of hr
  refine ⟨_, (pss_cons (ps_set (i := 3) sc__law_cue_right.nd rfl (Or.inl rfl) (pe_mt T.c_Play d_Play_cue (hr.mono (by decide)) passL (pv 0) (pa_cons (pv 2) pa_nil)))
    (pss_cons (ps_asg (pe_dget (by exact hu) (pv 1) (pv 2) (fun _ _ => rfl)) (pg_lst rfl (pgs_cons (pg_name (i := 4) sc__law_cue_right.nd rfl (Or.inl rfl)) (pgs_cons (pg_name (i := 5) sc__law_cue_right.nd rfl (Or.inl rfl)) (pgs_cons (pg_name (i := 6) sc__law_cue_right.nd rfl (Or.inl rfl)) (pgs_cons (pg_name (i := 7) sc__law_cue_right.nd rfl (Or.inr rfl)) pgs_nil))))))
    (pss_cons (ps_if (PW.pt (pw_or (pt_not (pt_val (pe_callB call_isTup (by rfl) T.z_isinstance (by decide +kernel) (pa_cons (pv 3) (pa_cons (pe_bltn (v := .ty "tuple") rfl T.z_tuple (by decide +kernel) rfl) pa_nil))))) (pw_or (pt_cmpR op_ne (pe_callB call_len_seq (by rfl) T.z_len (by decide +kernel) (pa_cons (pv 3) pa_nil)) pe_int (nomark _)) (pw_or1 (pt_cmpR (op_neD hr.units) (pe_slice sl_tup (pv 3) po_none (po_some pe_int)) (pe_tup (pa_cons (pv 4) (pa_cons (pv 5) (pa_cons (pv 6) pa_nil)))) (nomark _))))))
    (pss_one (ps_ret pe_bl))
    pss_nil)
    (pss_cons (ps_if (PW.pt (pw_or (pt_not (pt_val (pe_callB call_isBl (by rfl) T.z_isinstance (by decide +kernel) (pa_cons (pe_ix ix_tup (pv 3) pe_int (fun _ _ => rfl)) (pa_cons (pe_bltn (v := .ty "bool") rfl T.z_bool (by decide +kernel) rfl) pa_nil))))) (pw_or (pt_not (pt_val (pe_fn d__law_whole (hr.mono (by decide)) (by rfl) passL (pa_cons (pe_ix ix_tup (pv 3) pe_int (fun _ _ => rfl)) pa_nil)))) (pw_or1 (pt_not (pt_val (pe_fn d__law_whole (hr.mono (by decide)) (by rfl) passL (pa_cons (pe_ix ix_tup (pv 3) pe_int (fun _ _ => rfl)) pa_nil))))))))
    (pss_one (ps_ret pe_bl))
    pss_nil)
    (pss_one (ps_ret (pe_fn d__law_same (hr.mono (by decide)) (by rfl) passL (pa_cons (pe_ix ix_tup (pv 3) pe_int (fun _ _ => rfl)) (pa_cons (pe_callTy (call_dictP rfl) (by rfl) T.z_dict (by decide +kernel) (pa_cons (pe_lc (own := [("_law_lamp", 8)]) rfl sc__law_cue_right.nd (pi_list (pe_callB (call_sortedD rfl) (by rfl) T.z_sorted (by decide +kernel) (pa_cons (pv 7) pa_nil))) (blkOk_by (own := [("_law_lamp", 8)]) (N := ["_law_play", "_law_model", "_law_number", "_law_found", "_law_up", "_law_down", "_law_fresh", "_law_words", "_law_lamp"]) (sc := defScope s__law_cue_right) (by decide +kernel)) (fun _ _ _ _ _ => pg_name (i := 8) sc__law_cue_right.nd rfl (Or.inl rfl)) (fun _ _ _ _ _ => pts_nil) (fun _ _ _ _ _ => (pe_tup (pa_cons (pv 8) (pa_cons (pe_dget (by exact hu) (pv 7) (pv 8) (fun _ _ => rfl)) pa_nil))))) pa_nil)) pa_nil))))))))), ?_⟩
  obtain ⟨dx, kv0, h1, h2, tk⟩ := hp.kept
  refine ⟨_, rfl, _, _, _, rfl, h1, playF_no (by decide +kernel), _, rfl, _, _, rfl, p, dp, ap, M, U, rfl, hp, trivial, fun n' c' ex hn' H1 t w1 s1 nt nw et ew => ?_, fun z => absurd z (cue_some rfl hn)⟩
  cases ex
  rw [hn] at hn'
  cases hn'
  have T1 := hT.same s1
  obtain ⟨kvm, rdm, tkm⟩ := T1.topR
  have hrec := T1.recd hn
  refine ⟨_, rfl, _, rfl, dm, _, rfl, tkm.hit rdm hn, _, _, rfl, .inl (.inl hrec), rfl, _, _, rfl, _, _, rfl, _, _, rfl, _, _, rfl, rfl, ?_⟩
  refine ⟨_, rfl, t, _, rfl, et, _, rfl, iteF ⟨_, rfl, t, _, rfl, .inr (.inl (.inl et)), rfl, _, rfl, iteN (by simp) ?_⟩⟩
  refine ⟨_, rfl, _, rfl, t, _, rfl, .inl (.inl et), fun h => absurd (show (3 : Nat) = 4 from h.2) (by decide), fun t2 n2 => ⟨_, rfl, _, rfl, _, rfl, by simp [sizeLine_eq], fun t3 n3 => ?_⟩⟩
  have s2 := same_upd (o := HO.tup (cutV [.int c.up, .int c.down, .bl c.fresh, .ref w1] none (some 3))) n2
  have s3 := same_upd (o := HO.tup [.int c.up, .int c.down, .bl c.fresh]) n3
  have ok3 : ∀ x ∈ [V.int c.up, .int c.down, .bl c.fresh], okV x = true := by simp [okV]
  refine neD_same (dat_tup (K := K) (xs := [V.int c.up, .int c.down, .bl c.fresh]) (.inl (.inl (s3 _ _ upd_same))) ok3) (dat_tup (K := K) (.inl (.inl upd_same)) ok3) (by decide) ⟨_, rfl, iteF ?_⟩
  have s23 := s2.trans s3
  have et3 := s23 _ _ et
  refine ⟨_, rfl, t, _, _, _, rfl, rfl, .inl (.inl et3), rfl, _, rfl, trivial, _, rfl, iteF ⟨_, rfl, t, _, _, _, rfl, rfl, .inl (.inl et3), rfl, _, rfl, trivial, _, rfl, iteF ⟨_, rfl, t, _, _, _, rfl, rfl, .inl (.inl et3), rfl, _, rfl, trivial, _, rfl, iteF ?_⟩⟩⟩
  have s13 := s1.trans s23
  refine ⟨_, rfl, t, _, _, _, rfl, rfl, .inl (.inl et3), rfl, ?_⟩
  have T3 := hT.same s13
  obtain ⟨kvs, c2, wk⟩ := T3.wrd _ _ hn
  have hm := hp.good.at hn
  have hw := hp.good.wsrt _ hm
  obtain ⟨ks, hk, _, _⟩ := wk.keys
  have hfew : c.words.length ≤ 60 := hp.good.few hp.lamps hm
  refine ⟨_, rfl, _, kvs, ks, rfl, .inl c2, hk, ?_, fun ys l hp1 hp2 nl => ?_⟩
  · have := congrArg List.length hk
    rw [List.length_map, List.length_map, wk.len hw] at this
    omega
  rw [wk.sorted hw hk hp1 hp2]
  have s4 := same_upd (o := HO.lst ((c.words.map (·.1)).map V.str)) nl
  refine ⟨l, rfl, ⟨_, .inl (.inl upd_same)⟩, fun D nD => ?_⟩
  refine lc_rel (walk_list (K := K) (a := l) (xs := (c.words.map (·.1)).map V.str)) nD yes (fun x y H' => ∃ t l, x = V.str l ∧ y = V.ref t ∧ H' t = some (.tup [.str l, .int ((get c.words l).getD 0)])) ?_ ?_ (fun _ => rfl) (fun H5 s5 => .inl (.inl (s5 _ _ upd_same))) (fun x _ H _ Q' k => tt_yes x k) ?_ ?_
  · rintro x y H1 H2 nl' ⟨t, l', rfl, rfl, h⟩
    exact ⟨t, l', rfl, rfl, nl' _ _ (fun _ z => by cases z) h⟩
  · rw [List.length_map, List.length_map, sizeLine_eq]; omega
  · rintro y hy _ H5 s5 Q' k
    obtain ⟨z, hz, rfl⟩ := List.mem_map.mp hy
    obtain ⟨v, hv⟩ := get_some_iff.mpr hz
    refine ⟨_, rfl, _, rfl, _, rfl, _, .int v, rfl, wk.hit (.inl (s5 _ _ (s4 _ _ c2))) hv, by simp [sizeLine_eq], fun t nt => ?_⟩
    exact k _ _ (same_upd nt) ⟨t, z, rfl, rfl, by rw [upd_same, hv]; rfl⟩
  · intro H5 ys' s5 hD hpair
    rw [filter_yes] at hpair
    obtain ⟨ps, rfl, hps⟩ := pairs_dict (K := K) (g := fun l => V.int ((get c.words l).getD 0)) hpair
    rw [← dW_all (rising_nodup linS hw)] at hps
    refine ⟨D, ps, _, rfl, .inl (.inl hD), hps, fun w' nw' => ?_⟩
    rw [mergeK_nil (dW_nodup hw)]
    have s45 := s4.trans s5
    have s6 := s45.trans (same_upd (o := HO.dK (dW c.words)) nw')
    refine ⟨_, _, rfl, w1, w', c.words, rfl, rfl, s6 _ _ (s23 _ _ ew), upd_same, hfew, fun e he => lampS_okS (hp.lamps.ok _ (hp.good.wrd _ hm e he).1), fun H6 s7 => ?_⟩
    exact q H6 (s13.trans (s6.trans s7))
def spLStands (K : PySem.W.Frag) : Sp := sp3 fun a m b H Q _ => ∃ NS p dp ap M U dm am l ls, a = .ref p ∧ m = .ref dm ∧ b = .ref l ∧ Two K U NS H p dp ap M dm am M ∧ Asked U ls ∧ H l = some (.lst (ls.map V.str)) ∧ ∀ H', Same H H' → Q (.bl true) H'
theorem sc__law_stands : FnScope ["_law_play", "_law_model", "_law_lamps_here", "_law_number", "_law_due", "_law_lamp"] ["_law_play", "_law_model", "_law_lamps_here"] (defScope s__law_stands) := ⟨rfl, rfl, rfl, by decide +kernel, rfl, by decide +kernel, by decide +kernel⟩
theorem d__law_stands (T : Txt K mg) : Def P w K mg base 6 "_law_stands" ["_law_play", "_law_model", "_law_lamps_here"] (spLStands K) := by
  have d_Play_numbers := d_Play_numbers (P := P) (w := w) (base := base) T
  have d__law_look := d__law_look (P := P) (w := w) (base := base) T
  have d__law_cue_right := d__law_cue_right (P := P) (w := w) (base := base) T
  have d__law_same := d__law_same (P := P) (w := w) (base := base) T
  have d_Play_level := d_Play_level (P := P) (w := w) (base := base) T
  have d_Play_look := d_Play_look (P := P) (w := w) (base := base) T
  refine mkDef T.d__law_stands T.g__law_stands sc__law_stands (fun _ _ _ _ _ _ us hl => match us, hl with | [_, _, _], _ => rfl) len3 (BodyN.up fun cdv A outer s H vs Q E hr h => ?_)
  obtain ⟨_, _, _, rfl, NS, p, dp, ap, M, U, dm, am, la, ls, rfl, rfl, rfl, hT, hA, hla, q⟩ := h
  have hu := hu_of hr
  refine ⟨_, (pss_cons (ps_if (pt_cmpR (op_neD hr.units) (pe_mt0 T.c_Play d_Play_numbers (hr.mono (by decide)) passL (pv 0)) (pe_callB (call_sortedDA rfl) (by rfl) T.z_sorted (by decide +kernel) (pa_cons (pv 1) pa_nil)) (nomark _))
    (pss_one (ps_ret pe_bl))
    pss_nil)
    (pss_cons (ps_lock (ps_for PassesOwn.never rfl (pi_keys (pv 1)) (pg_name (i := 3) sc__law_stands.nd rfl (Or.inl rfl))
    (pss_cons (ps_set (i := 4) sc__law_stands.nd rfl (Or.inl rfl) (pe_fn d__law_look (hr.mono (by decide)) (by rfl) passL (pa_cons (pv 1) (pa_cons (pv 3) (pa_cons (pv 2) pa_nil)))))
    (pss_cons (ps_if (PW.pt (pw_or (pt_not (pt_val (pe_fn d__law_cue_right (hr.mono (by decide)) (by rfl) passL (pa_cons (pv 0) (pa_cons (pv 1) (pa_cons (pv 3) pa_nil)))))) (pw_or1 (pt_not (pt_val (pe_fn d__law_same (hr.mono (by decide)) (by rfl) passL (pa_cons (pe_mt T.c_Play d_Play_look (hr.mono (by decide)) passL (pv 0) (pa_cons (pv 3) pa_nil)) (pa_cons (pv 4) pa_nil))))))))
    (pss_one (ps_ret pe_bl))
    pss_nil)
    (pss_one (ps_for PassesOwn.never rfl (pi_list (pv 2)) (pg_name (i := 5) sc__law_stands.nd rfl (Or.inl rfl))
    (pss_one (ps_if (pt_cmpR op_ne (pe_mt T.c_Play d_Play_level (hr.mono (by decide)) passL (pv 0) (pa_cons (pv 3) (pa_cons (pv 5) pa_nil))) (pe_dget2 (by exact hu) (pv 4) (pv 5) pe_int ⟨rfl, rfl, rfl, rfl⟩) (nomark _))
    (pss_one (ps_ret pe_bl))
    pss_nil))))))))
    (pss_one (ps_ret pe_bl)))), ?_⟩
  have hp := hT.play
  have g := hT.good
  obtain ⟨dx, kv0, h1, h2, tk⟩ := hp.kept
  refine ⟨_, rfl, _, _, _, rfl, h1, playF_no (by decide +kernel), _, rfl, p, dp, ap, M, U, rfl, hp, fun H1 l1 s1 n1 e1 => ?_⟩
  have T1 := hT.same s1
  obtain ⟨kvs, hd1, tkm⟩ := T1.tab.top
  have hd1 : H1 dm = some (.dK kvs) := hd1
  obtain ⟨ns, hk, _, hns⟩ := tkm.keys
  refine ⟨_, rfl, dm, kvs, ns, rfl, .inl hd1, hk, fun ys l2 hp1 hp2 n2 => ?_⟩
  rw [tkm.sorted g.srt hk hp1 hp2]
  have s2 := same_upd (o := HO.lst ((M.map (·.1)).map V.int)) n2
  have okn : ∀ x ∈ (M.map (·.1)).map V.int, okV x = true := by
    intro x hx
    obtain ⟨i, _, rfl⟩ := List.mem_map.mp hx
    rfl
  refine neD_same (dat_lst (K := K) (xs := (M.map (·.1)).map V.int) (.inl (.inl (s2 _ _ (by exact e1)))) okn) (dat_lst (K := K) (.inl (.inl upd_same)) okn) (by decide) ⟨_, rfl, iteF ?_⟩
  generalize eH : upd H1 l2 (.lst ((M.map (·.1)).map V.int)) = H2 at s2
  have T2 := T1.same s2
  have hd2 := s2 _ _ hd1
  refine ⟨dm, _, hd2, trivial, fun od => ?_⟩
  have dml : ∀ b o, H2 b = some o → b ≠ dm → (upd H2 dm (.frz od (.dK kvs))) b = some o := fun b o e ne => by rw [upd_ne ne]; exact e
  have P0 : PlayAt K U (upd H2 dm (.frz od (.dK kvs))) p dp ap M := T2.play.frame fun b o hb e => dml b o e fun z => T2.dis b hb (.inl z)
  have M0 := T2.tab.locked hd2 od
  have s02 := s1.trans s2
  have la0 : (upd H2 dm (.frz od (.dK kvs))) la = some (.lst (ls.map V.str)) := dml _ _ (s02 _ _ hla) fun z => by rw [z] at hla; rw [s02 _ _ hla] at hd2; cases hd2
  have back : ∀ H', Same (upd H2 dm (.frz od (.dK kvs))) H' → Same H (upd H' dm (.dK kvs)) := fun H' s => s02.trans (same_unlock hd2 s)
  have hd0 : (upd H2 dm (.frz od (.dK kvs))) dm = some (.frz od (.dK kvs)) := upd_same
  generalize upd H2 dm (.frz od (.dK kvs)) = H0 at P0 M0 la0 back dml hd0
  refine ⟨_, rfl, dm, od, rfl, .inl ⟨kvs, hd0, for_it walk_keys (fun i σ H' => ∃ v3 v4 v5, σ = [some (.ref p), some (.ref dm), some (.ref la), v3, v4, v5] ∧ Same H0 H') ⟨none, none, none, rfl, Same.refl _⟩ (fun i σ H' _ ⟨_, _, _, _, s⟩ => s _ _ hd0) ?_ ?_⟩⟩
  · rintro i x σ H3 H3' hi ⟨v3, v4, v5, rfl, s3⟩ ⟨rfl, k, v, hkv, rfl⟩
    have hmem : k ∈ kvs.map (·.1) := List.mem_map.mpr ⟨_, List.mem_of_getElem? hkv, rfl⟩
    rw [hk] at hmem
    obtain ⟨n, hn, rfl⟩ := List.mem_map.mp hmem
    obtain ⟨c, hc⟩ := get_some_iff.mpr ((hns n).mp hn)
    refine ⟨_, rfl, _, rfl, _, rfl, _, _, _, rfl, some od, dm, am, M, U, n, la, ls, rfl, rfl, rfl, M0.same s3, g, hA, s3 _ _ la0, fun H4 r s4 nr er => ?_⟩
    have s34 := s3.trans s4
    refine ⟨_, rfl, _, rfl, _, rfl, _, _, _, rfl, p, dp, ap, M, U, some od, dm, am, n, c, rfl, rfl, rfl, P0.same s34, M0.same s34, hc, fun H5 s5 => ⟨_, rfl, iteF ?_⟩⟩
    have s35 := s34.trans s5
    have P5 := P0.same s35
    obtain ⟨dx5, kv5, h51, _, _⟩ := P5.kept
    refine ⟨_, rfl, _, _, _, rfl, h51, playF_no (by decide +kernel), _, rfl, _, _, rfl, p, dp, ap, M, U, rfl, P5, trivial, fun n' c' ex hn' H6 w6 s6 n6 e6 => ?_, fun z => absurd z (cue_some rfl hc)⟩
    cases ex
    have er6 := s6 _ _ (s5 _ _ er)
    refine ⟨_, rfl, _, _, rfl, w6, r, look M n, rfl, rfl, e6, er6, look_few g hp.lamps n, fun e he => lampS_okS (hp.lamps.ok _ (look_mem g n e he).1), fun H7 s7 => ⟨_, rfl, iteF ?_⟩⟩
    have s37 := s35.trans (s6.trans s7)
    have er7 := s7 _ _ er6
    refine ⟨_, rfl, la, rfl, ⟨_, .inl (.inl (s37 _ _ la0))⟩, for_list (K := K) (a := la) (xs := ls.map V.str) (fun i σ H' => ∃ v5, σ = [some (.ref p), some (.ref dm), some (.ref la), some (.int n), some (.ref r), v5] ∧ Same H0 H' ∧ H' r = some (.dK (dW (look M n)))) ⟨_, rfl, s37, er7⟩ (fun i σ H' _ ⟨_, _, s, _⟩ => .inl (.inl (s _ _ la0))) ?_ ?_⟩
    · rintro j y σ H8 hy ⟨v5', rfl, s8, er8⟩
      rw [List.getElem?_map] at hy
      obtain ⟨z, hz, rfl⟩ := Option.map_eq_some_iff.mp hy
      have hzU : z ∈ ls := List.mem_of_getElem? hz
      have P8 := P0.same s8
      obtain ⟨dx8, kv8, h81, _, _⟩ := P8.kept
      have lz := hA.ok z hzU
      refine ⟨_, rfl, _, _, _, rfl, h81, playF_no (by decide +kernel), _, rfl, _, rfl, _, _, _, rfl, p, dp, ap, M, U, rfl, P8, trivial, lampS_pl lz, fun n' c' z' ex hn' ez hz' H9 s9 => ?_, fun z => absurd z (cue_some rfl hc), fun _ k => ?_⟩
      · cases ex; cases ez
        refine ⟨_, rfl, _, rfl, .inl ⟨_, .inl (s9 _ _ er8)⟩, _, rfl, _, (WK.dW (rising_nodup linS (look_rising M n))).get (.inl (s9 _ _ er8)) z, ?_⟩
        have e : ((get (look M n) z).map V.int).getD (.int 0) = .int (lev M n z) := by
          rw [← look_lev g]
          cases get (look M n) z <;> rfl
        rw [e]
        exact ⟨rfl, _, rfl, iteN (by simp) ⟨_, rfl, s8.trans s9, s9 _ _ er8⟩⟩
      · have k : lampS z = false := k
        rw [lz] at k; cases k
    · rintro σ H8 ⟨v5', rfl, s8, er8⟩
      exact ⟨_, _, _, rfl, s8⟩
  · rintro σ H3 ⟨v3, v4, v5, rfl, s3⟩
    exact ⟨s3 _ _ hd0, q _ (back _ s3)⟩
end

/-! ## Deeds at a play, the law's book standing beside -/
theorem Mv.keep {H H' : Hp} {F F' : Addr → Prop} (m : Mv H F H' F') {x : Addr} {o : HO} (e : H x = some o) (n : ¬ F x) : H' x = some o ∧ ¬ F' x := by
  refine ⟨m.1 x o e n, fun h => ?_⟩
  rcases m.2 x h with h | h
  · exact n h
  · rw [h] at e; cases e
section
variable {K : PySem.W.Frag} {U : List Str} {NS : List Int} {H H' : Hp} {p dp dm : Addr} {ap am : Ads} {M Mm : Book} {Q : VK} {E : XK} {n : Int} {c : CueC} {z : Str} {v : Int}
theorem tell_two (T : Two K U NS H p dp ap M dm am Mm) (hn : get M n = some c) (hz : z ∈ U) (hv : 0 ≤ v ∧ v ≤ 100)
    (q : ∀ H', Two K U NS H' p dp ap (setW n (put ltS z v) M) dm am Mm → Mv H (footT p dp ap M dm am Mm) H' (footT p dp ap (setW n (put ltS z v) M) dm am Mm) → Q .non H') : spTell K [.ref p, .int n, .str z, .int v] H Q E := by
  have lz : lampV (.str z) = true := T.play.lamps.ok z hz
  have wv : wholeV 0 100 (.int v) = true := whole_of hv
  refine ⟨_, _, _, _, rfl, p, dp, ap, M, U, rfl, T.play, trivial, lampS_pl lz, trivial, fun h => absurd h (cue_some rfl hn), fun _ h => ?_, fun _ _ h => ?_, ?_⟩
  · rw [lz] at h; cases h
  · rw [wv] at h; cases h
  · rintro n' c' z' i e1 _ e2 e3 _ _
    cases e1; cases e2; cases e3
    refine ⟨hz, fun H' h' ch => ?_⟩
    obtain ⟨a, b⟩ := T.deed h' ch fun b hb => .inl (hb.imp id (fun h => foot_word.mp h))
    exact q H' a b
theorem untell_two (T : Two K U NS H p dp ap M dm am Mm) (hn : get M n = some c) (hz : get c.words z = some v)
    (q : ∀ H', Two K U NS H' p dp ap (setW n (del z) M) dm am Mm → Mv H (footT p dp ap M dm am Mm) H' (footT p dp ap (setW n (del z) M) dm am Mm) → Q .non H') : spUntell K [.ref p, .int n, .str z] H Q E := by
  have hU : z ∈ U := (T.play.good.wrd _ (T.play.good.at hn) _ (get_mem hz)).1
  have lz : lampV (.str z) = true := T.play.lamps.ok z hU
  refine ⟨_, _, _, rfl, p, dp, ap, M, U, rfl, T.play, trivial, lampS_pl lz, fun h => absurd h (cue_some rfl hn), ?_, ?_⟩
  · rintro n' c' e1 h' hno
    cases e1
    rw [hn] at h'
    cases h'
    rw [hno z rfl] at hz; cases hz
  · rintro n' c' z' e1 h' e2 _
    cases e1; cases e2
    refine ⟨lz, fun H' h' ch => ?_⟩
    obtain ⟨a, b⟩ := T.deed h' ch fun b hb => .inl (hb.imp id (fun h => foot_word.mp h))
    exact q H' a b
theorem put_two (T : Two K U NS H p dp ap M dm am Mm) (hn : get M n = none) (hb : 1 ≤ n ∧ n ≤ 999999) {u d : Int} {f : Bool} (hf : 0 ≤ u ∧ u ≤ 6000 ∧ 0 ≤ d ∧ d ≤ 6000) (hl : M.length < 100)
    (q : ∀ H' ap', Two K U NS H' p dp ap' (put ltI n ⟨u, d, f, []⟩ M) dm am Mm → Mv H (footT p dp ap M dm am Mm) H' (footT p dp ap' (put ltI n ⟨u, d, f, []⟩ M) dm am Mm) → Q .non H') : spPut K [.ref p, .int n, .int u, .int d, .bl f] H Q E := by
  have w1 : wholeV 1 999999 (.int n) = true := whole_of hb
  have w2 : wholeV 0 6000 (.int u) = true := whole_of ⟨hf.1, hf.2.1⟩
  have w3 : wholeV 0 6000 (.int d) = true := whole_of hf.2.2
  refine ⟨_, _, _, _, _, rfl, p, dp, ap, M, U, f, rfl, rfl, T.play, trivial, trivial, trivial, fun h => ?_, fun _ h => absurd hn h, fun _ _ h => ?_, fun _ _ _ h => ?_, ?_⟩
  · rw [w1] at h; cases h
  · rw [w2, w3] at h; cases h
  · omega
  · rintro n' i j e1 e2 e3 _ _ _ _ H' ap' h' ch gr
    cases e1; cases e2; cases e3
    obtain ⟨a, b⟩ := T.deed h' ch gr
    exact q H' ap' a b
/-- a new cue in the law's book -/
theorem add_two (T : Two K U NS H p dp ap M dm am Mm) {w1 r : Addr} {u d : Int} {f : Bool} {kvs : List (Key × V)} (hd : H dm = some (.dK kvs)) (nw : H w1 = none) (nr : upd H w1 (.dK []) r = none) (hb : 1 ≤ n ∧ n ≤ 999999) (hn : n ∈ NS) (hf : 0 ≤ u ∧ u ≤ 6000 ∧ 0 ≤ d ∧ d ≤ 6000) (hl : Mm.length < 1000) :
    Two K U NS (upd (upd (upd H w1 (.dK [])) r (.lst [.int u, .int d, .bl f, .ref w1])) dm (.dK (putK kvs (Sum.inl n) (.ref r)))) p dp ap M dm (adSet am n (r, w1)) (put ltI n ⟨u, d, f, []⟩ Mm) ∧
    Mv H (footT p dp ap M dm am Mm) (upd (upd (upd H w1 (.dK [])) r (.lst [.int u, .int d, .bl f, .ref w1])) dm (.dK (putK kvs (Sum.inl n) (.ref r)))) (footT p dp ap M dm (adSet am n (r, w1)) (put ltI n ⟨u, d, f, []⟩ Mm)) := by
  have s1 := same_upd (o := HO.dK []) nw
  have s2 := s1.trans (same_upd (o := HO.lst [.int u, .int d, .bl f, .ref w1]) nr)
  have T2 := T.same s2
  have nw2 : ¬ footT p dp ap M dm am Mm w1 := fun h => by obtain ⟨o, e⟩ := T.has h; rw [nw] at e; cases e
  have nr2 : ¬ footT p dp ap M dm am Mm r := fun h => by obtain ⟨o, e⟩ := T.has h; rw [s1.free nr] at e; cases e
  have rw' : r ≠ w1 := fun y => by rw [y, upd_same] at nr; cases nr
  have g2 : Good U (put ltI n ⟨u, d, f, []⟩ Mm) := T.good.put hb .nil (by simp) hf hl
  refine ⟨T2.add (c := ⟨u, d, f, []⟩) (s2 _ _ hd) upd_same ⟨[], by rw [upd_ne rw'.symm]; exact upd_same, .nil⟩ nr2 nw2 rw' g2 hn, fun b o e nf => ?_, fun b h => ?_⟩
  · rw [upd_ne fun y => nf (.inr (.inl y))]; exact s2 _ _ e
  · rcases h with h | h
    · exact .inl (.inl h)
    · rcases foot_add h with h | h | h
      · exact .inl (.inr h)
      · exact .inr (h ▸ s1.free nr)
      · exact .inr (h ▸ nw)
theorem good_nil : Good U [] := ⟨.nil, by simp, by simp, by simp, by simp, by simp⟩
theorem play_new {dx d : Addr} {ad : Ads} (hp : H p = some (.ins (He.ga K "Play") dx (playF d))) (hd : H d = some (.dK [])) (lam : Lamps U) : PlayAt K U H p d ad [] := by
  refine ⟨⟨dx, hp⟩, ⟨⟨[], hd, TK.nil⟩, fun n c h => (by cases h), fun n c h => (by cases h), fun n m c e h => (by cases h), fun n c h => (by cases h), fun n m c e h => (by cases h)⟩, fun h => ?_, good_nil, lam⟩
  rcases h with h | ⟨n, c, h, _⟩
  · rw [h, hd] at hp; cases hp
  · cases h
theorem tab_new {dm : Addr} {ad : Ads} (hm : H dm = some (.dK [])) : TabAt RcM none H dm ad [] :=
  ⟨⟨[], hm, TK.nil⟩, fun n c h => (by cases h), fun n c h => (by cases h), fun n m c e h => (by cases h), fun n c h => (by cases h), fun n m c e h => (by cases h)⟩
theorem two_new {dx d : Addr} (hp : H p = some (.ins (He.ga K "Play") dx (playF d))) (hd : H d = some (.dK [])) (hm : H dm = some (.dK [])) (lam : Lamps U) (ne : d ≠ dm) : Two K U NS H p d ap [] dm am [] := by
  refine ⟨play_new hp hd lam, tab_new hm, good_nil, fun b h1 h2 => ?_, fun e h => by cases h⟩
  rcases h2 with h2 | ⟨n, c, h, _⟩
  · subst h2
    rcases h1 with h1 | h1 | ⟨n, c, h, _⟩
    · rw [h1, hp] at hm; cases hm
    · exact ne h1.symm
    · cases h
  · cases h
theorem footT_new {b : Addr} (h : footT p dp ap [] dm am [] b) : b = p ∨ b = dp ∨ b = dm := by
  rcases h with (h | h | ⟨n, c, h, _⟩) | h | ⟨n, c, h, _⟩
  · exact .inl h
  · exact .inr (.inl h)
  · cases h
  · exact .inr (.inr h)
  · cases h
theorem put_ne {n : Int} {c : CueC} {M : Book} : put ltI n c M ≠ [] := fun h => by
  have := (keys_put (lt := ltI) n c M n).mpr (.inl rfl)
  rw [h] at this; cases this
theorem setW_ne {n : Int} {f : Ws → Ws} {M : Book} {c : CueC} (h : get M n = some c) : setW n f M ≠ [] := fun e => by
  have := get_some_iff.mp ⟨c, h⟩
  rw [← setW_keys n f M, e] at this; cases this
/-- an item of a list, by a draw -/
theorem draw_at {α : Type} {f : α → V} {xs : List α} {m : Nat} (h : xs.length = m) {i : Int} (h0 : 0 ≤ i) (h1 : i < m) : ∃ x ∈ xs, atI (xs.map f) i = some (f x) := by
  obtain ⟨v, hv, ha⟩ := at_in (xs := xs.map f) (by rw [List.length_map]; exact h) h0 h1
  obtain ⟨x, hx, rfl⟩ := List.mem_map.mp hv
  exact ⟨x, hx, ha⟩
end

/-! ## Deeds that leave looks: what they do -/
theorem lev_setW_eq {U U' : List Str} {M : Book} {m : Int} {f : Ws → Ws} {l : Str} (g : Good U M) (g' : Good U' (setW m f M)) (h : ∀ c, get M m = some c → get (f c.words) l = get c.words l) (n : Int) : lev (setW m f M) n l = lev M n l := by
  have aux : ∀ R : Book, (∀ e ∈ R, e.1 = m → get (f e.2.words) l = get e.2.words l) → levL n l (setW m f R) = levL n l R := by
    intro R
    induction R with
    | nil => exact fun _ => rfl
    | cons e r ih =>
      intro hr
      have h1 := hr e List.mem_cons_self
      have h2 := ih fun x hx => hr x (List.mem_cons_of_mem _ hx)
      show levL n l ((if e.1 = m then (e.1, { e.2 with words := f e.2.words }) else e) :: setW m f r) = _
      by_cases z : e.1 = m
      · rw [if_pos z, levL, levL]
        simp only [h1 z, h2]
      · rw [if_neg z, levL, levL, h2]
  have e1 : (setW m f M).reverse = setW m f M.reverse := by unfold setW; rw [List.map_reverse]
  rw [lev_levL g', lev_levL g, e1]
  refine aux _ fun e he z => ?_
  have hm : e ∈ M := List.mem_reverse.mp he
  exact h e.2 (z ▸ get_of_mem g.nodup hm)
/-- the next cue -/
def nxt (M : Book) (n : Int) : Option Int := ((M.map (·.1)).filter fun i => decide (n < i)).head?
theorem nxt_mem {M : Book} {n m : Int} (h : nxt M n = some m) : m ∈ M.map (·.1) ∧ n < m := by
  have := List.mem_of_head? h
  obtain ⟨a, b⟩ := List.mem_filter.mp this
  exact ⟨a, by simpa using b⟩
theorem nxt_get {M : Book} {n m : Int} (h : nxt M n = some m) : ∃ c, get M m = some c := get_some_iff.mpr (nxt_mem h).1
/-- the words at a cue, told so that all levels there are D -/
def HeldW (M : Book) (m : Int) (D : Str → Int) (ws ws' : Ws) : Prop := Rising ltS ws' ∧ ∀ l, get ws' l = if lev M m l ≠ D l then some (D l) else get ws l
theorem HeldW.uniq {M : Book} {m : Int} {D : Str → Int} {ws a b : Ws} (h : HeldW M m D ws a) (k : HeldW M m D ws b) : a = b := table_ext linS h.1 k.1 fun l => by rw [h.2, k.2]
def Held (M : Book) (m : Int) (D : Str → Int) (M' : Book) : Prop := ∃ c ws', get M m = some c ∧ HeldW M m D c.words ws' ∧ M' = setW m (fun _ => ws') M
theorem Held.uniq {M : Book} {m : Int} {D : Str → Int} {a b : Book} (h : Held M m D a) (k : Held M m D b) : a = b := by
  obtain ⟨c, w, h1, h2, rfl⟩ := h
  obtain ⟨c', w', k1, k2, rfl⟩ := k
  rw [h1] at k1
  cases k1
  rw [h2.uniq k2]
/-- the next cue is held at what it told in M0 -/
def Kept (M0 M1 : Book) (n : Int) (M' : Book) : Prop := (nxt M0 n = none → M' = M1) ∧ ∀ m, nxt M0 n = some m → Held M1 m (lev M0 m) M'
theorem Kept.uniq {M0 M1 : Book} {n : Int} {a b : Book} (h : Kept M0 M1 n a) (k : Kept M0 M1 n b) : a = b := by
  cases z : nxt M0 n with
  | none => rw [h.1 z, k.1 z]
  | some m => exact (h.2 m z).uniq (k.2 m z)
theorem HeldW.wok {U : List Str} {M : Book} {m : Int} {D : Str → Int} {ws ws' : Ws} (g : Good U M) (h : HeldW M m D ws ws') (hD : ∀ l, 0 ≤ D l ∧ D l ≤ 100 ∧ (D l ≠ 0 → l ∈ U)) (hw : ∀ w ∈ ws, w.1 ∈ U ∧ 0 ≤ w.2 ∧ w.2 ≤ 100) : ∀ w ∈ ws', w.1 ∈ U ∧ 0 ≤ w.2 ∧ w.2 ≤ 100 := by
  intro w hm
  have e := get_of_mem (v := w.2) (rising_nodup linS h.1) hm
  rw [h.2] at e
  by_cases z : lev M m w.1 ≠ D w.1
  · rw [if_pos z] at e
    have e : D w.1 = w.2 := Option.some.inj e
    have := hD w.1
    rw [← e]
    refine ⟨Decidable.byContradiction fun y => ?_, this.1, this.2.1⟩
    by_cases d0 : D w.1 = 0
    · rw [lev_out g m y] at z
      exact z d0.symm
    · exact y (this.2.2 d0)
  · rw [if_neg z] at e
    exact hw _ (get_mem e)
theorem levD {U : List Str} {M : Book} (g : Good U M) (n : Int) : ∀ l, 0 ≤ lev M n l ∧ lev M n l ≤ 100 ∧ (lev M n l ≠ 0 → l ∈ U) := fun l => ⟨(lev_range g n l).1, (lev_range g n l).2, fun h => Decidable.byContradiction fun y => h (lev_out g n y)⟩
theorem Held.good {U : List Str} {M : Book} {m : Int} {D : Str → Int} {M' : Book} (g : Good U M) (h : Held M m D M') (hD : ∀ l, 0 ≤ D l ∧ D l ≤ 100 ∧ (D l ≠ 0 → l ∈ U)) : Good U M' := by
  obtain ⟨c, ws', hc, hw, rfl⟩ := h
  have hm := g.at hc
  have hok := hw.wok g hD (g.wrd _ hm)
  refine ⟨by show List.Pairwise _ _; rw [setW_keys]; exact g.srt, fun e he => ?_, fun e he => ?_, fun e he => ?_, fun e he => ?_, by unfold setW; rw [List.length_map]; exact g.len⟩
  all_goals obtain ⟨e0, h0, h1, h2, h3, h4, h5⟩ := mem_setW he
  · rcases h5 with h5 | ⟨_, h5⟩
    · rw [h5]; exact g.wsrt e0 h0
    · rw [h5]; exact hw.1
  · rw [h1]; exact g.num e0 h0
  · rcases h5 with h5 | ⟨_, h5⟩
    · rw [h5]; exact g.wrd e0 h0
    · rw [h5]; exact hok
  · rw [h2, h3]; exact g.fad e0 h0
/-- the words along a walk over lamps, some twice: told where the level was another one -/
def holdF (now D : Str → Int) (ks : List Str) (ws : Ws) : Ws := ks.foldl (fun a l => if now l ≠ D l then put ltS l (D l) a else a) ws
theorem holdF_snoc (now D : Str → Int) (ks : List Str) (l : Str) (ws : Ws) : holdF now D (ks ++ [l]) ws = if now l ≠ D l then put ltS l (D l) (holdF now D ks ws) else holdF now D ks ws := by
  unfold holdF; rw [List.foldl_append]; rfl
theorem get_holdF (now D : Str → Int) (l : Str) : ∀ (ks : List Str) (ws : Ws), get (holdF now D ks ws) l = if l ∈ ks ∧ now l ≠ D l then some (D l) else get ws l
  | [], ws => by simp [holdF]
  | k :: r, ws => by
    show get (holdF now D r (if now k ≠ D k then put ltS k (D k) ws else ws)) l = _
    rw [get_holdF now D l r]
    by_cases h : l ∈ r ∧ now l ≠ D l
    · rw [if_pos h, if_pos ⟨List.mem_cons_of_mem _ h.1, h.2⟩]
    · rw [if_neg h]
      by_cases z : l = k
      · subst z
        by_cases y : now l ≠ D l
        · rw [if_pos y, get_put, if_pos rfl, if_pos ⟨List.mem_cons_self, y⟩]
        · rw [if_neg y, if_neg fun q => y q.2]
      · have e : get (if now k ≠ D k then put ltS k (D k) ws else ws) l = get ws l := by
          by_cases y : now k ≠ D k
          · rw [if_pos y, get_put, if_neg z]
          · rw [if_neg y]
        rw [e, if_neg]
        rintro ⟨q1, q2⟩
        rcases List.mem_cons.mp q1 with q | q
        · exact z q
        · exact h ⟨q, q2⟩
theorem rising_holdF (now D : Str → Int) : ∀ (ks : List Str) (ws : Ws), Rising ltS ws → Rising ltS (holdF now D ks ws)
  | [], _, h => h
  | k :: r, ws, h => by
    refine rising_holdF now D r _ ?_
    show Rising ltS (if now k ≠ D k then put ltS k (D k) ws else ws)
    by_cases y : now k ≠ D k
    · rw [if_pos y]; exact rising_put linS _ _ h
    · rw [if_neg y]; exact h
theorem held_holdF {M : Book} {m : Int} {D : Str → Int} {ks : List Str} {ws : Ws} (hs : Rising ltS ws) (h : ∀ l, l ∉ ks → lev M m l = D l) : HeldW M m D ws (holdF (lev M m) D ks ws) :=
  ⟨rising_holdF _ _ _ _ hs, fun l => by
    rw [get_holdF]
    by_cases z : lev M m l ≠ D l
    · rw [if_pos z, if_pos ⟨Decidable.byContradiction fun y => z (h l y), z⟩]
    · rw [if_neg z, if_neg fun q => z q.2]⟩
theorem wok_holdF {U : List Str} {now D : Str → Int} : ∀ {ks : List Str} {ws : Ws}, (∀ l ∈ ks, l ∈ U) → (∀ l, 0 ≤ D l ∧ D l ≤ 100) → Rising ltS ws → (∀ w ∈ ws, w.1 ∈ U ∧ 0 ≤ w.2 ∧ w.2 ≤ 100) → Rising ltS (holdF now D ks ws) ∧ ∀ w ∈ holdF now D ks ws, w.1 ∈ U ∧ 0 ≤ w.2 ∧ w.2 ≤ 100
  | [], ws, _, _, hs, hw => ⟨hs, hw⟩
  | k :: r, ws, hk, hD, hs, hw => by
    show Rising ltS (holdF now D r (if now k ≠ D k then put ltS k (D k) ws else ws)) ∧ ∀ w ∈ holdF now D r (if now k ≠ D k then put ltS k (D k) ws else ws), w.1 ∈ U ∧ 0 ≤ w.2 ∧ w.2 ≤ 100
    refine wok_holdF (fun l h => hk l (List.mem_cons_of_mem _ h)) hD ?_ ?_
    · by_cases y : now k ≠ D k
      · rw [if_pos y]; exact rising_put linS _ _ hs
      · rw [if_neg y]; exact hs
    · by_cases y : now k ≠ D k
      · rw [if_pos y]; exact (wok_put (hk k List.mem_cons_self) (hD k).1 (hD k).2 hs hw).2
      · rw [if_neg y]; exact hw
theorem cut_first {xs : List V} : cutV xs none (some 1) = xs.take 1 := by
  unfold cutV
  rw [show (some (1 : Int)) = some ((1 : Nat) : Int) from rfl, HT.sIx_nat, HT.sIx_none, List.drop_zero, Nat.sub_zero]
  cases xs <;> simp
theorem nums_filter (M : Book) (n : Int) (f : V → Bool) (hf : ∀ i, f (.int i) = decide (n < i)) : ((nums M).filter f).take 1 = (nxt M n).toList.map V.int := by
  have aux : ∀ l : List Int, (l.map V.int).filter f = (l.filter fun i => decide (n < i)).map V.int := by
    intro l
    induction l with
    | nil => rfl
    | cons i r ih =>
      rw [List.map_cons]
      by_cases h : n < i
      · rw [List.filter_cons_of_pos (by rw [hf]; simpa using h), List.filter_cons_of_pos (by simpa using h), ih]; rfl
      · rw [List.filter_cons_of_neg (by rw [hf]; simpa using h), List.filter_cons_of_neg (by simpa using h), ih]
  unfold nums nxt
  rw [aux]
  cases (M.map (·.1)).filter fun i => decide (n < i) <;> rfl

/-! ## Deeds that leave looks -/
theorem setW_setW (n : Int) (f g : Ws → Ws) (M : Book) : setW n f (setW n g M) = setW n (fun w => f (g w)) M := by
  unfold setW
  rw [List.map_map]
  refine List.map_congr_left fun e _ => ?_
  by_cases h : e.1 = n <;> simp [h]
theorem setW_same {U : List Str} {M : Book} (g : Good U M) {n : Int} {c : CueC} (h : get M n = some c) : setW n (fun _ => c.words) M = M := by
  unfold setW
  have : M.map (fun e => if e.1 = n then (e.1, { e.2 with words := c.words }) else e) = M.map id := List.map_congr_left fun e he => by
    by_cases z : e.1 = n
    · have := get_of_mem (v := e.2) g.nodup he
      rw [z, h] at this
      cases this
      rw [if_pos z]; rfl
    · rw [if_neg z]; rfl
  rw [this, List.map_id]
theorem get_setW_const {M : Book} {n : Int} {c : CueC} (h : get M n = some c) (ws : Ws) : get (setW n (fun _ => ws) M) n = some { c with words := ws } := by
  rw [get_setW, if_pos rfl, h]; rfl
theorem footP_word {p d : Addr} {ad : Ads} {M : Book} {n : Int} {f : Ws → Ws} {b : Addr} : footP p d ad (setW n f M) b ↔ footP p d ad M b := or_congr Iff.rfl foot_word
theorem dW_kV (ws : Ws) : (dW ws).map (fun kv => kV kv.1) = (ws.map (·.1)).map V.str := by
  unfold dW; rw [List.map_map, List.map_map]; rfl
theorem getD_int (o : Option Int) : (o.map V.int).getD (.int 0) = .int (o.getD 0) := by cases o <;> rfl
theorem ne_int {a b : Int} (h : (!decide (V.int a = V.int b)) = true) : a ≠ b := by
  rintro rfl; simp at h
theorem eq_int {a b : Int} (h : ¬ (!decide (V.int a = V.int b)) = true) : a = b := by
  simpa using h
section
variable {P : Program} {w : World} {K : PySem.W.Frag} {mg : Str → Option Value} {base : Heap}
def spBehind (K : PySem.W.Frag) : Sp := sp2 fun s x H Q _ => ∃ p d ad M U n, s = .ref p ∧ x = .int n ∧ PlayAt K U H p d ad M ∧ ∀ H' l, Same H H' → H l = none → H' l = some (.lst ((nxt M n).toList.map V.int)) → Q (.ref l) H'
theorem sc_Play_behind : FnScope ["self", "number", "one"] ["self", "number"] (defScope s_Play_behind) := ⟨rfl, rfl, rfl, by decide +kernel, rfl, by decide +kernel, by decide +kernel⟩
theorem d_Play_behind (T : Txt K mg) : MDef P w K mg base (He.ga K "Play") 2 "behind" ["self", "number"] [] (spBehind K) := by
  have d_Play_numbers := d_Play_numbers (P := P) (w := w) (base := base) T
  refine mkM T.d_Play_behind T.m_Play_behind sc_Play_behind (fun _ _ _ _ _ _ us hl => match us, hl with | [_, _], _ => rfl) len2 (BodyN.up fun cdv A outer s H vs Q E hr h => ?_)
  obtain ⟨_, _, rfl, p, d, ad, M, U, n, rfl, rfl, hp, q⟩ := h
  have hu := hu_of hr
  refine ⟨_, (pss_one (ps_ret (pe_slice sl_list (pe_lc (own := [("one", 2)]) rfl sc_Play_behind.nd (pi_list (pe_mt0 T.c_Play d_Play_numbers (hr.mono (by decide)) passL (pv 0))) (blkOk_by (own := [("one", 2)]) (N := ["self", "number", "one"]) (sc := defScope s_Play_behind) (by decide +kernel)) (fun _ _ _ _ _ => pg_name (i := 2) sc_Play_behind.nd rfl (Or.inl rfl)) (fun _ _ _ _ _ => (pts_one (pt_cmpR op_gt (pv 2) (pv 1) (nomark _)))) (fun _ _ _ _ _ => (pv 2))) po_none (po_some pe_int)))), ?_⟩
  obtain ⟨dx, kv0, h1, h2, tk⟩ := hp.kept
  refine ⟨_, rfl, _, _, _, rfl, h1, playF_no (by decide +kernel), _, rfl, p, d, ad, M, U, rfl, hp, fun H1 l s1 nl el => ⟨l, rfl, ⟨_, .inl (.inl el)⟩, fun D nD => ?_⟩⟩
  refine lc_pure (walk_list (K := K) (a := l) (xs := nums M)) nD (fun v => match v with | .int i => decide (n < i) | _ => false) id ?_ (fun _ => rfl) (fun H5 s5 => .inl (.inl (s5 _ _ el))) ?_ ?_ ?_
  · have := hp.good.len
    simp only [nums, List.length_map, sizeLine_eq]; omega
  · intro v hv H5 s5 Q' k
    obtain ⟨i, _, rfl⟩ := List.mem_map.mp hv
    exact ⟨_, rfl, _, rfl, _, _, rfl, rfl, _, rfl, k H5 (Same.refl _)⟩
  · exact fun v _ _ H5 s5 Q' k => ⟨_, rfl, k H5 (Same.refl _)⟩
  · intro H5 s5 hD
    refine ⟨_, rfl, _, _, rfl, .inl (.inl hD), fun t nt => ?_⟩
    rw [List.map_id, cut_first, nums_filter M n _ fun _ => rfl]
    have s15 := s1.trans s5
    exact q _ t (s15.trans (same_upd nt)) (s15.free nt) upd_same
def spHold (K : PySem.W.Frag) : Sp := sp3 fun s x k H Q _ => ∃ p d ad M U n c r L, s = .ref p ∧ x = .int n ∧ k = .ref r ∧ PlayAt K U H p d ad M ∧ get M n = some c ∧ H r = some (.dK (dW L)) ∧ ¬ footP p d ad M r ∧ Rising ltS L ∧ (∀ e ∈ L, e.1 ∈ U ∧ 0 ≤ e.2 ∧ e.2 ≤ 100) ∧
  ∀ H' M', Held M n (fun l => (get L l).getD 0) M' → PlayAt K U H' p d ad M' → Chg (footP p d ad M) H H' → (∀ b, footP p d ad M' b ↔ footP p d ad M b) → Q .non H'
theorem sc_Play_hold : FnScope ["self", "number", "look", "now", "lamp"] ["self", "number", "look"] (defScope s_Play_hold) := ⟨rfl, rfl, rfl, by decide +kernel, rfl, by decide +kernel, by decide +kernel⟩
theorem d_Play_hold (T : Txt K mg) : MDef P w K mg base (He.ga K "Play") 5 "hold" ["self", "number", "look"] [] (spHold K) := by
  have d_Play_look := d_Play_look (P := P) (w := w) (base := base) T
  refine mkM T.d_Play_hold T.m_Play_hold sc_Play_hold (fun _ _ _ _ _ _ us hl => match us, hl with | [_, _, _], _ => rfl) len3 (fun cdv A outer s H vs Q E hr h => ?_)
  obtain ⟨_, _, _, rfl, p, d, ad, M, U, n, c, r, L, rfl, rfl, rfl, hp, hn, hr0, nf, hL, okL, q⟩ := h
  have hu := hu_of hr
  refine ⟨_, (pss_cons (ps_set (i := 3) sc_Play_hold.nd rfl (Or.inl rfl) (pe_mt T.c_Play d_Play_look (hr.mono (by decide)) (passes_call (takes_of rfl rfl rfl rfl) fun _ _ _ _ h => h) (pv 0) (pa_cons (pv 1) pa_nil)))
    (pss_one (ps_for (passes_of rfl) rfl (pi_list (pe_op op_catS (pe_callTy (call_listD rfl) (by rfl) T.z_list (by decide +kernel) (pa_cons (pv 2) pa_nil)) (pe_callTy (call_listD rfl) (by rfl) T.z_list (by decide +kernel) (pa_cons (pv 3) pa_nil)))) (pg_name (i := 4) sc_Play_hold.nd rfl (Or.inl rfl))
    (pss_one (ps_if (pt_cmpR op_ne (pe_dget2 (by exact hu) (pv 3) (pv 4) pe_int ⟨rfl, rfl, rfl, rfl⟩) (pe_dget2 (by exact hu) (pv 2) (pv 4) pe_int ⟨rfl, rfl, rfl, rfl⟩) (nomark _))
    (pss_one (ps_dput hu (pe_fld (pe_dget (by exact hu) (pe_fld (pv 0) rfl) (pv 1) (fun _ _ => rfl)) rfl) (pv 4) (pe_dget2 (by exact hu) (pv 2) (pv 4) pe_int ⟨rfl, rfl, rfl, rfl⟩) rfl))
    pss_nil))))), ?_⟩
  obtain ⟨dx, kv0, h1, h2, tk⟩ := hp.kept
  have g := hp.good
  refine ⟨_, rfl, _, _, _, rfl, h1, playF_no (by decide +kernel), _, rfl, _, _, rfl, p, d, ad, M, U, rfl, hp, trivial, fun n' c' ex hn' H1 w1 s1 nw ew => ?_, fun z => absurd z (cue_some rfl hn)⟩
  cases ex
  have lf := look_few g hp.lamps n
  have Lf : L.length ≤ 60 := by
    have := nodup_le (rising_nodup linS hL) (u := U) fun x hx => by
      obtain ⟨e, he, rfl⟩ := List.mem_map.mp hx
      exact (okL e he).1
    rw [List.length_map] at this
    exact Nat.le_trans this hp.lamps.few
  refine ⟨_, rfl, r, dW L, rfl, .inl (s1 _ _ hr0), fun a1 n1 => ⟨_, rfl, w1, dW (look M n), rfl, .inl (same_upd n1 _ _ ew), fun a2 n2 => ⟨a1, a2, _, _, rfl, rfl, .inl (.inl (same_upd n2 _ _ upd_same)), .inl (.inl upd_same), ?_, fun a3 n3 => ?_⟩⟩⟩
  · simp only [dW, List.length_map, sizeLine_eq]; omega
  have s2 := same_upd (o := HO.lst ((dW L).map fun kv => kV kv.1)) n1
  have s3 := same_upd (o := HO.lst ((dW (look M n)).map fun kv => kV kv.1)) n2
  have s4 := same_upd (o := HO.lst ((dW L).map (fun kv => kV kv.1) ++ (dW (look M n)).map fun kv => kV kv.1)) n3
  have s24 := s2.trans (s3.trans s4)
  have sB := s1.trans s24
  have na3 : H a3 = none := (s1.trans (s2.trans s3)).free n3
  have eks : (dW L).map (fun kv => kV kv.1) ++ (dW (look M n)).map (fun kv => kV kv.1) = (L.map (·.1) ++ (look M n).map (·.1)).map V.str := by rw [dW_kV, dW_kV, List.map_append]
  rw [eks] at s4 s24 sB ⊢
  have ea3 : (upd (upd (upd H1 a1 (.lst ((dW L).map fun kv => kV kv.1))) a2 (.lst ((dW (look M n)).map fun kv => kV kv.1))) a3 (.lst ((L.map (·.1) ++ (look M n).map (·.1)).map V.str))) a3 = some (.lst ((L.map (·.1) ++ (look M n).map (·.1)).map V.str)) := upd_same
  have ewB := s24 _ _ ew
  have erB := sB _ _ hr0
  generalize upd (upd (upd H1 a1 (.lst ((dW L).map fun kv => kV kv.1))) a2 (.lst ((dW (look M n)).map fun kv => kV kv.1))) a3 (.lst ((L.map (·.1) ++ (look M n).map (·.1)).map V.str)) = HB at s4 s24 sB ea3 ewB erB
  clear s4 s24 eks
  have fnew : ∀ b, H b = none → ¬ footP p d ad M b := fun b hb h => by obtain ⟨o, e⟩ := hp.has h; rw [hb] at e; cases e
  have hD : ∀ l, 0 ≤ (get L l).getD 0 ∧ (get L l).getD 0 ≤ 100 := fun l => by
    cases e : get L l with
    | none => exact ⟨by decide, by decide⟩
    | some v => exact (okL _ (get_mem e)).2
  have hkU : ∀ l ∈ L.map (·.1) ++ (look M n).map (·.1), l ∈ U := fun l hl => by
    rcases List.mem_append.mp hl with h | h
    · obtain ⟨e, he, rfl⟩ := List.mem_map.mp h
      exact (okL e he).1
    · obtain ⟨e, he, rfl⟩ := List.mem_map.mp h
      exact (look_mem g n e he).1
  have hcw : ∀ w ∈ c.words, w.1 ∈ U ∧ 0 ≤ w.2 ∧ w.2 ≤ 100 := g.wrd _ (g.at hn)
  have hcs := g.wsrt _ (g.at hn)
  have hout : ∀ l, l ∉ L.map (·.1) ++ (look M n).map (·.1) → lev M n l = (get L l).getD 0 := fun l hl => by
    rw [← look_lev g, get_none_iff.mpr fun h => hl (List.mem_append.mpr (.inr h)), get_none_iff.mpr fun h => hl (List.mem_append.mpr (.inl h))]
  generalize hks : L.map (·.1) ++ (look M n).map (·.1) = ks at ea3 hkU hout ⊢
  refine ⟨a3, rfl, ⟨_, .inl (.inl ea3)⟩, for_list (K := K) (a := a3) (xs := ks.map V.str) (fun i σ H' => ∃ v4, σ = [some (.ref p), some (.int n), some (.ref r), some (.ref w1), v4] ∧ PlayAt K U H' p d ad (setW n (fun _ => holdF (lev M n) (fun l => (get L l).getD 0) (ks.take i) c.words) M) ∧ Chg (footP p d ad M) HB H') ?_ ?_ ?_ ?_⟩
  · refine ⟨none, rfl, ?_, fun b o e _ => e⟩
    show PlayAt K U HB p d ad (setW n (fun _ => c.words) M)
    rw [setW_same g hn]
    exact hp.same sB
  · rintro i σ H' _ ⟨v4, _, _, ch⟩
    exact .inl (.inl (ch _ _ ea3 (fnew _ na3)))
  · rintro i x σ H' hx ⟨v4, rfl, hp', ch⟩
    rw [List.getElem?_map] at hx
    obtain ⟨l, hl, rfl⟩ := Option.map_eq_some_iff.mp hx
    have ew' := ch _ _ ewB (fnew _ nw)
    have er' := ch _ _ erB nf
    have d1 := (WK.dW (rising_nodup linS (look_rising M n))).get (.inl ew') l
    have d2 := (WK.dW (rising_nodup linS hL)).get (.inl er') l
    refine ⟨_, rfl, _, rfl, .inl ⟨_, .inl ew'⟩, _, rfl, _, d1, _, rfl, _, rfl, .inl ⟨_, .inl er'⟩, _, rfl, _, d2, ?_⟩
    rw [getD_int, getD_int, look_lev g]
    refine ⟨rfl, _, rfl, ite2 (fun c1 => ?_) (fun c1 => ?_)⟩
    · have c1 := ne_int c1
      refine ⟨_, rfl, _, rfl, .inl ⟨_, .inl er'⟩, _, rfl, _, d2, ?_⟩
      rw [getD_int]
      obtain ⟨dx', kv', k1, k2, tk'⟩ := hp'.kept
      have hn' := get_setW_const hn (holdF (lev M n) (fun l => (get L l).getD 0) (ks.take i) c.words)
      obtain ⟨dc, kvs, e1, e2, wk⟩ := hp'.cue hn'
      have hm' := hp'.good.at hn'
      have lw := wk.len (hp'.good.wsrt _ hm')
      have fw : kvs.length ≤ 60 := by rw [lw]; exact hp'.good.few hp'.lamps hm'
      refine ⟨_, rfl, p, _, dx', _, _, rfl, k1, T.c_Play, T.n_Play_kept, playF_kept, _, rfl, d, _, rfl, tk'.hit (.inl k2) hn', _, _, _, _, _, rfl, e1, T.c_Cue, T.n_Cue_words, cueF_words, _, rfl, _, _, rfl, DPut.k (k := Sum.inr l) e2 (by rw [sizeLine_eq]; omega), ?_⟩
      have eS : setW n (put ltS l ((get L l).getD 0)) (setW n (fun _ => holdF (lev M n) (fun l => (get L l).getD 0) (ks.take i) c.words) M) = setW n (fun _ => holdF (lev M n) (fun l => (get L l).getD 0) (ks.take (i + 1)) c.words) M := by
        rw [setW_setW, take_snoc hl]
        congr 1
        funext _
        rw [holdF_snoc, if_pos c1]
      have hl' := hkU l (List.mem_of_getElem? hl)
      refine ⟨_, rfl, ?_, fun b o e nb => ?_⟩
      · rw [← eS]
        exact hp'.word hn' (fun b o _ ne e => by rw [upd_ne ne]; exact e) ⟨_, upd_same, wk.put l _⟩ (hp'.good.setW fun ws hs hw => wok_put hl' (hD l).1 (hD l).2 hs hw)
      · rw [upd_ne fun y => nb (.inr (.inr ⟨n, c, hn, .inr y⟩))]
        exact ch b o e nb
    · have c1 := eq_int c1
      refine ⟨_, rfl, ?_, ch⟩
      rw [take_snoc hl, holdF_snoc, if_neg fun y => y c1]
      exact hp'
  · rintro σ H' ⟨v4, rfl, hp', ch⟩
    rw [show (ks.map V.str).length = ks.length by simp, List.take_length] at hp'
    exact q H' _ ⟨c, _, hn, held_holdF hcs hout, rfl⟩ hp' (fun b o e nb => ch b o (sB _ _ e) nb) fun b => footP_word
end

theorem get_del_ne {M : Book} {n m : Int} (h : m ≠ n) : get (del n M) m = get M m := by rw [get_del, if_neg h]
theorem PlayAt.drop {K : PySem.W.Frag} {U : List Str} {H : Hp} {p d : Addr} {ad : Ads} {M : Book} (T : PlayAt K U H p d ad M) {kvs : List (Key × V)} (hd : H d = some (.dK kvs)) (n : Int) : PlayAt K U (upd H d (.dK (dropK kvs (Sum.inl n)))) p d ad (del n M) := by
  obtain ⟨dx, e⟩ := T.ob
  have pd : p ≠ d := fun z => T.off (.inl z)
  exact ⟨⟨dx, by rw [upd_ne pd]; exact e⟩, T.tb.drop hd upd_same (fun b u _ ne e => by rw [upd_ne ne]; exact e), fun h => T.off (foot_drop h), T.good.del n, T.lamps⟩
theorem footP_drop {p d : Addr} {ad : Ads} {M : Book} {n : Int} {b : Addr} (h : footP p d ad (del n M) b) : footP p d ad M b := h.imp id foot_drop
theorem Held.of {U : List Str} {M0 M : Book} {m n : Int} {M' : Book} (g : Good U M0) (h : Held M m (fun l => (get (look M0 n) l).getD 0) M') : Held M m (lev M0 n) M' := by
  have : (fun l => (get (look M0 n) l).getD 0) = lev M0 n := funext fun l => look_lev g n l
  rwa [this] at h
theorem look_ok {U : List Str} {M : Book} (g : Good U M) (n : Int) : ∀ e ∈ look M n, e.1 ∈ U ∧ 0 ≤ e.2 ∧ e.2 ≤ 100 := look_mem g n
section
variable {P : Program} {w : World} {K : PySem.W.Frag} {mg : Str → Option Value} {base : Heap}
def spCut (K : PySem.W.Frag) : Sp := sp2 fun s x H Q E => ∃ p d ad M U, s = .ref p ∧ PlayAt K U H p d ad M ∧ Pl H x ∧ (cueOf M x = none → Er K "NoCue" E H) ∧
  (∀ n c, x = .int n → get M n = some c → ∀ H', PlayAt K U H' p d ad (del n M) → Chg (footP p d ad M) H H' → Q .non H')
theorem sc_Play_cut : FnScope ["self", "number"] ["self", "number"] (defScope s_Play_cut) := ⟨rfl, rfl, rfl, by decide +kernel, rfl, by decide +kernel, by decide +kernel⟩
theorem d_Play_cut (T : Txt K mg) : MDef P w K mg base (He.ga K "Play") 4 "cut" ["self", "number"] [] (spCut K) := by
  have d_Play_sure := d_Play_sure (P := P) (w := w) (base := base) T
  refine mkM T.d_Play_cut T.m_Play_cut sc_Play_cut (fun _ _ _ _ _ _ us hl => match us, hl with | [_, _], _ => rfl) len2 (fun cdv A outer s H vs Q E hr h => ?_)
  obtain ⟨_, x, rfl, p, d, ad, M, U, rfl, hp, hx, e1, q⟩ := h
  have hu := hu_of hr
  refine ⟨_, (pss_cons (ps_expr (pe_mt T.c_Play d_Play_sure (hr.mono (by decide)) (passes_call (takes_of rfl rfl rfl rfl) fun _ _ _ _ h => h) (pv 0) (pa_cons (pv 1) pa_nil)))
    (pss_one (ps_expr (pe_dpop1 (pe_fld (pv 0) rfl) (pv 1) ⟨rfl, rfl, rfl, rfl⟩)))), ?_⟩
  obtain ⟨dx, kv0, h1, h2, tk⟩ := hp.kept
  refine ⟨_, rfl, _, _, _, rfl, h1, playF_no (by decide +kernel), _, rfl, _, _, rfl, p, d, ad, M, U, rfl, hp, hx, fun n c ex hn => ?_, e1⟩
  subst ex
  refine ⟨_, rfl, p, _, dx, _, _, rfl, h1, T.c_Play, T.n_Play_kept, playF_kept, _, rfl, .inl ⟨_, .inl h2⟩, _, rfl, kv0, Sum.inl n, .ref (ad n).1, h2, rfl, by rw [tk.vl, hn]; rfl, ?_⟩
  exact q n c rfl hn _ (hp.drop h2 n) fun b o e nb => by rw [upd_ne fun y => nb (.inr (.inl y))]; exact e
def spOnly (K : PySem.W.Frag) : Sp := sp4 fun s x l v H Q E => ∃ p d ad M U, s = .ref p ∧ PlayAt K U H p d ad M ∧ Pl H x ∧ Pl H l ∧ Pl H v ∧ (cueOf M x = none → Er K "NoCue" E H) ∧ (cueOf M x ≠ none → lampV l = false → Er K "NoLamp" E H) ∧ (cueOf M x ≠ none → lampV l = true → wholeV 0 100 v = false → Er K "NoLevel" E H) ∧
  (∀ n c z i, x = .int n → get M n = some c → l = .str z → v = .int i → lampV l = true → (0 ≤ i ∧ i ≤ 100) → z ∈ U ∧ ∀ H' M', Kept M (setW n (put ltS z i) M) n M' → PlayAt K U H' p d ad M' → Chg (footP p d ad M) H H' → (∀ b, footP p d ad M' b → footP p d ad M b) → Q .non H')
theorem sc_Play_only : FnScope ["self", "number", "lamp", "level", "found", "looks", "one", "look"] ["self", "number", "lamp", "level"] (defScope s_Play_only) := ⟨rfl, rfl, rfl, by decide +kernel, rfl, by decide +kernel, by decide +kernel⟩
theorem d_Play_only (T : Txt K mg) : MDef P w K mg base (He.ga K "Play") 6 "only" ["self", "number", "lamp", "level"] [] (spOnly K) := by
  have d_Play_sure := d_Play_sure (P := P) (w := w) (base := base) T
  have d_need_word := d_need_word (P := P) (w := w) (base := base) T
  have d_Play_hold := d_Play_hold (P := P) (w := w) (base := base) T
  have d_Play_look := d_Play_look (P := P) (w := w) (base := base) T
  have d_Play_behind := d_Play_behind (P := P) (w := w) (base := base) T
  refine mkM T.d_Play_only T.m_Play_only sc_Play_only (fun _ _ _ _ _ _ us hl => match us, hl with | [_, _, _, _], _ => rfl) len4 (fun cdv A outer s H vs Q E hr h => ?_)
  obtain ⟨_, x, l, v, rfl, p, d, ad, M, U, rfl, hp, hx, hl, hv, e1, e2, e3, q⟩ := h
  have hu := hu_of hr
  refine ⟨_, (pss_cons (ps_set (i := 4) sc_Play_only.nd rfl (Or.inl rfl) (pe_mt T.c_Play d_Play_sure (hr.mono (by decide)) (passes_call (takes_of rfl rfl rfl rfl) fun _ _ _ _ h => h) (pv 0) (pa_cons (pv 1) pa_nil)))
    (pss_cons (ps_expr (pe_fn d_need_word (hr.mono (by decide)) (by rfl) (passes_call (takes_of rfl rfl rfl rfl) fun _ _ _ _ h => h) (pa_cons (pv 2) (pa_cons (pv 3) pa_nil))))
    (pss_cons (ps_setLc (i := 5) (own := [("one", 6)]) rfl sc_Play_only.nd rfl rfl (sw_true rfl rfl rfl (by decide +kernel)) (pi_list (pe_mt T.c_Play d_Play_behind (hr.mono (by decide)) (passes_call (takes_of rfl rfl rfl rfl) fun _ _ _ _ h => h) (pv 0) (pa_cons (pv 1) pa_nil))) (blkOk_by (own := [("one", 6)]) (N := ["self", "number", "lamp", "level", "found", "looks", "one", "look"]) (sc := defScope s_Play_only) (by decide +kernel)) (fun _ _ _ _ _ => pg_name (i := 6) sc_Play_only.nd rfl (Or.inl rfl)) (fun _ _ _ _ _ => pts_nil) (fun _ _ _ _ _ => (pe_tup (pa_cons (pv 6) (pa_cons (pe_mt T.c_Play d_Play_look (hr.mono (by decide)) passL (pv 0) (pa_cons (pv 6) pa_nil)) pa_nil)))))
    (pss_cons (ps_dput hu (pe_fld (pv 4) rfl) (pv 2) (pv 3) rfl)
    (pss_one (ps_for (passes_of rfl) rfl (pi_list (pv 5)) (pg_tup rfl (pgs_cons (pg_name (i := 6) sc_Play_only.nd rfl (Or.inl rfl)) (pgs_cons (pg_name (i := 7) sc_Play_only.nd rfl (Or.inl rfl)) pgs_nil)))
    (pss_one (ps_expr (pe_mt T.c_Play d_Play_hold (hr.mono (by decide)) (passes_call (takes_of rfl rfl rfl rfl) fun _ _ _ _ h => h) (pv 0) (pa_cons (pv 6) (pa_cons (pv 7) pa_nil))))))))))), ?_⟩
  obtain ⟨dx, kv0, h1, h2, tk⟩ := hp.kept
  refine ⟨_, rfl, _, _, _, rfl, h1, playF_no (by decide +kernel), _, rfl, _, _, rfl, p, d, ad, M, U, rfl, hp, hx, fun n c ex hn => ?_, e1⟩
  refine ⟨_, rfl, _, rfl, _, _, rfl, hl, hv, fun k1 k2 H1 s1 => ?_, e2 (cue_some ex hn), e3 (cue_some ex hn)⟩
  obtain ⟨z, rfl⟩ : ∃ z, l = .str z := by
    cases l with
    | str z => exact ⟨z, rfl⟩
    | _ => cases k1
  obtain ⟨i, rfl, hi⟩ := whole_int k2
  obtain ⟨hz, q1⟩ := q n c z i ex hn rfl rfl k1 hi
  subst ex
  have g := hp.good
  have hp1 := hp.same s1
  refine ⟨_, rfl, _, _, _, rfl, s1 _ _ h1, playF_no (by decide +kernel), _, rfl, _, _, rfl, p, d, ad, M, U, n, rfl, rfl, hp1, fun H2 l2 s2 nl2 el2 => ⟨l2, rfl, ⟨_, .inl (.inl el2)⟩, fun D nD => ?_⟩⟩
  have s12 := s1.trans s2
  refine lc_rel (walk_list (K := K) (a := l2) (xs := (nxt M n).toList.map V.int)) nD yes (fun x y H' => ∃ m t w, x = V.int m ∧ y = V.ref t ∧ H t = none ∧ H w = none ∧ H' t = some (.tup [.int m, .ref w]) ∧ H' w = some (.dK (dW (look M m)))) ?_ ?_ (fun _ => rfl) (fun H5 s5 => .inl (.inl (s5 _ _ el2))) (fun x _ H _ Q' k => tt_yes x k) ?_ ?_
  · rintro x y H3 H4 nl' ⟨m, t, w', rfl, rfl, a1, a2, a3, a4⟩
    exact ⟨m, t, w', rfl, rfl, a1, a2, nl' _ _ (fun _ z => by cases z) a3, nl' _ _ (fun _ z => by cases z) a4⟩
  · rw [List.length_map, sizeLine_eq]
    cases nxt M n <;> simp
  · rintro y hy _ H5 s5 Q' k
    obtain ⟨m, hm, rfl⟩ := List.mem_map.mp hy
    have hm : nxt M n = some m := Option.mem_toList.mp hm
    obtain ⟨cm, hcm⟩ := nxt_get hm
    have s15 := s12.trans s5
    refine ⟨_, rfl, _, rfl, _, _, _, rfl, s15 _ _ h1, playF_no (by decide +kernel), _, rfl, _, _, rfl, p, d, ad, M, U, rfl, hp.same s15, trivial, fun m' c' ex hm' H6 w6 s6 n6 e6 => ⟨by simp [sizeLine_eq], fun t nt => ?_⟩, fun z => absurd z (cue_some rfl hcm)⟩
    cases ex
    have st := same_upd (o := HO.tup [.int m, .ref w6]) nt
    exact k _ _ (s6.trans st) ⟨m, t, w6, rfl, rfl, (s15.trans s6).free nt, s15.free n6, upd_same, st _ _ e6⟩
  · intro H5 ys s5 hD hpair
    rw [filter_yes] at hpair
    have s15 := s12.trans s5
    have hp5 := hp.same s15
    obtain ⟨dc, kvs, c1, c2, wk⟩ := hp5.cue hn
    have hm := g.at hn
    refine ⟨_, rfl, _, rfl, _, _, _, _, _, rfl, c1, T.c_Cue, T.n_Cue_words, cueF_words, _, rfl, _, _, rfl, DPut.k (k := Sum.inr z) c2 (by rw [wk.len (g.wsrt _ hm), sizeLine_eq]; exact Nat.lt_of_le_of_lt (g.few hp.lamps hm) (by decide)), ?_⟩
    have hpX := hp5.word hn (fun b o _ ne e => by rw [upd_ne ne]; exact e) ⟨_, upd_same, wk.put z i⟩ (g.setW fun ws hs hw => wok_put hz hi.1 hi.2 hs hw)
    have fW : footP p d ad M (ad n).2 := .inr (.inr ⟨n, c, hn, .inr rfl⟩)
    have chX : Chg (footP p d ad M) H5 (upd H5 (ad n).2 (.dK (putK kvs (Sum.inr z) (.int i)))) := fun b o e nb => by
      rw [upd_ne fun (y : b = (ad n).2) => nb (y ▸ fW)]; exact e
    have fnew : ∀ b, H b = none → ¬ footP p d ad M b := fun b hb h => by obtain ⟨o, e⟩ := hp.has h; rw [hb] at e; cases e
    have hDn : H D = none := s12.free nD
    have eD := chX _ _ hD (fnew _ hDn)
    generalize upd H5 (ad n).2 (.dK (putK kvs (Sum.inr z) (.int i))) = HX at hpX chX eD
    have chH : Chg (footP p d ad M) H HX := fun b o e nb => chX b o (s15 _ _ e) nb
    refine ⟨_, rfl, D, rfl, ⟨_, .inl (.inl eD)⟩, ?_⟩
    cases hnx : nxt M n with
    | none =>
      rw [hnx] at hpair
      cases hpair
      refine for_list (K := K) (a := D) (xs := []) (fun _ σ H' => H' = HX) rfl (fun i σ H' _ e => by rw [e]; exact .inl (.inl eD)) (fun i x σ H' hx => by simp at hx) ?_
      rintro σ H' rfl
      exact q1 _ _ ⟨fun _ => rfl, fun m h => by rw [hnx] at h; cases h⟩ hpX chH fun b h => footP_word.mp h
    | some m =>
      rw [hnx] at hpair
      have hpair : Paired _ [V.int m] ys := hpair
      cases hpair with
      | cons hR hr =>
      cases hr
      obtain ⟨m', t, w', e0, rfl, a1, a2, a3, a4⟩ := hR
      cases e0
      obtain ⟨cm, hcm⟩ := nxt_get hnx
      have hmn : m ≠ n := by have := (nxt_mem hnx).2; omega
      have hcmX : get (setW n (put ltS z i) M) m = some cm := by rw [get_setW, if_neg hmn]; exact hcm
      have et := chX _ _ a3 (fnew _ a1)
      have ew := chX _ _ a4 (fnew _ a2)
      refine for_list (K := K) (a := D) (xs := [V.ref t]) (fun j σ H' => (j = 0 ∧ H' = HX ∧ σ = [some (.ref p), some (.int n), some (.str z), some (.int i), some (.ref (ad n).1), some (.ref D), none, none]) ∨ (j = 1 ∧ ∃ M', Held (setW n (put ltS z i) M) m (lev M m) M' ∧ PlayAt K U H' p d ad M' ∧ Chg (footP p d ad M) HX H' ∧ ∀ b, footP p d ad M' b → footP p d ad M b)) (.inl ⟨rfl, rfl, rfl⟩) ?_ ?_ ?_
      · rintro j σ H' _ (⟨_, rfl, _⟩ | ⟨_, M', _, _, ch, _⟩)
        · exact .inl (.inl eD)
        · exact .inl (.inl (ch _ _ eD (fnew _ hDn)))
      · rintro j y σ H' hy hP
        cases j with
        | succ j => simp at hy
        | zero =>
          rcases hP with ⟨_, rfl, rfl⟩ | ⟨z', _⟩
          · cases hy
            refine ⟨t, _, rfl, .inl (.inl et), rfl, _, _, rfl, _, _, rfl, rfl, ?_⟩
            obtain ⟨dxX, kvX, x1, _, _⟩ := hpX.kept
            refine ⟨_, rfl, _, _, _, rfl, x1, playF_no (by decide +kernel), _, rfl, _, rfl, _, _, _, rfl, p, d, ad, _, U, m, cm, w', look M m, rfl, rfl, rfl, hpX, hcmX, ew, fun h => fnew _ a2 (footP_word.mp h), look_rising M m, look_ok g m, fun H' M' hh hp' ch fo => ?_⟩
            exact .inr ⟨rfl, M', hh.of g, hp', fun b o e nb => ch b o e fun h => nb (footP_word.mp h), fun b h => footP_word.mp ((fo b).mp h)⟩
          · cases z'
      · rintro σ H' (⟨z', _⟩ | ⟨_, M', hh, hp', ch, fo⟩)
        · cases z'
        · exact q1 _ M' ⟨fun h => (by rw [hnx] at h; cases h), fun m' h => (by rw [hnx] at h; cases h; exact hh)⟩ hp' (fun b o e nb => ch b o (chH b o e nb) nb) fo
def spLift (K : PySem.W.Frag) : Sp := sp2 fun s x H Q E => ∃ p d ad M U, s = .ref p ∧ PlayAt K U H p d ad M ∧ Pl H x ∧ (cueOf M x = none → Er K "NoCue" E H) ∧
  (∀ n c, x = .int n → get M n = some c → ∀ H' M', Kept M (del n M) n M' → PlayAt K U H' p d ad M' → Chg (footP p d ad M) H H' → (∀ b, footP p d ad M' b → footP p d ad M b) → Q .non H')
theorem sc_Play_lift : FnScope ["self", "number", "looks", "one", "look"] ["self", "number"] (defScope s_Play_lift) := ⟨rfl, rfl, rfl, by decide +kernel, rfl, by decide +kernel, by decide +kernel⟩
theorem d_Play_lift (T : Txt K mg) : MDef P w K mg base (He.ga K "Play") 6 "lift" ["self", "number"] [] (spLift K) := by
  have d_Play_sure := d_Play_sure (P := P) (w := w) (base := base) T
  have d_Play_hold := d_Play_hold (P := P) (w := w) (base := base) T
  have d_Play_look := d_Play_look (P := P) (w := w) (base := base) T
  have d_Play_behind := d_Play_behind (P := P) (w := w) (base := base) T
  refine mkM T.d_Play_lift T.m_Play_lift sc_Play_lift (fun _ _ _ _ _ _ us hl => match us, hl with | [_, _], _ => rfl) len2 (fun cdv A outer s H vs Q E hr h => ?_)
  obtain ⟨_, x, rfl, p, d, ad, M, U, rfl, hp, hx, e1, q⟩ := h
  have hu := hu_of hr
  refine ⟨_, (pss_cons (ps_expr (pe_mt T.c_Play d_Play_sure (hr.mono (by decide)) (passes_call (takes_of rfl rfl rfl rfl) fun _ _ _ _ h => h) (pv 0) (pa_cons (pv 1) pa_nil)))
    (pss_cons (ps_setLc (i := 2) (own := [("one", 3)]) rfl sc_Play_lift.nd rfl rfl (sw_true rfl rfl rfl (by decide +kernel)) (pi_list (pe_mt T.c_Play d_Play_behind (hr.mono (by decide)) (passes_call (takes_of rfl rfl rfl rfl) fun _ _ _ _ h => h) (pv 0) (pa_cons (pv 1) pa_nil))) (blkOk_by (own := [("one", 3)]) (N := ["self", "number", "looks", "one", "look"]) (sc := defScope s_Play_lift) (by decide +kernel)) (fun _ _ _ _ _ => pg_name (i := 3) sc_Play_lift.nd rfl (Or.inl rfl)) (fun _ _ _ _ _ => pts_nil) (fun _ _ _ _ _ => (pe_tup (pa_cons (pv 3) (pa_cons (pe_mt T.c_Play d_Play_look (hr.mono (by decide)) passL (pv 0) (pa_cons (pv 3) pa_nil)) pa_nil)))))
    (pss_cons (ps_expr (pe_dpop1 (pe_fld (pv 0) rfl) (pv 1) ⟨rfl, rfl, rfl, rfl⟩))
    (pss_one (ps_for (passes_of rfl) rfl (pi_list (pv 2)) (pg_tup rfl (pgs_cons (pg_name (i := 3) sc_Play_lift.nd rfl (Or.inl rfl)) (pgs_cons (pg_name (i := 4) sc_Play_lift.nd rfl (Or.inl rfl)) pgs_nil)))
    (pss_one (ps_expr (pe_mt T.c_Play d_Play_hold (hr.mono (by decide)) (passes_call (takes_of rfl rfl rfl rfl) fun _ _ _ _ h => h) (pv 0) (pa_cons (pv 3) (pa_cons (pv 4) pa_nil)))))))))), ?_⟩
  obtain ⟨dx, kv0, h1, h2, tk⟩ := hp.kept
  refine ⟨_, rfl, _, _, _, rfl, h1, playF_no (by decide +kernel), _, rfl, _, _, rfl, p, d, ad, M, U, rfl, hp, hx, fun n c ex hn => ?_, e1⟩
  subst ex
  have q := q n c rfl hn
  have g := hp.good
  refine ⟨_, rfl, _, _, _, rfl, h1, playF_no (by decide +kernel), _, rfl, _, _, rfl, p, d, ad, M, U, n, rfl, rfl, hp, fun H2 l2 s2 nl2 el2 => ⟨l2, rfl, ⟨_, .inl (.inl el2)⟩, fun D nD => ?_⟩⟩
  refine lc_rel (walk_list (K := K) (a := l2) (xs := (nxt M n).toList.map V.int)) nD yes (fun x y H' => ∃ m t w, x = V.int m ∧ y = V.ref t ∧ H t = none ∧ H w = none ∧ H' t = some (.tup [.int m, .ref w]) ∧ H' w = some (.dK (dW (look M m)))) ?_ ?_ (fun _ => rfl) (fun H5 s5 => .inl (.inl (s5 _ _ el2))) (fun x _ H _ Q' k => tt_yes x k) ?_ ?_
  · rintro x y H3 H4 nl' ⟨m, t, w', rfl, rfl, a1, a2, a3, a4⟩
    exact ⟨m, t, w', rfl, rfl, a1, a2, nl' _ _ (fun _ z => by cases z) a3, nl' _ _ (fun _ z => by cases z) a4⟩
  · rw [List.length_map, sizeLine_eq]
    cases nxt M n <;> simp
  · rintro y hy _ H5 s5 Q' k
    obtain ⟨m, hm, rfl⟩ := List.mem_map.mp hy
    have hm : nxt M n = some m := Option.mem_toList.mp hm
    obtain ⟨cm, hcm⟩ := nxt_get hm
    have s15 := s2.trans s5
    refine ⟨_, rfl, _, rfl, _, _, _, rfl, s15 _ _ h1, playF_no (by decide +kernel), _, rfl, _, _, rfl, p, d, ad, M, U, rfl, hp.same s15, trivial, fun m' c' ex hm' H6 w6 s6 n6 e6 => ⟨by simp [sizeLine_eq], fun t nt => ?_⟩, fun z => absurd z (cue_some rfl hcm)⟩
    cases ex
    have st := same_upd (o := HO.tup [.int m, .ref w6]) nt
    exact k _ _ (s6.trans st) ⟨m, t, w6, rfl, rfl, (s15.trans s6).free nt, s15.free n6, upd_same, st _ _ e6⟩
  · intro H5 ys s5 hD hpair
    rw [filter_yes] at hpair
    have s15 := s2.trans s5
    have hp5 := hp.same s15
    have h25 := s15 _ _ h2
    refine ⟨_, rfl, p, _, dx, _, _, rfl, s15 _ _ h1, T.c_Play, T.n_Play_kept, playF_kept, _, rfl, .inl ⟨_, .inl h25⟩, _, rfl, kv0, Sum.inl n, .ref (ad n).1, h25, rfl, by rw [tk.vl, hn]; rfl, ?_⟩
    have hpX := hp5.drop h25 n
    have chX : Chg (footP p d ad M) H5 (upd H5 d (.dK (dropK kv0 (Sum.inl n)))) := fun b o e nb => by
      rw [upd_ne fun (y : b = d) => nb (.inr (.inl y))]; exact e
    have fnew : ∀ b, H b = none → ¬ footP p d ad M b := fun b hb h => by obtain ⟨o, e⟩ := hp.has h; rw [hb] at e; cases e
    have hDn : H D = none := s2.free nD
    have eD := chX _ _ hD (fnew _ hDn)
    generalize upd H5 d (.dK (dropK kv0 (Sum.inl n))) = HX at hpX chX eD
    have chH : Chg (footP p d ad M) H HX := fun b o e nb => chX b o (s15 _ _ e) nb
    refine ⟨_, rfl, D, rfl, ⟨_, .inl (.inl eD)⟩, ?_⟩
    cases hnx : nxt M n with
    | none =>
      rw [hnx] at hpair
      cases hpair
      refine for_list (K := K) (a := D) (xs := []) (fun _ σ H' => H' = HX) rfl (fun i σ H' _ e => by rw [e]; exact .inl (.inl eD)) (fun i x σ H' hx => by simp at hx) ?_
      rintro σ H' rfl
      exact q _ _ ⟨fun _ => rfl, fun m h => by rw [hnx] at h; cases h⟩ hpX chH fun b h => footP_drop h
    | some m =>
      rw [hnx] at hpair
      have hpair : Paired _ [V.int m] ys := hpair
      cases hpair with
      | cons hR hr =>
      cases hr
      obtain ⟨m', t, w', e0, rfl, a1, a2, a3, a4⟩ := hR
      cases e0
      obtain ⟨cm, hcm⟩ := nxt_get hnx
      have hmn : m ≠ n := by have := (nxt_mem hnx).2; omega
      have hcmX : get (del n M) m = some cm := by rw [get_del_ne hmn]; exact hcm
      have et := chX _ _ a3 (fnew _ a1)
      have ew := chX _ _ a4 (fnew _ a2)
      refine for_list (K := K) (a := D) (xs := [V.ref t]) (fun j σ H' => (j = 0 ∧ H' = HX ∧ σ = [some (.ref p), some (.int n), some (.ref D), none, none]) ∨ (j = 1 ∧ ∃ M', Held (del n M) m (lev M m) M' ∧ PlayAt K U H' p d ad M' ∧ Chg (footP p d ad M) HX H' ∧ ∀ b, footP p d ad M' b → footP p d ad M b)) (.inl ⟨rfl, rfl, rfl⟩) ?_ ?_ ?_
      · rintro j σ H' _ (⟨_, rfl, _⟩ | ⟨_, M', _, _, ch, _⟩)
        · exact .inl (.inl eD)
        · exact .inl (.inl (ch _ _ eD (fnew _ hDn)))
      · rintro j y σ H' hy hP
        cases j with
        | succ j => simp at hy
        | zero =>
          rcases hP with ⟨_, rfl, rfl⟩ | ⟨z', _⟩
          · cases hy
            refine ⟨t, _, rfl, .inl (.inl et), rfl, _, _, rfl, _, _, rfl, rfl, ?_⟩
            obtain ⟨dxX, kvX, x1, _, _⟩ := hpX.kept
            refine ⟨_, rfl, _, _, _, rfl, x1, playF_no (by decide +kernel), _, rfl, _, rfl, _, _, _, rfl, p, d, ad, _, U, m, cm, w', look M m, rfl, rfl, rfl, hpX, hcmX, ew, fun h => fnew _ a2 (footP_drop h), look_rising M m, look_ok g m, fun H' M' hh hp' ch fo => ?_⟩
            exact .inr ⟨rfl, M', hh.of g, hp', fun b o e nb => ch b o e fun h => nb (footP_drop h), fun b h => footP_drop ((fo b).mp h)⟩
          · cases z'
      · rintro σ H' (⟨z', _⟩ | ⟨_, M', hh, hp', ch, fo⟩)
        · cases z'
        · exact q _ M' ⟨fun h => (by rw [hnx] at h; cases h), fun m' h => (by rw [hnx] at h; cases h; exact hh)⟩ hp' (fun b o e nb => ch b o (chH b o e nb) nb) fo
end

/-! ## The law's own deeds -/
def optV : Option Int → V
  | none => .non
  | some i => .int i
def hold1 (o : Option Int) (z : Str) (due : Int) (M : Book) : Book := match o with
  | none => M
  | some k => if lev M k z ≠ due then setW k (put ltS z due) M else M
theorem held_one {U : List Str} {M1 : Book} (g : Good U M1) {m : Int} {c : CueC} (hc : get M1 m = some c) {z : Str} {D : Str → Int} (hD : ∀ l, l ≠ z → lev M1 m l = D l) : Held M1 m D (hold1 (some m) z (D z) M1) := by
  have hs := g.wsrt _ (g.at hc)
  have e : hold1 (some m) z (D z) M1 = setW m (fun _ => holdF (lev M1 m) D [z] c.words) M1 := by
    show (if lev M1 m z ≠ D z then setW m (put ltS z (D z)) M1 else M1) = _
    have e0 : holdF (lev M1 m) D [z] c.words = if lev M1 m z ≠ D z then put ltS z (D z) c.words else c.words := rfl
    rw [e0]
    by_cases h : lev M1 m z ≠ D z
    · rw [if_pos h, if_pos h]
      have := setW_same g hc
      conv => lhs; rw [← this, setW_setW]
    · rw [if_neg h, if_neg h, setW_same g hc]
  rw [e]
  exact ⟨c, _, hc, held_holdF hs fun l hl => hD l fun y => hl (y ▸ List.mem_singleton.mpr rfl), rfl⟩
theorem Held.ne {M : Book} {m : Int} {D : Str → Int} {M' : Book} (h : Held M m D M') : M' ≠ [] := by
  obtain ⟨c, ws, hc, _, rfl⟩ := h
  exact setW_ne hc
theorem Kept.ne {M M1 : Book} {n : Int} {M' : Book} (h : Kept M M1 n M') (h1 : M1 ≠ []) : M' ≠ [] := by
  cases z : nxt M n with
  | none => rw [h.1 z]; exact h1
  | some m => exact (h.2 m z).ne
theorem put_put {n : Int} {c c' : CueC} {M : Book} (h : Rising ltI M) : put ltI n c (put ltI n c' M) = put ltI n c M :=
  table_ext linI (rising_put linI _ _ (rising_put linI _ _ h)) (rising_put linI _ _ h) fun k => by
    rw [get_put, get_put, get_put]
    by_cases z : k = n
    · rw [if_pos z, if_pos z]
    · rw [if_neg z, if_neg z, if_neg z]
section
variable {K : PySem.W.Frag} {U : List Str} {NS : List Int} {H H' : Hp} {p dp dm : Addr} {ap am : Ads} {M Mm : Book} {Q : VK} {E : XK} {n : Int} {c : CueC} {z : Str} {v : Int}
theorem only_two (T : Two K U NS H p dp ap M dm am Mm) (hn : get M n = some c) (hz : z ∈ U) (hv : 0 ≤ v ∧ v ≤ 100)
    (q : ∀ H' M', Kept M (setW n (put ltS z v) M) n M' → Two K U NS H' p dp ap M' dm am Mm → Mv H (footT p dp ap M dm am Mm) H' (footT p dp ap M' dm am Mm) → Q .non H') : spOnly K [.ref p, .int n, .str z, .int v] H Q E := by
  have lz : lampV (.str z) = true := T.play.lamps.ok z hz
  have wv : wholeV 0 100 (.int v) = true := whole_of hv
  refine ⟨_, _, _, _, rfl, p, dp, ap, M, U, rfl, T.play, trivial, lampS_pl lz, trivial, fun h => absurd h (cue_some rfl hn), fun _ h => ?_, fun _ _ h => ?_, ?_⟩
  · rw [lz] at h; cases h
  · rw [wv] at h; cases h
  · rintro n' c' z' i e1 _ e2 e3 _ _
    cases e1; cases e2; cases e3
    refine ⟨hz, fun H' M' hk h' ch fo => ?_⟩
    obtain ⟨a, b⟩ := T.deed h' ch fun b hb => .inl (fo b hb)
    exact q H' M' hk a b
theorem lift_two (T : Two K U NS H p dp ap M dm am Mm) (hn : get M n = some c)
    (q : ∀ H' M', Kept M (del n M) n M' → Two K U NS H' p dp ap M' dm am Mm → Mv H (footT p dp ap M dm am Mm) H' (footT p dp ap M' dm am Mm) → Q .non H') : spLift K [.ref p, .int n] H Q E := by
  refine ⟨_, _, rfl, p, dp, ap, M, U, rfl, T.play, trivial, fun h => absurd h (cue_some rfl hn), ?_⟩
  rintro n' c' e1 _ H' M' hk h' ch fo
  cases e1
  obtain ⟨a, b⟩ := T.deed h' ch fun b hb => .inl (fo b hb)
  exact q H' M' hk a b
theorem cut_two (T : Two K U NS H p dp ap M dm am Mm) (hn : get M n = some c)
    (q : ∀ H', Two K U NS H' p dp ap (del n M) dm am Mm → Mv H (footT p dp ap M dm am Mm) H' (footT p dp ap (del n M) dm am Mm) → Q .non H') : spCut K [.ref p, .int n] H Q E := by
  refine ⟨_, _, rfl, p, dp, ap, M, U, rfl, T.play, trivial, fun h => absurd h (cue_some rfl hn), ?_⟩
  rintro n' c' e1 _ H' h' ch
  cases e1
  obtain ⟨a, b⟩ := T.deed h' ch fun b hb => .inl (footP_drop hb)
  exact q H' a b
/-- a word of the law's book -/
theorem Two.at (T : Two K U NS H p dp ap M dm am Mm) (hn : get Mm n = some c) : ∃ kvs kw, H dm = some (.dK kvs) ∧ DGet H dm (.int n) (some (V.ref (am n).1)) ∧ H (am n).1 = some (.lst [.int c.up, .int c.down, .bl c.fresh, .ref (am n).2]) ∧ H (am n).2 = some (.dK kw) ∧ WK kw c.words ∧ kw.length < sizeLine ∧ valV kvs (Sum.inl n) = some (V.ref (am n).1) := by
  obtain ⟨kvs, hd, tk⟩ := T.tab.top
  have hd : H dm = some (.dK kvs) := hd
  obtain ⟨kw, ew, wk⟩ := T.tab.wrd _ _ hn
  have hm := T.good.at hn
  refine ⟨kvs, kw, hd, tk.hit (.inl hd) hn, T.tab.recd hn, ew, wk, ?_, by rw [tk.vl, hn]; rfl⟩
  have : c.words.length ≤ 60 := T.good.few T.play.lamps hm
  rw [wk.len (T.good.wsrt _ hm), sizeLine_eq]; omega
theorem Two.obj (T : Two K U NS H p dp ap M dm am Mm) : ∃ dx, H p = some (.ins (He.ga K "Play") dx (playF dp)) := T.play.ob
theorem Two.set (T : Two K U NS H p dp ap M dm am Mm) (hn : get Mm n = some c) {kw : List (Key × V)} (wk : WK kw c.words) (hz : z ∈ U) (hv : 0 ≤ v ∧ v ≤ 100) :
    Two K U NS (upd H (am n).2 (.dK (putK kw (Sum.inr z) (.int v)))) p dp ap M dm am (setW n (put ltS z v) Mm) ∧ Mv H (footT p dp ap M dm am Mm) (upd H (am n).2 (.dK (putK kw (Sum.inr z) (.int v)))) (footT p dp ap M dm am (setW n (put ltS z v) Mm)) :=
  T.word hn (wk.put z v) (T.good.setW fun ws hs hw => wok_put hz hv.1 hv.2 hs hw)
end
section
variable {P : Program} {w : World} {K : PySem.W.Frag} {mg : Str → Option Value} {base : Heap}
def spLHold (K : PySem.W.Frag) : Sp := sp4 fun m n l d H Q _ => ∃ NS p dp ap M U dm am Mm o z due, m = .ref dm ∧ n = optV o ∧ l = .str z ∧ d = .int due ∧ Two K U NS H p dp ap M dm am Mm ∧ (∀ k, o = some k → ∃ c, get Mm k = some c) ∧ z ∈ U ∧ (0 ≤ due ∧ due ≤ 100) ∧
  ∀ H', Two K U NS H' p dp ap M dm am (hold1 o z due Mm) → Mv H (footT p dp ap M dm am Mm) H' (footT p dp ap M dm am (hold1 o z due Mm)) → Q .non H'
theorem sc__law_hold : FnScope ["_law_model", "_law_number", "_law_lamp", "_law_due"] ["_law_model", "_law_number", "_law_lamp", "_law_due"] (defScope s__law_hold) := ⟨rfl, rfl, rfl, by decide +kernel, rfl, by decide +kernel, by decide +kernel⟩
theorem d__law_hold (T : Txt K mg) : Def P w K mg base 2 "_law_hold" ["_law_model", "_law_number", "_law_lamp", "_law_due"] (spLHold K) := by
  have d__law_level := d__law_level (P := P) (w := w) (base := base) T
  refine mkDef T.d__law_hold T.g__law_hold sc__law_hold (fun _ _ _ _ _ _ us hl => match us, hl with | [_, _, _, _], _ => rfl) len4 (BodyN.up fun cdv A outer s H vs Q E hr h => ?_)
  obtain ⟨_, _, _, _, rfl, NS, p, dp, ap, M, U, dm, am, Mm, o, z, due, rfl, rfl, rfl, rfl, hT, ho, hz, hd, q⟩ := h
  have hu := hu_of hr
  refine ⟨_, (pss_one (ps_if (PW.pt (pw_and (pt_cmpR op_notN (pv 1) pe_non (nomark _)) (pw_and1 (pt_cmpR op_ne (pe_fn d__law_level (hr.mono (by decide)) (by rfl) passL (pa_cons (pv 0) (pa_cons (pv 1) (pa_cons (pv 2) pa_nil)))) (pv 3) (nomark _)))))
    (pss_one (ps_dput hu (pe_ix ix_list (pe_dget (by exact hu) (pv 0) (pv 1) (fun _ _ => rfl)) pe_int (fun _ _ => rfl)) (pv 2) (pv 3) rfl))
    pss_nil)), ?_⟩
  cases o with
  | none => exact ⟨_, rfl, rfl, _, rfl, iteF (q H hT Mv.refl)⟩
  | some k =>
    obtain ⟨c, hc⟩ := ho k rfl
    refine ⟨_, rfl, rfl, _, rfl, iteT ⟨_, rfl, _, rfl, _, rfl, _, _, _, rfl, none, dm, am, Mm, U, k, z, rfl, rfl, rfl, hT.tab, hT.good, fun H1 s1 => ⟨_, rfl, rfl, _, rfl, ite2 (fun c1 => ?_) (fun c1 => ?_)⟩⟩⟩
    · have c1 := ne_int c1
      have T1 := hT.same s1
      obtain ⟨kvs, kw, d1, d2, d3, d4, d5, d6, _⟩ := T1.at hc
      refine ⟨_, rfl, _, rfl, _, rfl, dm, _, rfl, d2, _, _, _, _, rfl, rfl, .inl (.inl d3), rfl, _, rfl, _, _, rfl, DPut.k (k := Sum.inr z) d4 d6, ?_⟩
      obtain ⟨T2, m2⟩ := T1.set hc d5 hz hd
      have e : hold1 (some k) z due Mm = setW k (put ltS z due) Mm := if_pos c1
      rw [e] at q
      exact q _ T2 ((Mv.same s1).trans m2)
    · have c1 := eq_int c1
      have e : hold1 (some k) z due Mm = Mm := if_neg fun y => y c1
      rw [e] at q
      exact q _ (hT.same s1) (Mv.same s1)
def spLBehind : Sp := sp2 fun m n H Q _ => ∃ lk d ad M U i, m = .ref d ∧ n = .int i ∧ TabAt RcM lk H d ad M ∧ Good U M ∧ ∀ H', Same H H' → Q (optV (nxt M i)) H'
theorem sc__law_behind : FnScope ["_law_model", "_law_number", "_law_some", "_law_one"] ["_law_model", "_law_number"] (defScope s__law_behind) := ⟨rfl, rfl, rfl, by decide +kernel, rfl, by decide +kernel, by decide +kernel⟩
theorem d__law_behind (T : Txt K mg) : Def P w K mg base 1 "_law_behind" ["_law_model", "_law_number"] (spLBehind) := by
  refine mkDef T.d__law_behind T.g__law_behind sc__law_behind (fun _ _ _ _ _ _ us hl => match us, hl with | [_, _], _ => rfl) len2 (BodyN.up fun cdv A outer s H vs Q E hr h => ?_)
  obtain ⟨_, _, rfl, lk, d, ad, M, U, n, rfl, rfl, hT, g, q⟩ := h
  have hu := hu_of hr
  refine ⟨_, (pss_cons (ps_setLc (i := 2) (own := [("_law_one", 3)]) rfl sc__law_behind.nd rfl rfl (sw_true rfl rfl rfl (by decide +kernel)) (pi_list (pe_callB (call_sortedDA rfl) (by rfl) T.z_sorted (by decide +kernel) (pa_cons (pv 0) pa_nil))) (blkOk_by (own := [("_law_one", 3)]) (N := ["_law_model", "_law_number", "_law_some", "_law_one"]) (sc := defScope s__law_behind) (by decide +kernel)) (fun _ _ _ _ _ => pg_name (i := 3) sc__law_behind.nd rfl (Or.inl rfl)) (fun _ _ _ _ _ => (pts_one (pt_cmpR op_gt (pv 3) (pv 1) (nomark _)))) (fun _ _ _ _ _ => (pv 3)))
    (pss_one (ps_ret (pe_ifExp (pt_cmpR (op_neD hr.units) (pv 2) (pe_lst pa_nil) (nomark _)) (pe_ix ix_list (pv 2) pe_int (fun _ _ => rfl)) pe_non)))), ?_⟩
  obtain ⟨kvs, rd, tk⟩ := hT.topR
  obtain ⟨ns, hk, _, _⟩ := tk.keys
  refine ⟨_, rfl, d, kvs, ns, rfl, rd, hk, fun ys l hp1 hp2 nl => ?_⟩
  rw [tk.sorted g.srt hk hp1 hp2]
  have s1 := same_upd (o := HO.lst ((M.map (·.1)).map V.int)) nl
  refine ⟨l, rfl, ⟨_, .inl (.inl upd_same)⟩, fun D nD => ?_⟩
  refine lc_pure (walk_list (K := K) (a := l) (xs := nums M)) nD (fun v => match v with | .int i => decide (n < i) | _ => false) id ?_ (fun _ => rfl) (fun H5 s5 => .inl (.inl (s5 _ _ upd_same))) ?_ ?_ ?_
  · have := g.len
    simp only [nums, List.length_map, sizeLine_eq]; omega
  · intro v hv H5 s5 Q' k
    obtain ⟨i, _, rfl⟩ := List.mem_map.mp hv
    exact ⟨_, rfl, _, rfl, _, _, rfl, rfl, _, rfl, k H5 (Same.refl _)⟩
  · exact fun v _ _ H5 s5 Q' k => ⟨_, rfl, k H5 (Same.refl _)⟩
  · intro H5 s5 hD
    have hf := nums_filter M n (fun v => match v with | .int i => decide (n < i) | _ => false) fun _ => rfl
    rw [List.map_id] at hD
    have hall : ∀ x ∈ (nums M).filter (fun v => match v with | .int i => decide (n < i) | _ => false), okV x = true := fun x hx => by
      obtain ⟨i, _, rfl⟩ := List.mem_map.mp (List.mem_filter.mp hx).1
      rfl
    generalize (nums M).filter (fun v => match v with | .int i => decide (n < i) | _ => false) = F at hD hf hall
    refine ⟨_, rfl, by simp, fun e ne => ?_⟩
    have s2 := same_upd (o := HO.lst []) ne
    have eD := s2 _ _ hD
    cases F with
    | nil =>
      refine neD_nil (ds := []) (dat_lst (K := K) (xs := []) (.inl (.inl eD)) (by simp)) upd_same (by decide) ⟨_, rfl, iteF ?_⟩
      have : nxt M n = none := by
        cases z : nxt M n with
        | none => rfl
        | some i => rw [z] at hf; simp at hf
      rw [this] at q
      exact q _ (s1.trans (s5.trans s2))
    | cons x r =>
      obtain ⟨i, hi, rfl⟩ : ∃ i, nxt M n = some i ∧ x = .int i := by
        cases z : nxt M n with
        | none => rw [z] at hf; simp at hf
        | some i => rw [z] at hf; exact ⟨i, rfl, by simpa using hf⟩
      refine neD_nil (dat_lst (K := K) (.inl (.inl eD)) hall) upd_same (by decide) ⟨_, rfl, iteY rfl ⟨_, rfl, _, _, _, _, rfl, rfl, .inl (.inl eD), show atI (V.int i :: r) 0 = some (.int i) from atI_nat (j := 0) rfl, ?_⟩⟩
      rw [hi] at q
      exact q _ (s1.trans (s5.trans s2))
end

section
variable {P : Program} {w : World} {K : PySem.W.Frag} {mg : Str → Option Value} {base : Heap}
def spLPut (K : PySem.W.Frag) : Sp := sp4 fun a m n x H Q _ => ∃ NS p dp ap M U dm am i mx, a = .ref p ∧ m = .ref dm ∧ n = .int i ∧ x = .int mx ∧ Two K U NS H p dp ap M dm am M ∧ get M i = none ∧ i ∈ NS ∧ NS.length ≤ 9 ∧ (1 ≤ i ∧ i ≤ 999999) ∧ 0 ≤ mx ∧
  ∀ H' ap' am' M', Two K U NS H' p dp ap' M' dm am' M' → Mv H (footT p dp ap M dm am M) H' (footT p dp ap' M' dm am' M') → M' ≠ [] → Q .non H'
theorem sc__law_put : FnScope ["_law_play", "_law_model", "_law_number", "_law_mix", "_law_up", "_law_down", "_law_fresh"] ["_law_play", "_law_model", "_law_number", "_law_mix"] (defScope s__law_put) := ⟨rfl, rfl, rfl, by decide +kernel, rfl, by decide +kernel, by decide +kernel⟩
theorem d__law_put (T : Txt K mg) : Def P w K mg base 4 "_law_put" ["_law_play", "_law_model", "_law_number", "_law_mix"] (spLPut K) := by
  have d_Play_put := d_Play_put (P := P) (w := w) (base := base) T
  obtain d_Play_put_2 := d_Play_put_2 (P := P) (w := w) (base := base) T
  refine mkDef T.d__law_put T.g__law_put sc__law_put (fun _ _ _ _ _ _ us hl => match us, hl with | [_, _, _, _], _ => rfl) len4 (BodyN.up fun cdv A outer s H vs Q E hr h => ?_)
  obtain ⟨_, _, _, _, rfl, NS, p, dp, ap, M, U, dm, am, n, x, rfl, rfl, rfl, rfl, hT, hg, hn, hNS, hb, hx, q⟩ := h
  have hu := hu_of hr
  refine ⟨_, (pss_cons (ps_set (i := 4) sc__law_put.nd rfl (Or.inl rfl) (pe_ix ix_list (pe_lst (pa_cons pe_int (pa_cons pe_int (pa_cons (pe_op op_mod (pv 3) pe_int) (pa_cons pe_int pa_nil))))) (pe_op op_mod (pe_op op_fdiv (pv 3) pe_int) pe_int) (fun _ _ => rfl)))
    (pss_cons (ps_set (i := 5) sc__law_put.nd rfl (Or.inl rfl) (pe_ix ix_list (pe_lst (pa_cons pe_int (pa_cons pe_int (pa_cons (pe_op op_mod (pe_op op_fdiv (pv 3) pe_int) pe_int) (pa_cons pe_int pa_nil))))) (pe_op op_mod (pe_op op_fdiv (pv 3) pe_int) pe_int) (fun _ _ => rfl)))
    (pss_cons (ps_set (i := 6) sc__law_put.nd rfl (Or.inl rfl) (pe_cmpR op_eq (pe_op op_mod (pe_op op_fdiv (pv 3) pe_int) pe_int) pe_int (nomark _)))
    (pss_cons (ps_dput hu (pv 1) (pv 2) (pe_lst (pa_cons (pv 4) (pa_cons (pv 5) (pa_cons (pv 6) (pa_cons pe_dnewK pa_nil))))) rfl)
    (pss_cons (ps_if (PW.pt (pw_and (pt_cmpR op_eq (pe_op op_mod (pe_op op_fdiv (pv 3) pe_int) pe_int) pe_int (nomark _)) (pw_and1 (pt_not (pt_val (pv 6))))))
    (pss_cons (ps_dput hu (pv 1) (pv 2) (pe_lst (pa_cons (pv 4) (pa_cons pe_int (pa_cons pe_bl (pa_cons pe_dnewK pa_nil))))) rfl)
    (pss_one (ps_ret (pe_mt T.c_Play d_Play_put_2 (hr.mono (by decide)) passL (pv 0) (pa_cons (pv 2) (pa_cons (pv 4) pa_nil))))))
    pss_nil)
    (pss_one (ps_ret (pe_mt T.c_Play d_Play_put (hr.mono (by decide)) passL (pv 0) (pa_cons (pv 2) (pa_cons (pv 4) (pa_cons (pv 5) (pa_cons (pv 6) pa_nil)))))))))))), ?_⟩
  have hlen := hT.few hNS
  obtain ⟨u, hu1, hu2⟩ := draw_at (f := V.int) (xs := [0, 1, x % 6001, 6000]) (m := 4) rfl (i := x / 7 % 4) (by omega) (by omega)
  obtain ⟨d, hd1, hd2⟩ := draw_at (f := V.int) (xs := [0, 1, x / 11 % 6001, 6000]) (m := 4) rfl (i := x / 13 % 4) (by omega) (by omega)
  have hu0 : 0 ≤ u ∧ u ≤ 6000 := by
    simp only [List.mem_cons, List.not_mem_nil, or_false] at hu1; omega
  have hd0 : 0 ≤ d ∧ d ≤ 6000 := by
    simp only [List.mem_cons, List.not_mem_nil, or_false] at hd1; omega
  refine ⟨_, rfl, _, _, rfl, rfl, by simp, by simp [sizeLine_eq], fun l1 n1 => ⟨_, rfl, _, _, rfl, rfl, ⟨by decide, by decide⟩, _, _, rfl, rfl, by simp, _, _, _, _, rfl, rfl, .inl (.inl upd_same), hu2, ?_⟩⟩
  have s1 := same_upd (o := HO.lst [.int 0, .int 1, .int (x % 6001), .int 6000]) n1
  refine ⟨_, rfl, _, _, rfl, rfl, ⟨by decide, by decide⟩, _, _, rfl, rfl, by simp, by simp [sizeLine_eq], fun l2 n2 => ⟨_, rfl, _, _, rfl, rfl, ⟨by decide, by decide⟩, _, _, rfl, rfl, by simp, _, _, _, _, rfl, rfl, .inl (.inl upd_same), hd2, ?_⟩⟩
  have s2 := s1.trans (same_upd (o := HO.lst [.int 0, .int 1, .int (x / 11 % 6001), .int 6000]) n2)
  refine ⟨_, rfl, _, _, rfl, rfl, ⟨by decide, by decide⟩, _, _, rfl, rfl, by simp, rfl, ?_⟩
  have T2 := hT.same s2
  obtain ⟨kvs, e2, tk⟩ := T2.tab.top
  have e2 : _ = some (HO.dK kvs) := e2
  have tl := tk.len hT.good.srt
  refine ⟨_, rfl, _, rfl, _, rfl, fun w1 nw => ⟨by simp [sizeLine_eq], fun r nr => ⟨_, rfl, _, rfl, dm, _, rfl, DPut.k (kvs := kvs) (k := Sum.inl n) ?_ (by rw [sizeLine_eq]; omega), ?_⟩⟩⟩
  · rw [upd_ne (ne_of_none (same_upd nw _ _ e2) nr), upd_ne (ne_of_none e2 nw)]; exact e2
  obtain ⟨T3, m3⟩ := add_two (u := u) (d := d) (f := decide (V.int (x / 17 % 4) = V.int 0)) T2 e2 nw nr hb hn ⟨hu0.1, hu0.2, hd0.1, hd0.2⟩ (by omega)
  obtain ⟨dx3, k3⟩ := T3.obj
  have m03 := (Mv.same s2).trans m3
  have late : ∀ E, spPut K [.ref p, .int n, .int u, .int d, .bl (decide (V.int (x / 17 % 4) = V.int 0))] _ Q E := fun E => put_two (E := E) T3 hg hb ⟨hu0.1, hu0.2, hd0.1, hd0.2⟩ (by omega) fun H' ap' T4 m4 => q H' _ _ _ T4 (m03.trans m4) put_ne
  refine ⟨_, rfl, _, _, rfl, rfl, ⟨by decide, by decide⟩, _, _, rfl, rfl, by simp, rfl, _, rfl, ite2 (fun c1 => ?_) (fun c1 => ?_)⟩
  · refine ⟨_, rfl, _, rfl, ite2 (fun c2 => ?_) (fun c2 => ?_)⟩
    · clear late
      obtain ⟨kv3, e3, tk3⟩ := T3.tab.top
      have e3 : _ = some (HO.dK kv3) := e3
      have tl3 := tk3.len T3.good.srt
      have hlen3 := T3.few hNS
      refine ⟨_, rfl, fun w2 nw2 => ⟨by simp [sizeLine_eq], fun r2 nr2 => ⟨_, rfl, _, rfl, dm, _, rfl, DPut.k (kvs := kv3) (k := Sum.inl n) ?_ (by rw [sizeLine_eq]; omega), ?_⟩⟩⟩
      · rw [upd_ne (ne_of_none (same_upd nw2 _ _ e3) nr2), upd_ne (ne_of_none e3 nw2)]; exact e3
      obtain ⟨T4, m4⟩ := add_two (u := u) (d := 0) (f := false) T3 e3 nw2 nr2 hb hn ⟨hu0.1, hu0.2, by decide, by decide⟩ (by omega)
      rw [put_put hT.good.srt] at T4 m4
      obtain ⟨dx4, k4⟩ := T4.obj
      refine ⟨_, rfl, _, _, _, rfl, k4, playF_no (by decide +kernel), _, rfl, _, rfl, ?_⟩
      exact put_two T4 hg hb ⟨hu0.1, hu0.2, by decide, by decide⟩ (by omega) fun H' ap' T5 m5 => q H' _ _ _ T5 (m03.trans (m4.trans m5)) put_ne
    · exact ⟨_, rfl, _, _, _, rfl, k3, playF_no (by decide +kernel), _, rfl, _, rfl, _, rfl, _, rfl, late _⟩
  · exact ⟨_, rfl, _, _, _, rfl, k3, playF_no (by decide +kernel), _, rfl, _, rfl, _, rfl, _, rfl, late _⟩
def spLOnly (K : PySem.W.Frag) : Sp := sp5 fun a m n l x H Q _ => ∃ NS p dp ap M U dm am i z v c, a = .ref p ∧ m = .ref dm ∧ n = .int i ∧ l = .str z ∧ x = .int v ∧ Two K U NS H p dp ap M dm am M ∧ get M i = some c ∧ z ∈ U ∧ (0 ≤ v ∧ v ≤ 100) ∧
  ∀ H' M', Kept M (setW i (put ltS z v) M) i M' → Two K U NS H' p dp ap M' dm am M' → Mv H (footT p dp ap M dm am M) H' (footT p dp ap M' dm am M') → Q .non H'
theorem sc__law_only : FnScope ["_law_play", "_law_model", "_law_number", "_law_lamp", "_law_level_here", "_law_after", "_law_due"] ["_law_play", "_law_model", "_law_number", "_law_lamp", "_law_level_here"] (defScope s__law_only) := ⟨rfl, rfl, rfl, by decide +kernel, rfl, by decide +kernel, by decide +kernel⟩
theorem d__law_only (T : Txt K mg) : Def P w K mg base 7 "_law_only" ["_law_play", "_law_model", "_law_number", "_law_lamp", "_law_level_here"] (spLOnly K) := by
  have d__law_behind := d__law_behind (P := P) (w := w) (base := base) T
  have d__law_hold := d__law_hold (P := P) (w := w) (base := base) T
  have d_Play_only := d_Play_only (P := P) (w := w) (base := base) T
  have d__law_level := d__law_level (P := P) (w := w) (base := base) T
  refine mkDef T.d__law_only T.g__law_only sc__law_only (fun _ _ _ _ _ _ us hl => match us, hl with | [_, _, _, _, _], _ => rfl) len5 (BodyN.up fun cdv A outer s H vs Q E hr h => ?_)
  obtain ⟨_, _, _, _, _, rfl, NS, p, dp, ap, M, U, dm, am, n, z, v, c, rfl, rfl, rfl, rfl, rfl, hT, hn, hz, hv, q⟩ := h
  have hu := hu_of hr
  refine ⟨_, (pss_cons (ps_set (i := 5) sc__law_only.nd rfl (Or.inl rfl) (pe_fn d__law_behind (hr.mono (by decide)) (by rfl) passL (pa_cons (pv 1) (pa_cons (pv 2) pa_nil))))
    (pss_cons (ps_set (i := 6) sc__law_only.nd rfl (Or.inl rfl) (pe_ifExp (pt_cmpR op_isN (pv 5) pe_non (nomark _)) pe_int (pe_fn d__law_level (hr.mono (by decide)) (by rfl) passL (pa_cons (pv 1) (pa_cons (pv 5) (pa_cons (pv 3) pa_nil))))))
    (pss_cons (ps_dput hu (pe_ix ix_list (pe_dget (by exact hu) (pv 1) (pv 2) (fun _ _ => rfl)) pe_int (fun _ _ => rfl)) (pv 3) (pv 4) rfl)
    (pss_cons (ps_expr (pe_fn d__law_hold (hr.mono (by decide)) (by rfl) passL (pa_cons (pv 1) (pa_cons (pv 5) (pa_cons (pv 3) (pa_cons (pv 6) pa_nil))))))
    (pss_one (ps_ret (pe_mt T.c_Play d_Play_only (hr.mono (by decide)) passL (pv 0) (pa_cons (pv 2) (pa_cons (pv 3) (pa_cons (pv 4) pa_nil)))))))))), ?_⟩
  refine ⟨_, rfl, _, rfl, _, _, rfl, none, dm, am, M, U, n, rfl, rfl, hT.tab, hT.good, fun H1 s1 => ?_⟩
  have T1 := hT.same s1
  have g := hT.good
  obtain ⟨dx, ob1⟩ := T1.obj
  have fin : ∀ (H2 : Hp) (due : Int), Same H1 H2 → (match nxt M n with | none => due = 0 | some m => due = lev M m z) → ∃ kvs kw, H2 dm = some (.dK kvs) ∧ DGet H2 dm (.int n) (some (V.ref (am n).1)) ∧ H2 (am n).1 = some (.lst [.int c.up, .int c.down, .bl c.fresh, .ref (am n).2]) ∧ H2 (am n).2 = some (.dK kw) ∧ kw.length < sizeLine ∧
      ∃ Mm, Two K U NS (upd H2 (am n).2 (.dK (putK kw (Sum.inr z) (.int v)))) p dp ap M dm am (setW n (put ltS z v) M) ∧ Mv H (footT p dp ap M dm am M) (upd H2 (am n).2 (.dK (putK kw (Sum.inr z) (.int v)))) (footT p dp ap M dm am (setW n (put ltS z v) M)) ∧ (∀ k, nxt M n = some k → ∃ c, get (setW n (put ltS z v) M) k = some c) ∧ (0 ≤ due ∧ due ≤ 100) ∧ hold1 (nxt M n) z due (setW n (put ltS z v) M) = Mm ∧ Kept M (setW n (put ltS z v) M) n Mm := by
    intro H2 due s2 hdue
    obtain ⟨kvs, kw, a1, a2, a3, a4, a5, a6, _⟩ := (T1.same s2).at hn
    obtain ⟨T3, m3⟩ := (T1.same s2).set hn a5 hz hv
    have hex : ∀ k, nxt M n = some k → ∃ c, get (setW n (put ltS z v) M) k = some c := fun k hk => by
      obtain ⟨ck, hck⟩ := nxt_get hk
      have : k ≠ n := by have := (nxt_mem hk).2; omega
      exact ⟨ck, by rw [get_setW, if_neg this]; exact hck⟩
    refine ⟨kvs, kw, a1, a2, a3, a4, a6, _, T3, (Mv.same (s1.trans s2)).trans m3, hex, ?_, rfl, ?_⟩
    · cases hk : nxt M n with
      | none => rw [hk] at hdue; have hdue : due = 0 := hdue; omega
      | some k => rw [hk] at hdue; have hdue : due = lev M k z := hdue; rw [hdue]; exact lev_range g k z
    · cases hk : nxt M n with
      | none => exact ⟨fun _ => rfl, fun m h => by rw [hk] at h; cases h⟩
      | some k =>
        rw [hk] at hdue
        have hdue : due = lev M k z := hdue
        obtain ⟨ck, hck⟩ := hex k hk
        refine ⟨fun h => (by rw [hk] at h; cases h), fun m h => ?_⟩
        rw [hk] at h
        cases h
        rw [hdue]
        exact held_one T3.good hck fun l hl => lev_setW_eq g T3.good (fun c _ => by rw [get_put, if_neg hl]) k
  have rest : ∀ (H2 : Hp) (due : Int), Same H1 H2 → (match nxt M n with | none => due = 0 | some m => due = lev M m z) → ∃ (kvs kw : List (Key × V)), H2 dm = some (.dK kvs) ∧ DGet H2 dm (.int n) (some (V.ref (am n).1)) ∧ H2 (am n).1 = some (.lst [.int c.up, .int c.down, .bl c.fresh, .ref (am n).2]) ∧ H2 (am n).2 = some (.dK kw) ∧ kw.length < sizeLine ∧
      ∀ Q1 : VK, (∀ H3, (∃ dx, H3 p = some (.ins (He.ga K "Play") dx (playF dp))) → (∀ E, spOnly K [.ref p, .int n, .str z, .int v] H3 Q E) → Q1 .non H3) → spLHold K [.ref dm, optV (nxt M n), .str z, .int due] (upd H2 (am n).2 (.dK (putK kw (Sum.inr z) (.int v)))) Q1 fun _ _ _ => False := by
    intro H2 due s2 hdue
    obtain ⟨kvs, kw, a1, a2, a3, a4, a6, Mm, T3, m3, hex, hb, hM, hk⟩ := fin H2 due s2 hdue
    refine ⟨kvs, kw, a1, a2, a3, a4, a6, fun Q1 q1 => ⟨_, _, _, _, rfl, NS, p, dp, ap, M, U, dm, am, _, nxt M n, z, due, rfl, rfl, rfl, rfl, T3, hex, hz, hb, fun H4 T4 m4 => ?_⟩⟩
    rw [hM] at T4 m4
    refine q1 H4 T4.obj fun E => only_two T4 hn hz hv fun H5 M' hk' T5 m5 => ?_
    have e := hk'.uniq hk
    subst e
    exact q H5 M' hk T5 (m3.trans (m4.trans m5))
  cases hk : nxt M n with
  | none =>
    rw [hk] at rest
    obtain ⟨kvs, kw, a1, a2, a3, a4, a6, r⟩ := rest H1 0 (Same.refl _) rfl
    refine ⟨_, rfl, rfl, _, rfl, iteT ?_⟩
    refine ⟨_, rfl, _, rfl, _, rfl, dm, _, rfl, a2, _, _, _, _, rfl, rfl, .inl (.inl a3), rfl, _, rfl, _, _, rfl, DPut.k (k := Sum.inr z) a4 a6, ?_⟩
    refine ⟨_, rfl, _, rfl, _, rfl, _, rfl, r _ fun H3 ⟨dx3, o3⟩ h3 => ?_⟩
    exact ⟨_, rfl, _, _, _, rfl, o3, playF_no (by decide +kernel), _, rfl, _, rfl, _, rfl, h3 _⟩
  | some m =>
    rw [hk] at rest
    refine ⟨_, rfl, rfl, _, rfl, iteF ⟨_, rfl, _, rfl, _, rfl, _, _, _, rfl, none, dm, am, M, U, m, z, rfl, rfl, rfl, T1.tab, g, fun H2 s2 => ?_⟩⟩
    obtain ⟨kvs, kw, a1, a2, a3, a4, a6, r⟩ := rest H2 (lev M m z) s2 rfl
    refine ⟨_, rfl, _, rfl, _, rfl, dm, _, rfl, a2, _, _, _, _, rfl, rfl, .inl (.inl a3), rfl, _, rfl, _, _, rfl, DPut.k (k := Sum.inr z) a4 a6, ?_⟩
    refine ⟨_, rfl, _, rfl, _, rfl, _, rfl, r _ fun H3 ⟨dx3, o3⟩ h3 => ?_⟩
    exact ⟨_, rfl, _, _, _, rfl, o3, playF_no (by decide +kernel), _, rfl, _, rfl, _, rfl, h3 _⟩
end

theorem ite_share {c A B : Prop} [Decidable c] (hB : B) (hA : c → B → A) : if c then A else B := by
  by_cases h : c
  · rw [if_pos h]; exact hA h hB
  · rw [if_neg h]; exact hB
def due0 (M : Book) (n : Int) (z : Str) : Int := match nxt M n with
  | none => 0
  | some k => lev M k z
theorem due0_range {U : List Str} {M : Book} (g : Good U M) (n : Int) (z : Str) : 0 ≤ due0 M n z ∧ due0 M n z ≤ 100 := by
  unfold due0
  cases nxt M n with
  | none => exact ⟨Int.le_refl 0, show (0 : Int) ≤ 100 by decide⟩
  | some k => exact lev_range g k z
theorem lift_steps {U : List Str} {M : Book} (g : Good U M) (nd : U.Nodup) (n : Int) : ∃ Mi : Nat → Book, Mi 0 = del n M ∧ (∀ i z, U[i]? = some z → hold1 (nxt M n) z (due0 M n z) (Mi i) = Mi (i + 1)) ∧ Kept M (del n M) n (Mi U.length) ∧ ∀ i k, nxt M n = some k → ∃ c, get (Mi i) k = some c := by
  unfold due0
  cases hk : nxt M n with
  | none => exact ⟨fun _ => del n M, rfl, fun _ _ _ => rfl, ⟨fun _ => rfl, fun m h => by rw [hk] at h; cases h⟩, fun i k h => by cases h⟩
  | some k =>
    have kn : k ≠ n := by have := (nxt_mem hk).2; omega
    obtain ⟨c, hc0⟩ := nxt_get hk
    have hc : get (del n M) k = some c := by rw [get_del_ne kn]; exact hc0
    have g1 := g.del n
    have hs := g1.wsrt _ (g1.at hc)
    have hw := g1.wrd _ (g1.at hc)
    have hD : ∀ l, 0 ≤ lev M k l ∧ lev M k l ≤ 100 := fun l => lev_range g k l
    refine ⟨fun i => setW k (fun _ => holdF (lev (del n M) k) (lev M k) (U.take i) c.words) (del n M), ?_, fun i z hz => ?_, ⟨fun h => (by rw [hk] at h; cases h), fun m h => ?_⟩, fun i j h => ?_⟩
    · exact setW_same g1 hc
    · have nz : z ∉ U.take i := fun h => by
        have := nd.sublist (List.take_sublist (i + 1) U)
        rw [take_snoc hz, List.nodup_append] at this
        exact this.2.2 z h z (by simp) rfl
      have gi : Good U (setW k (fun _ => holdF (lev (del n M) k) (lev M k) (U.take i) c.words) (del n M)) := g1.setW fun _ _ _ => wok_holdF (fun l hl => List.mem_of_mem_take hl) hD hs hw
      have el : lev (setW k (fun _ => holdF (lev (del n M) k) (lev M k) (U.take i) c.words) (del n M)) k z = lev (del n M) k z := lev_setW_eq g1 gi (fun c' hc' => by
        rw [hc] at hc'
        cases hc'
        rw [get_holdF, if_neg fun y => nz y.1]) k
      show (if lev (setW k (fun _ => holdF (lev (del n M) k) (lev M k) (U.take i) c.words) (del n M)) k z ≠ lev M k z then _ else _) = _
      rw [el]
      show _ = setW k (fun _ => holdF (lev (del n M) k) (lev M k) (U.take (i + 1)) c.words) (del n M)
      rw [take_snoc hz, holdF_snoc]
      by_cases y : lev (del n M) k z ≠ lev M k z
      · rw [if_pos y, if_pos y, setW_setW]
      · rw [if_neg y, if_neg y]
    · rw [hk] at h
      cases h
      show Held _ _ _ (setW k (fun _ => holdF (lev (del n M) k) (lev M k) (U.take U.length) c.words) (del n M))
      rw [List.take_length]
      exact ⟨c, _, hc, held_holdF hs fun l hl => by rw [lev_out g1 k hl, lev_out g k hl], rfl⟩
    · cases h
      exact ⟨_, get_setW_const hc _⟩
section
variable {P : Program} {w : World} {K : PySem.W.Frag} {mg : Str → Option Value} {base : Heap}
def spLLift (K : PySem.W.Frag) : Sp := sp4 fun a m n l H Q _ => ∃ NS p dp ap M U dm am i ls c, a = .ref p ∧ m = .ref dm ∧ n = .int i ∧ l = .ref ls ∧ Two K U NS H p dp ap M dm am M ∧ get M i = some c ∧ U.Nodup ∧ H ls = some (.lst (U.map V.str)) ∧ ¬ footT p dp ap M dm am M ls ∧
  ∀ H' M', Kept M (del i M) i M' → Two K U NS H' p dp ap M' dm am M' → Mv H (footT p dp ap M dm am M) H' (footT p dp ap M' dm am M') → Q .non H'
theorem sc__law_lift : FnScope ["_law_play", "_law_model", "_law_number", "_law_lamps_here", "_law_after", "_law_dues", "_law_lamp", "_law_due"] ["_law_play", "_law_model", "_law_number", "_law_lamps_here"] (defScope s__law_lift) := ⟨rfl, rfl, rfl, by decide +kernel, rfl, by decide +kernel, by decide +kernel⟩
theorem d__law_lift (T : Txt K mg) : Def P w K mg base 7 "_law_lift" ["_law_play", "_law_model", "_law_number", "_law_lamps_here"] (spLLift K) := by
  have d__law_behind := d__law_behind (P := P) (w := w) (base := base) T
  have d_Play_lift := d_Play_lift (P := P) (w := w) (base := base) T
  have d__law_hold := d__law_hold (P := P) (w := w) (base := base) T
  have d__law_level := d__law_level (P := P) (w := w) (base := base) T
  refine mkDef T.d__law_lift T.g__law_lift sc__law_lift (fun _ _ _ _ _ _ us hl => match us, hl with | [_, _, _, _], _ => rfl) len4 (BodyN.up fun cdv A outer s H vs Q E hr h => ?_)
  obtain ⟨_, _, _, _, rfl, NS, p, dp, ap, M, U, dm, am, n, ls, c, rfl, rfl, rfl, rfl, hT, hn, nd, hls, nls, q⟩ := h
  have hu := hu_of hr
  refine ⟨_, (pss_cons (ps_set (i := 4) sc__law_lift.nd rfl (Or.inr rfl) (pe_fn d__law_behind (hr.mono (by decide)) (by rfl) passL (pa_cons (pv 1) (pa_cons (pv 2) pa_nil))))
    (pss_cons (ps_setLc (i := 5) (own := [("_law_lamp", 6)]) rfl sc__law_lift.nd rfl rfl (sw_true rfl rfl rfl (by decide +kernel)) (pi_list (pv 3)) (blkOk_by (own := [("_law_lamp", 6)]) (N := ["_law_play", "_law_model", "_law_number", "_law_lamps_here", "_law_after", "_law_dues", "_law_lamp", "_law_due"]) (sc := defScope s__law_lift) (by decide +kernel)) (fun _ _ _ _ _ => pg_name (i := 6) sc__law_lift.nd rfl (Or.inl rfl)) (fun _ _ _ _ _ => pts_nil) (fun _ _ _ _ _ => (pe_ifExp (pt_cmpR op_isN (pv 4) pe_non (nomark _)) pe_int (pe_fn d__law_level (hr.mono (by decide)) (by rfl) passL (pa_cons (pv 1) (pa_cons (pv 4) (pa_cons (pv 6) pa_nil)))))))
    (pss_cons (ps_expr (pe_dpop1 (pv 1) (pv 2) ⟨rfl, rfl, rfl, rfl⟩))
    (pss_cons (ps_for PassesOwn.never rfl (pi_zip (by rfl) T.z_zip (pa_cons (pv 3) (pa_cons (pv 5) pa_nil))) (pg_tup rfl (pgs_cons (pg_name (i := 6) sc__law_lift.nd rfl (Or.inl rfl)) (pgs_cons (pg_name (i := 7) sc__law_lift.nd rfl (Or.inl rfl)) pgs_nil)))
    (pss_one (ps_expr (pe_fn d__law_hold (hr.mono (by decide)) (by rfl) passL (pa_cons (pv 1) (pa_cons (pv 4) (pa_cons (pv 6) (pa_cons (pv 7) pa_nil))))))))
    (pss_one (ps_ret (pe_mt T.c_Play d_Play_lift (hr.mono (by decide)) passL (pv 0) (pa_cons (pv 2) pa_nil)))))))), ?_⟩
  have g := hT.good
  refine ⟨_, rfl, _, rfl, _, _, rfl, none, dm, am, M, U, n, rfl, rfl, hT.tab, g, fun H1 s1 => ?_⟩
  refine ⟨_, rfl, ls, rfl, ⟨_, .inl (.inl (s1 _ _ hls))⟩, fun D nD => ?_⟩
  refine lc_pure (walk_list (K := K) (a := ls) (xs := U.map V.str)) nD yes (fun v => match v with | .str z => .int (due0 M n z) | _ => .non) ?_ (fun _ => rfl) (fun H5 s5 => .inl (.inl (s5 _ _ (s1 _ _ hls)))) (fun x _ H _ Q' k => tt_yes x k) ?_ ?_
  · have := hT.play.lamps.few
    rw [List.length_map, sizeLine_eq]; omega
  · intro v hv _ H5 s5 Q' k
    obtain ⟨z, _, rfl⟩ := List.mem_map.mp hv
    have k : ∀ H', Same H5 H' → Q' (.int (due0 M n z)) H' := k
    unfold due0 at k
    cases hk : nxt M n with
    | none =>
      rw [hk] at k
      exact ⟨_, rfl, rfl, _, rfl, iteT (k H5 (Same.refl _))⟩
    | some m =>
      rw [hk] at k
      exact ⟨_, rfl, rfl, _, rfl, iteF ⟨_, rfl, _, rfl, _, rfl, _, _, _, rfl, none, dm, am, M, U, m, z, rfl, rfl, rfl, hT.tab.same (s1.trans s5), g, fun H6 s6 => k H6 s6⟩⟩
  · intro H2 s2 hD
    have s12 := s1.trans s2
    have T2 := hT.same s12
    obtain ⟨kvs, kw, d1, d2, d3, d4, d5, d6, d7⟩ := T2.at hn
    refine ⟨_, rfl, dm, rfl, .inl ⟨_, .inl d1⟩, _, rfl, kvs, Sum.inl n, .ref (am n).1, d1, rfl, d7, ?_⟩
    obtain ⟨T3, m3⟩ := T2.drop d1 (n := n)
    have nDF : ¬ footT p dp ap M dm am M D := fun h => by obtain ⟨o, e⟩ := hT.has h; rw [s1.free nD] at e; cases e
    obtain ⟨e3, n3⟩ := m3.keep (s12 _ _ hls) nls
    obtain ⟨eD, nD3⟩ := m3.keep hD nDF
    rw [filter_yes, List.map_map] at eD
    have m03 := (Mv.same s12).trans m3
    generalize upd H2 dm (.dK (dropK kvs (Sum.inl n))) = H3 at T3 m3 e3 eD m03
    obtain ⟨Mi, M0, hstep, hkept, hex⟩ := lift_steps g nd n
    refine ⟨_, rfl, _, rfl, ls, D, _, _, rfl, .inl (.inl e3), .inl (.inl eD), for_it (walk_zip (K := K) (a := ls) (b := D) (n := U.length) (by rw [List.length_map, List.length_map, Nat.min_self])) (fun i σ H' => ∃ v6 v7, σ = [some (.ref p), some (.ref dm), some (.int n), some (.ref ls), some (optV (nxt M n)), some (.ref D), v6, v7] ∧ Two K U NS H' p dp ap M dm am (Mi i) ∧ Mv H3 (footT p dp ap M dm am (del n M)) H' (footT p dp ap M dm am (Mi i))) ⟨none, none, rfl, by rw [M0]; exact T3, by rw [M0]; exact Mv.refl⟩ (fun i σ H' _ ⟨_, _, _, _, m⟩ => ⟨.inl (.inl (m.keep e3 n3).1), .inl (.inl (m.keep eD nD3).1)⟩) ?_ ?_⟩
    · rintro i y σ H4 H4' hi ⟨v6, v7, rfl, T4, m4⟩ ⟨t, xx, yy, rfl, nt, rfl, hxx, hyy⟩
      have hxx : (U.map V.str)[i]? = some xx := hxx
      have hyy : (U.map ((fun v => match v with | .str z => .int (due0 M n z) | _ => .non) ∘ V.str))[i]? = some yy := hyy
      rw [List.getElem?_map] at hxx hyy
      obtain ⟨z, hz, rfl⟩ := Option.map_eq_some_iff.mp hxx
      rw [hz] at hyy
      cases hyy
      have st := same_upd (o := HO.tup [.str z, .int (due0 M n z)]) nt
      refine ⟨t, _, rfl, .inl (.inl upd_same), rfl, _, _, rfl, _, _, rfl, rfl, ?_⟩
      refine ⟨_, rfl, _, rfl, _, rfl, _, rfl, _, _, _, _, rfl, NS, p, dp, ap, M, U, dm, am, Mi i, nxt M n, z, due0 M n z, rfl, rfl, rfl, rfl, T4.same st, fun k hk => hex i k hk, List.mem_of_getElem? hz, due0_range g n z, fun H5 T5 m5 => ?_⟩
      rw [hstep i z hz] at T5 m5
      exact ⟨_, _, rfl, T5, m4.trans ((Mv.same st).trans m5)⟩
    · rintro σ H4 ⟨v6, v7, rfl, T4, m4⟩
      obtain ⟨dx, ob⟩ := T4.obj
      refine ⟨_, rfl, _, _, _, rfl, ob, playF_no (by decide +kernel), _, rfl, ?_⟩
      refine lift_two T4 hn fun H5 M' hk' T5 m5 => ?_
      have e := hk'.uniq hkept
      subst e
      exact q H5 _ hkept T5 (m03.trans (m4.trans m5))
def spLDone (K : PySem.W.Frag) : Sp := sp5 fun a m b c x H Q _ => ∃ NS p dp ap M U dm am l1 l2 i, a = .ref p ∧ m = .ref dm ∧ b = .ref l1 ∧ c = .ref l2 ∧ x = .int i ∧ Two K U NS H p dp ap M dm am M ∧ U.length = 6 ∧ U.Nodup ∧ NS.length = 9 ∧ (∀ n ∈ NS, 1 ≤ n ∧ n ≤ 999999) ∧
  H l1 = some (.lst (U.map V.str)) ∧ ¬ footT p dp ap M dm am M l1 ∧ H l2 = some (.lst (NS.map V.int)) ∧ 0 ≤ i ∧ ∀ H' ap' am' M', Two K U NS H' p dp ap' M' dm am' M' → Mv H (footT p dp ap M dm am M) H' (footT p dp ap' M' dm am' M') → Q .non H'
theorem sc__law_done : FnScope ["_law_play", "_law_model", "_law_lamps_here", "_law_numbers_here", "_law_mix", "_law_number", "_law_lamp", "_law_level_here", "_law_way"] ["_law_play", "_law_model", "_law_lamps_here", "_law_numbers_here", "_law_mix"] (defScope s__law_done) := ⟨rfl, rfl, rfl, by decide +kernel, rfl, by decide +kernel, by decide +kernel⟩
theorem d__law_done (T : Txt K mg) : Def P w K mg base 8 "_law_done" ["_law_play", "_law_model", "_law_lamps_here", "_law_numbers_here", "_law_mix"] (spLDone K) := by
  have d_Play_tell := d_Play_tell (P := P) (w := w) (base := base) T
  have d__law_put := d__law_put (P := P) (w := w) (base := base) T
  have d__law_only := d__law_only (P := P) (w := w) (base := base) T
  have d_Play_untell := d_Play_untell (P := P) (w := w) (base := base) T
  have d_Play_cut := d_Play_cut (P := P) (w := w) (base := base) T
  have d__law_lift := d__law_lift (P := P) (w := w) (base := base) T
  refine mkDef T.d__law_done T.g__law_done sc__law_done (fun _ _ _ _ _ _ us hl => match us, hl with | [_, _, _, _, _], _ => rfl) len5 (BodyN.up fun cdv A outer s H vs Q E hr h => ?_)
  obtain ⟨_, _, _, _, _, rfl, NS, p, dp, ap, M, U, dm, am, l1, l2, x, rfl, rfl, rfl, rfl, rfl, hT, hU, nd, hNS, hb, h1, nl1, h2, hx, q⟩ := h
  have hu := hu_of hr
  refine ⟨_, (pss_cons (ps_set (i := 5) sc__law_done.nd rfl (Or.inl rfl) (pe_ix ix_list (pv 3) (pe_op op_mod (pe_op op_fdiv (pv 4) pe_int) pe_int) (fun _ _ => rfl)))
    (pss_cons (ps_set (i := 6) sc__law_done.nd rfl (Or.inl rfl) (pe_ix ix_list (pv 2) (pe_op op_mod (pe_op op_fdiv (pv 4) pe_int) pe_int) (fun _ _ => rfl)))
    (pss_cons (ps_set (i := 7) sc__law_done.nd rfl (Or.inl rfl) (pe_ix ix_list (pe_lst (pa_cons pe_int (pa_cons pe_int (pa_cons (pe_op op_mod (pe_op op_fdiv (pv 4) pe_int) pe_int) (pa_cons (pe_op op_mod (pe_op op_fdiv (pv 4) pe_int) pe_int) pa_nil))))) (pe_op op_mod (pe_op op_fdiv (pv 4) pe_int) pe_int) (fun _ _ => rfl)))
    (pss_cons (ps_set (i := 8) sc__law_done.nd rfl (Or.inl rfl) (pe_op op_mod (pe_op op_fdiv (pv 4) pe_int) pe_int))
    (pss_cons (ps_if (pt_cmp (pc_dnotin (by exact hu) (pv 5) (pv 1)))
    (pss_one (ps_ret (pe_fn d__law_put (hr.mono (by decide)) (by rfl) passL (pa_cons (pv 0) (pa_cons (pv 1) (pa_cons (pv 5) (pa_cons (pe_op op_fdiv (pv 4) pe_int) pa_nil)))))))
    pss_nil)
    (pss_cons (ps_if (pt_cmpR op_lt (pv 8) pe_int (nomark _))
    (pss_cons (ps_dput hu (pe_ix ix_list (pe_dget (by exact hu) (pv 1) (pv 5) (fun _ _ => rfl)) pe_int (fun _ _ => rfl)) (pv 6) (pv 7) rfl)
    (pss_one (ps_ret (pe_mt T.c_Play d_Play_tell (hr.mono (by decide)) passL (pv 0) (pa_cons (pv 5) (pa_cons (pv 6) (pa_cons (pv 7) pa_nil)))))))
    pss_nil)
    (pss_cons (ps_if (pt_cmpR op_lt (pv 8) pe_int (nomark _))
    (pss_one (ps_ret (pe_fn d__law_only (hr.mono (by decide)) (by rfl) passL (pa_cons (pv 0) (pa_cons (pv 1) (pa_cons (pv 5) (pa_cons (pv 6) (pa_cons (pv 7) pa_nil))))))))
    pss_nil)
    (pss_cons (ps_if (PW.pt (pw_and (pt_cmpR op_eq (pv 8) pe_int (nomark _)) (pw_and1 (pt_cmp (pc_din (by exact hu) (pv 6) (pe_ix ix_list (pe_dget (by exact hu) (pv 1) (pv 5) (fun _ _ => rfl)) pe_int (fun _ _ => rfl)))))))
    (pss_cons (ps_expr (pe_dpop1 (pe_ix ix_list (pe_dget (by exact hu) (pv 1) (pv 5) (fun _ _ => rfl)) pe_int (fun _ _ => rfl)) (pv 6) ⟨rfl, rfl, rfl, rfl⟩))
    (pss_one (ps_ret (pe_mt T.c_Play d_Play_untell (hr.mono (by decide)) passL (pv 0) (pa_cons (pv 5) (pa_cons (pv 6) pa_nil))))))
    pss_nil)
    (pss_cons (ps_if (PW.pt (pw_and (pt_cmpR op_eq (pv 8) pe_int (nomark _)) (pw_and1 (pt_cmpR op_eq (pe_op op_mod (pe_op op_fdiv (pv 4) pe_int) pe_int) pe_int (nomark _)))))
    (pss_cons (ps_expr (pe_dpop1 (pv 1) (pv 5) ⟨rfl, rfl, rfl, rfl⟩))
    (pss_one (ps_ret (pe_mt T.c_Play d_Play_cut (hr.mono (by decide)) passL (pv 0) (pa_cons (pv 5) pa_nil)))))
    pss_nil)
    (pss_cons (ps_if (pt_cmpR op_eq (pv 8) pe_int (nomark _))
    (pss_one (ps_ret (pe_fn d__law_lift (hr.mono (by decide)) (by rfl) passL (pa_cons (pv 0) (pa_cons (pv 1) (pa_cons (pv 5) (pa_cons (pv 2) pa_nil)))))))
    pss_nil)
    (pss_cons (ps_dput hu (pe_ix ix_list (pe_dget (by exact hu) (pv 1) (pv 5) (fun _ _ => rfl)) pe_int (fun _ _ => rfl)) (pv 6) (pv 7) rfl)
    (pss_one (ps_ret (pe_mt T.c_Play d_Play_tell (hr.mono (by decide)) passL (pv 0) (pa_cons (pv 5) (pa_cons (pv 6) (pa_cons (pv 7) pa_nil))))))))))))))))), ?_⟩
  obtain ⟨n, hn, an⟩ := draw_at (f := V.int) hNS (i := x / 3 % 9) (by omega) (by omega)
  obtain ⟨z, hz, az⟩ := draw_at (f := V.str) hU (i := x / 29 % 6) (by omega) (by omega)
  obtain ⟨v, hv, av⟩ := draw_at (f := V.int) (xs := [0, 100, x / 31 % 101, x / 31 % 4]) (m := 4) rfl (i := x / 37 % 4) (by omega) (by omega)
  have hv : 0 ≤ v ∧ v ≤ 100 := by
    simp only [List.mem_cons, List.not_mem_nil, or_false] at hv; omega
  refine ⟨_, rfl, _, rfl, _, _, rfl, rfl, ⟨by decide, by decide⟩, _, _, rfl, rfl, by simp, _, _, _, _, rfl, rfl, .inl (.inl h2), an, ?_⟩
  refine ⟨_, rfl, _, rfl, _, _, rfl, rfl, ⟨by decide, by decide⟩, _, _, rfl, rfl, by simp, _, _, _, _, rfl, rfl, .inl (.inl h1), az, ?_⟩
  refine ⟨_, rfl, _, _, rfl, rfl, ⟨by decide, by decide⟩, _, _, rfl, rfl, by simp, _, rfl, _, _, rfl, rfl, ⟨by decide, by decide⟩, _, _, rfl, rfl, by simp, by simp [sizeLine_eq], fun l3 n3 => ⟨_, rfl, _, _, rfl, rfl, ⟨by decide, by decide⟩, _, _, rfl, rfl, by simp, _, _, _, _, rfl, rfl, .inl (.inl upd_same), av, ?_⟩⟩
  refine ⟨_, rfl, _, _, rfl, rfl, ⟨by decide, by decide⟩, _, _, rfl, rfl, by simp, ?_⟩
  have s1 := same_upd (o := HO.lst [.int 0, .int 100, .int (x / 31 % 101), .int (x / 31 % 4)]) n3
  have T1 := hT.same s1
  have h1 := s1 _ _ h1
  replace q : ∀ H' ap' am' M', Two K U NS H' p dp ap' M' dm am' M' → Mv (upd H l3 (.lst [.int 0, .int 100, .int (x / 31 % 101), .int (x / 31 % 4)])) (footT p dp ap M dm am M) H' (footT p dp ap' M' dm am' M') → Q .non H' := fun H' ap' am' M' T m => q H' ap' am' M' T ((Mv.same s1).trans m)
  have h3 : (upd H l3 (.lst [.int 0, .int 100, .int (x / 31 % 101), .int (x / 31 % 4)])) l3 = some (.lst [.int 0, .int 100, .int (x / 31 % 101), .int (x / 31 % 4)]) := upd_same
  generalize upd H l3 (.lst [.int 0, .int 100, .int (x / 31 % 101), .int (x / 31 % 4)]) = H1 at T1 h1 q h3
  clear hT s1
  obtain ⟨kvs, hd, tk⟩ := T1.tab.top
  have hd : H1 dm = some (.dK kvs) := hd
  refine ⟨_, rfl, _, rfl, dm, _, rfl, tk.get (.inl hd) n, _, rfl, ?_⟩
  cases hg : get M n with
  | none =>
    refine iteT ⟨_, rfl, _, rfl, _, rfl, _, rfl, _, _, rfl, rfl, ⟨by decide, by decide⟩, _, _, _, _, rfl, NS, p, dp, ap, M, U, dm, am, n, x / 5, rfl, rfl, rfl, rfl, T1, hg, hn, by omega, hb n hn, by omega, fun H' ap' am' M' T m _ => q H' ap' am' M' T m⟩
  | some c =>
    refine iteF ?_
    obtain ⟨kvs', kw, d1, d2, d3, d4, d5, d6, d7⟩ := T1.at hg
    obtain ⟨T2, m2⟩ := T1.set hg d5 hz hv
    obtain ⟨dx2, o2⟩ := T2.obj
    have tell : ∀ E, spTell K [.ref p, .int n, .str z, .int v] (upd H1 (am n).2 (.dK (putK kw (Sum.inr z) (.int v)))) Q E := fun E => tell_two T2 hg hz hv fun H' T3 m3 => q H' _ _ _ T3 (m2.trans m3)
    refine ⟨_, rfl, _, _, rfl, rfl, _, rfl, ite2 (fun c1 => ?_) (fun c1 => ?_)⟩
    · refine ⟨_, rfl, _, rfl, _, rfl, dm, _, rfl, d2, _, _, _, _, rfl, rfl, .inl (.inl d3), rfl, _, rfl, _, _, rfl, DPut.k (k := Sum.inr z) d4 d6, ?_⟩
      exact ⟨_, rfl, _, _, _, rfl, o2, playF_no (by decide +kernel), _, rfl, _, rfl, _, rfl, tell _⟩
    refine ⟨_, rfl, _, _, rfl, rfl, _, rfl, ite2 (fun c2 => ?_) (fun c2 => ?_)⟩
    · exact ⟨_, rfl, _, rfl, _, rfl, _, rfl, _, rfl, _, _, _, _, _, rfl, NS, p, dp, ap, M, U, dm, am, n, z, v, c, rfl, rfl, rfl, rfl, rfl, T1, hg, hz, hv, fun H' M' _ T m => q H' _ _ _ T m⟩
    refine ⟨_, rfl, rfl, _, rfl, ite_share ?_ fun c3 hR => ?_⟩
    · refine ⟨_, rfl, rfl, _, rfl, ite_share ?_ fun c4 hR => ?_⟩
      · refine ⟨_, rfl, rfl, _, rfl, ite2 (fun c5 => ?_) (fun c5 => ?_)⟩
        · exact ⟨_, rfl, _, rfl, _, rfl, _, rfl, _, _, _, _, rfl, NS, p, dp, ap, M, U, dm, am, n, l1, c, rfl, rfl, rfl, rfl, T1, hg, nd, h1, nl1, fun H' M' _ T m => q H' _ _ _ T m⟩
        · refine ⟨_, rfl, _, rfl, _, rfl, dm, _, rfl, d2, _, _, _, _, rfl, rfl, .inl (.inl d3), rfl, _, rfl, _, _, rfl, DPut.k (k := Sum.inr z) d4 d6, ?_⟩
          exact ⟨_, rfl, _, _, _, rfl, o2, playF_no (by decide +kernel), _, rfl, _, rfl, _, rfl, tell _⟩
      · refine ⟨_, rfl, _, _, rfl, rfl, ⟨by decide, by decide⟩, _, _, rfl, rfl, by simp, rfl, _, rfl, ite2 (fun _ => ?_) (fun _ => hR)⟩
        refine ⟨_, rfl, dm, rfl, .inl ⟨_, .inl d1⟩, _, rfl, kvs', Sum.inl n, .ref (am n).1, d1, rfl, d7, ?_⟩
        obtain ⟨T3, m3⟩ := T1.drop d1 (n := n)
        obtain ⟨dx3, o3⟩ := T3.obj
        exact ⟨_, rfl, _, _, _, rfl, o3, playF_no (by decide +kernel), _, rfl, cut_two T3 hg fun H' T4 m4 => q H' _ _ _ T4 (m3.trans m4)⟩
    · refine ⟨_, rfl, _, rfl, _, rfl, dm, _, rfl, d2, _, _, _, _, rfl, rfl, .inl (.inl d3), rfl, _, _, rfl, d5.get (.inl d4) z, _, rfl, ?_⟩
      cases hz' : get c.words z with
      | none => exact iteF hR
      | some v0 =>
        refine iteT ⟨_, rfl, _, rfl, dm, _, rfl, d2, _, _, _, _, rfl, rfl, .inl (.inl d3), rfl, _, rfl, .inl ⟨_, .inl d4⟩, _, rfl, kw, Sum.inr z, .int v0, d4, rfl, by rw [d5.vl, hz']; rfl, ?_⟩
        have g2 : Good U (setW n (Cue.del z) M) := T1.good.setW fun ws hs hw => wok_del hs hw
        obtain ⟨T3, m3⟩ := T1.word hg (d5.drop z) g2
        obtain ⟨dx3, o3⟩ := T3.obj
        exact ⟨_, rfl, _, _, _, rfl, o3, playF_no (by decide +kernel), _, rfl, _, rfl, untell_two T3 hg hz' fun H' T4 m4 => q H' _ _ _ T4 (m3.trans m4)⟩
end

/-! ## Texts of plays -/
abbrev strI (i : Int) : Str := Str.ofString (toString i)
theorem strI_len {i : Int} (h0 : 0 ≤ i) (h1 : i < 10000000) : (strI i).length ≤ 7 := by
  obtain ⟨n, rfl⟩ := Int.eq_ofNat_of_zero_le h0
  have e := TL.tl_num n
  have l := TL.numL_len (n := n) (k := 7) (by decide) (by omega)
  rw [← e] at l
  show (strI ((n : Nat) : Int)).cps.size ≤ 7
  rw [← Array.length_toList]
  exact l
theorem log_ok {i : Int} (h0 : 0 ≤ i) (h1 : i < 10000000) : i.natAbs.log2 < 1920 := by
  by_cases z : i.natAbs = 0
  · rw [z]; decide
  · exact Nat.lt_of_lt_of_le ((Nat.log2_lt z).mpr (show i.natAbs < 2 ^ 30 by omega)) (by decide)
def rowL (n : Int) (c : CueC) : List Str := [("cue" : Str), strI n, strI c.up, strI c.down] ++ (if c.fresh then [("fresh" : Str)] else [])
def rowC (n : Int) (c : CueC) : Str := Txt.join " " (rowL n c)
def rowW (w : Str × Int) : Str := w.1 ++ " " ++ strI w.2
def rowsOf (e : Int × CueC) : List Str := rowC e.1 e.2 :: e.2.words.map rowW
def rows (M : Book) : List Str := M.flatMap rowsOf
def text (M : Book) : Str := Txt.join "" ((rows M).map fun r : Str => r ++ ("\n" : Str))
theorem rows_snoc {M : Book} {i : Nat} {e : Int × CueC} (h : M[i]? = some e) : rows (M.take (i + 1)) = rows (M.take i) ++ rowsOf e := by
  unfold rows
  rw [take_snoc h, List.flatMap_append]; simp
/-- the bounds of a row -/
theorem rowL_sum {n : Int} {c : CueC} (hn : 0 ≤ n ∧ n < 10000000) (hu : 0 ≤ c.up ∧ c.up < 10000000) (hd : 0 ≤ c.down ∧ c.down < 10000000) : ((rowL n c).map (·.length)).sum + (rowL n c).length * 1 ≤ 60 := by
  have a := strI_len hn.1 hn.2
  have b := strI_len hu.1 hu.2
  have d := strI_len hd.1 hd.2
  have e1 : (Str.ofString "cue").length = 3 := by decide +kernel
  have e2 : (Str.ofString "fresh").length = 5 := by decide +kernel
  unfold rowL
  cases c.fresh with
  | true => simp only [if_pos rfl, if_true, List.map_append, List.map_cons, List.map_nil, List.sum_append, List.sum_cons, List.sum_nil, List.length_append, List.length_cons, List.length_nil, e1, e2]; omega
  | false => simp only [if_neg Bool.false_ne_true, List.append_nil, List.map_cons, List.map_nil, List.sum_cons, List.sum_nil, List.length_cons, List.length_nil, e1]; omega
theorem rowC_len {n : Int} {c : CueC} (hn : 0 ≤ n ∧ n < 10000000) (hu : 0 ≤ c.up ∧ c.up < 10000000) (hd : 0 ≤ c.down ∧ c.down < 10000000) : (rowC n c).length ≤ 60 := by
  have := rowL_sum hn hu hd
  unfold rowC
  rw [len_join]
  have e1 : (Str.ofString " ").length = 1 := by decide +kernel
  rw [e1]; omega
theorem rowW_len {w : Str × Int} (hl : lampS w.1 = true) (hv : 0 ≤ w.2 ∧ w.2 ≤ 100) : (rowW w).length ≤ 60 := by
  have a := lampS_len hl
  have b := strI_len (i := w.2) hv.1 (by omega)
  have e1 : (Str.ofString " ").length = 1 := by decide +kernel
  unfold rowW
  rw [Str.length_append, Str.length_append, e1]; omega
theorem rows_len {U : List Str} {M : Book} (g : Good U M) (u : Lamps U) : ∀ r ∈ rows M, r.length ≤ 60 := by
  intro r hr
  obtain ⟨e, he, hr⟩ := List.mem_flatMap.mp hr
  have f := g.fad e he
  have n := g.num e he
  rcases List.mem_cons.mp hr with rfl | hr
  · exact rowC_len (by omega) (by omega) (by omega)
  · obtain ⟨w, hw, rfl⟩ := List.mem_map.mp hr
    exact rowW_len (u.ok _ (g.wrd e he w hw).1) (g.wrd e he w hw).2
theorem rows_many {U : List Str} {M : Book} (g : Good U M) (u : Lamps U) : (rows M).length ≤ 61000 := by
  have key : ∀ R : Book, (∀ e ∈ R, e.2.words.length ≤ 60) → (rows R).length ≤ 61 * R.length := by
    intro R
    induction R with
    | nil => exact fun _ => Nat.le_refl _
    | cons e r ih =>
      intro h
      have h1 := h e List.mem_cons_self
      have h2 := ih fun x hx => h x (List.mem_cons_of_mem _ hx)
      have : rows (e :: r) = rowsOf e ++ rows r := rfl
      rw [this, List.length_append, rowsOf, List.length_cons, List.length_map, List.length_cons]
      omega
  have := key M fun e he => g.few u he
  have := g.len
  omega
theorem sum_le {b : Nat} : ∀ {l : List Nat}, (∀ x ∈ l, x ≤ b) → l.sum ≤ l.length * b
  | [], _ => Nat.zero_le _
  | x :: r, h => by
    have h1 := h x List.mem_cons_self
    have h2 := sum_le fun y hy => h y (List.mem_cons_of_mem _ hy)
    rw [List.sum_cons, List.length_cons, Nat.succ_mul]; omega
theorem text_sum {U : List Str} {M : Book} (g : Good U M) (u : Lamps U) : (((rows M).map fun r : Str => r ++ ("\n" : Str)).map (·.length)).sum + ((rows M).map fun r : Str => r ++ ("\n" : Str)).length * (Str.ofString "").length ≤ 16777216 := by
  have e0 : (Str.ofString "").length = 0 := by decide +kernel
  have e1 : (Str.ofString "\n").length = 1 := by decide +kernel
  rw [e0, Nat.mul_zero, List.map_map]
  have h := sum_le (b := 61) (l := (rows M).map ((·.length) ∘ fun r : Str => r ++ ("\n" : Str))) fun x hx => by
    obtain ⟨r, hr, rfl⟩ := List.mem_map.mp hx
    have := rows_len g u r hr
    show (r ++ Str.ofString "\n").length ≤ 61
    rw [Str.length_append, e1]; omega
  rw [List.length_map] at h
  have := rows_many g u
  omega
/-- isinstance(x, str) of any text -/
theorem call_isStrS {X : Cx} : CallR X (.builtin "isinstance") (fun vs H Q => ∃ z : Str, vs = [.str z, .ty "str"] ∧ Q (.bl true) H) := fun pins s σ H xs us Q I r q => by
  obtain ⟨z, rfl, q⟩ := q
  exact call_isi pins s σ H _ us Q I r ⟨_, _, _, _, _, rfl, .ty _, .base (.str z), kit_ty (by decide +kernel), q⟩

/-! ## Texts read, in plain terms -/
def figS (z : Str) : Bool := z.cps.toList.all fun c => decide (48 ≤ c) && decide (c ≤ 57)
theorem figS_iff {z : Str} : figS z = true ↔ NumText.AllDigits z.cps.toList := by
  unfold figS NumText.AllDigits
  rw [List.all_eq_true]
  simp only [Bool.and_eq_true, decide_eq_true_eq]
/-- a number written so, or -1 -/
def numIn (z : Str) : Int :=
  if z.length = 0 ∨ 6 < z.length ∨ figS z = false then -1 else if z.cps.toList.head? = some 48 ∧ z ≠ "0" then -1 else ((NumText.digitsVal z.cps.toList : Nat) : Int)
theorem starts0 {z : Str} (h : 1 ≤ z.length) : Txt.startswith z "0" = decide (z.cps.toList.head? = some 48) := by
  have hl : z.cps.toList.length = z.length := Array.length_toList
  have e : (Str.ofString "0").cps.toList = [48] := by decide +kernel
  have e1 : (Str.ofString "0").length = 1 := by decide +kernel
  unfold Txt.startswith
  rw [PySem.StrLaws.subAt_eq, e, e1, List.drop_zero]
  cases hz : z.cps.toList with
  | nil => rw [hz] at hl; simp at hl; omega
  | cons c r =>
    rw [decide_eq_true (show 0 + 1 ≤ z.length by omega)]
    by_cases h48 : c = 48 <;> simp [h48]
theorem numIn_pos {z : Str} (h1 : 1 ≤ z.length) (h2 : z.length ≤ 6) (h3 : figS z = true) : numIn z = if z.cps.toList.head? = some 48 ∧ z ≠ "0" then -1 else ((NumText.digitsVal z.cps.toList : Nat) : Int) := by
  unfold numIn
  rw [if_neg]
  rw [h3]
  rintro (h | h | h)
  · omega
  · omega
  · cases h
theorem fold_bound : ∀ (cs : List Nat) (a : Nat), NumText.AllDigits cs → cs.foldl (fun acc c => acc * 10 + (c - 48)) a + 1 ≤ (a + 1) * 10 ^ cs.length
  | [], a, _ => by simp
  | c :: r, a, h => by
    have hc := h c List.mem_cons_self
    have ih := fold_bound r (a * 10 + (c - 48)) fun x hx => h x (List.mem_cons_of_mem _ hx)
    rw [List.foldl_cons, List.length_cons, Nat.pow_succ]
    refine Nat.le_trans ih ?_
    rw [show (a + 1) * (10 ^ r.length * 10) = (a + 1) * 10 * 10 ^ r.length by rw [Nat.mul_comm (10 ^ r.length) 10, ← Nat.mul_assoc]]
    exact Nat.mul_le_mul_right _ (by omega)
theorem numIn_rng (z : Str) : -1 ≤ numIn z ∧ numIn z ≤ 999999 := by
  unfold numIn
  split
  · omega
  · rename_i h
    split
    · omega
    · have h1 : z.length ≤ 6 := by omega
      have h2 : figS z = true := by
        cases e : figS z with
        | true => rfl
        | false => exact absurd (.inr (.inr e)) h
      have := fold_bound z.cps.toList 0 (figS_iff.mp h2)
      have hl : z.cps.toList.length = z.length := Array.length_toList
      have hp : 10 ^ z.cps.toList.length ≤ 10 ^ 6 := Nat.pow_le_pow_right (by decide) (by omega)
      have : NumText.digitsVal z.cps.toList + 1 ≤ 10 ^ 6 := by
        refine Nat.le_trans ?_ hp
        unfold NumText.digitsVal
        omega
      omega
theorem numL_head : ∀ n : Nat, (TL.numL n).head? = some 48 → n = 0 := by
  intro n
  induction n using Nat.strongRecOn with
  | _ n ih =>
    intro h
    by_cases c : n < 10
    · rw [TL.numL_lt c] at h
      have : 48 + n = 48 := by simpa using h
      omega
    · rw [TL.numL_step (by omega), List.head?_append] at h
      have hn := TL.numL_ne (n / 10)
      cases e : TL.numL (n / 10) with
      | nil => exact absurd e hn
      | cons a r =>
        rw [e] at h
        have := ih (n / 10) (by omega) (by rw [e]; exact h)
        omega
theorem strI_tl (n : Nat) : (strI (n : Int)).cps.toList = TL.numL n := TL.tl_num n
theorem numIn_str {n : Int} (h0 : 0 ≤ n) (h1 : n ≤ 999999) : numIn (strI n) = n := by
  obtain ⟨k, rfl⟩ := Int.eq_ofNat_of_zero_le h0
  have e := strI_tl k
  have hl : (strI (k : Int)).length = (TL.numL k).length := by rw [← e]; exact Array.length_toList.symm
  have l := TL.numL_len (n := k) (k := 6) (by decide) (by omega)
  have hne := TL.numL_ne k
  have hpos : 0 < (TL.numL k).length := List.length_pos_iff.mpr hne
  have hf : figS (strI (k : Int)) = true := figS_iff.mpr (by rw [e]; exact TL.numL_digits k)
  unfold numIn
  rw [if_neg (by rw [hl, hf]; rintro (h | h | h) <;> first | omega | cases h), if_neg, e, TL.numL_val]
  rintro ⟨h, hz⟩
  rw [e] at h
  have hk := numL_head k h
  subst hk
  exact hz (by decide +kernel)
/-! ### rows -/
def lastN (M : Book) : Int := (M.getLast?.map (·.1)).getD 0
def at_ (ws : List Str) (i : Nat) : Str := ws.getD i ""
def takeCue (M : Book) (ws : List Str) : Option Book :=
  if (ws.length = 5 → at_ ws 4 = "fresh") ∧ lastN M < numIn (at_ ws 1) ∧ (0 ≤ numIn (at_ ws 2) ∧ numIn (at_ ws 2) ≤ 6000) ∧ (0 ≤ numIn (at_ ws 3) ∧ numIn (at_ ws 3) ≤ 6000) ∧ M.length < 100
  then some (M ++ [(numIn (at_ ws 1), ⟨numIn (at_ ws 2), numIn (at_ ws 3), decide (ws.length = 5), []⟩)]) else none
def takeWord (M : Book) (ws : List Str) : Option Book :=
  match M.getLast? with
  | none => none
  | some e => if lampS (at_ ws 0) = true ∧ (0 ≤ numIn (at_ ws 1) ∧ numIn (at_ ws 1) ≤ 100) ∧ (∀ w, e.2.words.getLast? = some w → ltS w.1 (at_ ws 0))
    then some (M.dropLast ++ [(e.1, { e.2 with words := e.2.words ++ [(at_ ws 0, numIn (at_ ws 1))] })]) else none
def isCueRow (ws : List Str) : Bool := decide (at_ ws 0 = "cue") && (decide (ws.length = 4) || decide (ws.length = 5))
def wordsIn (row : Str) : List Str := Txt.split row " "
def takeRow (M : Book) (row : Str) : Option Book :=
  if isCueRow (wordsIn row) = true then takeCue M (wordsIn row) else if (wordsIn row).length = 2 then takeWord M (wordsIn row) else none
def readRows : Book → List Str → Option Book
  | M, [] => some M
  | M, r :: t => match takeRow M r with
    | some M' => readRows M' t
    | none => none
theorem readRows_append : ∀ (a : List Str) (b : List Str) (M M' : Book), readRows M a = some M' → readRows M (a ++ b) = readRows M' b
  | [], b, M, M', h => by cases h; rfl
  | r :: t, b, M, M', h => by
    have h : (match takeRow M r with | some M1 => readRows M1 t | none => none) = some M' := h
    show (match takeRow M r with | some M1 => readRows M1 (t ++ b) | none => none) = _
    cases e : takeRow M r with
    | none => rw [e] at h; cases h
    | some M1 =>
      rw [e] at h
      exact readRows_append t b M1 M' h
/-! ### what is written is read -/
theorem cue_free (s : Nat) (h : s = 32 ∨ s = 10) : s ∉ (Str.ofString "cue").cps.toList ∧ s ∉ (Str.ofString "fresh").cps.toList := by
  have e1 : (Str.ofString "cue").cps.toList = [99, 117, 101] := by decide +kernel
  have e2 : (Str.ofString "fresh").cps.toList = [102, 114, 101, 115, 104] := by decide +kernel
  rw [e1, e2]
  rcases h with rfl | rfl <;> decide
theorem strI_free {n : Int} (h0 : 0 ≤ n) {s : Nat} (h : s = 32 ∨ s = 10) : s ∉ (strI n).cps.toList := by
  obtain ⟨k, rfl⟩ := Int.eq_ofNat_of_zero_le h0
  rw [strI_tl]
  exact TL.numL_free (by omega)
theorem lamp_free {l : Str} (hl : lampS l = true) {s : Nat} (h : s = 32 ∨ s = 10) : s ∉ l.cps.toList := fun hm => by
  have h2 : l.cps.toList.all letter = true := (Bool.and_eq_true_iff.mp hl).2
  have h3 := List.all_eq_true.mp h2 s hm
  unfold letter at h3
  simp only [Bool.and_eq_true, decide_eq_true_eq] at h3
  omega
theorem blank_tl : TL.tl (Str.ofString " ") = [32] := by decide +kernel
theorem line_tl : TL.tl (Str.ofString "\n") = [10] := by decide +kernel
theorem rowL_free {n : Int} {c : CueC} (hn : 0 ≤ n) (hu : 0 ≤ c.up) (hd : 0 ≤ c.down) {s : Nat} (h : s = 32 ∨ s = 10) : ∀ p ∈ rowL n c, s ∉ p.cps.toList := by
  intro p hp
  unfold rowL at hp
  rcases List.mem_append.mp hp with hp | hp
  · simp only [List.mem_cons, List.not_mem_nil, or_false] at hp
    rcases hp with rfl | rfl | rfl | rfl
    · exact (cue_free s h).1
    · exact strI_free hn h
    · exact strI_free hu h
    · exact strI_free hd h
  · split at hp
    · rw [List.mem_singleton.mp hp]; exact (cue_free s h).2
    · cases hp
theorem rowL_ne (n : Int) (c : CueC) : rowL n c ≠ [] := by unfold rowL; simp
theorem words_rowC {n : Int} {c : CueC} (hn : 0 ≤ n) (hu : 0 ≤ c.up) (hd : 0 ≤ c.down) : wordsIn (rowC n c) = rowL n c :=
  TL.split_join (S := []) blank_tl (by decide +kernel) (rowL_ne n c) (rowL_free hn hu hd (.inl rfl))
theorem rowW_join (w : Str × Int) : rowW w = Txt.join " " [w.1, strI w.2] := by
  rw [TL.join_eq]; rfl
theorem words_rowW {w : Str × Int} (hl : lampS w.1 = true) (hv : 0 ≤ w.2) : wordsIn (rowW w) = [w.1, strI w.2] := by
  unfold wordsIn
  rw [rowW_join]
  refine TL.split_join (S := []) blank_tl (by decide +kernel) (by simp) fun p hp => ?_
  simp only [List.mem_cons, List.not_mem_nil, or_false] at hp
  rcases hp with rfl | rfl
  · exact lamp_free hl (.inl rfl)
  · exact strI_free hv (.inl rfl)
/-- no line ends in a joined row -/
theorem join_free {y : Str} {s : Nat} (hy : s ∉ TL.tl y) : ∀ {parts : List Str}, (∀ p ∈ parts, s ∉ TL.tl p) → s ∉ TL.tl (Txt.join y parts) := by
  intro parts hp
  rw [TL.join_eq, TL.tl_join]
  have key : ∀ qs : List (List Nat), (∀ q ∈ qs, s ∉ q) → s ∉ TL.joinL (TL.tl y) qs := by
    intro qs
    induction qs with
    | nil => intro _; simp [TL.joinL]
    | cons q r ih =>
      intro h
      cases r with
      | nil => exact h q List.mem_cons_self
      | cons q2 r2 =>
        show s ∉ q ++ (TL.tl y ++ TL.joinL (TL.tl y) (q2 :: r2))
        intro hm
        rcases List.mem_append.mp hm with hm | hm
        · exact h q List.mem_cons_self hm
        · rcases List.mem_append.mp hm with hm | hm
          · exact hy hm
          · exact ih (fun x hx => h x (List.mem_cons_of_mem _ hx)) hm
  refine key _ fun q hq => ?_
  obtain ⟨p, hp1, rfl⟩ := List.mem_map.mp hq
  exact hp p hp1
theorem rows_free {U : List Str} {M : Book} (g : Good U M) (u : Lamps U) : ∀ r ∈ rows M, 10 ∉ TL.tl r := by
  intro r hr
  obtain ⟨e, he, hr⟩ := List.mem_flatMap.mp hr
  have f := g.fad e he
  have n := g.num e he
  have hb : 10 ∉ TL.tl (Str.ofString " ") := by rw [blank_tl]; decide
  rcases List.mem_cons.mp hr with rfl | hr
  · exact join_free hb (rowL_free (by omega) (by omega) (by omega) (.inr rfl))
  · obtain ⟨w, hw, rfl⟩ := List.mem_map.mp hr
    obtain ⟨b1, b2⟩ := g.wrd e he w hw
    rw [rowW_join]
    refine join_free hb fun p hp => ?_
    simp only [List.mem_cons, List.not_mem_nil, or_false] at hp
    rcases hp with rfl | rfl
    · exact lamp_free (u.ok _ b1) (.inr rfl)
    · exact strI_free b2.1 (.inr rfl)
theorem text_lines (rs : List Str) : Txt.join "" (rs.map fun r : Str => r ++ ("\n" : Str)) = Txt.join "\n" (rs ++ [("" : Str)]) := by
  refine TL.ext_tl ?_
  rw [TL.join_eq, TL.join_eq, TL.tl_join, TL.tl_join, line_tl]
  have e0 : TL.tl (Str.ofString "") = [] := by decide +kernel
  rw [e0]
  induction rs with
  | nil => simp [TL.joinL, e0]
  | cons r t ih =>
    have h1 : TL.joinL [] (((r :: t).map fun r : Str => r ++ ("\n" : Str)).map TL.tl) = (TL.tl r ++ [10]) ++ TL.joinL [] ((t.map fun r : Str => r ++ ("\n" : Str)).map TL.tl) := by
      have e1 : TL.tl (r ++ Str.ofString "\n") = TL.tl r ++ [10] := by rw [TL.tl_append, line_tl]
      cases t with
      | nil => simp only [List.map_cons, List.map_nil, TL.joinL, e1, List.append_nil]
      | cons q s =>
        show TL.tl (r ++ Str.ofString "\n") ++ ([] ++ TL.joinL [] (((q :: s).map fun r : Str => r ++ ("\n" : Str)).map TL.tl)) = _
        rw [List.nil_append, e1]
    rw [h1, ih]
    have h2 : ((r :: t) ++ [("" : Str)]).map TL.tl = TL.tl r :: (t ++ [("" : Str)]).map TL.tl := rfl
    rw [h2]
    cases e : (t ++ [("" : Str)]).map TL.tl with
    | nil => simp at e
    | cons q s => simp [TL.joinL]
theorem rows_text {U : List Str} {M : Book} (g : Good U M) (u : Lamps U) : Txt.split (text M) "\n" = rows M ++ [("" : Str)] := by
  unfold text
  rw [text_lines]
  refine TL.split_join (S := []) line_tl (by decide +kernel) (by simp) fun p hp => ?_
  rcases List.mem_append.mp hp with hp | hp
  · exact rows_free g u p hp
  · rw [List.mem_singleton.mp hp]; decide +kernel
theorem rising_snoc {κ α : Type} {lt : κ → κ → Prop} {A : List (κ × α)} {e : κ × α} (h : Rising lt (A ++ [e])) : Rising lt A ∧ ∀ x ∈ A, lt x.1 e.1 := by
  unfold Rising at h
  rw [List.map_append] at h
  obtain ⟨h1, _, h2⟩ := List.pairwise_append.mp h
  exact ⟨h1, fun x hx => h2 _ (List.mem_map.mpr ⟨x, hx, rfl⟩) _ (by simp)⟩
theorem lastN_lt {A : Book} {n : Int} (h0 : 1 ≤ n) (h : ∀ x ∈ A, x.1 < n) : lastN A < n := by
  unfold lastN
  cases e : A.getLast? with
  | none => show (0 : Int) < n; omega
  | some x => exact h x (List.mem_of_getLast? e)
theorem take_rowC {A : Book} {n : Int} {c : CueC} (hn : 1 ≤ n ∧ n ≤ 999999) (hu : 0 ≤ c.up ∧ c.up ≤ 6000) (hd : 0 ≤ c.down ∧ c.down ≤ 6000) (hl : A.length < 100) (hA : ∀ x ∈ A, x.1 < n) :
    takeRow A (rowC n c) = some (A ++ [(n, { c with words := [] })]) := by
  unfold takeRow
  rw [words_rowC (by omega) hu.1 hd.1]
  have e1 : at_ (rowL n c) 0 = Str.ofString "cue" := rfl
  have e2 : at_ (rowL n c) 1 = strI n := rfl
  have e3 : at_ (rowL n c) 2 = strI c.up := rfl
  have e4 : at_ (rowL n c) 3 = strI c.down := rfl
  have len : (rowL n c).length = if c.fresh then 5 else 4 := by unfold rowL; cases c.fresh <;> rfl
  have e5 : (rowL n c).length = 5 → at_ (rowL n c) 4 = Str.ofString "fresh" := by
    unfold rowL; cases c.fresh with
    | true => intro _; rfl
    | false => intro h; simp at h
  have hf : decide ((rowL n c).length = 5) = c.fresh := by rw [len]; cases c.fresh <;> rfl
  have hc : isCueRow (rowL n c) = true := by
    unfold isCueRow
    rw [e1, len, decide_eq_true rfl]
    cases c.fresh <;> rfl
  rw [if_pos hc]
  unfold takeCue
  rw [e2, e3, e4, numIn_str (by omega) hn.2, numIn_str hu.1 (by omega), numIn_str hd.1 (by omega), if_pos ⟨e5, lastN_lt hn.1 hA, hu, hd, hl⟩, hf]
theorem take_rowW {A : Book} {n : Int} {c : CueC} {w : Str × Int} (hl : lampS w.1 = true) (hv : 0 ≤ w.2 ∧ w.2 ≤ 100) (hw : ∀ x ∈ c.words, ltS x.1 w.1) :
    takeRow (A ++ [(n, c)]) (rowW w) = some (A ++ [(n, { c with words := c.words ++ [w] })]) := by
  unfold takeRow
  rw [words_rowW hl hv.1]
  have hc : isCueRow [w.1, strI w.2] = false := by simp [isCueRow]
  rw [if_neg (by rw [hc]; simp), if_pos (show [w.1, strI w.2].length = 2 from rfl)]
  unfold takeWord
  have e1 : at_ [w.1, strI w.2] 0 = w.1 := rfl
  have e2 : at_ [w.1, strI w.2] 1 = strI w.2 := rfl
  have e0 : (A ++ [(n, c)]).getLast? = some (n, c) := by simp
  rw [e0, e1, e2, numIn_str hv.1 (by omega)]
  show (if _ then _ else _) = _
  rw [if_pos ⟨hl, hv, fun x hx => hw x (List.mem_of_getLast? hx)⟩, List.dropLast_concat]
theorem read_words {U : List Str} {A : Book} {n : Int} (u : Lamps U) : ∀ (more : Ws) (c : CueC), Rising ltS (c.words ++ more) → (∀ w ∈ more, w.1 ∈ U ∧ 0 ≤ w.2 ∧ w.2 ≤ 100) →
    readRows (A ++ [(n, c)]) (more.map rowW) = some (A ++ [(n, { c with words := c.words ++ more })])
  | [], c, _, _ => by simp [readRows]
  | w :: r, c, h, hb => by
    obtain ⟨b1, b2⟩ := hb w List.mem_cons_self
    have hw : ∀ x ∈ c.words, ltS x.1 w.1 := fun x hx => by
      unfold Rising at h
      rw [List.map_append] at h
      exact (List.pairwise_append.mp h).2.2 _ (List.mem_map.mpr ⟨x, hx, rfl⟩) _ (by simp)
    rw [List.map_cons, readRows, take_rowW (u.ok _ b1) b2 hw]
    show readRows (A ++ [(n, { c with words := c.words ++ [w] })]) (r.map rowW) = _
    rw [read_words u r { c with words := c.words ++ [w] } (by show Rising ltS ((c.words ++ [w]) ++ r); rw [List.append_assoc]; exact h) fun x hx => hb x (List.mem_cons_of_mem _ hx)]
    simp
theorem read_rows {U : List Str} (u : Lamps U) : ∀ (B A : Book), Good U (A ++ B) → (A ++ B).length ≤ 100 → readRows A (rows B) = some (A ++ B)
  | [], A, _, _ => by simp [rows, readRows]
  | e :: r, A, g, hl => by
    have hm : e ∈ A ++ e :: r := List.mem_append.mpr (.inr List.mem_cons_self)
    have n := g.num e hm
    have f := g.fad e hm
    have hA : ∀ x ∈ A, x.1 < e.1 := fun x hx => by
      have s := g.srt
      unfold Rising at s
      rw [List.map_append] at s
      exact (List.pairwise_append.mp s).2.2 _ (List.mem_map.mpr ⟨x, hx, rfl⟩) _ (by simp)
    have hl1 : A.length < 100 := by rw [List.length_append, List.length_cons] at hl; omega
    have h1 : rows (e :: r) = rowC e.1 e.2 :: (e.2.words.map rowW ++ rows r) := by
      show rowsOf e ++ rows r = _
      rfl
    rw [h1, readRows, take_rowC n ⟨f.1, f.2.1⟩ ⟨f.2.2.1, f.2.2.2⟩ hl1 hA]
    show readRows (A ++ [(e.1, { e.2 with words := [] })]) (e.2.words.map rowW ++ rows r) = _
    have h2 := read_words (A := A) (n := e.1) u e.2.words { e.2 with words := [] } (by show Rising ltS ([] ++ e.2.words); rw [List.nil_append]; exact g.wsrt e hm) (g.wrd e hm)
    rw [readRows_append _ _ _ _ h2]
    have h3 : ({ up := e.2.up, down := e.2.down, fresh := e.2.fresh, words := [] ++ e.2.words } : CueC) = e.2 := by rw [List.nil_append]
    have h4 : A ++ [(e.1, ({ up := e.2.up, down := e.2.down, fresh := e.2.fresh, words := [] ++ e.2.words } : CueC))] = A ++ [e] := by rw [h3]
    rw [show (A ++ [(e.1, { up := ({ e.2 with words := [] } : CueC).up, down := ({ e.2 with words := [] } : CueC).down, fresh := ({ e.2 with words := [] } : CueC).fresh, words := ({ e.2 with words := [] } : CueC).words ++ e.2.words })]) = A ++ [e] from h4]
    have h5 := read_rows u r (A ++ [e]) (by rw [List.append_assoc]; exact g) (by rw [List.append_assoc]; exact hl)
    rw [h5, List.append_assoc]; rfl
theorem read_text {U : List Str} {M : Book} (g : Good U M) (u : Lamps U) (hl : M.length ≤ 100) : readRows [] (rows M) = some M := read_rows u M [] g hl
/-! ### parts of a text -/
theorem spl_sub {s : Nat} : ∀ (L acc : List Nat), ∀ p ∈ TL.spl [s] 0 acc L, ∀ c ∈ p, c ∈ acc ∨ c ∈ L
  | [], acc, p, hp, c, hc => by
    rw [TL.spl_nil] at hp
    rw [List.mem_singleton.mp hp] at hc
    exact .inl hc
  | x :: r, acc, p, hp, c, hc => by
    by_cases h : TL.pre [s] (x :: r) = true
    · rw [TL.spl_hit h] at hp
      rcases List.mem_cons.mp hp with rfl | hp
      · exact .inl hc
      · rcases spl_sub r [] p hp c hc with h' | h'
        · cases h'
        · exact .inr (List.mem_cons_of_mem _ h')
    · rw [TL.spl_miss (by simpa using h)] at hp
      rcases spl_sub r (acc ++ [x]) p hp c hc with h' | h'
      · rcases List.mem_append.mp h' with h' | h'
        · exact .inl h'
        · rw [List.mem_singleton.mp h']; exact .inr List.mem_cons_self
      · exact .inr (List.mem_cons_of_mem _ h')
theorem split_sub {x y p : Str} {s : Nat} (ey : TL.tl y = [s]) (hk : y.cps.all (· < 256) = true) (hp : p ∈ Txt.split x y) : ∀ c ∈ TL.tl p, c ∈ TL.tl x := by
  intro c hc
  have h := TL.split_spl x y (by rw [ey]; simp) (TL.kind_ok hk)
  have hm : TL.tl p ∈ (Txt.split x y).map TL.tl := List.mem_map.mpr ⟨p, hp, rfl⟩
  rw [h, ey] at hm
  rcases spl_sub _ _ _ hm c hc with h' | h'
  · cases h'
  · exact h'
theorem words_sub {z p : Str} (hp : p ∈ wordsIn z) : ∀ c ∈ TL.tl p, c ∈ TL.tl z := split_sub blank_tl (by decide +kernel) hp
theorem lines_sub {z p : Str} (hp : p ∈ Txt.split z "\n") : ∀ c ∈ TL.tl p, c ∈ TL.tl z := split_sub line_tl (by decide +kernel) hp
theorem okS_sub {p z : Str} (h : PyData.strOk z = true) (hs : ∀ c ∈ TL.tl p, c ∈ TL.tl z) : PyData.strOk p = true := okS_iff.mpr fun c hc => okS_iff.mp h c (hs c hc)
/-! ### the bounds of a play's text -/
theorem strI_ok {n : Int} (h0 : 0 ≤ n) : PyData.strOk (strI n) = true := okS_iff.mpr fun c hc => by
  obtain ⟨k, rfl⟩ := Int.eq_ofNat_of_zero_le h0
  rw [strI_tl] at hc
  have := TL.numL_digits k c hc
  omega
theorem rows_ok {U : List Str} {M : Book} (g : Good U M) (u : Lamps U) : ∀ r ∈ rows M, PyData.strOk r = true := by
  intro r hr
  obtain ⟨e, he, hr⟩ := List.mem_flatMap.mp hr
  have f := g.fad e he
  have n := g.num e he
  have hb : PyData.strOk (Str.ofString " ") = true := by decide +kernel
  rcases List.mem_cons.mp hr with rfl | hr
  · refine okS_join hb fun y hy => ?_
    unfold rowL at hy
    rcases List.mem_append.mp hy with hy | hy
    · simp only [List.mem_cons, List.not_mem_nil, or_false] at hy
      rcases hy with rfl | rfl | rfl | rfl
      · decide +kernel
      · exact strI_ok (by omega)
      · exact strI_ok (by omega)
      · exact strI_ok (by omega)
    · split at hy
      · rw [List.mem_singleton.mp hy]; decide +kernel
      · cases hy
  · obtain ⟨w, hw, rfl⟩ := List.mem_map.mp hr
    obtain ⟨b1, b2⟩ := g.wrd e he w hw
    rw [rowW_join]
    refine okS_join hb fun y hy => ?_
    simp only [List.mem_cons, List.not_mem_nil, or_false] at hy
    rcases hy with rfl | rfl
    · exact lampS_okS (u.ok _ b1)
    · exact strI_ok b2.1
theorem text_len {U : List Str} {M : Book} (g : Good U M) (u : Lamps U) : (text M).length ≤ 4000000 := by
  have e0 : (Str.ofString "").length = 0 := by decide +kernel
  have e1 : (Str.ofString "\n").length = 1 := by decide +kernel
  have hj : (text M).length ≤ (((rows M).map fun r : Str => r ++ ("\n" : Str)).map (·.length)).sum + ((rows M).map fun r : Str => r ++ ("\n" : Str)).length * (Str.ofString "").length := by
    unfold text
    rw [TL.join_eq]
    exact PySem.StrLaws.join_length_le _ _
  rw [e0, Nat.mul_zero, List.map_map] at hj
  have h := sum_le (b := 61) (l := (rows M).map ((·.length) ∘ fun r : Str => r ++ ("\n" : Str))) fun x hx => by
    obtain ⟨r, hr, rfl⟩ := List.mem_map.mp hx
    have := rows_len g u r hr
    show (r ++ Str.ofString "\n").length ≤ 61
    rw [Str.length_append, e1]; omega
  rw [List.length_map] at h
  have := rows_many g u
  omega
theorem rows_lamps {U : List Str} {M : Book} (g : Good U M) (u : Lamps U) : ∀ r ∈ rows M, (wordsIn r).length = 2 → lampS (at_ (wordsIn r) 0) = true → at_ (wordsIn r) 0 ∈ U := by
  intro r hr
  obtain ⟨e, he, hr⟩ := List.mem_flatMap.mp hr
  have f := g.fad e he
  have n := g.num e he
  rcases List.mem_cons.mp hr with rfl | hr
  · rw [words_rowC (by omega) (by omega) (by omega)]
    intro h
    unfold rowL at h
    split at h <;> simp at h
  · obtain ⟨w, hw, rfl⟩ := List.mem_map.mp hr
    obtain ⟨b1, b2⟩ := g.wrd e he w hw
    rw [words_rowW (u.ok _ b1) b2.1]
    intro _ _
    exact b1

/-! ## A text with one row or sign changed -/
def ln (s : Nat) : List Nat → List Nat → List (List Nat)
  | acc, [] => [acc]
  | acc, c :: r => if c = s then acc :: ln s [] r else ln s (acc ++ [c]) r
theorem spl_ln (s : Nat) : ∀ (l acc : List Nat), TL.spl [s] 0 acc l = ln s acc l
  | [], acc => TL.spl_nil _ _ _
  | c :: r, acc => by
    have hp : TL.pre [s] (c :: r) = decide (c = s) := by
      unfold TL.pre
      by_cases h : c = s <;> simp [h]
    unfold ln
    by_cases h : c = s
    · rw [TL.spl_hit (by rw [hp]; exact decide_eq_true h), if_pos h]
      show acc :: TL.spl [s] 0 [] r = _
      rw [spl_ln s r []]
    · rw [TL.spl_miss (by rw [hp]; exact decide_eq_false h), if_neg h, spl_ln s r _]
theorem ln_acc (s : Nat) : ∀ l : List Nat, ∃ y B, ∀ acc, ln s acc l = (acc ++ y) :: B
  | [] => ⟨[], [], fun acc => by simp [ln]⟩
  | c :: r => by
    obtain ⟨y, B, h⟩ := ln_acc s r
    by_cases e : c = s
    · exact ⟨[], ln s [] r, fun acc => by rw [ln, if_pos e, List.append_nil]⟩
    · exact ⟨c :: y, B, fun acc => by rw [ln, if_neg e, h]; simp⟩
theorem ln_app (s : Nat) : ∀ a acc : List Nat, ∃ A x, ∀ z, ln s acc (a ++ z) = A ++ ln s x z
  | [], acc => ⟨[], acc, fun z => rfl⟩
  | c :: r, acc => by
    by_cases e : c = s
    · obtain ⟨A, x, h⟩ := ln_app s r []
      exact ⟨acc :: A, x, fun z => by rw [List.cons_append, ln, if_pos e, h]; rfl⟩
    · obtain ⟨A, x, h⟩ := ln_app s r (acc ++ [c])
      exact ⟨A, x, fun z => by rw [List.cons_append, ln, if_neg e, h]⟩
/-- one sign more, less or exchanged: all rows but two stood there -/
theorem ln_change (s : Nat) (a m m0 b : List Nat) (hm : m.length ≤ 1) : ∃ r1 r2, ∀ r ∈ ln s [] (a ++ (m ++ b)), r ∈ ln s [] (a ++ (m0 ++ b)) ∨ r = r1 ∨ r = r2 := by
  obtain ⟨A, x, hA⟩ := ln_app s a []
  obtain ⟨A2, x2, hA2⟩ := ln_app s m0 x
  obtain ⟨y, B, hB⟩ := ln_acc s b
  have e0 : ln s [] (a ++ (m0 ++ b)) = A ++ (A2 ++ (x2 ++ y) :: B) := by rw [hA, hA2, hB]
  have inA : ∀ r ∈ A, r ∈ ln s [] (a ++ (m0 ++ b)) := fun r h => by rw [e0]; exact List.mem_append.mpr (.inl h)
  have inB : ∀ r ∈ B, r ∈ ln s [] (a ++ (m0 ++ b)) := fun r h => by rw [e0]; exact List.mem_append.mpr (.inr (List.mem_append.mpr (.inr (List.mem_cons_of_mem _ h))))
  match m, hm with
  | [], _ =>
    refine ⟨x ++ y, x ++ y, fun r h => ?_⟩
    rw [List.nil_append, hA, hB] at h
    rcases List.mem_append.mp h with h | h
    · exact .inl (inA r h)
    · rcases List.mem_cons.mp h with h | h
      · exact .inr (.inl h)
      · exact .inl (inB r h)
  | [c], _ =>
    by_cases e : c = s
    · refine ⟨x, [] ++ y, fun r h => ?_⟩
      rw [hA, List.singleton_append, ln, if_pos e, hB] at h
      rcases List.mem_append.mp h with h | h
      · exact .inl (inA r h)
      · rcases List.mem_cons.mp h with h | h
        · exact .inr (.inl h)
        · rcases List.mem_cons.mp h with h | h
          · exact .inr (.inr h)
          · exact .inl (inB r h)
    · refine ⟨x ++ [c] ++ y, x, fun r h => ?_⟩
      rw [hA, List.singleton_append, ln, if_neg e, hB] at h
      rcases List.mem_append.mp h with h | h
      · exact .inl (inA r h)
      · rcases List.mem_cons.mp h with h | h
        · exact .inr (.inl h)
        · exact .inl (inB r h)
theorem lines_ln (z : Str) : (Txt.split z "\n").map TL.tl = ln 10 [] (TL.tl z) := by
  rw [← spl_ln]
  have h := TL.split_spl z (Str.ofString "\n") (by rw [line_tl]; simp) (TL.kind_ok (by decide +kernel))
  rw [line_tl] at h
  exact h
/-- what a changed text keeps -/
structure Chd (z z' : Str) : Prop where
  len : z'.length ≤ 3 * z.length + 1000
  ok : PyData.strOk z' = true
  rows : ∃ r1 r2, ∀ r ∈ Txt.split z' "\n", r ∈ Txt.split z "\n" ∨ r = r1 ∨ r = r2
theorem chd_sign {z z' : Str} {a m m0 b : List Nat} (h0 : TL.tl z = a ++ (m0 ++ b)) (h1 : TL.tl z' = a ++ (m ++ b)) (hm : m.length ≤ 1) (hk : PyData.strOk z = true) (hc : ∀ c ∈ m, c < 1114112) : Chd z z' := by
  refine ⟨?_, okS_iff.mpr fun c h => ?_, ?_⟩
  · rw [TL.len_tl, TL.len_tl, h0, h1]
    simp only [List.length_append]
    omega
  · have h : c ∈ TL.tl z' := h
    rw [h1] at h
    have hz : ∀ c ∈ TL.tl z, c < 1114112 := okS_iff.mp hk
    rw [h0] at hz
    rcases List.mem_append.mp h with h | h
    · exact hz c (List.mem_append.mpr (.inl h))
    · rcases List.mem_append.mp h with h | h
      · exact hc c h
      · exact hz c (List.mem_append.mpr (.inr (List.mem_append.mpr (.inr h))))
  · obtain ⟨r1, r2, h⟩ := ln_change 10 a m m0 b hm
    refine ⟨⟨r1.toArray⟩, ⟨r2.toArray⟩, fun r hr => ?_⟩
    have hr2 : TL.tl r ∈ (Txt.split z' "\n").map TL.tl := List.mem_map.mpr ⟨r, hr, rfl⟩
    rw [lines_ln, h1] at hr2
    rcases h _ hr2 with h | h | h
    · rw [← h0, ← lines_ln] at h
      obtain ⟨r', hr', e⟩ := List.mem_map.mp h
      rw [TL.ext_tl e] at hr'
      exact .inl hr'
    · exact .inr (.inl (TL.ext_tl h))
    · exact .inr (.inr (TL.ext_tl h))
theorem chd_same {z : Str} (hk : PyData.strOk z = true) : Chd z z := ⟨by omega, hk, z, z, fun r h => .inl h⟩
/-- the weight of rows -/
def wt (L : List Str) : Nat := (L.map (·.length)).sum + L.length
theorem wt_append (a b : List Str) : wt (a ++ b) = wt a + wt b := by
  unfold wt
  rw [List.map_append, List.sum_append, List.length_append]; omega
theorem wt_sub {a b : List Str} (h : a.Sublist b) : wt a ≤ wt b := by
  induction h with
  | slnil => exact Nat.le_refl _
  | cons x _ ih =>
    have e := wt_append [x] ‹List Str›
    refine Nat.le_trans ih ?_
    rw [List.singleton_append] at e
    rw [e]; omega
  | cons_cons x _ ih =>
    rename_i l1 l2 _
    have e1 := wt_append [x] l1
    have e2 := wt_append [x] l2
    rw [List.singleton_append] at e1 e2
    rw [e1, e2]; omega
theorem lines_wt (z : Str) : wt (Txt.split z "\n") ≤ z.length + 1 := PyProof.Rows.split_weight z _ (by decide +kernel)
theorem lines_free (z : Str) : ∀ r ∈ Txt.split z "\n", 10 ∉ TL.tl r := by
  have e : (Str.ofString "\n") = ⟨#[10]⟩ := by decide +kernel
  intro r hr
  rw [e] at hr
  exact PySem.StrLaws.split_free z 10 r hr
/-- rows joined again -/
theorem chd_rows {z x : Str} {L : List Str} (hk : PyData.strOk z = true) (hx : x.length ≤ 100 ∧ PyData.strOk x = true ∧ 10 ∉ TL.tl x) (hL : ∀ r ∈ L, r ∈ Txt.split z "\n" ∨ r = x) (hw : wt L ≤ 3 * (z.length + 1) + 200) : Chd z (Txt.join "\n" L) := by
  have e1 : (Str.ofString "\n").length = 1 := by decide +kernel
  refine ⟨?_, okS_join (by decide +kernel) fun y hy => ?_, x, "", fun r hr => ?_⟩
  · rw [TL.join_eq]
    refine Nat.le_trans (PySem.StrLaws.join_length_le _ _) ?_
    rw [e1, Nat.mul_one]
    unfold wt at hw
    omega
  · rcases hL y hy with h | h
    · exact okS_sub hk (lines_sub h)
    · rw [h]; exact hx.2.1
  · by_cases hne : L = []
    · rw [hne] at hr
      have e2 : Txt.split (Txt.join (Str.ofString "\n") []) (Str.ofString "\n") = [Str.ofString ""] := by decide +kernel
      rw [e2] at hr
      exact .inr (.inr (List.mem_singleton.mp hr))
    · rw [TL.split_join (S := []) line_tl (by decide +kernel) hne fun p hp => ?_] at hr
      · rcases hL r hr with h | h
        · exact .inl h
        · exact .inr (.inl h)
      · rcases hL p hp with h | h
        · exact lines_free z p h
        · rw [h]; exact hx.2.2

/-- a dict, empty or not -/
theorem op_eqK {X : Cx} {k : Nat} (hr : Room k X.A) : OpR X (compareOp .Eq) (fun x y H Q => ∃ a b ks, x = .ref a ∧ y = .ref b ∧ H a = some (.dK ks) ∧ H b = some (.dK []) ∧ Q (.bl ks.isEmpty) H) := by
  intro pins s σ H x y v u Q I rx ry h
  obtain ⟨a, b, ks, rfl, rfl, ea, eb, q⟩ := h
  obtain rfl : v = Value.ref a := rx
  obtain rfl : u = Value.ref b := ry
  obtain ⟨_, ya, va, ra, da⟩ := (show ObjOk X.prog X.w H s.heap a (.dK ks) from I.hok a _ ea)
  obtain ⟨_, yb, vb, rb, db⟩ := (show ObjOk X.prog X.w H s.heap b (.dK []) from I.hok b _ eb)
  have l1 := ra.length
  have l2 : 0 = vb.length := rb.length
  refine PySem.W.keq_eq (knd := mixKind X.prog X.w) (r := true) ya yb da db hr.units0 (fun hl => hits_all rb ra fun p hp => ?_) (fin_bl I q ?_)
  · have : ks = [] := List.length_eq_zero_iff.mp (by omega)
    rw [this] at hp; cases hp
  · cases ks with
    | nil =>
      have : va.length = vb.length := by rw [← l1, ← l2]; rfl
      simp [this]
    | cons x r =>
      have : ¬ va.length = vb.length := by rw [← l1, ← l2]; simp
      simp [this]
section
variable {P : Program} {w : World} {K : PySem.W.Frag} {mg : Str → Option Value} {base : Heap}
def spBuilt (K : PySem.W.Frag) : Sp := sp3 fun a f m H Q _ => ∃ (x : Addr) (ns : List Int) (fi mi : Int), a = .ref x ∧ f = .int fi ∧ m = .int mi ∧ 0 ≤ fi ∧ 0 ≤ mi ∧ mi < 100000 ∧ SqL K H x (ns.map V.int) ∧
  ∀ H' t p dp ap M dm am la lb c0 c1, Two K (lamps6 c0) (nums9 c1) H' p dp ap M dm am M → M ≠ [] → H' la = some (.lst ((lamps6 c0).map V.str)) → ¬ footT p dp ap M dm am M la → H' lb = some (.lst ((nums9 c1).map V.int)) → ¬ footT p dp ap M dm am M lb →
    (∀ b o, H b = some o → H' b = some o ∧ ¬ footT p dp ap M dm am M b) → H' t = some (.tup [.ref p, .ref dm, .ref la, .ref lb]) → Q (.ref t) H'
theorem sc__law_built : FnScope ["_law_script", "_law_first", "_law_many", "_law_lamps_here", "_law_numbers_here", "_law_play", "_law_model", "_law_k", "_law_mix"] ["_law_script", "_law_first", "_law_many"] (defScope s__law_built) := ⟨rfl, rfl, rfl, by decide +kernel, rfl, by decide +kernel, by decide +kernel⟩
theorem d__law_built (T : Txt K mg) : Def P w K mg base 9 "_law_built" ["_law_script", "_law_first", "_law_many"] (spBuilt K) := by
  have d__law_lamps := d__law_lamps (P := P) (w := w) (base := base) T
  have d__law_numbers := d__law_numbers (P := P) (w := w) (base := base) T
  have d_Play___init__ := d_Play___init__ (P := P) (w := w) (base := base) T
  have d__law_mixed := d__law_mixed (P := P) (w := w) (base := base) T
  have d__law_done := d__law_done (P := P) (w := w) (base := base) T
  have d__law_put := d__law_put (P := P) (w := w) (base := base) T
  have d__law_cell := d__law_cell (P := P) (w := w) (base := base) T
  refine mkDef T.d__law_built T.g__law_built sc__law_built (fun _ _ _ _ _ _ us hl => match us, hl with | [_, _, _], _ => rfl) len3 (BodyN.up fun cdv A outer s H vs Q E hr h => ?_)
  obtain ⟨_, _, _, rfl, a, ns, fi, mi, rfl, rfl, rfl, hf0, hm0, hm1, hS, q⟩ := h
  have hu := hu_of hr
  refine ⟨_, (pss_cons (ps_set (i := 3) sc__law_built.nd rfl (Or.inl rfl) (pe_fn d__law_lamps (hr.mono (by decide)) (by rfl) passL (pa_cons (pe_fn d__law_mixed (hr.mono (by decide)) (by rfl) passL (pa_cons (pe_fn d__law_cell (hr.mono (by decide)) (by rfl) passL (pa_cons (pv 0) (pa_cons (pv 1) pa_nil))) (pa_cons pe_int pa_nil))) pa_nil)))
    (pss_cons (ps_set (i := 4) sc__law_built.nd rfl (Or.inl rfl) (pe_fn d__law_numbers (hr.mono (by decide)) (by rfl) passL (pa_cons (pe_fn d__law_mixed (hr.mono (by decide)) (by rfl) passL (pa_cons (pe_fn d__law_cell (hr.mono (by decide)) (by rfl) passL (pa_cons (pv 0) (pa_cons (pv 1) pa_nil))) (pa_cons pe_int pa_nil))) pa_nil)))
    (pss_cons (ps_set (i := 5) sc__law_built.nd rfl (Or.inl rfl) (pe_mk0 T.k_Play d_Play___init__ (hr.mono (by decide)) (by rfl) T.g_Play passL))
    (pss_cons (ps_set (i := 6) sc__law_built.nd rfl (Or.inl rfl) pe_dnewK)
    (pss_cons (ps_for PassesOwn.never rfl (pi_range1 (by rfl) T.z_range (pa_cons (pv 2) pa_nil)) (pg_name (i := 7) sc__law_built.nd rfl (Or.inl rfl))
    (pss_cons (ps_set (i := 8) sc__law_built.nd rfl (Or.inl rfl) (pe_fn d__law_mixed (hr.mono (by decide)) (by rfl) passL (pa_cons (pe_fn d__law_cell (hr.mono (by decide)) (by rfl) passL (pa_cons (pv 0) (pa_cons (pe_op op_add (pe_op op_add (pv 1) pe_int) (pe_op op_mod (pv 7) pe_int)) pa_nil))) (pa_cons (pe_op op_add pe_int (pv 7)) pa_nil))))
    (pss_one (ps_expr (pe_fn d__law_done (hr.mono (by decide)) (by rfl) passL (pa_cons (pv 5) (pa_cons (pv 6) (pa_cons (pv 3) (pa_cons (pv 4) (pa_cons (pv 8) pa_nil))))))))))
    (Evl.pss_cut (ps_if (pt_cmpR (op_eqK hr) (pv 6) pe_dnewK (nomark _))
    (pss_one (ps_expr (pe_fn d__law_put (hr.mono (by decide)) (by rfl) passL (pa_cons (pv 5) (pa_cons (pv 6) (pa_cons (pe_ix ix_list (pv 4) pe_int (fun _ _ => rfl)) (pa_cons (pv 2) pa_nil)))))))
    pss_nil)
    (pss_one (ps_ret (pe_tup (pa_cons (pv 5) (pa_cons (pv 6) (pa_cons (pv 3) (pa_cons (pv 4) pa_nil))))))))))))), ?_⟩
  refine ⟨_, rfl, _, rfl, _, _, rfl, a, ns, fi, rfl, rfl, hf0, hS, fun v0 => ⟨_, _, rfl, v0, 1, rfl, rfl, ⟨_, rfl, mixed v0 1, rfl, fun H1 la s1 nla ela => ?_⟩⟩⟩
  refine ⟨_, rfl, _, rfl, _, _, rfl, a, ns, fi, rfl, rfl, hf0, s1.seq hS, fun v1 => ⟨_, _, rfl, v1, 2, rfl, rfl, ⟨_, rfl, mixed v1 2, rfl, fun H2 lb s2 nlb elb => ?_⟩⟩⟩
  have ela := s2 _ _ ela
  have s12 := s1.trans s2
  have hS2 := s2.seq (s1.seq hS)
  intro p dx np ndx ndp
  refine ⟨_, rfl, p, dx, rfl, upd_same, fun d H3 nd ep ed kp => ⟨rfl, ?_⟩⟩
  have nd2 : H2 d = none := by
    by_cases z : d = p
    · rw [z]; exact np
    · rw [upd_ne z] at nd
      by_cases z' : d = dx
      · rw [z', upd_same] at nd; cases nd
      · rwa [upd_ne z'] at nd
  have s3 : Same H2 H3 := fun b o e => kp b o (by rw [upd_ne (ne_of_none e np), upd_ne (ne_of_none e ndx)]; exact e) (ne_of_none e np)
  intro m nm
  have s4 := same_upd (o := HO.dK []) nm
  have hdm : d ≠ m := fun z => by rw [z, nm] at ed; cases ed
  have em : (upd H3 m (.dK [])) m = some (.dK []) := upd_same
  generalize upd H3 m (.dK []) = H4 at s4 em
  have s24 := s3.trans s4
  have ad : Ads := fun _ => (p, p)
  have T0 : Two K (lamps6 (mixed v0 1)) (nums9 (mixed v1 2)) H4 p d ad [] m ad [] := two_new (s4 _ _ ep) (s4 _ _ ed) em (lamps6_U _) hdm
  have old : ∀ b o, H2 b = some o → H4 b = some o ∧ ¬ footT p d ad [] m ad [] b := fun b o e => ⟨s24 _ _ e, fun h => by
    rcases footT_new h with h | h | h
    · exact ne_of_none e np h
    · exact ne_of_none e nd2 h
    · exact ne_of_none (s3 _ _ e) nm h⟩
  obtain ⟨LS, hLS, kLS⟩ : ∃ L : List (Addr × HO), (∀ x ∈ L, H2 x.1 = some x.2) ∧ ∀ H' : Hp, (∀ x ∈ L, H' x.1 = some x.2) → SqL K H' a (ns.map V.int) := by
    rcases hS2 with (h | ⟨o, h⟩) | h
    · exact ⟨[(a, _)], fun x hx => by rw [List.mem_singleton.mp hx]; exact h, fun H' k => .inl (.inl (k _ List.mem_cons_self))⟩
    · exact ⟨[(a, _)], fun x hx => by rw [List.mem_singleton.mp hx]; exact h, fun H' k => .inl (.inr ⟨o, k _ List.mem_cons_self⟩)⟩
    · exact ⟨[], fun x hx => (by cases hx), fun H' _ => .inr h⟩
  refine ⟨_, rfl, mi, rfl, by omega, by omega, for_range (fun i σ H' => ∃ ap am M v7 v8, σ = [some (.ref a), some (.int fi), some (.int mi), some (.ref la), some (.ref lb), some (.ref p), some (.ref m), v7, v8] ∧ Two K (lamps6 (mixed v0 1)) (nums9 (mixed v1 2)) H' p d ap M m am M ∧ ∀ b o, H2 b = some o → H' b = some o ∧ ¬ footT p d ap M m am M b) ⟨_, _, [], none, none, rfl, T0, old⟩ ?_ ?_⟩
  · rintro i σ H5 hi ⟨ap, am, M, v7, v8, rfl, hT, keep⟩
    refine ⟨_, rfl, _, rfl, _, _, rfl, rfl, _, rfl, _, _, rfl, rfl, by simp, _, _, rfl, rfl, _, _, rfl, a, ns, _, rfl, rfl, ?_, kLS H5 fun x hx => (keep _ _ (hLS x hx)).1, fun c => ?_⟩
    · omega
    refine ⟨_, rfl, _, _, rfl, rfl, _, _, rfl, c, _, rfl, rfl, ?_⟩
    refine ⟨_, rfl, _, rfl, _, rfl, _, rfl, _, rfl, _, _, _, _, _, rfl, _, p, d, ap, M, _, m, am, la, lb, _, rfl, rfl, rfl, rfl, rfl, hT, lamps6_len _, lamps6_nodup _, rfl, nums9_ok _, (keep _ _ ela).1, (keep _ _ ela).2, (keep _ _ elb).1, (mixed_nn _ _).1, fun H6 ap' am' M' T6 m6 => ?_⟩
    exact ⟨ap', am', M', _, _, rfl, T6, fun b o e => m6.keep (keep b o e).1 (keep b o e).2⟩
  · rintro σ H5 ⟨ap, am, M, v7, v8, rfl, hT, keep⟩
    obtain ⟨kvs, hd, tk⟩ := hT.tab.top
    have hd : H5 m = some (.dK kvs) := hd
    have tl := tk.len hT.good.srt
    refine ⟨fun σ H' => ∃ ap am M v7 v8, σ = [some (.ref a), some (.int fi), some (.int mi), some (.ref la), some (.ref lb), some (.ref p), some (.ref m), v7, v8] ∧ Two K (lamps6 (mixed v0 1)) (nums9 (mixed v1 2)) H' p d ap M m am M ∧ (∀ b o, H2 b = some o → H' b = some o ∧ ¬ footT p d ap M m am M b) ∧ M ≠ [], ?_, ?_⟩
    · refine ⟨_, rfl, fun e ne => ⟨m, e, kvs, rfl, rfl, ?_, upd_same, _, rfl, ite2 (fun c1 => ?_) (fun c1 => ?_)⟩⟩
      · rw [upd_ne (ne_of_none hd ne)]; exact hd
      · have k0 : kvs = [] := List.isEmpty_iff.mp c1
        have hM : M = [] := List.length_eq_zero_iff.mp (by rw [← tl, k0]; rfl)
        subst hM
        have sE := same_upd (o := HO.dK []) ne
        refine ⟨_, rfl, _, rfl, _, rfl, _, _, _, _, rfl, rfl, .inl (.inl (sE _ _ (keep _ _ elb).1)), atI_nat (j := 0) rfl, _, rfl, _, _, _, _, rfl, _, p, d, ap, [], _, m, am, 1, mi, rfl, rfl, rfl, rfl, hT.same sE, rfl, List.mem_cons_self, Nat.le_refl 9, ⟨by decide, by decide⟩, hm0, fun H6 ap' am' M' T6 m6 ne6 => ?_⟩
        exact ⟨ap', am', M', _, _, rfl, T6, fun b o e => m6.keep (sE _ _ (keep b o e).1) (keep b o e).2, ne6⟩
      · have sE := same_upd (o := HO.dK []) ne
        exact ⟨ap, am, M, _, _, rfl, hT.same sE, fun b o e => ⟨sE _ _ (keep b o e).1, (keep b o e).2⟩, fun z => c1 (by
          rw [z] at tl
          rw [List.length_eq_zero_iff.mp tl]; rfl)⟩
    rintro σ H6 ⟨ap, am, M, v7, v8, rfl, hT, keep, hne⟩
    refine ⟨_, rfl, _, rfl, _, rfl, _, rfl, by simp [sizeLine_eq], fun t nt => ?_⟩
    have st := same_upd (o := HO.tup [.ref p, .ref m, .ref la, .ref lb]) nt
    exact q _ t p d ap M m am la lb _ _ (hT.same st) hne (st _ _ (keep _ _ ela).1) (keep _ _ ela).2 (st _ _ (keep _ _ elb).1) (keep _ _ elb).2 (fun b o e => ⟨st _ _ (keep _ _ (s12 _ _ e)).1, (keep _ _ (s12 _ _ e)).2⟩) upd_same
end

/-! ## Readers on the heap -/
theorem np_same {H2 H3 : Hp} {p dx d : Addr} {u v : HO} (np : H2 p = none) (ndx : H2 dx = none) (nd : (upd (upd H2 dx u) p v) d = none) (kp : ∀ y o, (upd (upd H2 dx u) p v) y = some o → y ≠ p → H3 y = some o) : H2 d = none ∧ Same H2 H3 := by
  refine ⟨?_, fun b o e => kp b o (by rw [upd_ne (ne_of_none e np), upd_ne (ne_of_none e ndx)]; exact e) (ne_of_none e np)⟩
  by_cases z : d = p
  · rw [z]; exact np
  · rw [upd_ne z] at nd
    by_cases z' : d = dx
    · rw [z', upd_same] at nd; cases nd
    · rwa [upd_ne z'] at nd
section
variable {P : Program} {w : World} {K : PySem.W.Frag} {mg : Str → Option Value} {base : Heap}
theorem mem_figures (c : Nat) : decide (c ∈ (Str.ofString "0123456789").cps.toList) = (decide (48 ≤ c) && decide (c ≤ 57)) := by
  have e : (Str.ofString "0123456789").cps.toList = (List.range 10).map (fun i => 48 + i) := by decide +kernel
  rw [e, Bool.eq_iff_iff]
  simp only [decide_eq_true_eq, Bool.and_eq_true, List.mem_map, List.mem_range]
  exact ⟨fun ⟨i, h, e⟩ => by omega, fun h => ⟨c - 48, by omega, by omega⟩⟩
def spNumIn : Sp := sp1 fun x H Q _ => ∃ z : Str, x = .str z ∧ z.length ≤ 100000 ∧ ∀ H', Same H H' → Q (.int (numIn z)) H'
theorem sc_number_in : FnScope ["word", "sign"] ["word"] (defScope s_number_in) := ⟨rfl, rfl, rfl, by decide +kernel, rfl, by decide +kernel, by decide +kernel⟩
theorem d_number_in (T : Txt K mg) : Def P w K mg base 1 "number_in" ["word"] (spNumIn) := by
  refine mkDef T.d_number_in T.g_number_in sc_number_in (fun _ _ _ _ _ _ us hl => match us, hl with | [_], _ => rfl) len1 (BodyN.up fun cdv A outer s H vs Q E hr h => ?_)
  obtain ⟨_, rfl, z, rfl, hz, q⟩ := h
  have hu := hu_of hr
  refine ⟨_, (pss_cons (ps_if (PW.pt (pw_or (pt_not (pt_chain op_le op_le pe_int (pe_callB call_len_str (by rfl) T.z_len (by decide +kernel) (pa_cons (pv 0) pa_nil)) pe_int)) (pw_or1 (pt_not (pt_val (pe_callB (cr_all rfl) (by rfl) T.z_all (by decide +kernel) (pa_cons (pe_lc (own := [("sign", 1)]) rfl sc_number_in.nd (pi_str (pv 0)) (blkOk_by (own := [("sign", 1)]) (N := ["word", "sign"]) (sc := defScope s_number_in) (by decide +kernel)) (fun _ _ _ _ _ => pg_name (i := 1) sc_number_in.nd rfl (Or.inl rfl)) (fun _ _ _ _ _ => pts_nil) (fun _ _ _ _ _ => (pe_cmpR op_in_sign (pv 1) (pe_glob (v := .str "0123456789") rfl (T.g_FIGURES).choose_spec ⟨_, rfl⟩) rfl))) pa_nil)))))))
    (pss_one (ps_ret (pe_un un_neg pe_int)))
    pss_nil)
    (pss_cons (ps_if (PW.pt (pw_and (pt_val (pe_m1 PySem.F.slot_str_startswith PySem.F.type_str_startswith mt_startswith (pv 0) pe_str)) (pw_and1 (pt_cmpR op_ne (pv 0) pe_str (nomark _)))))
    (pss_one (ps_ret (pe_un un_neg pe_int)))
    pss_nil)
    (pss_one (ps_ret (pe_callTy call_int_str (by rfl) T.z_int (by decide +kernel) (pa_cons (pv 0) pa_nil)))))), ?_⟩
  have hs : z.length ≤ sizeLine := Nat.le_trans hz (by rw [sizeLine_eq]; decide)
  have back : ∀ H', Same H H' → numIn z = -1 → Q (.int (-1)) H' := fun H' s e => by have := q H' s; rwa [e] at this
  refine ⟨_, rfl, _, rfl, hs, _, _, rfl, rfl, _, rfl, ?_⟩
  have hrow : ∀ H', Same H H' → z.length = 0 ∨ 6 < z.length ∨ figS z = false → Q (.int (-1)) H' := fun H' s e => back H' s (by unfold numIn; rw [if_pos e])
  by_cases h1 : 1 ≤ z.length
  · rw [if_pos (decide_eq_true (show (1 : Int) ≤ z.length by omega))]
    refine ⟨_, _, rfl, rfl, _, rfl, ?_⟩
    by_cases h2 : z.length ≤ 6
    · refine iteN (by rw [decide_eq_true (show (z.length : Int) ≤ 6 by omega)]; rfl) ?_
      refine ⟨_, rfl, z, rfl, ?_⟩
      intro D nD
      refine lc_pure (walk_sgn (z := z)) nD yes (fun v => match v with | .str y => .bl (y.cps.toList.all fun c => decide (48 ≤ c) && decide (c ≤ 57)) | _ => .non) ?_ (fun _ => rfl) (fun _ _ => trivial) (fun x _ H _ Q' k => tt_yes x k) ?_ ?_
      · rw [sgn, List.length_map, sizeLine_eq]
        have : z.cps.toList.length = z.length := by simp [Str.length]
        omega
      · intro v hv _ H' s1 Q' k
        obtain ⟨c, _, rfl⟩ := List.mem_map.mp hv
        refine ⟨_, rfl, _, _, rfl, rfl, ?_⟩
        rw [mem_figures]
        have := k H' (Same.refl _)
        simpa using this
      · intro H' s1 hD
        rw [filter_yes] at hD
        refine ⟨D, z.cps.toList.map fun c => decide (48 ≤ c) && decide (c ≤ 57), rfl, .inl (.inl (by rw [hD, sgn, List.map_map, List.map_map]; congr 2; refine List.map_congr_left fun c _ => ?_; simp)), ?_⟩
        have e : (z.cps.toList.map fun c => decide (48 ≤ c) && decide (c ≤ 57)).all id = figS z := by simp [List.all_map, figS]
        rw [e]
        refine ⟨_, rfl, ?_⟩
        cases hf : figS z with
        | false => exact iteT ⟨_, rfl, hrow H' s1 (.inr (.inr hf))⟩
        | true =>
          refine iteF ⟨_, rfl, ⟨_, rfl⟩, _, _, rfl, rfl, _, rfl, ?_⟩
          rw [starts0 h1]
          have hv := numIn_pos h1 h2 hf
          have hlen : z.cps.toList.length = z.length := Array.length_toList
          have hint : intText? z = some ((NumText.digitsVal z.cps.toList : Nat) : Int) := PySem.intText_digits (figS_iff.mp hf) (fun e => by rw [e] at hlen; simp at hlen; omega) (by omega)
          have last : numIn z = ((NumText.digitsVal z.cps.toList : Nat) : Int) → ∃ a n, [V.str z] = [V.str a] ∧ intText? a = some n ∧ a.length ≤ 640 ∧ Q (.int n) H' := fun e => ⟨z, _, rfl, hint, by omega, by rw [← e]; exact q H' s1⟩
          by_cases c1 : z.cps.toList.head? = some 48
          · refine iteY (decide_eq_true c1) ⟨_, rfl, rfl, _, rfl, ?_⟩
            by_cases c2 : z = Str.ofString "0"
            · refine iteN (by rw [decide_eq_true (show V.str z = V.str (Str.ofString "0") by rw [c2])]; rfl) ⟨_, rfl, last ?_⟩
              rw [hv, if_neg fun h => h.2 c2]
            · refine iteY (by rw [decide_eq_false (show ¬ V.str z = V.str (Str.ofString "0") from fun h => c2 (V.str.inj h))]; rfl) ⟨_, rfl, back H' s1 ?_⟩
              rw [hv, if_pos ⟨c1, c2⟩]
          · refine iteN (decide_eq_false c1) ⟨_, rfl, last ?_⟩
            rw [hv, if_neg fun h => c1 h.1]
    · refine iteY (by rw [decide_eq_false (show ¬ (z.length : Int) ≤ 6 by omega)]; rfl) (iteT ⟨_, rfl, hrow H (Same.refl H) (.inr (.inl (by omega)))⟩)
  · rw [if_neg (by simpa using (show ¬ (1 : Int) ≤ z.length by omega))]
    exact ⟨_, rfl, iteT (iteT ⟨_, rfl, hrow H (Same.refl H) (.inl (by omega))⟩)⟩
def readerF (p : Addr) : List (Str × V) := [("play", .ref p)]
theorem readerF_play {p : Addr} : (readerF p).lookup ("play" : Str) = some (V.ref p) := lookup_hit (by decide +kernel)
theorem readerF_no {p : Addr} {m : Str} (h : decide (m = ("play" : Str)) = false) : (readerF p).lookup m = none := (lookup_miss h).trans rfl
def spReaderInit (K : PySem.W.Frag) : Sp := sp1 fun s H Q _ => ∃ x dx, s = .ref x ∧ H x = some (.ins (He.ga K "Reader") dx []) ∧
  ∀ H' p d dp, H' x = some (.ins (He.ga K "Reader") dx (readerF p)) → H' p = some (.ins (He.ga K "Play") dp (playF d)) → H' d = some (.dK []) → H p = none → H d = none → (∀ y o, H y = some o → y ≠ x → H' y = some o) → Q .non H'
theorem sc_Reader___init__ : FnScope ["self"] ["self"] (defScope s_Reader___init__) := ⟨rfl, rfl, rfl, by decide +kernel, rfl, by decide +kernel, by decide +kernel⟩
theorem d_Reader___init__ (T : Txt K mg) : IDef P w K mg base (He.ma K (He.ga K "Reader") "__init__") 3 ["self"] (spReaderInit K) := by
  have d_Play___init__ := d_Play___init__ (P := P) (w := w) (base := base) T
  refine mkI T.d_Reader___init__ sc_Reader___init__ (fun _ _ _ _ _ _ us hl => match us, hl with | [_], _ => rfl) len1 (BodyN.up fun cdv A outer s H vs Q E hr h => ?_)
  obtain ⟨_, rfl, x, dx, rfl, hx, q⟩ := h
  have hu := hu_of hr
  refine ⟨_, (pss_one (ps_fld (pv 0) (pe_mk0 T.k_Play d_Play___init__ (hr.mono (by decide)) (by rfl) T.g_Play passL) rfl)), ?_⟩
  intro p dp np ndp ndpp
  refine ⟨_, rfl, p, dp, rfl, upd_same, fun d H3 nd ep ed kp => ⟨rfl, ?_⟩⟩
  obtain ⟨nd2, s3⟩ := np_same np ndp nd kp
  have hx3 := s3 _ _ hx
  refine ⟨_, rfl, x, _, dx, _, rfl, hx3, T.c_Reader, T.n_Reader_play, by simp, ?_⟩
  have px : p ≠ x := (ne_of_none hx np).symm
  have dx' : d ≠ x := (ne_of_none hx nd2).symm
  exact q _ p d dp (by rw [upd_same]; rfl) (by rw [upd_ne px]; exact ep) (by rw [upd_ne dx']; exact ed) np nd2 fun y o e ne => by rw [upd_ne ne]; exact s3 _ _ e
def cueErrs : List Str := ["NoCue", "Taken", "NoTime", "TooMany", "NoLamp", "NoLevel"]
theorem words5 {ws : List Str} (h : ws.length = 4 ∨ ws.length = 5) : ∃ w0 w1 w2 w3 t, ws = w0 :: w1 :: w2 :: w3 :: t ∧ (t = [] ∨ ∃ w4, t = [w4]) := by
  match ws, h with
  | [a, b, c, d], _ => exact ⟨a, b, c, d, [], rfl, .inl rfl⟩
  | [a, b, c, d, e], _ => exact ⟨a, b, c, d, [e], rfl, .inr ⟨e, rfl⟩⟩
  | [], h => simp at h
  | [_], h => simp at h
  | [_, _], h => simp at h
  | [_, _, _], h => simp at h
  | _ :: _ :: _ :: _ :: _ :: _ :: _, h => simp at h
theorem cut_last {xs : List V} {x : V} : cutV (xs ++ [x]) (some (-1)) none = [x] := by
  unfold cutV
  rw [HT.sIx_none]
  have e : HT.sIx (xs ++ [x]).length 0 (some (-1)) = xs.length := by
    show (if (-1 : Int) < 0 then ((-1 : Int) + ((xs ++ [x]).length : Int)).toNat else min (-1 : Int).toNat (xs ++ [x]).length) = _
    rw [if_pos (by decide), List.length_append]
    show ((-1 : Int) + ((xs.length + 1 : Nat) : Int)).toNat = _
    omega
  rw [e]
  simp
theorem cut_head {x : V} {xs : List V} : cutV (x :: xs) none (some 1) = [x] := by
  unfold cutV
  have e : HT.sIx (x :: xs).length (x :: xs).length (some 1) = 1 := by
    show min 1 (xs.length + 1) = 1
    omega
  rw [e]; rfl
theorem last_list (M : Book) : cutV (nums M) (some (-1)) none = (M.getLast?.toList.map fun e => V.int e.1) := by
  unfold nums
  rcases List.eq_nil_or_concat M with rfl | ⟨A, e, rfl⟩
  · rfl
  · rw [List.concat_eq_append, List.map_append, List.map_append]
    show cutV (List.map V.int (List.map (·.1) A) ++ [V.int e.1]) (some (-1)) none = _
    rw [cut_last]
    simp
theorem ite_shareG {c A B G : Prop} [Decidable c] (hB : G → B) (hg : ¬ c → G) (hA : c → (G → B) → A) : if c then A else B := by
  by_cases h : c
  · rw [if_pos h]; exact hA h hB
  · rw [if_neg h]; exact hB (hg h)
theorem dp_ints {H : Hp} {l : Addr} {is : List Int} (h : SqL K H l (is.map V.int)) : Dp K H (.ref l) (.list (is.map PyData.int)) := .lst h (by
  clear h
  induction is with
  | nil => exact .nil
  | cons a r ih => exact .cons (.int a) ih)
theorem dp_strs {H : Hp} {l : Addr} {is : List Str} (h : SqL K H l (is.map V.str)) : Dp K H (.ref l) (.list (is.map PyData.str)) := .lst h (by
  clear h
  induction is with
  | nil => exact .nil
  | cons a r ih => exact .cons (.str a) ih)
theorem put_last {n : Int} {c : CueC} : ∀ {M : Book}, (∀ x ∈ M, x.1 < n) → put ltI n c M = M ++ [(n, c)]
  | [], _ => rfl
  | (a, x) :: r, h => by
    have ha : a < n := h (a, x) List.mem_cons_self
    unfold put
    rw [if_neg (by omega), if_neg (by show ¬ n < a; omega), put_last fun y hy => h y (List.mem_cons_of_mem _ hy)]
    rfl
theorem last_ge {U : List Str} {M : Book} (g : Good U M) {e : Int × CueC} (h : e ∈ M) : e.1 ≤ lastN M := by
  rcases List.eq_nil_or_concat M with rfl | ⟨A, x, rfl⟩
  · cases h
  · rw [List.concat_eq_append] at h g ⊢
    have el : lastN (A ++ [x]) = x.1 := by unfold lastN; simp
    rw [el]
    rcases List.mem_append.mp h with h | h
    · have := (rising_snoc g.srt).2 e h
      exact Int.le_of_lt this
    · rw [List.mem_singleton.mp h]; exact Int.le_refl _
theorem last_nn {U : List Str} {M : Book} (g : Good U M) : 0 ≤ lastN M := by
  unfold lastN
  cases h : M.getLast? with
  | none => exact Int.le_refl _
  | some e =>
    have := (g.num e (List.mem_of_getLast? h)).1
    show 0 ≤ e.1
    omega
def spTakeCue (K : PySem.W.Frag) : Sp := sp2 fun s x H Q E => ∃ r dx p d ad M U l ws, s = .ref r ∧ x = .ref l ∧ H r = some (.ins (He.ga K "Reader") dx (readerF p)) ∧ PlayAt K U H p d ad M ∧ H l = some (.lst (ws.map V.str)) ∧ (∀ z ∈ ws, z.length ≤ 100000) ∧ (ws.length = 4 ∨ ws.length = 5) ∧
  (takeCue M ws = none → (∀ H', Same H H' → Q (.bl false) H') ∧ ∀ x ∈ cueErrs, Er K x E H) ∧ (∀ M', takeCue M ws = some M' → Becomes K U H p d ad M M' (Q (.bl true)))
theorem sc_Reader_take_cue : FnScope ["self", "words", "numbers", "word"] ["self", "words"] (defScope s_Reader_take_cue) := ⟨rfl, rfl, rfl, by decide +kernel, rfl, by decide +kernel, by decide +kernel⟩
theorem d_Reader_take_cue (T : Txt K mg) : MDef P w K mg base (He.ga K "Reader") 4 "take_cue" ["self", "words"] [] (spTakeCue K) := by
  have d_Play_put := d_Play_put (P := P) (w := w) (base := base) T
  have d_number_in := d_number_in (P := P) (w := w) (base := base) T
  have d_Play_numbers := d_Play_numbers (P := P) (w := w) (base := base) T
  refine mkM T.d_Reader_take_cue T.m_Reader_take_cue sc_Reader_take_cue (fun _ _ _ _ _ _ us hl => match us, hl with | [_, _], _ => rfl) len2 (fun cdv A outer s H vs Q E hr h => ?_)
  obtain ⟨_, _, rfl, r, dx, p, d, ad, M, U, l, ws, rfl, rfl, hr0, hp, hl, hz, hws, qn, qs⟩ := h
  have hu := hu_of hr
  refine ⟨_, (pss_cons (ps_setLc (i := 2) (own := [("word", 3)]) rfl sc_Reader_take_cue.nd rfl rfl (sw_true rfl rfl rfl (by decide +kernel)) (pi_list (pe_slice sl_list (pv 1) (po_some pe_int) (po_some pe_int))) (blkOk_by (own := [("word", 3)]) (N := ["self", "words", "numbers", "word"]) (sc := defScope s_Reader_take_cue) (by decide +kernel)) (fun _ _ _ _ _ => pg_name (i := 3) sc_Reader_take_cue.nd rfl (Or.inl rfl)) (fun _ _ _ _ _ => pts_nil) (fun _ _ _ _ _ => (pe_fn d_number_in (hr.mono (by decide)) (by rfl) passL (pa_cons (pv 3) pa_nil))))
    (pss_cons (ps_if (PW.pt (pw_or (PW.pt (pw_and (pt_cmpR op_eq (pe_callB call_len_seq (by rfl) T.z_len (by decide +kernel) (pa_cons (pv 1) pa_nil)) pe_int (nomark _)) (pw_and1 (pt_cmpR op_ne (pe_ix ix_list (pv 1) pe_int (fun _ _ => rfl)) pe_str (nomark _))))) (pw_or1 (pt_cmpR (op_gtD hr.units) (pe_slice sl_list (pe_mt0 T.c_Play d_Play_numbers (hr.mono (by decide)) (passes_call (takes_of rfl rfl rfl rfl) fun _ _ _ _ h => h) (pe_fld (pv 0) rfl)) (po_some (pe_un un_neg pe_int)) po_none) (pe_slice sl_list (pv 2) po_none (po_some pe_int)) (nomark _)))))
    (pss_one (ps_ret pe_bl))
    pss_nil)
    (pss_cons (ps_expr (pe_mt T.c_Play d_Play_put (hr.mono (by decide)) (passes_call (takes_of rfl rfl rfl rfl) fun _ _ _ _ h => h) (pe_fld (pv 0) rfl) (pa_cons (pe_ix ix_list (pv 2) pe_int (fun _ _ => rfl)) (pa_cons (pe_ix ix_list (pv 2) pe_int (fun _ _ => rfl)) (pa_cons (pe_ix ix_list (pv 2) pe_int (fun _ _ => rfl)) (pa_cons (pe_cmpR op_eq (pe_callB call_len_seq (by rfl) T.z_len (by decide +kernel) (pa_cons (pv 1) pa_nil)) pe_int (nomark _)) pa_nil))))))
    (pss_one (ps_ret pe_bl))))), ?_⟩
  obtain ⟨w0, w1, w2, w3, t, rfl, ht⟩ := words5 hws
  have hcut : cutV ((w0 :: w1 :: w2 :: w3 :: t).map V.str) (some 1) (some 4) = [w1, w2, w3].map V.str := by
    rcases ht with rfl | ⟨w4, rfl⟩ <;> rfl
  refine ⟨_, rfl, _, rfl, _, rfl, _, _, rfl, .inl (.inl hl), fun sl nsl => ?_⟩
  rw [hcut]
  have s1 := same_upd (o := HO.lst ([w1, w2, w3].map V.str)) nsl
  refine ⟨sl, rfl, ⟨_, .inl (.inl upd_same)⟩, fun D nD => ?_⟩
  refine lc_pure (walk_list (K := K) (a := sl) (xs := [w1, w2, w3].map V.str)) nD yes (fun v => match v with | .str z => .int (numIn z) | _ => .non) (by simp [sizeLine_eq]) (fun _ => rfl) (fun H5 s5 => .inl (.inl (s5 _ _ upd_same))) (fun x _ H _ Q' k => tt_yes x k) ?_ ?_
  · intro y hy _ H5 s5 Q' kk
    obtain ⟨z, hz', rfl⟩ := List.mem_map.mp hy
    exact ⟨_, rfl, _, rfl, z, rfl, hz z (by simp at hz' ⊢; rcases hz' with rfl | rfl | rfl <;> simp), fun H6 s6 => kk H6 s6⟩
  intro H5 s5 hD
  rw [filter_yes] at hD
  have hD : H5 D = some (.lst [.int (numIn w1), .int (numIn w2), .int (numIn w3)]) := hD
  have s05 := s1.trans s5
  have hl5 := s05 _ _ hl
  have hp5 := hp.same s05
  have hr5 := s05 _ _ hr0
  obtain ⟨dp, _, hpo, _, _⟩ := hp5.kept
  have g := hp.good
  have le5 : (((w0 :: w1 :: w2 :: w3 :: t).map V.str).length : Int) = ((w0 :: w1 :: w2 :: w3 :: t).length : Int) := by rw [List.length_map]
  refine ⟨_, rfl, l, _, rfl, .inl (.inl (.inl hl5)), rfl, _, rfl, ite_shareG (G := (w0 :: w1 :: w2 :: w3 :: t).length = 5 → at_ (w0 :: w1 :: w2 :: w3 :: t) 4 = "fresh") (fun hG => iteF ?_) (fun h e => ?_) (fun h hR => ?_)⟩
  · refine ⟨_, rfl, r, _, dx, _, _, rfl, hr5, T.c_Reader, T.n_Reader_play, readerF_play, p, dp, _, rfl, hpo, playF_no (by decide +kernel), _, rfl, p, d, ad, M, U, rfl, hp5, fun H6 ln s6 nln eln => ⟨_, rfl, _, rfl, _, _, rfl, .inl (.inl eln), fun la nla => ?_⟩⟩
    have s7 := same_upd (o := HO.lst (cutV (nums M) (some (-1)) none)) nla
    have ela : (upd H6 la (.lst (cutV (nums M) (some (-1)) none))) la = some (.lst ((M.getLast?.toList.map (·.1)).map V.int)) := by rw [upd_same, last_list, List.map_map]; rfl
    have s57 := s6.trans s7
    have hD7 := s57 _ _ hD
    generalize upd H6 la (.lst (cutV (nums M) (some (-1)) none)) = H7 at s7 s57 ela hD7
    refine ⟨_, rfl, _, rfl, _, _, rfl, .inl (.inl hD7), fun lb nlb => ?_⟩
    rw [cut_head]
    have s8 := same_upd (o := HO.lst [V.int (numIn w1)]) nlb
    have elb : (upd H7 lb (.lst [V.int (numIn w1)])) lb = some (.lst ([numIn w1].map V.int)) := upd_same
    have ela8 := s8 _ _ ela
    have hD8 := s8 _ _ hD7
    have s58 := s57.trans s8
    generalize upd H7 lb (.lst [V.int (numIn w1)]) = H8 at s8 s58 elb ela8 hD8
    have s08 := s05.trans s58
    have hp8 := hp.same s08
    obtain ⟨n1lo, n1hi⟩ := numIn_rng w1
    obtain ⟨n2lo, n2hi⟩ := numIn_rng w2
    obtain ⟨n3lo, n3hi⟩ := numIn_rng w3
    have nn := last_nn g
    have none_of : ¬ (lastN M < numIn w1 ∧ (0 ≤ numIn w2 ∧ numIn w2 ≤ 6000) ∧ (0 ≤ numIn w3 ∧ numIn w3 ≤ 6000) ∧ M.length < 100) → takeCue M (w0 :: w1 :: w2 :: w3 :: t) = none := fun h => by
      unfold takeCue
      exact if_neg fun z => h z.2
    have k1 : PySem.W.dataLt (.list ([numIn w1].map PyData.int)) (.list ((M.getLast?.toList.map (·.1)).map PyData.int)) = decide (numIn w1 < lastN M ∧ M ≠ []) := by
      cases hm : M.getLast? with
      | none =>
        rw [List.getLast?_eq_none_iff.mp hm]
        rw [show decide (numIn w1 < lastN [] ∧ ([] : Book) ≠ []) = false by simp]
        exact dlt_cons_nil
      | some e =>
        have hne : M ≠ [] := fun z => by rw [z] at hm; cases hm
        have el : lastN M = e.1 := by unfold lastN; rw [hm]; rfl
        rw [el]
        have : PySem.W.dataLt (.list [PyData.int (numIn w1)]) (.list [PyData.int e.1]) = decide (numIn w1 < e.1) := dlt_int
        refine Eq.trans this ?_
        by_cases hh : numIn w1 < e.1 <;> simp [hh, hne]
    refine ⟨_, _, dp_ints (.inl (.inl ela8)), dp_ints (.inl (.inl elb)), ?_, by simp, ?_, _, congrArg V.bl k1, ?_⟩
    · cases M.getLast? <;> rfl
    · cases M.getLast? <;> simp [PyData.depth, PyData.depthAll]
    refine ite2 (fun c1 => ?_) (fun c1 => ?_)
    · have c1 := of_decide_eq_true c1
      exact (qn (none_of fun z => by omega)).1 H8 s08
    have c1 : ¬ (numIn w1 < lastN M ∧ M ≠ []) := fun z => c1 (decide_eq_true z)
    obtain ⟨dp8, _, hpo8, _, _⟩ := hp8.kept
    refine ⟨_, rfl, r, _, dx, _, _, rfl, s08 _ _ hr0, T.c_Reader, T.n_Reader_play, readerF_play, p, dp8, _, rfl, hpo8, playF_no (by decide +kernel), _, rfl, D, _, _, _, rfl, rfl, .inl (.inl hD8), rfl, _, rfl, D, _, _, _, rfl, rfl, .inl (.inl hD8), rfl, _, rfl, D, _, _, _, rfl, rfl, .inl (.inl hD8), rfl, _, rfl, l, _, rfl, .inl (.inl (.inl (s08 _ _ hl))), rfl, ?_⟩
    refine ⟨_, _, _, _, _, rfl, p, d, ad, M, U, decide (V.int (((w0 :: w1 :: w2 :: w3 :: t).map V.str).length : Int) = V.int 5), rfl, rfl, hp8, trivial, trivial, trivial, fun e1 => ?_, fun e1 e2 => ?_, fun e1 e2 e3 => ?_, fun e1 e2 e3 e4 => ?_, fun n i j x1 x2 x3 b1 b2 b3 b4 H9 ad' P9 ch gr => ?_⟩
    · refine fun H' s' => (qn (none_of fun z => ?_)).2 _ (by simp [cueErrs]) H' (s08.trans s')
      rw [whole_of ⟨by omega, by omega⟩] at e1; cases e1
    · refine fun H' s' => (qn (none_of fun z => ?_)).2 _ (by simp [cueErrs]) H' (s08.trans s')
      have e2 : get M (numIn w1) ≠ none := e2
      cases hg : get M (numIn w1) with
      | none => exact e2 hg
      | some c =>
        have := last_ge g (get_mem hg)
        have this : numIn w1 ≤ lastN M := this
        omega
    · refine fun H' s' => (qn (none_of fun z => ?_)).2 _ (by simp [cueErrs]) H' (s08.trans s')
      rw [whole_of z.2.1, whole_of z.2.2.1] at e3; cases e3
    · exact fun H' s' => (qn (none_of fun z => by omega)).2 _ (by simp [cueErrs]) H' (s08.trans s')
    · cases x1; cases x2; cases x3
      have hlt : lastN M < numIn w1 := by
        cases hm : M.getLast? with
        | none =>
          have el : lastN M = 0 := by unfold lastN; rw [hm]; rfl
          omega
        | some e =>
          have hne : M ≠ [] := fun z => by rw [z] at hm; cases hm
          have el : lastN M = e.1 := by unfold lastN; rw [hm]; rfl
          have hmem := List.mem_of_getLast? hm
          have hne2 : numIn w1 ≠ e.1 := fun z => by
            rw [z, get_of_mem g.nodup (show (e.1, e.2) ∈ M from hmem)] at b3; cases b3
          have : ¬ numIn w1 < lastN M := fun z => c1 ⟨z, hne⟩
          omega
      have e : takeCue M (w0 :: w1 :: w2 :: w3 :: t) = some (put ltI (numIn w1) ⟨numIn w2, numIn w3, decide (V.int (((w0 :: w1 :: w2 :: w3 :: t).map V.str).length : Int) = V.int 5), []⟩ M) := by
        unfold takeCue
        rw [if_pos ⟨hG, hlt, ⟨b2.1, b2.2.1⟩, ⟨b2.2.2.1, b2.2.2.2⟩, b4⟩, put_last fun x hx => by have := last_ge g hx; omega]
        have ed : decide ((w0 :: w1 :: w2 :: w3 :: t).length = 5) = decide (V.int (((w0 :: w1 :: w2 :: w3 :: t).map V.str).length : Int) = V.int 5) := by
          rw [le5]
          by_cases h5 : (w0 :: w1 :: w2 :: w3 :: t).length = 5
          · rw [decide_eq_true h5, h5]; rfl
          · rw [decide_eq_false h5, decide_eq_false fun z => h5 (by have := V.int.inj z; omega)]
        rw [ed]; rfl
      exact qs _ e H9 ad' P9 (fun b o eb nb => ch b o (s08 _ _ eb) nb) (fun b hb => (gr b hb).imp id fun z => s08.free z)
  · refine absurd (decide_eq_true ?_) h
    show V.int _ = V.int 5
    rw [le5, e]; rfl
  · have e5 : (w0 :: w1 :: w2 :: w3 :: t).length = 5 := by
      have := V.int.inj (of_decide_eq_true h)
      rw [le5] at this
      omega
    rcases ht with rfl | ⟨w4, rfl⟩
    · simp at e5
    refine ⟨_, rfl, l, _, _, _, rfl, rfl, .inl (.inl hl5), rfl, rfl, _, rfl, ?_⟩
    by_cases c4 : w4 = Str.ofString "fresh"
    · rw [show (!decide (V.str w4 = V.str (Str.ofString "fresh"))) = false by rw [decide_eq_true (by rw [c4])]; rfl]
      exact hR fun _ => c4
    · refine iteY (by rw [decide_eq_false fun y => c4 (V.str.inj y)]; rfl) (iteT ?_)
      refine (qn ?_).1 H5 s05
      unfold takeCue
      exact if_neg fun z => c4 (z.1 rfl)
theorem put_lastS {l : Str} {v : Int} : ∀ {ws : Ws}, (∀ x ∈ ws, ltS x.1 l) → put ltS l v ws = ws ++ [(l, v)]
  | [], _ => rfl
  | (a, x) :: r, h => by
    have ha : ltS a l := h (a, x) List.mem_cons_self
    unfold put
    rw [if_neg (fun z => linS.irr a (by rw [z] at ha ⊢; exact ha)), if_neg (linS.asym ha), put_lastS fun y hy => h y (List.mem_cons_of_mem _ hy)]
    rfl
theorem last_words (ws : Ws) : cutV ((dW ws).map fun kv => kV kv.1) (some (-1)) none = (ws.getLast?.toList.map (·.1)).map V.str := by
  have e : ((dW ws).map fun kv => kV kv.1) = ws.map fun w => V.str w.1 := by
    unfold dW
    rw [List.map_map]; rfl
  rw [e]
  rcases List.eq_nil_or_concat ws with rfl | ⟨A, x, rfl⟩
  · rfl
  · rw [List.concat_eq_append, List.map_append]
    show cutV (List.map (fun w => V.str w.1) A ++ [V.str x.1]) (some (-1)) none = _
    rw [cut_last]
    simp
def spTakeWord (K : PySem.W.Frag) : Sp := sp2 fun s x H Q E => ∃ r dx p d ad M U l w0 w1, s = .ref r ∧ x = .ref l ∧ H r = some (.ins (He.ga K "Reader") dx (readerF p)) ∧ PlayAt K U H p d ad M ∧ H l = some (.lst ([w0, w1].map V.str)) ∧ (w0.length ≤ 100000 ∧ w1.length ≤ 100000 ∧ PyData.strOk w0 = true) ∧ (lampS w0 = true → w0 ∈ U) ∧
  (takeWord M [w0, w1] = none → (∀ H', Same H H' → Q (.bl false) H') ∧ ∀ x ∈ cueErrs, Er K x E H) ∧ (∀ M', takeWord M [w0, w1] = some M' → Becomes K U H p d ad M M' (Q (.bl true)))
theorem sc_Reader_take_word : FnScope ["self", "words", "last"] ["self", "words"] (defScope s_Reader_take_word) := ⟨rfl, rfl, rfl, by decide +kernel, rfl, by decide +kernel, by decide +kernel⟩
theorem d_Reader_take_word (T : Txt K mg) : MDef P w K mg base (He.ga K "Reader") 5 "take_word" ["self", "words"] [] (spTakeWord K) := by
  have d_Play_tell := d_Play_tell (P := P) (w := w) (base := base) T
  have d_Play_numbers := d_Play_numbers (P := P) (w := w) (base := base) T
  have d_number_in := d_number_in (P := P) (w := w) (base := base) T
  have d_Play_cue := d_Play_cue (P := P) (w := w) (base := base) T
  refine mkM T.d_Reader_take_word T.m_Reader_take_word sc_Reader_take_word (fun _ _ _ _ _ _ us hl => match us, hl with | [_, _], _ => rfl) len2 (fun cdv A outer s H vs Q E hr h => ?_)
  obtain ⟨_, _, rfl, r, dx, p, d, ad, M, U, l, w0, w1, rfl, rfl, hr0, hp, hl, ⟨hz0, hz1, hk0⟩, hU, qn, qs⟩ := h
  have hu := hu_of hr
  refine ⟨_, (pss_cons (ps_set (i := 2) sc_Reader_take_word.nd rfl (Or.inl rfl) (pe_slice sl_list (pe_mt0 T.c_Play d_Play_numbers (hr.mono (by decide)) (passes_call (takes_of rfl rfl rfl rfl) fun _ _ _ _ h => h) (pe_fld (pv 0) rfl)) (po_some (pe_un un_neg pe_int)) po_none))
    (pss_cons (ps_if (PW.pt (pw_or (pt_cmpR (op_eqD hr.units) (pv 2) (pe_lst pa_nil) (nomark _)) (pw_or1 (pt_cmpR (op_geD hr.units) (pe_slice sl_list (pe_callTy (call_listD rfl) (by rfl) T.z_list (by decide +kernel) (pa_cons (pe_ix ix_tup (pe_mt T.c_Play d_Play_cue (hr.mono (by decide)) (passes_call (takes_of rfl rfl rfl rfl) fun _ _ _ _ h => h) (pe_fld (pv 0) rfl) (pa_cons (pe_ix ix_list (pv 2) pe_int (fun _ _ => rfl)) pa_nil)) pe_int (fun _ _ => rfl)) pa_nil)) (po_some (pe_un un_neg pe_int)) po_none) (pe_slice sl_list (pv 1) po_none (po_some pe_int)) (nomark _)))))
    (pss_one (ps_ret pe_bl))
    pss_nil)
    (pss_cons (ps_expr (pe_mt T.c_Play d_Play_tell (hr.mono (by decide)) (passes_call (takes_of rfl rfl rfl rfl) fun _ _ _ _ h => h) (pe_fld (pv 0) rfl) (pa_cons (pe_ix ix_list (pv 2) pe_int (fun _ _ => rfl)) (pa_cons (pe_ix ix_list (pv 1) pe_int (fun _ _ => rfl)) (pa_cons (pe_fn d_number_in (hr.mono (by decide)) (by rfl) (passes_call (takes_of rfl rfl rfl rfl) fun _ _ _ _ h => h) (pa_cons (pe_ix ix_list (pv 1) pe_int (fun _ _ => rfl)) pa_nil)) pa_nil)))))
    (pss_one (ps_ret pe_bl))))), ?_⟩
  obtain ⟨dp, _, hpo, _, _⟩ := hp.kept
  have g := hp.good
  refine ⟨_, rfl, r, _, dx, _, _, rfl, hr0, T.c_Reader, T.n_Reader_play, readerF_play, p, dp, _, rfl, hpo, playF_no (by decide +kernel), _, rfl, p, d, ad, M, U, rfl, hp, fun H1 ln s1 nln eln => ⟨_, rfl, _, rfl, _, _, rfl, .inl (.inl eln), fun la nla => ?_⟩⟩
  have s2 := same_upd (o := HO.lst (cutV (nums M) (some (-1)) none)) nla
  have ela : (upd H1 la (.lst (cutV (nums M) (some (-1)) none))) la = some (.lst ((M.getLast?.toList.map (·.1)).map V.int)) := by rw [upd_same, last_list, List.map_map]; rfl
  have s02 := s1.trans s2
  generalize upd H1 la (.lst (cutV (nums M) (some (-1)) none)) = H2 at s2 s02 ela
  refine ⟨_, rfl, by simp [sizeLine_eq], fun e0 ne0 => ?_⟩
  have s3 := same_upd (o := HO.lst []) ne0
  have ela3 := s3 _ _ ela
  refine eqD_nil (dat_lst (K := K) (.inl (.inl ela3)) (fun x hx => by obtain ⟨i, _, rfl⟩ := List.mem_map.mp hx; rfl)) upd_same (by decide) ⟨_, rfl, ?_⟩
  have s03 := s02.trans s3
  generalize upd H2 e0 (.lst []) = H3 at s03 ela3
  cases hm : M.getLast? with
  | none =>
    refine iteY rfl (iteT ((qn ?_).1 H3 s03))
    unfold takeWord
    rw [hm]
  | some e =>
    refine iteN rfl ?_
    rw [hm] at ela3
    have ela3 : H3 la = some (.lst [V.int e.1]) := ela3
    obtain ⟨A, rfl⟩ : ∃ A, M = A ++ [e] := by
      rcases List.eq_nil_or_concat M with rfl | ⟨A, x, rfl⟩
      · cases hm
      · rw [List.concat_eq_append] at hm ⊢
        have : x = e := by simpa using hm
        exact ⟨A, by rw [this]⟩
    have hmem : e ∈ A ++ [e] := by simp
    have hge : get (A ++ [e]) e.1 = some e.2 := get_of_mem g.nodup hmem
    have hp3 := hp.same s03
    obtain ⟨dp3, _, hpo3, _, _⟩ := hp3.kept
    refine ⟨_, rfl, r, _, dx, _, _, rfl, s03 _ _ hr0, T.c_Reader, T.n_Reader_play, readerF_play, p, dp3, _, rfl, hpo3, playF_no (by decide +kernel), _, rfl, la, _, _, _, rfl, rfl, .inl (.inl ela3), rfl, _, _, rfl, p, d, ad, _, U, rfl, hp3, trivial, fun n c ex hn H4 t w' s4 nt nw et ew => ⟨t, _, _, _, rfl, rfl, .inl (.inl et), rfl, w', _, rfl, .inl ew, fun lk nlk => ?_⟩, fun z => absurd z (cue_some rfl hge)⟩
    cases ex
    rw [hge] at hn
    cases hn
    have s5 := same_upd (o := HO.lst ((dW e.2.words).map fun kv => kV kv.1)) nlk
    have s05 := s03.trans (s4.trans s5)
    have elk : (upd H4 lk (.lst ((dW e.2.words).map fun kv => kV kv.1))) lk = some (.lst ((dW e.2.words).map fun kv => kV kv.1)) := upd_same
    have ela5 := s5 _ _ (s4 _ _ ela3)
    generalize upd H4 lk (.lst ((dW e.2.words).map fun kv => kV kv.1)) = H5 at s05 elk ela5
    refine ⟨_, rfl, _, rfl, _, _, rfl, .inl (.inl elk), fun lt nlt => ?_⟩
    rw [last_words]
    have s6 := same_upd (o := HO.lst ((e.2.words.getLast?.toList.map (·.1)).map V.str)) nlt
    have elt : (upd H5 lt (.lst ((e.2.words.getLast?.toList.map (·.1)).map V.str))) lt = some (.lst ((e.2.words.getLast?.toList.map (·.1)).map V.str)) := upd_same
    have s06 := s05.trans s6
    have ela6 := s6 _ _ ela5
    generalize upd H5 lt (.lst ((e.2.words.getLast?.toList.map (·.1)).map V.str)) = H6 at s06 elt ela6
    refine ⟨_, rfl, _, rfl, _, _, rfl, .inl (.inl (s06 _ _ hl)), fun lw nlw => ?_⟩
    rw [show cutV ([w0, w1].map V.str) none (some 1) = [w0].map V.str from rfl]
    have s7 := same_upd (o := HO.lst ([w0].map V.str)) nlw
    have elw : (upd H6 lw (.lst ([w0].map V.str))) lw = some (.lst ([w0].map V.str)) := upd_same
    have s07 := s06.trans s7
    have ela7 := s7 _ _ ela6
    have elt7 := s7 _ _ elt
    generalize upd H6 lw (.lst ([w0].map V.str)) = H7 at s07 elw ela7 elt7
    have k1 : (!PySem.W.dataLt (.list ((e.2.words.getLast?.toList.map (·.1)).map PyData.str)) (.list ([w0].map PyData.str))) = !decide (∀ w, e.2.words.getLast? = some w → ltS w.1 w0) := by
      cases hw : e.2.words.getLast? with
      | none =>
        rw [decide_eq_true fun w h => by cases h]
        exact congrArg (!·) dlt_nil_cons
      | some w =>
        have e1 : PySem.W.dataLt (.list [PyData.str w.1]) (.list [PyData.str w0]) = decide (ltS w.1 w0) := by
          rw [dlt_strS]
          by_cases hh : ltS w.1 w0
          · rw [decide_eq_true hh]; exact hh
          · rw [decide_eq_false hh]; exact Bool.eq_false_iff.mpr hh
        refine congrArg (!·) (Eq.trans e1 ?_)
        by_cases hh : ltS w.1 w0 <;> simp [hh]
    refine ⟨_, _, dp_strs (.inl (.inl elt7)), dp_strs (.inl (.inl elw)), ?_, by simp, ?_, _, congrArg V.bl k1, ?_⟩
    · cases e.2.words.getLast? <;> rfl
    · cases e.2.words.getLast? <;> simp [PyData.depth, PyData.depthAll]
    have el0 : (A ++ [e]).getLast? = some e := by simp
    have none_of : ¬ (lampS w0 = true ∧ (0 ≤ numIn w1 ∧ numIn w1 ≤ 100) ∧ (∀ w, e.2.words.getLast? = some w → ltS w.1 w0)) → takeWord (A ++ [e]) [w0, w1] = none := fun h => by
      unfold takeWord
      rw [el0]
      exact if_neg fun z => h z
    by_cases c1 : ∀ w, e.2.words.getLast? = some w → ltS w.1 w0
    · refine iteN (by rw [decide_eq_true c1]; rfl) ?_
      have hp7 := hp.same s07
      obtain ⟨dp7, _, hpo7, _, _⟩ := hp7.kept
      refine ⟨_, rfl, r, _, dx, _, _, rfl, s07 _ _ hr0, T.c_Reader, T.n_Reader_play, readerF_play, p, dp7, _, rfl, hpo7, playF_no (by decide +kernel), _, rfl, la, _, _, _, rfl, rfl, .inl (.inl ela7), rfl, _, rfl, l, _, _, _, rfl, rfl, .inl (.inl (s07 _ _ hl)), rfl, _, rfl, l, _, _, _, rfl, rfl, .inl (.inl (s07 _ _ hl)), rfl, _, rfl, w1, rfl, hz1, fun H8 s8 => ?_⟩
      have s08 := s07.trans s8
      refine ⟨_, _, _, _, rfl, p, d, ad, A ++ [e], U, rfl, hp.same s08, trivial, ⟨hz0, hk0⟩, trivial, fun z => absurd z (cue_some rfl hge), fun _ e2 => ?_, fun _ e2 e3 => ?_, fun n c z i x1 x2 x3 x4 b1 b2 => ?_⟩
      · have e2 : lampS w0 = false := e2
        exact fun H' s' => (qn (none_of fun z => by rw [e2] at z; cases z.1)).2 _ (by simp [cueErrs]) H' (s08.trans s')
      · exact fun H' s' => (qn (none_of fun z => by rw [whole_of z.2.1] at e3; cases e3)).2 _ (by simp [cueErrs]) H' (s08.trans s')
      · cases x1; cases x3; cases x4
        have b1 : lampS w0 = true := b1
        refine ⟨hU b1, fun H9 P9 ch => ?_⟩
        have hlt : ∀ x ∈ e.2.words, ltS x.1 w0 := fun x hx => by
          have hs := g.wsrt e hmem
          rcases List.eq_nil_or_concat e.2.words with hn | ⟨B, y, hn⟩
          · rw [hn] at hx; cases hx
          · rw [List.concat_eq_append] at hn
            rw [hn] at hx hs c1
            have hy : ltS y.1 w0 := c1 y (by simp)
            rcases List.mem_append.mp hx with hx | hx
            · exact linS.tr _ _ _ ((rising_snoc hs).2 x hx) hy
            · rw [List.mem_singleton.mp hx]; exact hy
        have hA : ∀ x ∈ A, x.1 < e.1 := fun x hx => (rising_snoc g.srt).2 x hx
        have eM : takeWord (A ++ [e]) [w0, w1] = some (setW e.1 (put ltS w0 (numIn w1)) (A ++ [e])) := by
          unfold takeWord
          rw [el0]
          refine Eq.trans (if_pos ⟨b1, b2, c1⟩) ?_
          rw [List.dropLast_concat]
          unfold setW
          rw [List.map_append]
          have h1 : A.map (fun e' : Int × CueC => if e'.1 = e.1 then (e'.1, ({ e'.2 with words := put ltS w0 (numIn w1) e'.2.words } : CueC)) else e') = A := by
            refine (List.map_congr_left (g := id) fun x hx => ?_).trans (List.map_id A)
            show (if x.1 = e.1 then _ else _) = x
            rw [if_neg (by have := hA x hx; omega)]
          rw [h1]
          simp only [List.map_cons, List.map_nil, if_true, put_lastS hlt]
          rfl
        exact qs _ eM H9 ad P9 (fun b o eb nb => ch b o (s08 _ _ eb) nb) (fun b hb => .inl (hb.imp id foot_word.mp))
    · refine iteY (by rw [decide_eq_false c1]; rfl) ((qn (none_of fun z => c1 z.2.2)).1 H7 s07)
theorem in_45 (n : Int) : inV (V.int n) [V.int 4, .int 5] = (decide (n = 4) || decide (n = 5)) := by
  rw [Bool.eq_iff_iff]
  simp only [inV, eqV, List.any_cons, List.any_nil, Bool.or_false, Bool.or_eq_true, beq_iff_eq, decide_eq_true_eq]
  omega
def spTaken (K : PySem.W.Frag) : Sp := sp2 fun s x H Q _ => ∃ r dx p d ad M U z, s = .ref r ∧ x = .str z ∧ H r = some (.ins (He.ga K "Reader") dx (readerF p)) ∧ PlayAt K U H p d ad M ∧ (z.length ≤ 100000 ∧ PyData.strOk z = true) ∧ ((wordsIn z).length = 2 → lampS (at_ (wordsIn z) 0) = true → at_ (wordsIn z) 0 ∈ U) ∧
  (takeRow M z = none → ∀ H', Same H H' → Q (.bl false) H') ∧ (∀ M', takeRow M z = some M' → Becomes K U H p d ad M M' (Q (.bl true)))
theorem sc_Reader_taken : FnScope ["self", "row", "words"] ["self", "row"] (defScope s_Reader_taken) := ⟨rfl, rfl, rfl, by decide +kernel, rfl, by decide +kernel, by decide +kernel⟩
theorem d_Reader_taken (T : Txt K mg) : MDef P w K mg base (He.ga K "Reader") 6 "taken" ["self", "row"] [] (spTaken K) := by
  have d_Reader_take_cue := d_Reader_take_cue (P := P) (w := w) (base := base) T
  have d_Reader_take_word := d_Reader_take_word (P := P) (w := w) (base := base) T
  refine mkM T.d_Reader_taken T.m_Reader_taken sc_Reader_taken (fun _ _ _ _ _ _ us hl => match us, hl with | [_, _], _ => rfl) len2 (BodyN.up fun cdv A outer s H vs Q E hr h => ?_)
  obtain ⟨_, _, rfl, r, dx, p, d, ad, M, U, z, rfl, rfl, hr0, hp, ⟨hz, hk⟩, hU, qn, qs⟩ := h
  have hu := hu_of hr
  refine ⟨_, (pss_cons (ps_set (i := 2) sc_Reader_taken.nd rfl (Or.inl rfl) (pe_split (pv 1) pe_str))
    (pss_one (ps_try_only rfl rfl ⟨rfl, by decide, .inl T.g_CueError⟩ takesF (fun W pn xe tk _ => (Evl.pss_cut (ps_if (PW.pt (pw_and (pt_cmpR op_eq (pe_ix (ix_listK (K := K) rfl) (pv 2) pe_int (fun _ _ => rfl)) pe_str (nomark _)) (pw_and1 (pt_cmpR (op_in_seqK (K := K) rfl) (pe_callB (call_len_seqK (K := K) rfl) (by rfl) T.z_len (by decide +kernel) (pa_cons (pv 2) pa_nil)) (pe_tup (pa_cons pe_int (pa_cons pe_int pa_nil))) rfl))))
    (pss_one (ps_ret (pe_mtS T.c_Reader d_Reader_take_cue (hr.mono (by decide)) tk (pv 0) (pa_cons (pv 2) pa_nil))))
    pss_nil)
    (pss_one (ps_ret (pe_and (pe_cmpR op_eq (pe_callB (call_len_seqK (K := K) rfl) (by rfl) T.z_len (by decide +kernel) (pa_cons (pv 2) pa_nil)) pe_int (nomark _)) (pe_one (pe_mtS T.c_Reader d_Reader_take_word (hr.mono (by decide)) tk (pv 0) (pa_cons (pv 2) pa_nil)))))))) (fun a oe cls d pn _ _ => (pss_one (ps_ret pe_bl)))))), ?_⟩
  refine ⟨_, rfl, ⟨_, rfl⟩, _, _, rfl, rfl, by decide +kernel, by rw [sizeLine_eq]; omega, fun lw nlw => ?_⟩
  have eW : Txt.split z (Str.ofString " ") = wordsIn z := rfl
  rw [eW]
  have hlen : ∀ y ∈ wordsIn z, y.length ≤ 100000 := fun y hy => Nat.le_trans (PyProof.Rows.part_short hy) hz
  have hsub : ∀ y ∈ wordsIn z, PyData.strOk y = true := fun y hy => okS_sub hk (words_sub hy)
  have hpos : 1 ≤ (wordsIn z).length := PyProof.Rows.split_pos _ _
  have qn : takeRow M z = none → ∀ H', Same H H' → Q (.bl false) H' := qn
  unfold takeRow at qn qs
  generalize wordsIn z = ws at hlen hsub hpos qn qs hU
  have s1 := same_upd (o := HO.lst (ws.map V.str)) nlw
  have elw : (upd H lw (.lst (ws.map V.str))) lw = some (.lst (ws.map V.str)) := upd_same
  generalize upd H lw (.lst (ws.map V.str)) = H1 at s1 elw
  obtain ⟨w0, t, rfl⟩ : ∃ w0 t, ws = w0 :: t := by
    cases ws with
    | nil => simp at hpos
    | cons a b => exact ⟨a, b, rfl⟩
  have eat : at_ (w0 :: t) 0 = w0 := rfl
  have le2 : (((w0 :: t).map V.str).length : Int) = ((w0 :: t).length : Int) := by rw [List.length_map]
  have hp1 := hp.same s1
  have er : ∀ {E' : XK} {H' : Hp}, Same H1 H' → (∀ x ∈ cueErrs, ∀ H2, Same H' H2 → E' (.ref (He.ga K x)) none H2) → ∀ x ∈ cueErrs, Er K x E' H' := fun _ h x hx => h x hx
  have suite : ∀ {X : Cx} {Wout : WX} {ts : Addr → Value → Option Addr → TS} {D : Ends} {σ : L2.St} {H' : Hp}, (∀ cls d, ∀ a, ts a cls d D σ H') → ∀ x ∈ cueErrs, wOnly K (.ref (He.ga K "CueError")) ts Wout D (.ref (He.ga K x)) none σ H' := by
    intro X Wout ts D σ H' h x hx
    have hm : PySem.W.exmOne K (.ref (He.ga K x)) (.ref (He.ga K "CueError")) = some true := by
      simp only [cueErrs, List.mem_cons, List.not_mem_nil, or_false] at hx
      rcases hx with rfl | rfl | rfl | rfl | rfl | rfl
      · exact T.e_NoCue.m
      · exact T.e_Taken.m
      · exact T.e_NoTime.m
      · exact T.e_TooMany.m
      · exact T.e_NoLamp.m
      · exact T.e_NoLevel.m
    exact ⟨true, hm, fun _ a _ => h _ _ a, fun q => Bool.noConfusion q⟩
  refine ⟨fun σ' H' => σ' = [some (.ref r), some (.str z), some (.ref lw)] ∧ Same H1 H' ∧ isCueRow (w0 :: t) = false, ?_, ?_⟩
  · refine ⟨_, rfl, lw, (w0 :: t).map V.str, _, .str w0, rfl, rfl, .inl (.inl elw), atI_nat (j := 0) rfl, rfl, _, rfl, ite2 (fun h => ?_) (fun h => ?_)⟩
    · have hw : w0 = Str.ofString "cue" := V.str.inj (of_decide_eq_true h)
      refine ⟨_, rfl, lw, _, rfl, .inl (.inl (.inl elw)), by simp [sizeLine_eq], fun tp ntp => ?_⟩
      have s2 := same_upd (o := HO.tup [V.int 4, .int 5]) ntp
      have hin : inV (V.int (((w0 :: t).map V.str).length : Int)) [V.int 4, .int 5] = (decide ((w0 :: t).length = 4) || decide ((w0 :: t).length = 5)) := by
        rw [in_45, le2]
        congr 1 <;> exact decide_eq_decide.mpr ⟨fun y => by omega, fun y => by rw [y]; rfl⟩
      have hcue : isCueRow (w0 :: t) = (decide ((w0 :: t).length = 4) || decide ((w0 :: t).length = 5)) := by
        unfold isCueRow
        rw [eat, decide_eq_true hw, Bool.true_and]
      refine ⟨tp, _, rfl, .inr (.inl (.inl upd_same)), rfl, rfl, _, congrArg V.bl hin, ?_⟩
      cases hb : (decide ((w0 :: t).length = 4) || decide ((w0 :: t).length = 5)) with
      | false => exact iteF ⟨rfl, s2, by rw [hcue, hb]⟩
      | true =>
        rw [hb] at hcue
        rw [if_pos hcue] at qn
        simp only [if_pos hcue] at qs
        have s12 := s1.trans s2
        have h45 : (w0 :: t).length = 4 ∨ (w0 :: t).length = 5 := by simpa using hb
        exact iteT ⟨_, rfl, r, dx, _, rfl, s12 _ _ hr0, readerF_no (by decide +kernel), _, rfl, _, _, rfl, r, dx, p, d, ad, M, U, lw, w0 :: t, rfl, rfl, s12 _ _ hr0, hp.same s12, s2 _ _ elw, hlen, h45, fun hn => ⟨fun H' s' => qn hn H' (s12.trans s'), fun x hx H' s' => suite (X := cxOf (CX P w) P w K mg base ["self", "row", "words"] "Reader.taken" (defScope s_Reader_taken) (He.ma K (He.ga K "Reader") "taken") cdv A outer s H E) (fun cls d a => qn hn H' (s12.trans s')) x hx⟩, fun M' e H' ad' P' ch gr => qs M' e H' ad' P' (fun b o eb nb => ch b o (s12 _ _ eb) nb) fun b hb => (gr b hb).imp id fun y => s12.free y⟩
    · refine iteF ⟨rfl, Same.refl _, ?_⟩
      have : w0 ≠ Str.ofString "cue" := fun y => h (decide_eq_true (by rw [y]))
      simp [isCueRow, eat, this]
  · rintro σ' H2 ⟨rfl, s2, hG⟩
    have s12 := s1.trans s2
    have elw2 := s2 _ _ elw
    have hp1 := hp.same s12
    rw [if_neg (by rw [hG]; simp)] at qn
    simp only [if_neg (show ¬ isCueRow (w0 :: t) = true by rw [hG]; simp)] at qs
    refine ⟨_, rfl, lw, _, rfl, .inl (.inl (.inl elw2)), rfl, _, rfl, ite2 (fun c2 => ?_) (fun c2 => ?_)⟩
    · have c2 : (w0 :: t).length = 2 := by
        have := V.int.inj (of_decide_eq_true c2)
        rw [le2] at this
        omega
      rw [if_pos c2] at qn
      simp only [if_pos c2] at qs
      obtain ⟨w1, rfl⟩ : ∃ w1, t = [w1] := by
        match t, c2 with
        | [a], _ => exact ⟨a, rfl⟩
        | [], h => simp at h
        | _ :: _ :: _, h => simp at h
      refine ⟨_, rfl, r, dx, _, rfl, s12 _ _ hr0, readerF_no (by decide +kernel), _, rfl, _, _, rfl, r, dx, p, d, ad, M, U, lw, w0, w1, rfl, rfl, s12 _ _ hr0, hp1, elw2, ⟨hlen w0 (by simp), hlen w1 (by simp), hsub w0 (by simp)⟩, hU c2, fun hn => ⟨fun H' s' => qn hn H' (s12.trans s'), fun x hx H' s' => suite (X := cxOf (CX P w) P w K mg base ["self", "row", "words"] "Reader.taken" (defScope s_Reader_taken) (He.ma K (He.ga K "Reader") "taken") cdv A outer s H E) (fun cls d a => qn hn H' (s12.trans s')) x hx⟩, fun M' e H' ad' P' ch gr => qs M' e H' ad' P' (fun b o eb nb => ch b o (s12 _ _ eb) nb) fun b hb => (gr b hb).imp id fun y => s12.free y⟩
    · have c2 : ¬ (w0 :: t).length = 2 := fun y => c2 (decide_eq_true (by rw [le2, y]; rfl))
      rw [if_neg c2] at qn
      exact qn rfl H2 s12
end

section
variable {P : Program} {w : World} {K : PySem.W.Frag} {mg : Str → Option Value} {base : Heap}
theorem word_len {l : Str} {v : Int} (hl : lampS l = true) : l.length + (Str.ofString " ").length ≤ sizeLine := by
  have a := lampS_len hl
  have e1 : (Str.ofString " ").length = 1 := by decide +kernel
  rw [e1, sizeLine_eq]; omega
theorem word_len2 {l : Str} {v : Int} (hl : lampS l = true) (hv : 0 ≤ v ∧ v ≤ 100) : (l ++ " ").length + (strI v).length ≤ sizeLine := by
  have := rowW_len (w := (l, v)) hl hv
  have e : (rowW (l, v)).length = (l ++ Str.ofString " ").length + (strI v).length := Str.length_append _ _
  rw [e] at this
  rw [sizeLine_eq]; omega
def spRow : Sp := sp2 fun n t H Q _ => ∃ i a c w, n = .int i ∧ t = .ref a ∧ H a = some (.tup [.int c.up, .int c.down, .bl c.fresh, .ref w]) ∧ (0 ≤ i ∧ i < 10000000) ∧ (0 ≤ c.up ∧ c.up < 10000000) ∧ (0 ≤ c.down ∧ c.down < 10000000) ∧ ∀ H', Same H H' → Q (.str (rowC i c)) H'
def spWritten (K : PySem.W.Frag) : Sp := sp1 fun s H Q _ => ∃ p d ad M U, s = .ref p ∧ PlayAt K U H p d ad M ∧ ∀ H', Same H H' → Q (.str (text M)) H'
def spLText : Sp := sp1 fun m H Q _ => ∃ d ad M U, m = .ref d ∧ TabAt RcM none H d ad M ∧ Good U M ∧ Lamps U ∧ ∀ H', Same H H' → Q (.str (text M)) H'
theorem sc__law_text : FnScope ["_law_model", "_law_rows", "_law_number", "_law_up", "_law_down", "_law_fresh", "_law_words", "_law_row", "_law_lamp"] ["_law_model"] (defScope s__law_text) := ⟨rfl, rfl, rfl, by decide +kernel, rfl, by decide +kernel, by decide +kernel⟩
theorem d__law_text (T : Txt K mg) : Def P w K mg base 1 "_law_text" ["_law_model"] (spLText) := by
  refine mkDef T.d__law_text T.g__law_text sc__law_text (fun _ _ _ _ _ _ us hl => match us, hl with | [_], _ => rfl) len1 (BodyN.up fun cdv A outer s H vs Q E hr h => ?_)
  obtain ⟨_, rfl, d, ad, M, U, rfl, hT, g, u, q⟩ := h
  have hu := hu_of hr
  refine ⟨_, (pss_cons (ps_set (i := 1) sc__law_text.nd rfl (Or.inl rfl) (pe_lst pa_nil))
    (pss_cons (ps_for PassesOwn.never rfl (pi_list (pe_callB (call_sortedDA rfl) (by rfl) T.z_sorted (by decide +kernel) (pa_cons (pv 0) pa_nil))) (pg_name (i := 2) sc__law_text.nd rfl (Or.inl rfl))
    (pss_cons (ps_asg (pe_dget (by exact hu) (pv 0) (pv 2) (fun _ _ => rfl)) (pg_lst rfl (pgs_cons (pg_name (i := 3) sc__law_text.nd rfl (Or.inl rfl)) (pgs_cons (pg_name (i := 4) sc__law_text.nd rfl (Or.inl rfl)) (pgs_cons (pg_name (i := 5) sc__law_text.nd rfl (Or.inl rfl)) (pgs_cons (pg_name (i := 6) sc__law_text.nd rfl (Or.inl rfl)) pgs_nil))))))
    (pss_cons (ps_set (i := 7) sc__law_text.nd rfl (Or.inl rfl) (pe_op op_catS (pe_lst (pa_cons pe_str (pa_cons (pe_callTy call_str_int (by rfl) T.z_str (by decide +kernel) (pa_cons (pv 2) pa_nil)) (pa_cons (pe_callTy call_str_int (by rfl) T.z_str (by decide +kernel) (pa_cons (pv 3) pa_nil)) (pa_cons (pe_callTy call_str_int (by rfl) T.z_str (by decide +kernel) (pa_cons (pv 4) pa_nil)) pa_nil))))) (pe_op op_rep (pe_lst (pa_cons pe_str pa_nil)) (pe_callTy call_int1 (by rfl) T.z_int (by decide +kernel) (pa_cons (pv 5) pa_nil)))))
    (pss_cons (ps_expr (pe_bm PySem.F.plainAttrs_list PySem.F.slot_list_append PySem.F.type_list_append mt_append (pv 1) (pa_cons (pe_join pe_str (pv 7)) pa_nil)))
    (pss_one (ps_for PassesOwn.never rfl (pi_list (pe_callB (call_sortedD rfl) (by rfl) T.z_sorted (by decide +kernel) (pa_cons (pv 6) pa_nil))) (pg_name (i := 8) sc__law_text.nd rfl (Or.inl rfl))
    (pss_one (ps_expr (pe_bm PySem.F.plainAttrs_list PySem.F.slot_list_append PySem.F.type_list_append mt_append (pv 1) (pa_cons (pe_op op_add_str (pe_op op_add_str (pv 8) pe_str) (pe_callTy call_str_int (by rfl) T.z_str (by decide +kernel) (pa_cons (pe_dget (by exact hu) (pv 6) (pv 8) (fun _ _ => rfl)) pa_nil))) pa_nil))))))))))
    (pss_one (ps_ret (pe_join pe_str (pe_lc (own := [("_law_row", 7)]) rfl sc__law_text.nd (pi_list (pv 1)) (blkOk_by (own := [("_law_row", 7)]) (N := ["_law_model", "_law_rows", "_law_number", "_law_up", "_law_down", "_law_fresh", "_law_words", "_law_row", "_law_lamp"]) (sc := defScope s__law_text) (by decide +kernel)) (fun _ _ _ _ _ => pg_name (i := 7) sc__law_text.nd rfl (Or.inl rfl)) (fun _ _ _ _ _ => pts_nil) (fun _ _ _ _ _ => (pe_op op_add_str (pv 7) pe_str)))))))), ?_⟩
  obtain ⟨kvs, rd, tk⟩ := hT.topR
  obtain ⟨ns, hk, _, _⟩ := tk.keys
  refine ⟨by simp [sizeLine_eq], fun lr nlr => ?_⟩
  have s0 := same_upd (o := HO.lst []) nlr
  have T0 := hT.same s0
  obtain ⟨kv0, rd0, tk0⟩ := T0.topR
  obtain ⟨ns0, hk0, _, _⟩ := tk0.keys
  refine ⟨_, rfl, d, kv0, ns0, rfl, rd0, hk0, fun ys ln hp1 hp2 nln => ?_⟩
  rw [tk0.sorted g.srt hk0 hp1 hp2]
  have s1 := same_upd (o := HO.lst ((M.map (·.1)).map V.int)) nln
  have few : ∀ i e, M[i]? = some e → ∀ j, (rows (M.take i) ++ rowC e.1 e.2 :: (e.2.words.take j).map rowW).length < sizeLine := fun i e he j => by
    have a := rows_many (g.take i) u
    have b := g.few u (List.mem_of_getElem? he)
    rw [List.length_append, List.length_cons, List.length_map, List.length_take, sizeLine_eq]; omega
  have nll : ln ≠ lr := (ne_of_none upd_same nln).symm
  refine ⟨ln, rfl, ⟨_, .inl (.inl upd_same)⟩, for_list (K := K) (a := ln) (xs := nums M) (fun i σ H' => ∃ v2 v3 v4 v5 v6 v7 v8, σ = [some (.ref d), some (.ref lr), v2, v3, v4, v5, v6, v7, v8] ∧ Same H H' ∧ H' ln = some (.lst (nums M)) ∧ H' lr = some (.lst ((rows (M.take i)).map V.str))) ⟨none, none, none, none, none, none, none, rfl, s0.trans s1, upd_same, s1 _ _ upd_same⟩ (fun i σ H' _ ⟨_, _, _, _, _, _, _, _, _, h, _⟩ => .inl (.inl h)) ?_ ?_⟩
  · rintro i y σ H2 hy ⟨v2, v3, v4, v5, v6, v7, v8, rfl, s2, hln, hlr⟩
    obtain ⟨e, he, rfl⟩ := nums_at hy
    have hm : e ∈ M := List.mem_of_getElem? he
    have hge : get M e.1 = some e.2 := get_of_mem g.nodup hm
    have T2 := hT.same s2
    obtain ⟨kv2, rd2, tk2⟩ := T2.topR
    have fd := g.fad e hm
    have nb := g.num e hm
    have hrec := T2.recd hge
    refine ⟨_, rfl, _, rfl, d, _, rfl, tk2.hit rd2 hge, _, _, rfl, .inl (.inl hrec), rfl, _, _, rfl, _, _, rfl, _, _, rfl, _, _, rfl, rfl, ?_⟩
    refine ⟨_, rfl, e.1, rfl, log_ok (by omega) (by omega), _, rfl, e.2.up, rfl, log_ok (by omega) (by omega), _, rfl, e.2.down, rfl, log_ok (by omega) (by omega), by simp [sizeLine_eq], fun l1 n1 => ⟨by simp [sizeLine_eq], fun l2 n2 => ⟨_, rfl, .inr ⟨e.2.fresh, rfl, l2, _, _, rfl, rfl, upd_same, ?_, ?_, ?_, fun l3 n3 => ⟨l1, l3, [.str "cue", .str (strI e.1), .str (strI e.2.up), .str (strI e.2.down)], (List.replicate (if e.2.fresh = true then (1 : Int) else 0).toNat [V.str "fresh"]).flatten, rfl, rfl, .inl (.inl ?_), .inl (.inl upd_same), ?_, fun l4 n4 => ?_⟩⟩⟩⟩⟩
    · cases e.2.fresh <;> decide
    · cases e.2.fresh <;> decide
    · rw [sizeLine_eq]; cases e.2.fresh <;> decide
    · rw [upd_ne (ne_of_none (same_upd n2 _ _ upd_same) n3), upd_ne (ne_of_none upd_same n2)]; exact upd_same
    · rw [sizeLine_eq]; cases e.2.fresh <;> simp
    have s3 := (same_upd (o := HO.lst [.str "cue", .str (strI e.1), .str (strI e.2.up), .str (strI e.2.down)]) n1).trans ((same_upd (o := HO.lst [.str "fresh"]) n2).trans ((same_upd (o := HO.lst ((List.replicate (if e.2.fresh = true then (1 : Int) else 0).toNat [V.str "fresh"]).flatten)) n3).trans (same_upd (o := HO.lst ([.str "cue", .str (strI e.1), .str (strI e.2.up), .str (strI e.2.down)] ++ (List.replicate (if e.2.fresh = true then (1 : Int) else 0).toNat [V.str "fresh"]).flatten)) n4)))
    have eR : [V.str "cue", .str (strI e.1), .str (strI e.2.up), .str (strI e.2.down)] ++ (List.replicate (if e.2.fresh = true then (1 : Int) else 0).toNat [V.str "fresh"]).flatten = (rowL e.1 e.2).map V.str := by
      unfold rowL
      cases e.2.fresh <;> rfl
    have e4 : (upd (upd (upd (upd H2 l1 (.lst [.str "cue", .str (strI e.1), .str (strI e.2.up), .str (strI e.2.down)])) l2 (.lst [.str "fresh"])) l3 (.lst ((List.replicate (if e.2.fresh = true then (1 : Int) else 0).toNat [V.str "fresh"]).flatten))) l4 (.lst ([.str "cue", .str (strI e.1), .str (strI e.2.up), .str (strI e.2.down)] ++ (List.replicate (if e.2.fresh = true then (1 : Int) else 0).toNat [V.str "fresh"]).flatten))) l4 = some (.lst ((rowL e.1 e.2).map V.str)) := by rw [upd_same, eR]
    generalize upd (upd (upd (upd H2 l1 (.lst [.str "cue", .str (strI e.1), .str (strI e.2.up), .str (strI e.2.down)])) l2 (.lst [.str "fresh"])) l3 (.lst ((List.replicate (if e.2.fresh = true then (1 : Int) else 0).toNat [V.str "fresh"]).flatten))) l4 (.lst ([.str "cue", .str (strI e.1), .str (strI e.2.up), .str (strI e.2.down)] ++ (List.replicate (if e.2.fresh = true then (1 : Int) else 0).toNat [V.str "fresh"]).flatten)) = H4 at s3 e4
    have lim := few i e he 0
    have hb := rowL_sum (n := e.1) (c := e.2) (by omega) (by omega) (by omega)
    refine ⟨_, rfl, .inl ⟨rfl, _, .inl (.inl (s3 _ _ hlr))⟩, ⟨_, rfl⟩, _, rfl, " ", l4, rowL e.1 e.2, rfl, rfl, .inl (.inl (.inl e4)), ?_, lr, _, _, rfl, rfl, s3 _ _ hlr, by rw [List.length_map]; rw [List.length_append] at lim; omega, ?_⟩
    · have e1 : (Str.ofString " ").length = 1 := by decide +kernel
      rw [e1]; omega
    have s5 := sm_mut (o := HO.lst ((rows (M.take i)).map V.str ++ [.str (rowC e.1 e.2)])) (s2.trans s3) nlr
    have e5 : (upd H4 lr (.lst ((rows (M.take i)).map V.str ++ [.str (rowC e.1 e.2)]))) lr = some (.lst ((rows (M.take i) ++ rowC e.1 e.2 :: (e.2.words.take 0).map rowW).map V.str)) := by rw [upd_same, List.map_append]; rfl
    have ln5 : (upd H4 lr (.lst ((rows (M.take i)).map V.str ++ [.str (rowC e.1 e.2)]))) ln = some (.lst (nums M)) := by rw [upd_ne nll]; exact s3 _ _ hln
    have eJ : Txt.join " " (rowL e.1 e.2) = rowC e.1 e.2 := rfl
    rw [eJ]
    generalize upd H4 lr (.lst ((rows (M.take i)).map V.str ++ [.str (rowC e.1 e.2)])) = H5 at s5 e5 ln5
    have T5 := hT.same s5
    obtain ⟨kw, ew, wk⟩ := T5.wrd _ _ hge
    have hw := g.wsrt _ hm
    obtain ⟨ks, hks, _, _⟩ := wk.keys
    have hfew : e.2.words.length ≤ 60 := g.few u hm
    refine ⟨_, rfl, _, kw, ks, rfl, .inl ew, hks, ?_, fun zs lz hz1 hz2 nlz => ?_⟩
    · have := congrArg List.length hks
      rw [List.length_map, List.length_map, wk.len hw] at this
      omega
    rw [wk.sorted hw hks hz1 hz2]
    have s6 := same_upd (o := HO.lst ((e.2.words.map (·.1)).map V.str)) nlz
    have nzr : lz ≠ lr := (ne_of_none e5 nlz).symm
    refine ⟨lz, rfl, ⟨_, .inl (.inl upd_same)⟩, for_list (K := K) (a := lz) (xs := (e.2.words.map (·.1)).map V.str) (fun j σ H' => ∃ v8, σ = [some (.ref d), some (.ref lr), some (.int e.1), some (.int e.2.up), some (.int e.2.down), some (.bl e.2.fresh), some (.ref (ad e.1).2), some (.ref l4), v8] ∧ Same H H' ∧ H' ln = some (.lst (nums M)) ∧ H' lz = some (.lst ((e.2.words.map (·.1)).map V.str)) ∧ H' lr = some (.lst ((rows (M.take i) ++ rowC e.1 e.2 :: (e.2.words.take j).map rowW).map V.str))) ⟨_, rfl, s5.trans s6, s6 _ _ ln5, upd_same, s6 _ _ e5⟩ (fun j σ H' _ ⟨_, _, _, _, h, _⟩ => .inl (.inl h)) ?_ ?_⟩
    · rintro j x σ H7 hx ⟨v8, rfl, s7, l7, z7, r7⟩
      rw [List.map_map, List.getElem?_map] at hx
      obtain ⟨wd, hwd, rfl⟩ := Option.map_eq_some_iff.mp hx
      have hmw : wd ∈ e.2.words := List.mem_of_getElem? hwd
      obtain ⟨b1, b2⟩ := g.wrd e hm wd hmw
      have lw := u.ok _ b1
      have T7 := hT.same s7
      obtain ⟨kw7, ew7, wk7⟩ := T7.wrd _ _ hge
      refine ⟨_, rfl, .inl ⟨rfl, _, .inl (.inl r7)⟩, _, rfl, _, _, rfl, rfl, word_len (v := 0) lw, _, rfl, _, rfl, _, _, rfl, wk7.hit (.inl ew7) (get_of_mem (v := wd.2) (rising_nodup linS hw) hmw), wd.2, rfl, log_ok b2.1 (by omega), _, _, rfl, rfl, word_len2 lw b2, lr, _, _, rfl, rfl, r7, by rw [List.length_map]; exact few i e he j, ?_⟩
      refine ⟨_, rfl, sm_mut s7 nlr, by rw [upd_ne nll]; exact l7, by rw [upd_ne nzr]; exact z7, ?_⟩
      rw [upd_same, take_snoc hwd]
      simp [rowW]
      rfl
    · rintro σ H7 ⟨v8, rfl, s7, l7, z7, r7⟩
      refine ⟨_, _, _, _, _, _, _, rfl, s7, l7, ?_⟩
      rw [r7, rows_snoc he, rowsOf]
      have : ((e.2.words.map (·.1)).map V.str).length = e.2.words.length := by simp
      rw [this, List.take_length]
  · rintro σ H2 ⟨v2, v3, v4, v5, v6, v7, v8, rfl, s2, hln, hlr⟩
    have e0 : (nums M).length = M.length := by simp [nums]
    rw [e0, List.take_length] at hlr
    refine ⟨⟨_, rfl⟩, _, rfl, lr, rfl, ⟨_, .inl (.inl hlr)⟩, fun D nD => ?_⟩
    refine lc_pure (walk_list (K := K) (a := lr) (xs := (rows M).map V.str)) nD yes (fun v => match v with | .str z => .str (z ++ "\n") | _ => .non) ?_ (fun _ => rfl) (fun H5 s5 => .inl (.inl (s5 _ _ hlr))) (fun x _ H _ Q' k => tt_yes x k) ?_ ?_
    · have := rows_many g u
      rw [List.length_map, sizeLine_eq]; omega
    · intro y hy _ H5 s5 Q' k
      obtain ⟨r, hr, rfl⟩ := List.mem_map.mp hy
      have := rows_len g u r hr
      have e1 : (Str.ofString "\n").length = 1 := by decide +kernel
      exact ⟨_, rfl, _, _, rfl, rfl, by rw [e1, sizeLine_eq]; omega, k H5 (Same.refl _)⟩
    · intro H5 s5 hD
      rw [filter_yes, List.map_map] at hD
      refine ⟨_, D, (rows M).map fun r : Str => r ++ ("\n" : Str), rfl, rfl, .inl (.inl (.inl (by rw [hD, List.map_map]; rfl))), text_sum g u, q _ (s2.trans s5)⟩
end

/-! ## the word of a refusal -/
/-- what is told of an error's class: the i-th of the seven -/
structure ErW (K : PySem.W.Frag) (D : Addr) (i : Nat) : Prop where
  c : ExcC K D
  v : PySem.W.kitOne K (.ref D) (.type "ValueError") = some true
  k0 : PySem.W.kitOne K (.ref D) (.ref (He.ga K "NoCue")) = some (decide (i = 0))
  k1 : PySem.W.kitOne K (.ref D) (.ref (He.ga K "Taken")) = some (decide (i = 1))
  k2 : PySem.W.kitOne K (.ref D) (.ref (He.ga K "TooMany")) = some (decide (i = 2))
  k3 : PySem.W.kitOne K (.ref D) (.ref (He.ga K "NoLamp")) = some (decide (i = 3))
  k4 : PySem.W.kitOne K (.ref D) (.ref (He.ga K "NoLevel")) = some (decide (i = 4))
  k5 : PySem.W.kitOne K (.ref D) (.ref (He.ga K "NoTime")) = some (decide (i = 5))
  k6 : PySem.W.kitOne K (.ref D) (.ref (He.ga K "NoText")) = some (decide (i = 6))
theorem ErC.w {K : PySem.W.Frag} {D B : Addr} {b0 b1 b2 b3 b4 b5 b6 : Bool} {i : Nat} (h : ErC K D B [(He.ga K "NoCue", b0), (He.ga K "Taken", b1), (He.ga K "TooMany", b2), (He.ga K "NoLamp", b3), (He.ga K "NoLevel", b4), (He.ga K "NoTime", b5), (He.ga K "NoText", b6)])
    (e : [b0, b1, b2, b3, b4, b5, b6] = (List.range 7).map fun j => decide (i = j)) : ErW K D i := by
  simp only [List.range, List.range.loop, List.map, List.cons.injEq, and_true] at e
  obtain ⟨rfl, rfl, rfl, rfl, rfl, rfl, rfl⟩ := e
  exact ⟨h.c, h.v, h.k _ (List.mem_of_getElem? (i := 0) rfl), h.k _ (List.mem_of_getElem? (i := 1) rfl), h.k _ (List.mem_of_getElem? (i := 2) rfl), h.k _ (List.mem_of_getElem? (i := 3) rfl), h.k _ (List.mem_of_getElem? (i := 4) rfl), h.k _ (List.mem_of_getElem? (i := 5) rfl), h.k _ (List.mem_of_getElem? (i := 6) rfl)⟩
def words7 : List Str := ["cue", "taken", "many", "lamp", "level", "time", "text"]
def bits7 (i : Nat) : List V := [.bl (decide (i = 0)), .bl (decide (i = 1)), .bl (decide (i = 2)), .bl (decide (i = 3)), .bl (decide (i = 4)), .bl (decide (i = 5)), .bl (decide (i = 6))]
theorem bits_count : ∀ i : Fin 7, ((bits7 i).countP fun z => eqV z (.bl true)) = 1 := by decide
theorem bits_at : ∀ i : Fin 7, (bits7 i)[i.val]? = some (.bl true) := by decide
theorem bits_lt : ∀ i : Fin 7, ∀ m : Fin 7, m.val < i.val → ∃ z, (bits7 i)[m.val]? = some z ∧ eqV z (.bl true) = false := by
  intro i m h
  refine ⟨.bl (decide (i.val = m.val)), ?_, ?_⟩
  · revert h; revert i m; decide
  · have : decide (i.val = m.val) = false := decide_eq_false (by omega)
    rw [this]; rfl
section
variable {P : Program} {w : World} {K : PySem.W.Frag} {mg : Str → Option Value} {base : Heap}
def spClass (K : PySem.W.Frag) : Sp := sp1 fun x H Q _ => ∃ a D dd fs i w, x = .ref a ∧ H a = some (XO (.ref D) (some dd) a) ∧ H dd = some (.xd fs) ∧ ErW K D i ∧ words7[i]? = some w ∧ ∀ H', Same H H' → Q (.str w) H'
theorem sc__law_class : FnScope ["_law_e", "_law_some"] ["_law_e"] (defScope s__law_class) := ⟨rfl, rfl, rfl, by decide +kernel, rfl, by decide +kernel, by decide +kernel⟩
theorem d__law_class (T : Txt K mg) : Def P w K mg base 1 "_law_class" ["_law_e"] (spClass K) := by
  refine mkDef T.d__law_class T.g__law_class sc__law_class (fun _ _ _ _ _ _ us hl => match us, hl with | [_], _ => rfl) len1 (BodyN.up fun cdv A outer s H vs Q E hr h => ?_)
  obtain ⟨_, rfl, a, D, dd, fs, i, wd, rfl, ha, hdd, E, hw, q⟩ := h
  have hu := hu_of hr
  refine ⟨_, (pss_cons (ps_set (i := 1) sc__law_class.nd rfl (Or.inl rfl) (pe_lst (pa_cons (pe_callB call_isX2 (by rfl) T.z_isinstance (by decide +kernel) (pa_cons (pv 0) (pa_cons (pe_glob (v := .ref _) rfl T.g_NoCue rfl) pa_nil))) (pa_cons (pe_callB call_isX2 (by rfl) T.z_isinstance (by decide +kernel) (pa_cons (pv 0) (pa_cons (pe_glob (v := .ref _) rfl T.g_Taken rfl) pa_nil))) (pa_cons (pe_callB call_isX2 (by rfl) T.z_isinstance (by decide +kernel) (pa_cons (pv 0) (pa_cons (pe_glob (v := .ref _) rfl T.g_TooMany rfl) pa_nil))) (pa_cons (pe_callB call_isX2 (by rfl) T.z_isinstance (by decide +kernel) (pa_cons (pv 0) (pa_cons (pe_glob (v := .ref _) rfl T.g_NoLamp rfl) pa_nil))) pa_nil))))))
    (pss_cons (ps_set (i := 1) sc__law_class.nd rfl (Or.inl rfl) (pe_op op_catS (pv 1) (pe_lst (pa_cons (pe_callB call_isX2 (by rfl) T.z_isinstance (by decide +kernel) (pa_cons (pv 0) (pa_cons (pe_glob (v := .ref _) rfl T.g_NoLevel rfl) pa_nil))) (pa_cons (pe_callB call_isX2 (by rfl) T.z_isinstance (by decide +kernel) (pa_cons (pv 0) (pa_cons (pe_glob (v := .ref _) rfl T.g_NoTime rfl) pa_nil))) (pa_cons (pe_callB call_isX2 (by rfl) T.z_isinstance (by decide +kernel) (pa_cons (pv 0) (pa_cons (pe_glob (v := .ref _) rfl T.g_NoText rfl) pa_nil))) pa_nil))))))
    (pss_cons (ps_if (PW.pt (pw_or (pt_cmpR op_ne (pe_bm PySem.F.plainAttrs_list PySem.F.slot_list_count PySem.F.type_list_count mt_lcountF (pv 1) (pa_cons pe_bl pa_nil)) pe_int (nomark _)) (pw_or1 (pt_not (pt_val (pe_callB call_isX2 (by rfl) T.z_isinstance (by decide +kernel) (pa_cons (pv 0) (pa_cons (pe_bltn (v := .ty "ValueError") rfl T.z_ValueError (by decide +kernel) rfl) pa_nil))))))))
    (pss_one (ps_ret pe_str))
    pss_nil)
    (pss_one (ps_ret (pe_ix ix_list (pe_lst (pa_cons pe_str (pa_cons pe_str (pa_cons pe_str (pa_cons pe_str (pa_cons pe_str (pa_cons pe_str (pa_cons pe_str pa_nil)))))))) (pe_bm PySem.F.plainAttrs_list PySem.F.slot_list_index PySem.F.type_list_index mt_index (pv 1) (pa_cons pe_bl pa_nil)) (fun _ _ => rfl))))))), ?_⟩
  have hi : i < 7 := by
    have := (List.getElem?_eq_some_iff.mp hw).1
    exact this
  refine ⟨_, rfl, _, _, _, _, _, _, _, rfl, ha, hdd, E.c, (fun _ h => h), E.k0, _, rfl, _, _, _, _, _, _, _, rfl, ha, hdd, E.c, (fun _ h => h), E.k1, _, rfl, _, _, _, _, _, _, _, rfl, ha, hdd, E.c, (fun _ h => h), E.k2, _, rfl, _, _, _, _, _, _, _, rfl, ha, hdd, E.c, (fun _ h => h), E.k3, by simp [sizeLine_eq], fun l1 n1 => ?_⟩
  have s1 := same_upd (o := HO.lst [.bl (decide (i = 0)), .bl (decide (i = 1)), .bl (decide (i = 2)), .bl (decide (i = 3))]) n1
  have e1 : (upd H l1 (.lst [.bl (decide (i = 0)), .bl (decide (i = 1)), .bl (decide (i = 2)), .bl (decide (i = 3))])) l1 = some (.lst [.bl (decide (i = 0)), .bl (decide (i = 1)), .bl (decide (i = 2)), .bl (decide (i = 3))]) := upd_same
  generalize upd H l1 (.lst [.bl (decide (i = 0)), .bl (decide (i = 1)), .bl (decide (i = 2)), .bl (decide (i = 3))]) = H1 at s1 e1
  have ha1 := s1 _ _ ha
  have hdd1 := s1 _ _ hdd
  refine ⟨_, rfl, _, rfl, _, _, _, _, _, _, _, rfl, ha1, hdd1, E.c, (fun _ h => h), E.k4, _, rfl, _, _, _, _, _, _, _, rfl, ha1, hdd1, E.c, (fun _ h => h), E.k5, _, rfl, _, _, _, _, _, _, _, rfl, ha1, hdd1, E.c, (fun _ h => h), E.k6, by simp [sizeLine_eq], fun l2 n2 => ?_⟩
  have s2 := same_upd (o := HO.lst [.bl (decide (i = 4)), .bl (decide (i = 5)), .bl (decide (i = 6))]) n2
  refine ⟨l1, l2, _, _, rfl, rfl, .inl (.inl (s2 _ _ e1)), .inl (.inl upd_same), by simp [sizeLine_eq], fun l3 n3 => ?_⟩
  have s3 := same_upd (o := HO.lst ([.bl (decide (i = 0)), .bl (decide (i = 1)), .bl (decide (i = 2)), .bl (decide (i = 3))] ++ [.bl (decide (i = 4)), .bl (decide (i = 5)), .bl (decide (i = 6))])) n3
  have e3 : (upd (upd H1 l2 (.lst [.bl (decide (i = 4)), .bl (decide (i = 5)), .bl (decide (i = 6))])) l3 (.lst ([.bl (decide (i = 0)), .bl (decide (i = 1)), .bl (decide (i = 2)), .bl (decide (i = 3))] ++ [.bl (decide (i = 4)), .bl (decide (i = 5)), .bl (decide (i = 6))]))) l3 = some (.lst (bits7 i)) := upd_same
  have s13 := s1.trans (s2.trans s3)
  have fl : (bits7 i).all flatV = true := by simp [bits7, flatV]
  refine ⟨_, rfl, .inl ⟨rfl, _, .inl (.inl e3)⟩, _, _, _, rfl, rfl, .inl (.inl e3), rfl, fl, ?_⟩
  rw [bits_count ⟨i, hi⟩]
  refine ⟨rfl, _, rfl, iteF ⟨_, rfl, _, _, _, _, _, _, _, rfl, s13 _ _ ha, s13 _ _ hdd, E.c, (fun _ h => h), E.v, _, rfl, iteF ?_⟩⟩
  refine ⟨by simp [sizeLine_eq], fun l4 n4 => ?_⟩
  have s4 := same_upd (o := HO.lst [.str "cue", .str "taken", .str "many", .str "lamp", .str "level", .str "time", .str "text"]) n4
  refine ⟨_, rfl, .inl ⟨rfl, _, .inl (.inl (s4 _ _ e3))⟩, l3, bits7 i, .bl true, i, .bl true, rfl, rfl, .inl (.inl (s4 _ _ e3)), rfl, fl, bits_at ⟨i, hi⟩, rfl, fun m z' hm hz' => ?_, ?_⟩
  · obtain ⟨z, e, q'⟩ := bits_lt ⟨i, hi⟩ ⟨m, by omega⟩ hm
    rw [hz'] at e
    cases e; exact q'
  · refine ⟨_, _, _, _, rfl, rfl, .inl (.inl upd_same), atI_nat (j := i) (v := .str wd) ?_, q _ (s13.trans s4)⟩
    have : (words7.map V.str)[i]? = some (.str wd) := by rw [List.getElem?_map, hw]; rfl
    exact this
end

/-! ## NoText, made -/
theorem nt_heap {H1 : Hp} {a dx : Addr} {o1 o2 o3 o4 : HO} (na : H1 a = none) (nd : (upd H1 a o1) dx = none) (ne : dx ≠ a) : Same H1 (upd (L2.del (upd (upd (upd H1 a o1) dx o2) a o3) a) dx o4) := fun b o e => by
  rw [upd_ne ne] at nd
  have h1 : b ≠ a := ne_of_none e na
  have h2 : b ≠ dx := ne_of_none e nd
  rw [upd_ne h2, L2.del_ne h1, upd_ne h1, upd_ne h2, upd_ne h1]; exact e
theorem cut_but {xs : List V} {x : V} : cutV (xs ++ [x]) none (some (-1)) = xs := by
  unfold cutV
  rw [HT.sIx_none]
  have e : HT.sIx (xs ++ [x]).length (xs ++ [x]).length (some (-1)) = xs.length := by
    show (if (-1 : Int) < 0 then ((-1 : Int) + ((xs ++ [x]).length : Int)).toNat else min (-1 : Int).toNat (xs ++ [x]).length) = _
    rw [if_pos (by decide), List.length_append]
    show ((-1 : Int) + ((xs.length + 1 : Nat) : Int)).toNat = _
    omega
  rw [e]
  simp
theorem at_end {xs : List V} {x : V} : atI (xs ++ [x]) (-1) = some x := atI_last xs x
section
variable {P : Program} {w : World} {K : PySem.W.Frag} {mg : Str → Option Value} {base : Heap}
def spNoText (K : PySem.W.Frag) : Sp := sp2 fun s x H Q _ => ∃ a i, s = .ref a ∧ x = .int i ∧ H a = some (exo a (He.ga K "NoText") none) ∧
  ∀ dx, H dx = none → dx ≠ a → Q .non (upd (upd H dx (exd dx [("row", .int i)])) a (exo a (He.ga K "NoText") (some dx)))
theorem sc_NoText___init__ : FnScope ["self", "row"] ["self", "row"] (defScope s_NoText___init__) := ⟨rfl, rfl, rfl, by decide +kernel, rfl, by decide +kernel, by decide +kernel⟩
theorem d_NoText___init__ (T : Txt K mg) : IDef P w K mg base (He.ma K (He.ga K "NoText") "__init__") 1 ["self", "row"] (spNoText K) := by
  refine mkI T.d_NoText___init__ sc_NoText___init__ (fun _ _ _ _ _ _ us hl => match us, hl with | [_, _], _ => rfl) len2 (BodyN.up fun cdv A outer s H vs Q E hr h => ?_)
  obtain ⟨_, _, rfl, a, i, rfl, rfl, ha, q⟩ := h
  have hu := hu_of hr
  refine ⟨_, (pss_cons (ps_expr (pe_ceinit (by rfl) T.g_CueError T.nt.bg T.nt.br T.nt.bf (pa_cons (pv 0) (pa_cons pe_str pa_nil))))
    (pss_one (ps_ost (pv 0) (pv 1)))), ?_⟩
  exact ⟨_, rfl, a, _, _, rfl, by simp, T.nt.o, ha, _, rfl, _, rfl, a, _, rfl, T.nt.o, T.nt.r, .inl ⟨ha, fun dx n ne => q dx n ne⟩⟩
/-! ## read: any text -/
def readR : Book → Nat → List Str → Book ⊕ Nat
  | M, _, [] => .inl M
  | M, k, r :: t => match takeRow M r with
    | some M' => readR M' (k + 1) t
    | none => .inr k
/-- what a text is read as: a play, or the first row that is none -/
def readT (z : Str) : Book ⊕ Nat := match readR [] 0 ((Txt.split z "\n").dropLast) with
  | .inr k => .inr k
  | .inl M => if (Txt.split z "\n").getLast? = some "" then .inl M else .inr ((Txt.split z "\n").length - 1)
theorem readR_split : ∀ (a : List Str) (b : List Str) (M M' : Book) (k : Nat), readRows M a = some M' → readR M k (a ++ b) = readR M' (k + a.length) b
  | [], b, M, M', k, h => by cases h; rfl
  | r :: t, b, M, M', k, h => by
    have h : (match takeRow M r with | some M1 => readRows M1 t | none => none) = some M' := h
    show (match takeRow M r with | some M1 => readR M1 (k + 1) (t ++ b) | none => .inr k) = _
    cases e : takeRow M r with
    | none => rw [e] at h; cases h
    | some M1 =>
      rw [e] at h
      have := readR_split t b M1 M' (k + 1) h
      rw [List.length_cons, show k + (t.length + 1) = k + 1 + t.length by omega]
      exact this
theorem readR_stop {a b : List Str} {r : Str} {M M' : Book} (h : readRows M a = some M') (hr : takeRow M' r = none) : readR M 0 (a ++ r :: b) = .inr a.length := by
  rw [readR_split a _ M M' 0 h]
  show (match takeRow M' r with | some M1 => readR M1 _ b | none => .inr (0 + a.length)) = _
  rw [hr, Nat.zero_add]
theorem readR_done {a : List Str} {M M' : Book} (h : readRows M a = some M') : readR M 0 a = .inl M' := by
  have := readR_split a [] M M' 0 h
  rw [List.append_nil] at this
  exact this
theorem readT_rows {z : Str} {rs : List Str} {last : Str} (hsp : Txt.split z (Str.ofString "\n") = rs ++ [last]) : readT z = match readR [] 0 rs with
  | .inr k => .inr k
  | .inl M => if last = Str.ofString "" then .inl M else .inr rs.length := by
  unfold readT
  rw [hsp, List.dropLast_concat, List.getLast?_concat, List.length_append]
  cases readR [] 0 rs with
  | inr k => rfl
  | inl M =>
    show (if some last = some _ then _ else _) = _
    by_cases h : last = Str.ofString ""
    · exact (if_pos (by rw [h])).trans (if_pos h).symm
    · exact (if_neg (fun y => h (Option.some.inj y))).trans (if_neg h).symm
def spRead (K : PySem.W.Frag) : Sp := sp1 fun x H Q E => ∃ z U, x = .str z ∧ z.length + 2 ≤ sizeLine ∧ (∀ r ∈ Txt.split z "\n", (r.length ≤ 100000 ∧ PyData.strOk r = true) ∧ ((wordsIn r).length = 2 → lampS (at_ (wordsIn r) 0) = true → at_ (wordsIn r) 0 ∈ U)) ∧ Lamps U ∧
  (∀ M, readT z = .inl M → ∀ H' p d ad, Same H H' → (∀ b, footP p d ad M b → H b = none) → PlayAt K U H' p d ad M → Q (.ref p) H') ∧
  (∀ k, readT z = .inr k → ∀ H' dd fs, Same H H' → H dd = none → H' dd = some (.xd fs) → fs.lookup ("row" : Str) = some (.int (k : Nat)) → E (.ref (He.ga K "NoText")) (some dd) H')
theorem sc_read : FnScope ["text", "reader", "rows", "place", "row"] ["text"] (defScope s_read) := ⟨rfl, rfl, rfl, by decide +kernel, rfl, by decide +kernel, by decide +kernel⟩
theorem d_read (T : Txt K mg) : Def P w K mg base 7 "read" ["text"] (spRead K) := by
  have d_Reader___init__ := d_Reader___init__ (P := P) (w := w) (base := base) T
  have d_NoText___init__ := d_NoText___init__ (P := P) (w := w) (base := base) T
  have d_Reader_taken := d_Reader_taken (P := P) (w := w) (base := base) T
  refine mkDef T.d_read T.g_read sc_read (fun _ _ _ _ _ _ us hl => match us, hl with | [_], _ => rfl) len1 (fun cdv A outer s H vs Q E hr h => ?_)
  obtain ⟨_, rfl, z, U, rfl, hz, hrs, u, q, qe⟩ := h
  have hu := hu_of hr
  refine ⟨_, (pss_cons (ps_set (i := 1) sc_read.nd rfl (Or.inl rfl) (pe_mk0 T.k_Reader d_Reader___init__ (hr.mono (by decide)) (by rfl) T.g_Reader (passes_call (takes_of rfl rfl rfl rfl) fun _ _ _ _ h => h)))
    (pss_cons (ps_set (i := 2) sc_read.nd rfl (Or.inl rfl) (pe_split (pv 0) pe_str))
    (pss_cons (ps_for (passes_of rfl) rfl (pi_enum (by rfl) T.z_enumerate (pa_cons (pe_slice sl_list (pv 2) po_none (po_some (pe_un un_neg pe_int))) pa_nil)) (pg_tup rfl (pgs_cons (pg_name (i := 3) sc_read.nd rfl (Or.inl rfl)) (pgs_cons (pg_name (i := 4) sc_read.nd rfl (Or.inl rfl)) pgs_nil)))
    (pss_one (ps_if (pt_not (pt_val (pe_mt T.c_Reader d_Reader_taken (hr.mono (by decide)) (passes_call (takes_of rfl rfl rfl rfl) fun _ _ _ _ h => h) (pv 1) (pa_cons (pv 4) pa_nil))))
    (pss_one (ps_raise rfl (takes_of rfl rfl rfl rfl) (pmk_nt T.nt d_NoText___init__ (hr.mono (by decide)) passL (by rfl) T.g_NoText (pa_cons (pv 3) pa_nil))))
    pss_nil)))
    (pss_cons (ps_if (pt_cmpR op_ne (pe_ix ix_list (pv 2) (pe_un un_neg pe_int) (fun _ _ => rfl)) pe_str (nomark _))
    (pss_one (ps_raise rfl (takes_of rfl rfl rfl rfl) (pmk_nt T.nt d_NoText___init__ (hr.mono (by decide)) passL (by rfl) T.g_NoText (pa_cons (pe_op op_sub (pe_callB call_len_seq (by rfl) T.z_len (by decide +kernel) (pa_cons (pv 2) pa_nil)) pe_int) pa_nil))))
    pss_nil)
    (pss_one (ps_ret (pe_fld (pv 1) rfl))))))), ?_⟩
  intro r dr nr ndr ndrr
  refine ⟨_, rfl, r, dr, rfl, upd_same, fun H1 p d dp er ep ed np nd kp => ⟨rfl, ?_⟩⟩
  have s1 : Same H H1 := fun b o e => kp b o (by rw [upd_ne (ne_of_none e nr), upd_ne (ne_of_none e ndr)]; exact e) (ne_of_none e nr)
  have P0 : PlayAt K U H1 p d (fun _ => (p, p)) [] := play_new ep ed u
  have np2 : H p = none := by
    by_cases y : p = r
    · rw [y]; exact nr
    · rw [upd_ne y] at np
      by_cases y' : p = dr
      · rw [y']; exact ndr
      · rwa [upd_ne y'] at np
  have nd2 : H d = none := by
    by_cases y : d = r
    · rw [y]; exact nr
    · rw [upd_ne y] at nd
      by_cases y' : d = dr
      · rw [y']; exact ndr
      · rwa [upd_ne y'] at nd
  refine ⟨_, rfl, ⟨_, rfl⟩, _, _, rfl, rfl, by decide +kernel, hz, fun lr nlr => ?_⟩
  obtain ⟨rs, last, hsp⟩ : ∃ rs last, Txt.split z (Str.ofString "\n") = rs ++ [last] := by
    have := PyProof.Rows.split_pos z (Str.ofString "\n")
    rcases List.eq_nil_or_concat (Txt.split z (Str.ofString "\n")) with e | ⟨A, x, e⟩
    · rw [e] at this; simp at this
    · exact ⟨A, x, by rw [e, List.concat_eq_append]⟩
  have hdl := readT_rows hsp
  rw [hsp] at hrs ⊢
  have hrs' := fun x hx => hrs x (List.mem_append.mpr (.inl hx))
  have s2 := same_upd (o := HO.lst ((rs ++ [last]).map V.str)) nlr
  have elr : (upd H1 lr (.lst ((rs ++ [last]).map V.str))) lr = some (.lst ((rs ++ [last]).map V.str)) := upd_same
  refine ⟨_, rfl, _, rfl, _, rfl, _, _, rfl, .inl (.inl elr), fun ls nls => ?_⟩
  have ecut : cutV ((rs ++ [last]).map V.str) none (some (-1)) = rs.map V.str := by rw [List.map_append]; exact cut_but
  rw [ecut]
  have s3 := same_upd (o := HO.lst (rs.map V.str)) nls
  have els : (upd (upd H1 lr (.lst ((rs ++ [last]).map V.str))) ls (.lst (rs.map V.str))) ls = some (.lst (rs.map V.str)) := upd_same
  have elr := s3 _ _ elr
  have s13 := s2.trans s3
  generalize upd (upd H1 lr (.lst ((rs ++ [last]).map V.str))) ls (.lst (rs.map V.str)) = H3 at els elr s13
  have s03 := s1.trans s13
  have pr : p ≠ r := fun y => by rw [y, upd_same] at np; cases np
  have dr' : d ≠ r := fun y => by rw [y, upd_same] at nd; cases nd
  have hfoot : ∀ b, footP p d (fun _ => (p, p)) [] b → b = p ∨ b = d := fun b h => by
    rcases h with h | h | ⟨n, c, h, _⟩
    · exact .inl h
    · exact .inr h
    · cases h
  have offr : ¬ footP p d (fun _ => (p, p)) [] r := fun h => by
    rcases hfoot _ h with h | h
    · exact pr h.symm
    · exact dr' h.symm
  have offl : ∀ {b}, H1 b = none → ¬ footP p d (fun _ => (p, p)) [] b := fun hb h => by
    rcases hfoot _ h with h | h
    · rw [h, ep] at hb; cases hb
    · rw [h, ed] at hb; cases hb
  have offlr := offl nlr
  have offls := offl (s2.free nls)
  refine ⟨ls, _, rfl, .inl (.inl els), for_it (walk_enum (K := K) (a := ls) (xs := rs.map V.str)) (fun i σ H' => ∃ ad Mi v3 v4, σ = [some (.str z), some (.ref r), some (.ref lr), v3, v4] ∧ readRows [] (rs.take i) = some Mi ∧ PlayAt K U H' p d ad Mi ∧ Mv H3 (footP p d (fun _ => (p, p)) []) H' (footP p d ad Mi)) ⟨_, [], none, none, rfl, rfl, P0.same s13, Mv.refl⟩ (fun i σ H' _ ⟨_, _, _, _, _, _, _, m⟩ => .inl (.inl (m.keep els offls).1)) ?_ ?_⟩
  · rintro i x σ H4 H4' hi ⟨ad, Mi, v3, v4, rfl, hMi, hP, mv⟩ ⟨TT, xx, yy, rfl, nT, rfl, hxx, hyy⟩
    have hyy : (rs.map V.str)[i]? = some yy := hyy
    rw [List.getElem?_map] at hyy
    obtain ⟨row, hrow, rfl⟩ := Option.map_eq_some_iff.mp hyy
    have hxx : some (V.int (i : Nat)) = some xx := hxx
    cases hxx
    have sT := same_upd (o := HO.tup [.int (i : Nat), .str row]) nT
    have er4 := (mv.keep (s13 _ _ er) offr).1
    obtain ⟨hlen, hU⟩ := hrs' row (List.mem_of_getElem? hrow)
    refine ⟨TT, _, rfl, .inl (.inl upd_same), rfl, _, _, rfl, _, _, rfl, rfl, ?_⟩
    have old4 : Same H H4 := fun b o e => (mv.keep (s03 _ _ e) fun h => by
      rcases hfoot _ h with h | h
      · rw [h, np2] at e; cases e
      · rw [h, nd2] at e; cases e).1
    refine ⟨_, rfl, r, dr, _, rfl, sT _ _ er4, readerF_no (by decide +kernel), _, rfl, _, _, rfl, r, dr, p, d, ad, Mi, U, row, rfl, rfl, sT _ _ er4, hP.same sT, hlen, hU, fun hn H5 s5 => ⟨_, rfl, iteT ?_⟩, fun M2 e2 H5 ad' P5 ch gr => ⟨_, rfl, iteF ⟨ad', M2, _, _, rfl, ?_, P5, mv.trans ((Mv.same sT).trans ⟨ch, gr⟩)⟩⟩⟩
    · have hk : readT z = .inr i := by
        have e1 : rs = rs.take i ++ row :: rs.drop (i + 1) := by
          have hlt : i < rs.length := (List.getElem?_eq_some_iff.mp hrow).1
          have e2 : rs.drop i = row :: rs.drop (i + 1) := by
            rw [List.drop_eq_getElem_cons hlt]
            congr 1
            exact (List.getElem?_eq_some_iff.mp hrow).2
          rw [← e2, List.take_append_drop]
        have hlt : i < rs.length := (List.getElem?_eq_some_iff.mp hrow).1
        have := readR_stop (b := rs.drop (i + 1)) hMi hn
        rw [← e1, List.length_take, Nat.min_eq_left (Nat.le_of_lt hlt)] at this
        rw [hdl, this]
      refine ⟨_, rfl, by simp, fun a na => ⟨_, _, rfl, a, _, rfl, rfl, upd_same, fun dx ndx ne => ⟨rfl, dx, _, upd_same, by rw [upd_ne ne]; exact upd_same, by rw [upd_ne ne] at ndx; exact ndx, ?_⟩⟩⟩
      have sE := nt_heap (o2 := exd dx [("row", .int (i : Nat))]) (o3 := exo a (He.ga K "NoText") (some dx)) (o4 := .xd [("row", .int (i : Nat))]) na ndx ne
      have sH5 := old4.trans (sT.trans s5)
      have ndx' : H5 dx = none := by rw [upd_ne ne] at ndx; exact ndx
      exact qe i hk _ dx _ (sH5.trans sE) (sH5.free ndx') upd_same (lookup_hit (by decide +kernel))
    · rw [take_snoc hrow, readRows_append _ _ _ _ hMi]
      show (match takeRow Mi row with | some M1 => readRows M1 [] | none => none) = some M2
      rw [e2]; rfl
  · rintro σ H4 ⟨ad, Mi, v3, v4, rfl, hMi, hP, mv⟩
    have e0 : (rs.map V.str).length = rs.length := List.length_map _
    rw [e0, List.take_length] at hMi
    have hdn := readR_done hMi
    rw [hdn] at hdl
    have hdl : readT z = if last = Str.ofString "" then .inl Mi else .inr rs.length := hdl
    have elr4 := (mv.keep elr offlr).1
    have er4 := (mv.keep (s13 _ _ er) offr).1
    have old4 : Same H H4 := fun b o e => (mv.keep (s03 _ _ e) fun h => by
      rcases hfoot _ h with h | h
      · rw [h, np2] at e; cases e
      · rw [h, nd2] at e; cases e).1
    refine ⟨_, rfl, _, rfl, lr, _, _, .str last, rfl, rfl, .inl (.inl elr4), by rw [List.map_append]; exact at_end, rfl, _, rfl, ?_⟩
    by_cases hl : last = Str.ofString ""
    · rw [if_pos hl] at hdl
      refine iteN (by rw [hl]; simp) ⟨_, rfl, r, _, dr, _, _, rfl, er4, T.c_Reader, T.n_Reader_play, readerF_play, q Mi hdl H4 p d ad old4 (fun b hb => ?_) hP⟩
      rcases mv.2 b hb with h | h
      · rcases hfoot _ h with h | h
        · rw [h]; exact np2
        · rw [h]; exact nd2
      · exact s03.free h
    · rw [if_neg hl] at hdl
      refine iteY (by rw [decide_eq_false fun y => hl (V.str.inj y)]; rfl) ?_
      refine ⟨_, rfl, lr, _, rfl, .inl (.inl (.inl elr4)), _, _, rfl, rfl, by simp, fun a na => ⟨_, _, rfl, a, _, rfl, rfl, upd_same, fun dx ndx ne => ⟨rfl, dx, _, upd_same, by rw [upd_ne ne]; exact upd_same, by rw [upd_ne ne] at ndx; exact ndx, ?_⟩⟩⟩
      have sE := nt_heap (o2 := exd dx [("row", .int ((((rs ++ [last]).map V.str).length : Int) - 1))]) (o3 := exo a (He.ga K "NoText") (some dx)) (o4 := .xd [("row", .int ((((rs ++ [last]).map V.str).length : Int) - 1))]) na ndx ne
      have ndx' : H4 dx = none := by rw [upd_ne ne] at ndx; exact ndx
      refine qe rs.length hdl _ dx _ (old4.trans sE) (old4.free ndx') upd_same ?_
      have ei : (((rs ++ [last]).map V.str).length : Int) - 1 = (rs.length : Nat) := by rw [List.length_map, List.length_append]; simp
      rw [ei]
      exact lookup_hit (by decide +kernel)
end

section
variable {P : Program} {w : World} {K : PySem.W.Frag} {mg : Str → Option Value} {base : Heap}
def spLTried10 (K : PySem.W.Frag) : Sp := sp1 fun x H Q _ => ∃ z U, x = .str z ∧ z.length + 2 ≤ sizeLine ∧ (∀ r ∈ Txt.split z "\n", (r.length ≤ 100000 ∧ PyData.strOk r = true) ∧ ((wordsIn r).length = 2 → lampS (at_ (wordsIn r) 0) = true → at_ (wordsIn r) 0 ∈ U)) ∧ Lamps U ∧
  (∀ M, readT z = .inl M → ∀ H' p d ad, Same H H' → (∀ b, footP p d ad M b → H b = none) → PlayAt K U H' p d ad M → Q (.ref p) H') ∧
  (∀ k, readT z = .inr k → ∀ H', Same H H' → Q (.int (k : Nat)) H')
theorem sc__law_tried : FnScope ["_law_text_here", "_law_caught", "_law_found", "_law_e"] ["_law_text_here"] (defScope s__law_tried) := ⟨rfl, rfl, rfl, by decide +kernel, rfl, by decide +kernel, by decide +kernel⟩
theorem d__law_tried (T : Txt K mg) : Def P w K mg base 8 "_law_tried" ["_law_text_here"] (spLTried10 K) := by
  have d_read := d_read (P := P) (w := w) (base := base) T
  have d__law_class := d__law_class (P := P) (w := w) (base := base) T
  have d__law_whole := d__law_whole (P := P) (w := w) (base := base) T
  refine mkDef T.d__law_tried T.g__law_tried sc__law_tried (fun _ _ _ _ _ _ us hl => match us, hl with | [_], _ => rfl) len1 (BodyN.up fun cdv A outer s H vs Q E hr h => ?_)
  obtain ⟨_, rfl, z, U, rfl, hz, hrs, u, q, qe⟩ := h
  have hu := hu_of hr
  refine ⟨_, (pss_cons (ps_set (i := 1) sc__law_tried.nd rfl (Or.inl rfl) pe_non)
    (pss_cons (ps_set (i := 2) sc__law_tried.nd rfl (Or.inl rfl) pe_non)
    (Evl.pss_cut (ps_try_keep (i := 3) rfl rfl sc__law_tried.nd rfl rfl ⟨rfl, by decide, .inl T.g_CueError⟩ takesF (fun W pn xe tk _ => (pss_one (ps_set (i := 2) sc__law_tried.nd rfl (Or.inl rfl) (pe_fnS d_read (hr.mono (by decide)) (by rfl) tk (pa_cons (pv 0) pa_nil))))) (fun a cls d pn => pss_one (ps_set (i := 1) sc__law_tried.nd rfl (Or.inl rfl) (pv 3))))
    (pss_cons (ps_if (pt_cmpR op_isN (pv 1) pe_non (nomark _))
    (pss_one (ps_ret (pv 2)))
    pss_nil)
    (pss_cons (ps_if (PW.pt (pw_or (pt_cmpR op_ne (pe_fn d__law_class (hr.mono (by decide)) (by rfl) passL (pa_cons (pv 1) pa_nil)) pe_str (nomark _)) (pw_or1 (pt_not (pt_val (pe_fn d__law_whole (hr.mono (by decide)) (by rfl) passL (pa_cons (pe_xf2 (pv 1)) pa_nil)))))))
    (pss_one (ps_ret (pe_un un_neg pe_int)))
    pss_nil)
    (pss_one (ps_ret (pe_xf2 (pv 1))))))))), ?_⟩
  refine ⟨fun σ H' => (∃ a dd fs k, σ = [some (.str z), some (.ref a), some .non, none] ∧ H' a = some (XO (.ref (He.ga K "NoText")) (some dd) a) ∧ H' dd = some (.xd fs) ∧ fs.lookup ("row" : Str) = some (.int (k : Nat)) ∧ ∀ H'', Same H' H'' → Q (.int (k : Nat)) H'') ∨ (∃ p, σ = [some (.str z), some .non, some (.ref p), none] ∧ Q (.ref p) H'), ?_, ?_⟩
  · refine ⟨_, rfl, _, rfl, z, U, rfl, hz, hrs, u, fun M hM H' p d ad s f P' => .inr ⟨p, rfl, q M hM H' p d ad s f P'⟩, fun k hk H1 dd fs s1 nd hd hl => ⟨true, T.e_NoText.m, fun _ a na => ⟨_, rfl, .inl ⟨a, dd, fs, k, rfl, upd_same, by rw [upd_ne (ne_of_none hd na)]; exact hd, hl, fun H2 s2 => qe k hk H2 ((s1.trans (same_upd na)).trans s2)⟩⟩, fun y => nomatch y⟩⟩
  · rintro σ H1 (⟨a, dd, fs, k, rfl, ha, hd, hl, qk⟩ | ⟨p, rfl, h⟩)
    · refine ⟨_, rfl, rfl, _, rfl, iteF ?_⟩
      refine ⟨_, rfl, _, rfl, a, _, dd, fs, 6, "text", rfl, ha, hd, T.e_NoText.w rfl, rfl, fun H2 s2 => ⟨rfl, _, rfl, iteN (by simp) ?_⟩⟩
      have ha2 := s2 _ _ ha
      have hd2 := s2 _ _ hd
      exact ⟨_, rfl, a, _, dd, fs, _, rfl, ha2, hd2, T.e_NoText.c, T.nt.r, hl, _, rfl, trivial, _, rfl, iteF ⟨_, rfl, a, _, dd, fs, _, rfl, ha2, hd2, T.e_NoText.c, T.nt.r, hl, qk _ s2⟩⟩
    · exact ⟨_, rfl, rfl, _, rfl, iteT ⟨_, rfl, h⟩⟩
end

/-! ## The law's own reading -/
section
variable {P : Program} {w : World} {K : PySem.W.Frag} {mg : Str → Option Value} {base : Heap}
def fig (c : Nat) : Bool := decide (48 ≤ c) && decide (c ≤ 57)
/-- a text that has another sign -/
def offV (p : Nat → Bool) : V → Bool
  | .str y => !y.cps.toList.all p
  | _ => false
theorem sgn_free {p : Nat → Bool} (l : List Nat) : (((l.map fun c => V.str ⟨#[c]⟩).filter (offV p)).map dV).isEmpty = l.all p := by
  induction l with
  | nil => rfl
  | cons c r ih =>
    rw [List.map_cons, List.filter_cons, List.all_cons]
    have e : (!(⟨#[c]⟩ : Str).cps.toList.all p) = !p c := by simp
    cases h : p c with
    | true =>
      rw [Bool.true_and, ← ih]
      rw [if_neg]
      show ¬ (!(⟨#[c]⟩ : Str).cps.toList.all p) = true
      rw [e, h]; simp
    | false =>
      rw [Bool.false_and, if_pos]
      · rfl
      · show (!(⟨#[c]⟩ : Str).cps.toList.all p) = true
        rw [e, h]; rfl
theorem okS_sign {z : Str} (h : PyData.strOk z = true) {c : Nat} (hc : c ∈ z.cps.toList) : okV (.str ⟨#[c]⟩) = true := okS_one (okS_iff.mp h c hc)
def spLNumIn : Sp := sp1 fun x H Q _ => ∃ z : Str, x = .str z ∧ (z.length ≤ 100000 ∧ PyData.strOk z = true) ∧ ∀ H', Same H H' → Q (.int (numIn z)) H'
theorem sc__law_number_in : FnScope ["_law_word", "_law_sign"] ["_law_word"] (defScope s__law_number_in) := ⟨rfl, rfl, rfl, by decide +kernel, rfl, by decide +kernel, by decide +kernel⟩
theorem d__law_number_in (T : Txt K mg) : Def P w K mg base 1 "_law_number_in" ["_law_word"] (spLNumIn) := by
  refine mkDef T.d__law_number_in T.g__law_number_in sc__law_number_in (fun _ _ _ _ _ _ us hl => match us, hl with | [_], _ => rfl) len1 (BodyN.up fun cdv A outer s H vs Q E hr h => ?_)
  obtain ⟨_, rfl, z, rfl, ⟨hz, hok⟩, q⟩ := h
  have hu := hu_of hr
  refine ⟨_, (pss_cons (ps_if (PW.pt (pw_or (pt_cmpR op_eq (pv 0) pe_str (nomark _)) (pw_or (pt_cmpR op_gt (pe_callB call_len_str (by rfl) T.z_len (by decide +kernel) (pa_cons (pv 0) pa_nil)) pe_int (nomark _)) (pw_or1 (PW.pt (pw_and (pt_cmpR op_eq (pe_ix ix_str (pv 0) pe_int (fun _ _ => rfl)) pe_str (nomark _)) (pw_and1 (pt_cmpR op_ne (pv 0) pe_str (nomark _)))))))))
    (pss_one (ps_ret (pe_un un_neg pe_int)))
    pss_nil)
    (pss_cons (ps_if (pt_cmpR (op_neD hr.units) (pe_lc (own := [("_law_sign", 1)]) rfl sc__law_number_in.nd (pi_str (pv 0)) (blkOk_by (own := [("_law_sign", 1)]) (N := ["_law_word", "_law_sign"]) (sc := defScope s__law_number_in) (by decide +kernel)) (fun _ _ _ _ _ => pg_name (i := 1) sc__law_number_in.nd rfl (Or.inl rfl)) (fun _ _ _ _ _ => (pts_one (pt_cmpR op_notIn_sign (pv 1) pe_str rfl))) (fun _ _ _ _ _ => (pv 1))) (pe_lst pa_nil) (nomark _))
    (pss_one (ps_ret (pe_un un_neg pe_int)))
    pss_nil)
    (pss_one (ps_ret (pe_callTy call_int_str (by rfl) T.z_int (by decide +kernel) (pa_cons (pv 0) pa_nil)))))), ?_⟩
  have hs : z.length ≤ sizeLine := Nat.le_trans hz (by rw [sizeLine_eq]; decide)
  have hlen : z.cps.toList.length = z.length := Array.length_toList
  have back : ∀ H', Same H H' → numIn z = -1 → Q (.int (-1)) H' := fun H' s e => by have := q H' s; rwa [e] at this
  have hrow : ∀ H', Same H H' → z.length = 0 ∨ 6 < z.length ∨ figS z = false → Q (.int (-1)) H' := fun H' s e => back H' s (by unfold numIn; rw [if_pos e])
  refine ⟨_, rfl, rfl, _, rfl, ite2 (fun c1 => ?_) (fun c1 => ?_)⟩
  · have e : z = Str.ofString "" := V.str.inj (of_decide_eq_true c1)
    exact iteT ⟨_, rfl, hrow H (Same.refl H) (.inl (by rw [e]; decide +kernel))⟩
  have h1 : 1 ≤ z.length := by
    rcases Nat.eq_zero_or_pos z.length with y | y
    · refine absurd (decide_eq_true ?_) c1
      have : z = Str.ofString "" := TL.ext_tl (by
        show z.cps.toList = (Str.ofString "").cps.toList
        rw [List.length_eq_zero_iff.mp (hlen.trans y)]
        decide +kernel)
      rw [this]
    · exact y
  refine ⟨_, rfl, _, rfl, hs, _, _, rfl, rfl, _, rfl, ite2 (fun c2 => ?_) (fun c2 => ?_)⟩
  · exact iteT ⟨_, rfl, hrow H (Same.refl H) (.inr (.inl (by have := of_decide_eq_true c2; omega)))⟩
  have h2 : z.length ≤ 6 := by
    rcases Nat.lt_or_ge 6 z.length with y | y
    · exact absurd (decide_eq_true (show (6 : Int) < z.length by omega)) c2
    · exact y
  obtain ⟨c0, r0, hc0⟩ : ∃ c0 r0, z.cps.toList = c0 :: r0 := by
    cases e : z.cps.toList with
    | nil => rw [e] at hlen; simp at hlen; omega
    | cons a b => exact ⟨a, b, rfl⟩
  refine ⟨_, rfl, _, _, c0, rfl, rfl, hs, by rw [hc0]; exact atI_nat (j := 0) rfl, rfl, _, rfl, ite_shareG (G := ¬ (z.cps.toList.head? = some 48 ∧ z ≠ "0")) (fun hG => iteF ?_) (fun h => ?_) (fun h hR => ?_)⟩
  · -- the signs
    refine ⟨_, rfl, z, rfl, ?_⟩
    intro D nD
    refine lc_pure (walk_sgn (z := z)) nD (offV fig) id ?_ (fun _ => rfl) (fun _ _ => trivial) ?_ ?_ ?_
    · rw [sgn, List.length_map, sizeLine_eq]
      omega
    · intro v hv H' s1 Q' k
      obtain ⟨c, _, rfl⟩ := List.mem_map.mp hv
      refine ⟨_, rfl, _, _, rfl, rfl, _, rfl, ?_⟩
      rw [mem_figures]
      have := k H' (Same.refl _)
      simpa [fig, offV] using this
    · exact fun v _ _ H5 s5 Q' k => ⟨_, rfl, k H5 (Same.refl _)⟩
    · intro H2 s2 hD
      rw [List.map_id, sgn] at hD
      refine ⟨by simp, fun e0 ne0 => ?_⟩
      have s3 := same_upd (o := HO.lst []) ne0
      have okx : ∀ x ∈ (z.cps.toList.map fun c => V.str ⟨#[c]⟩).filter (offV fig), okV x = true := fun x hx => by
        obtain ⟨c, hc, rfl⟩ := List.mem_map.mp (List.mem_filter.mp hx).1
        exact okS_sign hok hc
      refine neD_nil (dat_lst (K := K) (.inl (.inl (s3 _ _ hD))) okx) upd_same (by decide) ⟨_, rfl, ?_⟩
      rw [sgn_free]
      have s23 := s2.trans s3
      have hfg : z.cps.toList.all fig = figS z := rfl
      rw [hfg]
      cases hf : figS z with
      | false => exact iteT ⟨_, rfl, hrow _ s23 (.inr (.inr hf))⟩
      | true =>
        have hint : intText? z = some ((NumText.digitsVal z.cps.toList : Nat) : Int) := PySem.intText_digits (figS_iff.mp hf) (by rw [hc0]; simp) (by omega)
        refine iteF ⟨_, rfl, z, _, rfl, hint, by omega, ?_⟩
        have := q _ s23
        rw [numIn_pos h1 h2 hf, if_neg hG] at this
        exact this
  · rintro ⟨y, y2⟩
    rw [hc0] at y
    have y : c0 = 48 := Option.some.inj y
    refine h (decide_eq_true ?_)
    rw [y]
    decide +kernel
  · refine ⟨_, rfl, rfl, _, rfl, ?_⟩
    by_cases c3 : z = Str.ofString "0"
    · rw [show (!decide (V.str z = V.str (Str.ofString "0"))) = false by rw [c3]; simp]
      exact hR fun y => y.2 c3
    · refine iteY (by rw [decide_eq_false fun y => c3 (V.str.inj y)]; rfl) ⟨_, rfl, back H (Same.refl H) ?_⟩
      have h48 : c0 = 48 := by
        have e := V.str.inj (of_decide_eq_true h)
        have e2 := congrArg (fun y : Str => y.cps.toList) e
        have e3 : (Str.ofString "0").cps.toList = [48] := by decide +kernel
        rw [e3] at e2
        simpa using e2
      unfold numIn
      split
      · rfl
      · rw [if_pos ⟨by rw [hc0, h48]; rfl, c3⟩]
end

section
variable {K : PySem.W.Frag} {H : Hp} {d : Addr} {ad : Ads} {M : Book}
theorem cue_last {n : Int} {c : CueC} (U : List Str) (g : Good U M) (h : lastN M < n) : put ltI n c M = M ++ [(n, c)] := put_last fun x hx => by have := last_ge g hx; omega
theorem last_in (hM : M ≠ []) : lastN M ∈ M.map (·.1) := by
  rcases List.eq_nil_or_concat M with rfl | ⟨A, x, rfl⟩
  · exact absurd rfl hM
  · rw [List.concat_eq_append]
    have : lastN (A ++ [x]) = x.1 := by unfold lastN; simp
    rw [this]; simp
theorem tab_add {n u dn : Int} {f : Bool} {w1 r : Addr} {kvs : List (Key × V)} (T : TabAt RcM none H d ad M) (hd : H d = some (.dK kvs)) (nw : H w1 = none) (nr : upd H w1 (.dK []) r = none) :
    TabAt RcM none (upd (upd (upd H w1 (.dK [])) r (.lst [.int u, .int dn, .bl f, .ref w1])) d (.dK (putK kvs (Sum.inl n) (.ref r)))) d (adSet ad n (r, w1)) (put ltI n ⟨u, dn, f, []⟩ M) ∧
    Mv H (foot d ad M) (upd (upd (upd H w1 (.dK [])) r (.lst [.int u, .int dn, .bl f, .ref w1])) d (.dK (putK kvs (Sum.inl n) (.ref r)))) (foot d (adSet ad n (r, w1)) (put ltI n ⟨u, dn, f, []⟩ M)) := by
  have s1 := same_upd (o := HO.dK []) nw
  have s2 := s1.trans (same_upd (o := HO.lst [.int u, .int dn, .bl f, .ref w1]) nr)
  have nw2 : ¬ foot d ad M w1 := fun h => by obtain ⟨o, e⟩ := T.has h; rw [nw] at e; cases e
  have nr2 : ¬ foot d ad M r := fun h => by obtain ⟨o, e⟩ := T.has h; rw [s1.free nr] at e; cases e
  have rw' : r ≠ w1 := fun y => by rw [y, upd_same] at nr; cases nr
  have wd : w1 ≠ d := (ne_of_none hd nw).symm
  have rd : r ≠ d := (ne_of_none hd (s1.free nr)).symm
  refine ⟨(T.same s2).add (c := ⟨u, dn, f, []⟩) (s2 _ _ hd) upd_same (by rw [upd_ne rd]; exact upd_same) rfl ⟨[], by rw [upd_ne wd, upd_ne rw'.symm]; exact upd_same, .nil⟩ nr2 nw2 rw' (fun b o _ ne e => by rw [upd_ne ne]; exact e), fun b o e nf => ?_, fun b h => ?_⟩
  · rw [upd_ne fun y => nf (.inl y)]; exact s2 _ _ e
  · rcases foot_add h with h | h | h
    · exact .inl h
    · exact .inr (h ▸ s1.free nr)
    · exact .inr (h ▸ nw)
end
section
variable {P : Program} {w : World} {K : PySem.W.Frag} {mg : Str → Option Value} {base : Heap}
def spLCueIn (K : PySem.W.Frag) : Sp := sp2 fun a m H Q _ => ∃ l ws d am M U, a = .ref l ∧ m = .ref d ∧ H l = some (.lst (ws.map V.str)) ∧ (∀ z ∈ ws, z.length ≤ 100000 ∧ PyData.strOk z = true) ∧ (ws.length = 4 ∨ ws.length = 5) ∧ TabAt RcM none H d am M ∧ Good U M ∧
  (takeCue M ws = none → ∀ H', Same H H' → Q (.bl false) H') ∧ (∀ M', takeCue M ws = some M' → ∀ H' am', TabAt RcM none H' d am' M' → Mv H (foot d am M) H' (foot d am' M') → Q (.bl true) H')
theorem sc__law_cue_in : FnScope ["_law_words", "_law_model", "_law_numbers_here", "_law_word"] ["_law_words", "_law_model"] (defScope s__law_cue_in) := ⟨rfl, rfl, rfl, by decide +kernel, rfl, by decide +kernel, by decide +kernel⟩
theorem d__law_cue_in (T : Txt K mg) : Def P w K mg base 2 "_law_cue_in" ["_law_words", "_law_model"] (spLCueIn K) := by
  have d__law_number_in := d__law_number_in (P := P) (w := w) (base := base) T
  refine mkDef T.d__law_cue_in T.g__law_cue_in sc__law_cue_in (fun _ _ _ _ _ _ us hl => match us, hl with | [_, _], _ => rfl) len2 (BodyN.up fun cdv A outer s H vs Q E hr h => ?_)
  obtain ⟨_, _, rfl, l, ws, d, am, M, U, rfl, rfl, hl, hz, hws, hT, g, qn, qs⟩ := h
  have hu := hu_of hr
  refine ⟨_, (pss_cons (ps_setLc (i := 2) (own := [("_law_word", 3)]) rfl sc__law_cue_in.nd rfl rfl (sw_true rfl rfl rfl (by decide +kernel)) (pi_list (pe_slice sl_list (pv 0) (po_some pe_int) (po_some pe_int))) (blkOk_by (own := [("_law_word", 3)]) (N := ["_law_words", "_law_model", "_law_numbers_here", "_law_word"]) (sc := defScope s__law_cue_in) (by decide +kernel)) (fun _ _ _ _ _ => pg_name (i := 3) sc__law_cue_in.nd rfl (Or.inl rfl)) (fun _ _ _ _ _ => pts_nil) (fun _ _ _ _ _ => (pe_fn d__law_number_in (hr.mono (by decide)) (by rfl) passL (pa_cons (pv 3) pa_nil))))
    (pss_cons (ps_if (PW.pt (pw_or (PW.pt (pw_and (pt_cmpR op_eq (pe_callB call_len_seq (by rfl) T.z_len (by decide +kernel) (pa_cons (pv 0) pa_nil)) pe_int (nomark _)) (pw_and1 (pt_cmpR op_ne (pe_ix ix_list (pv 0) pe_int (fun _ _ => rfl)) pe_str (nomark _))))) (pw_or1 (pt_cmpR op_ge (pe_callB call_lenR (by rfl) T.z_len (by decide +kernel) (pa_cons (pv 1) pa_nil)) pe_int (nomark _)))))
    (pss_one (ps_ret pe_bl))
    pss_nil)
    (pss_cons (ps_if (PW.pt (pw_or (pt_not (pt_cmpR op_le pe_int (pe_ix ix_list (pv 2) pe_int (fun _ _ => rfl)) (nomark _))) (pw_or1 (pt_cmpR op_ge (pe_callB (cr_max rfl) (by rfl) T.z_max (by decide +kernel) (pa_cons (pe_op op_catS (pe_lst (pa_cons pe_int pa_nil)) (pe_callTy (call_listD rfl) (by rfl) T.z_list (by decide +kernel) (pa_cons (pv 1) pa_nil))) pa_nil)) (pe_ix ix_list (pv 2) pe_int (fun _ _ => rfl)) (nomark _)))))
    (pss_one (ps_ret pe_bl))
    pss_nil)
    (pss_cons (ps_if (PW.pt (pw_or (pt_not (pt_chain op_le op_le pe_int (pe_ix ix_list (pv 2) pe_int (fun _ _ => rfl)) pe_int)) (pw_or1 (pt_not (pt_chain op_le op_le pe_int (pe_ix ix_list (pv 2) pe_int (fun _ _ => rfl)) pe_int)))))
    (pss_one (ps_ret pe_bl))
    pss_nil)
    (pss_cons (ps_dput hu (pv 1) (pe_ix ix_list (pv 2) pe_int (fun _ _ => rfl)) (pe_lst (pa_cons (pe_ix ix_list (pv 2) pe_int (fun _ _ => rfl)) (pa_cons (pe_ix ix_list (pv 2) pe_int (fun _ _ => rfl)) (pa_cons (pe_cmpR op_eq (pe_callB call_len_seq (by rfl) T.z_len (by decide +kernel) (pa_cons (pv 0) pa_nil)) pe_int (nomark _)) (pa_cons pe_dnewK pa_nil))))) rfl)
    (pss_one (ps_ret pe_bl))))))), ?_⟩
  obtain ⟨w0, w1, w2, w3, t, rfl, ht⟩ := words5 hws
  have hcut : cutV ((w0 :: w1 :: w2 :: w3 :: t).map V.str) (some 1) (some 4) = [w1, w2, w3].map V.str := by
    rcases ht with rfl | ⟨w4, rfl⟩ <;> rfl
  refine ⟨_, rfl, _, rfl, _, rfl, _, _, rfl, .inl (.inl hl), fun sl nsl => ?_⟩
  rw [hcut]
  have s1 := same_upd (o := HO.lst ([w1, w2, w3].map V.str)) nsl
  refine ⟨sl, rfl, ⟨_, .inl (.inl upd_same)⟩, fun D nD => ?_⟩
  refine lc_pure (walk_list (K := K) (a := sl) (xs := [w1, w2, w3].map V.str)) nD yes (fun v => match v with | .str z => .int (numIn z) | _ => .non) (by simp [sizeLine_eq]) (fun _ => rfl) (fun H5 s5 => .inl (.inl (s5 _ _ upd_same))) (fun x _ H _ Q' k => tt_yes x k) ?_ ?_
  · intro y hy _ H5 s5 Q' kk
    obtain ⟨z, hz', rfl⟩ := List.mem_map.mp hy
    exact ⟨_, rfl, _, rfl, z, rfl, hz z (by simp at hz' ⊢; rcases hz' with rfl | rfl | rfl <;> simp), fun H6 s6 => kk H6 s6⟩
  intro H5 s5 hD
  rw [filter_yes] at hD
  have hD : H5 D = some (.lst [.int (numIn w1), .int (numIn w2), .int (numIn w3)]) := hD
  have s05 := s1.trans s5
  have hl5 := s05 _ _ hl
  have hT5 := hT.same s05
  have le5 : (((w0 :: w1 :: w2 :: w3 :: t).map V.str).length : Int) = ((w0 :: w1 :: w2 :: w3 :: t).length : Int) := by rw [List.length_map]
  refine ⟨_, rfl, l, _, rfl, .inl (.inl (.inl hl5)), rfl, _, rfl, ite_shareG (G := (w0 :: w1 :: w2 :: w3 :: t).length = 5 → at_ (w0 :: w1 :: w2 :: w3 :: t) 4 = "fresh") (fun hG => iteF ?_) (fun h e => ?_) (fun h hR => ?_)⟩
  · obtain ⟨kvs, hd5, tk⟩ := hT5.top
    have hd5 : H5 d = some (.dK kvs) := hd5
    have tl := tk.len g.srt
    obtain ⟨n1lo, n1hi⟩ := numIn_rng w1
    have nn := last_nn g
    have none_of : ¬ (lastN M < numIn w1 ∧ (0 ≤ numIn w2 ∧ numIn w2 ≤ 6000) ∧ (0 ≤ numIn w3 ∧ numIn w3 ≤ 6000) ∧ M.length < 100) → takeCue M (w0 :: w1 :: w2 :: w3 :: t) = none := fun h => by
      unfold takeCue
      exact if_neg fun z => h z.2
    refine ⟨_, rfl, d, kvs, rfl, .inl hd5, _, _, rfl, rfl, _, rfl, ite2 (fun c1 => ?_) (fun c1 => ?_)⟩
    · have c1 : (100 : Int) ≤ kvs.length := of_decide_eq_true c1
      exact qn (none_of fun z => by omega) H5 s05
    have c1 : ¬ (100 : Int) ≤ kvs.length := fun z => c1 (decide_eq_true z)
    have hl100 : M.length < 100 := by omega
    refine ⟨_, rfl, D, _, _, _, rfl, rfl, .inl (.inl hD), rfl, _, _, rfl, rfl, _, rfl, ?_⟩
    by_cases h1 : 1 ≤ numIn w1
    · refine iteN (by rw [decide_eq_true h1]; rfl) ?_
      obtain ⟨ks, hk, hnd, hmem⟩ := tk.keys
      have hkl : ks.length = M.length := by
        have := congrArg List.length hk
        rw [List.length_map, List.length_map] at this
        omega
      refine ⟨by simp [sizeLine_eq], fun l1 nl1 => ?_⟩
      have s6 := same_upd (o := HO.lst [V.int 0]) nl1
      refine ⟨_, rfl, d, kvs, rfl, .inl (s6 _ _ hd5), fun l2 nl2 => ?_⟩
      have ek : (kvs.map fun kv => kV kv.1) = ks.map V.int := by
        have := congrArg (List.map kV) hk
        rw [List.map_map, List.map_map] at this
        exact this
      rw [ek]
      have s7 := same_upd (o := HO.lst (ks.map V.int)) nl2
      refine ⟨l1, l2, _, _, rfl, rfl, .inl (.inl (s7 _ _ upd_same)), .inl (.inl upd_same), by rw [List.length_map, hkl, sizeLine_eq]; simp; omega, fun l3 nl3 => ?_⟩
      have s8 := same_upd (o := HO.lst ([V.int 0] ++ ks.map V.int)) nl3
      have s58 := s6.trans (s7.trans s8)
      have el3 : (upd (upd (upd H5 l1 (.lst [V.int 0])) l2 (.lst (ks.map V.int))) l3 (.lst ([V.int 0] ++ ks.map V.int))) l3 = some (.lst ((0 :: ks).map V.int)) := upd_same
      generalize upd (upd (upd H5 l1 (.lst [V.int 0])) l2 (.lst (ks.map V.int))) l3 (.lst ([V.int 0] ++ ks.map V.int)) = H8 at s58 el3
      have hD8 := s58 _ _ hD
      refine ⟨l3, 0 :: ks, rfl, .inl (.inl el3), by simp, fun m hm hmax => ?_⟩
      have em : m = lastN M := by
        have h0 := hmax 0 (by simp)
        rcases List.mem_cons.mp hm with rfl | hm
        · by_cases hM : M = []
          · rw [hM]; rfl
          · have := hmax _ (List.mem_cons_of_mem _ ((hmem _).mpr (last_in hM)))
            omega
        · obtain ⟨e, he, e1⟩ := List.mem_map.mp ((hmem _).mp hm)
          have hM : M ≠ [] := fun z => by rw [z] at he; cases he
          have h2 := hmax _ (List.mem_cons_of_mem _ ((hmem _).mpr (last_in hM)))
          have h3 := last_ge g he
          omega
      subst em
      refine ⟨_, rfl, D, _, _, _, rfl, rfl, .inl (.inl hD8), rfl, _, _, rfl, rfl, _, rfl, ite2 (fun c2 => ?_) (fun c2 => ?_)⟩
      · have c2 : numIn w1 ≤ lastN M := of_decide_eq_true c2
        exact qn (none_of fun z => by omega) H8 (s05.trans s58)
      have c2 : lastN M < numIn w1 := by
        have : ¬ numIn w1 ≤ lastN M := fun z => c2 (decide_eq_true z)
        omega
      have no : ¬ ((0 ≤ numIn w2 ∧ numIn w2 ≤ 6000) ∧ (0 ≤ numIn w3 ∧ numIn w3 ≤ 6000)) → Q (.bl false) H8 := fun h => qn (none_of fun z => h ⟨z.2.1, z.2.2.1⟩) H8 (s05.trans s58)
      -- the fades
      refine ⟨_, rfl, D, _, _, _, rfl, rfl, .inl (.inl hD8), rfl, _, _, rfl, rfl, _, rfl, ?_⟩
      by_cases f1 : 0 ≤ numIn w2
      · rw [if_pos (decide_eq_true f1)]
        refine ⟨_, _, rfl, rfl, _, rfl, ?_⟩
        by_cases f2 : numIn w2 ≤ 6000
        · refine iteN (by rw [decide_eq_true f2]; rfl) ?_
          refine ⟨_, rfl, D, _, _, _, rfl, rfl, .inl (.inl hD8), rfl, _, _, rfl, rfl, _, rfl, ?_⟩
          by_cases f3 : 0 ≤ numIn w3
          · rw [if_pos (decide_eq_true f3)]
            refine ⟨_, _, rfl, rfl, _, rfl, ?_⟩
            by_cases f4 : numIn w3 ≤ 6000
            · rw [decide_eq_true f4]
              refine iteF ?_
              have s08 := s05.trans s58
              have hl8 := s08 _ _ hl
              have hd8 := s58 _ _ hd5
              have T8 := hT.same s08
              refine ⟨_, rfl, D, _, _, _, rfl, rfl, .inl (.inl hD8), rfl, _, rfl, D, _, _, _, rfl, rfl, .inl (.inl hD8), rfl, _, rfl, l, _, rfl, .inl (.inl (.inl hl8)), rfl, fun w nw => ⟨by simp [sizeLine_eq], fun r nr => ?_⟩⟩
              obtain ⟨T9, m9⟩ := tab_add (n := numIn w1) (u := numIn w2) (dn := numIn w3) (f := decide (V.int (((w0 :: w1 :: w2 :: w3 :: t).map V.str).length : Int) = V.int 5)) T8 hd8 nw nr
              have sr := (same_upd (o := HO.dK []) nw).trans (same_upd (o := HO.lst [.int (numIn w2), .int (numIn w3), .bl (decide (V.int (((w0 :: w1 :: w2 :: w3 :: t).map V.str).length : Int) = V.int 5)), .ref w]) nr)
              refine ⟨_, rfl, _, rfl, D, _, _, _, rfl, rfl, .inl (.inl (sr _ _ hD8)), rfl, d, _, rfl, DPut.k (kvs := kvs) (k := Sum.inl (numIn w1)) (sr _ _ hd8) (by rw [sizeLine_eq]; omega), ?_⟩
              have e : takeCue M (w0 :: w1 :: w2 :: w3 :: t) = some (put ltI (numIn w1) ⟨numIn w2, numIn w3, decide (V.int (((w0 :: w1 :: w2 :: w3 :: t).map V.str).length : Int) = V.int 5), []⟩ M) := by
                unfold takeCue
                rw [if_pos ⟨hG, c2, ⟨f1, f2⟩, ⟨f3, f4⟩, hl100⟩, cue_last U g c2]
                have ed : decide ((w0 :: w1 :: w2 :: w3 :: t).length = 5) = decide (V.int (((w0 :: w1 :: w2 :: w3 :: t).map V.str).length : Int) = V.int 5) := by
                  rw [le5]
                  by_cases h5 : (w0 :: w1 :: w2 :: w3 :: t).length = 5
                  · rw [decide_eq_true h5, h5]; rfl
                  · rw [decide_eq_false h5, decide_eq_false fun z => h5 (by have := V.int.inj z; omega)]
                rw [ed]; rfl
              exact qs _ e _ _ T9 ((Mv.same s08).trans m9)
            · rw [decide_eq_false f4]
              exact iteT (no fun z => f4 z.2.2)
          · rw [if_neg (by simpa using f3)]
            exact ⟨_, rfl, iteT (no fun z => f3 z.2.1)⟩
        · refine iteY (by rw [decide_eq_false f2]; rfl) (iteT (no fun z => f2 z.1.2))
      · rw [if_neg (by simpa using f1)]
        exact ⟨_, rfl, iteT (iteT (no fun z => f1 z.1.1))⟩
    · refine iteY (by rw [decide_eq_false h1]; rfl) (iteT (qn (none_of fun z => by omega) H5 s05))
  · refine absurd (decide_eq_true ?_) h
    show V.int _ = V.int 5
    rw [le5, e]; rfl
  · have e5 : (w0 :: w1 :: w2 :: w3 :: t).length = 5 := by
      have := V.int.inj (of_decide_eq_true h)
      rw [le5] at this
      omega
    rcases ht with rfl | ⟨w4, rfl⟩
    · simp at e5
    refine ⟨_, rfl, l, _, _, _, rfl, rfl, .inl (.inl hl5), rfl, rfl, _, rfl, ?_⟩
    by_cases c4 : w4 = Str.ofString "fresh"
    · rw [show (!decide (V.str w4 = V.str (Str.ofString "fresh"))) = false by rw [decide_eq_true (by rw [c4])]; rfl]
      exact hR fun _ => c4
    · refine iteY (by rw [decide_eq_false fun y => c4 (V.str.inj y)]; rfl) (iteT ?_)
      refine qn ?_ H5 s05
      unfold takeCue
      exact if_neg fun z => c4 (z.1 rfl)
end

/-- a key not below another one -/
def geV (w : Str) : V → Bool
  | .str y => !decide (y.cps.toList < w.cps.toList)
  | _ => false
theorem keys_below {w : Str} : ∀ (ls : List Str), (((ls.map V.str).filter (geV w)).map dV).isEmpty = ls.all fun y => decide (ltS y w)
  | [] => rfl
  | y :: r => by
    have ih := keys_below (w := w) r
    have e : geV w (.str y) = !decide (ltS y w) := by
      show (!decide (y.cps.toList < w.cps.toList)) = _
      rw [← PyProof.Rows.ltCps_eq]
      congr 1
      by_cases h : ltS y w
      · rw [decide_eq_true h]; exact h
      · rw [decide_eq_false h]; exact Bool.eq_false_iff.mpr h
    rw [List.map_cons, List.filter_cons, List.all_cons, e]
    cases h : decide (ltS y w) with
    | true => rw [Bool.true_and, ← ih]; rfl
    | false => rfl
theorem below_last {ws : Ws} {l : Str} (hs : Rising ltS ws) (h : ∀ w, ws.getLast? = some w → ltS w.1 l) : ∀ x ∈ ws, ltS x.1 l := fun x hx => by
  rcases List.eq_nil_or_concat ws with hn | ⟨B, y, hn⟩
  · rw [hn] at hx; cases hx
  · rw [List.concat_eq_append] at hn
    rw [hn] at hx hs h
    have hy : ltS y.1 l := h y (by simp)
    rcases List.mem_append.mp hx with hx | hx
    · exact linS.tr _ _ _ ((rising_snoc hs).2 x hx) hy
    · rw [List.mem_singleton.mp hx]; exact hy
theorem set_last {A : Book} {e : Int × CueC} {l : Str} {v : Int} (hA : ∀ x ∈ A, x.1 < e.1) (hlt : ∀ x ∈ e.2.words, ltS x.1 l) : setW e.1 (put ltS l v) (A ++ [e]) = (A ++ [e]).dropLast ++ [(e.1, { e.2 with words := e.2.words ++ [(l, v)] })] := by
  rw [List.dropLast_concat]
  unfold setW
  rw [List.map_append]
  have h1 : A.map (fun e' : Int × CueC => if e'.1 = e.1 then (e'.1, ({ e'.2 with words := put ltS l v e'.2.words } : CueC)) else e') = A := by
    refine (List.map_congr_left (g := id) fun x hx => ?_).trans (List.map_id A)
    show (if x.1 = e.1 then _ else _) = x
    rw [if_neg (by have := hA x hx; omega)]
  rw [h1]
  simp only [List.map_cons, List.map_nil, if_true, put_lastS hlt]
section
variable {P : Program} {w : World} {K : PySem.W.Frag} {mg : Str → Option Value} {base : Heap}
def spLWordIn (K : PySem.W.Frag) : Sp := sp2 fun a m H Q _ => ∃ l w0 w1 d am M U, a = .ref l ∧ m = .ref d ∧ H l = some (.lst ([w0, w1].map V.str)) ∧ (w0.length ≤ 100000 ∧ PyData.strOk w0 = true) ∧ (w1.length ≤ 100000 ∧ PyData.strOk w1 = true) ∧ TabAt RcM none H d am M ∧ Good U M ∧ Lamps U ∧
  (takeWord M [w0, w1] = none → ∀ H', Same H H' → Q (.bl false) H') ∧ (∀ M', takeWord M [w0, w1] = some M' → ∀ H' am', TabAt RcM none H' d am' M' → Mv H (foot d am M) H' (foot d am' M') → Q (.bl true) H')
theorem sc__law_word_in : FnScope ["_law_words", "_law_model", "_law_lamp", "_law_others", "_law_sign", "_law_level_here", "_law_told", "_law_one"] ["_law_words", "_law_model"] (defScope s__law_word_in) := ⟨rfl, rfl, rfl, by decide +kernel, rfl, by decide +kernel, by decide +kernel⟩
theorem d__law_word_in (T : Txt K mg) : Def P w K mg base 2 "_law_word_in" ["_law_words", "_law_model"] (spLWordIn K) := by
  have d__law_number_in := d__law_number_in (P := P) (w := w) (base := base) T
  refine mkDef T.d__law_word_in T.g__law_word_in sc__law_word_in (fun _ _ _ _ _ _ us hl => match us, hl with | [_, _], _ => rfl) len2 (BodyN.up fun cdv A outer s H vs Q E hr h => ?_)
  obtain ⟨_, _, rfl, l, w0, w1, d, am, M, U, rfl, rfl, hl, ⟨hz0, hk0⟩, hw1, hT, g, u, qn, qs⟩ := h
  have hu := hu_of hr
  refine ⟨_, (pss_cons (ps_set (i := 2) sc__law_word_in.nd rfl (Or.inr rfl) (pe_ix ix_list (pv 0) pe_int (fun _ _ => rfl)))
    (pss_cons (ps_setLc (i := 3) (own := [("_law_sign", 4)]) rfl sc__law_word_in.nd rfl rfl (sw_true rfl rfl rfl (by decide +kernel)) (pi_str (pv 2)) (blkOk_by (own := [("_law_sign", 4)]) (N := ["_law_words", "_law_model", "_law_lamp", "_law_others", "_law_sign", "_law_level_here", "_law_told", "_law_one"]) (sc := defScope s__law_word_in) (by decide +kernel)) (fun _ _ _ _ _ => pg_name (i := 4) sc__law_word_in.nd rfl (Or.inl rfl)) (fun _ _ _ _ _ => (pts_one (pt_cmpR op_notIn_sign (pv 4) pe_str rfl))) (fun _ _ _ _ _ => (pv 4)))
    (pss_cons (ps_set (i := 5) sc__law_word_in.nd rfl (Or.inl rfl) (pe_fn d__law_number_in (hr.mono (by decide)) (by rfl) passL (pa_cons (pe_ix ix_list (pv 0) pe_int (fun _ _ => rfl)) pa_nil)))
    (pss_cons (ps_if (PW.pt (pw_or (pt_cmpR (op_eqK hr) (pv 1) pe_dnewK (nomark _)) (pw_or (pt_cmpR (op_neD hr.units) (pv 3) (pe_lst pa_nil) (nomark _)) (pw_or (pt_not (pt_chain op_lt op_lt pe_int (pe_callB call_len_str (by rfl) T.z_len (by decide +kernel) (pa_cons (pv 2) pa_nil)) pe_int)) (pw_or1 (pt_not (pt_chain op_le op_le pe_int (pv 5) pe_int)))))))
    (pss_one (ps_ret pe_bl))
    pss_nil)
    (pss_cons (ps_set (i := 6) sc__law_word_in.nd rfl (Or.inl rfl) (pe_ix ix_list (pe_dget (by exact hu) (pv 1) (pe_callB (cr_maxDK rfl) (by rfl) T.z_max (by decide +kernel) (pa_cons (pv 1) pa_nil)) (fun _ _ => rfl)) pe_int (fun _ _ => rfl)))
    (pss_cons (ps_if (pt_cmpR (op_neD hr.units) (pe_lock (pe_lc (own := [("_law_one", 7)]) rfl sc__law_word_in.nd (pi_keys (pv 6)) (blkOk_by (own := [("_law_one", 7)]) (N := ["_law_words", "_law_model", "_law_lamp", "_law_others", "_law_sign", "_law_level_here", "_law_told", "_law_one"]) (sc := defScope s__law_word_in) (by decide +kernel)) (fun _ _ _ _ _ => pg_name (i := 7) sc__law_word_in.nd rfl (Or.inl rfl)) (fun _ _ _ _ _ => (pts_one (pt_cmpR op_ge_str (pv 7) (pv 2) (nomark _)))) (fun _ _ _ _ _ => (pv 7)) /-LOCK-/)) (pe_lst pa_nil) (nomark _))
    (pss_one (ps_ret pe_bl))
    pss_nil)
    (pss_cons (ps_dput hu (pv 6) (pv 2) (pv 5) rfl)
    (pss_one (ps_ret pe_bl))))))))), ?_⟩
  have hs0 : w0.length ≤ sizeLine := Nat.le_trans hz0 (by rw [sizeLine_eq]; decide)
  refine ⟨_, rfl, l, _, _, .str w0, rfl, rfl, .inl (.inl hl), rfl, ?_⟩
  refine ⟨_, rfl, w0, rfl, ?_⟩
  intro D nD
  refine lc_pure (walk_sgn (z := w0)) nD (offV letter) id ?_ (fun _ => rfl) (fun _ _ => trivial) ?_ ?_ ?_
  · rw [sgn, List.length_map, sizeLine_eq]
    have : w0.cps.toList.length = w0.length := Array.length_toList
    omega
  · intro v hv H' s1 Q' k
    obtain ⟨c, _, rfl⟩ := List.mem_map.mp hv
    refine ⟨_, rfl, _, _, rfl, rfl, _, rfl, ?_⟩
    rw [mem_letters]
    have := k H' (Same.refl _)
    simpa [offV] using this
  · exact fun v _ _ H5 s5 Q' k => ⟨_, rfl, k H5 (Same.refl _)⟩
  intro H2 s2 hD
  rw [List.map_id, sgn] at hD
  have okx : ∀ x ∈ (w0.cps.toList.map fun c => V.str ⟨#[c]⟩).filter (offV letter), okV x = true := fun x hx => by
    obtain ⟨c, hc, rfl⟩ := List.mem_map.mp (List.mem_filter.mp hx).1
    exact okS_sign hk0 hc
  refine ⟨_, rfl, l, _, _, .str w1, rfl, rfl, .inl (.inl (s2 _ _ hl)), rfl, _, rfl, w1, rfl, hw1, fun H3 s3 => ?_⟩
  have s03 := s2.trans s3
  have hD3 := s3 _ _ hD
  have hT3 := hT.same s03
  obtain ⟨kvs, hd3, tk⟩ := hT3.top
  have hd3 : H3 d = some (.dK kvs) := hd3
  have tl := tk.len g.srt
  refine ⟨_, rfl, fun e0 ne0 => ⟨d, e0, kvs, rfl, rfl, ?_, upd_same, _, rfl, ite2 (fun c1 => ?_) (fun c1 => ?_)⟩⟩
  · rw [upd_ne (ne_of_none hd3 ne0)]; exact hd3
  · have k0 : kvs = [] := List.isEmpty_iff.mp c1
    have hM : M = [] := List.length_eq_zero_iff.mp (by rw [← tl, k0]; rfl)
    refine iteT (qn ?_ _ (s03.trans (same_upd ne0)))
    rw [hM]; rfl
  have hM : M ≠ [] := fun y => c1 (by
    rw [y] at tl
    rw [List.length_eq_zero_iff.mp tl]; rfl)
  have s4 := s03.trans (same_upd (o := HO.dK []) ne0)
  have hD4 := (same_upd (o := HO.dK []) ne0) _ _ hD3
  have hd4 := (same_upd (o := HO.dK []) ne0) _ _ hd3
  generalize upd H3 e0 (.dK []) = H4 at s4 hD4 hd4
  obtain ⟨A, e, rfl⟩ : ∃ A e, M = A ++ [e] := by
    rcases List.eq_nil_or_concat M with y | ⟨A, e, y⟩
    · exact absurd y hM
    · exact ⟨A, e, by rw [y, List.concat_eq_append]⟩
  have el0 : (A ++ [e]).getLast? = some e := by simp
  have hmem : e ∈ A ++ [e] := by simp
  have hge : get (A ++ [e]) e.1 = some e.2 := get_of_mem g.nodup hmem
  have none_of : ¬ (lampS w0 = true ∧ (0 ≤ numIn w1 ∧ numIn w1 ≤ 100) ∧ (∀ w, e.2.words.getLast? = some w → ltS w.1 w0)) → takeWord (A ++ [e]) [w0, w1] = none := fun h => by
    unfold takeWord
    rw [el0]
    exact if_neg fun z => h z
  refine ⟨_, rfl, by simp [sizeLine_eq], fun e1 ne1 => ?_⟩
  have s5 := s4.trans (same_upd (o := HO.lst []) ne1)
  refine neD_nil (dat_lst (K := K) (.inl (.inl ((same_upd (o := HO.lst []) ne1) _ _ hD4))) okx) upd_same (by decide) ⟨_, rfl, ?_⟩
  rw [sgn_free]
  have hd5 := (same_upd (o := HO.lst []) ne1) _ _ hd4
  generalize upd H4 e1 (.lst []) = H5 at s5 hd5
  cases hlet : w0.cps.toList.all letter with
  | false =>
    refine iteT (iteT (qn (none_of fun z => ?_) H5 s5))
    have h2 : w0.cps.toList.all letter = true := (Bool.and_eq_true_iff.mp z.1).2
    rw [hlet] at h2; cases h2
  | true =>
    refine iteF ⟨_, rfl, w0, rfl, hs0, _, _, rfl, rfl, _, rfl, ?_⟩
    have hno : ∀ {B : Prop}, lampS w0 = false → (takeWord (A ++ [e]) [w0, w1] = none → B) → B := fun h k => k (none_of fun z => by rw [h] at z; cases z.1)
    by_cases h1 : (0 : Int) < w0.length
    · rw [if_pos (decide_eq_true h1)]
      refine ⟨_, _, rfl, rfl, _, rfl, ?_⟩
      by_cases h2 : (w0.length : Int) < 9
      · have hlam : lampS w0 = true := by
          unfold lampS
          rw [hlet, decide_eq_true (show 1 ≤ w0.length by omega), decide_eq_true (show w0.length ≤ 8 by omega)]; rfl
        refine iteN (by rw [decide_eq_true h2]; rfl) ⟨_, rfl, _, _, rfl, rfl, _, rfl, ?_⟩
        by_cases h3 : 0 ≤ numIn w1
        · rw [if_pos (decide_eq_true h3)]
          refine ⟨_, _, rfl, rfl, _, rfl, ?_⟩
          by_cases h4 : numIn w1 ≤ 100
          · rw [decide_eq_true h4]
            refine iteF ?_
            have hT5 := hT.same s5
            have wk5 := hT5.wrd _ _ hge
            obtain ⟨kw, ew5, wk⟩ := wk5
            have rec5 := hT5.recd hge
            obtain ⟨ks, hk, hnd, hmemk⟩ := tk.keys
            have hkl : 0 < ks.length := List.length_pos_iff.mpr fun y => by
              have := (hmemk e.1).mpr (List.mem_map.mpr ⟨e, hmem, rfl⟩)
              rw [y] at this; cases this
            refine ⟨_, rfl, _, rfl, d, kvs, ks, rfl, .inl hd5, hk, hkl, fun m hm hmax => ?_⟩
            have em : m = e.1 := by
              have elN : lastN (A ++ [e]) = e.1 := by unfold lastN; simp
              obtain ⟨x, hx, rfl⟩ := List.mem_map.mp ((hmemk m).mp hm)
              have h5 := last_ge g hx
              have h6 := hmax _ ((hmemk e.1).mpr (List.mem_map.mpr ⟨e, hmem, rfl⟩))
              omega
            subst em
            refine ⟨d, _, rfl, tk.hit (.inl hd5) hge, (am e.1).1, _, _, _, rfl, rfl, .inl (.inl rec5), rfl, ?_⟩
            have hw := g.wsrt e hmem
            obtain ⟨ls, hls, hlnd, hlmem⟩ := wk.keys
            have hfew := g.few u hmem
            have hlsl : ls.length = e.2.words.length := by
              have := congrArg List.length hls
              rw [List.length_map, List.length_map, wk.len hw] at this
              exact this.symm
            have ekw : (kw.map fun kv => kV kv.1) = ls.map V.str := by
              have := congrArg (List.map kV) hls
              rw [List.map_map, List.map_map] at this
              exact this
            refine ⟨(am e.1).2, _, ew5, trivial, fun od => ⟨_, rfl, (am e.1).2, od, rfl, .inl ⟨kw, upd_same, fun D2 nD2 => ?_⟩⟩⟩
            have nw2 : (am e.1).2 ≠ D2 := ne_of_none upd_same nD2
            refine lc_pure walk_ks nD2 (geV w0) id ?_ (fun _ => rfl) (fun H6 s6 => s6 _ _ upd_same) ?_ ?_ ?_
            · rw [ekw, List.length_map, hlsl, sizeLine_eq]; omega
            · intro v hv H6 s6 Q' k
              rw [ekw] at hv
              obtain ⟨y, _, rfl⟩ := List.mem_map.mp hv
              exact ⟨_, rfl, _, rfl, _, _, rfl, rfl, _, rfl, k H6 (Same.refl _)⟩
            · exact fun v _ _ H6 s6 Q' k => ⟨_, rfl, k H6 (Same.refl _)⟩
            · intro H6 s6 hD6
              rw [ekw, List.map_id] at hD6
              have efrz := s6 _ _ upd_same
              refine ⟨efrz, by simp [sizeLine_eq], fun e2 ne2 => ?_⟩
              have s56 : Same H5 (upd H6 (am e.1).2 (.dK kw)) := fun b o eb => by
                by_cases hb : b = (am e.1).2
                · subst hb
                  rw [ew5] at eb
                  rw [upd_same]; exact eb
                · rw [upd_ne hb]
                  exact s6 b o (by rw [upd_ne hb]; exact eb)
              have s67 := same_upd (o := HO.lst []) ne2
              have eD7 := s67 _ _ (show upd H6 (am e.1).2 (.dK kw) D2 = _ by rw [upd_ne nw2.symm]; exact hD6)
              have okk : ∀ x ∈ (ls.map V.str).filter (geV w0), okV x = true := fun x hx => by
                obtain ⟨y, hy, rfl⟩ := List.mem_map.mp (List.mem_filter.mp hx).1
                obtain ⟨ww, hww, rfl⟩ := List.mem_map.mp ((hlmem y).mp hy)
                exact lampS_okS (u.ok _ (g.wrd e hmem ww hww).1)
              have s07 := s5.trans (s56.trans s67)
              refine neD_nil (dat_lst (K := K) (.inl (.inl eD7)) okk) upd_same (by decide) ⟨_, rfl, ?_⟩
              generalize upd (upd H6 (am e.1).2 (.dK kw)) e2 (.lst []) = H7 at s07
              rw [keys_below]
              cases hall : ls.all fun y => decide (ltS y w0) with
              | false =>
                refine iteT (qn (none_of fun z => ?_) H7 s07)
                have hlt : ∀ x ∈ e.2.words, ltS x.1 w0 := below_last hw z.2.2
                have : (ls.all fun y => decide (ltS y w0)) = true := List.all_eq_true.mpr fun y hy => by
                  obtain ⟨ww, hww, rfl⟩ := List.mem_map.mp ((hlmem y).mp hy)
                  exact decide_eq_true (hlt ww hww)
                rw [hall] at this; cases this
              | true =>
                refine iteF ?_
                have hlt : ∀ x ∈ e.2.words, ltS x.1 w0 := fun x hx => of_decide_eq_true (List.all_eq_true.mp hall x.1 ((hlmem x.1).mpr (List.mem_map.mpr ⟨x, hx, rfl⟩)))
                have T7 := hT.same s07
                obtain ⟨kw7, ew7, wk7⟩ := T7.wrd _ _ hge
                refine ⟨_, rfl, _, rfl, _, rfl, (am e.1).2, _, rfl, DPut.k (kvs := kw7) (k := Sum.inr w0) ew7 (by rw [wk7.len hw, sizeLine_eq]; omega), ?_⟩
                have hA : ∀ x ∈ A, x.1 < e.1 := fun x hx => (rising_snoc g.srt).2 x hx
                have eM : takeWord (A ++ [e]) [w0, w1] = some (setW e.1 (put ltS w0 (numIn w1)) (A ++ [e])) := by
                  unfold takeWord
                  rw [el0]
                  exact (if_pos ⟨hlam, ⟨h3, h4⟩, fun ww hww => hlt ww (List.mem_of_getLast? hww)⟩).trans (by rw [set_last hA hlt]; rfl)
                refine qs _ eM _ am (T7.word hge (fun b o _ ne eb => by rw [upd_ne ne]; exact eb) ⟨_, upd_same, wk7.put w0 (numIn w1)⟩) ((Mv.same s07).trans ⟨fun b o eb nb => ?_, fun b hb => .inl (foot_word.mp hb)⟩)
                rw [upd_ne fun y => nb (.inr ⟨e.1, e.2, hge, .inr y⟩)]
                exact eb
          · rw [decide_eq_false h4]
            exact iteT (qn (none_of fun z => h4 z.2.1.2) H5 s5)
        · rw [if_neg (by simpa using h3)]
          exact ⟨_, rfl, iteT (qn (none_of fun z => h3 z.2.1.1) H5 s5)⟩
      · rw [decide_eq_false h2]
        refine iteT (iteT (qn (none_of fun z => ?_) H5 s5))
        have := lampS_len z.1
        omega
    · rw [if_neg (by simpa using h1)]
      refine ⟨_, rfl, iteT (iteT (qn (none_of fun z => ?_) H5 s5))⟩
      have h := (Bool.and_eq_true_iff.mp (Bool.and_eq_true_iff.mp z.1).1).1
      have := of_decide_eq_true h
      omega
end

/-- a branch that two ways share, at whatever heap -/
theorem ite_shareH {c A : Prop} [Decidable c] {B : Hp → Prop} {H : Hp} {S : Hp → Prop} (hB : ∀ H', S H' → B H') (hS : ¬ c → S H) (hA : c → (∀ H', S H' → B H') → A) : if c then A else B H := by
  by_cases h : c
  · rw [if_pos h]; exact hA h hB
  · rw [if_neg h]; exact hB _ (hS h)
theorem good_cue {U : List Str} {M M' : Book} {ws : List Str} (g : Good U M) (h : takeCue M ws = some M') : Good U M' := by
  unfold takeCue at h
  split at h
  · rename_i c
    cases h
    have r1 := numIn_rng (at_ ws 1)
    have nn := last_nn g
    rw [← cue_last U g c.2.1]
    exact g.put ⟨by omega, r1.2⟩ .nil (by simp) ⟨c.2.2.1.1, c.2.2.1.2, c.2.2.2.1.1, c.2.2.2.1.2⟩ (by omega)
  · cases h
theorem good_word {U : List Str} {M M' : Book} {ws : List Str} (g : Good U M) (hU : lampS (at_ ws 0) = true → at_ ws 0 ∈ U) (h : takeWord M ws = some M') : Good U M' := by
  rcases List.eq_nil_or_concat M with rfl | ⟨A, e, rfl⟩
  · cases h
  · rw [List.concat_eq_append] at h g
    unfold takeWord at h
    have el0 : (A ++ [e]).getLast? = some e := by simp
    rw [el0] at h
    have h : (if lampS (at_ ws 0) = true ∧ (0 ≤ numIn (at_ ws 1) ∧ numIn (at_ ws 1) ≤ 100) ∧ (∀ w, e.2.words.getLast? = some w → ltS w.1 (at_ ws 0)) then some ((A ++ [e]).dropLast ++ [(e.1, { e.2 with words := e.2.words ++ [(at_ ws 0, numIn (at_ ws 1))] })]) else none) = some M' := h
    split at h
    · rename_i c
      cases h
      have hmem : e ∈ A ++ [e] := by simp
      have hlt := below_last (g.wsrt e hmem) c.2.2
      rw [← set_last (fun x hx => (rising_snoc g.srt).2 x hx) hlt]
      exact g.setW fun ws hs hw => wok_put (hU c.1) c.2.1.1 c.2.1.2 hs hw
    · cases h
theorem good_row {U : List Str} {M M' : Book} {z : Str} (g : Good U M) (hU : (wordsIn z).length = 2 → lampS (at_ (wordsIn z) 0) = true → at_ (wordsIn z) 0 ∈ U) (h : takeRow M z = some M') : Good U M' := by
  unfold takeRow at h
  split at h
  · exact good_cue g h
  · split at h
    · rename_i h2
      exact good_word g (hU h2) h
    · cases h
section
variable {P : Program} {w : World} {K : PySem.W.Frag} {mg : Str → Option Value} {base : Heap}
def spLRead (K : PySem.W.Frag) : Sp := sp1 fun x H Q _ => ∃ z U, x = .str z ∧ z.length + 2 ≤ sizeLine ∧ (∀ r ∈ Txt.split z "\n", (r.length ≤ 100000 ∧ PyData.strOk r = true) ∧ ((wordsIn r).length = 2 → lampS (at_ (wordsIn r) 0) = true → at_ (wordsIn r) 0 ∈ U)) ∧ Lamps U ∧
  (∀ M, readT z = .inl M → ∀ H' d am, Same H H' → (∀ b, foot d am M b → H b = none) → TabAt RcM none H' d am M → Good U M → Q (.ref d) H') ∧
  (∀ k, readT z = .inr k → ∀ H', Same H H' → Q (.int (k : Nat)) H')
theorem sc__law_read : FnScope ["_law_text_here", "_law_model", "_law_rows", "_law_place", "_law_row", "_law_words", "_law_good"] ["_law_text_here"] (defScope s__law_read) := ⟨rfl, rfl, rfl, by decide +kernel, rfl, by decide +kernel, by decide +kernel⟩
theorem d__law_read (T : Txt K mg) : Def P w K mg base 3 "_law_read" ["_law_text_here"] (spLRead K) := by
  have d__law_cue_in := d__law_cue_in (P := P) (w := w) (base := base) T
  have d__law_word_in := d__law_word_in (P := P) (w := w) (base := base) T
  refine mkDef T.d__law_read T.g__law_read sc__law_read (fun _ _ _ _ _ _ us hl => match us, hl with | [_], _ => rfl) len1 (BodyN.up fun cdv A outer s H vs Q E hr h => ?_)
  obtain ⟨_, rfl, z, U, rfl, hz, hrs, u, q, qe⟩ := h
  have hu := hu_of hr
  refine ⟨_, (pss_cons (ps_set (i := 1) sc__law_read.nd rfl (Or.inl rfl) pe_dnewK)
    (pss_cons (ps_set (i := 2) sc__law_read.nd rfl (Or.inl rfl) (pe_split (pv 0) pe_str))
    (pss_cons (ps_for PassesOwn.never rfl (pi_enum (by rfl) T.z_enumerate (pa_cons (pe_slice sl_list (pv 2) po_none (po_some (pe_un un_neg pe_int))) pa_nil)) (pg_tup rfl (pgs_cons (pg_name (i := 3) sc__law_read.nd rfl (Or.inl rfl)) (pgs_cons (pg_name (i := 4) sc__law_read.nd rfl (Or.inl rfl)) pgs_nil)))
    (pss_cons (ps_set (i := 5) sc__law_read.nd rfl (Or.inl rfl) (pe_split (pv 4) pe_str))
    (pss_cons (ps_set (i := 6) sc__law_read.nd rfl (Or.inl rfl) pe_bl)
    (Evl.pss_cut (ps_if (PW.pt (pw_and (pt_cmpR op_eq (pe_ix ix_list (pv 5) pe_int (fun _ _ => rfl)) pe_str (nomark _)) (pw_and1 (pt_cmpR op_in_seq (pe_callB call_len_seq (by rfl) T.z_len (by decide +kernel) (pa_cons (pv 5) pa_nil)) (pe_tup (pa_cons pe_int (pa_cons pe_int pa_nil))) rfl))))
    (pss_one (ps_set (i := 6) sc__law_read.nd rfl (Or.inl rfl) (pe_fn d__law_cue_in (hr.mono (by decide)) (by rfl) passL (pa_cons (pv 5) (pa_cons (pv 1) pa_nil)))))
    (pss_one (ps_if (pt_cmpR op_eq (pe_callB call_len_seq (by rfl) T.z_len (by decide +kernel) (pa_cons (pv 5) pa_nil)) pe_int (nomark _))
    (pss_one (ps_set (i := 6) sc__law_read.nd rfl (Or.inl rfl) (pe_fn d__law_word_in (hr.mono (by decide)) (by rfl) passL (pa_cons (pv 5) (pa_cons (pv 1) pa_nil)))))
    pss_nil)))
    (pss_one (ps_if (pt_not (pt_val (pv 6)))
    (pss_one (ps_ret (pv 3)))
    pss_nil))))))
    (pss_one (ps_ret (pe_ifExp (pt_cmpR op_eq (pe_ix ix_list (pv 2) (pe_un un_neg pe_int) (fun _ _ => rfl)) pe_str (nomark _)) (pv 1) (pe_op op_sub (pe_callB call_len_seq (by rfl) T.z_len (by decide +kernel) (pa_cons (pv 2) pa_nil)) pe_int))))))), ?_⟩
  intro d nd
  have s1 := same_upd (o := HO.dK []) nd
  have T0 : TabAt RcM none (upd H d (.dK [])) d (fun _ => (d, d)) [] := tab_new upd_same
  generalize upd H d (.dK []) = H1 at s1 T0
  refine ⟨_, rfl, ⟨_, rfl⟩, _, _, rfl, rfl, by decide +kernel, hz, fun lr nlr => ?_⟩
  obtain ⟨rs, last, hsp⟩ : ∃ rs last, Txt.split z (Str.ofString "\n") = rs ++ [last] := by
    have := PyProof.Rows.split_pos z (Str.ofString "\n")
    rcases List.eq_nil_or_concat (Txt.split z (Str.ofString "\n")) with e | ⟨A, x, e⟩
    · rw [e] at this; simp at this
    · exact ⟨A, x, by rw [e, List.concat_eq_append]⟩
  have hdl := readT_rows hsp
  rw [hsp] at hrs ⊢
  have hrs' := fun x hx => hrs x (List.mem_append.mpr (.inl hx))
  have s2 := same_upd (o := HO.lst ((rs ++ [last]).map V.str)) nlr
  have elr : (upd H1 lr (.lst ((rs ++ [last]).map V.str))) lr = some (.lst ((rs ++ [last]).map V.str)) := upd_same
  refine ⟨_, rfl, _, rfl, _, rfl, _, _, rfl, .inl (.inl elr), fun ls nls => ?_⟩
  have ecut : cutV ((rs ++ [last]).map V.str) none (some (-1)) = rs.map V.str := by rw [List.map_append]; exact cut_but
  rw [ecut]
  have s3 := same_upd (o := HO.lst (rs.map V.str)) nls
  have els : (upd (upd H1 lr (.lst ((rs ++ [last]).map V.str))) ls (.lst (rs.map V.str))) ls = some (.lst (rs.map V.str)) := upd_same
  have elr := s3 _ _ elr
  have s13 := s2.trans s3
  generalize upd (upd H1 lr (.lst ((rs ++ [last]).map V.str))) ls (.lst (rs.map V.str)) = H3 at els elr s13
  have s03 := s1.trans s13
  have hfoot : ∀ b, foot d (fun _ => (d, d)) [] b → b = d := fun b h => by
    rcases h with h | ⟨n, c, h, _⟩
    · exact h
    · cases h
  have hd1 : ∃ o, H1 d = some o := T0.has (.inl rfl)
  have offl : ∀ {b}, H1 b = none → ¬ foot d (fun _ => (d, d)) [] b := fun hb h => by
    obtain ⟨o, e⟩ := hd1
    rw [hfoot _ h, e] at hb; cases hb
  have offlr := offl nlr
  have offls := offl (s2.free nls)
  refine ⟨ls, _, rfl, .inl (.inl els), for_it (walk_enum (K := K) (a := ls) (xs := rs.map V.str)) (fun i σ H' => ∃ am Mi v3 v4 v5 v6, σ = [some (.str z), some (.ref d), some (.ref lr), v3, v4, v5, v6] ∧ readRows [] (rs.take i) = some Mi ∧ TabAt RcM none H' d am Mi ∧ Good U Mi ∧ Mv H3 (foot d (fun _ => (d, d)) []) H' (foot d am Mi)) ⟨_, [], none, none, none, none, rfl, rfl, T0.same s13, good_nil, Mv.refl⟩ (fun i σ H' _ ⟨_, _, _, _, _, _, _, _, _, _, m⟩ => .inl (.inl (m.keep els offls).1)) ?_ ?_⟩
  · rintro i x σ H4 H4' hi ⟨am, Mi, v3, v4, v5, v6, rfl, hMi, hT, g, mv⟩ ⟨TT, xx, yy, rfl, nT, rfl, hxx, hyy⟩
    have hyy : (rs.map V.str)[i]? = some yy := hyy
    rw [List.getElem?_map] at hyy
    obtain ⟨row, hrow, rfl⟩ := Option.map_eq_some_iff.mp hyy
    have hxx : some (V.int (i : Nat)) = some xx := hxx
    cases hxx
    have sT := same_upd (o := HO.tup [.int (i : Nat), .str row]) nT
    obtain ⟨⟨hlen, hok⟩, hU⟩ := hrs' row (List.mem_of_getElem? hrow)
    have old4 : Same H H4 := fun b o e => (mv.keep (s03 _ _ e) fun h => by
      rw [hfoot _ h, nd] at e; cases e).1
    refine ⟨TT, _, rfl, .inl (.inl upd_same), rfl, _, _, rfl, _, _, rfl, rfl, ?_⟩
    have hT4 := hT.same sT
    have mv4 := mv.trans (Mv.same sT)
    have old5 := old4.trans sT
    generalize upd H4 TT (.tup [.int (i : Nat), .str row]) = H5 at hT4 mv4 old5
    refine ⟨_, rfl, ⟨_, rfl⟩, _, _, rfl, rfl, by decide +kernel, by rw [sizeLine_eq]; omega, fun lw nlw => ?_⟩
    have eW : Txt.split row (Str.ofString " ") = wordsIn row := rfl
    rw [eW]
    have hwl : ∀ y ∈ wordsIn row, y.length ≤ 100000 ∧ PyData.strOk y = true := fun y hy => ⟨Nat.le_trans (PyProof.Rows.part_short hy) hlen, okS_sub hok (words_sub hy)⟩
    have hpos : 1 ≤ (wordsIn row).length := PyProof.Rows.split_pos _ _
    have htr : takeRow Mi row = if isCueRow (wordsIn row) = true then takeCue Mi (wordsIn row) else if (wordsIn row).length = 2 then takeWord Mi (wordsIn row) else none := rfl
    have hU0 := hU
    generalize wordsIn row = ws at hwl hpos htr hU
    have s6 := same_upd (o := HO.lst (ws.map V.str)) nlw
    have elw : (upd H5 lw (.lst (ws.map V.str))) lw = some (.lst (ws.map V.str)) := upd_same
    generalize upd H5 lw (.lst (ws.map V.str)) = H6 at s6 elw
    obtain ⟨w0, t, rfl⟩ : ∃ w0 t, ws = w0 :: t := by
      cases ws with
      | nil => simp at hpos
      | cons a b => exact ⟨a, b, rfl⟩
    have eat : at_ (w0 :: t) 0 = w0 := rfl
    have le2 : (((w0 :: t).map V.str).length : Int) = ((w0 :: t).length : Int) := by rw [List.length_map]
    refine ⟨fun σ' H' => ∃ b, σ' = [some (.str z), some (.ref d), some (.ref lr), some (.int (i : Nat)), some (.str row), some (.ref lw), some (.bl b)] ∧ (b = false → takeRow Mi row = none ∧ Same H5 H') ∧ (b = true → ∃ am' M', takeRow Mi row = some M' ∧ TabAt RcM none H' d am' M' ∧ Mv H5 (foot d am Mi) H' (foot d am' M')), ?_, ?_⟩
    · refine ⟨_, rfl, lw, (w0 :: t).map V.str, _, .str w0, rfl, rfl, .inl (.inl elw), atI_nat (j := 0) rfl, rfl, _, rfl, ite_shareH (H := H6) (S := fun H' => Same H6 H' ∧ isCueRow (w0 :: t) = false) (fun H' hS => iteF ?_) (fun h => ⟨Same.refl _, ?_⟩) (fun h hR => ?_)⟩
      · obtain ⟨s7, hG⟩ := hS
        rw [if_neg (by rw [hG]; simp)] at htr
        have s57 := s6.trans s7
        have hT7 := hT4.same s57
        refine ⟨_, rfl, lw, _, rfl, .inl (.inl (.inl (s7 _ _ elw))), rfl, _, rfl, ite2 (fun c2 => ?_) (fun c2 => ?_)⟩
        · have c2 : (w0 :: t).length = 2 := by
            have := V.int.inj (of_decide_eq_true c2)
            rw [le2] at this
            omega
          rw [if_pos c2] at htr
          obtain ⟨w1, rfl⟩ : ∃ w1, t = [w1] := by
            match t, c2 with
            | [a], _ => exact ⟨a, rfl⟩
            | [], h => simp at h
            | _ :: _ :: _, h => simp at h
          refine ⟨_, rfl, _, rfl, _, _, rfl, lw, w0, w1, d, am, Mi, U, rfl, rfl, s7 _ _ elw, hwl w0 (by simp), hwl w1 (by simp), hT7, g, u, fun hn H8 s8 => ⟨false, rfl, fun _ => ⟨htr.trans hn, s57.trans s8⟩, fun y => Bool.noConfusion y⟩, fun M' e H8 am' T8 m8 => ⟨true, rfl, fun y => Bool.noConfusion y, fun _ => ⟨am', M', htr.trans e, T8, (Mv.same s57).trans m8⟩⟩⟩
        · have c2 : ¬ (w0 :: t).length = 2 := fun y => c2 (decide_eq_true (by rw [le2, y]; rfl))
          rw [if_neg c2] at htr
          exact ⟨false, rfl, fun _ => ⟨htr, s57⟩, fun y => Bool.noConfusion y⟩
      · have : w0 ≠ Str.ofString "cue" := fun y => h (decide_eq_true (by rw [y]))
        simp [isCueRow, eat, this]
      · have hw : w0 = Str.ofString "cue" := V.str.inj (of_decide_eq_true h)
        refine ⟨_, rfl, lw, _, rfl, .inl (.inl (.inl elw)), by simp [sizeLine_eq], fun tp ntp => ?_⟩
        have s7 := same_upd (o := HO.tup [V.int 4, .int 5]) ntp
        have hin : inV (V.int (((w0 :: t).map V.str).length : Int)) [V.int 4, .int 5] = (decide ((w0 :: t).length = 4) || decide ((w0 :: t).length = 5)) := by
          rw [in_45, le2]
          congr 1 <;> exact decide_eq_decide.mpr ⟨fun y => by omega, fun y => by rw [y]; rfl⟩
        have hcue : isCueRow (w0 :: t) = (decide ((w0 :: t).length = 4) || decide ((w0 :: t).length = 5)) := by
          unfold isCueRow
          rw [eat, decide_eq_true hw, Bool.true_and]
        refine ⟨tp, _, rfl, .inr (.inl (.inl upd_same)), rfl, rfl, _, congrArg V.bl hin, ?_⟩
        cases hb : (decide ((w0 :: t).length = 4) || decide ((w0 :: t).length = 5)) with
        | false => exact hR _ ⟨s7, by rw [hcue, hb]⟩
        | true =>
          rw [hb] at hcue
          rw [if_pos hcue] at htr
          have s57 := s6.trans s7
          have h45 : (w0 :: t).length = 4 ∨ (w0 :: t).length = 5 := by simpa using hb
          exact iteT ⟨_, rfl, _, rfl, _, _, rfl, lw, w0 :: t, d, am, Mi, U, rfl, rfl, s7 _ _ elw, hwl, h45, hT4.same s57, g, fun hn H8 s8 => ⟨false, rfl, fun _ => ⟨htr.trans hn, s57.trans s8⟩, fun y => Bool.noConfusion y⟩, fun M' e H8 am' T8 m8 => ⟨true, rfl, fun y => Bool.noConfusion y, fun _ => ⟨am', M', htr.trans e, T8, (Mv.same s57).trans m8⟩⟩⟩
    · rintro σ' H7 ⟨b, rfl, hf, ht⟩
      cases b with
      | false =>
        obtain ⟨hn, s7⟩ := hf rfl
        have hk : readT z = .inr i := by
          have e1 : rs = rs.take i ++ row :: rs.drop (i + 1) := by
            have hlt : i < rs.length := (List.getElem?_eq_some_iff.mp hrow).1
            have e2 : rs.drop i = row :: rs.drop (i + 1) := by
              rw [List.drop_eq_getElem_cons hlt]
              congr 1
              exact (List.getElem?_eq_some_iff.mp hrow).2
            rw [← e2, List.take_append_drop]
          have hlt : i < rs.length := (List.getElem?_eq_some_iff.mp hrow).1
          have := readR_stop (b := rs.drop (i + 1)) hMi hn
          rw [← e1, List.length_take, Nat.min_eq_left (Nat.le_of_lt hlt)] at this
          rw [hdl, this]
        exact ⟨_, rfl, _, rfl, iteT ⟨_, rfl, qe i hk H7 (old5.trans s7)⟩⟩
      | true =>
        obtain ⟨am', M', e, T7, m7⟩ := ht rfl
        refine ⟨_, rfl, _, rfl, iteF ⟨am', M', _, _, _, _, rfl, ?_, T7, good_row g hU0 e, mv4.trans m7⟩⟩
        rw [take_snoc hrow, readRows_append _ _ _ _ hMi]
        show (match takeRow Mi row with | some M1 => readRows M1 [] | none => none) = some M'
        rw [e]; rfl
  · rintro σ H4 ⟨am, Mi, v3, v4, v5, v6, rfl, hMi, hT, g, mv⟩
    have e0 : (rs.map V.str).length = rs.length := List.length_map _
    rw [e0, List.take_length] at hMi
    have hdn := readR_done hMi
    rw [hdn] at hdl
    have hdl : readT z = if last = Str.ofString "" then .inl Mi else .inr rs.length := hdl
    have elr4 := (mv.keep elr offlr).1
    have old4 : Same H H4 := fun b o e => (mv.keep (s03 _ _ e) fun h => by
      rw [hfoot _ h, nd] at e; cases e).1
    refine ⟨_, rfl, _, rfl, lr, _, _, .str last, rfl, rfl, .inl (.inl elr4), by rw [List.map_append]; exact at_end, rfl, _, rfl, ?_⟩
    by_cases hl : last = Str.ofString ""
    · rw [if_pos hl] at hdl
      refine iteY (by rw [hl]; simp) ⟨_, rfl, q Mi hdl H4 d am old4 (fun b hb => ?_) hT g⟩
      rcases mv.2 b hb with h | h
      · rw [hfoot _ h]; exact nd
      · exact s03.free h
    · rw [if_neg hl] at hdl
      refine iteN (decide_eq_false fun y => hl (V.str.inj y)) ?_
      refine ⟨_, rfl, lr, _, rfl, .inl (.inl (.inl elr4)), _, _, rfl, rfl, ?_⟩
      have ei : (((rs ++ [last]).map V.str).length : Int) - 1 = (rs.length : Nat) := by rw [List.length_map, List.length_append]; simp
      have hq := qe rs.length hdl H4 old4
      rw [← ei] at hq
      exact hq
end

def goodV : V → Bool
  | .str z => decide (z.length ≤ 100) && (PyData.strOk z && decide (10 ∉ z.cps.toList))
  | _ => false
theorem goodV_ok {z : Str} (h : goodV (.str z) = true) : z.length ≤ 100 ∧ PyData.strOk z = true ∧ 10 ∉ TL.tl z := by
  obtain ⟨h1, h2⟩ := Bool.and_eq_true_iff.mp h
  obtain ⟨h2, h3⟩ := Bool.and_eq_true_iff.mp h2
  exact ⟨of_decide_eq_true h1, h2, of_decide_eq_true h3⟩
abbrev badA : List V := [
  .str "",
  .str " ",
  .str "cue",
  .str "cue 5",
  .str "cue 5 0",
  .str "cue 5 0 0 fres",
  .str "cue 5 0 0 fresh x",
  .str "cue 0 0 0"]
abbrev badB : List V := [
  .str "cue 1000000 0 0",
  .str "cue 05 0 0",
  .str "cue 5 6001 0",
  .str "cue 5 0 6001",
  .str "cue 5 -1 0"]
abbrev badC : List V := [
  .str "cue 999999 0 0",
  .str "cue x 0 0",
  .str "Cue 5 0 0",
  .str "red",
  .str "red 101",
  .str "red 100 ",
  .str "red  5"]
abbrev badD : List V := [
  .str " red 5",
  .str "red 05",
  .str "Red 5",
  .str "red1 5",
  .str "abcdefghi 5",
  .str "red x",
  .str "red 5 6",
  .str "cue 50"]
abbrev badE : List V := [
  .str "zzzzzzzz 1",
  .str "a 0",
  .str "cue 4 0 0 fresh",
  .str "red 100",
  .str "cue 6 6000 6000"]
section
variable {P : Program} {w : World} {K : PySem.W.Frag} {mg : Str → Option Value} {base : Heap}
def spLBad : Sp := sp1 fun m H Q _ => ∃ i, m = .int i ∧ 0 ≤ i ∧ ∀ H' z, Same H H' → goodV (.str z) = true → Q (.str z) H'
theorem sc__law_bad : FnScope ["_law_mix", "_law_some"] ["_law_mix"] (defScope s__law_bad) := ⟨rfl, rfl, rfl, by decide +kernel, rfl, by decide +kernel, by decide +kernel⟩
theorem d__law_bad (T : Txt K mg) : Def P w K mg base 1 "_law_bad" ["_law_mix"] (spLBad) := by
  refine mkDef T.d__law_bad T.g__law_bad sc__law_bad (fun _ _ _ _ _ _ us hl => match us, hl with | [_], _ => rfl) len1 (BodyN.up fun cdv A outer s H vs Q E hr h => ?_)
  obtain ⟨_, rfl, i, rfl, hi, q⟩ := h
  have hu := hu_of hr
  refine ⟨_, (pss_cons (ps_set (i := 1) sc__law_bad.nd rfl (Or.inl rfl) (pe_lst (pa_cons pe_str (pa_cons pe_str (pa_cons pe_str (pa_cons pe_str (pa_cons pe_str (pa_cons pe_str (pa_cons pe_str (pa_cons pe_str pa_nil))))))))))
    (pss_cons (ps_set (i := 1) sc__law_bad.nd rfl (Or.inl rfl) (pe_op op_catS (pv 1) (pe_lst (pa_cons pe_str (pa_cons pe_str (pa_cons pe_str (pa_cons pe_str (pa_cons pe_str pa_nil))))))))
    (pss_cons (ps_set (i := 1) sc__law_bad.nd rfl (Or.inl rfl) (pe_op op_catS (pv 1) (pe_lst (pa_cons pe_str (pa_cons pe_str (pa_cons pe_str (pa_cons pe_str (pa_cons pe_str (pa_cons pe_str (pa_cons pe_str pa_nil))))))))))
    (pss_cons (ps_set (i := 1) sc__law_bad.nd rfl (Or.inl rfl) (pe_op op_catS (pv 1) (pe_lst (pa_cons pe_str (pa_cons pe_str (pa_cons pe_str (pa_cons pe_str (pa_cons pe_str (pa_cons pe_str (pa_cons pe_str (pa_cons pe_str pa_nil)))))))))))
    (pss_cons (ps_set (i := 1) sc__law_bad.nd rfl (Or.inl rfl) (pe_op op_catS (pv 1) (pe_lst (pa_cons pe_str (pa_cons pe_str (pa_cons pe_str (pa_cons pe_str (pa_cons pe_str pa_nil))))))))
    (pss_one (ps_ret (pe_ix ix_list (pv 1) (pe_op op_mod (pv 0) (pe_callB call_len_seq (by rfl) T.z_len (by decide +kernel) (pa_cons (pv 1) pa_nil))) (fun _ _ => rfl))))))))), ?_⟩
  refine ⟨by simp [sizeLine_eq], fun l1 n1 => ⟨_, rfl, by simp [sizeLine_eq], fun l2 n2 => ⟨l1, l2, _, _, rfl, rfl, .inl (.inl (same_upd n2 _ _ upd_same)), .inl (.inl upd_same), by simp [sizeLine_eq], fun p1 m1 => ?_⟩⟩⟩
  have s1 := (same_upd (o := HO.lst badA) n1).trans ((same_upd (o := HO.lst badB) n2).trans (same_upd (o := HO.lst (badA ++ badB)) m1))
  have e1 : (upd (upd (upd H l1 (.lst badA)) l2 (.lst badB)) p1 (.lst (badA ++ badB))) p1 = some (.lst (badA ++ badB)) := upd_same
  generalize upd (upd (upd H l1 (.lst badA)) l2 (.lst badB)) p1 (.lst (badA ++ badB)) = H1 at s1 e1
  refine ⟨_, rfl, by simp [sizeLine_eq], fun l2 n2 => ⟨p1, l2, _, _, rfl, rfl, .inl (.inl (same_upd n2 _ _ e1)), .inl (.inl upd_same), by simp [sizeLine_eq], fun p2 m2 => ?_⟩⟩
  have s2 := s1.trans ((same_upd (o := HO.lst badC) n2).trans (same_upd (o := HO.lst (badA ++ badB ++ badC)) m2))
  have e2 : (upd (upd H1 l2 (.lst badC)) p2 (.lst (badA ++ badB ++ badC))) p2 = some (.lst (badA ++ badB ++ badC)) := upd_same
  generalize upd (upd H1 l2 (.lst badC)) p2 (.lst (badA ++ badB ++ badC)) = H2 at s2 e2
  refine ⟨_, rfl, by simp [sizeLine_eq], fun l2 n2 => ⟨p2, l2, _, _, rfl, rfl, .inl (.inl (same_upd n2 _ _ e2)), .inl (.inl upd_same), by simp [sizeLine_eq], fun p3 m3 => ?_⟩⟩
  have s3 := s2.trans ((same_upd (o := HO.lst badD) n2).trans (same_upd (o := HO.lst (badA ++ badB ++ badC ++ badD)) m3))
  have e3 : (upd (upd H2 l2 (.lst badD)) p3 (.lst (badA ++ badB ++ badC ++ badD))) p3 = some (.lst (badA ++ badB ++ badC ++ badD)) := upd_same
  generalize upd (upd H2 l2 (.lst badD)) p3 (.lst (badA ++ badB ++ badC ++ badD)) = H3 at s3 e3
  refine ⟨_, rfl, by simp [sizeLine_eq], fun l2 n2 => ⟨p3, l2, _, _, rfl, rfl, .inl (.inl (same_upd n2 _ _ e3)), .inl (.inl upd_same), by simp [sizeLine_eq], fun p4 m4 => ?_⟩⟩
  have s4 := s3.trans ((same_upd (o := HO.lst badE) n2).trans (same_upd (o := HO.lst (badA ++ badB ++ badC ++ badD ++ badE)) m4))
  have e4 : (upd (upd H3 l2 (.lst badE)) p4 (.lst (badA ++ badB ++ badC ++ badD ++ badE))) p4 = some (.lst (badA ++ badB ++ badC ++ badD ++ badE)) := upd_same
  generalize upd (upd H3 l2 (.lst badE)) p4 (.lst (badA ++ badB ++ badC ++ badD ++ badE)) = H4 at s4 e4
  obtain ⟨v, hv, hat⟩ := at_in (xs := badA ++ badB ++ badC ++ badD ++ badE) (i := i % 33) (n := 33) rfl (by omega) (by omega)
  refine ⟨_, rfl, _, rfl, _, rfl, p4, _, rfl, .inl (.inl (.inl e4)), _, _, rfl, rfl, by simp, p4, _, _, v, rfl, rfl, .inl (.inl e4), hat, ?_⟩
  have hg : goodV v = true := List.all_eq_true.mp (show (badA ++ badB ++ badC ++ badD ++ badE).all goodV = true by decide +kernel) v hv
  cases v with
  | str z => exact q H4 z s4 hg
  | _ => cases hg
end

theorem cut_strs (rs : List Str) (lo hi : Option Int) : ∃ L : List Str, cutV (rs.map V.str) lo hi = L.map V.str ∧ L.Sublist rs :=
  ⟨(rs.drop (HT.sIx rs.length 0 lo)).take (HT.sIx rs.length rs.length hi - HT.sIx rs.length 0 lo), by unfold cutV; rw [List.length_map, List.map_take, List.map_drop], (List.take_sublist _ _).trans (List.drop_sublist _ _)⟩
theorem tl_cut_to (z : Str) {n : Nat} (h : n ≤ z.length) : TL.tl (cutS z none (some (n : Int))) = (TL.tl z).take n := by
  unfold cutS
  rw [HT.sIx_none, HT.sIx_nat, Nat.min_eq_left h, List.drop_zero, Nat.sub_zero]
theorem tl_cut_from (z : Str) (n : Nat) : TL.tl (cutS z (some (n : Int)) none) = (TL.tl z).drop n := by
  have hl : z.cps.toList.length = z.length := Array.length_toList
  unfold cutS
  rw [HT.sIx_none, HT.sIx_nat]
  show (z.cps.toList.drop (min n z.length)).take (z.length - min n z.length) = z.cps.toList.drop n
  rw [List.take_of_length_le (by rw [List.length_drop, hl]; exact Nat.le_refl _)]
  rcases Nat.le_total n z.length with h | h
  · rw [Nat.min_eq_left h]
  · rw [Nat.min_eq_right h, List.drop_of_length_le (by omega), List.drop_of_length_le (by omega)]
theorem tl_parts (l : List Nat) (n : Nat) : l = l.take n ++ ((l.drop n).take 1 ++ l.drop (n + 1)) := by
  have h : (l.drop n).take 1 ++ l.drop (n + 1) = l.drop n := by
    rw [show l.drop (n + 1) = (l.drop n).drop 1 by rw [List.drop_drop]]
    exact List.take_append_drop 1 _
  rw [h, List.take_append_drop]
section
variable {P : Program} {w : World} {K : PySem.W.Frag} {mg : Str → Option Value} {base : Heap}
def spLChanged : Sp := sp2 fun a m H Q _ => ∃ z i, a = .str z ∧ m = .int i ∧ 0 ≤ i ∧ (z.length ≤ 100000 ∧ PyData.strOk z = true) ∧ ∀ H' z', Same H H' → Chd z z' → Q (.str z') H'
theorem sc__law_changed : FnScope ["_law_text_here", "_law_mix", "_law_rows", "_law_at", "_law_way", "_law_spot", "_law_sign"] ["_law_text_here", "_law_mix"] (defScope s__law_changed) := ⟨rfl, rfl, rfl, by decide +kernel, rfl, by decide +kernel, by decide +kernel⟩
theorem d__law_changed (T : Txt K mg) : Def P w K mg base 2 "_law_changed" ["_law_text_here", "_law_mix"] (spLChanged) := by
  have d__law_bad := d__law_bad (P := P) (w := w) (base := base) T
  refine mkDef T.d__law_changed T.g__law_changed sc__law_changed (fun _ _ _ _ _ _ us hl => match us, hl with | [_, _], _ => rfl) len2 (BodyN.up fun cdv A outer s H vs Q E hr h => ?_)
  obtain ⟨_, _, rfl, z, i, rfl, rfl, hi, ⟨hz, hk⟩, q⟩ := h
  have hu := hu_of hr
  refine ⟨_, (pss_cons (ps_set (i := 2) sc__law_changed.nd rfl (Or.inl rfl) (pe_split (pv 0) pe_str))
    (pss_cons (ps_set (i := 3) sc__law_changed.nd rfl (Or.inl rfl) (pe_op op_mod (pe_op op_fdiv (pv 1) pe_int) (pe_callB call_len_seq (by rfl) T.z_len (by decide +kernel) (pa_cons (pv 2) pa_nil))))
    (pss_cons (ps_set (i := 4) sc__law_changed.nd rfl (Or.inl rfl) (pe_op op_mod (pv 1) pe_int))
    (pss_cons (ps_if (pt_cmpR op_eq (pv 4) pe_int (nomark _))
    (pss_one (ps_ret (pe_join pe_str (pe_op op_catS (pe_slice sl_list (pv 2) po_none (po_some (pv 3))) (pe_slice sl_list (pv 2) (po_some (pe_op op_add (pv 3) pe_int)) po_none)))))
    pss_nil)
    (pss_cons (ps_if (pt_cmpR op_eq (pv 4) pe_int (nomark _))
    (pss_one (ps_ret (pe_join pe_str (pe_op op_catS (pe_op op_catS (pe_slice sl_list (pv 2) po_none (po_some (pv 3))) (pe_slice sl_list (pv 2) (po_some (pv 3)) (po_some (pe_op op_add (pv 3) pe_int)))) (pe_slice sl_list (pv 2) (po_some (pv 3)) po_none)))))
    pss_nil)
    (pss_cons (ps_if (pt_cmpR op_eq (pv 4) pe_int (nomark _))
    (pss_one (ps_ret (pe_join pe_str (pe_op op_catS (pe_op op_catS (pe_slice sl_list (pv 2) po_none (po_some (pv 3))) (pe_lst (pa_cons (pe_fn d__law_bad (hr.mono (by decide)) (by rfl) passL (pa_cons (pe_op op_fdiv (pv 1) pe_int) pa_nil)) pa_nil))) (pe_slice sl_list (pv 2) (po_some (pe_op op_add (pv 3) pe_int)) po_none)))))
    pss_nil)
    (pss_cons (ps_if (pt_cmpR op_eq (pv 4) pe_int (nomark _))
    (pss_one (ps_ret (pe_join pe_str (pe_op op_catS (pe_op op_catS (pe_slice sl_list (pv 2) po_none (po_some (pv 3))) (pe_lst (pa_cons (pe_fn d__law_bad (hr.mono (by decide)) (by rfl) passL (pa_cons (pe_op op_fdiv (pv 1) pe_int) pa_nil)) pa_nil))) (pe_slice sl_list (pv 2) (po_some (pv 3)) po_none)))))
    pss_nil)
    (pss_cons (ps_set (i := 5) sc__law_changed.nd rfl (Or.inl rfl) (pe_op op_mod (pe_op op_fdiv (pv 1) pe_int) (pe_op op_add (pe_callB call_len_str (by rfl) T.z_len (by decide +kernel) (pa_cons (pv 0) pa_nil)) pe_int)))
    (pss_cons (ps_set (i := 6) sc__law_changed.nd rfl (Or.inl rfl) (pe_ix ix_str pe_str (pe_op op_mod (pe_op op_fdiv (pv 1) pe_int) pe_int) (fun _ _ => rfl)))
    (pss_cons (ps_if (pt_cmpR op_eq (pv 4) pe_int (nomark _))
    (pss_one (ps_ret (pe_op op_add_str (pe_slice sl_str (pv 0) po_none (po_some (pv 5))) (pe_slice sl_str (pv 0) (po_some (pe_op op_add (pv 5) pe_int)) po_none))))
    pss_nil)
    (pss_cons (ps_if (pt_cmpR op_eq (pv 4) pe_int (nomark _))
    (pss_one (ps_ret (pe_op op_add_str (pe_op op_add_str (pe_slice sl_str (pv 0) po_none (po_some (pv 5))) (pv 6)) (pe_slice sl_str (pv 0) (po_some (pe_op op_add (pv 5) pe_int)) po_none))))
    pss_nil)
    (pss_cons (ps_if (pt_cmpR op_eq (pv 4) pe_int (nomark _))
    (pss_one (ps_ret (pe_op op_add_str (pe_op op_add_str (pe_slice sl_str (pv 0) po_none (po_some (pv 5))) (pv 6)) (pe_slice sl_str (pv 0) (po_some (pv 5)) po_none))))
    pss_nil)
    (pss_one (ps_ret (pv 0))))))))))))))), ?_⟩
  have hs : z.length ≤ sizeLine := Nat.le_trans hz (by rw [sizeLine_eq]; decide)
  refine ⟨_, rfl, ⟨_, rfl⟩, _, _, rfl, rfl, by decide +kernel, by rw [sizeLine_eq]; omega, fun lr nlr => ?_⟩
  have hpos : 1 ≤ (Txt.split z (Str.ofString "\n")).length := PyProof.Rows.split_pos _ _
  have hwt := lines_wt z
  have s1 := same_upd (o := HO.lst ((Txt.split z (Str.ofString "\n")).map V.str)) nlr
  have elr : (upd H lr (.lst ((Txt.split z (Str.ofString "\n")).map V.str))) lr = some (.lst ((Txt.split z (Str.ofString "\n")).map V.str)) := upd_same
  generalize upd H lr (.lst ((Txt.split z (Str.ofString "\n")).map V.str)) = H1 at s1 elr
  have fin : ∀ {c : Addr} {H' : Hp} {L : List Str} {x : Str}, Same H H' → H' c = some (.lst (L.map V.str)) → (x.length ≤ 100 ∧ PyData.strOk x = true ∧ 10 ∉ TL.tl x) → (∀ r ∈ L, r ∈ Txt.split z "\n" ∨ r = x) → wt L ≤ 3 * (z.length + 1) + 200 →
      ∃ (a : Str) (p : Addr) (ys : List Str), V.str "\n" = .str a ∧ [V.ref c] = [.ref p] ∧ (SqL K H' p (ys.map V.str) ∨ SqT K H' p (ys.map V.str)) ∧ (ys.map (·.length)).sum + ys.length * a.length ≤ 16777216 ∧ Q (.str (Txt.join a ys)) H' := by
    intro c H' L x s' ec hx hL hw
    refine ⟨"\n", c, L, rfl, rfl, .inl (.inl (.inl ec)), ?_, q H' _ s' (chd_rows hk hx hL hw)⟩
    have e1 : (Str.ofString "\n").length = 1 := by decide +kernel
    rw [e1]
    unfold wt at hw
    omega
  have e0 : (Str.ofString "").length ≤ 100 ∧ PyData.strOk (Str.ofString "") = true ∧ 10 ∉ TL.tl (Str.ofString "") := by decide +kernel
  refine ⟨_, rfl, _, _, rfl, rfl, ⟨by decide, by decide⟩, _, rfl, lr, _, rfl, .inl (.inl (.inl elr)), _, _, rfl, rfl, by rw [List.length_map]; omega, ?_⟩
  refine ⟨_, rfl, _, _, rfl, rfl, by simp, ?_⟩
  have hsz : ∀ L : List Str, L.Sublist (Txt.split z (Str.ofString "\n")) → L.length ≤ 100001 := fun L h => by
    have := wt_sub h
    unfold wt at this hwt
    omega
  refine ⟨_, rfl, rfl, _, rfl, ite2 (fun k0 => ?_) (fun k0 => ?_)⟩
  · refine ⟨⟨_, rfl⟩, _, rfl, _, rfl, _, rfl, _, _, rfl, .inl (.inl elr), fun a na => ?_⟩
    obtain ⟨L1, h1, b1⟩ := cut_strs (Txt.split z (Str.ofString "\n")) none (some (i / 8 % (((Txt.split z (Str.ofString "\n")).map V.str).length : Int)))
    rw [h1]
    have s2 := same_upd (o := HO.lst (L1.map V.str)) na
    have ea : (upd H1 a (.lst (L1.map V.str))) a = some (.lst (L1.map V.str)) := upd_same
    generalize upd H1 a (.lst (L1.map V.str)) = H2 at s2 ea
    refine ⟨_, rfl, _, rfl, _, _, rfl, rfl, _, rfl, _, _, rfl, .inl (.inl (s2 _ _ elr)), fun b nb => ?_⟩
    obtain ⟨L2, h2, b2⟩ := cut_strs (Txt.split z (Str.ofString "\n")) (some ((i / 8 % (((Txt.split z (Str.ofString "\n")).map V.str).length : Int)) + 1)) none
    rw [h2]
    have s3 := same_upd (o := HO.lst (L2.map V.str)) nb
    have eb : (upd H2 b (.lst (L2.map V.str))) b = some (.lst (L2.map V.str)) := upd_same
    have ea := s3 _ _ ea
    generalize upd H2 b (.lst (L2.map V.str)) = H3 at s3 ea eb
    have w1 := wt_sub b1
    have w2 := wt_sub b2
    have big := hsz L1 b1
    have big2 := hsz L2 b2
    refine ⟨a, b, _, _, rfl, rfl, .inl (.inl ea), .inl (.inl eb), by rw [List.length_map, List.length_map, sizeLine_eq]; omega, fun c nc => ?_⟩
    rw [← List.map_append]
    refine fin (x := "") (s1.trans (s2.trans (s3.trans (same_upd nc)))) upd_same e0 (fun r hr => ?_) (by rw [wt_append]; omega)
    rcases List.mem_append.mp hr with hr | hr
    · exact .inl (b1.subset hr)
    · exact .inl (b2.subset hr)
  refine ⟨_, rfl, rfl, _, rfl, ite2 (fun k1 => ?_) (fun k1 => ?_)⟩
  · refine ⟨⟨_, rfl⟩, _, rfl, _, rfl, _, rfl, _, _, rfl, .inl (.inl elr), fun a na => ?_⟩
    obtain ⟨L1, h1, b1⟩ := cut_strs (Txt.split z (Str.ofString "\n")) none (some (i / 8 % (((Txt.split z (Str.ofString "\n")).map V.str).length : Int)))
    rw [h1]
    have s2 := same_upd (o := HO.lst (L1.map V.str)) na
    have ea : (upd H1 a (.lst (L1.map V.str))) a = some (.lst (L1.map V.str)) := upd_same
    generalize upd H1 a (.lst (L1.map V.str)) = H2 at s2 ea
    refine ⟨_, rfl, _, rfl, _, rfl, _, rfl, _, _, rfl, rfl, _, rfl, _, _, rfl, .inl (.inl (s2 _ _ elr)), fun b nb => ?_⟩
    obtain ⟨L2, h2, b2⟩ := cut_strs (Txt.split z (Str.ofString "\n")) (some (i / 8 % (((Txt.split z (Str.ofString "\n")).map V.str).length : Int))) (some ((i / 8 % (((Txt.split z (Str.ofString "\n")).map V.str).length : Int)) + 1))
    rw [h2]
    have s3 := same_upd (o := HO.lst (L2.map V.str)) nb
    have eb : (upd H2 b (.lst (L2.map V.str))) b = some (.lst (L2.map V.str)) := upd_same
    have ea := s3 _ _ ea
    have el3 := s3 _ _ (s2 _ _ elr)
    generalize upd H2 b (.lst (L2.map V.str)) = H3 at s3 ea eb el3
    have w1 := wt_sub b1
    have w2 := wt_sub b2
    have big := hsz L1 b1
    have big2 := hsz L2 b2
    refine ⟨a, b, _, _, rfl, rfl, .inl (.inl ea), .inl (.inl eb), by rw [List.length_map, List.length_map, sizeLine_eq]; omega, fun c nc => ?_⟩
    rw [← List.map_append]
    have s4 := same_upd (o := HO.lst ((L1 ++ L2).map V.str)) nc
    have ec : (upd H3 c (.lst ((L1 ++ L2).map V.str))) c = some (.lst ((L1 ++ L2).map V.str)) := upd_same
    have el4 := s4 _ _ el3
    generalize upd H3 c (.lst ((L1 ++ L2).map V.str)) = H4 at s4 ec el4
    refine ⟨_, rfl, _, rfl, _, rfl, _, _, rfl, .inl (.inl el4), fun e ne => ?_⟩
    obtain ⟨L3, h3, b3⟩ := cut_strs (Txt.split z (Str.ofString "\n")) (some (i / 8 % (((Txt.split z (Str.ofString "\n")).map V.str).length : Int))) none
    rw [h3]
    have s5 := same_upd (o := HO.lst (L3.map V.str)) ne
    have ee : (upd H4 e (.lst (L3.map V.str))) e = some (.lst (L3.map V.str)) := upd_same
    have ec := s5 _ _ ec
    generalize upd H4 e (.lst (L3.map V.str)) = H5 at s5 ee ec
    have w3 := wt_sub b3
    have big3 := hsz L3 b3
    refine ⟨c, e, _, _, rfl, rfl, .inl (.inl ec), .inl (.inl ee), by rw [List.length_map, List.length_map, List.length_append, sizeLine_eq]; omega, fun f nf => ?_⟩
    rw [← List.map_append]
    refine fin (x := "") (s1.trans (s2.trans (s3.trans (s4.trans (s5.trans (same_upd nf)))))) upd_same e0 (fun r hr => ?_) (by rw [wt_append, wt_append]; omega)
    rcases List.mem_append.mp hr with hr | hr
    · rcases List.mem_append.mp hr with hr | hr
      · exact .inl (b1.subset hr)
      · exact .inl (b2.subset hr)
    · exact .inl (b3.subset hr)
  refine ⟨_, rfl, rfl, _, rfl, ite2 (fun k2 => ?_) (fun k2 => ?_)⟩
  · refine ⟨⟨_, rfl⟩, _, rfl, _, rfl, _, rfl, _, _, rfl, .inl (.inl elr), fun a na => ?_⟩
    obtain ⟨L1, h1, b1⟩ := cut_strs (Txt.split z (Str.ofString "\n")) none (some (i / 8 % (((Txt.split z (Str.ofString "\n")).map V.str).length : Int)))
    rw [h1]
    have s2 := same_upd (o := HO.lst (L1.map V.str)) na
    have ea : (upd H1 a (.lst (L1.map V.str))) a = some (.lst (L1.map V.str)) := upd_same
    generalize upd H1 a (.lst (L1.map V.str)) = H2 at s2 ea
    refine ⟨_, rfl, _, _, rfl, rfl, ⟨by decide, by decide⟩, _, rfl, _, rfl, Int.ediv_nonneg hi (by decide), fun H2' x sx gx => ⟨by simp [sizeLine_eq], fun b nb => ?_⟩⟩
    obtain ⟨x1, x2, x3⟩ := goodV_ok gx
    have s2 := s2.trans sx
    have ea := sx _ _ ea
    have s3 := same_upd (o := HO.lst [V.str x]) nb
    have eb : (upd H2' b (.lst [V.str x])) b = some (.lst ([x].map V.str)) := upd_same
    have ea := s3 _ _ ea
    have el3 := s3 _ _ (s2 _ _ elr)
    generalize upd H2' b (.lst [V.str x]) = H3 at s3 ea eb el3
    have big := hsz L1 b1
    refine ⟨a, b, L1.map V.str, [x].map V.str, rfl, rfl, .inl (.inl ea), .inl (.inl eb), by rw [List.length_map, List.length_map, sizeLine_eq]; simp; omega, fun c nc => ?_⟩
    rw [← List.map_append]
    have s4 := same_upd (o := HO.lst ((L1 ++ [x]).map V.str)) nc
    have ec : (upd H3 c (.lst ((L1 ++ [x]).map V.str))) c = some (.lst ((L1 ++ [x]).map V.str)) := upd_same
    have el4 := s4 _ _ el3
    have s24 := s3.trans s4
    generalize upd H3 c (.lst ((L1 ++ [x]).map V.str)) = H4 at s24 ec el4
    refine ⟨_, rfl, _, rfl, _, _, rfl, rfl, _, rfl, _, _, rfl, .inl (.inl el4), fun e ne => ?_⟩
    obtain ⟨L3, h3, b3⟩ := cut_strs (Txt.split z (Str.ofString "\n")) (some ((i / 8 % (((Txt.split z (Str.ofString "\n")).map V.str).length : Int)) + 1)) none
    rw [h3]
    have s5 := same_upd (o := HO.lst (L3.map V.str)) ne
    have ee : (upd H4 e (.lst (L3.map V.str))) e = some (.lst (L3.map V.str)) := upd_same
    have ec := s5 _ _ ec
    generalize upd H4 e (.lst (L3.map V.str)) = H5 at s5 ee ec
    have w1 := wt_sub b1
    have w3 := wt_sub b3
    have big3 := hsz L3 b3
    have wx : wt [x] ≤ 101 := by unfold wt; simp; omega
    refine ⟨c, e, _, _, rfl, rfl, .inl (.inl ec), .inl (.inl ee), by rw [List.length_map, List.length_map, List.length_append, sizeLine_eq]; simp; omega, fun f nf => ?_⟩
    rw [← List.map_append]
    refine fin (x := x) (s1.trans (s2.trans (s24.trans (s5.trans (same_upd nf))))) upd_same ⟨x1, x2, x3⟩ (fun r hr => ?_) (by rw [wt_append, wt_append]; omega)
    rcases List.mem_append.mp hr with hr | hr
    · rcases List.mem_append.mp hr with hr | hr
      · exact .inl (b1.subset hr)
      · exact .inr (List.mem_singleton.mp hr)
    · exact .inl (b3.subset hr)
  refine ⟨_, rfl, rfl, _, rfl, ite2 (fun k3 => ?_) (fun k3 => ?_)⟩
  · refine ⟨⟨_, rfl⟩, _, rfl, _, rfl, _, rfl, _, _, rfl, .inl (.inl elr), fun a na => ?_⟩
    obtain ⟨L1, h1, b1⟩ := cut_strs (Txt.split z (Str.ofString "\n")) none (some (i / 8 % (((Txt.split z (Str.ofString "\n")).map V.str).length : Int)))
    rw [h1]
    have s2 := same_upd (o := HO.lst (L1.map V.str)) na
    have ea : (upd H1 a (.lst (L1.map V.str))) a = some (.lst (L1.map V.str)) := upd_same
    generalize upd H1 a (.lst (L1.map V.str)) = H2 at s2 ea
    refine ⟨_, rfl, _, _, rfl, rfl, ⟨by decide, by decide⟩, _, rfl, _, rfl, Int.ediv_nonneg hi (by decide), fun H2' x sx gx => ⟨by simp [sizeLine_eq], fun b nb => ?_⟩⟩
    obtain ⟨x1, x2, x3⟩ := goodV_ok gx
    have s2 := s2.trans sx
    have ea := sx _ _ ea
    have s3 := same_upd (o := HO.lst [V.str x]) nb
    have eb : (upd H2' b (.lst [V.str x])) b = some (.lst ([x].map V.str)) := upd_same
    have ea := s3 _ _ ea
    have el3 := s3 _ _ (s2 _ _ elr)
    generalize upd H2' b (.lst [V.str x]) = H3 at s3 ea eb el3
    have big := hsz L1 b1
    refine ⟨a, b, L1.map V.str, [x].map V.str, rfl, rfl, .inl (.inl ea), .inl (.inl eb), by rw [List.length_map, List.length_map, sizeLine_eq]; simp; omega, fun c nc => ?_⟩
    rw [← List.map_append]
    have s4 := same_upd (o := HO.lst ((L1 ++ [x]).map V.str)) nc
    have ec : (upd H3 c (.lst ((L1 ++ [x]).map V.str))) c = some (.lst ((L1 ++ [x]).map V.str)) := upd_same
    have el4 := s4 _ _ el3
    have s24 := s3.trans s4
    generalize upd H3 c (.lst ((L1 ++ [x]).map V.str)) = H4 at s24 ec el4
    refine ⟨_, rfl, _, rfl, _, rfl, _, _, rfl, .inl (.inl el4), fun e ne => ?_⟩
    obtain ⟨L3, h3, b3⟩ := cut_strs (Txt.split z (Str.ofString "\n")) (some (i / 8 % (((Txt.split z (Str.ofString "\n")).map V.str).length : Int))) none
    rw [h3]
    have s5 := same_upd (o := HO.lst (L3.map V.str)) ne
    have ee : (upd H4 e (.lst (L3.map V.str))) e = some (.lst (L3.map V.str)) := upd_same
    have ec := s5 _ _ ec
    generalize upd H4 e (.lst (L3.map V.str)) = H5 at s5 ee ec
    have w1 := wt_sub b1
    have w3 := wt_sub b3
    have big3 := hsz L3 b3
    have wx : wt [x] ≤ 101 := by unfold wt; simp; omega
    refine ⟨c, e, _, _, rfl, rfl, .inl (.inl ec), .inl (.inl ee), by rw [List.length_map, List.length_map, List.length_append, sizeLine_eq]; simp; omega, fun f nf => ?_⟩
    rw [← List.map_append]
    refine fin (x := x) (s1.trans (s2.trans (s24.trans (s5.trans (same_upd nf))))) upd_same ⟨x1, x2, x3⟩ (fun r hr => ?_) (by rw [wt_append, wt_append]; omega)
    rcases List.mem_append.mp hr with hr | hr
    · rcases List.mem_append.mp hr with hr | hr
      · exact .inl (b1.subset hr)
      · exact .inr (List.mem_singleton.mp hr)
    · exact .inl (b3.subset hr)
  -- a sign
  have hsp0 : 0 ≤ i / 8 % ((z.length : Int) + 1) := Int.emod_nonneg _ (by omega)
  have hsp1 : i / 8 % ((z.length : Int) + 1) < (z.length : Int) + 1 := Int.emod_lt_of_pos _ (by omega)
  obtain ⟨n, hn⟩ := Int.eq_ofNat_of_zero_le hsp0
  have hnl : n ≤ z.length := by omega
  have hc1 : TL.tl (cutS z none (some (i / 8 % ((z.length : Int) + 1)))) = (TL.tl z).take n := by rw [hn]; exact tl_cut_to z hnl
  have hc2 : TL.tl (cutS z (some (i / 8 % ((z.length : Int) + 1) + 1)) none) = (TL.tl z).drop (n + 1) := by rw [hn]; exact tl_cut_from z (n + 1)
  have hc3 : TL.tl (cutS z (some (i / 8 % ((z.length : Int) + 1))) none) = (TL.tl z).drop n := by rw [hn]; exact tl_cut_from z n
  have l1 := cutS_length z none (some (i / 8 % ((z.length : Int) + 1)))
  have l2 := cutS_length z (some (i / 8 % ((z.length : Int) + 1) + 1)) none
  have l3 := cutS_length z (some (i / 8 % ((z.length : Int) + 1))) none
  obtain ⟨c, hcm, hat⟩ := at_in (xs := (Str.ofString "0 1a\nf9.-z").cps.toList) (i := i / 64 % 10) (n := 10) (by decide +kernel) (by omega) (by omega)
  have hcb : c < 1114112 := by
    have h : (Str.ofString "0 1a\nf9.-z").cps.toList.all (fun c => decide (c < 1114112)) = true := by decide +kernel
    exact of_decide_eq_true (List.all_eq_true.mp h c hcm)
  have hcl : ∀ x ∈ [c], x < 1114112 := fun x hx => by rw [List.mem_singleton.mp hx]; exact hcb
  have htc : TL.tl (⟨#[c]⟩ : Str) = [c] := rfl
  have hlc : (⟨#[c]⟩ : Str).length = 1 := rfl
  refine ⟨_, rfl, _, _, rfl, rfl, ⟨by decide, by decide⟩, _, rfl, z, rfl, hs, _, _, rfl, rfl, _, _, rfl, rfl, by omega, ?_⟩
  refine ⟨_, rfl, _, _, rfl, rfl, ⟨by decide, by decide⟩, _, _, rfl, rfl, by simp, _, _, c, rfl, rfl, by decide +kernel, hat, ?_⟩
  refine ⟨_, rfl, rfl, _, rfl, ite2 (fun k4 => ?_) (fun k4 => ?_)⟩
  · refine ⟨_, rfl, _, rfl, _, rfl, z, rfl, hs, _, rfl, _, rfl, _, _, rfl, rfl, _, rfl, z, rfl, hs, _, _, rfl, rfl, by rw [sizeLine_eq]; omega, ?_⟩
    exact q H1 _ s1 (chd_sign (m := []) (tl_parts (TL.tl z) n) (by rw [TL.tl_append, hc1, hc2]; rfl) (by simp) hk (by simp))
  refine ⟨_, rfl, rfl, _, rfl, ite2 (fun k5 => ?_) (fun k5 => ?_)⟩
  · refine ⟨_, rfl, _, rfl, _, rfl, z, rfl, hs, _, rfl, _, _, rfl, rfl, by rw [hlc, sizeLine_eq]; omega, _, rfl, _, rfl, _, _, rfl, rfl, _, rfl, z, rfl, hs, _, _, rfl, rfl, by rw [Str.length_append, hlc, sizeLine_eq]; omega, ?_⟩
    exact q H1 _ s1 (chd_sign (m := [c]) (tl_parts (TL.tl z) n) (by rw [TL.tl_append, TL.tl_append, hc1, hc2, htc, List.append_assoc]) (by simp) hk hcl)
  refine ⟨_, rfl, rfl, _, rfl, ite2 (fun k6 => ?_) (fun k6 => ?_)⟩
  · refine ⟨_, rfl, _, rfl, _, rfl, z, rfl, hs, _, rfl, _, _, rfl, rfl, by rw [hlc, sizeLine_eq]; omega, _, rfl, _, rfl, _, rfl, z, rfl, hs, _, _, rfl, rfl, by rw [Str.length_append, hlc, sizeLine_eq]; omega, ?_⟩
    exact q H1 _ s1 (chd_sign (m := [c]) (m0 := []) (a := (TL.tl z).take n) (b := (TL.tl z).drop n) (by rw [List.nil_append, List.take_append_drop]) (by rw [TL.tl_append, TL.tl_append, hc1, hc3, htc, List.append_assoc]) (by simp) hk hcl)
  exact ⟨_, rfl, q H1 z s1 (chd_same hk)⟩
end

def notInV (F : List Str) : V → Bool
  | .str y => !decide (y ∈ F)
  | _ => false
theorem inV_strs (y : Str) : ∀ F : List Str, inV (.str y) (F.map V.str) = decide (y ∈ F)
  | [] => rfl
  | a :: r => by
    have ih := inV_strs y r
    have e : inV (.str y) ((a :: r).map V.str) = (eqV (.str a) (.str y) || inV (.str y) (r.map V.str)) := rfl
    rw [e, ih]
    have e2 : eqV (.str a) (.str y) = decide (a = y) := by
      show (a == y) = _
      by_cases h : a = y <;> simp [h]
    rw [e2]
    by_cases h1 : a = y
    · subst h1; simp
    · by_cases h2 : y ∈ r
      · simp [h2]
      · have : ¬ y = a := fun z => h1 z.symm
        simp [h1, h2, this]
theorem filt_strs (F : List Str) : ∀ ls : List Str, (ls.map V.str).filter (notInV F) = (ls.filter fun y => !decide (y ∈ F)).map V.str
  | [] => rfl
  | a :: r => by
    have ih := filt_strs F r
    rw [List.map_cons, List.filter_cons, List.filter_cons, ih]
    show (if (!decide (a ∈ F)) = true then _ else _) = _
    cases !decide (a ∈ F) <;> rfl
section
variable {P : Program} {w : World} {K : PySem.W.Frag} {mg : Str → Option Value} {base : Heap}
def spLTold (K : PySem.W.Frag) : Sp := sp1 fun m H Q _ => ∃ d am M U, m = .ref d ∧ TabAt RcM none H d am M ∧ Good U M ∧ Lamps U ∧
  ∀ (H' : Hp) (l : Addr) (ls : List Str), Same H H' → H' l = some (.lst (ls.map V.str)) → ls.Nodup → (∀ z ∈ ls, z ∈ ("red" : Str) :: U) → (∀ e ∈ M, ∀ w ∈ e.2.words, w.1 ∈ ls) → Q (.ref l) H'
theorem sc__law_told_lamps : FnScope ["_law_model", "_law_found", "_law_number", "_law_lamp"] ["_law_model"] (defScope s__law_told_lamps) := ⟨rfl, rfl, rfl, by decide +kernel, rfl, by decide +kernel, by decide +kernel⟩
theorem d__law_told_lamps (T : Txt K mg) : Def P w K mg base 1 "_law_told_lamps" ["_law_model"] (spLTold K) := by
  refine mkDef T.d__law_told_lamps T.g__law_told_lamps sc__law_told_lamps (fun _ _ _ _ _ _ us hl => match us, hl with | [_], _ => rfl) len1 (BodyN.up fun cdv A outer s H vs Q E hr h => ?_)
  obtain ⟨_, rfl, d, am, M, U, rfl, hT, g, u, q⟩ := h
  have hu := hu_of hr
  refine ⟨_, (pss_cons (ps_set (i := 1) sc__law_told_lamps.nd rfl (Or.inr rfl) (pe_lst (pa_cons pe_str pa_nil)))
    (pss_cons (ps_lock (ps_for PassesOwn.never rfl (pi_keys (pv 0)) (pg_name (i := 2) sc__law_told_lamps.nd rfl (Or.inl rfl))
    (pss_one (ps_set (i := 1) sc__law_told_lamps.nd rfl (Or.inr rfl) (pe_op op_catS (pv 1) (pe_lock (pe_lc (own := [("_law_lamp", 3)]) rfl sc__law_told_lamps.nd (pi_keys (pe_ix ix_list (pe_dget (by exact hu) (pv 0) (pv 2) (fun _ _ => rfl)) pe_int (fun _ _ => rfl))) (blkOk_by (own := [("_law_lamp", 3)]) (N := ["_law_model", "_law_found", "_law_number", "_law_lamp"]) (sc := defScope s__law_told_lamps) (by decide +kernel)) (fun _ _ _ _ _ => pg_name (i := 3) sc__law_told_lamps.nd rfl (Or.inl rfl)) (fun _ _ _ _ _ => (pts_one (pt_cmpR (op_notIn_seqK (K := K) rfl) (pv 3) (pv 1) rfl))) (fun _ _ _ _ _ => (pv 3)) /-LOCK-/)))))))
    (pss_one (ps_ret (pv 1))))), ?_⟩
  refine ⟨by simp [sizeLine_eq], fun l0 n0 => ?_⟩
  have s1 := same_upd (o := HO.lst [V.str "red"]) n0
  have e1 : (upd H l0 (.lst [V.str "red"])) l0 = some (.lst ([("red" : Str)].map V.str)) := upd_same
  have hT1 := hT.same s1
  generalize upd H l0 (.lst [V.str "red"]) = H1 at s1 e1 hT1
  obtain ⟨kvs, hd1, tk⟩ := hT1.top
  have hd1 : H1 d = some (.dK kvs) := hd1
  obtain ⟨ks, hk, hknd, hkm⟩ := tk.keys
  refine ⟨d, _, hd1, trivial, fun od => ?_⟩
  have T0 := hT1.locked hd1 od
  have l0d : l0 ≠ d := fun z => by rw [z, hd1] at e1; cases e1
  have back : ∀ H', Same (upd H1 d (.frz od (.dK kvs))) H' → Same H (upd H' d (.dK kvs)) := fun H' s => s1.trans (same_unlock hd1 s)
  have hd0 : (upd H1 d (.frz od (.dK kvs))) d = some (.frz od (.dK kvs)) := upd_same
  have e0 : (upd H1 d (.frz od (.dK kvs))) l0 = some (.lst ([("red" : Str)].map V.str)) := by rw [upd_ne l0d]; exact e1
  generalize upd H1 d (.frz od (.dK kvs)) = H0 at T0 back hd0 e0
  refine ⟨_, rfl, d, od, rfl, .inl ⟨kvs, hd0, for_it walk_keys (fun i σ H' => ∃ l F v2 v3, σ = [some (.ref d), some (.ref l), v2, v3] ∧ Same H0 H' ∧ H' l = some (.lst (F.map V.str)) ∧ l ≠ d ∧ F.Nodup ∧ (∀ z ∈ F, z ∈ ("red" : Str) :: U) ∧ ∀ n ∈ ks.take i, ∀ c, get M n = some c → ∀ w ∈ c.words, w.1 ∈ F) ⟨l0, [("red" : Str)], none, none, rfl, Same.refl _, e0, l0d, by simp, by simp, by simp⟩ (fun i σ H' _ ⟨_, _, _, _, _, s, _⟩ => s _ _ hd0) ?_ ?_⟩⟩
  · rintro i x σ H3x H3 hi ⟨l, F, v2, v3, rfl, s3, el, lned, hnd, hF, hcov⟩ ⟨rfl, k, v, hkv, rfl⟩
    obtain ⟨n, hn, rfl⟩ : ∃ n, ks[i]? = some n ∧ k = Sum.inl n := by
      have e := congrArg (fun L => L[i]?) hk
      simp only [List.getElem?_map, hkv, Option.map_some] at e
      obtain ⟨n, hn, e2⟩ := Option.map_eq_some_iff.mp e.symm
      exact ⟨n, hn, e2.symm⟩
    obtain ⟨c, hge⟩ := get_some_iff.mpr ((hkm n).mp (List.mem_of_getElem? hn))
    have hmem := get_mem hge
    have T3 := T0.same s3
    obtain ⟨kw, ew, wk⟩ := T3.wrd n c hge
    have rec3 := T3.recd hge
    have hd3 := s3 _ _ hd0
    have hw := g.wsrt _ hmem
    obtain ⟨ls, hls, hlnd, hlmem⟩ := wk.keys
    have hfew : c.words.length ≤ 60 := g.few u hmem
    have hlsl : ls.length = c.words.length := by
      have := congrArg List.length hls
      rw [List.length_map, List.length_map, wk.len hw] at this
      exact this.symm
    have ekw : (kw.map fun kv => kV kv.1) = ls.map V.str := by
      have := congrArg (List.map kV) hls
      rw [List.map_map, List.map_map] at this
      exact this
    have hFl : F.length ≤ 61 := by
      have := nodup_le hnd hF
      have := u.few
      rw [List.length_cons] at *
      omega
    have lw : l ≠ (am n).2 := fun z => by rw [z, ew] at el; cases el
    have dw : d ≠ (am n).2 := fun z => (T3.out n c hge).2 z.symm
    have rw' : (am n).1 ≠ (am n).2 := T3.crs n n c c hge hge
    refine ⟨_, rfl, (am n).2, _, ew, trivial, fun od2 => ?_⟩
    have hdL : (upd H3 (am n).2 (.frz od2 (.dK kw))) d = some (.frz od (.dK kvs)) := by rw [upd_ne dw]; exact hd3
    have hlL : (upd H3 (am n).2 (.frz od2 (.dK kw))) l = some (.lst (F.map V.str)) := by rw [upd_ne lw]; exact el
    have hrL : (upd H3 (am n).2 (.frz od2 (.dK kw))) (am n).1 = some (.lst [.int c.up, .int c.down, .bl c.fresh, .ref (am n).2]) := by rw [upd_ne rw']; exact rec3
    have hwL : (upd H3 (am n).2 (.frz od2 (.dK kw))) (am n).2 = some (.frz od2 (.dK kw)) := upd_same
    refine ⟨_, rfl, _, rfl, d, _, rfl, tk.hit (.inr ⟨_, hdL⟩) hge, (am n).1, _, _, _, rfl, rfl, .inl (.inl hrL), rfl, (am n).2, od2, rfl, .inl ⟨kw, hwL, fun D nD => ?_⟩⟩
    refine lc_pure walk_ks nD (notInV F) id ?_ (fun _ => rfl) (fun H6 s6 => s6 _ _ hwL) ?_ ?_ ?_
    · rw [ekw, List.length_map, hlsl, sizeLine_eq]; omega
    · intro v' hv H6 s6 Q' k
      rw [ekw] at hv
      obtain ⟨y, _, rfl⟩ := List.mem_map.mp hv
      refine ⟨_, rfl, _, rfl, l, F.map V.str, rfl, .inl (.inl (.inl (s6 _ _ hlL))), rfl, by simp [flatV], _, rfl, ?_⟩
      have := k H6 (Same.refl _)
      show Q' (!inV (.str y) (F.map V.str)) H6
      rw [inV_strs]
      exact this
    · exact fun v _ _ H6 s6 Q' k => ⟨_, rfl, k H6 (Same.refl _)⟩
    · intro H6 s6 hD6
      rw [ekw, List.map_id, filt_strs] at hD6
      have s36 := same_unlock ew s6
      have hDw : D ≠ (am n).2 := (ne_of_none hwL nD).symm
      have eD : (upd H6 (am n).2 (.dK kw)) D = some (.lst ((ls.filter fun y => !decide (y ∈ F)).map V.str)) := by rw [upd_ne hDw]; exact hD6
      have hfl : (ls.filter fun y => !decide (y ∈ F)).length ≤ ls.length := List.length_filter_le _ _
      refine ⟨s6 _ _ hwL, l, D, _, _, rfl, rfl, .inl (.inl (s36 _ _ el)), .inl (.inl eD), by rw [List.length_map, List.length_map, sizeLine_eq]; omega, fun p np => ?_⟩
      have sp := same_upd (o := HO.lst (F.map V.str ++ (ls.filter fun y => !decide (y ∈ F)).map V.str)) np
      refine ⟨p, F ++ ls.filter fun y => !decide (y ∈ F), _, _, rfl, (s3.trans s36).trans sp, by rw [upd_same, List.map_append], (ne_of_none (s36 _ _ hd3) np).symm, ?_, fun z hz => ?_, fun m hm c' hc' w' hw' => ?_⟩
      · refine List.nodup_append.mpr ⟨hnd, hlnd.filter _, fun a ha b hb => ?_⟩
        have := (List.mem_filter.mp hb).2
        intro e
        subst e
        simp [ha] at this
      · rcases List.mem_append.mp hz with hz | hz
        · exact hF z hz
        · obtain ⟨w', hw', e⟩ := List.mem_map.mp ((hlmem z).mp (List.mem_filter.mp hz).1)
          exact List.mem_cons_of_mem _ (e ▸ (g.wrd _ hmem w' hw').1)
      · rw [take_snoc hn] at hm
        rcases List.mem_append.mp hm with hm | hm
        · exact List.mem_append.mpr (.inl (hcov m hm c' hc' w' hw'))
        · rw [List.mem_singleton.mp hm, hge] at hc'
          cases hc'
          by_cases hin : w'.1 ∈ F
          · exact List.mem_append.mpr (.inl hin)
          · exact List.mem_append.mpr (.inr (List.mem_filter.mpr ⟨(hlmem w'.1).mpr (List.mem_map.mpr ⟨w', hw', rfl⟩), by simp [hin]⟩))
  · rintro σ H3 ⟨l, F, v2, v3, rfl, s3, el, lned, hnd, hF, hcov⟩
    have hkl : ks.length = kvs.length := by
      have := congrArg List.length hk
      rw [List.length_map, List.length_map] at this
      exact this.symm
    rw [← hkl, List.take_length] at hcov
    refine ⟨s3 _ _ hd0, _, rfl, q _ l F (back _ s3) (by rw [upd_ne lned]; exact el) hnd hF fun e he w' hw' => hcov e.1 ((hkm e.1).mpr (List.mem_map.mpr ⟨e, he, rfl⟩)) e.2 (get_of_mem g.nodup he) w' hw'⟩
end

/-! ## The law's texts: what the reading asks of them -/
structure TextOk (z : Str) (U : List Str) : Prop where
  len : z.length + 2 ≤ sizeLine
  rows : ∀ r ∈ Txt.split z "\n", (r.length ≤ 100000 ∧ PyData.strOk r = true) ∧ ((wordsIn r).length = 2 → lampS (at_ (wordsIn r) 0) = true → at_ (wordsIn r) 0 ∈ U)
  lamps : Lamps U
  few : U.length ≤ 20
theorem nums9_few {M : Book} {c : Int} (hn : (M.map (·.1)).Nodup) (h : ∀ e ∈ M, e.1 ∈ nums9 c) : M.length ≤ 9 := by
  have := nodup_le hn (u := nums9 c) fun x hx => by
    obtain ⟨e, he, rfl⟩ := List.mem_map.mp hx
    exact h e he
  rw [List.length_map] at this
  exact this
theorem rows_some {n : Nat} : ∀ R : Book, (∀ e ∈ R, e.2.words.length ≤ n) → (rows R).length ≤ (n + 1) * R.length := by
  intro R
  induction R with
  | nil => exact fun _ => Nat.le_refl _
  | cons e r ih =>
    intro h
    have h1 := h e List.mem_cons_self
    have h2 := ih fun x hx => h x (List.mem_cons_of_mem _ hx)
    have : rows (e :: r) = rowsOf e ++ rows r := rfl
    rw [this, List.length_append, rowsOf, List.length_cons, List.length_map, List.length_cons, Nat.mul_succ]
    omega
theorem text_some {U : List Str} {M : Book} (g : Good U M) (u : Lamps U) : (text M).length ≤ (rows M).length * 61 := by
  have e0 : (Str.ofString "").length = 0 := by decide +kernel
  have e1 : (Str.ofString "\n").length = 1 := by decide +kernel
  have hj : (text M).length ≤ (((rows M).map fun r : Str => r ++ ("\n" : Str)).map (·.length)).sum + ((rows M).map fun r : Str => r ++ ("\n" : Str)).length * (Str.ofString "").length := by
    unfold text
    rw [TL.join_eq]
    exact PySem.StrLaws.join_length_le _ _
  rw [e0, Nat.mul_zero, List.map_map] at hj
  have h := sum_le (b := 61) (l := (rows M).map ((·.length) ∘ fun r : Str => r ++ ("\n" : Str))) fun x hx => by
    obtain ⟨r, hr, rfl⟩ := List.mem_map.mp hx
    have := rows_len g u r hr
    show (r ++ Str.ofString "\n").length ≤ 61
    rw [Str.length_append, e1]; omega
  rw [List.length_map] at h
  exact Nat.le_trans hj h
theorem text_ok {U : List Str} {M : Book} (g : Good U M) (u : Lamps U) : PyData.strOk (text M) = true := by
  refine okS_join (by decide +kernel) fun y hy => ?_
  obtain ⟨r, hr, rfl⟩ := List.mem_map.mp hy
  exact okS_append (rows_ok g u r hr) (by decide +kernel)
def lampOf (r : Str) : List Str := if lampS (at_ (wordsIn r) 0) = true then [at_ (wordsIn r) 0] else []
theorem lampOf_ok {r z : Str} (h : z ∈ lampOf r) : lampS z = true := by
  unfold lampOf at h
  split at h
  · rename_i hl
    rw [List.mem_singleton.mp h]; exact hl
  · cases h
theorem lampOf_len (r : Str) : (lampOf r).length ≤ 1 := by
  unfold lampOf
  split <;> simp
theorem lampOf_in {r : Str} (h : lampS (at_ (wordsIn r) 0) = true) : at_ (wordsIn r) 0 ∈ lampOf r := by
  unfold lampOf
  rw [if_pos h]; exact List.mem_singleton.mpr rfl
theorem wt_mem {L : List Str} {r : Str} (h : r ∈ L) : r.length + 1 ≤ wt L := by
  induction L with
  | nil => cases h
  | cons x t ih =>
    have e : wt (x :: t) = x.length + 1 + wt t := by unfold wt; rw [List.map_cons, List.sum_cons, List.length_cons]; omega
    rcases List.mem_cons.mp h with h | h
    · rw [e, h]; omega
    · have := ih h; rw [e]; omega
theorem textOk_chd {U : List Str} {M : Book} {z : Str} (g : Good U M) (u : Lamps U) (hU : U.length ≤ 10) (hl : (text M).length ≤ 30000) (h : Chd (text M) z) : ∃ U', TextOk z U' := by
  obtain ⟨r1, r2, hr⟩ := h.rows
  have h1 := h.len
  have a1 := lampOf_len r1
  have a2 := lampOf_len r2
  have hzl : z.length ≤ 91000 := by omega
  refine ⟨U ++ (lampOf r1 ++ lampOf r2), ?_, fun r hm => ⟨⟨?_, okS_sub h.ok (lines_sub hm)⟩, fun hw hlm => ?_⟩, ⟨?_, fun l hlm => ?_⟩, ?_⟩
  · rw [sizeLine_eq]; omega
  · have b1 := wt_mem hm
    have b2 := lines_wt z
    omega
  · rcases hr r hm with h | h | h
    · rw [rows_text g u] at h
      rcases List.mem_append.mp h with h | h
      · exact List.mem_append.mpr (.inl (rows_lamps g u r h hw hlm))
      · rw [List.mem_singleton.mp h] at hw
        exact absurd hw (by decide +kernel)
    · rw [h] at hlm ⊢
      exact List.mem_append.mpr (.inr (List.mem_append.mpr (.inl (lampOf_in hlm))))
    · rw [h] at hlm ⊢
      exact List.mem_append.mpr (.inr (List.mem_append.mpr (.inr (lampOf_in hlm))))
  · rw [List.length_append, List.length_append]; omega
  · rcases List.mem_append.mp hlm with h | h
    · exact u.ok l h
    · rcases List.mem_append.mp h with h | h
      · exact lampOf_ok h
      · exact lampOf_ok h
  · rw [List.length_append, List.length_append]; omega
/-- a book of n cues from one on -/
def bigB (n : Nat) : Book := (List.range n).map fun i => ((1 : Int) + ((i : Nat) : Int), ⟨0, 0, false, []⟩)
theorem bigB_mem {n : Nat} {e : Int × CueC} (h : e ∈ bigB n) : ∃ i, i < n ∧ e = ((1 : Int) + ((i : Nat) : Int), ⟨0, 0, false, []⟩) := by
  obtain ⟨i, hi, rfl⟩ := List.mem_map.mp h
  exact ⟨i, List.mem_range.mp hi, rfl⟩
theorem bigB_good {n : Nat} (h : n ≤ 1000) : Good [] (bigB n) := by
  refine ⟨?_, fun e he => ?_, fun e he => ?_, fun e he w hw => ?_, fun e he => ?_, ?_⟩
  · refine List.pairwise_map.mpr (List.pairwise_map.mpr ?_)
    exact (List.pairwise_lt_range (n := n)).imp fun {a b} h => by show (1 : Int) + ((a : Nat) : Int) < 1 + ((b : Nat) : Int); omega
  · obtain ⟨i, hi, rfl⟩ := bigB_mem he
    exact List.Pairwise.nil
  · obtain ⟨i, hi, rfl⟩ := bigB_mem he
    show (1 : Int) ≤ 1 + ((i : Nat) : Int) ∧ (1 : Int) + ((i : Nat) : Int) ≤ 999999
    omega
  · obtain ⟨i, hi, rfl⟩ := bigB_mem he
    cases hw
  · obtain ⟨i, hi, rfl⟩ := bigB_mem he
    have h : (0 : Int) ≤ 6000 := by decide
    exact ⟨Int.le_refl 0, h, Int.le_refl 0, h⟩
  · unfold bigB; rw [List.length_map, List.length_range]; exact h
theorem lamps_nil : Lamps [] := ⟨by decide, fun _ h => by cases h⟩
theorem big_row (n : Nat) : rows (bigB n) = (List.range n).map fun i => rowC ((1 : Int) + ((i : Nat) : Int)) ⟨0, 0, false, []⟩ := by
  unfold rows bigB
  rw [List.flatMap_map]
  generalize List.range n = L
  induction L with
  | nil => rfl
  | cons x r ih => rw [List.flatMap_cons, ih]; rfl
theorem big_line (i : Int) : ("cue " : Str) ++ strI i ++ (" 0 0\n" : Str) = rowC i ⟨0, 0, false, []⟩ ++ ("\n" : Str) := by
  refine TL.ext_tl ?_
  have e0 : strI 0 = Str.ofString "0" := by decide +kernel
  unfold rowC rowL
  rw [TL.tl_append, TL.tl_append, TL.tl_append, TL.join_eq, TL.tl_join]
  show TL.tl (Str.ofString "cue ") ++ TL.tl (strI i) ++ TL.tl (Str.ofString " 0 0\n") = TL.joinL (TL.tl (Str.ofString " ")) ([TL.tl (Str.ofString "cue"), TL.tl (strI i), TL.tl (strI 0), TL.tl (strI 0)]) ++ TL.tl (Str.ofString "\n")
  rw [e0]
  generalize TL.tl (strI i) = t
  have a1 : TL.tl (Str.ofString "cue ") = [99, 117, 101, 32] := by decide +kernel
  have a2 : TL.tl (Str.ofString " 0 0\n") = [32, 48, 32, 48, 10] := by decide +kernel
  have a3 : TL.tl (Str.ofString "cue") = [99, 117, 101] := by decide +kernel
  have a4 : TL.tl (Str.ofString "0") = [48] := by decide +kernel
  have a5 : TL.tl (Str.ofString " ") = [32] := by decide +kernel
  have a6 : TL.tl (Str.ofString "\n") = [10] := by decide +kernel
  rw [a1, a2, a3, a4, a5, a6]
  simp [TL.joinL] <;> rfl
theorem big_lines (n : Nat) : ((List.range n).map fun i => ("cue " : Str) ++ strI ((1 : Int) + ((i : Nat) : Int)) ++ (" 0 0\n" : Str)) = (rows (bigB n)).map fun r : Str => r ++ ("\n" : Str) := by
  rw [big_row, List.map_map]
  exact List.map_congr_left fun i _ => big_line _
theorem textOk_big {n : Nat} (h : n ≤ 300) : ∃ U', TextOk (text (bigB n)) U' := by
  have g := bigB_good (n := n) (by omega)
  refine textOk_chd g lamps_nil (by decide) ?_ (chd_same (text_ok g lamps_nil))
  have := text_some g lamps_nil
  rw [big_row, List.length_map, List.length_range] at this
  omega
theorem readT_nil : readT (Str.ofString "") = .inl [] := by
  have e : Txt.split (Str.ofString "") (Str.ofString "\n") = [] ++ [Str.ofString ""] := by decide +kernel
  rw [readT_rows e]
  rfl
theorem textOk_nil : ∃ U', TextOk (Str.ofString "") U' := by
  have e : text (bigB 0) = Str.ofString "" := by decide +kernel
  exact e ▸ textOk_big (n := 0) (by decide)
theorem Good.other {U ls : List Str} {M : Book} (g : Good U M) (h : ∀ e ∈ M, ∀ w ∈ e.2.words, w.1 ∈ ls) : Good ls M :=
  ⟨g.srt, g.wsrt, g.num, fun e he w hw => ⟨h e he w hw, (g.wrd e he w hw).2⟩, g.fad, g.len⟩
theorem lamps_told {U ls : List Str} (u : Lamps U) (hU : U.length ≤ 20) (nd : ls.Nodup) (h : ∀ z ∈ ls, z ∈ (Str.ofString "red") :: U) : Lamps ls := by
  refine ⟨?_, fun z hz => ?_⟩
  · have := nodup_le nd h
    rw [List.length_cons] at this
    omega
  · rcases List.mem_cons.mp (h z hz) with e | e
    · rw [e]; decide +kernel
    · exact u.ok z e
theorem small_text {U : List Str} {M : Book} (g : Good U M) (u : Lamps U) (hU : U.length ≤ 6) (h9 : M.length ≤ 9) : (text M).length ≤ 30000 := by
  have h := rows_some (n := 6) M fun e he => by
    have := nodup_le (g.wnd he) (u := U) fun l hl => by
      obtain ⟨w, hw, rfl⟩ := List.mem_map.mp hl
      exact (g.wrd e he w hw).1
    rw [List.length_map] at this
    omega
  have := text_some g u
  omega
def lineV : V → V
  | .int i => .str (("cue " : Str) ++ strI i ++ (" 0 0\n" : Str))
  | _ => .non
theorem line_rng (n : Nat) : (rng 1 n).map lineV = ((List.range n).map fun i => ("cue " : Str) ++ strI ((1 : Int) + ((i : Nat) : Int)) ++ (" 0 0\n" : Str)).map V.str := by
  unfold rng
  rw [List.map_map, List.map_map]
  rfl
theorem line_len {i : Int} (h0 : 0 ≤ i) (h1 : i < 10000000) : (Str.ofString "cue ").length + (strI i).length ≤ sizeLine ∧ (Str.ofString "cue " ++ strI i).length + (Str.ofString " 0 0\n").length ≤ sizeLine := by
  have a := strI_len h0 h1
  have e1 : (Str.ofString "cue ").length = 4 := by decide +kernel
  have e2 : (Str.ofString " 0 0\n").length = 5 := by decide +kernel
  rw [Str.length_append, e1, e2, sizeLine_eq]
  omega

theorem seq_keep {K : PySem.W.Frag} {H : Hp} {a : Addr} {xs : List V} (hS : SqL K H a xs) : ∃ L : List (Addr × HO), (∀ x ∈ L, H x.1 = some x.2) ∧ ∀ H' : Hp, (∀ x ∈ L, H' x.1 = some x.2) → SqL K H' a xs := by
  rcases hS with (h | ⟨o, h⟩) | h
  · exact ⟨[(a, _)], fun x hx => by rw [List.mem_singleton.mp hx]; exact h, fun H' k => .inl (.inl (k _ List.mem_cons_self))⟩
  · exact ⟨[(a, _)], fun x hx => by rw [List.mem_singleton.mp hx]; exact h, fun H' k => .inl (.inr ⟨o, k _ List.mem_cons_self⟩)⟩
  · exact ⟨[], fun x hx => (by cases hx), fun H' _ => .inr h⟩
section
variable {P : Program} {w : World} {K : PySem.W.Frag} {mg : Str → Option Value} {base : Heap}
theorem sc_law : FnScope ["_law_script", "_law_k", "_law_cell_here", "_law_play", "_law_model", "_law_lamps_here", "_law_numbers_here", "_law_mix", "_law_text_here", "_law_one", "_law_due", "_law_found"] ["_law_script"] (defScope s_law) := ⟨rfl, rfl, rfl, by decide +kernel, rfl, by decide +kernel, by decide +kernel⟩
theorem ok_law (T : Txt K mg) {fd : FuncData} (F : FunD K "law" "law" (defArgs s_law) (defBody s_law) (defScope s_law) [] [] (He.ga K "law") fd) : FnOk P w K mg base CX0 10 (He.ga K "law") fd ["_law_script"] (spLaw K) := by
  have d__law_built := d__law_built (P := P) (w := w) (base := base) T
  have d__law_mixed := d__law_mixed (P := P) (w := w) (base := base) T
  have d__law_changed := d__law_changed (P := P) (w := w) (base := base) T
  have d__law_read := d__law_read (P := P) (w := w) (base := base) T
  have d__law_tried := d__law_tried (P := P) (w := w) (base := base) T
  have d_Play_numbers := d_Play_numbers (P := P) (w := w) (base := base) T
  have d__law_text := d__law_text (P := P) (w := w) (base := base) T
  have d_read := d_read (P := P) (w := w) (base := base) T
  have d__law_stands := d__law_stands (P := P) (w := w) (base := base) T
  have d__law_told_lamps := d__law_told_lamps (P := P) (w := w) (base := base) T
  refine F.ok sc_law len1 fun cdv A outer s H vs Q E hr h => ?_
  obtain ⟨_, rfl, a, ns, rfl, hl, hS, q⟩ := h
  have hu := hu_of hr
  refine ⟨_, PSs.nox (pss_cons (ps_for PassesOwn.never rfl (pi_enum (by rfl) T.z_enumerate (pa_cons (pe_slice sl_list (pv 0) po_none (po_some pe_int)) pa_nil)) (pg_tup rfl (pgs_cons (pg_name (i := 1) sc_law.nd rfl (Or.inl rfl)) (pgs_cons (pg_name (i := 2) sc_law.nd rfl (Or.inl rfl)) pgs_nil)))
    (pss_cons (ps_asg (pe_fn d__law_built (hr.mono (by decide)) (by rfl) passL (pa_cons (pv 0) (pa_cons (pv 1) (pa_cons (pe_op op_mod (pv 2) pe_int) pa_nil)))) (pg_tup rfl (pgs_cons (pg_name (i := 3) sc_law.nd rfl (Or.inl rfl)) (pgs_cons (pg_name (i := 4) sc_law.nd rfl (Or.inl rfl)) (pgs_cons (pg_name (i := 5) sc_law.nd rfl (Or.inl rfl)) (pgs_cons (pg_name (i := 6) sc_law.nd rfl (Or.inl rfl)) pgs_nil))))))
    (pss_cons (ps_set (i := 7) sc_law.nd rfl (Or.inl rfl) (pe_fn d__law_mixed (hr.mono (by decide)) (by rfl) passL (pa_cons (pv 2) (pa_cons (pe_op op_add pe_int (pv 1)) pa_nil))))
    (pss_cons (ps_set (i := 8) sc_law.nd rfl (Or.inl rfl) (pe_fn d__law_changed (hr.mono (by decide)) (by rfl) passL (pa_cons (pe_fn d__law_text (hr.mono (by decide)) (by rfl) passL (pa_cons (pv 4) pa_nil)) (pa_cons (pv 7) pa_nil))))
    (Evl.pss_cut (ps_if (PW.pt (pw_and (pt_cmpR op_eq (pv 1) pe_int (nomark _)) (pw_and1 (pt_cmpR op_eq (pe_op op_mod (pv 2) pe_int) pe_int (nomark _)))))
    (pss_one (ps_set (i := 8) sc_law.nd rfl (Or.inl rfl) (pe_join pe_str (pe_lc (own := [("_law_one", 9)]) rfl sc_law.nd (pi_range2 (by rfl) T.z_range (pa_cons pe_int (pa_cons (pe_op op_add pe_int (pe_op op_mod (pv 7) pe_int)) pa_nil))) (blkOk_by (own := [("_law_one", 9)]) (N := ["_law_script", "_law_k", "_law_cell_here", "_law_play", "_law_model", "_law_lamps_here", "_law_numbers_here", "_law_mix", "_law_text_here", "_law_one", "_law_due", "_law_found"]) (sc := defScope s_law) (by decide +kernel)) (fun _ _ _ _ _ => pg_name (i := 9) sc_law.nd rfl (Or.inl rfl)) (fun _ _ _ _ _ => pts_nil) (fun _ _ _ _ _ => (pe_op op_add_str (pe_op op_add_str pe_str (pe_callTy call_str_int (by rfl) T.z_str (by decide +kernel) (pa_cons (pv 9) pa_nil))) pe_str))))))
    pss_nil)
    (pss_cons (ps_set (i := 10) sc_law.nd rfl (Or.inl rfl) (pe_fn d__law_read (hr.mono (by decide)) (by rfl) passL (pa_cons (pv 8) pa_nil)))
    (pss_cons (ps_set (i := 11) sc_law.nd rfl (Or.inl rfl) (pe_fn d__law_tried (hr.mono (by decide)) (by rfl) passL (pa_cons (pv 8) pa_nil)))
    (pss_one (ps_if (pt_val (pe_callB call_isIntP (by rfl) T.z_isinstance (by decide +kernel) (pa_cons (pv 10) (pa_cons (pe_bltn (v := .ty "int") rfl T.z_int (by decide +kernel) rfl) pa_nil))))
    (pss_one (ps_if (PW.pt (pw_or (pt_not (pt_val (pe_callB call_isIntP (by rfl) T.z_isinstance (by decide +kernel) (pa_cons (pv 11) (pa_cons (pe_bltn (v := .ty "int") rfl T.z_int (by decide +kernel) rfl) pa_nil))))) (pw_or1 (pt_cmpR op_ne (pv 11) (pv 10) (nomark _)))))
    (pss_one (ps_ret pe_bl))
    pss_nil))
    (pss_one (ps_if (PW.pt (pw_or (pt_val (pe_callB call_isIntP (by rfl) T.z_isinstance (by decide +kernel) (pa_cons (pv 11) (pa_cons (pe_bltn (v := .ty "int") rfl T.z_int (by decide +kernel) rfl) pa_nil)))) (pw_or1 (pt_not (pt_val (pe_fn d__law_stands (hr.mono (by decide)) (by rfl) passL (pa_cons (pv 11) (pa_cons (pv 10) (pa_cons (pe_fn d__law_told_lamps (hr.mono (by decide)) (by rfl) passL (pa_cons (pv 10) pa_nil)) pa_nil)))))))))
    (pss_one (ps_ret pe_bl))
    pss_nil)))))))))))
    (pss_one (ps_ret (pe_cmpR (op_eqD hr.units) (pe_mt0 T.c_Play d_Play_numbers (hr.mono (by decide)) passL (pe_fn d_read (hr.mono (by decide)) (by rfl) passL (pa_cons pe_str pa_nil))) (pe_lst pa_nil) (nomark _))))), ?_⟩
  refine ⟨_, rfl, _, rfl, a, _, rfl, hS, fun sl nsl => ?_⟩
  obtain ⟨LS, hLS, kLS⟩ := seq_keep hS
  have s2 := same_upd (o := HO.lst (cutV (ns.map V.int) none (some 30))) nsl
  have esl : (upd H sl (.lst (cutV (ns.map V.int) none (some 30)))) sl = some (.lst (cutV (ns.map V.int) none (some 30))) := upd_same
  have hall : ∀ x ∈ cutV (ns.map V.int) none (some 30), ∃ i, x = V.int i := fun x hx => by
    obtain ⟨i, _, rfl⟩ := List.mem_map.mp (List.mem_of_mem_drop (List.mem_of_mem_take hx) : x ∈ ns.map V.int)
    exact ⟨i, rfl⟩
  generalize cutV (ns.map V.int) none (some 30) = xs at s2 hall esl ⊢
  have L2 : ∀ x ∈ LS, (upd H sl (.lst xs)) x.1 = some x.2 := fun x hx => s2 _ _ (hLS x hx)
  generalize upd H sl (.lst xs) = H2 at s2 esl L2
  refine ⟨sl, xs, rfl, .inl (.inl esl), for_it (walk_enum (K := K) (a := sl) (xs := xs)) (fun i σ H' => ∃ v1 v2 v3 v4 v5 v6 v7 v8 v9 v10 v11, σ = [some (.ref a), v1, v2, v3, v4, v5, v6, v7, v8, v9, v10, v11] ∧ Same H2 H') ⟨_, _, _, _, _, _, _, _, _, _, _, rfl, Same.refl _⟩ (fun i σ H' _ ⟨_, _, _, _, _, _, _, _, _, _, _, _, s⟩ => .inl (.inl (s _ _ esl))) ?_ ?_⟩
  · rintro i x σ H5 H5' hi ⟨v1, v2, v3, v4, v5, v6, v7, v8, v9, v10, v11, rfl, s5⟩ ⟨t, k, c, rfl, nt, rfl, hk, hc⟩
    obtain ⟨c, rfl⟩ := hall c (List.mem_of_getElem? hc)
    cases hk
    have st := same_upd (o := HO.tup [.int (i : Nat), .int c]) nt
    refine ⟨t, _, rfl, .inl (.inl upd_same), rfl, _, _, rfl, _, _, rfl, rfl, ?_⟩
    have s6 := s5.trans st
    have L6 : ∀ x ∈ LS, (upd H5 t (.tup [.int (i : Nat), .int c])) x.1 = some x.2 := fun x hx => s6 _ _ (L2 x hx)
    generalize upd H5 t (.tup [.int (i : Nat), .int c]) = H6 at s6 L6
    clear st nt s5
    have hfi : (0 : Int) ≤ (i : Nat) := Int.natCast_nonneg _
    have hcm : 0 ≤ c % 13 ∧ c % 13 < 100000 := by omega
    refine ⟨_, rfl, _, rfl, _, rfl, _, _, rfl, rfl, by simp, _, _, _, rfl, a, ns, (i : Nat), _, rfl, rfl, rfl, hfi, hcm.1, hcm.2, kLS _ L6, fun H7 tt p d ap M m am la lb c0 c1 hT hne hla nla hlb nlb keep et => ⟨tt, _, rfl, .inl (.inl et), rfl, _, _, rfl, _, _, rfl, _, _, rfl, _, _, rfl, rfl, ?_⟩⟩
    have g := hT.good
    have u := lamps6_U c0
    have s7 : Same H2 H7 := fun b o e => (keep b o (s6 _ _ e)).1
    have htl : (text M).length ≤ 30000 := small_text g u (by rw [lamps6_len]; decide) (nums9_few g.nodup hT.nmb)
    refine ⟨_, rfl, _, rfl, _, _, rfl, rfl, _, _, rfl, c, _, rfl, rfl, ?_⟩
    have hm0 := (mixed_nn c (90 + (i : Nat))).1
    generalize mixed c (90 + (i : Nat)) = mx at hm0 ⊢
    refine ⟨_, rfl, _, rfl, m, am, M, _, rfl, hT.tab, g, u, fun H8 s8 => ⟨_, rfl, _, _, rfl, text M, mx, rfl, rfl, hm0, ⟨by omega, text_ok g u⟩, fun H9 z s9 hz => ?_⟩⟩
    have s29 := s7.trans (s8.trans s9)
    obtain ⟨U0, hz0⟩ := textOk_chd g u (by rw [lamps6_len]; decide) htl hz
    refine ⟨fun σ H' => ∃ z U' v1 v2 v3 v4 v5 v6 v7 v9 v10 v11, σ = [some (.ref a), v1, v2, v3, v4, v5, v6, v7, some (.str z), v9, v10, v11] ∧ TextOk z U' ∧ Same H2 H', ?_, ?_⟩
    · refine ⟨_, rfl, rfl, _, rfl, ?_⟩
      by_cases hi0 : (i : Nat) = 0
      · refine iteY (by show decide (V.int ((i : Nat) : Int) = V.int 0) = true; rw [hi0]; rfl) ?_
        refine ⟨_, rfl, _, _, rfl, rfl, by simp, rfl, _, rfl, ite2 (fun _ => ?_) fun _ => ⟨z, U0, _, _, _, _, _, _, _, _, _, _, rfl, hz0, s29⟩⟩
        refine ⟨⟨_, rfl⟩, _, rfl, _, _, rfl, rfl, by simp, _, _, rfl, rfl, 1, _, rfl, ⟨by decide, by decide, by omega, by omega⟩, fun D nD => ?_⟩
        have hn : (101 + mx % 3 - 1).toNat ≤ 103 := by omega
        generalize (101 + mx % 3 - 1).toNat = n at hn ⊢
        have gb := bigB_good (n := n) (by omega)
        refine lc_pure (walk_rng (lo := 1) (n := n)) nD yes lineV ?_ (fun _ => rfl) (fun _ _ => trivial) (fun x _ H _ Q' k => tt_yes x k) ?_ ?_
        · rw [rng, List.length_map, List.length_range, sizeLine_eq]; omega
        · intro y hy _ HA sA Q' k
          obtain ⟨j, hj, rfl⟩ := List.mem_map.mp hy
          have hj := List.mem_range.mp hj
          have hb := line_len (i := 1 + ((j : Nat) : Int)) (by omega) (by omega)
          exact ⟨_, rfl, _, rfl, log_ok (by omega) (by omega), _, _, rfl, rfl, hb.1, _, _, rfl, rfl, hb.2, k HA (Same.refl _)⟩
        · intro HA sA hD
          rw [filter_yes, line_rng, big_lines] at hD
          exact ⟨_, D, (rows (bigB n)).map fun r : Str => r ++ ("\n" : Str), rfl, rfl, .inl (.inl (.inl hD)), text_sum gb lamps_nil, text (bigB n), _, _, _, _, _, _, _, _, _, _, _, rfl, (textOk_big (by omega)).choose_spec, s29.trans sA⟩
      · exact iteN (by simpa using hi0) (iteF ⟨z, U0, _, _, _, _, _, _, _, _, _, _, rfl, hz0, s29⟩)
    rintro σ HA ⟨z1, U', v1, v2, v3, v4, v5, v6, v7, v9, v10, v11, rfl, tk, sA⟩
    refine ⟨_, rfl, _, rfl, z1, U', rfl, tk.len, tk.rows, tk.lamps, fun M1 hM1 HB d1 am1 sB fB TB gB => ?_, fun k hk HB sB => ?_⟩
    · refine ⟨_, rfl, _, rfl, z1, U', rfl, tk.len, tk.rows, tk.lamps, fun M2 hM2 HC p2 d2 am2 sC fC PC => ?_, fun k hk => ?_⟩
      · rw [hM1] at hM2
        obtain rfl : M1 = M2 := Sum.inl.inj hM2
        have TC := TB.same sC
        obtain ⟨kvs, ek, _⟩ := TC.top
        obtain ⟨dx, ob⟩ := PC.ob
        refine ⟨_, rfl, _, rfl, .inl ⟨.inr (.inr ⟨kvs, ek⟩), _, rfl, iteF ?_⟩⟩
        refine ⟨_, rfl, _, rfl, .inr ⟨p2, _, dx, _, rfl, ob, T.c_Play, T.p_Play, _, rfl, iteF ?_⟩⟩
        refine ⟨_, rfl, _, rfl, _, rfl, _, rfl, d1, am1, M1, U', rfl, TC, gB, tk.lamps, fun HD l ls sD el nd hin hcov => ?_⟩
        have g2 := gB.other hcov
        have ul := lamps_told tk.lamps tk.few nd hin
        have T2 : Two K ls (M1.map (·.1)) HD p2 d2 am2 M1 d1 am1 M1 := ⟨⟨⟨dx, sD _ _ ob⟩, (PC.same sD).tb, PC.off, g2, ul⟩, TC.same sD, g2, fun b h1 h2 => (by
          obtain ⟨o, e⟩ := TB.has h2
          rw [fC b h1] at e
          cases e), fun e he => List.mem_map.mpr ⟨e, he, rfl⟩⟩
        exact ⟨_, _, _, rfl, _, p2, d2, am2, M1, ls, d1, am1, l, ls, rfl, rfl, rfl, T2, Asked.self ul, el, fun HE sE => ⟨_, rfl, iteF ⟨_, _, _, _, _, _, _, _, _, _, _, rfl, sA.trans (sB.trans (sC.trans (sD.trans sE)))⟩⟩⟩
      · rw [hM1] at hk; cases hk
    · refine ⟨_, rfl, _, rfl, z1, U', rfl, tk.len, tk.rows, tk.lamps, fun M2 hM2 => ?_, fun k2 hk2 HC sC => ?_⟩
      · rw [hk] at hM2; cases hM2
      · rw [hk] at hk2
        obtain rfl : k = k2 := Sum.inr.inj hk2
        refine ⟨_, rfl, _, rfl, .inl ⟨trivial, _, rfl, iteT ?_⟩⟩
        exact ⟨_, rfl, _, rfl, .inl ⟨trivial, _, rfl, iteF ⟨_, rfl, _, rfl, rfl, _, rfl, iteN (by simp) ⟨_, _, _, _, _, _, _, _, _, _, _, rfl, sA.trans (sB.trans sC)⟩⟩⟩⟩
  · rintro σ H5 ⟨v1, v2, v3, v4, v5, v6, v7, v8, v9, v10, v11, rfl, s5⟩
    obtain ⟨U0, t0⟩ := textOk_nil
    refine ⟨_, rfl, Str.ofString "", U0, rfl, t0.len, t0.rows, t0.lamps, fun M1 hM1 H6 p d ad s6 f6 P6 => ?_, fun k hk => ?_⟩
    · rw [readT_nil] at hM1
      obtain rfl : [] = M1 := Sum.inl.inj hM1
      obtain ⟨dx, ob⟩ := P6.ob
      refine ⟨_, dx, _, rfl, ob, playF_no (by decide +kernel), _, rfl, p, d, ad, [], _, rfl, P6, fun H7 l1 s7 nl1 el1 => ⟨by simp [sizeLine_eq], fun l2 n2 => ?_⟩⟩
      exact eqD_nil (dat_lst (K := K) (xs := []) (.inl (.inl (same_upd n2 _ _ el1))) (fun x h => by cases h)) upd_same (by decide) (q _)
    · rw [readT_nil] at hk; cases hk
end

end Cue
open PySem PySem.W PySem.Calls PyProof.Rows
set_option maxHeartbeats 0 in
theorem PySem.Challenge.cw_cuehall_k10_texts_not_read_holds : PySem.Challenge.rw_cuehall_k10_texts_not_read.Holds := by
  w_on; o_law
  refine HandSHeadRun.head_any (r := OpenLaw.row PySem.Challenge.rw_cuehall_k10_texts_not_read) (q := view (OpenLaw.row PySem.Challenge.rw_cuehall_k10_texts_not_read).prog [58]) (H := Cue.hk) (ob := Cue.ob) (M := 8000) (loose := Cue.loose) (d := HandSHeadRun.topDef (OpenLaw.row PySem.Challenge.rw_cuehall_k10_texts_not_read).prog 58) (kwd := []) Cue.ob_eq
    (by kernel_rfl) (fun s => by kernel_rfl) Cue.run (by kernel_rfl) (by kernel_rfl) (by kernel_rfl) (by rfl) (by first | assumption | decide +kernel) (by decide +kernel) ⟨rfl, rfl, rfl, rfl, rfl, by decide +kernel⟩ ?hw ?hc
  case hw => w_witness2
  case hc =>
    refine L2.walk_ofE (l := PySem.Challenge.rw_cuehall_k10_texts_not_read) (n := 63) (k := 10) (x := "_law_script") (CX := L2.CX0) rfl (by decide) (by kernel_rfl) ⟨rfl, by decide, by decide⟩ ?F (fun _ _ _ _ z => z)
    intro w mg fa h Y G hmg0
    obtain ⟨K, KX, c⟩ := Y
    have T := Cue.txt_of KX G c
    have hmg : mg ("law" : PySem.Str) = some (.ref fa) := by
      have e : (HandSHeadRun.topDef (OpenLaw.row PySem.Challenge.rw_cuehall_k10_texts_not_read).prog 58).name = ("law" : PySem.Str) := by kernel_rfl
      rw [← e]
      exact hmg0
    obtain ⟨fd, F⟩ := T.d_law
    have e := hmg.symm.trans T.g_law
    cases e
    have b := L2.FunD.bindsA (ps := ["_law_script"]) F fun _ _ _ _ _ _ us hl => match us, hl with | [_], _ => rfl
    exact ⟨K, fd, Cue.spLaw K, KX, fun s v => b s [v] rfl, fun H a ns hl _ hS => ⟨_, rfl, a, ns, rfl, hl, hS, fun _ => rfl⟩, fun base hb hg => Cue.ok_law T F⟩
#print axioms PySem.Challenge.cw_cuehall_k10_texts_not_read_holds

