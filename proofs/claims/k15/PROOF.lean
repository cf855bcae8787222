import PyProof.Rows.All
import Wide.All
import OpenK.AllK
import Wide.FinOn
import KE.KStateDown
import Lean
import HandS.ForMost
import HandS.ForExc
import HandS.Defaults
import HandS.IsInst
import HandS.Finally
import HandS.ListItems
import HandS.SortInts
import HandS.SortKw
import HandS.Walk
import HandS.Iter
import HandS.Text
import HandS.Base
import HandS.Call
import HandS.More
import PyProof.Rows.TmSorted
import PyProof.Rows.SortStr
import HandS.Evl
import HandS.DictComp
import HandS.ExcIs
import HandS.SetFor
import HandS.CallSlots
import HandS.Wide
import KE.SortData
import HandS.Style
import HandS.Head0
import HandS.Head1
import HandS.Head2
import HandS.HeadEnd
import HandS.HeadHook1
import HandS.HeadHook2
import PySem.Challenge.RW_cuehall_k15_whole_runs
set_option Elab.async false
set_option linter.all false
set_option maxRecDepth 100000
set_option maxHeartbeats 4000000
namespace Cue
open PySem PySem.Spec PyProof.Rows L2
/-! ## The library of this claim: rules that the hand layer lacks, defs in bundles. Own work. -/
section
variable {X : Cx}
/-! ### a def of the module, a method of a class, with all that a call wants -/
structure Def (P : Program) (w : World) (K : PySem.W.Frag) (mg : Str → Option Value) (base : Heap) (k : Nat) (x : Str) (ps : List Str) (sp : Sp) : Prop where
  ex : ∃ f fd, mg x = some (.ref f) ∧ PySem.W.keepIn K (.ref f) = true ∧ FnOk P w K mg base (L2.CX P w) k f fd ps sp ∧ Binds K fd ps []
structure MDef (P : Program) (w : World) (K : PySem.W.Frag) (mg : Str → Option Value) (base : Heap) (C : Addr) (k : Nat) (m : Str) (ps : List Str) (dvs : List V) (sp : Sp) : Prop where
  ex : ∃ f fd ds, Meth K C m f ∧ FnOk P w K mg base (L2.CX P w) k f fd ps sp ∧ Binds K fd ps ds ∧ Vals dvs ds
structure IDef (P : Program) (w : World) (K : PySem.W.Frag) (mg : Str → Option Value) (base : Heap) (f : Addr) (k : Nat) (ps : List Str) (sp : Sp) : Prop where
  ex : ∃ fd, FnOk P w K mg base (L2.CX P w) k f fd ps sp ∧ Binds K fd ps []
section
variable {k : Nat} {x m : Str} {ps : List Str} {sp : Sp} {dvs : List V} {E : XK} {p pos apos : Pos} {e o : Expr} {es : List Expr} {ta : TE} {t : TA} {C f : Addr}
theorem pe_fn (D : Def X.prog X.w X.K X.mg X.base k x ps sp) (hr : Room k X.A) (hg : Gl X x) (hx : Passes (L2.CX X.prog X.w) X E) (ha : PA X (e :: es) t)
    (hdb : (x == ("__debug__" : Str)) = false := by decide) (he : starEach (e :: es) X.env = (false, eval e X.env) :: starEach es X.env := by rfl) (hpl : (backTo pos (starEach es X.env)).any (·.1) = false := by rfl) :
    PE X (.Call (.Name x p) (e :: es) [] pos) (tCall sp [] E t) := by
  obtain ⟨f, fd, hm, hk, F, hb⟩ := D.ex
  exact pe_call F hr hg hm hk hb .nil hx ha hdb he hpl
theorem pe_mt {pl : Sem Bool} (c : Cls X.K C) (D : MDef X.prog X.w X.K X.mg X.base C k m ps dvs sp) (hr : Room k X.A) (hx : Passes (L2.CX X.prog X.w) X E) (he : PE X o ta) (ha : PA X (e :: es) t)
    (hst : starEach (e :: es) X.env = (false, eval e X.env) :: starEach es X.env := by rfl) (hpl : (backTo pos (starEach es X.env)).any (·.1) = false := by rfl)
    (ht : eval (.Call (.Attribute o m apos) (e :: es) [] pos) X.env = (do
      let ov ← eval o X.env
      standAt apos.atName
      let (f, first) ← holding [ov] (getMethod ov m pl)
      callWith pos f first (backTo pos (starEach (e :: es) X.env)) (backToKw pos (keywordEach [] X.env))) := by rfl) :
    PE X (.Call (.Attribute o m apos) (e :: es) [] pos) (tMeth C m sp dvs E ta t) := by
  obtain ⟨f, fd, ds, hm, F, hb, hd⟩ := D.ex
  exact pe_meth he c hm F hr hb hd hx ha hst hpl ht
theorem pe_mt0 {pl : Sem Bool} (c : Cls X.K C) (D : MDef X.prog X.w X.K X.mg X.base C k m ps dvs sp) (hr : Room k X.A) (hx : Passes (L2.CX X.prog X.w) X E) (he : PE X o ta)
    (ht : eval (.Call (.Attribute o m apos) [] [] pos) X.env = (do
      let ov ← eval o X.env
      standAt apos.atName
      let (f, first) ← holding [ov] (getMethod ov m pl)
      callWith pos f first (backTo pos (starEach [] X.env)) (backToKw pos (keywordEach [] X.env))) := by rfl) :
    PE X (.Call (.Attribute o m apos) [] [] pos) (tMeth C m sp dvs E ta tNil) := by
  obtain ⟨f, fd, ds, hm, F, hb, hd⟩ := D.ex
  exact pe_meth0 he c hm F hr hb hd hx ht
theorem pe_mk (M : Mk X.K C f) (D : IDef X.prog X.w X.K X.mg X.base f k ps sp) (hr : Room (k + 1) X.A) (hg : Gl X x) (hm : X.mg x = some (.ref C)) (hx : Passes (L2.CX X.prog X.w) X E) (ha : PA X (e :: es) t)
    (hdb : (x == ("__debug__" : Str)) = false := by decide) (he : starEach (e :: es) X.env = (false, eval e X.env) :: starEach es X.env := by rfl) (hpl : (backTo pos (starEach es X.env)).any (·.1) = false := by rfl) :
    PE X (.Call (.Name x p) (e :: es) [] pos) (tMake C sp [] E t) := by
  obtain ⟨fd, F, hb⟩ := D.ex
  exact pe_make M F hr hg hm hb .nil hx ha hdb he hpl
theorem pe_mk0 (M : Mk X.K C f) (D : IDef X.prog X.w X.K X.mg X.base f k ps sp) (hr : Room (k + 1) X.A) (hg : Gl X x) (hm : X.mg x = some (.ref C)) (hx : Passes (L2.CX X.prog X.w) X E)
    (hdb : (x == ("__debug__" : Str)) = false := by decide) : PE X (.Call (.Name x p) [] [] pos) (tMake C sp [] E tNil) := by
  obtain ⟨fd, F, hb⟩ := D.ex
  exact pe_make0 M F hr hg hm hb .nil hx hdb
end
/-! ### promises by the number of parameters -/
def sp1 (φ : V → Hp → VK → XK → Prop) : Sp := fun vs H Q E => ∃ a, vs = [a] ∧ φ a H Q E
def sp2 (φ : V → V → Hp → VK → XK → Prop) : Sp := fun vs H Q E => ∃ a b, vs = [a, b] ∧ φ a b H Q E
def sp3 (φ : V → V → V → Hp → VK → XK → Prop) : Sp := fun vs H Q E => ∃ a b c, vs = [a, b, c] ∧ φ a b c H Q E
def sp4 (φ : V → V → V → V → Hp → VK → XK → Prop) : Sp := fun vs H Q E => ∃ a b c d, vs = [a, b, c, d] ∧ φ a b c d H Q E
def sp5 (φ : V → V → V → V → V → Hp → VK → XK → Prop) : Sp := fun vs H Q E => ∃ a b c d e, vs = [a, b, c, d, e] ∧ φ a b c d e H Q E
theorem len1 {φ} : ∀ vs H Q E, sp1 φ vs H Q E → vs.length = 1 := by
  rintro _ _ _ _ ⟨a, rfl, _⟩; rfl
theorem len2 {φ} : ∀ vs H Q E, sp2 φ vs H Q E → vs.length = 2 := by
  rintro _ _ _ _ ⟨a, b, rfl, _⟩; rfl
theorem len3 {φ} : ∀ vs H Q E, sp3 φ vs H Q E → vs.length = 3 := by
  rintro _ _ _ _ ⟨a, b, c, rfl, _⟩; rfl
theorem len4 {φ} : ∀ vs H Q E, sp4 φ vs H Q E → vs.length = 4 := by
  rintro _ _ _ _ ⟨a, b, c, d, rfl, _⟩; rfl
theorem len5 {φ} : ∀ vs H Q E, sp5 φ vs H Q E → vs.length = 5 := by
  rintro _ _ _ _ ⟨a, b, c, d, e, rfl, _⟩; rfl
section
variable {P : Program} {w : World} {K : PySem.W.Frag} {mg : Str → Option Value} {base : Heap} {x q : Str} {st : Stmt} {N ps : List Str} {sp : Sp} {k : Nat} {f C : Addr} {dl : List V}
/-- what a def's body is to show: nothing is raised; or what is raised goes out -/
abbrev BodyN (P : Program) (w : World) (K : PySem.W.Frag) (mg : Str → Option Value) (base : Heap) (N : List Str) (q : Str) (st : Stmt) (f : Addr) (k : Nat) (sp : Sp) : Prop :=
  ∀ (cdv : Value) (A : Around) (outer : List Env) (s : Shared) (H : Hp) (vs : List V) (Q : VK) (E : XK), Room k (A.deeper (envOfC q (defScope st) s.heap.objs.size f cdv)) → sp vs H Q E →
    ∃ t, PSs (cxOf (L2.CX P w) P w K mg base N q (defScope st) f cdv A outer s H E).nox (defBody st) t ∧ t { nx := fun _ H' => Q .non H', rt := Q } (start N vs) H
abbrev BodyX (P : Program) (w : World) (K : PySem.W.Frag) (mg : Str → Option Value) (base : Heap) (N : List Str) (q : Str) (st : Stmt) (f : Addr) (k : Nat) (sp : Sp) : Prop :=
  ∀ (cdv : Value) (A : Around) (outer : List Env) (s : Shared) (H : Hp) (vs : List V) (Q : VK) (E : XK), Room k (A.deeper (envOfC q (defScope st) s.heap.objs.size f cdv)) → sp vs H Q E →
    ∃ t, PSs (cxOf (L2.CX P w) P w K mg base N q (defScope st) f cdv A outer s H E) (defBody st) t ∧ t { nx := fun _ H' => Q .non H', rt := Q } (start N vs) H
theorem BodyN.up (b : BodyN P w K mg base N q st f k sp) : BodyX P w K mg base N q st f k sp := fun cdv A outer s H vs Q E hr h => by
  obtain ⟨t, h1, h2⟩ := b cdv A outer s H vs Q E hr h
  exact ⟨t, PSs.nox h1, h2⟩
/-- how n arguments bind to n parameters -/
abbrev BindsAll (x q : Str) (st : Stmt) (ps : List Str) : Prop := ∀ (kV doc pm : Value) (an : Option Addr) (cdv ct : Value) (us : List Value), us.length = ps.length →
  bindArgs (PySem.W.fnOf x q (defArgs st) (defBody st) (defScope st) .none kV doc pm an cdv ct) ⟨us, []⟩ = pure (ps.zip us)
theorem mkDef (F : ∃ fd, FunD K x q (defArgs st) (defBody st) (defScope st) [] [] f fd) (g : mg x = some (.ref f)) (S : FnScope N ps (defScope st)) (B : BindsAll x q st ps) (len : ∀ vs H Q E, sp vs H Q E → vs.length = ps.length)
    (b : BodyX P w K mg base N q st f k sp) : Def P w K mg base (k + 1) x ps sp := by
  obtain ⟨fd, F⟩ := F
  exact ⟨f, fd, g, F.kp, F.ok S len b, F.bindsN B⟩
theorem mkM (F : ∃ fd, FunD K x q (defArgs st) (defBody st) (defScope st) [] [] f fd) (g : Meth K C x f) (S : FnScope N ps (defScope st)) (B : BindsAll x q st ps) (len : ∀ vs H Q E, sp vs H Q E → vs.length = ps.length)
    (b : BodyX P w K mg base N q st f k sp) : MDef P w K mg base C (k + 1) x ps [] sp := by
  obtain ⟨fd, F⟩ := F
  exact ⟨f, fd, [], g, F.ok S len b, F.bindsN B, .nil⟩
theorem mkI (F : ∃ fd, FunD K x q (defArgs st) (defBody st) (defScope st) [] [] f fd) (S : FnScope N ps (defScope st)) (B : BindsAll x q st ps) (len : ∀ vs H Q E, sp vs H Q E → vs.length = ps.length)
    (b : BodyX P w K mg base N q st f k sp) : IDef P w K mg base f (k + 1) ps sp := by
  obtain ⟨fd, F⟩ := F
  exact ⟨fd, F.ok S len b, F.bindsN B⟩
theorem Def.up {j : Nat} (D : Def P w K mg base k x ps sp) (h : k ≤ j) : Def P w K mg base j x ps sp := by
  obtain ⟨f, fd, a, b, F, c⟩ := D.ex
  exact ⟨f, fd, a, b, F.mono h, c⟩
end
/-! ### heaps -/
theorem same_upd {H : Hp} {p : Addr} {o : HO} (h : H p = none) : Same H (upd H p o) := fun b u e => by
  rw [upd_ne (ne_of_none e h)]; exact e
theorem sm_mut {H H' : Hp} {p : Addr} {o : HO} (e : Same H H') (h : H p = none) : Same H (upd H' p o) := fun b u z => by
  rw [upd_ne (ne_of_none z h)]; exact e b u z
theorem sm_new {H H' : Hp} {p : Addr} {o : HO} (e : Same H H') (h : H' p = none) : Same H (upd H' p o) := sm_mut e (e.free h)
theorem sm_seqT {K : PySem.W.Frag} {H H' : Hp} {a : Addr} {xs : List V} (e : Same H H') (h : SqT K H a xs) : SqT K H' a xs := by
  rcases h with (h | ⟨o, h⟩) | h
  · exact .inl (.inl (e _ _ h))
  · exact .inl (.inr ⟨o, e _ _ h⟩)
  · exact .inr h
/-! ### list + list, each only read -/
theorem op_catS : OpR X (binaryOp .Add) (fun x y H Q => ∃ l b xs zs, x = .ref l ∧ y = .ref b ∧ SqL X.K H l xs ∧ SqL X.K H b zs ∧ xs.length + zs.length ≤ sizeLine ∧ ∀ p, H p = none → Q (.ref p) (upd H p (.lst (xs ++ zs)))) := by
  intro pins s σ H x y v u Q I rx ry h
  obtain ⟨l, b, xs, zs, rfl, rfl, hl, hb, hz, q⟩ := h
  cases rx; cases ry
  obtain ⟨vs, r, pl, z⟩ := I.list hl
  obtain ⟨ws, r2, pl2, z2⟩ := I.list hb
  have n1 := r.length; have n2 := r2.length
  obtain ⟨⟨c1, d1, t1, l1⟩, k1, e1, g1, f1⟩ := pl
  obtain ⟨⟨c2, d2, t2, l2⟩, k2, e2, g2, f2⟩ := pl2
  obtain ⟨f1, h1⟩ := f1; obtain ⟨f2, h2⟩ := f2
  cases g1; cases g2; cases f1; cases f2; cases h1; cases h2
  refine concat_meets ⟨_, e1, rfl⟩ ⟨_, e2, rfl⟩ noFill_list_add seq_list_add PySem.F.slot_list_add PySem.F.entry_list_add (PySem.F.args_list_add_2 _ _) (list_addW l b _ _ k1 k2 _ _ _ _ (by rw [List.size_toArray, List.size_toArray]; omega)) ⟨e1, e2, ?_⟩
  rw [show vs.toArray ++ ws.toArray = (vs ++ ws).toArray by simp]
  exact ⟨.ref _, _, I.lnew (t' := s.toks) (r.append r2) (by rw [List.length_append]; omega), rfl, q _ I.fresh⟩
/-! ### things, and what isinstance tells of them -/
/-- a thing of no own class -/
def Pl (H : Hp) : V → Prop
  | .non => True | .bl _ => True | .int _ => True | .str z => z.length ≤ 100000 ∧ PyData.strOk z = true
  | .ref a => (∃ xs, H a = some (.lst xs)) ∨ (∃ xs, H a = some (.tup xs)) ∨ ∃ kvs, H a = some (.dK kvs)
  | _ => False
theorem Pl.same {H H' : Hp} {x : V} (e : Same H H') (h : Pl H x) : Pl H' x := by
  cases x <;> try exact h
  rcases h with ⟨xs, h⟩ | ⟨xs, h⟩ | ⟨xs, h⟩
  · exact .inl ⟨xs, e _ _ h⟩
  · exact .inr (.inl ⟨xs, e _ _ h⟩)
  · exact .inr (.inr ⟨xs, e _ _ h⟩)
def isInt : V → Bool | .int _ => true | .bl _ => true | _ => false
def isBl : V → Bool | .bl _ => true | _ => false
def isStr : V → Bool | .str _ => true | _ => false
theorem Pl.ty {K : PySem.W.Frag} {H : Hp} {x : V} (h : Pl H x) : ∃ t, TyX K H x (.type t) ∧ kitB t "int" = some (isInt x) ∧ kitB t "bool" = some (isBl x) ∧ kitB t "str" = some (isStr x) := by
  cases x with
  | non => exact ⟨_, .base .non, (show kitB "NoneType" "int" = some false by decide +kernel), (show kitB "NoneType" "bool" = some false by decide +kernel), (show kitB "NoneType" "str" = some false by decide +kernel)⟩
  | bl b => exact ⟨_, .base (.bl b), (show kitB "bool" "int" = some true by decide +kernel), (show kitB "bool" "bool" = some true by decide +kernel), (show kitB "bool" "str" = some false by decide +kernel)⟩
  | int i => exact ⟨_, .base (.int i), (show kitB "int" "int" = some true by decide +kernel), (show kitB "int" "bool" = some false by decide +kernel), (show kitB "int" "str" = some false by decide +kernel)⟩
  | str z => exact ⟨_, .base (.str z), (show kitB "str" "int" = some false by decide +kernel), (show kitB "str" "bool" = some false by decide +kernel), (show kitB "str" "str" = some true by decide +kernel)⟩
  | ref a =>
    rcases h with ⟨xs, h⟩ | ⟨xs, h⟩ | ⟨xs, h⟩
    · exact ⟨_, .base (.lst h), (show kitB "list" "int" = some false by decide +kernel), (show kitB "list" "bool" = some false by decide +kernel), (show kitB "list" "str" = some false by decide +kernel)⟩
    · exact ⟨_, .base (.tup h), (show kitB "tuple" "int" = some false by decide +kernel), (show kitB "tuple" "bool" = some false by decide +kernel), (show kitB "tuple" "str" = some false by decide +kernel)⟩
    · exact ⟨_, .base (.dK h), (show kitB "dict" "int" = some false by decide +kernel), (show kitB "dict" "bool" = some false by decide +kernel), (show kitB "dict" "str" = some false by decide +kernel)⟩
  | byt b => exact h.elim
  | flt b => exact h.elim
  | ty n => exact h.elim
/-- isinstance(x, T) of a thing -/
theorem is_int {K : PySem.W.Frag} {H : Hp} {x : V} {Q : VK} (h : Pl H x) (q : Q (.bl (isInt x)) H) : rIsi K [x, .ty "int"] H Q := by
  obtain ⟨t, a, b, _, _⟩ := h.ty (K := K)
  exact ⟨_, _, _, _, _, rfl, .ty _, a, kit_ty b, q⟩
theorem is_bool {K : PySem.W.Frag} {H : Hp} {x : V} {Q : VK} (h : Pl H x) (q : Q (.bl (isBl x)) H) : rIsi K [x, .ty "bool"] H Q := by
  obtain ⟨t, a, _, b, _⟩ := h.ty (K := K)
  exact ⟨_, _, _, _, _, rfl, .ty _, a, kit_ty b, q⟩
theorem is_str {K : PySem.W.Frag} {H : Hp} {x : V} {Q : VK} (h : Pl H x) (q : Q (.bl (isStr x)) H) : rIsi K [x, .ty "str"] H Q := by
  obtain ⟨t, a, _, _, b⟩ := h.ty (K := K)
  exact ⟨_, _, _, _, _, rfl, .ty _, a, kit_ty b, q⟩
theorem call_isInt : CallR X (.builtin "isinstance") (fun vs H Q => ∃ x, vs = [x, .ty "int"] ∧ Pl H x ∧ Q (.bl (isInt x)) H) := fun pins s σ H xs us Q I r q => by
  obtain ⟨x, rfl, h, q⟩ := q
  exact call_isi pins s σ H _ us Q I r (is_int h q)
theorem call_isBl : CallR X (.builtin "isinstance") (fun vs H Q => ∃ x, vs = [x, .ty "bool"] ∧ Pl H x ∧ Q (.bl (isBl x)) H) := fun pins s σ H xs us Q I r q => by
  obtain ⟨x, rfl, h, q⟩ := q
  exact call_isi pins s σ H _ us Q I r (is_bool h q)
theorem call_isStr : CallR X (.builtin "isinstance") (fun vs H Q => ∃ x, vs = [x, .ty "str"] ∧ Pl H x ∧ Q (.bl (isStr x)) H) := fun pins s σ H xs us Q I r q => by
  obtain ⟨x, rfl, h, q⟩ := q
  exact call_isi pins s σ H _ us Q I r (is_str h q)
theorem call_isLst : CallR X (.builtin "isinstance") (fun vs H Q => ∃ a xs, vs = [.ref a, .ty "list"] ∧ H a = some (.lst xs) ∧ Q (.bl true) H) := fun pins s σ H xs us Q I r q => by
  obtain ⟨a, ys, rfl, h, q⟩ := q
  exact call_isi pins s σ H _ us Q I r ⟨_, _, _, _, _, rfl, .ty _, .base (.lst h), kit_ty (by decide +kernel), q⟩
theorem call_isDct : CallR X (.builtin "isinstance") (fun vs H Q => ∃ a kvs, vs = [.ref a, .ty "dict"] ∧ H a = some (.dK kvs) ∧ Q (.bl true) H) := fun pins s σ H xs us Q I r q => by
  obtain ⟨a, ys, rfl, h, q⟩ := q
  exact call_isi pins s σ H _ us Q I r ⟨_, _, _, _, _, rfl, .ty _, .base (.dK h), kit_ty (by decide +kernel), q⟩
theorem call_isTup : CallR X (.builtin "isinstance") (fun vs H Q => ∃ a xs, vs = [.ref a, .ty "tuple"] ∧ H a = some (.tup xs) ∧ Q (.bl true) H) := fun pins s σ H xs us Q I r q => by
  obtain ⟨a, ys, rfl, h, q⟩ := q
  exact call_isi pins s σ H _ us Q I r ⟨_, _, _, _, _, rfl, .ty _, .base (.tup h), kit_ty (by decide +kernel), q⟩

/-! ### comprehensions: the new list, item by item -/
/-- the items of a text, of a range -/
def sgn (z : Str) : List V := z.cps.toList.map fun c => .str ⟨#[c]⟩
def rng (lo : Int) (n : Nat) : List V := (List.range n).map fun i => .int (lo + (i : Nat))
theorem walk_sgn {z : Str} : Walk (Its z) (sgn z).length (fun _ => True) (YAt (sgn z)) := by
  have e : (sgn z).length = z.cps.size := by simp [sgn]
  rw [e]
  refine ⟨fun i H hi _ => hi, fun _ _ => Nat.le_refl _, fun i H v H' hi _ y => ?_⟩
  obtain ⟨rfl, c, h1, rfl⟩ := y
  exact ⟨rfl, by simp [sgn, h1]⟩
theorem walk_rng {lo : Int} {n : Nat} : Walk (Itr lo n) (rng lo n).length (fun _ => True) (YAt (rng lo n)) := by
  have e : (rng lo n).length = n := by simp [rng]
  rw [e]
  refine ⟨fun i H hi _ => hi, fun _ _ => Nat.le_refl _, fun i H v H' hi _ y => ?_⟩
  obtain ⟨rfl, rfl⟩ := y
  exact ⟨rfl, by simp [rng, hi]⟩
theorem walk_ks {d : Addr} {o : Obj} {kvs : List (Key × V)} : Walk (Itk d o kvs) (kvs.map fun kv => kV kv.1).length (fun H => H d = some (.frz o (.dK kvs))) (YAt (kvs.map fun kv => kV kv.1)) := by
  rw [List.length_map]
  refine walk_keys.mono (fun _ h => h) fun i H x H' _ _ y => ?_
  obtain ⟨rfl, k, v, h1, rfl⟩ := y
  exact ⟨rfl, by simp [h1]⟩
theorem walk_vs {d : Addr} {o : Obj} {kvs : List (Key × V)} : Walk (Itd d o kvs) (kvs.map (·.2)).length (fun H => H d = some (.frz o (.dK kvs))) (YAt (kvs.map (·.2))) := by
  rw [List.length_map]
  refine walk_values.mono (fun _ h => h) fun i H x H' _ _ y => ?_
  obtain ⟨rfl, k, h1⟩ := y
  exact ⟨rfl, by simp [h1]⟩
/-- what a comprehension with one name wants behind its source -/
abbrev LcGoal (J : It) (g : TG) (tt : TT) (te : TE) (vs : List Nat) (σ : L2.St) (H1 : Hp) (D : Addr) (Qd : Hp → Prop) : Prop := ∃ W : Nat → Nat → Hp → Prop, (∃ m, W 0 m (upd H1 D (.lst []))) ∧ ∀ i m H, W i m H →
  (J.stop i H ∧ Qd H) ∨ (J.go i H ∧ ∃ Nx : Hp → Prop, (∀ H', Nx H' → ∃ m', m' < m ∧ W (i + 1) m' H') ∧ ∀ x H', J.yld i H x H' → g x (wipe σ vs) H' fun σ2 H2 => wipe σ2 vs = wipe σ vs ∧ tt σ2 H2 fun b H3 =>
    if b = true then te σ2 H3 fun y H4 => ∃ acc, H4 D = some (.lst acc) ∧ acc.length < sizeLine ∧ Nx (upd H4 D (.lst (acc ++ [y]))) else Nx H3)
theorem paired_snoc {α β : Type} {F : α → β → Prop} : ∀ {xs : List α} {ys : List β} {x : α} {y : β}, Paired F xs ys → F x y → Paired F (xs ++ [x]) (ys ++ [y])
  | _, _, _, _, .nil, h => .cons h .nil
  | _, _, _, _, .cons h t, h' => .cons h (paired_snoc t h')
theorem paired_len {α β : Type} {F : α → β → Prop} : ∀ {xs : List α} {ys : List β}, Paired F xs ys → xs.length = ys.length
  | _, _, .nil => rfl
  | _, _, .cons _ t => by simp [paired_len t]
theorem paired_fn {α β : Type} {g : α → β} : ∀ {xs : List α} {ys : List β}, Paired (fun x y => y = g x) xs ys → ys = xs.map g
  | _, _, .nil => rfl
  | _, _, .cons h t => by rw [h, paired_fn t]; rfl
theorem take_snoc {α : Type} {xs : List α} {i : Nat} {x : α} (h : xs[i]? = some x) : xs.take (i + 1) = xs.take i ++ [x] := by
  rw [List.take_add_one, h]; rfl
/-- all but lists are as they were -/
def NL (H H' : Hp) : Prop := ∀ b o, (∀ l, o ≠ .lst l) → H b = some o → H' b = some o
theorem Same.nl {H H' : Hp} (s : Same H H') : NL H H' := fun b o _ e => s b o e
theorem nl_upd {H : Hp} {D : Addr} {l l' : List V} (h : H D = some (.lst l)) : NL H (upd H D (.lst l')) := fun b o n e => by
  have : b ≠ D := fun z => by
    subst z
    rw [h] at e
    exact n l (Option.some.inj e).symm
  rw [upd_ne this]; exact e
theorem paired_imp {α β : Type} {F G : α → β → Prop} (h : ∀ a b, F a b → G a b) : ∀ {xs : List α} {ys : List β}, Paired F xs ys → Paired G xs ys
  | _, _, .nil => .nil
  | _, _, .cons a t => .cons (h _ _ a) (paired_imp h t)
/-- over items that stand, to one name: R tells what an element is made of its item -/
theorem lc_rel {J : It} {G : Hp → Prop} {xs : List V} (w : Walk J xs.length G (YAt xs)) {j : Nat} {tt : TT} {te : TE} {vs : List Nat} {σ : L2.St} {H1 : Hp} {D : Addr} {Qd : Hp → Prop} (nD : H1 D = none) (f : V → Bool) (R : V → V → Hp → Prop)
    (hR : ∀ x y H H', NL H H' → R x y H → R x y H') (hz : xs.length < sizeLine) (hw : ∀ x, wipe ((wipe σ vs).set j (some x)) vs = wipe σ vs) (hG : ∀ H, Same H1 H → G H)
    (ht : ∀ x ∈ xs, ∀ H, Same H1 H → ∀ Q' : Bool → Hp → Prop, (∀ H', Same H H' → Q' (f x) H') → tt ((wipe σ vs).set j (some x)) H Q')
    (he : ∀ x ∈ xs, f x = true → ∀ H, Same H1 H → ∀ Q' : VK, (∀ y H', Same H H' → R x y H' → Q' y H') → te ((wipe σ vs).set j (some x)) H Q')
    (q : ∀ H ys, Same H1 H → H D = some (.lst ys) → Paired (fun x y => R x y H) (xs.filter f) ys → Qd H) : LcGoal J (gName j) tt te vs σ H1 D Qd := by
  refine lc_it w (fun i H => Same H1 H ∧ ∃ ys, H D = some (.lst ys) ∧ Paired (fun x y => R x y H) ((xs.take i).filter f) ys) ⟨same_upd nD, [], upd_same, .nil⟩ (fun i H _ p => hG H p.1) ?_ ?_
  · rintro i x H H' hi ⟨s1, ys, hD, p⟩ ⟨rfl, hx⟩
    have hm : x ∈ xs := List.mem_of_getElem? hx
    refine ⟨hw x, ht x hm _ s1 _ fun H2 s2 => ?_⟩
    have p2 : Paired (fun x y => R x y H2) ((xs.take i).filter f) ys := paired_imp (fun a b h => hR a b _ _ (Same.nl s2) h) p
    cases e : f x with
    | false =>
      refine iteF ⟨s1.trans s2, ys, s2 _ _ hD, ?_⟩
      rw [take_snoc hx, List.filter_append, List.filter_cons, e]
      simpa using p2
    | true =>
      refine iteT (he x hm e _ (s1.trans s2) _ fun y H3 s3 r => ?_)
      have hD3 := s3 _ _ (s2 _ _ hD)
      have hl : ys.length < sizeLine := by
        rw [← paired_len p]
        exact Nat.lt_of_le_of_lt (Nat.le_trans (List.length_filter_le _ _) (by rw [List.length_take]; exact Nat.min_le_right _ _)) hz
      refine ⟨ys, hD3, hl, sm_mut ((s1.trans s2).trans s3) nD, _, upd_same, ?_⟩
      rw [take_snoc hx, List.filter_append, List.filter_cons, e]
      have n3 := nl_upd (l' := ys ++ [y]) hD3
      exact paired_snoc (paired_imp (fun a b h => hR a b _ _ n3 (hR a b _ _ (Same.nl s3) h)) p2) (hR _ _ _ _ n3 r)
  · rintro H ⟨s1, ys, hD, p⟩
    rw [List.take_length] at p
    exact q H ys s1 hD p
/-- .. where each element is a value of its item -/
theorem lc_pure {J : It} {G : Hp → Prop} {xs : List V} (w : Walk J xs.length G (YAt xs)) {j : Nat} {tt : TT} {te : TE} {vs : List Nat} {σ : L2.St} {H1 : Hp} {D : Addr} {Qd : Hp → Prop} (nD : H1 D = none) (f : V → Bool) (g : V → V)
    (hz : xs.length < sizeLine) (hw : ∀ x, wipe ((wipe σ vs).set j (some x)) vs = wipe σ vs) (hG : ∀ H, Same H1 H → G H)
    (ht : ∀ x ∈ xs, ∀ H, Same H1 H → ∀ Q' : Bool → Hp → Prop, (∀ H', Same H H' → Q' (f x) H') → tt ((wipe σ vs).set j (some x)) H Q')
    (he : ∀ x ∈ xs, f x = true → ∀ H, Same H1 H → ∀ Q' : VK, (∀ H', Same H H' → Q' (g x) H') → te ((wipe σ vs).set j (some x)) H Q')
    (q : ∀ H, Same H1 H → H D = some (.lst ((xs.filter f).map g)) → Qd H) : LcGoal J (gName j) tt te vs σ H1 D Qd :=
  lc_rel w nD f (fun x y _ => y = g x) (fun _ _ _ _ _ h => h) hz hw hG ht (fun x hm e H s Q' k => he x hm e H s Q' fun H' s' => k _ H' s' rfl) fun H ys s hD p => q H s (by rw [paired_fn p] at hD; exact hD)
/-- a comprehension without tests -/
def yes : V → Bool := fun _ => true
theorem filter_yes (xs : List V) : xs.filter yes = xs := List.filter_eq_self.mpr fun _ _ => rfl
theorem tt_yes {σ : L2.St} {H : Hp} {Q' : Bool → Hp → Prop} (x : V) (k : ∀ H', Same H H' → Q' (yes x) H') : tYes σ H Q' := k H (Same.refl H)
end

/-! ### == and != of data -/
def dV : V → PyData
  | .bl b => .bool b | .int i => .int i | .str z => .str z | _ => .none
def okV : V → Bool
  | .non => true | .bl _ => true | .int _ => true | .str z => PyData.strOk z | _ => false
section
variable {K : PySem.W.Frag} {H : Hp}
theorem dp_flat {x : V} (h : okV x = true) : Dp K H x (dV x) := by
  cases x <;> first | exact .non | exact .bl _ | exact .int _ | exact .str _ | exact absurd h (by simp [okV])
theorem dpAll_flat : ∀ {xs : List V}, (∀ x ∈ xs, okV x = true) → DpAll K H xs (xs.map dV)
  | [], _ => .nil
  | x :: r, h => .cons (dp_flat (h x List.mem_cons_self)) (dpAll_flat fun y hy => h y (List.mem_cons_of_mem _ hy))
theorem lay_flat {x : V} (h : okV x = true) : (dV x).canLay0 = true ∧ (dV x).depth ≤ 0 := by
  cases x with
  | str z => exact ⟨by simpa [dV, PyData.canLay0, okV] using h, by simp [dV, PyData.depth]⟩
  | non => exact ⟨by simp [dV, PyData.canLay0], by simp [dV, PyData.depth]⟩
  | bl b => exact ⟨by simp [dV, PyData.canLay0], by simp [dV, PyData.depth]⟩
  | int b => exact ⟨by simp [dV, PyData.canLay0], by simp [dV, PyData.depth]⟩
  | _ => exact absurd h (by simp [okV])
theorem lay_all {ds : List PyData} {n : Nat} : (∀ d ∈ ds, d.canLay0 = true ∧ d.depth ≤ n) → PyData.canLayAll0 ds = true ∧ PyData.depthAll ds ≤ n := by
  induction ds with
  | nil => intro _; exact ⟨by simp [PyData.canLayAll0], by simp [PyData.depthAll]⟩
  | cons d r ih =>
    intro h
    have h1 := h d List.mem_cons_self
    have h2 := ih fun e he => h e (List.mem_cons_of_mem _ he)
    simp only [PyData.canLayAll0, PyData.depthAll, h1.1, h2.1, Bool.and_self, true_and]
    have := h1.2; have := h2.2
    omega
theorem lay_list {ds : List PyData} {n : Nat} (h : ∀ d ∈ ds, d.canLay0 = true ∧ d.depth ≤ n) : (PyData.list ds).canLay0 = true ∧ (PyData.list ds).depth ≤ n + 1 := by
  have := lay_all h
  simp only [PyData.canLay0, PyData.depth, this.1, true_and]
  have := this.2
  omega
theorem lay_tup {ds : List PyData} {n : Nat} (h : ∀ d ∈ ds, d.canLay0 = true ∧ d.depth ≤ n) : (PyData.tuple ds).canLay0 = true ∧ (PyData.tuple ds).depth ≤ n + 1 := by
  have := lay_all h
  simp only [PyData.canLay0, PyData.depth, this.1, true_and]
  have := this.2
  omega
theorem shaped_of {d : PyData} {n : Nat} (h : d.canLay0 = true ∧ d.depth ≤ n) (hn : n ≤ 64) : SeqAt.shaped d = true := by
  simp only [SeqAt.shaped, h.1, Bool.true_and, decide_eq_true_eq]
  exact Nat.le_trans h.2 hn
/-- data at a value: told, and of a shape that == looks at -/
def Dat (K : PySem.W.Frag) (H : Hp) (x : V) (d : PyData) (n : Nat) : Prop := Dp K H x d ∧ d.canLay0 = true ∧ d.depth ≤ n
theorem dat_flat {x : V} (h : okV x = true) : Dat K H x (dV x) 0 := ⟨dp_flat h, lay_flat h⟩
theorem dat_lst {a : Addr} {xs : List V} (e : SqL K H a xs) (h : ∀ x ∈ xs, okV x = true) : Dat K H (.ref a) (.list (xs.map dV)) 1 :=
  ⟨.lst e (dpAll_flat h), lay_list fun d hd => by
    obtain ⟨x, hx, rfl⟩ := List.mem_map.mp hd
    exact lay_flat (h x hx)⟩
theorem dat_tup {a : Addr} {xs : List V} (e : SqT K H a xs) (h : ∀ x ∈ xs, okV x = true) : Dat K H (.ref a) (.tuple (xs.map dV)) 1 :=
  ⟨.tup e (dpAll_flat h), lay_tup fun d hd => by
    obtain ⟨x, hx, rfl⟩ := List.mem_map.mp hd
    exact lay_flat (h x hx)⟩
theorem dat_lstD {a : Addr} {xs : List V} {ds : List PyData} {n : Nat} (e : SqL K H a xs) (h : Paired (fun x d => Dat K H x d n) xs ds) : Dat K H (.ref a) (.list ds) (n + 1) := by
  have k : DpAll K H xs ds ∧ ∀ d ∈ ds, d.canLay0 = true ∧ d.depth ≤ n := by
    clear e
    induction h with
    | nil => exact ⟨.nil, fun d hd => by cases hd⟩
    | cons h1 _ ih => exact ⟨.cons h1.1 ih.1, fun d hd => by
        rcases List.mem_cons.mp hd with rfl | hd
        · exact h1.2
        · exact ih.2 d hd⟩
  exact ⟨.lst e k.1, lay_list k.2⟩
theorem eqD_same {x y : V} {d : PyData} {n : Nat} {Q : VK} (hx : Dat K H x d n) (hy : Dat K H y d n) (hn : n ≤ 64) (q : Q (.bl true) H) : rEqD K x y H Q := by
  refine ⟨d, d, hx.1, hy.1, shaped_of hx.2 hn, shaped_of hx.2 hn, ?_⟩
  rw [SeqAt.eqv_refl _ hx.2.1]; exact q
theorem neD_same {x y : V} {d : PyData} {n : Nat} {Q : VK} (hx : Dat K H x d n) (hy : Dat K H y d n) (hn : n ≤ 64) (q : Q (.bl false) H) : rNeD K x y H Q := by
  refine ⟨d, d, hx.1, hy.1, shaped_of hx.2 hn, shaped_of hx.2 hn, ?_⟩
  rw [SeqAt.eqv_refl _ hx.2.1]; exact q
theorem eqv_nil (ds : List PyData) : PyData.eqv (.list ds) (.list []) = ds.isEmpty := by
  cases ds <;> simp [PyData.eqv, PyData.eqvAll]
/-- .. with the empty list -/
theorem eqD_nil {x : V} {b : Addr} {ds : List PyData} {n : Nat} {Q : VK} (hx : Dat K H x (.list ds) n) (hb : H b = some (.lst [])) (hn : n ≤ 64) (q : Q (.bl ds.isEmpty) H) : rEqD K x (.ref b) H Q := by
  have hy := dat_lst (K := K) (xs := []) (.inl (.inl hb)) (fun x h => by cases h)
  refine ⟨_, _, hx.1, hy.1, shaped_of hx.2 hn, shaped_of hy.2 (by decide), ?_⟩
  rw [List.map_nil, eqv_nil]; exact q
theorem neD_nil {x : V} {b : Addr} {ds : List PyData} {n : Nat} {Q : VK} (hx : Dat K H x (.list ds) n) (hb : H b = some (.lst [])) (hn : n ≤ 64) (q : Q (.bl !ds.isEmpty) H) : rNeD K x (.ref b) H Q := by
  have hy := dat_lst (K := K) (xs := []) (.inl (.inl hb)) (fun x h => by cases h)
  refine ⟨_, _, hx.1, hy.1, shaped_of hx.2 hn, shaped_of hy.2 (by decide), ?_⟩
  rw [List.map_nil, eqv_nil]; exact q
end
/-! ### texts -/
/-- a text's signs are signs -/
theorem okS_iff {z : Str} : PyData.strOk z = true ↔ ∀ c ∈ z.cps.toList, c < 1114112 := by
  show (z.cps.all fun c => decide (c < 1114112)) = true ↔ _
  rw [← Array.all_toList, List.all_eq_true]
  simp only [decide_eq_true_eq]
theorem okS_append {a b : Str} (ha : PyData.strOk a = true) (hb : PyData.strOk b = true) : PyData.strOk (a ++ b) = true := by
  rw [okS_iff] at *
  intro c hc
  have : (a ++ b).cps.toList = a.cps.toList ++ b.cps.toList := by rw [Str.cps_append, Array.toList_append]
  rw [this] at hc
  rcases List.mem_append.mp hc with h | h
  · exact ha c h
  · exact hb c h
theorem okS_cut {z : Str} (h : PyData.strOk z = true) (lo hi : Option Int) : PyData.strOk (cutS z lo hi) = true := by
  rw [okS_iff] at *
  intro c hc
  have : c ∈ ((z.cps.toList.drop (HT.sIx z.length 0 lo)).take (HT.sIx z.length z.length hi - HT.sIx z.length 0 lo)) := by simpa [cutS] using hc
  exact h c (List.mem_of_mem_drop (List.mem_of_mem_take this))
theorem okS_join {s : Str} (hs : PyData.strOk s = true) : ∀ {ys : List Str}, (∀ y ∈ ys, PyData.strOk y = true) → PyData.strOk (Txt.join s ys) = true := by
  intro ys h
  have e : Txt.join s ys = Str.join s ys := StrLaws.glued_eq_join s ys
  rw [e]
  induction ys with
  | nil => exact okS_iff.mpr fun c hc => by simp [Str.join, Str.empty] at hc
  | cons y r ih =>
    cases r with
    | nil => exact h y List.mem_cons_self
    | cons z r => exact okS_append (okS_append (h y List.mem_cons_self) hs) (ih (fun w hw => h w (List.mem_cons_of_mem _ hw)) (StrLaws.glued_eq_join s _))
theorem okS_one {c : Nat} (h : c < 1114112) : PyData.strOk ⟨#[c]⟩ = true := by
  rw [okS_iff]; intro d hd
  have : d = c := by simpa using hd
  omega
theorem len_join (s : Str) (ys : List Str) : (Txt.join s ys).length = (ys.map (·.length)).sum + (ys.length - 1) * s.length := size_glued s ys
section
variable {X : Cx}
/-- text * number -/
theorem op_muls : OpR X (binaryOp .Mult) (fun x y H Q => ∃ (z : Str) (n : Int), x = .str z ∧ y = .int n ∧ z.length ≤ 1000 ∧ 0 ≤ n ∧ n ≤ 1000 ∧ Q (.str (Txt.mul z n)) H) := by
  intro pins s σ H x y v u Q I rx ry h
  obtain ⟨z, n, rfl, rfl, hz, h0, h1, q⟩ := h
  obtain ⟨t, rfl⟩ := rx
  obtain ⟨k, rfl⟩ := ry
  refine SB.mul ⟨?_, ?_, ?_⟩ fun t' k => ⟨.str _, H, I.tok _, ⟨_, rfl⟩, q⟩
  · simp only [Bool.or_eq_false_iff, decide_eq_false_iff_not]; omega
  · intro h2 _ h3
    have : (9223372036854775807 : Int) / 1000 ≤ (2 ^ 63 - 1) / n := by
      refine Int.le_ediv_of_mul_le (by omega) ?_
      omega
    omega
  · intro _ _
    have : z.length * n.toNat ≤ 1000 * 1000 := Nat.mul_le_mul hz (by omega)
    simp only [Builtin.Str.tooLong, decide_eq_false_iff_not, sizeLine_eq]
    omega
end

/-! ### list.count of flat items -/
section
variable {X : Cx}
def rCntF (K : PySem.W.Frag) : V → List V → Hp → VK → Prop := fun x xs H Q => ∃ (a : Addr) (ys : List V) (y : V), x = V.ref a ∧ xs = [y] ∧ SqL K H a ys ∧ flatV y = true ∧ ys.all flatV = true ∧ Q (.int ((ys.countP fun z => eqV z y : Nat) : Int)) H
theorem count_flat {y : V} : ∀ {ys : List V} {us : List Value}, Vals ys us → ys.all flatV = true → us.countP (eqU y) = ys.countP fun z => eqV z y
  | _, _, .nil, _ => rfl
  | _, _, .cons r t, f => by
    obtain ⟨f1, f2⟩ := Bool.and_eq_true_iff.mp (by simpa only [List.all_cons] using f)
    have ih := count_flat (y := y) t f2
    have e : eqU y _ = eqV _ y := eqU_of r f1
    rw [List.countP_cons, List.countP_cons, ih, e]
theorem mt_lcountF : MtR X "list.count" (rCntF X.K) := by
  intro pins s σ H x xs v us Q I rx rxs h
  obtain ⟨a, ys, y, rfl, rfl, hs, fy, fys, q⟩ := h
  cases rx
  cases rxs with
  | cons ry rt =>
    rename_i uy ut
    cases rt
    obtain ⟨its, rv, ⟨⟨cls, dd, data, sl⟩, n, ho, hc, hdn, hd⟩, hlen⟩ := I.list hs
    simp only at hc hd
    subst hc hd
    refine call_meets PySem.F.slot_list_count ⟨_, ho, rfl⟩ PySem.F.entry_list_count (PySem.F.args_list_count_2 _ _)
      (SeqAt.list_countAt a its.toArray n dd sl uy (eqU y)) ⟨ho, fun u' hu' => mem_eqAt ry fy rv fys u' (by simpa using hu'), ?_⟩
    have ec : its.toArray.toList.countP (eqU y) = ys.countP fun z => eqV z y := count_flat rv fys
    refine ⟨.int ((ys.countP fun z => eqV z y : Nat) : Int), H, I.tok _, ⟨s.toks, ?_⟩, q⟩
    show Value.int ((its.toArray.toList.countP (eqU y) : Nat) : Int) s.toks = Value.int ((ys.countP fun z => eqV z y : Nat) : Int) s.toks
    rw [ec]
end
/-! ### a caught exception, kept behind its suite -/
/-- an exception object of the class cls, its own dict d, at a -/
def XO (cls : Value) (d : Option Addr) (a : Addr) : HO := .ext fun h => ∃ (oe : Obj) (vs : Array Value), h.get? a = some oe ∧ Zc cls d oe ∧ oe.data = .fields vs
theorem xo_ok {P : Program} {w : World} {H : Hp} {h : Heap} {a : Addr} {cls : Value} {d : Option Addr} {oe : Obj} {vs : Array Value} (e : h.get? a = some oe) (z : Zc cls d oe) (hd : oe.data = .fields vs) : ObjOk P w H h a (XO cls d a) :=
  ⟨⟨oe, vs, e, z, hd⟩, ⟨oe, e⟩, fun _ _ ⟨o, v, q, r⟩ k => ⟨o, v, k o q, r⟩⟩
theorem HOk.track {P : Program} {w : World} {H : Hp} {h : Heap} {a : Addr} {o : HO} (x : HOk P w H h) (hn : H a = none) (new : ObjOk P w (upd H a o) h a o) : HOk P w (upd H a o) h := fun b u e => by
  by_cases hb : b = a
  · subst hb
    rw [upd_same] at e
    cases e
    exact new
  · rw [upd_ne hb] at e
    exact (x b u e).stay (fun c v _ q => q) (fun c q => by rw [upd_ne (ne_of_none q hn)]; exact q) fun c xs q => by rw [upd_ne (ne_of_none q hn)]; exact q
section
variable {X : Cx} {pins : List (Addr × Obj)} {σ : L2.St} {H : Hp} {s sI s' : Shared} {B : Heap} {a : Addr} {o : HO}
/-- back on the ground, the exception tracked -/
theorem landedX (I : Inv X pins σ H sI) (nb : ∀ b o, sI.heap.get? b = some o → b ∉ frs X.stack → B.get? b = some o) (st : B.StaysIn s'.heap) (up : sI.heap.UpToSlots s'.heap) (os : s'.os = sI.os) (ag : AllBare s'.gens)
    (na : H a = none) (nI : sI.heap.get? a = none) (new : ObjOk X.prog X.w (upd H a o) s'.heap a o) : Inv X pins σ (upd H a o) s' := by
  have nf : ∀ b ∈ frs X.stack, ∀ o, sI.heap.get? b = some o → ∃ sl, s'.heap.get? b = some { o with slots := sl } := fun b hb o e => by
    obtain ⟨_, o', e', hd⟩ := I.stack.mem hb
    rw [e] at e'; cases e'
    exact up b o e hd
  have J := I.call (ch := []) (h' := s'.heap) (g' := s'.gens) (t' := s'.toks) (d' := s'.drawn) (H' := upd H a o)
    ⟨fun b o e _ hb _ => st b o (nb b o e hb), fun b o e _ hb _ => nf b hb o e, fun b o e n _ => by rw [upd_ne fun (z : b = a) => by rw [z, nI] at e; cases e]; exact n, fun b o e _ => by
      by_cases hb : b ∈ frs X.stack
      · obtain ⟨sl, q⟩ := nf b hb o e
        exact ⟨_, q⟩
      · exact ⟨o, st b o (nb b o e hb)⟩, fun b xs e => by rw [upd_ne (ne_of_none e na)]; exact e, fun b u v e => by rw [upd_ne (ne_of_none e na)]; exact e, fun b ps e => ⟨#[], by rw [upd_ne (ne_of_none e na), e]; simp⟩⟩
    (HOk.track ((I.inGround nb).kept st) na new) ag (fun _ z => nomatch z)
  obtain ⟨a1, a2, a3, a4, a5⟩ := s'
  have e5 : a5 = sI.os := os
  subst e5
  exact J
theorem toSuite (I : Inv X pins σ H s) (a : Addr) : Inv (X.suite a (X.pn ++ pins)) [] σ H s :=
  ⟨I.ok.suite _ _, I.os, I.bare, I.base, I.loc, I.cell, I.free, I.freeC, fun p hp => I.pin p (by rw [List.append_nil] at hp; exact hp), I.hok, I.len⟩
theorem unSuite {pn' : List (Addr × Obj)} (I : Inv (X.suite a (X.pn ++ pins)) pn' σ H s) (ok : X.Ok) : Inv X pins σ H s :=
  ⟨ok, I.os, I.bare, I.base, I.loc, I.cell, I.free, I.freeC, fun p hp => I.pin p (List.mem_append_left _ hp), I.hok, I.len⟩
end
/-- what the clause 'except x as n: m = n' wishes: the error stands tracked, m is it -/
def wKeep (K : PySem.W.Frag) (c : Value) (i : Nat) (ts : Addr → Value → Option Addr → TS) (Wout : WX) (D : Ends) : WX := fun cls d σ H =>
  ∃ b, PySem.W.exmOne K cls c = some b ∧ (b = true → ∀ a, H a = none → ts a cls d { nx := fun σ' H' => D.nx (σ'.set i none) H', rt := D.rt, bk := fun σ' H' => D.bk (σ'.set i none) H', ct := fun σ' H' => D.ct (σ'.set i none) H' } (σ.set i (some (.ref a))) (upd H a (XO cls d a))) ∧
    (b = false → Wout cls d σ H)
section
variable {X : Cx} {x n : Str} {c : Value} {i : Nat} {body suite : List Stmt} {b₀ : Stmt} {np pos pos' : Pos} {tb : WX → TS} {ts : Addr → Value → Option Addr → TS} {Wout : WX}
theorem ps_try_keep (hs : X.stack = X.env :: X.outer) (hf : X.env.frame = some X.env.locals) (hN : X.N.Nodup) (hi : X.N[i]? = some n) (hln : X.env.kindOf n = some .local) (hc : Names X x c) (tk : Takes X Wout)
    (hb : ∀ (W : WX) (pn : List (Addr × Obj)) (xe : Value → Shared → Prop), Takes (X.tr pn xe) W → PassesOwn (model X.prog X.w) X.A X.env xe → PSs (X.tr pn xe) body (tb W))
    (hsu : ∀ (a : Addr) (cls : Value) (d : Option Addr) (pn : List (Addr × Obj)), PSs (X.suite a pn) (b₀ :: suite) (ts a cls d)) :
    PS X (.Try body [.ExceptHandler (some (.Name x np)) (some n) (b₀ :: suite) pos'] [] [] pos) (fun D σ H => tb (wKeep X.K c i ts Wout D) D σ H) := by
  refine ⟨fun pins s σ H D I h => ?_⟩
  have ok := I.ok
  have hfr : X.A.frames = some (X.env :: X.outer) := by rw [ok.frames, hs]
  have hloc : Loc X.env.scope n := .inl hln
  refine wpAny_Try_except ?_
  refine wpAny_mono ((hb (wKeep X.K c i ts Wout D) (X.pn ++ pins) (fun e s₁ => wpAny (model X.prog X.w) X.A (noteFrame e X.env) (fun _ s₂ => wpAny (model X.prog X.w) X.A (setFlight e none) (fun _ s₃ =>
    wpAny (model X.prog X.w) X.A (handleBy e X.env [.ExceptHandler (some (.Name x np)) (some n) (b₀ :: suite) pos']) (SP X pins D) X.xe s₃) X.xe s₂) X.xe s₁) (fun u s' xx => ?_) PassesOwn.looking).run [] s σ H D (I.toTry _) h) (fun f s1 hsp => ?_) (fun e s1 he => he)
  · -- the catch
    obtain ⟨a, B, sI, pins', σ', H', cls, d, rfl, J', nb, up, sky, na, os, ag, b, hb1, hyes, hno⟩ := xx
    have J : Inv X pins σ' H' sI := J'.ofTry ok
    have sky' : Sky B (X.env :: X.outer) a (Zc cls d) X.env.locals s'.heap := by rw [← hs]; exact sky
    show wpAny (model X.prog X.w) X.A (noteFrame (.ref a) X.env) _ _ _
    refine Sky.land Zc.steady hfr hf sky' fun h3 fl3 up3 => ?_
    have J3 : Inv X pins σ' H' { s' with heap := h3 } := J.landed nb fl3.1 (up.trans up3) os ag
    obtain ⟨oe3, vs3, he3, hz3, hd3⟩ := fl3.there
    have notFr : ∀ {h : Heap} {o : Obj} {vs : Array Value}, h.FunFrames B (X.env :: X.outer) → h.get? a = some o → o.data = .fields vs → a ∉ frs (X.env :: X.outer) := fun {h o vs} ff e dd hm => by
      obtain ⟨_, o', e', hnf⟩ := ff.mem hm
      rw [e] at e'; cases e'
      exact hnf _ dd
    have nfr := notFr fl3.2.2.1 he3 hd3
    have nL : a ≠ X.env.locals := fun z => nfr (List.mem_filterMap.mpr ⟨X.env, List.mem_cons_self, by rw [hf, z]⟩)
    have nF : a ∉ X.fs := fun hm => by
      obtain ⟨e, he, q⟩ := List.mem_filterMap.mp hm
      exact nfr (List.mem_filterMap.mpr ⟨e, List.mem_cons_of_mem _ he, q⟩)
    have nI : sI.heap.get? a = none := by
      cases e : sI.heap.get? a with
      | none => rfl
      | some o =>
        have := nb a o e (by rw [hs]; exact nfr)
        rw [fl3.2.1] at this; cases this
    have S3 := J3.suite he3 hd3 na nL nF
    refine wpAny_handleBy_cons (codeAny_handlers_test ?_) (by intro q; cases q)
    have LT : PySem.W.Looks (model X.prog X.w) h3 (typeOf (.ref a)) cls := fun A Q E s k q => wpAny_typeOf_ref (k _ _ he3) (by rw [hz3.1]; exact q)
    have LM := PySem.W.exm_one (M := model X.prog X.w) (J3.kIn) LT hb1
    have test : ∀ {Q : Value → Shared → Prop} {E : Value → Shared → Prop}, Q c { s' with heap := h3 } → wpAny (model X.prog X.w) (X.A.mark (some (.ref a))) (eval (.Name x np) X.env) Q E { s' with heap := h3 } := fun {Q E} q => by
      obtain ⟨hg, hdbg, hm | ⟨hm, hv, hnn⟩⟩ := hc
      · exact ld_glob (X := X.suite a ((a, oe3) :: (X.pn ++ pins))) S3 hg hm q hdbg
      · exact ld_blt (X := X.suite a ((a, oe3) :: (X.pn ++ pins))) S3 hg hm hv q hnn hdbg
    refine test (LM.here ?_)
    cases b with
    | true =>
      refine codeAny_handlers_suite_as ?_
      refine HandSPX.lands_againZ fl3 fun h4 fl4 up4 => ?_
      obtain ⟨oe4, vs4, he4, hz4, hd4⟩ := fl4.there
      have J4 : Inv X pins σ' (upd H' a (XO cls d a)) { s' with heap := h4 } := landedX J nb fl4.1 ((up.trans up3).trans up4) os ag na nI (xo_ok he4 hz4 hd4)
      have S4 := toSuite J4 a
      refine store_ok (X := X.suite a (X.pn ++ pins)) (v := .ref a) S4 hN hi hloc rfl (fun s5 S5 => ?_) (.inr hln)
      refine wpAny_mono ((hsu a cls d (X.pn ++ pins)).run [] s5 _ (upd H' a (XO cls d a)) _ S5 (hyes rfl a na)) (fun f s6 hsp => ?_) (fun _ _ z => False.elim z)
      have end_ : ∀ {σ6 : L2.St} {H6 : Hp} {Q : Shared → Prop}, Inv (X.suite a (X.pn ++ pins)) [] σ6 H6 s6 → (∀ s7, Inv X pins (σ6.set i none) H6 s7 → Q s7) →
          wpAny (model X.prog X.w) X.A (do bindName X.env n .none; unbindBehindTheSuite X.env n pos') (fun _ s7 => Q s7) X.xe s6 := fun {σ6 H6 Q} S6 hq => gone_ok (unSuite S6 ok) hN hi hln hq
      cases f with
      | next =>
        obtain ⟨σ6, H6, S6, q6⟩ := hsp
        exact end_ S6 fun s7 J7 => ⟨_, _, J7, q6⟩
      | brk =>
        obtain ⟨σ6, H6, S6, q6⟩ := hsp
        exact end_ S6 fun s7 J7 => ⟨_, _, J7, q6⟩
      | cont =>
        obtain ⟨σ6, H6, S6, q6⟩ := hsp
        exact end_ S6 fun s7 J7 => ⟨_, _, J7, q6⟩
      | ret u =>
        obtain ⟨v6, σ6, H6, S6, r6, q6⟩ := hsp
        exact end_ S6 fun s7 J7 => ⟨_, _, _, J7, r6, q6⟩
    | false =>
      show wpAny _ X.A (handleBy (.ref a) X.env []) _ _ _
      refine wpAny_handleBy_nil ?_
      obtain ⟨k1, k2, k3, oe, vs, T, oT, ts', he, hz, hd, h1, hr⟩ := id fl3
      unfold PySem.passOn
      refine wpAny_bind (wpAny_field he hd h1 ?_)
      rw [if_neg (show ¬ ((Value.ref T == Value.none) = true) from by simp)]
      have fin : wpAny (model X.prog X.w) X.A (setFlight (.ref a) X.env.frame) (fun _ s4 => wpAny (model X.prog X.w) X.A (throw (.ref a) : Sem Flow) (SP X pins D) X.xe s4) X.xe { s' with heap := h3 } := by
        rw [hf]
        refine HandSPX.setFlight_upZ fl3 fun h4 hh4 up4 => wpAny_throw (tk _ _ ?_)
        exact ⟨a, B, sI, pins, σ', H', cls, d, rfl, J, nb, (up.trans up3).trans up4, .inr (.inr (by rw [hs]; exact hh4)), na, os, ag, hno rfl⟩
      first
        | exact wpAny_bind (wpAny_pure (wpAny_bind fin))
        | exact wpAny_bind fin
  · cases f with
    | next =>
      obtain ⟨σ', H', J', q⟩ := hsp
      exact wpAny_execs_nil ⟨σ', H', J'.ofTry ok, q⟩
    | brk =>
      obtain ⟨σ', H', J', q⟩ := hsp
      exact ⟨σ', H', J'.ofTry ok, q⟩
    | cont =>
      obtain ⟨σ', H', J', q⟩ := hsp
      exact ⟨σ', H', J'.ofTry ok, q⟩
    | ret u =>
      obtain ⟨v, σ', H', J', r, q⟩ := hsp
      exact ⟨v, σ', H', J'.ofTry ok, r, q⟩
end
/-! ### isinstance of it -/
/-- what an error's class tells: its own, of the base B, of others -/
structure ErC (K : PySem.W.Frag) (D B : Addr) (ks : List (Addr × Bool)) : Prop where
  c : ExcC K D
  v : PySem.W.kitOne K (.ref D) (.type "ValueError") = some true
  m : PySem.W.exmOne K (.ref D) (.ref B) = some true
  k : ∀ x ∈ ks, PySem.W.kitOne K (.ref D) (.ref x.1) = some x.2
def erB (K : PySem.W.Frag) (D B : Addr) (ks : List (Addr × Bool)) : Bool :=
  He.eqO (PySem.W.findIn K (.ref D) "__getattribute__") (some (some (.builtin "BaseException.__getattribute__"))) && (He.eqO (PySem.W.findIn K (.ref D) "__getattr__") (some none) && (decide (PySem.W.subIn K (.ref D) (.type "BaseException") = some true) && (PySem.W.hasDictIn K D && (
  He.eqO (PySem.W.findIn K (.ref D) "__class__") (some (some (.builtin "object.__class__"))) && (He.eqO (PySem.W.specialIn K (.builtin "object.__class__") "__get__") (some (some (.builtin "getset_descriptor.__get__"))) && (decide (PySem.W.takesIn K (.builtin "object.__class__") = some true) && (decide (PySem.W.mroIn K D (.type "object") = some true) && (
  decide (PySem.W.kitOne K (.ref D) (.type "ValueError") = some true) && (decide (PySem.W.exmOne K (.ref D) (.ref B) = some true) && ks.all fun x => decide (PySem.W.kitOne K (.ref D) (.ref x.1) = some x.2))))))))))
theorem erB_ok {K : PySem.W.Frag} {D B : Addr} {ks : List (Addr × Bool)} (h : erB K D B ks = true) : ErC K D B ks := by
  obtain ⟨a1, h⟩ := He.ba h
  obtain ⟨a2, h⟩ := He.ba h
  obtain ⟨a3, h⟩ := He.ba h
  obtain ⟨a4, h⟩ := He.ba h
  obtain ⟨a5, h⟩ := He.ba h
  obtain ⟨a6, h⟩ := He.ba h
  obtain ⟨a7, h⟩ := He.ba h
  obtain ⟨a8, h⟩ := He.ba h
  obtain ⟨a9, h⟩ := He.ba h
  obtain ⟨a10, h⟩ := He.ba h
  exact ⟨⟨He.eqO_ok a1, He.eqO_ok a2, of_decide_eq_true a3, a4, He.eqO_ok a5, He.eqO_ok a6, of_decide_eq_true a7, of_decide_eq_true a8⟩, of_decide_eq_true a9, of_decide_eq_true a10, fun x hx => of_decide_eq_true (List.all_eq_true.mp h x hx)⟩
/-- isinstance(e, c), e an error that stands -/
def rIsX (K : PySem.W.Frag) : List V → Hp → VK → Prop := fun xs H Q => ∃ (a D : Addr) (c : V) (cv : Value) (b : Bool), xs = [.ref a, c] ∧ H a = some (XO (.ref D) none a) ∧ ExcC K D ∧ (∀ u, RelV c u → u = cv) ∧ PySem.W.kitOne K (.ref D) cv = some b ∧ Q (.bl b) H
theorem call_isX {X : Cx} : CallR X (.builtin "isinstance") (rIsX X.K) := by
  intro pins s σ H xs us Q I r h
  obtain ⟨a, D, c, cv, b, rfl, ha, C, hcv, e, q⟩ := h
  cases r with
  | cons rx rr =>
    cases rr with
    | cons rt rr =>
      cases rr
      cases rx
      have ec := hcv _ rt
      subst ec
      obtain ⟨⟨oe, vs, hget, hz, hv⟩, _, _⟩ := I.hok a _ ha
      have J : PySem.W.InstAt s.heap a oe D none := by
        obtain ⟨oc, od, oda, osl⟩ := oe
        obtain ⟨h1, h2⟩ := hz
        dsimp only at h1 h2 hv
        subst h1 h2 hv
        exact ⟨hget, rfl, rfl, trivial⟩
      exact PySem.W.kia_one (PySem.W.handS_kitx_exc C.hg C.hk C.hs C.hd C.ha C.hn C.ht C.hm) I.kIn J e (fun z => nomatch z) fun tk => ⟨.bl b, H, I.kept (t' := tk) fun _ _ z => z, rfl, q⟩
/-! ### the head, with facts of one's own -/
def obsX (fa : List He.Fa) (fn : List He.DefD) (ex : List (PySem.W.Frag → Bool)) (K : PySem.W.Frag) : He.AlD := (((fa.all fun f => f.ok K) && fn.all fun d => d.ok K) && ex.all fun p => p K, fn.map fun d => He.fnW K d.at_)
def obsXG (n : Nat) (fa : List He.Fa) (fn : List He.DefD) (ex : List (PySem.W.Frag → Bool)) (g : Addr → Option Obj) : He.AlD := obsX fa fn ex (He.frG g (He.asD g n))
structure SaysX (fa : List He.Fa) (fn : List He.DefD) (ex : List (PySem.W.Frag → Bool)) (K : PySem.W.Frag) : Prop where
  c : He.SaysD fa fn K
  x : ∀ p ∈ ex, p K = true
theorem saysX_of {fa : List He.Fa} {fn : List He.DefD} {ex : List (PySem.W.Frag → Bool)} {K : PySem.W.Frag} (h : obsX fa fn ex K = He.valD fn) : SaysX fa fn ex K := by
  have h1 : (((fa.all fun f => f.ok K) && fn.all fun d => d.ok K) && ex.all fun p => p K) = true := congrArg (fun z : He.AlD => z.1) h
  have h2 : (fn.map fun d => He.fnW K d.at_) = fn.map He.DefD.val := congrArg (fun z : He.AlD => z.2) h
  obtain ⟨a, b⟩ := He.ba h1
  exact ⟨Prod.ext a h2, fun p hp => List.all_eq_true.mp b p hp⟩
def hookX (n : Nat) (fa : List He.Fa) (fn : List He.DefD) (ex : List (PySem.W.Frag → Bool)) : PySem.W.Hook where
  α := He.AlD
  obs := fun s => obsXG n fa fn ex s.heap.get?
  val := fun _ => He.valD fn
  says := fun _ h => ∃ K : PySem.W.Frag, K.In h ∧ SaysX fa fn ex K
  of := fun _ _ e => ⟨_, He.frG_in, saysX_of e⟩
  keeps := fun _ _ _ ⟨K, hK, c⟩ k => ⟨K, PySem.W.Frag.In.keeps hK k, c⟩
theorem obsXG_eq {n : Nat} {fa : List He.Fa} {fn : List He.DefD} {ex : List (PySem.W.Frag → Bool)} {g : Addr → Option Obj} {s : Shared} (h : ∀ a, g a = s.heap.get? a) : obsXG n fa fn ex g = (hookX n fa fn ex).obs s := by
  have e : g = s.heap.get? := funext h
  rw [e] <;> rfl
/-! ### calls within a try -/
theorem takesF {X : Cx} : Takes X (fun _ _ _ _ => False) := fun _ _ x => by
  obtain ⟨_, _, _, _, _, _, _, _, _, _, _, _, _, _, _, _, z⟩ := x
  exact z.elim
theorem ps_absurd {X : Cx} {st : Stmt} : PS X st (fun _ _ _ => False) := ⟨fun _ _ _ _ _ _ h => h.elim⟩
section
variable {X : Cx} {k : Nat} {x m : Str} {ps : List Str} {sp : Sp} {dvs : List V} {W : WX} {p pos apos : Pos} {e o : Expr} {es : List Expr} {ta : TE} {t : TA} {C : Addr}
def tFnE (sp : Sp) (E : L2.St → XK) (t : TA) : TE := fun σ H Q => t σ H fun vs H1 => sp vs H1 Q (E σ)
theorem pe_fnS (D : Def X.prog X.w X.K X.mg X.base k x ps sp) (hr : Room k X.A) (hg : Gl X x) (tk : Takes X W) (ha : PA X (e :: es) t)
    (hdb : (x == ("__debug__" : Str)) = false := by decide) (he : starEach (e :: es) X.env = (false, eval e X.env) :: starEach es X.env := by rfl) (hpl : (backTo pos (starEach es X.env)).any (·.1) = false := by rfl) :
    PE X (.Call (.Name x p) (e :: es) [] pos) (tFnE sp (WE W) t) := by
  obtain ⟨f, fd, hm, hk, F, hb⟩ := D.ex
  exact pe_callS F hr hg hm hk hb (fun σ => passAt tk σ) ha hdb he hpl
def tMtE (C : Addr) (m : Str) (sp : Sp) (dvs : List V) (E : L2.St → XK) (ta : TE) (t : TA) : TE := fun σ H Q => ta σ H fun x H1 => ∃ a dx fs, x = .ref a ∧ H1 a = some (.ins C dx fs) ∧ fs.lookup m = none ∧ t σ H1 fun vs H2 => sp (x :: (vs ++ dvs)) H2 Q (E σ)
theorem pe_mtS {pl : Sem Bool} (c : Cls X.K C) (D : MDef X.prog X.w X.K X.mg X.base C k m ps dvs sp) (hr : Room k X.A) (tk : Takes X W) (he : PE X o ta) (ha : PA X (e :: es) t)
    (hst : starEach (e :: es) X.env = (false, eval e X.env) :: starEach es X.env := by rfl) (hpl : (backTo pos (starEach es X.env)).any (·.1) = false := by rfl)
    (ht : eval (.Call (.Attribute o m apos) (e :: es) [] pos) X.env = (do
      let ov ← eval o X.env
      standAt apos.atName
      let (f, first) ← holding [ov] (getMethod ov m pl)
      callWith pos f first (backTo pos (starEach (e :: es) X.env)) (backToKw pos (keywordEach [] X.env))) := by rfl) :
    PE X (.Call (.Attribute o m apos) (e :: es) [] pos) (tMtE C m sp dvs (WE W) ta t) := by
  obtain ⟨f, fd, ds, hm, F, hb, hd⟩ := D.ex
  refine ⟨fun pins s σ H Q I h => ?_⟩
  refine PySem.W.methodCall_KW (pl := pl) (thn (he.run pins s σ H _ I h) fun u s1 ⟨x, H1, I1, rx, a, dx, fs, ex, ea, l, q⟩ => ?_) ht
  subst ex
  obtain rfl : u = Value.ref a := rx
  refine getmeth_ok I1 ea c hm l ?_
  refine PySem.W.callWith_K (first := [.ref a]) (h₀ := X.base) I.ok.mod.kin hm.kp (thn (ha.run pos pins s1 σ H1 _ I1 q) fun us s2 ⟨vs, H2, I2, r, q2⟩ => ⟨I2.kIn, ?_⟩) hst hpl
  exact run_fnSD (us := .ref a :: us) (vs := .ref a :: vs) F hr hb hd (passAt tk σ) I2 (.cons rfl r) q2
end
/-! ### rules with the text by places told apart -/
theorem ix_listK {X : Cx} {K : PySem.W.Frag} (hK : X.K = K) : IxR X (rIxL K) := by subst hK; exact ix_list
theorem call_len_seqK {X : Cx} {K : PySem.W.Frag} (hK : X.K = K) : CallR X (.builtin "len") (fun xs H Q => ∃ p ys, xs = [.ref p] ∧ (SqL K H p ys ∨ SqT K H p ys) ∧ Q (.int ys.length) H) := by subst hK; exact call_len_seq
theorem ix_tupK {X : Cx} {K : PySem.W.Frag} (hK : X.K = K) : IxR X (rIxT K) := by subst hK; exact ix_tup

/-! ### sorted of pairs (lamp, fraction) -/
/-- a pair's address, its lamp, its fraction's address, its fraction -/
abbrev Row := Addr × Str × Addr × Int × Int
def rowD (e : Row) : PyData := .tuple [.str e.2.1, .tuple [.int e.2.2.2.1, .int e.2.2.2.2]]
def RowAt (H : Hp) (e : Row) : Prop := H e.1 = some (.tup [.str e.2.1, .ref e.2.2.1]) ∧ H e.2.2.1 = some (.tup [.int e.2.2.2.1, .int e.2.2.2.2])
def rSortedT : List V → Hp → VK → Prop := fun vs H Q => ∃ (a : Addr) (es : List Row), vs = [V.ref a] ∧ H a = some (.lst (es.map fun e => V.ref e.1)) ∧ (∀ e ∈ es, RowAt H e) ∧
  ∀ (fs : List Row) (p : Addr), fs.Perm es → fs.Pairwise (fun x y => PySem.W.dataLe false rowD x y = true) → H p = none → Q (.ref p) (upd H p (.lst (fs.map fun e => V.ref e.1)))
theorem each_refs : ∀ (es : List Row) (us : List Value), Vals (es.map fun e => V.ref e.1) us → PySem.W.EachIs (fun (v : Value) (e : Row) => v = Value.ref e.1) us es
  | [], _, h => by cases h; exact .nil
  | e :: es, _, h => by
    cases h with
    | cons r t => exact .cons r (each_refs es _ t)
theorem vals_each : ∀ {us : List Value} {es : List Row}, PySem.W.EachIs (fun (v : Value) (e : Row) => v = Value.ref e.1) us es → Vals (es.map fun e => V.ref e.1) us
  | _, _, .nil => .nil
  | _, _, .cons r t => .cons r (vals_each t)
theorem each_reads {h : Heap} {us : List Value} {es : List Row} (r : PySem.W.EachIs (fun (v : Value) (e : Row) => v = Value.ref e.1) us es) (k : ∀ e ∈ es, ∃ as, Reads h (.ref e.1) (rowD e) as) : PySem.W.EachIs (fun (v : Value) (e : Row) => ∃ as, Reads h v (rowD e) as) us es := by
  induction r with
  | nil => exact .nil
  | cons a t ih => exact .cons (by rw [a]; exact k _ List.mem_cons_self) (ih fun e he => k e (List.mem_cons_of_mem _ he))
theorem row_reads {X : Cx} {pins : List (Addr × Obj)} {σ : L2.St} {H : Hp} {s : Shared} (I : Inv X pins σ H s) {e : Row} (h : RowAt H e) : ∃ as, Reads s.heap (.ref e.1) (rowD e) as := by
  obtain ⟨z1, i1, r1, o1, g1, c1, n1, d1⟩ := I.hok _ _ h.1
  obtain ⟨z2, i2, r2, o2, g2, c2, n2, d2⟩ := I.hok _ _ h.2
  cases r1 with
  | cons ra rt =>
    cases rt with
    | cons rb rn =>
      cases rn
      cases r2 with
      | cons rc rt2 =>
        cases rt2 with
        | cons rd rn2 =>
          cases rn2
          obtain ⟨t1, rfl⟩ := ra
          cases rb
          obtain ⟨t2, rfl⟩ := rc
          obtain ⟨t3, rfl⟩ := rd
          exact ⟨_, .tuple g1 c1 d1 (.cons (.str _ _) (.cons (.tuple g2 c2 d2 (.cons (.int _ _) (.cons (.int _ _) .nil))) .nil))⟩
theorem row_depth (e : Row) : (rowD e).depth ≤ 8 := by
  simp [rowD, PyData.depth, PyData.depthAll]
theorem row_alike (a b : Row) : PySem.W.alike (rowD a) (rowD b) = true := by
  simp [rowD, PySem.W.alike, PySem.W.alikeAll]
theorem cr_sortedT {X : Cx} {k : Nat} (hr : Room k X.A) : CallR X (.builtin "sorted") rSortedT := by
  intro pins s σ H vs us Q I r h
  obtain ⟨a, es, rfl, ha, hall, q⟩ := h
  obtain ⟨hz, its, n, rv, ho⟩ := I.hok a _ ha
  rw [Vals.ref1 r]
  have er := each_refs es its rv
  have rd := each_reads er fun e he => row_reads I (hall e he)
  have hl : s.heap.IsList a its.toArray := ⟨_, ho, rfl, n, rfl⟩
  have hz' : es.length ≤ sizeLine := by rwa [List.length_map] at hz
  refine PySem.W.sorted_data (enc := rowD) hl er rd (PySem.W.AllAlike.of row_alike) (PySem.W.Sortable.tuples fun b => ⟨_, _, rfl⟩) hz' (fun b _ => ?_) fun out hlen hout => ?_
  · have := hr.units
    have := row_depth b
    omega
  obtain ⟨ep, he'⟩ := PyProof.Rows.sortedAll_at s.heap its out.toArray
  have hlen' : ((es.mergeSort (PySem.W.dataLe false rowD)).map fun e => V.ref e.1).length ≤ sizeLine := by rw [List.length_map, List.length_mergeSort]; exact hz'
  exact ⟨.ref _, upd H (s.heap.objs.size + 1) (.lst ((es.mergeSort (PySem.W.dataLe false rowD)).map fun e => V.ref e.1)), I.laid (t' := s.toks) (fun _ _ => PyProof.Rows.sortedAll_old) (Nat.le_succ _) ⟨hlen', out, ep, vals_each hout, he'⟩, rfl, q _ _ (List.mergeSort_perm _ _) (PySem.W.sort_pairwise (PySem.W.sortLe_total _ _ _) _) (I.hok.fresh (Nat.le_succ _))⟩

def topS (i : Nat) : Stmt := PySem.Challenge.pw_cuehall_k15_whole_runs.main.body.getD i (.Pass ⟨0, 0, 0, 0⟩)
abbrev s_is_whole : Stmt := topS 16
abbrev s_is_cue : Stmt := topS 17
abbrev s_is_lamp : Stmt := topS 18
abbrev s_is_level : Stmt := topS 19
abbrev s_is_fade : Stmt := topS 20
abbrev s_is_moment : Stmt := topS 21
abbrev s_divisor : Stmt := topS 25
abbrev s_lowest : Stmt := topS 26
abbrev s_rises : Stmt := topS 27
abbrev s_on_the_way : Stmt := topS 28
abbrev s_need_word : Stmt := topS 33
abbrev s__law_mixed : Stmt := topS 37
abbrev s__law_cell : Stmt := topS 38
abbrev s__law_lamps : Stmt := topS 39
abbrev s__law_numbers : Stmt := topS 40
abbrev s__law_level : Stmt := topS 41
abbrev s__law_look : Stmt := topS 42
abbrev s__law_whole : Stmt := topS 43
abbrev s__law_same : Stmt := topS 44
abbrev s__law_cue_right : Stmt := topS 45
abbrev s__law_stands : Stmt := topS 46
abbrev s__law_hold : Stmt := topS 47
abbrev s__law_behind : Stmt := topS 48
abbrev s__law_put : Stmt := topS 49
abbrev s__law_only : Stmt := topS 50
abbrev s__law_lift : Stmt := topS 51
abbrev s__law_done : Stmt := topS 52
abbrev s__law_built : Stmt := topS 53
abbrev s__law_divisor : Stmt := topS 54
abbrev s__law_lowest : Stmt := topS 55
abbrev s__law_way : Stmt := topS 56
abbrev s__law_lights : Stmt := topS 57
abbrev s__law_at_right : Stmt := topS 58
abbrev s__law_less : Stmt := topS 59
abbrev s__law_between : Stmt := topS 60
abbrev s__law_light : Stmt := topS 61
abbrev s__law_call_right : Stmt := topS 62
abbrev s__law_piece : Stmt := topS 63
abbrev s_law : Stmt := topS 64
abbrev s_Scene___init__ : Stmt := inClass (topS 29) 0
abbrev s_Scene_goal : Stmt := inClass (topS 29) 1
abbrev s_Scene_length : Stmt := inClass (topS 29) 2
abbrev s_Scene_faded : Stmt := inClass (topS 29) 3
abbrev s_Run___init__ : Stmt := inClass (topS 30) 0
abbrev s_Run_call : Stmt := inClass (topS 30) 1
abbrev s_Run_calls : Stmt := inClass (topS 30) 4
abbrev s_Run_begun : Stmt := inClass (topS 30) 5
abbrev s_Run_at : Stmt := inClass (topS 30) 6
abbrev s_Run_ended : Stmt := inClass (topS 30) 7
abbrev s_Cue___init__ : Stmt := inClass (topS 34) 0
abbrev s_Play___init__ : Stmt := inClass (topS 35) 0
abbrev s_Play_sure : Stmt := inClass (topS 35) 1
abbrev s_Play_put : Stmt := inClass (topS 35) 2
abbrev s_Play_numbers : Stmt := inClass (topS 35) 3
abbrev s_Play_cue : Stmt := inClass (topS 35) 4
abbrev s_Play_tell : Stmt := inClass (topS 35) 5
abbrev s_Play_untell : Stmt := inClass (topS 35) 6
abbrev s_Play_look : Stmt := inClass (topS 35) 7
abbrev s_Play_level : Stmt := inClass (topS 35) 8
abbrev s_Play_behind : Stmt := inClass (topS 35) 9
abbrev s_Play_hold : Stmt := inClass (topS 35) 10
abbrev s_Play_only : Stmt := inClass (topS 35) 11
abbrev s_Play_cut : Stmt := inClass (topS 35) 12
abbrev s_Play_lift : Stmt := inClass (topS 35) 13
abbrev s_Play_spare : Stmt := inClass (topS 35) 14
abbrev s_Play_least : Stmt := inClass (topS 35) 15
abbrev ExcOk (K : PySem.W.Frag) (C : Addr) : Prop := PySem.W.excIn K C He.veBase "ValueError.__new__" = true ∧ PySem.W.keepIn K (.ref C) = true ∧ PySem.W.subIn K (.ref C) (.type "BaseException") = some true ∧ PySem.W.typeIn K (.ref C) = some (.type "type")
structure Txt (K : PySem.W.Frag) (mg : Str → Option Value) : Prop where
  g_is_whole : mg "is_whole" = some (.ref (He.ga K "is_whole"))
  g_is_cue : mg "is_cue" = some (.ref (He.ga K "is_cue"))
  g_is_lamp : mg "is_lamp" = some (.ref (He.ga K "is_lamp"))
  g_is_level : mg "is_level" = some (.ref (He.ga K "is_level"))
  g_is_fade : mg "is_fade" = some (.ref (He.ga K "is_fade"))
  g_is_moment : mg "is_moment" = some (.ref (He.ga K "is_moment"))
  g_divisor : mg "divisor" = some (.ref (He.ga K "divisor"))
  g_lowest : mg "lowest" = some (.ref (He.ga K "lowest"))
  g_rises : mg "rises" = some (.ref (He.ga K "rises"))
  g_on_the_way : mg "on_the_way" = some (.ref (He.ga K "on_the_way"))
  g_need_word : mg "need_word" = some (.ref (He.ga K "need_word"))
  g__law_mixed : mg "_law_mixed" = some (.ref (He.ga K "_law_mixed"))
  g__law_cell : mg "_law_cell" = some (.ref (He.ga K "_law_cell"))
  g__law_lamps : mg "_law_lamps" = some (.ref (He.ga K "_law_lamps"))
  g__law_numbers : mg "_law_numbers" = some (.ref (He.ga K "_law_numbers"))
  g__law_level : mg "_law_level" = some (.ref (He.ga K "_law_level"))
  g__law_look : mg "_law_look" = some (.ref (He.ga K "_law_look"))
  g__law_whole : mg "_law_whole" = some (.ref (He.ga K "_law_whole"))
  g__law_same : mg "_law_same" = some (.ref (He.ga K "_law_same"))
  g__law_cue_right : mg "_law_cue_right" = some (.ref (He.ga K "_law_cue_right"))
  g__law_stands : mg "_law_stands" = some (.ref (He.ga K "_law_stands"))
  g__law_hold : mg "_law_hold" = some (.ref (He.ga K "_law_hold"))
  g__law_behind : mg "_law_behind" = some (.ref (He.ga K "_law_behind"))
  g__law_put : mg "_law_put" = some (.ref (He.ga K "_law_put"))
  g__law_only : mg "_law_only" = some (.ref (He.ga K "_law_only"))
  g__law_lift : mg "_law_lift" = some (.ref (He.ga K "_law_lift"))
  g__law_done : mg "_law_done" = some (.ref (He.ga K "_law_done"))
  g__law_built : mg "_law_built" = some (.ref (He.ga K "_law_built"))
  g__law_divisor : mg "_law_divisor" = some (.ref (He.ga K "_law_divisor"))
  g__law_lowest : mg "_law_lowest" = some (.ref (He.ga K "_law_lowest"))
  g__law_way : mg "_law_way" = some (.ref (He.ga K "_law_way"))
  g__law_lights : mg "_law_lights" = some (.ref (He.ga K "_law_lights"))
  g__law_at_right : mg "_law_at_right" = some (.ref (He.ga K "_law_at_right"))
  g__law_less : mg "_law_less" = some (.ref (He.ga K "_law_less"))
  g__law_between : mg "_law_between" = some (.ref (He.ga K "_law_between"))
  g__law_light : mg "_law_light" = some (.ref (He.ga K "_law_light"))
  g__law_call_right : mg "_law_call_right" = some (.ref (He.ga K "_law_call_right"))
  g__law_piece : mg "_law_piece" = some (.ref (He.ga K "_law_piece"))
  g_law : mg "law" = some (.ref (He.ga K "law"))
  g_CueError : mg "CueError" = some (.ref (He.ga K "CueError"))
  g_NoCue : mg "NoCue" = some (.ref (He.ga K "NoCue"))
  g_Taken : mg "Taken" = some (.ref (He.ga K "Taken"))
  g_TooMany : mg "TooMany" = some (.ref (He.ga K "TooMany"))
  g_NoLamp : mg "NoLamp" = some (.ref (He.ga K "NoLamp"))
  g_NoLevel : mg "NoLevel" = some (.ref (He.ga K "NoLevel"))
  g_NoTime : mg "NoTime" = some (.ref (He.ga K "NoTime"))
  g_Scene : mg "Scene" = some (.ref (He.ga K "Scene"))
  g_Run : mg "Run" = some (.ref (He.ga K "Run"))
  g_Cue : mg "Cue" = some (.ref (He.ga K "Cue"))
  g_Play : mg "Play" = some (.ref (He.ga K "Play"))
  z_isinstance : mg "isinstance" = none
  z_int : mg "int" = none
  z_bool : mg "bool" = none
  z_str : mg "str" = none
  z_list : mg "list" = none
  z_dict : mg "dict" = none
  z_tuple : mg "tuple" = none
  z_len : mg "len" = none
  z_all : mg "all" = none
  z_sorted : mg "sorted" = none
  z_range : mg "range" = none
  z_enumerate : mg "enumerate" = none
  z_zip : mg "zip" = none
  z_min : mg "min" = none
  z_max : mg "max" = none
  z_ValueError : mg "ValueError" = none
  g_LETTERS : ∃ t, mg "LETTERS" = some (.str "abcdefghijklmnopqrstuvwxyz" t)
  g_LONGEST : ∃ t, mg "LONGEST" = some (.int 8 t)
  g_LAST_CUE : ∃ t, mg "LAST_CUE" = some (.int 999999 t)
  g_FULL : ∃ t, mg "FULL" = some (.int 100 t)
  g_LONGEST_FADE : ∃ t, mg "LONGEST_FADE" = some (.int 6000 t)
  g_LAST_MOMENT : ∃ t, mg "LAST_MOMENT" = some (.int 1000000000 t)
  g_MOST_CALLS : ∃ t, mg "MOST_CALLS" = some (.int 20 t)
  g_DARK : mg "DARK" = some (.ref (He.ga K "DARK"))
  g_MOST_CUES : ∃ t, mg "MOST_CUES" = some (.int 100 t)
  c_Scene : Cls K (He.ga K "Scene")
  n_Scene_up : NoAttr K (He.ga K "Scene") "up"
  n_Scene_down : NoAttr K (He.ga K "Scene") "down"
  n_Scene_lights : NoAttr K (He.ga K "Scene") "lights"
  k_Scene : Mk K (He.ga K "Scene") (He.ma K (He.ga K "Scene") "__init__")
  m_Scene_goal : Meth K (He.ga K "Scene") "goal" (He.ma K (He.ga K "Scene") "goal")
  m_Scene_length : Meth K (He.ga K "Scene") "length" (He.ma K (He.ga K "Scene") "length")
  m_Scene_faded : Meth K (He.ga K "Scene") "faded" (He.ma K (He.ga K "Scene") "faded")
  c_Run : Cls K (He.ga K "Run")
  n_Run_scenes : NoAttr K (He.ga K "Run") "scenes"
  n_Run_called : NoAttr K (He.ga K "Run") "called"
  k_Run : Mk K (He.ga K "Run") (He.ma K (He.ga K "Run") "__init__")
  m_Run_call : Meth K (He.ga K "Run") "call" (He.ma K (He.ga K "Run") "call")
  m_Run_calls : Meth K (He.ga K "Run") "calls" (He.ma K (He.ga K "Run") "calls")
  m_Run_begun : Meth K (He.ga K "Run") "begun" (He.ma K (He.ga K "Run") "begun")
  m_Run_at : Meth K (He.ga K "Run") "at" (He.ma K (He.ga K "Run") "at")
  m_Run_ended : Meth K (He.ga K "Run") "ended" (He.ma K (He.ga K "Run") "ended")
  c_Cue : Cls K (He.ga K "Cue")
  n_Cue_up : NoAttr K (He.ga K "Cue") "up"
  n_Cue_down : NoAttr K (He.ga K "Cue") "down"
  n_Cue_fresh : NoAttr K (He.ga K "Cue") "fresh"
  n_Cue_words : NoAttr K (He.ga K "Cue") "words"
  k_Cue : Mk K (He.ga K "Cue") (He.ma K (He.ga K "Cue") "__init__")
  c_Play : Cls K (He.ga K "Play")
  n_Play_kept : NoAttr K (He.ga K "Play") "kept"
  k_Play : Mk K (He.ga K "Play") (He.ma K (He.ga K "Play") "__init__")
  m_Play_sure : Meth K (He.ga K "Play") "sure" (He.ma K (He.ga K "Play") "sure")
  m_Play_put : Meth K (He.ga K "Play") "put" (He.ma K (He.ga K "Play") "put")
  m_Play_numbers : Meth K (He.ga K "Play") "numbers" (He.ma K (He.ga K "Play") "numbers")
  m_Play_cue : Meth K (He.ga K "Play") "cue" (He.ma K (He.ga K "Play") "cue")
  m_Play_tell : Meth K (He.ga K "Play") "tell" (He.ma K (He.ga K "Play") "tell")
  m_Play_untell : Meth K (He.ga K "Play") "untell" (He.ma K (He.ga K "Play") "untell")
  m_Play_look : Meth K (He.ga K "Play") "look" (He.ma K (He.ga K "Play") "look")
  m_Play_level : Meth K (He.ga K "Play") "level" (He.ma K (He.ga K "Play") "level")
  m_Play_behind : Meth K (He.ga K "Play") "behind" (He.ma K (He.ga K "Play") "behind")
  m_Play_hold : Meth K (He.ga K "Play") "hold" (He.ma K (He.ga K "Play") "hold")
  m_Play_only : Meth K (He.ga K "Play") "only" (He.ma K (He.ga K "Play") "only")
  m_Play_cut : Meth K (He.ga K "Play") "cut" (He.ma K (He.ga K "Play") "cut")
  m_Play_lift : Meth K (He.ga K "Play") "lift" (He.ma K (He.ga K "Play") "lift")
  m_Play_spare : Meth K (He.ga K "Play") "spare" (He.ma K (He.ga K "Play") "spare")
  m_Play_least : Meth K (He.ga K "Play") "least" (He.ma K (He.ga K "Play") "least")
  x_CueError : ExcOk K (He.ga K "CueError")
  x_NoCue : ExcOk K (He.ga K "NoCue")
  x_Taken : ExcOk K (He.ga K "Taken")
  x_TooMany : ExcOk K (He.ga K "TooMany")
  x_NoLamp : ExcOk K (He.ga K "NoLamp")
  x_NoLevel : ExcOk K (He.ga K "NoLevel")
  x_NoTime : ExcOk K (He.ga K "NoTime")
  t_DARK : ∀ H : Hp, SqT K H (He.ga K "DARK") [V.int 0, V.int 1]
  d_is_whole : ∃ fd, FunD K "is_whole" "is_whole" (defArgs s_is_whole) (defBody s_is_whole) (defScope s_is_whole) [] [] (He.ga K "is_whole") fd
  d_is_cue : ∃ fd, FunD K "is_cue" "is_cue" (defArgs s_is_cue) (defBody s_is_cue) (defScope s_is_cue) [] [] (He.ga K "is_cue") fd
  d_is_lamp : ∃ fd, FunD K "is_lamp" "is_lamp" (defArgs s_is_lamp) (defBody s_is_lamp) (defScope s_is_lamp) [] [] (He.ga K "is_lamp") fd
  d_is_level : ∃ fd, FunD K "is_level" "is_level" (defArgs s_is_level) (defBody s_is_level) (defScope s_is_level) [] [] (He.ga K "is_level") fd
  d_is_fade : ∃ fd, FunD K "is_fade" "is_fade" (defArgs s_is_fade) (defBody s_is_fade) (defScope s_is_fade) [] [] (He.ga K "is_fade") fd
  d_is_moment : ∃ fd, FunD K "is_moment" "is_moment" (defArgs s_is_moment) (defBody s_is_moment) (defScope s_is_moment) [] [] (He.ga K "is_moment") fd
  d_divisor : ∃ fd, FunD K "divisor" "divisor" (defArgs s_divisor) (defBody s_divisor) (defScope s_divisor) [] [] (He.ga K "divisor") fd
  d_lowest : ∃ fd, FunD K "lowest" "lowest" (defArgs s_lowest) (defBody s_lowest) (defScope s_lowest) [] [] (He.ga K "lowest") fd
  d_rises : ∃ fd, FunD K "rises" "rises" (defArgs s_rises) (defBody s_rises) (defScope s_rises) [] [] (He.ga K "rises") fd
  d_on_the_way : ∃ fd, FunD K "on_the_way" "on_the_way" (defArgs s_on_the_way) (defBody s_on_the_way) (defScope s_on_the_way) [] [] (He.ga K "on_the_way") fd
  d_need_word : ∃ fd, FunD K "need_word" "need_word" (defArgs s_need_word) (defBody s_need_word) (defScope s_need_word) [] [] (He.ga K "need_word") fd
  d__law_mixed : ∃ fd, FunD K "_law_mixed" "_law_mixed" (defArgs s__law_mixed) (defBody s__law_mixed) (defScope s__law_mixed) [] [] (He.ga K "_law_mixed") fd
  d__law_cell : ∃ fd, FunD K "_law_cell" "_law_cell" (defArgs s__law_cell) (defBody s__law_cell) (defScope s__law_cell) [] [] (He.ga K "_law_cell") fd
  d__law_lamps : ∃ fd, FunD K "_law_lamps" "_law_lamps" (defArgs s__law_lamps) (defBody s__law_lamps) (defScope s__law_lamps) [] [] (He.ga K "_law_lamps") fd
  d__law_numbers : ∃ fd, FunD K "_law_numbers" "_law_numbers" (defArgs s__law_numbers) (defBody s__law_numbers) (defScope s__law_numbers) [] [] (He.ga K "_law_numbers") fd
  d__law_level : ∃ fd, FunD K "_law_level" "_law_level" (defArgs s__law_level) (defBody s__law_level) (defScope s__law_level) [] [] (He.ga K "_law_level") fd
  d__law_look : ∃ fd, FunD K "_law_look" "_law_look" (defArgs s__law_look) (defBody s__law_look) (defScope s__law_look) [] [] (He.ga K "_law_look") fd
  d__law_whole : ∃ fd, FunD K "_law_whole" "_law_whole" (defArgs s__law_whole) (defBody s__law_whole) (defScope s__law_whole) [] [] (He.ga K "_law_whole") fd
  d__law_same : ∃ fd, FunD K "_law_same" "_law_same" (defArgs s__law_same) (defBody s__law_same) (defScope s__law_same) [] [] (He.ga K "_law_same") fd
  d__law_cue_right : ∃ fd, FunD K "_law_cue_right" "_law_cue_right" (defArgs s__law_cue_right) (defBody s__law_cue_right) (defScope s__law_cue_right) [] [] (He.ga K "_law_cue_right") fd
  d__law_stands : ∃ fd, FunD K "_law_stands" "_law_stands" (defArgs s__law_stands) (defBody s__law_stands) (defScope s__law_stands) [] [] (He.ga K "_law_stands") fd
  d__law_hold : ∃ fd, FunD K "_law_hold" "_law_hold" (defArgs s__law_hold) (defBody s__law_hold) (defScope s__law_hold) [] [] (He.ga K "_law_hold") fd
  d__law_behind : ∃ fd, FunD K "_law_behind" "_law_behind" (defArgs s__law_behind) (defBody s__law_behind) (defScope s__law_behind) [] [] (He.ga K "_law_behind") fd
  d__law_put : ∃ fd, FunD K "_law_put" "_law_put" (defArgs s__law_put) (defBody s__law_put) (defScope s__law_put) [] [] (He.ga K "_law_put") fd
  d__law_only : ∃ fd, FunD K "_law_only" "_law_only" (defArgs s__law_only) (defBody s__law_only) (defScope s__law_only) [] [] (He.ga K "_law_only") fd
  d__law_lift : ∃ fd, FunD K "_law_lift" "_law_lift" (defArgs s__law_lift) (defBody s__law_lift) (defScope s__law_lift) [] [] (He.ga K "_law_lift") fd
  d__law_done : ∃ fd, FunD K "_law_done" "_law_done" (defArgs s__law_done) (defBody s__law_done) (defScope s__law_done) [] [] (He.ga K "_law_done") fd
  d__law_built : ∃ fd, FunD K "_law_built" "_law_built" (defArgs s__law_built) (defBody s__law_built) (defScope s__law_built) [] [] (He.ga K "_law_built") fd
  d__law_divisor : ∃ fd, FunD K "_law_divisor" "_law_divisor" (defArgs s__law_divisor) (defBody s__law_divisor) (defScope s__law_divisor) [] [] (He.ga K "_law_divisor") fd
  d__law_lowest : ∃ fd, FunD K "_law_lowest" "_law_lowest" (defArgs s__law_lowest) (defBody s__law_lowest) (defScope s__law_lowest) [] [] (He.ga K "_law_lowest") fd
  d__law_way : ∃ fd, FunD K "_law_way" "_law_way" (defArgs s__law_way) (defBody s__law_way) (defScope s__law_way) [] [] (He.ga K "_law_way") fd
  d__law_lights : ∃ fd, FunD K "_law_lights" "_law_lights" (defArgs s__law_lights) (defBody s__law_lights) (defScope s__law_lights) [] [] (He.ga K "_law_lights") fd
  d__law_at_right : ∃ fd, FunD K "_law_at_right" "_law_at_right" (defArgs s__law_at_right) (defBody s__law_at_right) (defScope s__law_at_right) [] [] (He.ga K "_law_at_right") fd
  d__law_less : ∃ fd, FunD K "_law_less" "_law_less" (defArgs s__law_less) (defBody s__law_less) (defScope s__law_less) [] [] (He.ga K "_law_less") fd
  d__law_between : ∃ fd, FunD K "_law_between" "_law_between" (defArgs s__law_between) (defBody s__law_between) (defScope s__law_between) [] [] (He.ga K "_law_between") fd
  d__law_light : ∃ fd, FunD K "_law_light" "_law_light" (defArgs s__law_light) (defBody s__law_light) (defScope s__law_light) [] [] (He.ga K "_law_light") fd
  d__law_call_right : ∃ fd, FunD K "_law_call_right" "_law_call_right" (defArgs s__law_call_right) (defBody s__law_call_right) (defScope s__law_call_right) [] [] (He.ga K "_law_call_right") fd
  d__law_piece : ∃ fd, FunD K "_law_piece" "_law_piece" (defArgs s__law_piece) (defBody s__law_piece) (defScope s__law_piece) [] [] (He.ga K "_law_piece") fd
  d_law : ∃ fd, FunD K "law" "law" (defArgs s_law) (defBody s_law) (defScope s_law) [] [] (He.ga K "law") fd
  d_Scene___init__ : ∃ fd, FunD K "__init__" "Scene.__init__" (defArgs s_Scene___init__) (defBody s_Scene___init__) (defScope s_Scene___init__) [] [] (He.ma K (He.ga K "Scene") "__init__") fd
  d_Scene_goal : ∃ fd, FunD K "goal" "Scene.goal" (defArgs s_Scene_goal) (defBody s_Scene_goal) (defScope s_Scene_goal) [] [] (He.ma K (He.ga K "Scene") "goal") fd
  d_Scene_length : ∃ fd, FunD K "length" "Scene.length" (defArgs s_Scene_length) (defBody s_Scene_length) (defScope s_Scene_length) [] [] (He.ma K (He.ga K "Scene") "length") fd
  d_Scene_faded : ∃ fd, FunD K "faded" "Scene.faded" (defArgs s_Scene_faded) (defBody s_Scene_faded) (defScope s_Scene_faded) [] [] (He.ma K (He.ga K "Scene") "faded") fd
  d_Run___init__ : ∃ fd, FunD K "__init__" "Run.__init__" (defArgs s_Run___init__) (defBody s_Run___init__) (defScope s_Run___init__) [] [] (He.ma K (He.ga K "Run") "__init__") fd
  d_Run_call : ∃ fd, FunD K "call" "Run.call" (defArgs s_Run_call) (defBody s_Run_call) (defScope s_Run_call) [] [] (He.ma K (He.ga K "Run") "call") fd
  d_Run_calls : ∃ fd, FunD K "calls" "Run.calls" (defArgs s_Run_calls) (defBody s_Run_calls) (defScope s_Run_calls) [] [] (He.ma K (He.ga K "Run") "calls") fd
  d_Run_begun : ∃ fd, FunD K "begun" "Run.begun" (defArgs s_Run_begun) (defBody s_Run_begun) (defScope s_Run_begun) [] [] (He.ma K (He.ga K "Run") "begun") fd
  d_Run_at : ∃ fd, FunD K "at" "Run.at" (defArgs s_Run_at) (defBody s_Run_at) (defScope s_Run_at) [] [] (He.ma K (He.ga K "Run") "at") fd
  d_Run_ended : ∃ fd, FunD K "ended" "Run.ended" (defArgs s_Run_ended) (defBody s_Run_ended) (defScope s_Run_ended) [] [] (He.ma K (He.ga K "Run") "ended") fd
  d_Cue___init__ : ∃ fd, FunD K "__init__" "Cue.__init__" (defArgs s_Cue___init__) (defBody s_Cue___init__) (defScope s_Cue___init__) [] [] (He.ma K (He.ga K "Cue") "__init__") fd
  d_Play___init__ : ∃ fd, FunD K "__init__" "Play.__init__" (defArgs s_Play___init__) (defBody s_Play___init__) (defScope s_Play___init__) [] [] (He.ma K (He.ga K "Play") "__init__") fd
  d_Play_sure : ∃ fd, FunD K "sure" "Play.sure" (defArgs s_Play_sure) (defBody s_Play_sure) (defScope s_Play_sure) [] [] (He.ma K (He.ga K "Play") "sure") fd
  d_Play_put : ∃ fd, FunD K "put" "Play.put" (defArgs s_Play_put) (defBody s_Play_put) (defScope s_Play_put) [.int 0, .int 0, .bl false] [] (He.ma K (He.ga K "Play") "put") fd
  d_Play_numbers : ∃ fd, FunD K "numbers" "Play.numbers" (defArgs s_Play_numbers) (defBody s_Play_numbers) (defScope s_Play_numbers) [] [] (He.ma K (He.ga K "Play") "numbers") fd
  d_Play_cue : ∃ fd, FunD K "cue" "Play.cue" (defArgs s_Play_cue) (defBody s_Play_cue) (defScope s_Play_cue) [] [] (He.ma K (He.ga K "Play") "cue") fd
  d_Play_tell : ∃ fd, FunD K "tell" "Play.tell" (defArgs s_Play_tell) (defBody s_Play_tell) (defScope s_Play_tell) [] [] (He.ma K (He.ga K "Play") "tell") fd
  d_Play_untell : ∃ fd, FunD K "untell" "Play.untell" (defArgs s_Play_untell) (defBody s_Play_untell) (defScope s_Play_untell) [] [] (He.ma K (He.ga K "Play") "untell") fd
  d_Play_look : ∃ fd, FunD K "look" "Play.look" (defArgs s_Play_look) (defBody s_Play_look) (defScope s_Play_look) [] [] (He.ma K (He.ga K "Play") "look") fd
  d_Play_level : ∃ fd, FunD K "level" "Play.level" (defArgs s_Play_level) (defBody s_Play_level) (defScope s_Play_level) [] [] (He.ma K (He.ga K "Play") "level") fd
  d_Play_behind : ∃ fd, FunD K "behind" "Play.behind" (defArgs s_Play_behind) (defBody s_Play_behind) (defScope s_Play_behind) [] [] (He.ma K (He.ga K "Play") "behind") fd
  d_Play_hold : ∃ fd, FunD K "hold" "Play.hold" (defArgs s_Play_hold) (defBody s_Play_hold) (defScope s_Play_hold) [] [] (He.ma K (He.ga K "Play") "hold") fd
  d_Play_only : ∃ fd, FunD K "only" "Play.only" (defArgs s_Play_only) (defBody s_Play_only) (defScope s_Play_only) [] [] (He.ma K (He.ga K "Play") "only") fd
  d_Play_cut : ∃ fd, FunD K "cut" "Play.cut" (defArgs s_Play_cut) (defBody s_Play_cut) (defScope s_Play_cut) [] [] (He.ma K (He.ga K "Play") "cut") fd
  d_Play_lift : ∃ fd, FunD K "lift" "Play.lift" (defArgs s_Play_lift) (defBody s_Play_lift) (defScope s_Play_lift) [] [] (He.ma K (He.ga K "Play") "lift") fd
  d_Play_spare : ∃ fd, FunD K "spare" "Play.spare" (defArgs s_Play_spare) (defBody s_Play_spare) (defScope s_Play_spare) [] [] (He.ma K (He.ga K "Play") "spare") fd
  d_Play_least : ∃ fd, FunD K "least" "Play.least" (defArgs s_Play_least) (defBody s_Play_least) (defScope s_Play_least) [] [] (He.ma K (He.ga K "Play") "least") fd
def D_is_whole : He.DefD := ⟨("is_whole", none), "is_whole", "is_whole", defArgs s_is_whole, defBody s_is_whole, defScope s_is_whole, [], []⟩
def D_is_cue : He.DefD := ⟨("is_cue", none), "is_cue", "is_cue", defArgs s_is_cue, defBody s_is_cue, defScope s_is_cue, [], []⟩
def D_is_lamp : He.DefD := ⟨("is_lamp", none), "is_lamp", "is_lamp", defArgs s_is_lamp, defBody s_is_lamp, defScope s_is_lamp, [], []⟩
def D_is_level : He.DefD := ⟨("is_level", none), "is_level", "is_level", defArgs s_is_level, defBody s_is_level, defScope s_is_level, [], []⟩
def D_is_fade : He.DefD := ⟨("is_fade", none), "is_fade", "is_fade", defArgs s_is_fade, defBody s_is_fade, defScope s_is_fade, [], []⟩
def D_is_moment : He.DefD := ⟨("is_moment", none), "is_moment", "is_moment", defArgs s_is_moment, defBody s_is_moment, defScope s_is_moment, [], []⟩
def D_divisor : He.DefD := ⟨("divisor", none), "divisor", "divisor", defArgs s_divisor, defBody s_divisor, defScope s_divisor, [], []⟩
def D_lowest : He.DefD := ⟨("lowest", none), "lowest", "lowest", defArgs s_lowest, defBody s_lowest, defScope s_lowest, [], []⟩
def D_rises : He.DefD := ⟨("rises", none), "rises", "rises", defArgs s_rises, defBody s_rises, defScope s_rises, [], []⟩
def D_on_the_way : He.DefD := ⟨("on_the_way", none), "on_the_way", "on_the_way", defArgs s_on_the_way, defBody s_on_the_way, defScope s_on_the_way, [], []⟩
def D_need_word : He.DefD := ⟨("need_word", none), "need_word", "need_word", defArgs s_need_word, defBody s_need_word, defScope s_need_word, [], []⟩
def D__law_mixed : He.DefD := ⟨("_law_mixed", none), "_law_mixed", "_law_mixed", defArgs s__law_mixed, defBody s__law_mixed, defScope s__law_mixed, [], []⟩
def D__law_cell : He.DefD := ⟨("_law_cell", none), "_law_cell", "_law_cell", defArgs s__law_cell, defBody s__law_cell, defScope s__law_cell, [], []⟩
def D__law_lamps : He.DefD := ⟨("_law_lamps", none), "_law_lamps", "_law_lamps", defArgs s__law_lamps, defBody s__law_lamps, defScope s__law_lamps, [], []⟩
def D__law_numbers : He.DefD := ⟨("_law_numbers", none), "_law_numbers", "_law_numbers", defArgs s__law_numbers, defBody s__law_numbers, defScope s__law_numbers, [], []⟩
def D__law_level : He.DefD := ⟨("_law_level", none), "_law_level", "_law_level", defArgs s__law_level, defBody s__law_level, defScope s__law_level, [], []⟩
def D__law_look : He.DefD := ⟨("_law_look", none), "_law_look", "_law_look", defArgs s__law_look, defBody s__law_look, defScope s__law_look, [], []⟩
def D__law_whole : He.DefD := ⟨("_law_whole", none), "_law_whole", "_law_whole", defArgs s__law_whole, defBody s__law_whole, defScope s__law_whole, [], []⟩
def D__law_same : He.DefD := ⟨("_law_same", none), "_law_same", "_law_same", defArgs s__law_same, defBody s__law_same, defScope s__law_same, [], []⟩
def D__law_cue_right : He.DefD := ⟨("_law_cue_right", none), "_law_cue_right", "_law_cue_right", defArgs s__law_cue_right, defBody s__law_cue_right, defScope s__law_cue_right, [], []⟩
def D__law_stands : He.DefD := ⟨("_law_stands", none), "_law_stands", "_law_stands", defArgs s__law_stands, defBody s__law_stands, defScope s__law_stands, [], []⟩
def D__law_hold : He.DefD := ⟨("_law_hold", none), "_law_hold", "_law_hold", defArgs s__law_hold, defBody s__law_hold, defScope s__law_hold, [], []⟩
def D__law_behind : He.DefD := ⟨("_law_behind", none), "_law_behind", "_law_behind", defArgs s__law_behind, defBody s__law_behind, defScope s__law_behind, [], []⟩
def D__law_put : He.DefD := ⟨("_law_put", none), "_law_put", "_law_put", defArgs s__law_put, defBody s__law_put, defScope s__law_put, [], []⟩
def D__law_only : He.DefD := ⟨("_law_only", none), "_law_only", "_law_only", defArgs s__law_only, defBody s__law_only, defScope s__law_only, [], []⟩
def D__law_lift : He.DefD := ⟨("_law_lift", none), "_law_lift", "_law_lift", defArgs s__law_lift, defBody s__law_lift, defScope s__law_lift, [], []⟩
def D__law_done : He.DefD := ⟨("_law_done", none), "_law_done", "_law_done", defArgs s__law_done, defBody s__law_done, defScope s__law_done, [], []⟩
def D__law_built : He.DefD := ⟨("_law_built", none), "_law_built", "_law_built", defArgs s__law_built, defBody s__law_built, defScope s__law_built, [], []⟩
def D__law_divisor : He.DefD := ⟨("_law_divisor", none), "_law_divisor", "_law_divisor", defArgs s__law_divisor, defBody s__law_divisor, defScope s__law_divisor, [], []⟩
def D__law_lowest : He.DefD := ⟨("_law_lowest", none), "_law_lowest", "_law_lowest", defArgs s__law_lowest, defBody s__law_lowest, defScope s__law_lowest, [], []⟩
def D__law_way : He.DefD := ⟨("_law_way", none), "_law_way", "_law_way", defArgs s__law_way, defBody s__law_way, defScope s__law_way, [], []⟩
def D__law_lights : He.DefD := ⟨("_law_lights", none), "_law_lights", "_law_lights", defArgs s__law_lights, defBody s__law_lights, defScope s__law_lights, [], []⟩
def D__law_at_right : He.DefD := ⟨("_law_at_right", none), "_law_at_right", "_law_at_right", defArgs s__law_at_right, defBody s__law_at_right, defScope s__law_at_right, [], []⟩
def D__law_less : He.DefD := ⟨("_law_less", none), "_law_less", "_law_less", defArgs s__law_less, defBody s__law_less, defScope s__law_less, [], []⟩
def D__law_between : He.DefD := ⟨("_law_between", none), "_law_between", "_law_between", defArgs s__law_between, defBody s__law_between, defScope s__law_between, [], []⟩
def D__law_light : He.DefD := ⟨("_law_light", none), "_law_light", "_law_light", defArgs s__law_light, defBody s__law_light, defScope s__law_light, [], []⟩
def D__law_call_right : He.DefD := ⟨("_law_call_right", none), "_law_call_right", "_law_call_right", defArgs s__law_call_right, defBody s__law_call_right, defScope s__law_call_right, [], []⟩
def D__law_piece : He.DefD := ⟨("_law_piece", none), "_law_piece", "_law_piece", defArgs s__law_piece, defBody s__law_piece, defScope s__law_piece, [], []⟩
def D_law : He.DefD := ⟨("law", none), "law", "law", defArgs s_law, defBody s_law, defScope s_law, [], []⟩
def D_Scene___init__ : He.DefD := ⟨("Scene", some "__init__"), "__init__", "Scene.__init__", defArgs s_Scene___init__, defBody s_Scene___init__, defScope s_Scene___init__, [], []⟩
def D_Scene_goal : He.DefD := ⟨("Scene", some "goal"), "goal", "Scene.goal", defArgs s_Scene_goal, defBody s_Scene_goal, defScope s_Scene_goal, [], []⟩
def D_Scene_length : He.DefD := ⟨("Scene", some "length"), "length", "Scene.length", defArgs s_Scene_length, defBody s_Scene_length, defScope s_Scene_length, [], []⟩
def D_Scene_faded : He.DefD := ⟨("Scene", some "faded"), "faded", "Scene.faded", defArgs s_Scene_faded, defBody s_Scene_faded, defScope s_Scene_faded, [], []⟩
def D_Run___init__ : He.DefD := ⟨("Run", some "__init__"), "__init__", "Run.__init__", defArgs s_Run___init__, defBody s_Run___init__, defScope s_Run___init__, [], []⟩
def D_Run_call : He.DefD := ⟨("Run", some "call"), "call", "Run.call", defArgs s_Run_call, defBody s_Run_call, defScope s_Run_call, [], []⟩
def D_Run_calls : He.DefD := ⟨("Run", some "calls"), "calls", "Run.calls", defArgs s_Run_calls, defBody s_Run_calls, defScope s_Run_calls, [], []⟩
def D_Run_begun : He.DefD := ⟨("Run", some "begun"), "begun", "Run.begun", defArgs s_Run_begun, defBody s_Run_begun, defScope s_Run_begun, [], []⟩
def D_Run_at : He.DefD := ⟨("Run", some "at"), "at", "Run.at", defArgs s_Run_at, defBody s_Run_at, defScope s_Run_at, [], []⟩
def D_Run_ended : He.DefD := ⟨("Run", some "ended"), "ended", "Run.ended", defArgs s_Run_ended, defBody s_Run_ended, defScope s_Run_ended, [], []⟩
def D_Cue___init__ : He.DefD := ⟨("Cue", some "__init__"), "__init__", "Cue.__init__", defArgs s_Cue___init__, defBody s_Cue___init__, defScope s_Cue___init__, [], []⟩
def D_Play___init__ : He.DefD := ⟨("Play", some "__init__"), "__init__", "Play.__init__", defArgs s_Play___init__, defBody s_Play___init__, defScope s_Play___init__, [], []⟩
def D_Play_sure : He.DefD := ⟨("Play", some "sure"), "sure", "Play.sure", defArgs s_Play_sure, defBody s_Play_sure, defScope s_Play_sure, [], []⟩
def D_Play_put : He.DefD := ⟨("Play", some "put"), "put", "Play.put", defArgs s_Play_put, defBody s_Play_put, defScope s_Play_put, [.int 0, .int 0, .bl false], []⟩
def D_Play_numbers : He.DefD := ⟨("Play", some "numbers"), "numbers", "Play.numbers", defArgs s_Play_numbers, defBody s_Play_numbers, defScope s_Play_numbers, [], []⟩
def D_Play_cue : He.DefD := ⟨("Play", some "cue"), "cue", "Play.cue", defArgs s_Play_cue, defBody s_Play_cue, defScope s_Play_cue, [], []⟩
def D_Play_tell : He.DefD := ⟨("Play", some "tell"), "tell", "Play.tell", defArgs s_Play_tell, defBody s_Play_tell, defScope s_Play_tell, [], []⟩
def D_Play_untell : He.DefD := ⟨("Play", some "untell"), "untell", "Play.untell", defArgs s_Play_untell, defBody s_Play_untell, defScope s_Play_untell, [], []⟩
def D_Play_look : He.DefD := ⟨("Play", some "look"), "look", "Play.look", defArgs s_Play_look, defBody s_Play_look, defScope s_Play_look, [], []⟩
def D_Play_level : He.DefD := ⟨("Play", some "level"), "level", "Play.level", defArgs s_Play_level, defBody s_Play_level, defScope s_Play_level, [], []⟩
def D_Play_behind : He.DefD := ⟨("Play", some "behind"), "behind", "Play.behind", defArgs s_Play_behind, defBody s_Play_behind, defScope s_Play_behind, [], []⟩
def D_Play_hold : He.DefD := ⟨("Play", some "hold"), "hold", "Play.hold", defArgs s_Play_hold, defBody s_Play_hold, defScope s_Play_hold, [], []⟩
def D_Play_only : He.DefD := ⟨("Play", some "only"), "only", "Play.only", defArgs s_Play_only, defBody s_Play_only, defScope s_Play_only, [], []⟩
def D_Play_cut : He.DefD := ⟨("Play", some "cut"), "cut", "Play.cut", defArgs s_Play_cut, defBody s_Play_cut, defScope s_Play_cut, [], []⟩
def D_Play_lift : He.DefD := ⟨("Play", some "lift"), "lift", "Play.lift", defArgs s_Play_lift, defBody s_Play_lift, defScope s_Play_lift, [], []⟩
def D_Play_spare : He.DefD := ⟨("Play", some "spare"), "spare", "Play.spare", defArgs s_Play_spare, defBody s_Play_spare, defScope s_Play_spare, [], []⟩
def D_Play_least : He.DefD := ⟨("Play", some "least"), "least", "Play.least", defArgs s_Play_least, defBody s_Play_least, defScope s_Play_least, [], []⟩
def fn : List He.DefD := [D_is_whole, D_is_cue, D_is_lamp, D_is_level, D_is_fade, D_is_moment, D_divisor, D_lowest, D_rises, D_on_the_way, D_need_word, D__law_mixed, D__law_cell, D__law_lamps, D__law_numbers, D__law_level, D__law_look, D__law_whole, D__law_same, D__law_cue_right, D__law_stands, D__law_hold, D__law_behind, D__law_put, D__law_only, D__law_lift, D__law_done, D__law_built, D__law_divisor, D__law_lowest, D__law_way, D__law_lights, D__law_at_right, D__law_less, D__law_between, D__law_light, D__law_call_right, D__law_piece, D_law, D_Scene___init__, D_Scene_goal, D_Scene_length, D_Scene_faded, D_Run___init__, D_Run_call, D_Run_calls, D_Run_begun, D_Run_at, D_Run_ended, D_Cue___init__, D_Play___init__, D_Play_sure, D_Play_put, D_Play_numbers, D_Play_cue, D_Play_tell, D_Play_untell, D_Play_look, D_Play_level, D_Play_behind, D_Play_hold, D_Play_only, D_Play_cut, D_Play_lift, D_Play_spare, D_Play_least]
def fa : List He.Fa := [.glo "is_whole", .glo "is_cue", .glo "is_lamp", .glo "is_level", .glo "is_fade", .glo "is_moment", .glo "divisor", .glo "lowest", .glo "rises", .glo "on_the_way", .glo "need_word", .glo "_law_mixed", .glo "_law_cell", .glo "_law_lamps", .glo "_law_numbers", .glo "_law_level", .glo "_law_look", .glo "_law_whole", .glo "_law_same", .glo "_law_cue_right", .glo "_law_stands", .glo "_law_hold", .glo "_law_behind", .glo "_law_put", .glo "_law_only", .glo "_law_lift", .glo "_law_done", .glo "_law_built", .glo "_law_divisor", .glo "_law_lowest", .glo "_law_way", .glo "_law_lights", .glo "_law_at_right", .glo "_law_less", .glo "_law_between", .glo "_law_light", .glo "_law_call_right", .glo "_law_piece", .glo "law", .glo "CueError", .glo "NoCue", .glo "Taken", .glo "TooMany", .glo "NoLamp", .glo "NoLevel", .glo "NoTime", .glo "Scene", .glo "Run", .glo "Cue", .glo "Play", .free "isinstance", .free "int", .free "bool", .free "str", .free "list", .free "dict", .free "tuple", .free "len", .free "all", .free "sorted", .free "range", .free "enumerate", .free "zip", .free "min", .free "max", .free "ValueError", .str "LETTERS" "abcdefghijklmnopqrstuvwxyz", .int "LONGEST" 8, .int "LAST_CUE" 999999, .int "FULL" 100, .int "LONGEST_FADE" 6000, .int "LAST_MOMENT" 1000000000, .int "MOST_CALLS" 20, .glo "DARK", .int "MOST_CUES" 100, .cls "Scene", .noat "Scene" "up", .noat "Scene" "down", .noat "Scene" "lights", .mkr "Scene", .meth "Scene" "goal", .meth "Scene" "length", .meth "Scene" "faded", .cls "Run", .noat "Run" "scenes", .noat "Run" "called", .mkr "Run", .meth "Run" "call", .meth "Run" "calls", .meth "Run" "begun", .meth "Run" "at", .meth "Run" "ended", .cls "Cue", .noat "Cue" "up", .noat "Cue" "down", .noat "Cue" "fresh", .noat "Cue" "words", .mkr "Cue", .cls "Play", .noat "Play" "kept", .mkr "Play", .meth "Play" "sure", .meth "Play" "put", .meth "Play" "numbers", .meth "Play" "cue", .meth "Play" "tell", .meth "Play" "untell", .meth "Play" "look", .meth "Play" "level", .meth "Play" "behind", .meth "Play" "hold", .meth "Play" "only", .meth "Play" "cut", .meth "Play" "lift", .meth "Play" "spare", .meth "Play" "least", .exc "CueError", .exc "NoCue", .exc "Taken", .exc "TooMany", .exc "NoLamp", .exc "NoLevel", .exc "NoTime"]
def loose : List PySem.Str := ([("_wall" : PySem.Str), ("CueError" : PySem.Str), ("NoCue" : PySem.Str), ("Taken" : PySem.Str), ("TooMany" : PySem.Str), ("NoLamp" : PySem.Str), ("NoLevel" : PySem.Str), ("NoTime" : PySem.Str), ("LETTERS" : PySem.Str), ("LONGEST" : PySem.Str), ("LAST_CUE" : PySem.Str), ("FULL" : PySem.Str), ("LONGEST_FADE" : PySem.Str), ("LAST_MOMENT" : PySem.Str), ("is_whole" : PySem.Str), ("is_cue" : PySem.Str), ("is_lamp" : PySem.Str), ("is_level" : PySem.Str), ("is_fade" : PySem.Str), ("is_moment" : PySem.Str), ("MOST_CALLS" : PySem.Str), ("DARK" : PySem.Str), ("divisor" : PySem.Str), ("lowest" : PySem.Str), ("rises" : PySem.Str), ("on_the_way" : PySem.Str), ("Scene" : PySem.Str), ("Run" : PySem.Str), ("MOST_CUES" : PySem.Str), ("need_word" : PySem.Str), ("Cue" : PySem.Str), ("Play" : PySem.Str), ("_law_mixed" : PySem.Str), ("_law_cell" : PySem.Str), ("_law_lamps" : PySem.Str)] : List PySem.Str) ++ ([("_law_numbers" : PySem.Str), ("_law_level" : PySem.Str), ("_law_look" : PySem.Str), ("_law_whole" : PySem.Str), ("_law_same" : PySem.Str), ("_law_cue_right" : PySem.Str), ("_law_stands" : PySem.Str), ("_law_hold" : PySem.Str), ("_law_behind" : PySem.Str), ("_law_put" : PySem.Str), ("_law_only" : PySem.Str), ("_law_lift" : PySem.Str), ("_law_done" : PySem.Str), ("_law_built" : PySem.Str), ("_law_divisor" : PySem.Str), ("_law_lowest" : PySem.Str), ("_law_way" : PySem.Str), ("_law_lights" : PySem.Str), ("_law_at_right" : PySem.Str), ("_law_less" : PySem.Str), ("_law_between" : PySem.Str), ("_law_light" : PySem.Str), ("_law_call_right" : PySem.Str), ("_law_piece" : PySem.Str)] : List PySem.Str)
abbrev R : PySem.W.OpenRow := PySem.W.OpenLaw.row PySem.Challenge.rw_cuehall_k15_whole_runs
def exf : List (PySem.W.Frag → Bool) := [fun K => He.tupB K "DARK" [.int 0, .int 1]]
abbrev hk : PySem.W.Hook := hookX 5 fa fn exf
def ob (s : PySem.W.SharedT) : He.AlD := obsXG 5 fa fn exf (HandSHeadRun.getT s)
theorem ob_eq (s : PySem.W.SharedT) : ob s = hk.obs s.abs := obsXG_eq (HandSHeadRun.getT_eq s)
theorem run (w : World) : HandSHeadRun.RunEq R (PySem.W.view R.prog [64]) hk ob 8000 loose w := by
  intro os
  kernel_rfl
theorem txt_of {K : PySem.W.Frag} {h : Heap} {mg : Str → Option Value} (X : K.In h) (G : h.Ns mainGlobals mg) (cx : SaysX fa fn exf K) : Txt K mg where
  g_is_whole := He.glo_ok X G (cx.c.fact 0 rfl)
  g_is_cue := He.glo_ok X G (cx.c.fact 1 rfl)
  g_is_lamp := He.glo_ok X G (cx.c.fact 2 rfl)
  g_is_level := He.glo_ok X G (cx.c.fact 3 rfl)
  g_is_fade := He.glo_ok X G (cx.c.fact 4 rfl)
  g_is_moment := He.glo_ok X G (cx.c.fact 5 rfl)
  g_divisor := He.glo_ok X G (cx.c.fact 6 rfl)
  g_lowest := He.glo_ok X G (cx.c.fact 7 rfl)
  g_rises := He.glo_ok X G (cx.c.fact 8 rfl)
  g_on_the_way := He.glo_ok X G (cx.c.fact 9 rfl)
  g_need_word := He.glo_ok X G (cx.c.fact 10 rfl)
  g__law_mixed := He.glo_ok X G (cx.c.fact 11 rfl)
  g__law_cell := He.glo_ok X G (cx.c.fact 12 rfl)
  g__law_lamps := He.glo_ok X G (cx.c.fact 13 rfl)
  g__law_numbers := He.glo_ok X G (cx.c.fact 14 rfl)
  g__law_level := He.glo_ok X G (cx.c.fact 15 rfl)
  g__law_look := He.glo_ok X G (cx.c.fact 16 rfl)
  g__law_whole := He.glo_ok X G (cx.c.fact 17 rfl)
  g__law_same := He.glo_ok X G (cx.c.fact 18 rfl)
  g__law_cue_right := He.glo_ok X G (cx.c.fact 19 rfl)
  g__law_stands := He.glo_ok X G (cx.c.fact 20 rfl)
  g__law_hold := He.glo_ok X G (cx.c.fact 21 rfl)
  g__law_behind := He.glo_ok X G (cx.c.fact 22 rfl)
  g__law_put := He.glo_ok X G (cx.c.fact 23 rfl)
  g__law_only := He.glo_ok X G (cx.c.fact 24 rfl)
  g__law_lift := He.glo_ok X G (cx.c.fact 25 rfl)
  g__law_done := He.glo_ok X G (cx.c.fact 26 rfl)
  g__law_built := He.glo_ok X G (cx.c.fact 27 rfl)
  g__law_divisor := He.glo_ok X G (cx.c.fact 28 rfl)
  g__law_lowest := He.glo_ok X G (cx.c.fact 29 rfl)
  g__law_way := He.glo_ok X G (cx.c.fact 30 rfl)
  g__law_lights := He.glo_ok X G (cx.c.fact 31 rfl)
  g__law_at_right := He.glo_ok X G (cx.c.fact 32 rfl)
  g__law_less := He.glo_ok X G (cx.c.fact 33 rfl)
  g__law_between := He.glo_ok X G (cx.c.fact 34 rfl)
  g__law_light := He.glo_ok X G (cx.c.fact 35 rfl)
  g__law_call_right := He.glo_ok X G (cx.c.fact 36 rfl)
  g__law_piece := He.glo_ok X G (cx.c.fact 37 rfl)
  g_law := He.glo_ok X G (cx.c.fact 38 rfl)
  g_CueError := He.glo_ok X G (cx.c.fact 39 rfl)
  g_NoCue := He.glo_ok X G (cx.c.fact 40 rfl)
  g_Taken := He.glo_ok X G (cx.c.fact 41 rfl)
  g_TooMany := He.glo_ok X G (cx.c.fact 42 rfl)
  g_NoLamp := He.glo_ok X G (cx.c.fact 43 rfl)
  g_NoLevel := He.glo_ok X G (cx.c.fact 44 rfl)
  g_NoTime := He.glo_ok X G (cx.c.fact 45 rfl)
  g_Scene := He.glo_ok X G (cx.c.fact 46 rfl)
  g_Run := He.glo_ok X G (cx.c.fact 47 rfl)
  g_Cue := He.glo_ok X G (cx.c.fact 48 rfl)
  g_Play := He.glo_ok X G (cx.c.fact 49 rfl)
  z_isinstance := He.free_ok X G (cx.c.fact 50 rfl)
  z_int := He.free_ok X G (cx.c.fact 51 rfl)
  z_bool := He.free_ok X G (cx.c.fact 52 rfl)
  z_str := He.free_ok X G (cx.c.fact 53 rfl)
  z_list := He.free_ok X G (cx.c.fact 54 rfl)
  z_dict := He.free_ok X G (cx.c.fact 55 rfl)
  z_tuple := He.free_ok X G (cx.c.fact 56 rfl)
  z_len := He.free_ok X G (cx.c.fact 57 rfl)
  z_all := He.free_ok X G (cx.c.fact 58 rfl)
  z_sorted := He.free_ok X G (cx.c.fact 59 rfl)
  z_range := He.free_ok X G (cx.c.fact 60 rfl)
  z_enumerate := He.free_ok X G (cx.c.fact 61 rfl)
  z_zip := He.free_ok X G (cx.c.fact 62 rfl)
  z_min := He.free_ok X G (cx.c.fact 63 rfl)
  z_max := He.free_ok X G (cx.c.fact 64 rfl)
  z_ValueError := He.free_ok X G (cx.c.fact 65 rfl)
  g_LETTERS := He.str_ok X G (cx.c.fact 66 rfl)
  g_LONGEST := He.int_ok X G (cx.c.fact 67 rfl)
  g_LAST_CUE := He.int_ok X G (cx.c.fact 68 rfl)
  g_FULL := He.int_ok X G (cx.c.fact 69 rfl)
  g_LONGEST_FADE := He.int_ok X G (cx.c.fact 70 rfl)
  g_LAST_MOMENT := He.int_ok X G (cx.c.fact 71 rfl)
  g_MOST_CALLS := He.int_ok X G (cx.c.fact 72 rfl)
  g_DARK := He.glo_ok X G (cx.c.fact 73 rfl)
  g_MOST_CUES := He.int_ok X G (cx.c.fact 74 rfl)
  c_Scene := He.cls_ok (cx.c.fact 75 rfl)
  n_Scene_up := He.noat_ok (cx.c.fact 76 rfl)
  n_Scene_down := He.noat_ok (cx.c.fact 77 rfl)
  n_Scene_lights := He.noat_ok (cx.c.fact 78 rfl)
  k_Scene := He.mkr_ok (cx.c.fact 79 rfl)
  m_Scene_goal := He.meth_ok (cx.c.fact 80 rfl)
  m_Scene_length := He.meth_ok (cx.c.fact 81 rfl)
  m_Scene_faded := He.meth_ok (cx.c.fact 82 rfl)
  c_Run := He.cls_ok (cx.c.fact 83 rfl)
  n_Run_scenes := He.noat_ok (cx.c.fact 84 rfl)
  n_Run_called := He.noat_ok (cx.c.fact 85 rfl)
  k_Run := He.mkr_ok (cx.c.fact 86 rfl)
  m_Run_call := He.meth_ok (cx.c.fact 87 rfl)
  m_Run_calls := He.meth_ok (cx.c.fact 88 rfl)
  m_Run_begun := He.meth_ok (cx.c.fact 89 rfl)
  m_Run_at := He.meth_ok (cx.c.fact 90 rfl)
  m_Run_ended := He.meth_ok (cx.c.fact 91 rfl)
  c_Cue := He.cls_ok (cx.c.fact 92 rfl)
  n_Cue_up := He.noat_ok (cx.c.fact 93 rfl)
  n_Cue_down := He.noat_ok (cx.c.fact 94 rfl)
  n_Cue_fresh := He.noat_ok (cx.c.fact 95 rfl)
  n_Cue_words := He.noat_ok (cx.c.fact 96 rfl)
  k_Cue := He.mkr_ok (cx.c.fact 97 rfl)
  c_Play := He.cls_ok (cx.c.fact 98 rfl)
  n_Play_kept := He.noat_ok (cx.c.fact 99 rfl)
  k_Play := He.mkr_ok (cx.c.fact 100 rfl)
  m_Play_sure := He.meth_ok (cx.c.fact 101 rfl)
  m_Play_put := He.meth_ok (cx.c.fact 102 rfl)
  m_Play_numbers := He.meth_ok (cx.c.fact 103 rfl)
  m_Play_cue := He.meth_ok (cx.c.fact 104 rfl)
  m_Play_tell := He.meth_ok (cx.c.fact 105 rfl)
  m_Play_untell := He.meth_ok (cx.c.fact 106 rfl)
  m_Play_look := He.meth_ok (cx.c.fact 107 rfl)
  m_Play_level := He.meth_ok (cx.c.fact 108 rfl)
  m_Play_behind := He.meth_ok (cx.c.fact 109 rfl)
  m_Play_hold := He.meth_ok (cx.c.fact 110 rfl)
  m_Play_only := He.meth_ok (cx.c.fact 111 rfl)
  m_Play_cut := He.meth_ok (cx.c.fact 112 rfl)
  m_Play_lift := He.meth_ok (cx.c.fact 113 rfl)
  m_Play_spare := He.meth_ok (cx.c.fact 114 rfl)
  m_Play_least := He.meth_ok (cx.c.fact 115 rfl)
  x_CueError := He.exc_ok (cx.c.fact 116 rfl)
  x_NoCue := He.exc_ok (cx.c.fact 117 rfl)
  x_Taken := He.exc_ok (cx.c.fact 118 rfl)
  x_TooMany := He.exc_ok (cx.c.fact 119 rfl)
  x_NoLamp := He.exc_ok (cx.c.fact 120 rfl)
  x_NoLevel := He.exc_ok (cx.c.fact 121 rfl)
  x_NoTime := He.exc_ok (cx.c.fact 122 rfl)
  t_DARK := He.tupB_ok (cx.x _ (List.mem_of_getElem? (i := 0) rfl))
  d_is_whole := cx.c.def_ 0 (d := D_is_whole) rfl
  d_is_cue := cx.c.def_ 1 (d := D_is_cue) rfl
  d_is_lamp := cx.c.def_ 2 (d := D_is_lamp) rfl
  d_is_level := cx.c.def_ 3 (d := D_is_level) rfl
  d_is_fade := cx.c.def_ 4 (d := D_is_fade) rfl
  d_is_moment := cx.c.def_ 5 (d := D_is_moment) rfl
  d_divisor := cx.c.def_ 6 (d := D_divisor) rfl
  d_lowest := cx.c.def_ 7 (d := D_lowest) rfl
  d_rises := cx.c.def_ 8 (d := D_rises) rfl
  d_on_the_way := cx.c.def_ 9 (d := D_on_the_way) rfl
  d_need_word := cx.c.def_ 10 (d := D_need_word) rfl
  d__law_mixed := cx.c.def_ 11 (d := D__law_mixed) rfl
  d__law_cell := cx.c.def_ 12 (d := D__law_cell) rfl
  d__law_lamps := cx.c.def_ 13 (d := D__law_lamps) rfl
  d__law_numbers := cx.c.def_ 14 (d := D__law_numbers) rfl
  d__law_level := cx.c.def_ 15 (d := D__law_level) rfl
  d__law_look := cx.c.def_ 16 (d := D__law_look) rfl
  d__law_whole := cx.c.def_ 17 (d := D__law_whole) rfl
  d__law_same := cx.c.def_ 18 (d := D__law_same) rfl
  d__law_cue_right := cx.c.def_ 19 (d := D__law_cue_right) rfl
  d__law_stands := cx.c.def_ 20 (d := D__law_stands) rfl
  d__law_hold := cx.c.def_ 21 (d := D__law_hold) rfl
  d__law_behind := cx.c.def_ 22 (d := D__law_behind) rfl
  d__law_put := cx.c.def_ 23 (d := D__law_put) rfl
  d__law_only := cx.c.def_ 24 (d := D__law_only) rfl
  d__law_lift := cx.c.def_ 25 (d := D__law_lift) rfl
  d__law_done := cx.c.def_ 26 (d := D__law_done) rfl
  d__law_built := cx.c.def_ 27 (d := D__law_built) rfl
  d__law_divisor := cx.c.def_ 28 (d := D__law_divisor) rfl
  d__law_lowest := cx.c.def_ 29 (d := D__law_lowest) rfl
  d__law_way := cx.c.def_ 30 (d := D__law_way) rfl
  d__law_lights := cx.c.def_ 31 (d := D__law_lights) rfl
  d__law_at_right := cx.c.def_ 32 (d := D__law_at_right) rfl
  d__law_less := cx.c.def_ 33 (d := D__law_less) rfl
  d__law_between := cx.c.def_ 34 (d := D__law_between) rfl
  d__law_light := cx.c.def_ 35 (d := D__law_light) rfl
  d__law_call_right := cx.c.def_ 36 (d := D__law_call_right) rfl
  d__law_piece := cx.c.def_ 37 (d := D__law_piece) rfl
  d_law := cx.c.def_ 38 (d := D_law) rfl
  d_Scene___init__ := cx.c.def_ 39 (d := D_Scene___init__) rfl
  d_Scene_goal := cx.c.def_ 40 (d := D_Scene_goal) rfl
  d_Scene_length := cx.c.def_ 41 (d := D_Scene_length) rfl
  d_Scene_faded := cx.c.def_ 42 (d := D_Scene_faded) rfl
  d_Run___init__ := cx.c.def_ 43 (d := D_Run___init__) rfl
  d_Run_call := cx.c.def_ 44 (d := D_Run_call) rfl
  d_Run_calls := cx.c.def_ 45 (d := D_Run_calls) rfl
  d_Run_begun := cx.c.def_ 46 (d := D_Run_begun) rfl
  d_Run_at := cx.c.def_ 47 (d := D_Run_at) rfl
  d_Run_ended := cx.c.def_ 48 (d := D_Run_ended) rfl
  d_Cue___init__ := cx.c.def_ 49 (d := D_Cue___init__) rfl
  d_Play___init__ := cx.c.def_ 50 (d := D_Play___init__) rfl
  d_Play_sure := cx.c.def_ 51 (d := D_Play_sure) rfl
  d_Play_put := cx.c.def_ 52 (d := D_Play_put) rfl
  d_Play_numbers := cx.c.def_ 53 (d := D_Play_numbers) rfl
  d_Play_cue := cx.c.def_ 54 (d := D_Play_cue) rfl
  d_Play_tell := cx.c.def_ 55 (d := D_Play_tell) rfl
  d_Play_untell := cx.c.def_ 56 (d := D_Play_untell) rfl
  d_Play_look := cx.c.def_ 57 (d := D_Play_look) rfl
  d_Play_level := cx.c.def_ 58 (d := D_Play_level) rfl
  d_Play_behind := cx.c.def_ 59 (d := D_Play_behind) rfl
  d_Play_hold := cx.c.def_ 60 (d := D_Play_hold) rfl
  d_Play_only := cx.c.def_ 61 (d := D_Play_only) rfl
  d_Play_cut := cx.c.def_ 62 (d := D_Play_cut) rfl
  d_Play_lift := cx.c.def_ 63 (d := D_Play_lift) rfl
  d_Play_spare := cx.c.def_ 64 (d := D_Play_spare) rfl
  d_Play_least := cx.c.def_ 65 (d := D_Play_least) rfl
/-! ## what names, numbers are -/
/-- a whole number (no truth) within two bounds -/
def wholeV (lo hi : Int) : V → Bool
  | .int i => decide (lo ≤ i) && decide (i ≤ hi)
  | _ => false
def letter (c : Nat) : Bool := decide (97 ≤ c) && decide (c ≤ 122)
/-- a lamp's name -/
def lampS (z : Str) : Bool := decide (1 ≤ z.length) && decide (z.length ≤ 8) && z.cps.toList.all letter
def lampV : V → Bool
  | .str z => lampS z
  | _ => false

/-! ## The mathematics of plays: sorted tables -/
/-! ### an order, tables sorted by it -/
structure Lin {κ : Type} (lt : κ → κ → Prop) : Prop where
  irr : ∀ a, ¬ lt a a
  tr : ∀ a b c, lt a b → lt b c → lt a c
  tri : ∀ a b, a ≠ b → lt a b ∨ lt b a
theorem linI : Lin (fun a b : Int => a < b) := ⟨fun a h => by omega, fun a b c h h' => by omega, fun a b h => by omega⟩
theorem ltCps_irr : ∀ a, ltCps a a = false
  | [] => rfl
  | x :: r => by simp [ltCps, ltCps_irr r]
theorem ltCps_tr : ∀ a b c, ltCps a b = true → ltCps b c = true → ltCps a c = true
  | [], [], _, h, _ => by simp [ltCps] at h
  | [], _ :: _, [], _, h => by simp [ltCps] at h
  | [], _ :: _, _ :: _, _, _ => rfl
  | _ :: _, [], _, h, _ => by simp [ltCps] at h
  | _ :: _, _ :: _, [], _, h => by simp [ltCps] at h
  | x :: a, y :: b, z :: c, h, h' => by
    simp only [ltCps, Bool.or_eq_true, decide_eq_true_eq, Bool.and_eq_true, beq_iff_eq] at *
    rcases h with h | ⟨rfl, h⟩
    · rcases h' with h' | ⟨rfl, h'⟩
      · exact .inl (by omega)
      · exact .inl h
    · rcases h' with h' | ⟨rfl, h'⟩
      · exact .inl h'
      · exact .inr ⟨rfl, ltCps_tr a b c h h'⟩
theorem ltCps_tri : ∀ a b, a ≠ b → ltCps a b = true ∨ ltCps b a = true
  | [], [], h => absurd rfl h
  | [], _ :: _, _ => .inl rfl
  | _ :: _, [], _ => .inr rfl
  | x :: a, y :: b, h => by
    simp only [ltCps, Bool.or_eq_true, decide_eq_true_eq, Bool.and_eq_true, beq_iff_eq]
    rcases Nat.lt_trichotomy x y with k | rfl | k
    · exact .inl (.inl k)
    · rcases ltCps_tri a b (fun e => h (by rw [e])) with k | k
      · exact .inl (.inr ⟨rfl, k⟩)
      · exact .inr (.inr ⟨rfl, k⟩)
    · exact .inr (.inl k)
/-- the alphabet -/
def ltS (a b : Str) : Prop := ltCps a.cps.toList b.cps.toList = true
instance (a b : Str) : Decidable (ltS a b) := inferInstanceAs (Decidable (_ = true))
theorem linS : Lin ltS := ⟨fun a h => by simp [ltS, ltCps_irr] at h, fun a b c => ltCps_tr _ _ _, fun a b h => ltCps_tri _ _ fun e => h (ext_toList e)⟩
section
variable {κ α : Type} [DecidableEq κ] {lt : κ → κ → Prop} [DecidableRel lt]
theorem Lin.asym (L : Lin lt) {a b : κ} (h : lt a b) : ¬ lt b a := fun h' => L.irr a (L.tr _ _ _ h h')
/-- two rising lists with the same members are one -/
theorem rising_eq (L : Lin lt) : ∀ {l l' : List κ}, l.Pairwise lt → l'.Pairwise lt → (∀ x, x ∈ l ↔ x ∈ l') → l = l'
  | [], [], _, _, _ => rfl
  | [], y :: r, _, _, h => absurd ((h y).mpr List.mem_cons_self) (by simp)
  | x :: r, [], _, _, h => absurd ((h x).mp List.mem_cons_self) (by simp)
  | x :: r, y :: t, h1, h2, h => by
    obtain ⟨a1, b1⟩ := List.pairwise_cons.mp h1
    obtain ⟨a2, b2⟩ := List.pairwise_cons.mp h2
    have e : x = y := by
      rcases List.mem_cons.mp ((h x).mp List.mem_cons_self) with e | hx
      · exact e
      · rcases List.mem_cons.mp ((h y).mpr List.mem_cons_self) with e | hy
        · exact e.symm
        · exact absurd (a2 x hx) (L.asym (a1 y hy))
    subst e
    rw [rising_eq L b1 b2 fun z => ?_]
    constructor
    · intro hz
      rcases List.mem_cons.mp ((h z).mp (List.mem_cons_of_mem _ hz)) with e | k
      · subst e; exact absurd (a1 _ hz) (L.irr _)
      · exact k
    · intro hz
      rcases List.mem_cons.mp ((h z).mpr (List.mem_cons_of_mem _ hz)) with e | k
      · subst e; exact absurd (a2 _ hz) (L.irr _)
      · exact k
theorem rising_nodup (L : Lin lt) {l : List κ} (h : l.Pairwise lt) : l.Nodup := h.imp fun {a b} k e => by subst e; exact L.irr _ k
/-- what a table holds at a key -/
def get : List (κ × α) → κ → Option α
  | [], _ => none
  | (a, v) :: r, k => if a = k then some v else get r k
/-- a pair put in its place -/
def put (lt : κ → κ → Prop) [DecidableRel lt] (k : κ) (v : α) : List (κ × α) → List (κ × α)
  | [] => [(k, v)]
  | (a, x) :: r => if a = k then (k, v) :: r else if lt k a then (k, v) :: (a, x) :: r else (a, x) :: put lt k v r
def del (k : κ) (l : List (κ × α)) : List (κ × α) := l.filter fun e => decide (e.1 ≠ k)
abbrev Rising (lt : κ → κ → Prop) (l : List (κ × α)) : Prop := (l.map (·.1)).Pairwise lt
theorem get_mem : ∀ {l : List (κ × α)} {k : κ} {v : α}, get l k = some v → (k, v) ∈ l
  | (a, x) :: r, k, v, h => by
    unfold get at h
    by_cases e : a = k
    · rw [if_pos e] at h
      cases h; subst e
      exact List.mem_cons_self
    · rw [if_neg e] at h
      exact List.mem_cons_of_mem _ (get_mem h)
theorem get_none_iff : ∀ {l : List (κ × α)} {k : κ}, get l k = none ↔ k ∉ l.map (·.1)
  | [], k => by simp [get]
  | (a, x) :: r, k => by
    unfold get
    by_cases e : a = k
    · simp [e]
    · rw [if_neg e, get_none_iff, List.map_cons, List.mem_cons, not_or]
      exact ⟨fun h => ⟨fun z => e z.symm, h⟩, fun h => h.2⟩
theorem get_some_iff {l : List (κ × α)} {k : κ} : (∃ v, get l k = some v) ↔ k ∈ l.map (·.1) := by
  cases h : get l k with
  | none => simp [get_none_iff.mp h]
  | some v => simp only [Option.some.injEq, exists_eq', true_iff]; exact List.mem_map.mpr ⟨_, get_mem h, rfl⟩
theorem get_of_mem : ∀ {l : List (κ × α)} {k : κ} {v : α}, (l.map (·.1)).Nodup → (k, v) ∈ l → get l k = some v
  | (a, x) :: r, k, v, hn, h => by
    obtain ⟨h1, h2⟩ := List.nodup_cons.mp hn
    unfold get
    rcases List.mem_cons.mp h with e | h
    · cases e; rw [if_pos rfl]
    · rw [if_neg, get_of_mem h2 h]
      rintro rfl
      exact h1 (List.mem_map.mpr ⟨_, h, rfl⟩)
theorem get_put (k : κ) (v : α) : ∀ (l : List (κ × α)) (j : κ), get (put lt k v l) j = if j = k then some v else get l j
  | [], j => by
    unfold put get
    by_cases e : j = k
    · rw [if_pos e.symm, if_pos e]
    · rw [if_neg fun z => e z.symm, if_neg e]; rfl
  | (a, x) :: r, j => by
    unfold put
    by_cases e : a = k
    · rw [if_pos e]
      subst e
      unfold get
      by_cases z : a = j
      · rw [if_pos z, if_pos z.symm]
      · rw [if_neg z, if_neg fun y => z y.symm, if_neg z]
    · rw [if_neg e]
      by_cases h : lt k a
      · rw [if_pos h]
        by_cases z : k = j
        · rw [get, if_pos z, if_pos z.symm]
        · rw [get, if_neg z, if_neg fun y => z y.symm]
      · rw [if_neg h, get]
        by_cases z : a = j
        · rw [if_pos z, if_neg (fun y => e (z.trans y)), get, if_pos z]
        · rw [if_neg z, get_put k v r j, get, if_neg z]
theorem keys_put (k : κ) (v : α) : ∀ (l : List (κ × α)) (j : κ), j ∈ (put lt k v l).map (·.1) ↔ j = k ∨ j ∈ l.map (·.1) := by
  intro l j
  rw [← get_some_iff, get_put, ← get_some_iff]
  by_cases e : j = k <;> simp [e]
theorem rising_put (L : Lin lt) (k : κ) (v : α) : ∀ {l : List (κ × α)}, Rising lt l → Rising lt (put lt k v l)
  | [], _ => List.pairwise_singleton _ _
  | (a, x) :: r, h => by
    obtain ⟨h1, h2⟩ := List.pairwise_cons.mp h
    unfold put
    by_cases e : a = k
    · subst e; rw [if_pos rfl]; exact h
    · rw [if_neg e]
      by_cases z : lt k a
      · rw [if_pos z]
        refine List.pairwise_cons.mpr ⟨fun b hb => ?_, h⟩
        rcases List.mem_cons.mp hb with rfl | hb
        · exact z
        · exact L.tr _ _ _ z (h1 b hb)
      · rw [if_neg z]
        refine List.pairwise_cons.mpr ⟨fun b hb => ?_, rising_put L k v h2⟩
        rcases (keys_put k v r b).mp hb with rfl | hb
        · rcases L.tri a b e with q | q
          · exact q
          · exact absurd q z
        · exact h1 b hb
theorem get_del (k : κ) : ∀ (l : List (κ × α)) (j : κ), get (del k l) j = if j = k then none else get l j
  | [], j => by simp [del, get]
  | (a, x) :: r, j => by
    have ih := get_del k r j
    unfold del at ih ⊢
    by_cases e : a = k
    · rw [List.filter_cons_of_neg (by simp [e]), ih]
      by_cases z : j = k
      · rw [if_pos z, if_pos z]
      · rw [if_neg z, if_neg z, get, if_neg (fun y => z (y.symm.trans e))]
    · rw [List.filter_cons_of_pos (by simp [e]), get, get, ih]
      by_cases z : a = j
      · rw [if_pos z, if_pos z, if_neg (fun y => e (z.trans y))]
      · rw [if_neg z, if_neg z]
theorem rising_del {k : κ} {l : List (κ × α)} (h : Rising lt l) : Rising lt (del k l) := h.sublist (List.Sublist.map _ List.filter_sublist)
theorem table_ext (L : Lin lt) {l l' : List (κ × α)} (h : Rising lt l) (h' : Rising lt l') (e : ∀ k, get l k = get l' k) : l = l' := by
  have hk : l.map (·.1) = l'.map (·.1) := rising_eq L h h' fun x => by rw [← get_some_iff, ← get_some_iff, e]
  clear h'
  induction l generalizing l' with
  | nil =>
    cases l' with
    | nil => rfl
    | cons y t => simp at hk
  | cons x r ih =>
    cases l' with
    | nil => simp at hk
    | cons y t =>
      obtain ⟨hxy, hrt⟩ := List.cons.inj hk
      have hxy : x.1 = y.1 := hxy
      obtain ⟨h1, h2⟩ := List.pairwise_cons.mp h
      have e1 := e x.1
      rw [get, if_pos rfl, get, if_pos hxy.symm] at e1
      have exy : x = y := Prod.ext hxy (Option.some.inj e1)
      rw [exy, ih h2 (fun k => ?_) hrt]
      by_cases z : x.1 = k
      · subst z
        have n1 : get r x.1 = none := get_none_iff.mpr fun hm => L.irr _ (h1 _ hm)
        have n2 : get t x.1 = none := get_none_iff.mpr fun hm => L.irr _ (h1 _ (by rw [hrt]; exact hm))
        rw [n1, n2]
      · have := e k
        rwa [get, if_neg z, get, if_neg (by rw [← hxy]; exact z)] at this
theorem get_filter (p : α → Bool) : ∀ {l : List (κ × α)}, (l.map (·.1)).Nodup → ∀ k, get (l.filter fun e => p e.2) k = (get l k).filter p
  | [], _, k => rfl
  | (a, x) :: r, hn, k => by
    obtain ⟨h1, h2⟩ := List.nodup_cons.mp hn
    have ih := get_filter p h2 k
    by_cases hp : p x = true
    · rw [List.filter_cons_of_pos (by exact hp), get, get, ih]
      by_cases z : a = k
      · rw [if_pos z, if_pos z, Option.filter_some, if_pos hp]
      · rw [if_neg z, if_neg z]
    · rw [List.filter_cons_of_neg (by exact hp), ih, get]
      by_cases z : a = k
      · subst z
        rw [if_pos rfl, get_none_iff.mpr h1, Option.filter_some, if_neg hp]; rfl
      · rw [if_neg z]
end
/-- a list without doubles within another one is no longer -/
theorem nodup_le {κ : Type} [DecidableEq κ] : ∀ {l u : List κ}, l.Nodup → (∀ x ∈ l, x ∈ u) → l.length ≤ u.length
  | [], _, _, _ => Nat.zero_le _
  | x :: r, u, h, hs => by
    obtain ⟨h1, h2⟩ := List.nodup_cons.mp h
    have ih := nodup_le (u := u.erase x) h2 fun y hy => by
      refine (List.mem_erase_of_ne fun (e : y = x) => h1 (e ▸ hy)).mpr (hs y (List.mem_cons_of_mem _ hy))
    have hx := hs x List.mem_cons_self
    rw [List.length_erase_of_mem hx] at ih
    have : 0 < u.length := List.length_pos_of_mem hx
    rw [List.length_cons]; omega
theorem sortedS_rising : ∀ {l : List Str}, sortedS l = true → l.Nodup → l.Pairwise ltS := by
  have aux : ∀ (l : List Str) (p : Str), risingS p l = true → (p :: l).Nodup → (p :: l).Pairwise ltS := by
    intro l
    induction l with
    | nil => intro p _ _; simp
    | cons x r ih =>
      intro p h hn
      obtain ⟨h1, h2⟩ := Bool.and_eq_true_iff.mp (show (!ltCps x.cps.toList p.cps.toList && risingS x r) = true from h)
      obtain ⟨n1, n2⟩ := List.nodup_cons.mp hn
      have ihx := ih x h2 n2
      have px : ltS p x := by
        rcases linS.tri p x (fun e => n1 (e ▸ List.mem_cons_self)) with q | q
        · exact q
        · have : ltCps x.cps.toList p.cps.toList = true := q
          rw [this] at h1; simp at h1
      refine List.pairwise_cons.mpr ⟨fun y hy => ?_, ihx⟩
      rcases List.mem_cons.mp hy with rfl | hy
      · exact px
      · exact linS.tr _ _ _ px ((List.pairwise_cons.mp ihx).1 y hy)
  intro l h hn
  cases l with
  | nil => exact .nil
  | cons x r => exact aux r x h hn
theorem le_rising {l : List Int} (h : l.Pairwise (· ≤ ·)) (hn : l.Nodup) : l.Pairwise (fun a b => a < b) := by
  have := h.and hn
  exact this.imp fun ⟨a, b⟩ => by omega

/-! ### plays -/
abbrev Ws := List (Str × Int)
structure CueC where
  up : Int
  down : Int
  fresh : Bool
  words : Ws
abbrev Book := List (Int × CueC)
abbrev ltI (a b : Int) : Prop := a < b
/-- all words of more, over acc -/
def over (acc more : Ws) : Ws := more.foldl (fun a w => put ltS w.1 w.2 a) acc
def stepW (acc : Ws) (c : CueC) : Ws := over (if c.fresh then [] else acc) c.words
/-- all levels told behind the cues of a play -/
def lookW (M : Book) : Ws := M.foldl (fun a e => stepW a e.2) []
def upto (M : Book) (n : Int) : Book := M.filter fun e => decide (e.1 ≤ n)
def lev (M : Book) (n : Int) (l : Str) : Int := (get (lookW (upto M n)) l).getD 0
def look (M : Book) (n : Int) : Ws := (lookW (upto M n)).filter fun e => decide (0 < e.2)
/-- the level by a walk back -/
def levR (l : Str) : Book → Int
  | [] => 0
  | e :: r => match get e.2.words l with
    | some v => v
    | none => if e.2.fresh then 0 else levR l r
theorem get_over (l : Str) : ∀ (more acc : Ws), (more.map (·.1)).Nodup → get (over acc more) l = (match get more l with | some v => some v | none => get acc l)
  | [], acc, _ => rfl
  | (a, v) :: r, acc, h => by
    obtain ⟨h1, h2⟩ := List.nodup_cons.mp h
    show get (over (put ltS a v acc) r) l = _
    rw [get_over l r _ h2, get_put, get]
    by_cases e : a = l
    · subst e
      rw [if_pos rfl, get_none_iff.mpr h1]
      simp
    · rw [if_neg e, if_neg fun z => e z.symm]
theorem rising_over : ∀ (more acc : Ws), Rising ltS acc → Rising ltS (over acc more)
  | [], _, h => h
  | (a, v) :: r, acc, h => rising_over r _ (rising_put linS a v h)
theorem keys_over (l : Str) (more acc : Ws) (hn : (more.map (·.1)).Nodup) : l ∈ (over acc more).map (·.1) ↔ l ∈ more.map (·.1) ∨ l ∈ acc.map (·.1) := by
  rw [← get_some_iff, get_over l more acc hn, ← get_some_iff, ← get_some_iff]
  cases get more l <;> simp
/-- a play as it should be: U bounds the lamps -/
structure Good (U : List Str) (M : Book) : Prop where
  srt : Rising ltI M
  wsrt : ∀ e ∈ M, Rising ltS e.2.words
  num : ∀ e ∈ M, 1 ≤ e.1 ∧ e.1 ≤ 999999
  wrd : ∀ e ∈ M, ∀ w ∈ e.2.words, w.1 ∈ U ∧ 0 ≤ w.2 ∧ w.2 ≤ 100
  fad : ∀ e ∈ M, 0 ≤ e.2.up ∧ e.2.up ≤ 6000 ∧ 0 ≤ e.2.down ∧ e.2.down ≤ 6000
  len : M.length ≤ 1000
/-- the lamps of a play: few, good names -/
structure Lamps (U : List Str) : Prop where
  few : U.length ≤ 60
  ok : ∀ l ∈ U, lampS l = true
theorem Good.sub {U : List Str} {M M' : Book} (g : Good U M) (h : M'.Sublist M) : Good U M' :=
  ⟨g.srt.sublist (h.map _), fun e he => g.wsrt e (h.subset he), fun e he => g.num e (h.subset he), fun e he => g.wrd e (h.subset he), fun e he => g.fad e (h.subset he), Nat.le_trans h.length_le g.len⟩
theorem Good.nodup {U : List Str} {M : Book} (g : Good U M) : (M.map (·.1)).Nodup := rising_nodup linI g.srt
theorem Good.wnd {U : List Str} {M : Book} (g : Good U M) {e : Int × CueC} (he : e ∈ M) : (e.2.words.map (·.1)).Nodup := rising_nodup linS (g.wsrt e he)
theorem Good.at {U : List Str} {M : Book} (g : Good U M) {n : Int} {c : CueC} (h : get M n = some c) : (n, c) ∈ M := get_mem h
theorem Good.few {U : List Str} {M : Book} (g : Good U M) (u : Lamps U) {e : Int × CueC} (he : e ∈ M) : e.2.words.length ≤ 60 := by
  have := nodup_le (g.wnd he) (u := U) fun x hx => by
    obtain ⟨w, hw, rfl⟩ := List.mem_map.mp hx
    exact (g.wrd e he w hw).1
  rw [List.length_map] at this
  exact Nat.le_trans this u.few
theorem rising_stepW {acc : Ws} {c : CueC} (h : Rising ltS acc) : Rising ltS (stepW acc c) := by
  unfold stepW
  refine rising_over _ _ ?_
  by_cases e : c.fresh = true
  · rw [if_pos e]; exact .nil
  · rw [if_neg e]; exact h
theorem rising_lookW (M : Book) : Rising ltS (lookW M) := by
  suffices ∀ (M : Book) (a : Ws), Rising ltS a → Rising ltS (M.foldl (fun a e => stepW a e.2) a) from this M [] .nil
  intro M
  induction M with
  | nil => exact fun a h => h
  | cons e r ih => exact fun a h => ih _ (rising_stepW h)
theorem get_stepW {acc : Ws} {c : CueC} (hn : (c.words.map (·.1)).Nodup) (l : Str) : get (stepW acc c) l = (match get c.words l with | some v => some v | none => if c.fresh then none else get acc l) := by
  unfold stepW
  rw [get_over l _ _ hn]
  cases get c.words l with
  | some v => rfl
  | none =>
    by_cases e : c.fresh = true
    · simp only [if_pos e]; rfl
    · simp only [if_neg e]
/-- the level told last, by a walk back -/
theorem lookW_levR (l : Str) (M : Book) (hn : ∀ e ∈ M, (e.2.words.map (·.1)).Nodup) : (get (lookW M) l).getD 0 = levR l M.reverse := by
  have aux : ∀ R : Book, (∀ e ∈ R, (e.2.words.map (·.1)).Nodup) → (get (lookW R.reverse) l).getD 0 = levR l R := by
    intro R
    induction R with
    | nil => exact fun _ => rfl
    | cons e r ih =>
      intro h
      have e1 : lookW (e :: r).reverse = stepW (lookW r.reverse) e.2 := by
        unfold lookW
        rw [List.reverse_cons, List.foldl_append]
        rfl
      rw [e1, get_stepW (h e List.mem_cons_self), levR]
      cases get e.2.words l with
      | some v => rfl
      | none =>
        by_cases z : e.2.fresh = true
        · simp only [if_pos z]; rfl
        · simp only [if_neg z]; exact ih fun x hx => h x (List.mem_cons_of_mem _ hx)
  have := aux M.reverse fun e he => hn e (List.mem_reverse.mp he)
  rwa [List.reverse_reverse] at this
theorem lookW_val {U : List Str} {M : Book} (g : Good U M) : ∀ w ∈ lookW M, w.1 ∈ U ∧ 0 ≤ w.2 ∧ w.2 ≤ 100 := by
  have key : ∀ (M : Book) (a : Ws), (∀ e ∈ M, (e.2.words.map (·.1)).Nodup ∧ ∀ w ∈ e.2.words, w.1 ∈ U ∧ 0 ≤ w.2 ∧ w.2 ≤ 100) → (∀ l v, get a l = some v → l ∈ U ∧ 0 ≤ v ∧ v ≤ 100) →
      ∀ l v, get (M.foldl (fun a e => stepW a e.2) a) l = some v → l ∈ U ∧ 0 ≤ v ∧ v ≤ 100 := by
    intro M
    induction M with
    | nil => exact fun a _ h => h
    | cons e r ih =>
      intro a h ha
      refine ih (stepW a e.2) (fun x hx => h x (List.mem_cons_of_mem _ hx)) fun l v hv => ?_
      obtain ⟨h1, h2⟩ := h e List.mem_cons_self
      rw [get_stepW h1] at hv
      cases z : get e.2.words l with
      | some y =>
        rw [z] at hv
        cases hv
        exact h2 _ (get_mem z)
      | none =>
        rw [z] at hv
        by_cases f : e.2.fresh = true
        · simp only [if_pos f] at hv; cases hv
        · simp only [if_neg f] at hv; exact ha l v hv
  intro w hw
  exact key M [] (fun e he => ⟨g.wnd he, g.wrd e he⟩) (fun l v h => by cases h) w.1 w.2 (get_of_mem (rising_nodup linS (rising_lookW M)) hw)
theorem lookW_few {U : List Str} {M : Book} (g : Good U M) (u : Lamps U) : (lookW M).length ≤ 60 := by
  have := nodup_le (rising_nodup linS (rising_lookW M)) (u := U) fun x hx => by
    obtain ⟨w, hw, rfl⟩ := List.mem_map.mp hx
    exact (lookW_val g w hw).1
  rw [List.length_map] at this
  exact Nat.le_trans this u.few
theorem Good.upto {U : List Str} {M : Book} (g : Good U M) (n : Int) : Good U (upto M n) := g.sub List.filter_sublist
theorem look_rising (M : Book) (n : Int) : Rising ltS (look M n) := (rising_lookW _).sublist (List.filter_sublist.map _)
theorem get_look (M : Book) (n : Int) (l : Str) : get (look M n) l = (get (lookW (upto M n)) l).filter fun v => decide (0 < v) :=
  get_filter (fun v => decide (0 < v)) (rising_nodup linS (rising_lookW _)) l
theorem lev_range {U : List Str} {M : Book} (g : Good U M) (n : Int) (l : Str) : 0 ≤ lev M n l ∧ lev M n l ≤ 100 := by
  unfold lev
  cases h : get (lookW (upto M n)) l with
  | none => exact ⟨by decide, by decide⟩
  | some v => exact (lookW_val (g.upto n) _ (get_mem h)).2
/-- the level that the look tells -/
theorem look_lev {U : List Str} {M : Book} (g : Good U M) (n : Int) (l : Str) : (get (look M n) l).getD 0 = lev M n l := by
  rw [get_look]
  unfold lev
  cases h : get (lookW (upto M n)) l with
  | none => rfl
  | some v =>
    have := (lookW_val (g.upto n) _ (get_mem h)).2.1
    by_cases z : 0 < v
    · simp [Option.filter, z]
    · have e : v = 0 := by omega
      simp [Option.filter, e]
theorem get_look_lev {U : List Str} {M : Book} (g : Good U M) (n : Int) (l : Str) : get (look M n) l = if 0 < lev M n l then some (lev M n l) else none := by
  rw [get_look]
  unfold lev
  cases h : get (lookW (upto M n)) l with
  | none => rfl
  | some v => simp only [Option.filter_some, Option.getD_some, decide_eq_true_eq]
/-- two plays with the same levels at a cue have one look there -/
theorem look_eq {U U' : List Str} {M M' : Book} (g : Good U M) (g' : Good U' M') {n n' : Int} (h : ∀ l, lev M n l = lev M' n' l) : look M n = look M' n' :=
  table_ext linS (look_rising _ _) (look_rising _ _) fun l => by rw [get_look_lev g, get_look_lev g', h]
theorem lev_out {U : List Str} {M : Book} (g : Good U M) (n : Int) {l : Str} (h : l ∉ U) : lev M n l = 0 := by
  unfold lev
  cases e : get (lookW (upto M n)) l with
  | none => rfl
  | some v => exact absurd (lookW_val (g.upto n) _ (get_mem e)).1 h
/-- the look as the levels of lamps in alphabetical order -/
theorem look_of_lamps {U : List Str} {M : Book} (g : Good U M) (n : Int) {ls : List Str} (hs : ls.Pairwise ltS) (hu : ∀ l, 0 < lev M n l → l ∈ ls) :
    look M n = (ls.filter fun l => decide (0 < lev M n l)).map fun l => (l, lev M n l) := by
  refine table_ext linS (look_rising _ _) ?_ fun l => ?_
  · show List.Pairwise _ _
    rw [List.map_map]
    have : ((fun x : Str × Int => x.1) ∘ fun l => (l, lev M n l)) = id := rfl
    rw [this, List.map_id]
    exact hs.sublist List.filter_sublist
  · rw [get_look_lev g]
    have nd : (List.map (fun x : Str × Int => x.1) ((ls.filter fun l => decide (0 < lev M n l)).map fun l => (l, lev M n l))).Nodup := by
      rw [List.map_map]
      have : ((fun x : Str × Int => x.1) ∘ fun l => (l, lev M n l)) = id := rfl
      rw [this, List.map_id]
      exact (rising_nodup linS hs).sublist List.filter_sublist
    by_cases z : 0 < lev M n l
    · rw [if_pos z]
      refine (get_of_mem nd (List.mem_map.mpr ⟨l, List.mem_filter.mpr ⟨hu l z, by simpa using z⟩, rfl⟩)).symm
    · rw [if_neg z]
      refine (get_none_iff.mpr fun hm => ?_).symm
      obtain ⟨w, hw, rfl⟩ := List.mem_map.mp hm
      obtain ⟨k, hk, rfl⟩ := List.mem_map.mp hw
      exact z (by simpa using (List.mem_filter.mp hk).2)
/-! ### changes of a play -/
/-- the words of a cue changed -/
def setW (n : Int) (f : Ws → Ws) (M : Book) : Book := M.map fun e => if e.1 = n then (e.1, { e.2 with words := f e.2.words }) else e
theorem setW_keys (n : Int) (f : Ws → Ws) (M : Book) : (setW n f M).map (·.1) = M.map (·.1) := by
  unfold setW
  rw [List.map_map]
  refine List.map_congr_left fun e _ => ?_
  by_cases h : e.1 = n <;> simp [h]
theorem get_setW (n : Int) (f : Ws → Ws) : ∀ (M : Book) (j : Int), get (setW n f M) j = if j = n then (get M j).map (fun c => { c with words := f c.words }) else get M j
  | [], j => by simp [setW, get]
  | (a, c) :: r, j => by
    have ih := get_setW n f r j
    unfold setW at ih ⊢
    rw [List.map_cons]
    by_cases e : a = n
    · subst e
      rw [if_pos rfl, get, get, ih]
      by_cases z : a = j
      · rw [if_pos z, if_pos z, if_pos z.symm]; rfl
      · rw [if_neg z, if_neg z]
    · rw [if_neg e, get, get, ih]
      by_cases z : a = j
      · rw [if_pos z, if_pos z, if_neg fun y => e (z.trans y)]
      · rw [if_neg z, if_neg z]
theorem mem_setW {n : Int} {f : Ws → Ws} {M : Book} {e : Int × CueC} (h : e ∈ setW n f M) : ∃ e0 ∈ M, e.1 = e0.1 ∧ e.2.up = e0.2.up ∧ e.2.down = e0.2.down ∧ e.2.fresh = e0.2.fresh ∧ (e.2.words = e0.2.words ∨ (e0.1 = n ∧ e.2.words = f e0.2.words)) := by
  obtain ⟨e0, h0, rfl⟩ := List.mem_map.mp h
  refine ⟨e0, h0, ?_⟩
  by_cases z : e0.1 = n
  · rw [if_pos z]; exact ⟨rfl, rfl, rfl, rfl, .inr ⟨z, rfl⟩⟩
  · rw [if_neg z]; exact ⟨rfl, rfl, rfl, rfl, .inl rfl⟩
theorem Good.setW {U : List Str} {M : Book} (g : Good U M) {n : Int} {f : Ws → Ws} (h : ∀ ws, Rising ltS ws → (∀ w ∈ ws, w.1 ∈ U ∧ 0 ≤ w.2 ∧ w.2 ≤ 100) → Rising ltS (f ws) ∧ ∀ w ∈ f ws, w.1 ∈ U ∧ 0 ≤ w.2 ∧ w.2 ≤ 100) : Good U (setW n f M) := by
  refine ⟨by show List.Pairwise _ _; rw [setW_keys]; exact g.srt, fun e he => ?_, fun e he => ?_, fun e he => ?_, fun e he => ?_, by unfold Cue.setW; rw [List.length_map]; exact g.len⟩
  all_goals obtain ⟨e0, h0, h1, h2, h3, h4, h5⟩ := mem_setW he
  · rcases h5 with h5 | ⟨_, h5⟩
    · rw [h5]; exact g.wsrt e0 h0
    · rw [h5]; exact (h _ (g.wsrt e0 h0) (g.wrd e0 h0)).1
  · rw [h1]; exact g.num e0 h0
  · rcases h5 with h5 | ⟨_, h5⟩
    · rw [h5]; exact g.wrd e0 h0
    · rw [h5]; exact (h _ (g.wsrt e0 h0) (g.wrd e0 h0)).2
  · rw [h2, h3]; exact g.fad e0 h0
theorem wok_put {U : List Str} {l : Str} {v : Int} (hl : l ∈ U) (h0 : 0 ≤ v) (h1 : v ≤ 100) {ws : Ws} (hs : Rising ltS ws) (hw : ∀ w ∈ ws, w.1 ∈ U ∧ 0 ≤ w.2 ∧ w.2 ≤ 100) :
    Rising ltS (put ltS l v ws) ∧ ∀ w ∈ put ltS l v ws, w.1 ∈ U ∧ 0 ≤ w.2 ∧ w.2 ≤ 100 := by
  refine ⟨rising_put linS l v hs, fun w hm => ?_⟩
  have e := get_of_mem (rising_nodup linS (rising_put linS l v hs)) hm
  rw [get_put] at e
  by_cases z : w.1 = l
  · rw [if_pos z] at e
    cases e
    exact ⟨z ▸ hl, h0, h1⟩
  · rw [if_neg z] at e
    exact hw _ (get_mem e)
theorem wok_del {U : List Str} {l : Str} {ws : Ws} (hs : Rising ltS ws) (hw : ∀ w ∈ ws, w.1 ∈ U ∧ 0 ≤ w.2 ∧ w.2 ≤ 100) :
    Rising ltS (del l ws) ∧ ∀ w ∈ del l ws, w.1 ∈ U ∧ 0 ≤ w.2 ∧ w.2 ≤ 100 := ⟨rising_del hs, fun w hm => hw w (List.mem_filter.mp hm).1⟩
theorem len_put (n : Int) (c : CueC) (M : Book) : (put ltI n c M).length ≤ M.length + 1 := by
  induction M with
  | nil => exact Nat.le_refl _
  | cons e r ih =>
    unfold put
    split
    · exact Nat.le_succ _
    · split
      · exact Nat.le_refl _
      · exact Nat.succ_le_succ ih
theorem Good.put {U : List Str} {M : Book} (g : Good U M) {n : Int} {c : CueC} (hn : 1 ≤ n ∧ n ≤ 999999) (hs : Rising ltS c.words) (hw : ∀ w ∈ c.words, w.1 ∈ U ∧ 0 ≤ w.2 ∧ w.2 ≤ 100) (hf : 0 ≤ c.up ∧ c.up ≤ 6000 ∧ 0 ≤ c.down ∧ c.down ≤ 6000)
    (hl : M.length < 1000) : Good U (put ltI n c M) := by
  have key : ∀ e ∈ Cue.put ltI n c M, e = (n, c) ∨ e ∈ M := fun e he => by
    have h := get_of_mem (rising_nodup linI (rising_put linI n c g.srt)) (v := e.2) he
    rw [get_put] at h
    by_cases z : e.1 = n
    · rw [if_pos z] at h
      exact .inl (Prod.ext z (Option.some.inj h).symm)
    · rw [if_neg z] at h
      exact .inr (get_mem h)
  refine ⟨rising_put linI n c g.srt, fun e he => ?_, fun e he => ?_, fun e he => ?_, fun e he => ?_, ?_⟩
  · rcases key e he with rfl | h
    · exact hs
    · exact g.wsrt e h
  · rcases key e he with rfl | h
    · exact hn
    · exact g.num e h
  · rcases key e he with rfl | h
    · exact hw
    · exact g.wrd e h
  · rcases key e he with rfl | h
    · exact hf
    · exact g.fad e h
  · have := len_put n c M; omega
theorem Good.del {U : List Str} {M : Book} (g : Good U M) (n : Int) : Good U (del n M) := g.sub List.filter_sublist

/-! ## Tables of cues on the heap -/
section
variable {κ : Type} [DecidableEq κ]
theorem valV_iff {kvs : List (κ × V)} {k : κ} : (valV kvs k).isSome = true ↔ k ∈ kvs.map (·.1) := by
  cases h : valV kvs k with
  | none => simp [valV_not h]
  | some v => simp only [Option.isSome_some, true_iff]; exact valV_in h
theorem valV_drop (k j : κ) : ∀ kvs : List (κ × V), valV (dropK kvs k) j = if j = k then none else valV kvs j
  | [] => by simp [dropK, valV]
  | p :: r => by
    have ih := valV_drop k j r
    by_cases e : p.1 = k
    · rw [dropK_pos e, ih]
      by_cases z : j = k
      · rw [if_pos z, if_pos z]
      · rw [if_neg z, if_neg z, valV_neg fun y => z (y.symm.trans e)]
    · rw [dropK_neg e]
      by_cases z : p.1 = j
      · rw [valV_pos z, valV_pos z, if_neg fun y => e (z.trans y)]
      · rw [valV_neg z, ih, valV_neg z]
theorem putK_keys {kvs : List (κ × V)} {k : κ} {v : V} : (putK kvs k v).map (·.1) = if k ∈ kvs.map (·.1) then kvs.map (·.1) else kvs.map (·.1) ++ [k] := by
  unfold putK
  have e : (kvs.any fun kv => decide (kv.1 = k)) = decide (k ∈ kvs.map (·.1)) := by
    rw [valV_any, Bool.eq_iff_iff, valV_iff, decide_eq_true_eq]
  rw [e]
  by_cases h : k ∈ kvs.map (·.1)
  · rw [if_pos (decide_eq_true h), if_pos h, List.map_map]
    refine List.map_congr_left fun p _ => ?_
    by_cases z : p.1 = k <;> simp [z]
  · rw [if_neg (by simpa using h), if_neg h, List.map_append]; rfl
theorem nd_putK' {kvs : List (κ × V)} {k : κ} {v : V} (h : (kvs.map (·.1)).Nodup) : ((putK kvs k v).map (·.1)).Nodup := by
  rw [putK_keys]
  split
  · exact h
  · exact nd_snoc h ‹_›
theorem mem_putK {kvs : List (κ × V)} {k j : κ} {v : V} (h : j ∈ (putK kvs k v).map (·.1)) : j = k ∨ j ∈ kvs.map (·.1) := by
  rw [putK_keys] at h
  split at h
  · exact .inr h
  · rcases List.mem_append.mp h with h | h
    · exact .inr h
    · exact .inl (List.mem_singleton.mp h)
theorem mem_dropK {kvs : List (κ × V)} {k j : κ} (h : j ∈ (dropK kvs k).map (·.1)) : j ∈ kvs.map (·.1) := by
  obtain ⟨p, hp, rfl⟩ := List.mem_map.mp h
  exact List.mem_map.mpr ⟨p, dropK_mem hp, rfl⟩
end
/-! ### words -/
/-- a dict's pairs hold the words ws, in some order -/
structure WK (kvs : List (Key × V)) (ws : Ws) : Prop where
  nd : (kvs.map (·.1)).Nodup
  ks : ∀ k ∈ kvs.map (·.1), ∃ l, k = Sum.inr l
  vl : ∀ l, valV kvs (Sum.inr l) = (get ws l).map V.int
theorem WK.nil : WK [] [] := ⟨List.nodup_nil, fun k h => (by cases h), fun l => rfl⟩
theorem WK.put {kvs : List (Key × V)} {ws : Ws} (h : WK kvs ws) (l : Str) (v : Int) : WK (putK kvs (Sum.inr l) (.int v)) (put ltS l v ws) := by
  refine ⟨nd_putK' h.nd, fun k hk => ?_, fun j => ?_⟩
  · rcases mem_putK hk with rfl | hk
    · exact ⟨l, rfl⟩
    · exact h.ks k hk
  · rw [valV_put, get_put, h.vl]
    by_cases e : j = l
    · rw [if_pos (by rw [e]), if_pos e]; rfl
    · rw [if_neg (fun z => e (Sum.inr.inj z)), if_neg e]
theorem WK.drop {kvs : List (Key × V)} {ws : Ws} (h : WK kvs ws) (l : Str) : WK (dropK kvs (Sum.inr l)) (del l ws) := by
  refine ⟨nd_dropK h.nd, fun k hk => h.ks k (mem_dropK hk), fun j => ?_⟩
  rw [valV_drop, get_del, h.vl]
  by_cases e : j = l
  · rw [if_pos (by rw [e]), if_pos e]; rfl
  · rw [if_neg (fun z => e (Sum.inr.inj z)), if_neg e]
/-- its keys, as texts -/
theorem inr_keys : ∀ {ks : List Key}, (∀ k ∈ ks, ∃ l : Str, k = Sum.inr l) → ∃ ls : List Str, ks = ls.map Sum.inr
  | [], _ => ⟨[], rfl⟩
  | k :: r, h => by
    obtain ⟨l, rfl⟩ := h k List.mem_cons_self
    obtain ⟨ls, rfl⟩ := inr_keys fun j hj => h j (List.mem_cons_of_mem _ hj)
    exact ⟨l :: ls, rfl⟩
theorem inl_keys : ∀ {ks : List Key}, (∀ k ∈ ks, ∃ n : Int, k = Sum.inl n) → ∃ ns : List Int, ks = ns.map Sum.inl
  | [], _ => ⟨[], rfl⟩
  | k :: r, h => by
    obtain ⟨l, rfl⟩ := h k List.mem_cons_self
    obtain ⟨ls, rfl⟩ := inl_keys fun j hj => h j (List.mem_cons_of_mem _ hj)
    exact ⟨l :: ls, rfl⟩
theorem map_inj {α β : Type} {f : α → β} (hf : ∀ a b, f a = f b → a = b) : ∀ {l l' : List α}, l.map f = l'.map f → l = l'
  | [], [], _ => rfl
  | [], _ :: _, h => by simp at h
  | _ :: _, [], h => by simp at h
  | a :: l, b :: l', h => by
    obtain ⟨h1, h2⟩ := List.cons.inj h
    rw [hf _ _ h1, map_inj hf h2]
theorem nodup_of_map {α β : Type} {f : α → β} {l : List α} (h : (l.map f).Nodup) : l.Nodup := (List.pairwise_map.mp h).imp fun {a b} k e => k (congrArg f e)
theorem nodup_map {α β : Type} {f : α → β} (hf : ∀ a b, f a = f b → a = b) {l : List α} (h : l.Nodup) : (l.map f).Nodup := List.pairwise_map.mpr (h.imp fun {a b} k e => k (hf a b e))
theorem WK.keys {kvs : List (Key × V)} {ws : Ws} (h : WK kvs ws) : ∃ ls : List Str, kvs.map (·.1) = ls.map Sum.inr ∧ ls.Nodup ∧ ∀ l, l ∈ ls ↔ l ∈ ws.map (·.1) := by
  obtain ⟨ls, e⟩ := inr_keys h.ks
  refine ⟨ls, e, nodup_of_map (e ▸ h.nd), fun l => ?_⟩
  rw [← get_some_iff]
  have : l ∈ ls ↔ Sum.inr l ∈ kvs.map (·.1) := by
    rw [e]
    exact ⟨fun h => List.mem_map.mpr ⟨l, h, rfl⟩, fun h => by
      obtain ⟨x, hx, z⟩ := List.mem_map.mp h
      rwa [Sum.inr.inj z] at hx⟩
  rw [this, ← valV_iff, h.vl]
  cases get ws l <;> simp
theorem perm_of_mem {α : Type} [DecidableEq α] : ∀ {l l' : List α}, l.Nodup → l'.Nodup → (∀ x, x ∈ l ↔ x ∈ l') → l.Perm l'
  | [], l', _, _, h => by
    cases l' with
    | nil => exact .nil
    | cons y t => exact absurd ((h y).mpr List.mem_cons_self) (by simp)
  | x :: r, l', h1, h2, h => by
    obtain ⟨a, b⟩ := List.nodup_cons.mp h1
    have hx := (h x).mp List.mem_cons_self
    refine (List.Perm.cons x (perm_of_mem b (h2.erase x) fun y => ?_)).trans (List.perm_cons_erase hx).symm
    by_cases e : y = x
    · subst e
      exact ⟨fun hy => absurd hy a, fun hy => absurd hy h2.not_mem_erase⟩
    · rw [List.mem_erase_of_ne e, ← h y, List.mem_cons]
      exact ⟨fun z => .inr z, fun z => z.resolve_left e⟩
theorem WK.len {kvs : List (Key × V)} {ws : Ws} (h : WK kvs ws) (hs : Rising ltS ws) : kvs.length = ws.length := by
  obtain ⟨ls, e, hn, hm⟩ := h.keys
  have h1 := congrArg List.length e
  have h2 := (perm_of_mem hn (rising_nodup linS hs) hm).length_eq
  rw [List.length_map, List.length_map] at h1
  rw [List.length_map] at h2
  omega
/-- sorted(d) -/
theorem WK.sorted {kvs : List (Key × V)} {ws : Ws} (h : WK kvs ws) (hs : Rising ltS ws) {ks ys : List Str} (hk : kvs.map (·.1) = ks.map Sum.inr) (hp : ys.Perm ks) (hy : sortedS ys = true) : ys = ws.map (·.1) := by
  obtain ⟨ls, e, hn, hm⟩ := h.keys
  have e2 : ks = ls := by
    have : ks.map (Sum.inr : Str → Key) = ls.map Sum.inr := hk.symm.trans e
    exact map_inj (fun a b z => Sum.inr.inj z) this
  subst e2
  exact rising_eq linS (sortedS_rising hy (hp.nodup_iff.mpr hn)) hs fun x => by rw [hp.mem_iff, hm]
def WordsAt (H : Hp) (w : Addr) (ws : Ws) : Prop := ∃ kvs, H w = some (.dK kvs) ∧ WK kvs ws
/-- a dict that tells just the table, in its order -/
def dW (ws : Ws) : List (Key × V) := ws.map fun w => (Sum.inr w.1, V.int w.2)
theorem valV_dW (l : Str) : ∀ ws : Ws, valV (dW ws) (Sum.inr l) = (get ws l).map V.int
  | [] => rfl
  | (a, v) :: r => by
    show valV ((Sum.inr a, V.int v) :: dW r) (Sum.inr l) = _
    unfold get
    by_cases e : a = l
    · rw [valV_pos (by rw [e]), if_pos e]; rfl
    · rw [valV_neg (fun z => e (Sum.inr.inj z)), if_neg e, valV_dW l r]
theorem WK.dW {ws : Ws} (h : (ws.map (·.1)).Nodup) : WK (dW ws) ws := by
  have e : (Cue.dW ws).map (·.1) = (ws.map (·.1)).map Sum.inr := by simp [Cue.dW]
  refine ⟨by rw [e]; exact nodup_map (fun a b z => Sum.inr.inj z) h, fun k hk => ?_, fun l => valV_dW l ws⟩
  rw [e] at hk
  obtain ⟨l, _, rfl⟩ := List.mem_map.mp hk
  exact ⟨l, rfl⟩
/-! ### tables of records -/
def box (lk : Option Obj) (u : HO) : HO := match lk with
  | none => u
  | some o => .frz o u
theorem box_rd {H : Hp} {d : Addr} {lk : Option Obj} {u : HO} (h : H d = some (box lk u)) : Rd H d u := by
  cases lk with
  | none => exact .inl h
  | some o => exact .inr ⟨o, h⟩
structure TK (kvs : List (Key × V)) (M : Book) (ad : Int → Addr) : Prop where
  nd : (kvs.map (·.1)).Nodup
  ks : ∀ k ∈ kvs.map (·.1), ∃ n, k = Sum.inl n
  vl : ∀ n, valV kvs (Sum.inl n) = (get M n).map fun _ => V.ref (ad n)
/-- where the n-th record and its words lie -/
abbrev Ads := Int → Addr × Addr
def adSet (ad : Ads) (n : Int) (x : Addr × Addr) : Ads := fun m => if m = n then x else ad m
theorem TK.nil {ad : Int → Addr} : TK [] [] ad := ⟨List.nodup_nil, fun k h => (by cases h), fun l => rfl⟩
theorem TK.put {kvs : List (Key × V)} {M : Book} {ad : Ads} (h : TK kvs M fun n => (ad n).1) (n : Int) (c : CueC) (x : Addr × Addr) : TK (putK kvs (Sum.inl n) (.ref x.1)) (put ltI n c M) fun m => (adSet ad n x m).1 := by
  refine ⟨nd_putK' h.nd, fun k hk => ?_, fun j => ?_⟩
  · rcases mem_putK hk with rfl | hk
    · exact ⟨n, rfl⟩
    · exact h.ks k hk
  · rw [valV_put, get_put, h.vl]
    by_cases e : j = n
    · rw [if_pos (by rw [e]), if_pos e]; simp [adSet, e]
    · rw [if_neg (fun z => e (Sum.inl.inj z)), if_neg e]; simp [adSet, e]
theorem TK.drop {kvs : List (Key × V)} {M : Book} {ad : Int → Addr} (h : TK kvs M ad) (n : Int) : TK (dropK kvs (Sum.inl n)) (del n M) ad := by
  refine ⟨nd_dropK h.nd, fun k hk => h.ks k (mem_dropK hk), fun j => ?_⟩
  rw [valV_drop, get_del, h.vl]
  by_cases e : j = n
  · rw [if_pos (by rw [e]), if_pos e]; rfl
  · rw [if_neg (fun z => e (Sum.inl.inj z)), if_neg e]
theorem TK.keys {kvs : List (Key × V)} {M : Book} {ad : Int → Addr} (h : TK kvs M ad) : ∃ ns : List Int, kvs.map (·.1) = ns.map Sum.inl ∧ ns.Nodup ∧ ∀ n, n ∈ ns ↔ n ∈ M.map (·.1) := by
  obtain ⟨ls, e⟩ := inl_keys h.ks
  refine ⟨ls, e, nodup_of_map (e ▸ h.nd), fun l => ?_⟩
  rw [← get_some_iff]
  have : l ∈ ls ↔ Sum.inl l ∈ kvs.map (·.1) := by
    rw [e]
    exact ⟨fun h => List.mem_map.mpr ⟨l, h, rfl⟩, fun h => by
      obtain ⟨x, hx, z⟩ := List.mem_map.mp h
      rwa [Sum.inl.inj z] at hx⟩
  rw [this, ← valV_iff, h.vl]
  cases get M l <;> simp
theorem TK.len {kvs : List (Key × V)} {M : Book} {ad : Int → Addr} (h : TK kvs M ad) (hs : Rising ltI M) : kvs.length = M.length := by
  obtain ⟨ls, e, hn, hm⟩ := h.keys
  have h1 := congrArg List.length e
  have h2 := (perm_of_mem hn (rising_nodup linI hs) hm).length_eq
  rw [List.length_map, List.length_map] at h1
  rw [List.length_map] at h2
  omega
/-- sorted(d), its keys numbers -/
theorem TK.sorted {kvs : List (Key × V)} {M : Book} {ad : Int → Addr} (h : TK kvs M ad) (hs : Rising ltI M) {ks ys : List Int} (hk : kvs.map (·.1) = ks.map Sum.inl) (hp : ys.Perm ks) (hy : ys.Pairwise (· ≤ ·)) : ys = M.map (·.1) := by
  obtain ⟨ls, e, hn, hm⟩ := h.keys
  have e2 : ks = ls := by
    have : ks.map (Sum.inl : Int → Key) = ls.map Sum.inl := hk.symm.trans e
    exact map_inj (fun a b z => Sum.inl.inj z) this
  subst e2
  exact rising_eq linI (le_rising hy (hp.nodup_iff.mpr hn)) hs fun x => by rw [hp.mem_iff, hm]
abbrev RcT := HO → Int → Int → Bool → Addr → Prop
/-- a dict at d from numbers to records; each with a dict of words -/
structure TabAt (Rc : RcT) (lk : Option Obj) (H : Hp) (d : Addr) (ad : Ads) (M : Book) : Prop where
  top : ∃ kvs, H d = some (box lk (.dK kvs)) ∧ TK kvs M fun n => (ad n).1
  row : ∀ n c, get M n = some c → ∃ o, H (ad n).1 = some o ∧ Rc o c.up c.down c.fresh (ad n).2
  wrd : ∀ n c, get M n = some c → WordsAt H (ad n).2 c.words
  inj : ∀ n m c e, get M n = some c → get M m = some e → n ≠ m → (ad n).1 ≠ (ad m).1 ∧ (ad n).2 ≠ (ad m).2
  out : ∀ n c, get M n = some c → (ad n).1 ≠ d ∧ (ad n).2 ≠ d
  crs : ∀ n m c e, get M n = some c → get M m = some e → (ad n).1 ≠ (ad m).2
/-- what belongs to such a table -/
def foot (d : Addr) (ad : Ads) (M : Book) (b : Addr) : Prop := b = d ∨ ∃ n c, get M n = some c ∧ (b = (ad n).1 ∨ b = (ad n).2)
/-- all but F is as it was; F' is no more than F and new things -/
def Chg (F : Addr → Prop) (H H' : Hp) : Prop := ∀ b o, H b = some o → ¬ F b → H' b = some o
def Grow (H : Hp) (F F' : Addr → Prop) : Prop := ∀ b, F' b → F b ∨ H b = none
theorem Same.chg {F : Addr → Prop} {H H' : Hp} (s : Same H H') : Chg F H H' := fun b o e _ => s b o e
section
variable {Rc : RcT} {lk : Option Obj} {H H' : Hp} {d : Addr} {ad : Ads} {M : Book}
theorem TabAt.has (T : TabAt Rc lk H d ad M) {b : Addr} (h : foot d ad M b) : ∃ o, H b = some o := by
  rcases h with rfl | ⟨n, c, hn, rfl | rfl⟩
  · obtain ⟨kvs, e, _⟩ := T.top
    exact ⟨_, e⟩
  · obtain ⟨o, e, _⟩ := T.row n c hn
    exact ⟨_, e⟩
  · obtain ⟨kvs, e, _⟩ := T.wrd n c hn
    exact ⟨_, e⟩
theorem TabAt.frame (T : TabAt Rc lk H d ad M) (k : ∀ b o, foot d ad M b → H b = some o → H' b = some o) : TabAt Rc lk H' d ad M := by
  refine ⟨?_, fun n c hn => ?_, fun n c hn => ?_, T.inj, T.out, T.crs⟩
  · obtain ⟨kvs, e, h⟩ := T.top
    exact ⟨kvs, k _ _ (.inl rfl) e, h⟩
  · obtain ⟨o, e, h⟩ := T.row n c hn
    exact ⟨o, k _ _ (.inr ⟨n, c, hn, .inl rfl⟩) e, h⟩
  · obtain ⟨kvs, e, h⟩ := T.wrd n c hn
    exact ⟨kvs, k _ _ (.inr ⟨n, c, hn, .inr rfl⟩) e, h⟩
theorem TabAt.same (T : TabAt Rc lk H d ad M) (s : Same H H') : TabAt Rc lk H' d ad M := T.frame fun b o _ e => s b o e
/-- the words of a row changed -/
theorem TabAt.word (T : TabAt Rc lk H d ad M) {n : Int} {c : CueC} {f : Ws → Ws} (hn : get M n = some c) (k : ∀ b o, foot d ad M b → b ≠ (ad n).2 → H b = some o → H' b = some o) (hw : WordsAt H' (ad n).2 (f c.words)) :
    TabAt Rc lk H' d ad (setW n f M) := by
  have back : ∀ m e, get (setW n f M) m = some e → ∃ e0, get M m = some e0 ∧ e.up = e0.up ∧ e.down = e0.down ∧ e.fresh = e0.fresh ∧ e.words = if m = n then f e0.words else e0.words := by
    intro m e h
    rw [get_setW] at h
    by_cases z : m = n
    · rw [if_pos z] at h
      obtain ⟨e0, h0, rfl⟩ := Option.map_eq_some_iff.mp h
      exact ⟨e0, h0, rfl, rfl, rfl, by rw [if_pos z]⟩
    · rw [if_neg z] at h
      exact ⟨e, h, rfl, rfl, rfl, by rw [if_neg z]⟩
  refine ⟨?_, fun m e hm => ?_, fun m e hm => ?_, fun m j e g hm hj ne => ?_, fun m e hm => ?_, fun m j e g hm hj => ?_⟩
  · obtain ⟨kvs, e, h⟩ := T.top
    refine ⟨kvs, k _ _ (.inl rfl) (T.out n c hn).2.symm e, h.nd, h.ks, fun m => ?_⟩
    rw [h.vl, get_setW]
    by_cases z : m = n
    · rw [if_pos z]; cases get M m <;> rfl
    · rw [if_neg z]
  · obtain ⟨e0, h0, h1, h2, h3, _⟩ := back m e hm
    obtain ⟨o, ho, hr⟩ := T.row m e0 h0
    rw [h1, h2, h3]
    exact ⟨o, k _ _ (.inr ⟨m, e0, h0, .inl rfl⟩) (T.crs m n e0 c h0 hn) ho, hr⟩
  · obtain ⟨e0, h0, _, _, _, h4⟩ := back m e hm
    rw [h4]
    by_cases z : m = n
    · subst z
      rw [hn] at h0
      cases h0
      rw [if_pos rfl]; exact hw
    · rw [if_neg z]
      obtain ⟨kvs, ho, hk⟩ := T.wrd m e0 h0
      exact ⟨kvs, k _ _ (.inr ⟨m, e0, h0, .inr rfl⟩) (T.inj m n e0 c h0 hn z).2 ho, hk⟩
  · obtain ⟨e0, h0, _⟩ := back m e hm
    obtain ⟨g0, g1, _⟩ := back j g hj
    exact T.inj m j e0 g0 h0 g1 ne
  · obtain ⟨e0, h0, _⟩ := back m e hm
    exact T.out m e0 h0
  · obtain ⟨e0, h0, _⟩ := back m e hm
    obtain ⟨g0, g1, _⟩ := back j g hj
    exact T.crs m j e0 g0 h0 g1
theorem foot_word {n : Int} {f : Ws → Ws} {b : Addr} : foot d ad (setW n f M) b ↔ foot d ad M b := by
  have : ∀ m, (∃ c, get (setW n f M) m = some c) ↔ ∃ c, get M m = some c := fun m => by
    rw [get_some_iff, get_some_iff, setW_keys]
  unfold foot
  refine or_congr Iff.rfl ⟨?_, ?_⟩
  · rintro ⟨m, c, hc, h⟩
    obtain ⟨e, he⟩ := (this m).mp ⟨c, hc⟩
    exact ⟨m, e, he, h⟩
  · rintro ⟨m, c, hc, h⟩
    obtain ⟨e, he⟩ := (this m).mpr ⟨c, hc⟩
    exact ⟨m, e, he, h⟩
/-- a row put in, or put anew -/
theorem TabAt.add (T : TabAt Rc none H d ad M) {n : Int} {c : CueC} {r w : Addr} {o : HO} {kvs : List (Key × V)} (hd : H d = some (.dK kvs)) (hd' : H' d = some (.dK (putK kvs (Sum.inl n) (.ref r)))) (hr : H' r = some o) (ho : Rc o c.up c.down c.fresh w) (hw : WordsAt H' w c.words)
    (nr : ¬ foot d ad M r) (nw : ¬ foot d ad M w) (nrw : r ≠ w) (k : ∀ b u, foot d ad M b → b ≠ d → H b = some u → H' b = some u) : TabAt Rc none H' d (adSet ad n (r, w)) (put ltI n c M) := by
  have tk : TK kvs M fun n => (ad n).1 := by
    obtain ⟨kvs', e, h⟩ := T.top
    rw [hd] at e
    cases e
    exact h
  have back : ∀ m e, get (put ltI n c M) m = some e → (m = n ∧ e = c) ∨ (m ≠ n ∧ get M m = some e) := fun m e h => by
    rw [get_put] at h
    by_cases z : m = n
    · rw [if_pos z] at h; exact .inl ⟨z, (Option.some.inj h).symm⟩
    · rw [if_neg z] at h; exact .inr ⟨z, h⟩
  have aN : adSet ad n (r, w) n = (r, w) := by simp [adSet]
  have aM : ∀ m, m ≠ n → adSet ad n (r, w) m = ad m := fun m h => by simp [adSet, h]
  have fr : ∀ m e, get M m = some e → r ≠ (ad m).1 ∧ r ≠ (ad m).2 ∧ w ≠ (ad m).1 ∧ w ≠ (ad m).2 := fun m e h =>
    ⟨fun z => nr (.inr ⟨m, e, h, .inl z⟩), fun z => nr (.inr ⟨m, e, h, .inr z⟩), fun z => nw (.inr ⟨m, e, h, .inl z⟩), fun z => nw (.inr ⟨m, e, h, .inr z⟩)⟩
  refine ⟨⟨_, hd', tk.put n c (r, w)⟩, fun m e hm => ?_, fun m e hm => ?_, fun m j e g hm hj ne => ?_, fun m e hm => ?_, fun m j e g hm hj => ?_⟩
  · rcases back m e hm with ⟨rfl, rfl⟩ | ⟨z, h⟩
    · rw [aN]; exact ⟨o, hr, ho⟩
    · rw [aM m z]
      obtain ⟨u, hu, q⟩ := T.row m e h
      exact ⟨u, k _ _ (.inr ⟨m, e, h, .inl rfl⟩) (T.out m e h).1 hu, q⟩
  · rcases back m e hm with ⟨rfl, rfl⟩ | ⟨z, h⟩
    · rw [aN]; exact hw
    · rw [aM m z]
      obtain ⟨u, hu, q⟩ := T.wrd m e h
      exact ⟨u, k _ _ (.inr ⟨m, e, h, .inr rfl⟩) (T.out m e h).2 hu, q⟩
  · rcases back m e hm with ⟨rfl, rfl⟩ | ⟨z, h⟩
    · rcases back j g hj with ⟨rfl, rfl⟩ | ⟨z', h'⟩
      · exact absurd rfl ne
      · rw [aN, aM j z']; exact ⟨(fr j g h').1, (fr j g h').2.2.2⟩
    · rcases back j g hj with ⟨rfl, rfl⟩ | ⟨z', h'⟩
      · rw [aN, aM m z]; exact ⟨(fr m e h).1.symm, (fr m e h).2.2.2.symm⟩
      · rw [aM m z, aM j z']; exact T.inj m j e g h h' ne
  · rcases back m e hm with ⟨rfl, rfl⟩ | ⟨z, h⟩
    · rw [aN]; exact ⟨fun z => nr (.inl z), fun z => nw (.inl z)⟩
    · rw [aM m z]; exact T.out m e h
  · rcases back m e hm with ⟨rfl, rfl⟩ | ⟨z, h⟩
    · rcases back j g hj with ⟨rfl, rfl⟩ | ⟨z', h'⟩
      · rw [aN]; exact nrw
      · rw [aN, aM j z']; exact (fr j g h').2.1
    · rcases back j g hj with ⟨rfl, rfl⟩ | ⟨z', h'⟩
      · rw [aN, aM m z]; exact (fr m e h).2.2.1.symm
      · rw [aM m z, aM j z']; exact T.crs m j e g h h'
theorem foot_add {n : Int} {c : CueC} {r w b : Addr} (h : foot d (adSet ad n (r, w)) (put ltI n c M) b) : foot d ad M b ∨ b = r ∨ b = w := by
  rcases h with rfl | ⟨m, e, hm, hb⟩
  · exact .inl (.inl rfl)
  · rw [get_put] at hm
    by_cases z : m = n
    · subst z
      simp only [adSet, if_pos rfl] at hb
      rcases hb with h | h
      · exact .inr (.inl h)
      · exact .inr (.inr h)
    · rw [if_neg z] at hm
      simp only [adSet, if_neg z] at hb
      exact .inl (.inr ⟨m, e, hm, hb⟩)
/-- a row dropped -/
theorem TabAt.drop (T : TabAt Rc none H d ad M) {n : Int} {kvs : List (Key × V)} (hd : H d = some (.dK kvs)) (hd' : H' d = some (.dK (dropK kvs (Sum.inl n)))) (k : ∀ b u, foot d ad M b → b ≠ d → H b = some u → H' b = some u) :
    TabAt Rc none H' d ad (del n M) := by
  have tk : TK kvs M fun n => (ad n).1 := by
    obtain ⟨kvs', e, h⟩ := T.top
    rw [hd] at e
    cases e
    exact h
  have back : ∀ m e, get (del n M) m = some e → get M m = some e := fun m e h => by
    rw [get_del] at h
    by_cases z : m = n
    · rw [if_pos z] at h; cases h
    · rwa [if_neg z] at h
  refine ⟨⟨_, hd', tk.drop n⟩, fun m e hm => ?_, fun m e hm => ?_, fun m j e g hm hj => T.inj m j e g (back m e hm) (back j g hj), fun m e hm => T.out m e (back m e hm), fun m j e g hm hj => T.crs m j e g (back m e hm) (back j g hj)⟩
  · obtain ⟨u, hu, q⟩ := T.row m e (back m e hm)
    exact ⟨u, k _ _ (.inr ⟨m, e, back m e hm, .inl rfl⟩) (T.out m e (back m e hm)).1 hu, q⟩
  · obtain ⟨u, hu, q⟩ := T.wrd m e (back m e hm)
    exact ⟨u, k _ _ (.inr ⟨m, e, back m e hm, .inr rfl⟩) (T.out m e (back m e hm)).2 hu, q⟩
theorem foot_drop {n : Int} {b : Addr} (h : foot d ad (del n M) b) : foot d ad M b := by
  rcases h with rfl | ⟨m, e, hm, hb⟩
  · exact .inl rfl
  · rw [get_del] at hm
    by_cases z : m = n
    · rw [if_pos z] at hm; cases hm
    · rw [if_neg z] at hm; exact .inr ⟨m, e, hm, hb⟩
end

/-! ### sorted(d) of a dict with numbers as keys, any number of them; sorted(d, reverse=True) -/
section
variable {X : Cx} {pins : List (Addr × Obj)} {σ : L2.St} {H : Hp} {s : Shared}
/-- the keys that were collected are these numbers -/
theorem keys_ints {ks : List Int} {vs : List (Key × Value)} {acc : Array Value} (hkeys : vs.map (·.1) = ks.map Sum.inl) (h : ItemsOf (fun j v => ∃ (k : Key) (x : Value), vs[j]? = some (k, x) ∧ keyIs k v = true) acc vs.length) : IntsAre acc.toList ks ∧ acc.toList.length = ks.length := by
  have hl : vs.length = ks.length := by
    have := congrArg List.length hkeys
    rwa [List.length_map, List.length_map] at this
  have hal : acc.toList.length = ks.length := by rw [Array.length_toList, h.1, hl]
  refine ⟨ints_each hal fun j v e => ?_, hal⟩
  obtain ⟨k, x, e1, e2⟩ := h.2 j v (by rw [← Array.getElem?_toList]; exact e)
  have e3 := congrArg (fun l => l[j]?) hkeys
  simp only [List.getElem?_map, e1, Option.map_some] at e3
  obtain ⟨y, hy, rfl⟩ := Option.map_eq_some_iff.mp e3.symm
  rcases keyIs_shape e2 with ⟨i, t, ek, rfl⟩ | ⟨z, t, ek, _⟩
  · cases ek; exact ⟨y, t, hy, rfl⟩
  · cases ek
theorem sortDI_run (hcalm : X.calm = true) {a : Addr} {kvs : List (Key × V)} {ks : List Int} {b : Option Bool} {kw : List (Str × Value)} {Q : VK} (I : Inv X pins σ H s) (hd : Rd H a (.dK kvs)) (hks : kvs.map (·.1) = ks.map Sum.inl)
    (hb : match b with | none => kw = [] | some b => (∀ a, Builtin.«list.sort» ⟨[.ref a], kw⟩ = Builtin.«list.sort» ⟨[.ref a], [(Str.ofString "reverse", .bool b)]⟩)) (ha1 : argsOk "sorted" ⟨[.ref a], kw⟩) (ha2 : ∀ a, argsOk "list.sort" ⟨[a], kw⟩)
    (q : ∀ (ys : List Int) (p : Addr), ys.Perm ks → OrdB (b.getD false) ys → H p = none → Q (.ref p) (upd H p (.lst (ys.map V.int)))) : wpAny (model X.prog X.w) X.A (call (.builtin "sorted") [.ref a] kw) (EP X pins σ Q) X.xe s := by
  obtain ⟨z, lo, vs, rel, dd⟩ := dk_rd I.hok hd
  obtain ⟨ep, hat⟩ := dd.dictAt
  have hkeys : vs.map (·.1) = ks.map Sum.inl := by rw [← rel.keys]; exact hks
  have hz : vs.length ≤ sizeLine := rel.length ▸ z
  have cnt : ∀ {α : Type} {n : Nat} {k : Unit → Sem α} {Q' : α → Shared → Prop} {E' : Value → Shared → Prop} {A' : Around}, wpAny (model X.prog X.w) A' (k ()) Q' E' s → checkCount "sorted" 1 1 n = pure () → wpAny (model X.prog X.w) A' (checkCount "sorted" 1 1 n >>= k) Q' E' s := fun h e => by rw [e]; exact wpAny_bind (wpAny_pure h)
  refine call_function_entry_kw PyProof.Rows.kind_sorted PyProof.Rows.plain_sorted PyProof.Rows.entry_sorted ha1 (by
    unfold Builtin.«sorted»
    refine cnt ?_ rfl
    refine wpAny_bind (PySem.W.kdu_collect (A := X.A.in1) (PySem.W.kdl_dict (knd := mixKind X.prog X.w) (kvs := vs) (ep := ep) lo) (I.ok.hd hcalm) hat hz fun h' tk acc hk hacc => ?_)
    obtain ⟨hS, hal⟩ := keys_ints hkeys hacc
    have I1 : Inv X pins σ H { s with heap := h', toks := tk } := I.kept hk
    have hlen : ks.length ≤ sizeLine := by
      have := congrArg List.length hkeys
      rw [List.length_map, List.length_map] at this
      omega
    refine wpAny_bind (wpAny_newList ?_ (hal ▸ hlen))
    have hoL : (h'.push (seqObj "list" acc.toList.toArray 0)).get? h'.objs.size = some (seqObj "list" acc.toList.toArray 0) := Heap.get?_push_size _ rfl
    have fin : ∀ (out : List Value) (ns : List Int), IntsAre out ns → ns.Perm ks → OrdB (b.getD false) ns → EP X pins σ Q (.ref h'.objs.size) { s with heap := sortedHeap (h'.push (seqObj "list" acc.toList.toArray 0)) h'.objs.size acc.toList out.toArray, toks := tk } := by
      intro out ns g1 g2 g3
      obtain ⟨e', he'⟩ := PyProof.Rows.sortedHeap_at (vs := acc.toList) (out := out.toArray) hoL
      refine ⟨.ref h'.objs.size, upd H h'.objs.size (.lst (ns.map V.int)), I1.laid (t' := tk) (fun c u e => ?_) (Nat.le_refl _) (show ObjOk X.prog X.w _ _ _ (.lst (ns.map V.int)) from ⟨by rw [List.length_map, g2.length_eq]; exact hlen, out, e', vals_of_ints g1, he'⟩), rfl, q ns _ g2 g3 (I1.hok.fresh (Nat.le_refl _))⟩
      have hc : c < h'.objs.size := Heap.lt_size e
      rw [PyProof.Rows.sortedHeap_old (Nat.ne_of_lt hc) (size_push' .. ▸ Nat.lt_succ_of_lt hc)]
      exact Heap.get?_push_of_some _ e
    cases b with
    | none =>
      cases hb
      refine wpAny_bind (wpAny_holding (wpAny_call_entry PyProof.Rows.slot_list_sort ⟨_, hoL, rfl⟩ PyProof.Rows.entry_list_sort
        (SrtO.list_sort_ord (s := { s with heap := h'.push (seqObj "list" acc.toList.toArray 0), toks := tk }) SrtO.swo_int hoL (hal ▸ hlen) (fun h2 => SrtO.ints_sortable hS h2) fun out h1 h2 => ⟨_, rfl, ?_⟩) (PyProof.Rows.args_list_sort _)))
      obtain ⟨k1, k2, k3⟩ := SrtO.ints_out hS h1 h2
      exact wpAny_pure ⟨_, rfl, fin out _ k1 k2 k3⟩
    | some b =>
      refine wpAny_bind (wpAny_holding (wpAny_call_entry_kw PyProof.Rows.slot_list_sort ⟨_, hoL, rfl⟩ PyProof.Rows.entry_list_sort ?_ (ha2 _)))
      rw [hb]
      refine SrtR.list_sort_ordR (s := { s with heap := h'.push (seqObj "list" acc.toList.toArray 0), toks := tk }) SrtO.swo_int hoL (hal ▸ hlen) (fun h2 => SrtO.ints_sortable hS h2) fun out h1 h2 => ⟨_, rfl, ?_⟩
      obtain ⟨ns', k1, k2, k3⟩ := SrtR.ints_outR hS h1 h2
      have := fin _ ns' k1 k2 k3
      rw [Array.toArray_toList] at this
      exact wpAny_pure ⟨_, rfl, this⟩)
/-- sorted(d), numbers -/
theorem call_sortedDA (hcalm : X.calm = true) : CallR X (.builtin "sorted") (fun xs H Q => ∃ (a : Addr) (kvs : List (Key × V)) (ks : List Int), xs = [.ref a] ∧ Rd H a (.dK kvs) ∧ kvs.map (·.1) = ks.map Sum.inl ∧ ∀ (ys : List Int) (p : Addr), ys.Perm ks → ys.Pairwise (· ≤ ·) → H p = none → Q (.ref p) (upd H p (.lst (ys.map V.int)))) := by
  intro pins s σ H xs us Q I r h
  obtain ⟨a, kvs, ks, rfl, hd, hks, q⟩ := h
  obtain rfl := Vals.ref1 r
  exact sortDI_run hcalm (b := none) I hd hks rfl (PyProof.Rows.args_sorted1 _) (fun _ => PyProof.Rows.args_list_sort _) q
/-- sorted(d, reverse=True), numbers -/
theorem cr_sortedDR (hcalm : X.calm = true) : CallRK X (.builtin "sorted") [Str.ofString "reverse"] (fun xs zs H Q => ∃ (a : Addr) (kvs : List (Key × V)) (ks : List Int), xs = [.ref a] ∧ zs = [.bl true] ∧ Rd H a (.dK kvs) ∧ kvs.map (·.1) = ks.map Sum.inl ∧ ∀ (ys : List Int) (p : Addr), ys.Perm ks → ys.Pairwise (· ≥ ·) → H p = none → Q (.ref p) (upd H p (.lst (ys.map V.int)))) := by
  intro pins s σ H xs zs us ws Q I r rz h
  obtain ⟨a, kvs, ks, rfl, rfl, hd, hks, q⟩ := h
  obtain rfl := Vals.ref1 r
  obtain ⟨w1, rfl, e1⟩ := vals1 rz
  obtain rfl : w1 = Value.bool true := e1
  exact sortDI_run hcalm (b := some true) I hd hks (fun a => rfl) (PyProof.Rows.args_sorted_rev _ _) (fun _ => PyProof.Rows.args_list_sort_rev _ _) q
end
section
variable {X : Cx}
/-- d.update(e) of another dict -/
theorem mt_dupdate : MtR X "dict.update" (fun x xs H Q => ∃ d o kvs more, x = .ref d ∧ xs = [.ref o] ∧ d ≠ o ∧ H d = some (.dK kvs) ∧ Rd H o (.dK more) ∧ kvs.length + more.length ≤ sizeLine ∧ Q .non (upd H d (.dK (mergeK kvs more)))) := by
  intro pins s σ H x xs v us Q I rx rv h
  obtain ⟨d, o, kvs, more, rfl, rfl, hne, hd, ho, hz, q⟩ := h
  obtain rfl : v = Value.ref d := rx
  obtain rfl := Vals.ref1 rv
  obtain ⟨z1, n1, vs, r1, d1⟩ := dk_of I.hok hd
  obtain ⟨z2, n2, ws, r2, d2⟩ := dk_rd I.hok ho
  have hl : (mergeK kvs more).length ≤ sizeLine := Nat.le_trans (length_mergeK more kvs) hz
  refine call_meetsIn PySem.F.slot_dict_update d1.typeIs PySem.F.entry_dict_update (PySem.F.args_dict_update_2 _ _) (meets_dict_update (mixKind X.prog X.w) d o hne n2) ⟨vs, ws, d1, d2, by rw [← r1.length, ← r2.length]; exact hz, fun h' e1 e2 sb => ?_⟩
  have he : ∃ q, h'.get? d = some q := let ⟨q, _, _, hq, _⟩ := e1; ⟨q, hq⟩
  exact ⟨.non, _, d_write I (by rw [hd]; exact True.intro) sb he (dk_new hl n1 (r2.merge r1) e1), rfl, q⟩
/-- len(d), the dict locked or not -/
theorem call_lenR : CallR X (.builtin "len") (fun xs H Q => ∃ a kvs, xs = [V.ref a] ∧ Rd H a (.dK kvs) ∧ Q (.int kvs.length) H) := by
  intro pins s σ H xs us Q I r h
  obtain ⟨a, kvs, rfl, hd, q⟩ := h
  obtain rfl := Vals.ref1 r
  exact d_len I hd fun t s' I' => ⟨.int kvs.length, H, I', ⟨t, rfl⟩, q⟩
/-- sorted(d, reverse=True) -/
theorem pe_sortedDR {e : Expr} {te : TE} {p pos kp : Pos} {j : Nat} {kpos : Pos} (he : PE X e te) (hg : Gl X "sorted") (hm : X.mg "sorted" = none) (hc : X.calm = true := by rfl)
    (hE : backTo pos (starEach [e] X.env) = (false, eval e X.env) :: backTo pos (starEach [] X.env) := by rfl) (hs : starEach [e] X.env = (false, eval e X.env) :: starEach [] X.env := by rfl) :
    PE X (.Call (.Name "sorted" p) [e] [⟨some "reverse", .Constant (.bool true) j kp, kpos⟩] pos) (tCKw (fun xs zs H Q => ∃ (a : Addr) (kvs : List (Key × V)) (ks : List Int), xs = [.ref a] ∧ zs = [.bl true] ∧ Rd H a (.dK kvs) ∧ kvs.map (·.1) = ks.map Sum.inl ∧ ∀ (ys : List Int) (p : Addr), ys.Perm ks → ys.Pairwise (· ≥ ·) → H p = none → Q (.ref p) (upd H p (.lst (ys.map V.int)))) (tCons te tNil) (tCons (tC (.bl true)) tNil)) :=
  pe_callBK (cr_sortedDR hc) hg hm (by decide +kernel) (pa_cons he pa_nil hs) (pk_cons pe_bl pk_nil) (he := hE) (hpl := by rw [hE]; rfl)
end

/-! ### dicts made of pairs -/
theorem mergeK_nil' : ∀ {kvs acc : List (Key × V)}, ((acc ++ kvs).map (·.1)).Nodup → mergeK acc kvs = acc ++ kvs
  | [], acc, _ => by simp [mergeK]
  | (k, v) :: r, acc, h => by
    have hk : k ∉ acc.map (·.1) := by
      rw [List.map_append, List.map_cons, List.nodup_append] at h
      exact fun hm => h.2.2 k hm k List.mem_cons_self rfl
    have hv : valV acc k = none := by
      cases e : valV acc k with
      | none => rfl
      | some v => exact absurd (valV_in e) hk
    have e1 : mergeK acc ((k, v) :: r) = mergeK (putK acc k v) r := rfl
    rw [e1, putK_new v hv, mergeK_nil' (by simpa using h)]
    simp
theorem mergeK_nil {kvs : List (Key × V)} (h : (kvs.map (·.1)).Nodup) : mergeK [] kvs = kvs := by simpa using mergeK_nil' (acc := []) (by simpa using h)
/-- the pairs of texts and values, as a list of tuples told -/
theorem pairs_dict {K : PySem.W.Frag} {H : Hp} {g : Str → V} : ∀ {ls : List Str} {ys : List V}, Paired (fun x y => ∃ t l, x = V.str l ∧ y = V.ref t ∧ H t = some (.tup [.str l, g l])) (ls.map V.str) ys →
    ∃ ps : List Addr, ys = ps.map V.ref ∧ Paired (fun p kv => SqT K H p [kV kv.1, kv.2]) ps (ls.map fun l => ((Sum.inr l : Key), g l))
  | [], _, .nil => ⟨[], rfl, .nil⟩
  | l :: r, _, .cons h t => by
    obtain ⟨q, l', e, rfl, ht⟩ := h
    cases e
    obtain ⟨ps, rfl, hp⟩ := pairs_dict t
    exact ⟨q :: ps, rfl, .cons (.inl (.inl ht)) hp⟩
theorem strs_filter {p : Str → Bool} {f : V → Bool} (h : ∀ l, f (.str l) = p l) : ∀ ls : List Str, (ls.map V.str).filter f = (ls.filter p).map V.str
  | [] => rfl
  | l :: r => by
    rw [List.map_cons]
    cases e : p l with
    | true => rw [List.filter_cons_of_pos (by rw [h, e]), List.filter_cons_of_pos e, strs_filter h r]; rfl
    | false => rw [List.filter_cons_of_neg (by rw [h, e]; simp), List.filter_cons_of_neg (by rw [e]; simp), strs_filter h r]
/-- a table's pairs, by its keys -/
theorem dW_keys {ws : Ws} (h : (ws.map (·.1)).Nodup) (p : Int → Bool) : dW (ws.filter fun e => p e.2) = ((ws.map (·.1)).filter fun l => p ((get ws l).getD 0)).map fun l => ((Sum.inr l : Key), V.int ((get ws l).getD 0)) := by
  have key : ∀ e ∈ ws, (get ws e.1).getD 0 = e.2 := fun e he => by rw [get_of_mem (v := e.2) h he]; rfl
  have aux : ∀ r : Ws, (∀ e ∈ r, (get ws e.1).getD 0 = e.2) → dW (r.filter fun e => p e.2) = ((r.map (·.1)).filter fun l => p ((get ws l).getD 0)).map fun l => ((Sum.inr l : Key), V.int ((get ws l).getD 0)) := by
    intro r
    induction r with
    | nil => exact fun _ => rfl
    | cons e r ih =>
      intro hr
      have h1 := hr e List.mem_cons_self
      have h2 := ih fun x hx => hr x (List.mem_cons_of_mem _ hx)
      cases z : p e.2 with
      | true =>
        rw [List.filter_cons_of_pos (by exact z), List.map_cons, List.filter_cons_of_pos (by simp only [h1]; exact z), List.map_cons, ← h2]
        show _ :: _ = _
        rw [h1]; rfl
      | false => rw [List.filter_cons_of_neg (by rw [z]; simp), List.map_cons, List.filter_cons_of_neg (by simp only [h1, z]; simp), ← h2]
  exact aux ws key
theorem dW_all {ws : Ws} (h : (ws.map (·.1)).Nodup) : dW ws = (ws.map (·.1)).map fun l => ((Sum.inr l : Key), V.int ((get ws l).getD 0)) := by
  have := dW_keys h fun _ => true
  rwa [List.filter_eq_self.mpr fun _ _ => rfl, List.filter_eq_self.mpr fun _ _ => rfl] at this
theorem dW_nodup {ws : Ws} (h : Rising ltS ws) : ((dW ws).map (·.1)).Nodup := (WK.dW (rising_nodup linS h)).nd
/-- one dict put over another -/
theorem WK.merge {kvs more : List (Key × V)} {acc ws : Ws} (h : WK kvs acc) (h2 : WK more ws) (hs : (ws.map (·.1)).Nodup) : WK (mergeK kvs more) (over acc ws) := by
  have vm : ∀ (more kvs : List (Key × V)) (k : Key), (more.map (·.1)).Nodup → valV (mergeK kvs more) k = (match valV more k with | some v => some v | none => valV kvs k) := by
    intro more
    induction more with
    | nil => exact fun kvs k _ => rfl
    | cons p r ih =>
      intro kvs k hn
      obtain ⟨n1, n2⟩ := List.nodup_cons.mp hn
      show valV (mergeK (putK kvs p.1 p.2) r) k = _
      rw [ih _ k n2, valV_put]
      by_cases e : p.1 = k
      · subst e
        have : valV r p.1 = none := by
          cases z : valV r p.1 with
          | none => rfl
          | some v => exact absurd (valV_in z) n1
        rw [this, valV_pos rfl, if_pos rfl]
      · rw [valV_neg e, if_neg fun z => e z.symm]
  have nd : ∀ (more kvs : List (Key × V)), (kvs.map (·.1)).Nodup → ((mergeK kvs more).map (·.1)).Nodup := by
    intro more
    induction more with
    | nil => exact fun kvs h => h
    | cons p r ih => exact fun kvs h => ih _ (nd_putK' h)
  have km : ∀ (more kvs : List (Key × V)) (k : Key), k ∈ (mergeK kvs more).map (·.1) → k ∈ more.map (·.1) ∨ k ∈ kvs.map (·.1) := by
    intro more
    induction more with
    | nil => exact fun kvs k h => .inr h
    | cons p r ih =>
      intro kvs k h
      rcases ih _ k h with h | h
      · exact .inl (List.mem_cons_of_mem _ h)
      · rcases mem_putK h with rfl | h
        · exact .inl List.mem_cons_self
        · exact .inr h
  refine ⟨nd more kvs h.nd, fun k hk => ?_, fun l => ?_⟩
  · rcases km more kvs k hk with hk | hk
    · exact h2.ks k hk
    · exact h.ks k hk
  · rw [vm more kvs _ h2.nd, h2.vl, get_over l ws acc hs, h.vl]
    cases get ws l <;> rfl
/-- the numbers of a play, as values -/
def nums (M : Book) : List V := (M.map (·.1)).map V.int
theorem nums_at {M : Book} {i : Nat} {y : V} (h : (nums M)[i]? = some y) : ∃ e, M[i]? = some e ∧ y = .int e.1 := by
  unfold nums at h
  rw [List.map_map, List.getElem?_map] at h
  obtain ⟨e, he, rfl⟩ := Option.map_eq_some_iff.mp h
  exact ⟨e, he, rfl⟩
theorem upto_take {U : List Str} {M : Book} (g : Good U M) {n : Int} {i : Nat} (h1 : ∀ e ∈ M.take i, e.1 ≤ n) (h2 : ∀ e, M[i]? = some e → n < e.1) : upto M n = M.take i := by
  have hd : ∀ e ∈ M.drop i, n < e.1 := by
    intro e he
    cases hi : M[i]? with
    | none =>
      rw [List.drop_eq_nil_of_le (List.getElem?_eq_none_iff.mp hi)] at he
      cases he
    | some x =>
      have hx := h2 x hi
      have : M.drop i = x :: M.drop (i + 1) := by
        obtain ⟨hl, ex⟩ := List.getElem?_eq_some_iff.mp hi
        rw [List.drop_eq_getElem_cons hl, ex]
      have srt : Rising ltI (M.drop i) := g.srt.sublist ((List.drop_sublist i M).map _)
      rw [this] at he srt
      rcases List.mem_cons.mp he with rfl | he
      · exact hx
      · have := (List.pairwise_cons.mp srt).1 e.1 (List.mem_map.mpr ⟨e, he, rfl⟩)
        have : x.1 < e.1 := this
        omega
  unfold upto
  conv => lhs; rw [← List.take_append_drop i M]
  rw [List.filter_append, List.filter_eq_self.mpr fun e he => by simpa using h1 e he, List.filter_eq_nil_iff.mpr fun e he => by simpa using hd e he, List.append_nil]
theorem lookW_snoc {M : Book} {i : Nat} {e : Int × CueC} (h : M[i]? = some e) : lookW (M.take (i + 1)) = stepW (lookW (M.take i)) e.2 := by
  unfold lookW
  rw [take_snoc h, List.foldl_append]; rfl

/-! ## cuehall.names -/
section
variable {P : Program} {w : World} {K : PySem.W.Frag} {mg : Str → Option Value} {base : Heap}
def spWhole3 : Sp := sp3 fun x a b H Q _ => ∃ lo hi : Int, a = .int lo ∧ b = .int hi ∧ Pl H x ∧ Q (.bl (wholeV lo hi x)) H
def spWhole (lo hi : Int) : Sp := sp1 fun x H Q _ => Pl H x ∧ Q (.bl (wholeV lo hi x)) H
theorem sc_is_whole : FnScope ["thing", "least", "most"] ["thing", "least", "most"] (defScope s_is_whole) := ⟨rfl, rfl, rfl, by decide +kernel, rfl, by decide +kernel, by decide +kernel⟩
theorem d_is_whole (T : Txt K mg) : Def P w K mg base 1 "is_whole" ["thing", "least", "most"] (spWhole3) := by
  refine mkDef T.d_is_whole T.g_is_whole sc_is_whole (fun _ _ _ _ _ _ us hl => match us, hl with | [_, _, _], _ => rfl) len3 (BodyN.up fun cdv A outer s H vs Q E hr h => ?_)
  obtain ⟨x, _, _, rfl, lo, hi, rfl, rfl, hx, q⟩ := h
  have hu := hu_of hr
  refine ⟨_, (pss_one (ps_ret (pe_and (pe_callB call_isInt (by rfl) T.z_isinstance (by decide +kernel) (pa_cons (pv 0) (pa_cons (pe_bltn (v := .ty "int") rfl T.z_int (by decide +kernel) rfl) pa_nil))) (pe_and (pe_not (pe_callB call_isBl (by rfl) T.z_isinstance (by decide +kernel) (pa_cons (pv 0) (pa_cons (pe_bltn (v := .ty "bool") rfl T.z_bool (by decide +kernel) rfl) pa_nil)))) (pe_one (pe_chain op_le op_le (pv 1) (pv 0) (pv 2))))))), ?_⟩
  refine ⟨_, rfl, _, rfl, hx, _, rfl, ?_⟩
  cases x with
  | int i =>
    refine ⟨_, rfl, _, rfl, hx, _, rfl, _, rfl, ?_⟩
    refine ⟨_, rfl, _, rfl, _, _, rfl, rfl, _, rfl, ?_⟩
    by_cases h : lo ≤ i
    · rw [if_pos (decide_eq_true h)]
      refine ⟨_, rfl, _, _, rfl, rfl, ?_⟩
      have e : wholeV lo hi (.int i) = decide (i ≤ hi) := by simp [wholeV, h]
      rw [e] at q; exact q
    · rw [if_neg (by simpa using h)]
      have e : wholeV lo hi (.int i) = false := by simp [wholeV, h]
      rw [e] at q; exact q
  | bl b => exact ⟨_, rfl, _, rfl, hx, _, rfl, _, rfl, q⟩
  | _ => exact q
theorem sc_is_cue : FnScope ["thing"] ["thing"] (defScope s_is_cue) := ⟨rfl, rfl, rfl, by decide +kernel, rfl, by decide +kernel, by decide +kernel⟩
theorem d_is_cue (T : Txt K mg) : Def P w K mg base 2 "is_cue" ["thing"] (spWhole 1 999999) := by
  have d_is_whole := d_is_whole (P := P) (w := w) (base := base) T
  refine mkDef T.d_is_cue T.g_is_cue sc_is_cue (fun _ _ _ _ _ _ us hl => match us, hl with | [_], _ => rfl) len1 (BodyN.up fun cdv A outer s H vs Q E hr h => ?_)
  obtain ⟨x, rfl, hx, q⟩ := h
  have hu := hu_of hr
  refine ⟨_, (pss_one (ps_ret (pe_fn d_is_whole (hr.mono (by decide)) (by rfl) passL (pa_cons (pv 0) (pa_cons pe_int (pa_cons (pe_glob (v := .int 999999) rfl (T.g_LAST_CUE).choose_spec ⟨_, rfl⟩) pa_nil)))))), ?_⟩
  exact ⟨_, rfl, _, _, _, rfl, _, _, rfl, rfl, hx, q⟩
theorem sc_is_level : FnScope ["thing"] ["thing"] (defScope s_is_level) := ⟨rfl, rfl, rfl, by decide +kernel, rfl, by decide +kernel, by decide +kernel⟩
theorem d_is_level (T : Txt K mg) : Def P w K mg base 2 "is_level" ["thing"] (spWhole 0 100) := by
  have d_is_whole := d_is_whole (P := P) (w := w) (base := base) T
  refine mkDef T.d_is_level T.g_is_level sc_is_level (fun _ _ _ _ _ _ us hl => match us, hl with | [_], _ => rfl) len1 (BodyN.up fun cdv A outer s H vs Q E hr h => ?_)
  obtain ⟨x, rfl, hx, q⟩ := h
  have hu := hu_of hr
  refine ⟨_, (pss_one (ps_ret (pe_fn d_is_whole (hr.mono (by decide)) (by rfl) passL (pa_cons (pv 0) (pa_cons pe_int (pa_cons (pe_glob (v := .int 100) rfl (T.g_FULL).choose_spec ⟨_, rfl⟩) pa_nil)))))), ?_⟩
  exact ⟨_, rfl, _, _, _, rfl, _, _, rfl, rfl, hx, q⟩
theorem sc_is_fade : FnScope ["thing"] ["thing"] (defScope s_is_fade) := ⟨rfl, rfl, rfl, by decide +kernel, rfl, by decide +kernel, by decide +kernel⟩
theorem d_is_fade (T : Txt K mg) : Def P w K mg base 2 "is_fade" ["thing"] (spWhole 0 6000) := by
  have d_is_whole := d_is_whole (P := P) (w := w) (base := base) T
  refine mkDef T.d_is_fade T.g_is_fade sc_is_fade (fun _ _ _ _ _ _ us hl => match us, hl with | [_], _ => rfl) len1 (BodyN.up fun cdv A outer s H vs Q E hr h => ?_)
  obtain ⟨x, rfl, hx, q⟩ := h
  have hu := hu_of hr
  refine ⟨_, (pss_one (ps_ret (pe_fn d_is_whole (hr.mono (by decide)) (by rfl) passL (pa_cons (pv 0) (pa_cons pe_int (pa_cons (pe_glob (v := .int 6000) rfl (T.g_LONGEST_FADE).choose_spec ⟨_, rfl⟩) pa_nil)))))), ?_⟩
  exact ⟨_, rfl, _, _, _, rfl, _, _, rfl, rfl, hx, q⟩
theorem sc_is_moment : FnScope ["thing"] ["thing"] (defScope s_is_moment) := ⟨rfl, rfl, rfl, by decide +kernel, rfl, by decide +kernel, by decide +kernel⟩
theorem d_is_moment (T : Txt K mg) : Def P w K mg base 2 "is_moment" ["thing"] (spWhole 0 1000000000) := by
  have d_is_whole := d_is_whole (P := P) (w := w) (base := base) T
  refine mkDef T.d_is_moment T.g_is_moment sc_is_moment (fun _ _ _ _ _ _ us hl => match us, hl with | [_], _ => rfl) len1 (BodyN.up fun cdv A outer s H vs Q E hr h => ?_)
  obtain ⟨x, rfl, hx, q⟩ := h
  have hu := hu_of hr
  refine ⟨_, (pss_one (ps_ret (pe_fn d_is_whole (hr.mono (by decide)) (by rfl) passL (pa_cons (pv 0) (pa_cons pe_int (pa_cons (pe_glob (v := .int 1000000000) rfl (T.g_LAST_MOMENT).choose_spec ⟨_, rfl⟩) pa_nil)))))), ?_⟩
  exact ⟨_, rfl, _, _, _, rfl, _, _, rfl, rfl, hx, q⟩
end

theorem mem_letters (c : Nat) : decide (c ∈ (Str.ofString "abcdefghijklmnopqrstuvwxyz").cps.toList) = letter c := by
  have e : (Str.ofString "abcdefghijklmnopqrstuvwxyz").cps.toList = (List.range 26).map (fun i => 97 + i) := by decide +kernel
  rw [e, letter, Bool.eq_iff_iff]
  simp only [decide_eq_true_eq, Bool.and_eq_true, List.mem_map, List.mem_range]
  exact ⟨fun ⟨i, h, e⟩ => by omega, fun h => ⟨c - 97, by omega, by omega⟩⟩
section
variable {P : Program} {w : World} {K : PySem.W.Frag} {mg : Str → Option Value} {base : Heap}
def spLamp : Sp := sp1 fun x H Q _ => Pl H x ∧ ∀ H', Same H H' → Q (.bl (lampV x)) H'
theorem sc_is_lamp : FnScope ["thing", "sign"] ["thing"] (defScope s_is_lamp) := ⟨rfl, rfl, rfl, by decide +kernel, rfl, by decide +kernel, by decide +kernel⟩
theorem d_is_lamp (T : Txt K mg) : Def P w K mg base 1 "is_lamp" ["thing"] (spLamp) := by
  refine mkDef T.d_is_lamp T.g_is_lamp sc_is_lamp (fun _ _ _ _ _ _ us hl => match us, hl with | [_], _ => rfl) len1 (BodyN.up fun cdv A outer s H vs Q E hr h => ?_)
  obtain ⟨x, rfl, hx, q⟩ := h
  have hu := hu_of hr
  refine ⟨_, (pss_one (ps_ret (pe_and (pe_callB call_isStr (by rfl) T.z_isinstance (by decide +kernel) (pa_cons (pv 0) (pa_cons (pe_bltn (v := .ty "str") rfl T.z_str (by decide +kernel) rfl) pa_nil))) (pe_and (pe_chain op_le op_le pe_int (pe_callB call_len_str (by rfl) T.z_len (by decide +kernel) (pa_cons (pv 0) pa_nil)) (pe_glob (v := .int 8) rfl (T.g_LONGEST).choose_spec ⟨_, rfl⟩)) (pe_one (pe_callB (cr_all rfl) (by rfl) T.z_all (by decide +kernel) (pa_cons (pe_lc (own := [("sign", 1)]) rfl sc_is_lamp.nd (pi_str (pv 0)) (blkOk_by (own := [("sign", 1)]) (N := ["thing", "sign"]) (sc := defScope s_is_lamp) (by decide +kernel)) (fun _ _ _ _ _ => pg_name (i := 1) sc_is_lamp.nd rfl (Or.inl rfl)) (fun _ _ _ _ _ => pts_nil) (fun _ _ _ _ _ => (pe_cmpR op_in_sign (pv 1) (pe_glob (v := .str "abcdefghijklmnopqrstuvwxyz") rfl (T.g_LETTERS).choose_spec ⟨_, rfl⟩) rfl))) pa_nil))))))), ?_⟩
  refine ⟨_, rfl, _, rfl, hx, _, rfl, ?_⟩
  cases x with
  | str z =>
    have hz : z.length ≤ 100000 := hx.1
    have hs : z.length ≤ sizeLine := Nat.le_trans hz (by rw [sizeLine_eq]; decide)
    refine iteT ⟨_, rfl, _, rfl, hs, _, _, rfl, rfl, _, rfl, ?_⟩
    by_cases h1 : (1 : Int) ≤ z.length
    · rw [if_pos (decide_eq_true h1)]
      refine ⟨_, _, rfl, rfl, _, rfl, ?_⟩
      by_cases h2 : (z.length : Int) ≤ 8
      · rw [if_pos (decide_eq_true h2)]
        refine ⟨_, rfl, z, rfl, ?_⟩
        intro D nD
        refine lc_pure (walk_sgn (z := z)) nD yes (fun v => match v with | .str y => .bl (y.cps.toList.all letter) | _ => .non) ?_ ?_ (fun _ _ => trivial) (fun x _ H _ Q' k => tt_yes x k) ?_ ?_
        · rw [sgn, List.length_map, sizeLine_eq]
          have : z.cps.toList.length = z.length := by simp [Str.length]
          omega
        · exact fun _ => rfl
        · intro v hv _ H' s1 Q' k
          obtain ⟨c, _, rfl⟩ := List.mem_map.mp hv
          refine ⟨_, rfl, _, _, rfl, rfl, ?_⟩
          rw [mem_letters]
          have := k H' (Same.refl _)
          simpa using this
        · intro H' s1 hD
          rw [filter_yes] at hD
          refine ⟨D, z.cps.toList.map letter, rfl, .inl (.inl (by rw [hD, sgn, List.map_map, List.map_map]; congr 2; refine List.map_congr_left fun c _ => ?_; simp)), ?_⟩
          have e : (List.map letter z.cps.toList).all id = z.cps.toList.all letter := by simp [List.all_map]
          have e2 : lampV (.str z) = z.cps.toList.all letter := by
            have a : 1 ≤ z.length := by omega
            have b : z.length ≤ 8 := by omega
            simp [lampV, lampS, a, b]
          rw [e, ← e2]
          exact q H' s1
      · rw [if_neg (by simpa using h2)]
        have e : lampV (.str z) = false := by
          have b : ¬ z.length ≤ 8 := by omega
          simp [lampV, lampS, b]
        have := q H (Same.refl H)
        rw [e] at this; exact this
    · rw [if_neg (by simpa using h1)]
      have e : lampV (.str z) = false := by
        have b : ¬ 1 ≤ z.length := by omega
        simp only [lampV, lampS, decide_eq_false b, Bool.false_and]
      have := q H (Same.refl H)
      rw [e] at this; exact ⟨_, rfl, iteF this⟩
  | _ => exact q H (Same.refl H)
end

/-! ## the law's draws -/
/-- the law's scrambler -/
def mixed (c k : Int) : Int :=
  let one := (c + 7919 * k + 104729) * 48271 % 2147483647
  (one * one + 69621 * one) % 2147483629 / 7
theorem mixed_nn (c k : Int) : 0 ≤ mixed c k ∧ mixed c k < 306783376 := by
  unfold mixed; simp only; omega
section
variable {P : Program} {w : World} {K : PySem.W.Frag} {mg : Str → Option Value} {base : Heap}
def spMixed : Sp := sp2 fun a b H Q _ => ∃ c k : Int, a = .int c ∧ b = .int k ∧ Q (.int (mixed c k)) H
theorem sc__law_mixed : FnScope ["_law_cell_here", "_law_k", "_law_one"] ["_law_cell_here", "_law_k"] (defScope s__law_mixed) := ⟨rfl, rfl, rfl, by decide +kernel, rfl, by decide +kernel, by decide +kernel⟩
theorem d__law_mixed (T : Txt K mg) : Def P w K mg base 1 "_law_mixed" ["_law_cell_here", "_law_k"] (spMixed) := by
  refine mkDef T.d__law_mixed T.g__law_mixed sc__law_mixed (fun _ _ _ _ _ _ us hl => match us, hl with | [_, _], _ => rfl) len2 (BodyN.up fun cdv A outer s H vs Q E hr h => ?_)
  obtain ⟨_, _, rfl, c, k, rfl, rfl, q⟩ := h
  have hu := hu_of hr
  refine ⟨_, (pss_cons (ps_set (i := 2) sc__law_mixed.nd rfl (Or.inl rfl) (pe_op op_mod (pe_op op_mul (pe_op op_add (pe_op op_add (pv 0) (pe_op op_mul pe_int (pv 1))) pe_int) pe_int) pe_int))
    (pss_one (ps_ret (pe_op op_fdiv (pe_op op_mod (pe_op op_add (pe_op op_mul (pv 2) (pv 2)) (pe_op op_mul pe_int (pv 2))) pe_int) pe_int)))), ?_⟩
  refine ⟨_, rfl, _, rfl, _, _, rfl, rfl, .inl ⟨by decide, by decide⟩, _, _, rfl, rfl, _, _, rfl, rfl, _, _, rfl, rfl, .inr ⟨by decide, by decide⟩, _, _, rfl, rfl, by simp, ?_⟩
  have h1 : 0 ≤ (c + 7919 * k + 104729) * 48271 % 2147483647 := Int.emod_nonneg _ (by decide)
  have h2 : (c + 7919 * k + 104729) * 48271 % 2147483647 < 2147483647 := Int.emod_lt_of_pos _ (by decide)
  exact ⟨_, rfl, _, rfl, _, _, rfl, rfl, .inl ⟨by omega, by omega⟩, _, rfl, _, _, rfl, rfl, .inl ⟨by decide, by decide⟩, _, _, rfl, rfl, _, _, rfl, rfl, by simp, _, _, rfl, rfl, ⟨by decide, by decide⟩, q⟩
def spIsWhole : Sp := sp1 fun x H Q _ => Pl H x ∧ Q (.bl (isInt x && !isBl x)) H
theorem sc__law_whole : FnScope ["_law_found"] ["_law_found"] (defScope s__law_whole) := ⟨rfl, rfl, rfl, by decide +kernel, rfl, by decide +kernel, by decide +kernel⟩
theorem d__law_whole (T : Txt K mg) : Def P w K mg base 1 "_law_whole" ["_law_found"] (spIsWhole) := by
  refine mkDef T.d__law_whole T.g__law_whole sc__law_whole (fun _ _ _ _ _ _ us hl => match us, hl with | [_], _ => rfl) len1 (BodyN.up fun cdv A outer s H vs Q E hr h => ?_)
  obtain ⟨x, rfl, hx, q⟩ := h
  have hu := hu_of hr
  refine ⟨_, (pss_one (ps_ret (pe_and (pe_callB call_isInt (by rfl) T.z_isinstance (by decide +kernel) (pa_cons (pv 0) (pa_cons (pe_bltn (v := .ty "int") rfl T.z_int (by decide +kernel) rfl) pa_nil))) (pe_one (pe_not (pe_callB call_isBl (by rfl) T.z_isinstance (by decide +kernel) (pa_cons (pv 0) (pa_cons (pe_bltn (v := .ty "bool") rfl T.z_bool (by decide +kernel) rfl) pa_nil)))))))), ?_⟩
  refine ⟨_, rfl, _, rfl, hx, _, rfl, ?_⟩
  cases e : isInt x with
  | false => rw [e] at q; exact iteF q
  | true =>
    rw [e] at q
    exact iteT ⟨_, rfl, _, rfl, hx, _, rfl, q⟩
/-- an index that lies in a list -/
theorem at_in {α : Type} {xs : List α} {i : Int} {n : Nat} (h : xs.length = n) (h0 : 0 ≤ i) (h1 : i < n) : ∃ v, v ∈ xs ∧ atI xs i = some v := by
  subst h
  have hj : i.toNat < xs.length := by omega
  refine ⟨xs[i.toNat], List.getElem_mem hj, ?_⟩
  have := atI_nat (xs := xs) (j := i.toNat) (v := xs[i.toNat]) (by simp)
  rwa [Int.toNat_of_nonneg h0] at this
end

/-! ## Plays on the heap -/
/-- an attribute, the text by places told apart -/
theorem pe_fldK {X : Cx} {K : PySem.W.Frag} {e : Expr} {ta : TE} {f : Str} {pos : Pos} (hK : X.K = K) (he : PE X e ta) (hb : attributeBase e f X.env (eval e X.env) = eval e X.env) : PE X (.Attribute e f pos) (tFld K ta f) := by
  subst hK; exact pe_fld he hb
theorem s_ne {a b : Str} (h : decide (a = b) = false) : ¬ a = b := of_decide_eq_false h
/-- the attributes of a cue, in the order of its __init__ -/
def cueF (u d : Int) (f : Bool) (w : Addr) : List (Str × V) := [("up", .int u), ("down", .int d), ("fresh", .bl f), ("words", .ref w)]
theorem lookup_hit {a b : Str} {x : V} {r : List (Str × V)} (h : decide (a = b) = true) : List.lookup a ((b, x) :: r) = some x := by
  have : a = b := of_decide_eq_true h
  subst this
  simp [List.lookup]
theorem lookup_miss {a b : Str} {x : V} {r : List (Str × V)} (h : decide (a = b) = false) : List.lookup a ((b, x) :: r) = List.lookup a r := by
  have : (a == b) = false := by simpa using of_decide_eq_false h
  simp [List.lookup, this]
theorem cueF_up {u d : Int} {f : Bool} {w : Addr} : (cueF u d f w).lookup ("up" : Str) = some (V.int u) := lookup_hit (by decide +kernel)
theorem cueF_down {u d : Int} {f : Bool} {w : Addr} : (cueF u d f w).lookup ("down" : Str) = some (V.int d) := (lookup_miss (by decide +kernel)).trans (lookup_hit (by decide +kernel))
theorem cueF_fresh {u d : Int} {f : Bool} {w : Addr} : (cueF u d f w).lookup ("fresh" : Str) = some (V.bl f) := (lookup_miss (by decide +kernel)).trans ((lookup_miss (by decide +kernel)).trans (lookup_hit (by decide +kernel)))
theorem cueF_words {u d : Int} {f : Bool} {w : Addr} : (cueF u d f w).lookup ("words" : Str) = some (V.ref w) := (lookup_miss (by decide +kernel)).trans ((lookup_miss (by decide +kernel)).trans ((lookup_miss (by decide +kernel)).trans (lookup_hit (by decide +kernel))))
def playF (d : Addr) : List (Str × V) := [("kept", .ref d)]
theorem playF_kept {d : Addr} : (playF d).lookup ("kept" : Str) = some (V.ref d) := lookup_hit (by decide +kernel)
theorem playF_no {d : Addr} {m : Str} (h : decide (m = ("kept" : Str)) = false) : (playF d).lookup m = none := (lookup_miss h).trans rfl
def RcP (K : PySem.W.Frag) : RcT := fun o u d f w => ∃ dx, o = .ins (He.ga K "Cue") dx (cueF u d f w)
def RcM : RcT := fun o u d f w => o = .lst [.int u, .int d, .bl f, .ref w]
/-- a play at p: its dict at d, its cues where ad says; M what it holds -/
structure PlayAt (K : PySem.W.Frag) (U : List Str) (H : Hp) (p d : Addr) (ad : Ads) (M : Book) : Prop where
  ob : ∃ dx, H p = some (.ins (He.ga K "Play") dx (playF d))
  tb : TabAt (RcP K) none H d ad M
  off : ¬ foot d ad M p
  good : Good U M
  lamps : Lamps U
def footP (p d : Addr) (ad : Ads) (M : Book) (b : Addr) : Prop := b = p ∨ foot d ad M b
section
variable {K : PySem.W.Frag} {U : List Str} {H H' : Hp} {p d : Addr} {ad : Ads} {M : Book}
theorem PlayAt.has (T : PlayAt K U H p d ad M) {b : Addr} (h : footP p d ad M b) : ∃ o, H b = some o := by
  rcases h with rfl | h
  · obtain ⟨dx, e⟩ := T.ob
    exact ⟨_, e⟩
  · exact T.tb.has h
theorem PlayAt.frame (T : PlayAt K U H p d ad M) (k : ∀ b o, footP p d ad M b → H b = some o → H' b = some o) : PlayAt K U H' p d ad M := by
  obtain ⟨dx, e⟩ := T.ob
  exact ⟨⟨dx, k _ _ (.inl rfl) e⟩, T.tb.frame fun b o h => k b o (.inr h), T.off, T.good, T.lamps⟩
theorem PlayAt.same (T : PlayAt K U H p d ad M) (s : Same H H') : PlayAt K U H' p d ad M := T.frame fun b o _ e => s b o e
theorem PlayAt.ne_p (T : PlayAt K U H p d ad M) {b : Addr} (h : foot d ad M b) : b ≠ p := fun z => T.off (z ▸ h)
/-- the words of a cue changed -/
theorem PlayAt.word (T : PlayAt K U H p d ad M) {n : Int} {c : CueC} {f : Ws → Ws} (hn : get M n = some c) (k : ∀ b o, footP p d ad M b → b ≠ (ad n).2 → H b = some o → H' b = some o) (hw : WordsAt H' (ad n).2 (f c.words)) (g : Good U (setW n f M)) :
    PlayAt K U H' p d ad (setW n f M) := by
  obtain ⟨dx, e⟩ := T.ob
  refine ⟨⟨dx, k _ _ (.inl rfl) ?_ e⟩, T.tb.word hn (fun b o h => k b o (.inr h)) hw, fun h => T.off (foot_word.mp h), g, T.lamps⟩
  exact fun z => T.off (z ▸ .inr ⟨n, c, hn, .inr rfl⟩)
/-- what stands at a cue -/
theorem PlayAt.cue (T : PlayAt K U H p d ad M) {n : Int} {c : CueC} (hn : get M n = some c) : ∃ dx kvs, H (ad n).1 = some (.ins (He.ga K "Cue") dx (cueF c.up c.down c.fresh (ad n).2)) ∧ H (ad n).2 = some (.dK kvs) ∧ WK kvs c.words := by
  obtain ⟨o, h1, dx, rfl⟩ := T.tb.row n c hn
  obtain ⟨kvs, h2, h3⟩ := T.tb.wrd n c hn
  exact ⟨dx, kvs, h1, h2, h3⟩
theorem PlayAt.kept (T : PlayAt K U H p d ad M) : ∃ dx kvs, H p = some (.ins (He.ga K "Play") dx (playF d)) ∧ H d = some (.dK kvs) ∧ TK kvs M fun n => (ad n).1 := by
  obtain ⟨dx, e⟩ := T.ob
  obtain ⟨kvs, h, k⟩ := T.tb.top
  exact ⟨dx, kvs, e, h, k⟩
end
def cueOf (M : Book) : V → Option CueC
  | .int n => get M n
  | _ => none
theorem cueOf_range {U : List Str} {M : Book} (g : Good U M) {x : V} {c : CueC} (h : cueOf M x = some c) : wholeV 1 999999 x = true := by
  cases x with
  | int n =>
    have := g.num _ (get_mem h)
    simp [wholeV, this.1, this.2]
  | _ => cases h

section
variable {P : Program} {w : World} {K : PySem.W.Frag} {mg : Str → Option Value} {base : Heap}
/-- an own error is wished for -/
abbrev Er (K : PySem.W.Frag) (x : Str) (E : XK) (H : Hp) : Prop := ∀ H', Same H H' → E (.ref (He.ga K x)) none H'
def spNeed (K : PySem.W.Frag) : Sp := sp2 fun l v H Q E => Pl H l ∧ Pl H v ∧ (lampV l = true → wholeV 0 100 v = true → ∀ H', Same H H' → Q .non H') ∧ (lampV l = false → Er K "NoLamp" E H) ∧ (lampV l = true → wholeV 0 100 v = false → Er K "NoLevel" E H)
theorem sc_need_word : FnScope ["lamp", "level"] ["lamp", "level"] (defScope s_need_word) := ⟨rfl, rfl, rfl, by decide +kernel, rfl, by decide +kernel, by decide +kernel⟩
theorem d_need_word (T : Txt K mg) : Def P w K mg base 3 "need_word" ["lamp", "level"] (spNeed K) := by
  have d_is_lamp := d_is_lamp (P := P) (w := w) (base := base) T
  have d_is_level := d_is_level (P := P) (w := w) (base := base) T
  refine mkDef T.d_need_word T.g_need_word sc_need_word (fun _ _ _ _ _ _ us hl => match us, hl with | [_, _], _ => rfl) len2 (fun cdv A outer s H vs Q E hr h => ?_)
  obtain ⟨l, v, rfl, hl, hv, q, e1, e2⟩ := h
  have hu := hu_of hr
  refine ⟨_, (pss_cons (ps_if (pt_not (pt_val (pe_fn d_is_lamp (hr.mono (by decide)) (by rfl) (passes_call (takes_of rfl rfl rfl rfl) fun _ _ _ _ h => h) (pa_cons (pv 0) pa_nil))))
    (pss_one (ps_raise rfl (takes_of rfl rfl rfl rfl) (pmk_own PySem.F.excBase_ValueError T.x_NoLamp.1 T.g_NoLamp T.x_NoLamp.2.1 (raises_own T.x_NoLamp.2.2.1 T.x_NoLamp.2.2.2) rfl)))
    pss_nil)
    (pss_one (ps_if (pt_not (pt_val (pe_fn d_is_level (hr.mono (by decide)) (by rfl) (passes_call (takes_of rfl rfl rfl rfl) fun _ _ _ _ h => h) (pa_cons (pv 1) pa_nil))))
    (pss_one (ps_raise rfl (takes_of rfl rfl rfl rfl) (pmk_own PySem.F.excBase_ValueError T.x_NoLevel.1 T.g_NoLevel T.x_NoLevel.2.1 (raises_own T.x_NoLevel.2.2.1 T.x_NoLevel.2.2.2) rfl)))
    pss_nil))), ?_⟩
  refine ⟨_, rfl, _, rfl, hl, fun H1 s1 => ⟨_, rfl, ?_⟩⟩
  cases c1 : lampV l with
  | false => exact e1 c1 H1 s1
  | true =>
    refine ⟨_, rfl, _, rfl, Pl.same s1 hv, _, rfl, ?_⟩
    cases c2 : wholeV 0 100 v with
    | false => exact e2 c1 c2 H1 s1
    | true => exact q c1 c2 H1 s1
def spCueInit (K : PySem.W.Frag) : Sp := sp4 fun s u dn f H Q _ => ∃ (x dx : Addr) (a b : Int) (c : Bool), s = .ref x ∧ u = .int a ∧ dn = .int b ∧ f = .bl c ∧ H x = some (.ins (He.ga K "Cue") dx []) ∧
  ∀ w' H', H w' = none → w' ≠ x → H' x = some (.ins (He.ga K "Cue") dx (cueF a b c w')) → H' w' = some (.dK []) → (∀ y o, H y = some o → y ≠ x → H' y = some o) → Q .non H'
theorem sc_Cue___init__ : FnScope ["self", "up", "down", "fresh"] ["self", "up", "down", "fresh"] (defScope s_Cue___init__) := ⟨rfl, rfl, rfl, by decide +kernel, rfl, by decide +kernel, by decide +kernel⟩
theorem d_Cue___init__ (T : Txt K mg) : IDef P w K mg base (He.ma K (He.ga K "Cue") "__init__") 1 ["self", "up", "down", "fresh"] (spCueInit K) := by
  refine mkI T.d_Cue___init__ sc_Cue___init__ (fun _ _ _ _ _ _ us hl => match us, hl with | [_, _, _, _], _ => rfl) len4 (BodyN.up fun cdv A outer s H vs Q E hr h => ?_)
  obtain ⟨_, _, _, _, rfl, x, dx, a, b, c, rfl, rfl, rfl, rfl, hx, q⟩ := h
  have hu := hu_of hr
  refine ⟨_, (pss_cons (ps_fld (pv 0) (pv 1) rfl)
    (pss_cons (ps_fld (pv 0) (pv 2) rfl)
    (pss_cons (ps_fld (pv 0) (pv 3) rfl)
    (pss_one (ps_fld (pv 0) pe_dnewK rfl))))), ?_⟩
  have p1 : putF ("up" : Str) (V.int a) [] = [(("up" : Str), V.int a)] := rfl
  refine ⟨_, rfl, _, rfl, x, _, dx, _, rfl, hx, T.c_Cue, T.n_Cue_up, by simp, ?_⟩
  refine ⟨_, rfl, _, rfl, x, _, dx, _, rfl, upd_same, T.c_Cue, T.n_Cue_down, Nat.le_trans (Nat.succ_le_succ (length_putF _ _ _)) (by simp), ?_⟩
  refine ⟨_, rfl, _, rfl, x, _, dx, _, rfl, upd_same, T.c_Cue, T.n_Cue_fresh, Nat.le_trans (Nat.succ_le_succ (Nat.le_trans (length_putF _ _ _) (Nat.succ_le_succ (length_putF _ _ _)))) (by simp), ?_⟩
  intro w' nw
  have nx : w' ≠ x := fun z => by
    rw [z, upd_same] at nw; cases nw
  refine ⟨_, rfl, x, _, dx, _, rfl, by rw [upd_ne nx.symm]; exact upd_same, T.c_Cue, T.n_Cue_words, Nat.le_trans (Nat.succ_le_succ (Nat.le_trans (length_putF _ _ _) (Nat.succ_le_succ (Nat.le_trans (length_putF _ _ _) (Nat.succ_le_succ (length_putF _ _ _)))))) (by simp), ?_⟩
  have hw : H w' = none := by
    rw [upd_ne nx, upd_ne nx, upd_ne nx] at nw; exact nw
  refine q w' _ hw nx ?_ (by rw [upd_ne nx]; exact upd_same) fun y o e ne => by rw [upd_ne ne, upd_ne (ne_of_none e hw), upd_ne ne, upd_ne ne, upd_ne ne]; exact e
  rw [upd_same]
  have f1 : ¬ (("up" : Str) = "down") := by decide +kernel
  have f2 : ¬ (("up" : Str) = "fresh") := by decide +kernel
  have f3 : ¬ (("down" : Str) = "fresh") := by decide +kernel
  have f4 : ¬ (("up" : Str) = "words") := by decide +kernel
  have f5 : ¬ (("down" : Str) = "words") := by decide +kernel
  have f6 : ¬ (("fresh" : Str) = "words") := by decide +kernel
  simp only [putF, if_neg f1, if_neg f2, if_neg f3, if_neg f4, if_neg f5, if_neg f6]
  rfl
def spPlayInit (K : PySem.W.Frag) : Sp := sp1 fun s H Q _ => ∃ x dx, s = .ref x ∧ H x = some (.ins (He.ga K "Play") dx []) ∧
  ∀ d H', H d = none → H' x = some (.ins (He.ga K "Play") dx (playF d)) → H' d = some (.dK []) → (∀ y o, H y = some o → y ≠ x → H' y = some o) → Q .non H'
theorem sc_Play___init__ : FnScope ["self"] ["self"] (defScope s_Play___init__) := ⟨rfl, rfl, rfl, by decide +kernel, rfl, by decide +kernel, by decide +kernel⟩
theorem d_Play___init__ (T : Txt K mg) : IDef P w K mg base (He.ma K (He.ga K "Play") "__init__") 1 ["self"] (spPlayInit K) := by
  refine mkI T.d_Play___init__ sc_Play___init__ (fun _ _ _ _ _ _ us hl => match us, hl with | [_], _ => rfl) len1 (BodyN.up fun cdv A outer s H vs Q E hr h => ?_)
  obtain ⟨_, rfl, x, dx, rfl, hx, q⟩ := h
  have hu := hu_of hr
  refine ⟨_, (pss_one (ps_fld (pv 0) pe_dnewK rfl)), ?_⟩
  intro d nd
  have nx : d ≠ x := (ne_of_none hx nd).symm
  refine ⟨_, rfl, x, _, dx, _, rfl, by rw [upd_ne nx.symm]; exact hx, T.c_Play, T.n_Play_kept, by simp, ?_⟩
  exact q d _ nd (by rw [upd_same]; rfl) (by rw [upd_ne nx]; exact upd_same) fun y o e ne => by rw [upd_ne ne, upd_ne (ne_of_none e nd)]; exact e
def spSure (K : PySem.W.Frag) : Sp := sp2 fun s x H Q E => ∃ p d ad M U, s = .ref p ∧ PlayAt K U H p d ad M ∧ Pl H x ∧ (∀ n c, x = .int n → get M n = some c → Q (.ref (ad n).1) H) ∧ (cueOf M x = none → Er K "NoCue" E H)
theorem sc_Play_sure : FnScope ["self", "number"] ["self", "number"] (defScope s_Play_sure) := ⟨rfl, rfl, rfl, by decide +kernel, rfl, by decide +kernel, by decide +kernel⟩
theorem d_Play_sure (T : Txt K mg) : MDef P w K mg base (He.ga K "Play") 3 "sure" ["self", "number"] [] (spSure K) := by
  have d_is_cue := d_is_cue (P := P) (w := w) (base := base) T
  refine mkM T.d_Play_sure T.m_Play_sure sc_Play_sure (fun _ _ _ _ _ _ us hl => match us, hl with | [_, _], _ => rfl) len2 (fun cdv A outer s H vs Q E hr h => ?_)
  obtain ⟨_, x, rfl, p, d, ad, M, U, rfl, hp, hx, q, e1⟩ := h
  have hu := hu_of hr
  refine ⟨_, (pss_cons (ps_if (PW.pt (pw_or (pt_not (pt_val (pe_fn d_is_cue (hr.mono (by decide)) (by rfl) (passes_call (takes_of rfl rfl rfl rfl) fun _ _ _ _ h => h) (pa_cons (pv 1) pa_nil)))) (pw_or1 (pt_cmp (pc_dnotin (by exact hu) (pv 1) (pe_fld (pv 0) rfl))))))
    (pss_one (ps_raise rfl (takes_of rfl rfl rfl rfl) (pmk_own PySem.F.excBase_ValueError T.x_NoCue.1 T.g_NoCue T.x_NoCue.2.1 (raises_own T.x_NoCue.2.2.1 T.x_NoCue.2.2.2) rfl)))
    pss_nil)
    (pss_one (ps_ret (pe_dget (by exact hu) (pe_fld (pv 0) rfl) (pv 1) (fun _ _ => rfl))))), ?_⟩
  obtain ⟨dx, kvs, h1, h2, tk⟩ := hp.kept
  refine ⟨_, rfl, _, rfl, hx, _, rfl, ?_⟩
  cases c1 : wholeV 1 999999 x with
  | false =>
    refine iteT (iteT (e1 ?_ H (Same.refl H)))
    cases z : cueOf M x with
    | none => rfl
    | some c =>
      have := cueOf_range hp.good z
      rw [c1] at this; cases this
  | true =>
    cases x with
    | int n =>
      refine iteF ⟨_, rfl, _, rfl, p, _, dx, _, _, rfl, h1, T.c_Play, T.n_Play_kept, playF_kept, d, _, rfl, DGet.k (k := Sum.inl n) h2, _, rfl, ?_⟩
      rw [tk.vl]
      cases z : get M n with
      | none => exact iteT (e1 z H (Same.refl H))
      | some c => exact iteF ⟨_, rfl, p, _, dx, _, _, rfl, h1, T.c_Play, T.n_Play_kept, playF_kept, _, rfl, d, _, rfl, by rw [show some (V.ref (ad n).1) = valV kvs (Sum.inl n) by rw [tk.vl, z]; rfl]; exact DGet.k (k := Sum.inl n) h2, q n c rfl z⟩
    | _ => cases c1
end

section
variable {P : Program} {w : World} {K : PySem.W.Frag} {mg : Str → Option Value} {base : Heap}
/-- a play is changed, the rest is not -/
def Becomes (K : PySem.W.Frag) (U : List Str) (H : Hp) (p d : Addr) (ad : Ads) (M M' : Book) (k : Hp → Prop) : Prop :=
  ∀ H' ad', PlayAt K U H' p d ad' M' → Chg (footP p d ad M) H H' → Grow H (footP p d ad M) (footP p d ad' M') → k H'
def spPut (K : PySem.W.Frag) : Sp := sp5 fun s x u dn f H Q E => ∃ p d ad M U b, s = .ref p ∧ f = .bl b ∧ PlayAt K U H p d ad M ∧ Pl H x ∧ Pl H u ∧ Pl H dn ∧
  (wholeV 1 999999 x = false → Er K "NoCue" E H) ∧ (wholeV 1 999999 x = true → cueOf M x ≠ none → Er K "Taken" E H) ∧
  (wholeV 1 999999 x = true → cueOf M x = none → (wholeV 0 6000 u && wholeV 0 6000 dn) = false → Er K "NoTime" E H) ∧
  (wholeV 1 999999 x = true → cueOf M x = none → (wholeV 0 6000 u && wholeV 0 6000 dn) = true → 100 ≤ M.length → Er K "TooMany" E H) ∧
  (∀ n i j, x = .int n → u = .int i → dn = .int j → (1 ≤ n ∧ n ≤ 999999) → (0 ≤ i ∧ i ≤ 6000 ∧ 0 ≤ j ∧ j ≤ 6000) → get M n = none → M.length < 100 → Becomes K U H p d ad M (put ltI n ⟨i, j, b, []⟩ M) (Q .non))
theorem whole_int {lo hi : Int} {x : V} (h : wholeV lo hi x = true) : ∃ i, x = .int i ∧ lo ≤ i ∧ i ≤ hi := by
  cases x with
  | int i => exact ⟨i, rfl, by simpa [wholeV] using h⟩
  | _ => cases h
theorem whole_of {lo hi i : Int} (h : lo ≤ i ∧ i ≤ hi) : wholeV lo hi (.int i) = true := by simp [wholeV, h.1, h.2]
theorem sc_Play_put : FnScope ["self", "number", "up", "down", "fresh"] ["self", "number", "up", "down", "fresh"] (defScope s_Play_put) := ⟨rfl, rfl, rfl, by decide +kernel, rfl, by decide +kernel, by decide +kernel⟩
theorem f_Play_put (T : Txt K mg) {fd : FuncData} (F : FunD K "put" "Play.put" (defArgs s_Play_put) (defBody s_Play_put) (defScope s_Play_put) [V.int 0, V.int 0, V.bl false] [] (He.ma K (He.ga K "Play") "put") fd) : FnOk P w K mg base (L2.CX P w) 3 (He.ma K (He.ga K "Play") "put") fd ["self", "number", "up", "down", "fresh"] (spPut K) := by
  have d_Cue___init__ := d_Cue___init__ (P := P) (w := w) (base := base) T
  have d_is_cue := d_is_cue (P := P) (w := w) (base := base) T
  have d_is_fade := d_is_fade (P := P) (w := w) (base := base) T
  refine F.ok sc_Play_put len5 (fun cdv A outer s H vs Q E hr h => ?_)
  obtain ⟨_, x, u, dn, _, rfl, p, d, ad, M, U, b, rfl, rfl, hp, hx, hu', hd', e1, e2, e3, e4, q⟩ := h
  have hu := hu_of hr
  refine ⟨_, (pss_cons (ps_if (pt_not (pt_val (pe_fn d_is_cue (hr.mono (by decide)) (by rfl) (passes_call (takes_of rfl rfl rfl rfl) fun _ _ _ _ h => h) (pa_cons (pv 1) pa_nil))))
    (pss_one (ps_raise rfl (takes_of rfl rfl rfl rfl) (pmk_own PySem.F.excBase_ValueError T.x_NoCue.1 T.g_NoCue T.x_NoCue.2.1 (raises_own T.x_NoCue.2.2.1 T.x_NoCue.2.2.2) rfl)))
    pss_nil)
    (pss_cons (ps_if (pt_cmp (pc_din (by exact hu) (pv 1) (pe_fld (pv 0) rfl)))
    (pss_one (ps_raise rfl (takes_of rfl rfl rfl rfl) (pmk_own PySem.F.excBase_ValueError T.x_Taken.1 T.g_Taken T.x_Taken.2.1 (raises_own T.x_Taken.2.2.1 T.x_Taken.2.2.2) rfl)))
    pss_nil)
    (pss_cons (ps_if (PW.pt (pw_or (pt_not (pt_val (pe_fn d_is_fade (hr.mono (by decide)) (by rfl) (passes_call (takes_of rfl rfl rfl rfl) fun _ _ _ _ h => h) (pa_cons (pv 2) pa_nil)))) (pw_or1 (pt_not (pt_val (pe_fn d_is_fade (hr.mono (by decide)) (by rfl) (passes_call (takes_of rfl rfl rfl rfl) fun _ _ _ _ h => h) (pa_cons (pv 3) pa_nil)))))))
    (pss_one (ps_raise rfl (takes_of rfl rfl rfl rfl) (pmk_own PySem.F.excBase_ValueError T.x_NoTime.1 T.g_NoTime T.x_NoTime.2.1 (raises_own T.x_NoTime.2.2.1 T.x_NoTime.2.2.2) rfl)))
    pss_nil)
    (pss_cons (ps_if (pt_cmpR op_ge (pe_callB call_lenR (by rfl) T.z_len (by decide +kernel) (pa_cons (pe_fld (pv 0) rfl) pa_nil)) (pe_glob (v := .int 100) rfl (T.g_MOST_CUES).choose_spec ⟨_, rfl⟩) (nomark _))
    (pss_one (ps_raise rfl (takes_of rfl rfl rfl rfl) (pmk_own PySem.F.excBase_ValueError T.x_TooMany.1 T.g_TooMany T.x_TooMany.2.1 (raises_own T.x_TooMany.2.2.1 T.x_TooMany.2.2.2) rfl)))
    pss_nil)
    (pss_one (ps_dput hu (pe_fld (pv 0) rfl) (pv 1) (pe_mk T.k_Cue d_Cue___init__ (hr.mono (by decide)) (by rfl) T.g_Cue (passes_call (takes_of rfl rfl rfl rfl) fun _ _ _ _ h => h) (pa_cons (pv 2) (pa_cons (pv 3) (pa_cons (pv 4) pa_nil)))) rfl)))))), ?_⟩
  obtain ⟨dx, kvs, h1, h2, tk⟩ := hp.kept
  refine ⟨_, rfl, _, rfl, hx, _, rfl, ?_⟩
  cases c1 : wholeV 1 999999 x with
  | false => exact iteT (e1 c1 H (Same.refl H))
  | true =>
    obtain ⟨n, rfl, hn⟩ := whole_int c1
    refine iteF ⟨_, rfl, _, rfl, p, _, dx, _, _, rfl, h1, T.c_Play, T.n_Play_kept, playF_kept, d, _, rfl, DGet.k (k := Sum.inl n) h2, _, rfl, ?_⟩
    rw [tk.vl]
    cases c2 : get M n with
    | some c => exact iteT (e2 c1 (by show get M n ≠ none; rw [c2]; simp) H (Same.refl H))
    | none =>
      refine iteF ⟨_, rfl, _, rfl, hu', _, rfl, ?_⟩
      cases c3 : wholeV 0 6000 u with
      | false => exact iteT (iteT (e3 c1 c2 (by rw [c3]; rfl) H (Same.refl H)))
      | true =>
        refine iteF ⟨_, rfl, _, rfl, hd', _, rfl, ?_⟩
        cases c4 : wholeV 0 6000 dn with
        | false => exact iteT (e3 c1 c2 (by rw [c3, c4]; rfl) H (Same.refl H))
        | true =>
          refine iteF ⟨_, rfl, p, _, dx, _, _, rfl, h1, T.c_Play, T.n_Play_kept, playF_kept, d, kvs, rfl, .inl h2, _, _, rfl, rfl, _, rfl, ite2 (fun c5 => ?_) (fun c5 => ?_)⟩
          · have c5 : (100 : Int) ≤ kvs.length := of_decide_eq_true c5
            exact e4 c1 c2 (by rw [c3, c4]; rfl) (by rw [← tk.len hp.good.srt]; omega) H (Same.refl H)
          · have c5 : ¬ (100 : Int) ≤ kvs.length := fun z => c5 (decide_eq_true z)
            have hl : M.length < 100 := by rw [← tk.len hp.good.srt]; omega
            obtain ⟨i, rfl, hi⟩ := whole_int c3
            obtain ⟨j, rfl, hj⟩ := whole_int c4
            refine ⟨_, rfl, _, rfl, _, rfl, fun r dr nr ndr ner => ⟨_, _, _, _, rfl, r, dr, i, j, b, rfl, rfl, rfl, rfl, upd_same, fun w' H1 nw nwr er ew kp => ⟨rfl, ?_⟩⟩⟩
            have kp' : ∀ y o, H y = some o → H1 y = some o := fun y o e => kp y o (by rw [upd_ne (ne_of_none e nr), upd_ne (ne_of_none e ndr)]; exact e) (ne_of_none e nr)
            have nw' : H w' = none := by
              have : w' ≠ r := nwr
              rw [upd_ne this] at nw
              by_cases z : w' = dr
              · rw [z, upd_same] at nw; cases nw
              · rwa [upd_ne z] at nw
            refine ⟨_, rfl, p, _, dx, _, _, rfl, kp' _ _ h1, T.c_Play, T.n_Play_kept, playF_kept, _, rfl, d, _, rfl, DPut.k (k := Sum.inl n) (kp' _ _ h2) (by rw [sizeLine_eq]; omega), ?_⟩
            have hasF := fun {b} (h : footP p d ad M b) => hp.has h
            have nrF : ¬ foot d ad M r := fun h => by obtain ⟨o, e⟩ := hasF (.inr h); rw [nr] at e; cases e
            have nwF : ¬ foot d ad M w' := fun h => by obtain ⟨o, e⟩ := hasF (.inr h); rw [nw'] at e; cases e
            have rd : r ≠ d := fun z => nrF (.inl z)
            have wd : w' ≠ d := fun z => nwF (.inl z)
            have pd : p ≠ d := fun z => hp.off (.inl z)
            have tb := hp.tb.add (c := ⟨i, j, b, []⟩) (H' := upd H1 d (.dK (putK kvs (Sum.inl n) (.ref r)))) h2 upd_same (by rw [upd_ne rd]; exact er) ⟨dr, rfl⟩ ⟨[], by rw [upd_ne wd]; exact ew, .nil⟩ nrF nwF nwr.symm (fun y o _ ne e => by rw [upd_ne ne]; exact kp' y o e)
            refine q n i j rfl rfl rfl hn ⟨hi.1, hi.2, hj.1, hj.2⟩ c2 hl _ _ ⟨⟨dx, by rw [upd_ne pd]; exact kp' _ _ h1⟩, tb, fun h => ?_, hp.good.put hn .nil (by simp) ⟨hi.1, hi.2, hj.1, hj.2⟩ (by omega), hp.lamps⟩ (fun y o e ne => by rw [upd_ne fun z => ne (.inr (.inl z))]; exact kp' y o e) (fun y hy => ?_)
            · rcases foot_add h with h | h | h
              · exact hp.off h
              · exact absurd (h ▸ h1) (by rw [nr]; simp)
              · exact absurd (h ▸ h1) (by rw [nw']; simp)
            · rcases hy with h | h
              · exact .inl (.inl h)
              · rcases foot_add h with h | h | h
                · exact .inl (.inr h)
                · exact .inr (h ▸ nr)
                · exact .inr (h ▸ nw')
def spNumbers (K : PySem.W.Frag) : Sp := sp1 fun s H Q _ => ∃ p d ad M U, s = .ref p ∧ PlayAt K U H p d ad M ∧ ∀ H' l, Same H H' → H l = none → H' l = some (.lst (nums M)) → Q (.ref l) H'
theorem d_Play_put (T : Txt K mg) : MDef P w K mg base (He.ga K "Play") 3 "put" ["self", "number", "up", "down", "fresh"] (List.drop 3 [V.int 0, V.int 0, V.bl false]) (spPut K) := by
  obtain ⟨fd, F⟩ := T.d_Play_put
  obtain ⟨ds, hv, hb⟩ := F.binds1 (ps := ["self", "number", "up", "down", "fresh"]) 5 3 (by simp) (by simp) (fun _ _ _ _ _ _ _ us its hu hi => match us, its, hu, hi with | [_, _, _, _, _], [_, _, _], _, _ => ⟨_, rfl, rfl⟩)
  exact ⟨_, fd, ds, T.m_Play_put, f_Play_put T F, hb, hv⟩
theorem d_Play_put_1 (T : Txt K mg) : MDef P w K mg base (He.ga K "Play") 3 "put" ["self", "number", "up", "down", "fresh"] (List.drop 2 [V.int 0, V.int 0, V.bl false]) (spPut K) := by
  obtain ⟨fd, F⟩ := T.d_Play_put
  obtain ⟨ds, hv, hb⟩ := F.binds1 (ps := ["self", "number", "up", "down", "fresh"]) 4 2 (by simp) (by simp) (fun _ _ _ _ _ _ _ us its hu hi => match us, its, hu, hi with | [_, _, _, _], [_, _, _], _, _ => ⟨_, rfl, rfl⟩)
  exact ⟨_, fd, ds, T.m_Play_put, f_Play_put T F, hb, hv⟩
theorem d_Play_put_2 (T : Txt K mg) : MDef P w K mg base (He.ga K "Play") 3 "put" ["self", "number", "up", "down", "fresh"] (List.drop 1 [V.int 0, V.int 0, V.bl false]) (spPut K) := by
  obtain ⟨fd, F⟩ := T.d_Play_put
  obtain ⟨ds, hv, hb⟩ := F.binds1 (ps := ["self", "number", "up", "down", "fresh"]) 3 1 (by simp) (by simp) (fun _ _ _ _ _ _ _ us its hu hi => match us, its, hu, hi with | [_, _, _], [_, _, _], _, _ => ⟨_, rfl, rfl⟩)
  exact ⟨_, fd, ds, T.m_Play_put, f_Play_put T F, hb, hv⟩
theorem d_Play_put_3 (T : Txt K mg) : MDef P w K mg base (He.ga K "Play") 3 "put" ["self", "number", "up", "down", "fresh"] (List.drop 0 [V.int 0, V.int 0, V.bl false]) (spPut K) := by
  obtain ⟨fd, F⟩ := T.d_Play_put
  obtain ⟨ds, hv, hb⟩ := F.binds1 (ps := ["self", "number", "up", "down", "fresh"]) 2 0 (by simp) (by simp) (fun _ _ _ _ _ _ _ us its hu hi => match us, its, hu, hi with | [_, _], [_, _, _], _, _ => ⟨_, rfl, rfl⟩)
  exact ⟨_, fd, ds, T.m_Play_put, f_Play_put T F, hb, hv⟩
theorem sc_Play_numbers : FnScope ["self"] ["self"] (defScope s_Play_numbers) := ⟨rfl, rfl, rfl, by decide +kernel, rfl, by decide +kernel, by decide +kernel⟩
theorem d_Play_numbers (T : Txt K mg) : MDef P w K mg base (He.ga K "Play") 1 "numbers" ["self"] [] (spNumbers K) := by
  refine mkM T.d_Play_numbers T.m_Play_numbers sc_Play_numbers (fun _ _ _ _ _ _ us hl => match us, hl with | [_], _ => rfl) len1 (BodyN.up fun cdv A outer s H vs Q E hr h => ?_)
  obtain ⟨_, rfl, p, d, ad, M, U, rfl, hp, q⟩ := h
  have hu := hu_of hr
  refine ⟨_, (pss_one (ps_ret (pe_callB (call_sortedDA rfl) (by rfl) T.z_sorted (by decide +kernel) (pa_cons (pe_fld (pv 0) rfl) pa_nil)))), ?_⟩
  obtain ⟨dx, kvs, h1, h2, tk⟩ := hp.kept
  obtain ⟨ns, hk, _, _⟩ := tk.keys
  refine ⟨_, rfl, p, _, dx, _, _, rfl, h1, T.c_Play, T.n_Play_kept, playF_kept, d, kvs, ns, rfl, .inl h2, hk, fun ys l hp1 hp2 nl => ?_⟩
  rw [tk.sorted hp.good.srt hk hp1 hp2]
  exact q _ l (same_upd nl) nl upd_same
def spCue (K : PySem.W.Frag) : Sp := sp2 fun s x H Q E => ∃ p d ad M U, s = .ref p ∧ PlayAt K U H p d ad M ∧ Pl H x ∧
  (∀ n c, x = .int n → get M n = some c → ∀ H' t w', Same H H' → H t = none → H w' = none → H' t = some (.tup [.int c.up, .int c.down, .bl c.fresh, .ref w']) → H' w' = some (.dK (dW c.words)) → Q (.ref t) H') ∧ (cueOf M x = none → Er K "NoCue" E H)
theorem sc_Play_cue : FnScope ["self", "number", "found", "words", "lamp"] ["self", "number"] (defScope s_Play_cue) := ⟨rfl, rfl, rfl, by decide +kernel, rfl, by decide +kernel, by decide +kernel⟩
theorem d_Play_cue (T : Txt K mg) : MDef P w K mg base (He.ga K "Play") 4 "cue" ["self", "number"] [] (spCue K) := by
  have d_Play_sure := d_Play_sure (P := P) (w := w) (base := base) T
  refine mkM T.d_Play_cue T.m_Play_cue sc_Play_cue (fun _ _ _ _ _ _ us hl => match us, hl with | [_, _], _ => rfl) len2 (fun cdv A outer s H vs Q E hr h => ?_)
  obtain ⟨_, x, rfl, p, d, ad, M, U, rfl, hp, hx, q, e1⟩ := h
  have hu := hu_of hr
  refine ⟨_, (pss_cons (ps_set (i := 2) sc_Play_cue.nd rfl (Or.inr rfl) (pe_mt T.c_Play d_Play_sure (hr.mono (by decide)) (passes_call (takes_of rfl rfl rfl rfl) fun _ _ _ _ h => h) (pv 0) (pa_cons (pv 1) pa_nil)))
    (pss_cons (ps_set (i := 3) sc_Play_cue.nd rfl (Or.inl rfl) (pe_callTy (call_dictP rfl) (by rfl) T.z_dict (by decide +kernel) (pa_cons (pe_lc (own := [("lamp", 4)]) rfl sc_Play_cue.nd (pi_list (pe_callB (call_sortedD rfl) (by rfl) T.z_sorted (by decide +kernel) (pa_cons (pe_fld (pv 2) rfl) pa_nil))) (blkOk_by (own := [("lamp", 4)]) (N := ["self", "number", "found", "words", "lamp"]) (sc := defScope s_Play_cue) (by decide +kernel)) (fun _ _ _ _ _ => pg_name (i := 4) sc_Play_cue.nd rfl (Or.inl rfl)) (fun _ _ _ _ _ => pts_nil) (fun _ _ _ _ _ => (pe_tup (pa_cons (pv 4) (pa_cons (pe_dget (by exact hu) (pe_fldK (K := K) rfl (pv 2) rfl) (pv 4) (fun _ _ => rfl)) pa_nil))))) pa_nil)))
    (pss_one (ps_ret (pe_tup (pa_cons (pe_fld (pv 2) rfl) (pa_cons (pe_fld (pv 2) rfl) (pa_cons (pe_fld (pv 2) rfl) (pa_cons (pv 3) pa_nil))))))))), ?_⟩
  obtain ⟨dx, kv0, h1, h2, tk⟩ := hp.kept
  refine ⟨_, rfl, _, _, _, rfl, h1, playF_no (by decide +kernel), _, rfl, _, _, rfl, p, d, ad, M, U, rfl, hp, hx, fun n c ex hn => ?_, e1⟩
  obtain ⟨dc, kvs, c1, c2, wk⟩ := hp.cue hn
  have hm := hp.good.at hn
  have hw := hp.good.wsrt _ hm
  obtain ⟨ks, hk, _, _⟩ := wk.keys
  have hfew := hp.good.few hp.lamps hm
  refine ⟨_, rfl, _, _, _, _, _, rfl, c1, T.c_Cue, T.n_Cue_words, cueF_words, _, kvs, ks, rfl, .inl c2, hk, ?_, fun ys l hp1 hp2 nl => ?_⟩
  · have := congrArg List.length hk
    rw [List.length_map, List.length_map, wk.len hw] at this
    have hfew : c.words.length ≤ 60 := hfew
    omega
  rw [wk.sorted hw hk hp1 hp2]
  have s1 := same_upd (o := HO.lst ((c.words.map (·.1)).map V.str)) nl
  refine ⟨l, rfl, ⟨_, .inl (.inl upd_same)⟩, fun D nD => ?_⟩
  refine lc_rel (walk_list (K := K) (a := l) (xs := (c.words.map (·.1)).map V.str)) nD yes (fun x y H' => ∃ t l, x = V.str l ∧ y = V.ref t ∧ H' t = some (.tup [.str l, .int ((get c.words l).getD 0)])) ?_ ?_ (fun _ => rfl) (fun H5 s5 => .inl (.inl (s5 _ _ upd_same))) (fun x _ H _ Q' k => tt_yes x k) ?_ ?_
  · rintro x y H1 H2 nl' ⟨t, l', rfl, rfl, h⟩
    exact ⟨t, l', rfl, rfl, nl' _ _ (fun _ z => by cases z) h⟩
  · rw [List.length_map, List.length_map, sizeLine_eq]
    have hfew : c.words.length ≤ 60 := hfew
    omega
  · rintro y hy _ H5 s5 Q' k
    obtain ⟨z, hz, rfl⟩ := List.mem_map.mp hy
    obtain ⟨v, hv⟩ := get_some_iff.mpr hz
    have c1' := s5 _ _ (s1 _ _ c1)
    have c2' := s5 _ _ (s1 _ _ c2)
    refine ⟨_, rfl, _, rfl, _, _, _, _, _, rfl, c1', T.c_Cue, T.n_Cue_words, cueF_words, _, rfl, _, .int v, rfl, by rw [show some (V.int v) = valV kvs (Sum.inr z) by rw [wk.vl, hv]; rfl]; exact DGet.k (k := Sum.inr z) c2', by simp [sizeLine_eq], fun t nt => ?_⟩
    exact k _ _ (same_upd nt) ⟨t, z, rfl, rfl, by rw [upd_same, hv]; rfl⟩
  · intro H5 ys' s5 hD hpair
    rw [filter_yes] at hpair
    obtain ⟨ps, rfl, hps⟩ := pairs_dict (K := K) (g := fun l => V.int ((get c.words l).getD 0)) hpair
    rw [← dW_all (rising_nodup linS hw)] at hps
    refine ⟨D, ps, _, rfl, .inl (.inl hD), hps, fun w' nw => ?_⟩
    rw [mergeK_nil (dW_nodup hw)]
    have s6 := (s1.trans s5).trans (same_upd (o := HO.dK (dW c.words)) nw)
    have c1' := s6 _ _ c1
    refine ⟨_, rfl, _, _, _, _, _, rfl, c1', T.c_Cue, T.n_Cue_up, cueF_up, _, rfl, _, _, _, _, _, rfl, c1', T.c_Cue, T.n_Cue_down, cueF_down, _, rfl, _, _, _, _, _, rfl, c1', T.c_Cue, T.n_Cue_fresh, cueF_fresh, _, rfl, by simp [sizeLine_eq], fun t nt => ?_⟩
    have s7 := s6.trans (same_upd (o := HO.tup [.int c.up, .int c.down, .bl c.fresh, .ref w']) nt)
    exact q n c ex hn _ t w' s7 (s6.free nt) ((s1.trans s5).free nw) upd_same (by rw [upd_ne (fun z => by rw [← z, upd_same] at nt; cases nt)]; exact upd_same)
def spTell (K : PySem.W.Frag) : Sp := sp4 fun s x l v H Q E => ∃ p d ad M U, s = .ref p ∧ PlayAt K U H p d ad M ∧ Pl H x ∧ Pl H l ∧ Pl H v ∧ (cueOf M x = none → Er K "NoCue" E H) ∧ (cueOf M x ≠ none → lampV l = false → Er K "NoLamp" E H) ∧ (cueOf M x ≠ none → lampV l = true → wholeV 0 100 v = false → Er K "NoLevel" E H) ∧
  (∀ n c z i, x = .int n → get M n = some c → l = .str z → v = .int i → lampV l = true → (0 ≤ i ∧ i ≤ 100) → z ∈ U ∧ ∀ H', PlayAt K U H' p d ad (setW n (put ltS z i) M) → Chg (footP p d ad M) H H' → Q .non H')
theorem cue_some {M : Book} {x : V} {n : Int} {c : CueC} (ex : x = .int n) (h : get M n = some c) : cueOf M x ≠ none := by
  subst ex; show get M n ≠ none; rw [h]; simp
theorem sc_Play_tell : FnScope ["self", "number", "lamp", "level", "found"] ["self", "number", "lamp", "level"] (defScope s_Play_tell) := ⟨rfl, rfl, rfl, by decide +kernel, rfl, by decide +kernel, by decide +kernel⟩
theorem d_Play_tell (T : Txt K mg) : MDef P w K mg base (He.ga K "Play") 4 "tell" ["self", "number", "lamp", "level"] [] (spTell K) := by
  have d_Play_sure := d_Play_sure (P := P) (w := w) (base := base) T
  have d_need_word := d_need_word (P := P) (w := w) (base := base) T
  refine mkM T.d_Play_tell T.m_Play_tell sc_Play_tell (fun _ _ _ _ _ _ us hl => match us, hl with | [_, _, _, _], _ => rfl) len4 (fun cdv A outer s H vs Q E hr h => ?_)
  obtain ⟨_, x, l, v, rfl, p, d, ad, M, U, rfl, hp, hx, hl, hv, e1, e2, e3, q⟩ := h
  have hu := hu_of hr
  refine ⟨_, (pss_cons (ps_set (i := 4) sc_Play_tell.nd rfl (Or.inl rfl) (pe_mt T.c_Play d_Play_sure (hr.mono (by decide)) (passes_call (takes_of rfl rfl rfl rfl) fun _ _ _ _ h => h) (pv 0) (pa_cons (pv 1) pa_nil)))
    (pss_cons (ps_expr (pe_fn d_need_word (hr.mono (by decide)) (by rfl) (passes_call (takes_of rfl rfl rfl rfl) fun _ _ _ _ h => h) (pa_cons (pv 2) (pa_cons (pv 3) pa_nil))))
    (pss_one (ps_dput hu (pe_fld (pv 4) rfl) (pv 2) (pv 3) rfl)))), ?_⟩
  obtain ⟨dx, kv0, h1, h2, tk⟩ := hp.kept
  refine ⟨_, rfl, _, _, _, rfl, h1, playF_no (by decide +kernel), _, rfl, _, _, rfl, p, d, ad, M, U, rfl, hp, hx, fun n c ex hn => ?_, e1⟩
  refine ⟨_, rfl, _, rfl, _, _, rfl, hl, hv, fun k1 k2 H1 s1 => ?_, e2 (cue_some ex hn), e3 (cue_some ex hn)⟩
  obtain ⟨z, rfl⟩ : ∃ z, l = .str z := by
    cases l with
    | str z => exact ⟨z, rfl⟩
    | _ => cases k1
  obtain ⟨i, rfl, hi⟩ := whole_int k2
  obtain ⟨hz, q⟩ := q n c z i ex hn rfl rfl k1 hi
  have hp1 := hp.same s1
  obtain ⟨dc, kvs, c1, c2, wk⟩ := hp1.cue hn
  have hm := hp.good.at hn
  refine ⟨_, rfl, _, rfl, _, _, _, _, _, rfl, c1, T.c_Cue, T.n_Cue_words, cueF_words, _, rfl, _, _, rfl, DPut.k (k := Sum.inr z) c2 (by rw [wk.len (hp.good.wsrt _ hm), sizeLine_eq]; exact Nat.lt_of_le_of_lt (hp.good.few hp.lamps hm) (by decide)), ?_⟩
  refine q _ (hp1.word hn (fun b o _ ne e => by rw [upd_ne ne]; exact e) ⟨_, upd_same, wk.put z i⟩ (hp.good.setW fun ws hs hw => wok_put hz hi.1 hi.2 hs hw)) fun b o e ne => ?_
  rw [upd_ne fun y => ne (.inr (.inr ⟨n, c, hn, .inr y⟩))]
  exact s1 _ _ e
def spUntell (K : PySem.W.Frag) : Sp := sp3 fun s x l H Q E => ∃ p d ad M U, s = .ref p ∧ PlayAt K U H p d ad M ∧ Pl H x ∧ Pl H l ∧ (cueOf M x = none → Er K "NoCue" E H) ∧
  (∀ n c, x = .int n → get M n = some c → (∀ z, l = .str z → get c.words z = none) → Er K "NoLamp" E H) ∧
  (∀ n c z, x = .int n → get M n = some c → l = .str z → get c.words z ≠ none → lampS z = true ∧ ∀ H', PlayAt K U H' p d ad (setW n (del z) M) → Chg (footP p d ad M) H H' → Q .non H')
theorem sc_Play_untell : FnScope ["self", "number", "lamp", "found"] ["self", "number", "lamp"] (defScope s_Play_untell) := ⟨rfl, rfl, rfl, by decide +kernel, rfl, by decide +kernel, by decide +kernel⟩
theorem d_Play_untell (T : Txt K mg) : MDef P w K mg base (He.ga K "Play") 4 "untell" ["self", "number", "lamp"] [] (spUntell K) := by
  have d_Play_sure := d_Play_sure (P := P) (w := w) (base := base) T
  have d_is_lamp := d_is_lamp (P := P) (w := w) (base := base) T
  refine mkM T.d_Play_untell T.m_Play_untell sc_Play_untell (fun _ _ _ _ _ _ us hl => match us, hl with | [_, _, _], _ => rfl) len3 (fun cdv A outer s H vs Q E hr h => ?_)
  obtain ⟨_, x, l, rfl, p, d, ad, M, U, rfl, hp, hx, hl, e1, e2, q⟩ := h
  have hu := hu_of hr
  refine ⟨_, (pss_cons (ps_set (i := 3) sc_Play_untell.nd rfl (Or.inl rfl) (pe_mt T.c_Play d_Play_sure (hr.mono (by decide)) (passes_call (takes_of rfl rfl rfl rfl) fun _ _ _ _ h => h) (pv 0) (pa_cons (pv 1) pa_nil)))
    (pss_cons (ps_if (PW.pt (pw_or (pt_not (pt_val (pe_fn d_is_lamp (hr.mono (by decide)) (by rfl) (passes_call (takes_of rfl rfl rfl rfl) fun _ _ _ _ h => h) (pa_cons (pv 2) pa_nil)))) (pw_or1 (pt_cmp (pc_dnotin (by exact hu) (pv 2) (pe_fld (pv 3) rfl))))))
    (pss_one (ps_raise rfl (takes_of rfl rfl rfl rfl) (pmk_own PySem.F.excBase_ValueError T.x_NoLamp.1 T.g_NoLamp T.x_NoLamp.2.1 (raises_own T.x_NoLamp.2.2.1 T.x_NoLamp.2.2.2) rfl)))
    pss_nil)
    (pss_one (ps_expr (pe_dpop1 (pe_fld (pv 3) rfl) (pv 2) ⟨rfl, rfl, rfl, rfl⟩))))), ?_⟩
  obtain ⟨dx, kv0, h1, h2, tk⟩ := hp.kept
  refine ⟨_, rfl, _, _, _, rfl, h1, playF_no (by decide +kernel), _, rfl, _, _, rfl, p, d, ad, M, U, rfl, hp, hx, fun n c ex hn => ?_, e1⟩
  have hm := hp.good.at hn
  refine ⟨_, rfl, _, rfl, hl, fun H1 s1 => ⟨_, rfl, ?_⟩⟩
  have hp1 := hp.same s1
  obtain ⟨dc, kvs, c1, c2, wk⟩ := hp1.cue hn
  cases k1 : lampV l with
  | false =>
    refine iteT (iteT (e2 n c ex hn (fun z ez => ?_) H1 s1))
    cases hz : get c.words z with
    | none => rfl
    | some v =>
      obtain ⟨hU, _⟩ := hp.good.wrd _ hm _ (get_mem hz)
      have := hp.lamps.ok _ hU
      rw [ez] at k1
      rw [show lampV (.str z) = lampS z from rfl, this] at k1; cases k1
  | true =>
    obtain ⟨z, rfl⟩ : ∃ z, l = .str z := by
      cases l with
      | str z => exact ⟨z, rfl⟩
      | _ => cases k1
    refine iteF ⟨_, rfl, _, rfl, _, _, _, _, _, rfl, c1, T.c_Cue, T.n_Cue_words, cueF_words, _, _, rfl, DGet.k (k := Sum.inr z) c2, _, rfl, ?_⟩
    rw [wk.vl]
    cases hz : get c.words z with
    | none => exact iteT (e2 n c ex hn (fun z' ez => by cases ez; exact hz) H1 s1)
    | some v =>
      refine iteF ⟨_, rfl, _, _, _, _, _, rfl, c1, T.c_Cue, T.n_Cue_words, cueF_words, _, rfl, .inl ⟨_, .inl c2⟩, _, rfl, kvs, Sum.inr z, .int v, c2, rfl, by rw [wk.vl, hz]; rfl, ?_⟩
      refine (q n c z ex hn rfl (by rw [hz]; simp)).2 _ (hp1.word hn (fun b o _ ne e => by rw [upd_ne ne]; exact e) ⟨_, upd_same, wk.drop z⟩ (hp.good.setW fun ws hs hw => wok_del hs hw)) fun b o e ne => ?_
      rw [upd_ne fun y => ne (.inr (.inr ⟨n, c, hn, .inr y⟩))]
      exact s1 _ _ e
end

/-! ## What a play tells: look, level -/
theorem TK.get {H : Hp} {d : Addr} {kvs : List (Key × V)} {M : Book} {ad : Int → Addr} (h : TK kvs M ad) (e : Rd H d (.dK kvs)) (n : Int) : DGet H d (.int n) ((get M n).map fun _ => V.ref (ad n)) := .inl ⟨kvs, Sum.inl n, e, rfl, (h.vl n).symm⟩
theorem TK.hit {H : Hp} {d : Addr} {kvs : List (Key × V)} {M : Book} {ad : Int → Addr} (h : TK kvs M ad) (e : Rd H d (.dK kvs)) {n : Int} {c : CueC} (hn : Cue.get M n = some c) : DGet H d (.int n) (some (V.ref (ad n))) := by
  have := h.get e n
  rwa [hn] at this
theorem WK.get {H : Hp} {w : Addr} {kvs : List (Key × V)} {ws : Ws} (h : WK kvs ws) (e : Rd H w (.dK kvs)) (l : Str) : DGet H w (.str l) ((get ws l).map V.int) := .inl ⟨kvs, Sum.inr l, e, rfl, (h.vl l).symm⟩
theorem WK.hit {H : Hp} {w : Addr} {kvs : List (Key × V)} {ws : Ws} (h : WK kvs ws) (e : Rd H w (.dK kvs)) {l : Str} {v : Int} (hl : Cue.get ws l = some v) : DGet H w (.str l) (some (V.int v)) := by
  have := h.get e l
  rwa [hl] at this
theorem Good.take {U : List Str} {M : Book} (g : Good U M) (i : Nat) : Good U (M.take i) := g.sub (List.take_sublist i M)
theorem over_none (acc : Ws) : over acc [] = acc := rfl
section
variable {P : Program} {w : World} {K : PySem.W.Frag} {mg : Str → Option Value} {base : Heap}
def spLook (K : PySem.W.Frag) : Sp := sp2 fun s x H Q E => ∃ p d ad M U, s = .ref p ∧ PlayAt K U H p d ad M ∧ Pl H x ∧
  (∀ n c, x = .int n → get M n = some c → ∀ H' w', Same H H' → H w' = none → H' w' = some (.dK (dW (look M n))) → Q (.ref w') H') ∧ (cueOf M x = none → Er K "NoCue" E H)
theorem sc_Play_look : FnScope ["self", "number", "levels", "one", "lamp"] ["self", "number"] (defScope s_Play_look) := ⟨rfl, rfl, rfl, by decide +kernel, rfl, by decide +kernel, by decide +kernel⟩
theorem d_Play_look (T : Txt K mg) : MDef P w K mg base (He.ga K "Play") 4 "look" ["self", "number"] [] (spLook K) := by
  have d_Play_sure := d_Play_sure (P := P) (w := w) (base := base) T
  have d_Play_numbers := d_Play_numbers (P := P) (w := w) (base := base) T
  refine mkM T.d_Play_look T.m_Play_look sc_Play_look (fun _ _ _ _ _ _ us hl => match us, hl with | [_, _], _ => rfl) len2 (fun cdv A outer s H vs Q E hr h => ?_)
  obtain ⟨_, x, rfl, p, d, ad, M, U, rfl, hp, hx, q, e1⟩ := h
  have hu := hu_of hr
  refine ⟨_, (pss_cons (ps_expr (pe_mt T.c_Play d_Play_sure (hr.mono (by decide)) (passes_call (takes_of rfl rfl rfl rfl) fun _ _ _ _ h => h) (pv 0) (pa_cons (pv 1) pa_nil)))
    (pss_cons (ps_set (i := 2) sc_Play_look.nd rfl (Or.inr rfl) pe_dnewK)
    (Evl.pss_cut (ps_for (passes_of rfl) rfl (pi_list (pe_mt0 T.c_Play d_Play_numbers (hr.mono (by decide)) (passes_call (takes_of rfl rfl rfl rfl) fun _ _ _ _ h => h) (pv 0))) (pg_name (i := 3) sc_Play_look.nd rfl (Or.inl rfl))
    (pss_cons (ps_if (pt_cmpR op_gt (pv 3) (pv 1) (nomark _))
    (pss_one ps_break)
    pss_nil)
    (pss_cons (ps_if (pt_val (pe_fld (pe_dget (by exact hu) (pe_fld (pv 0) rfl) (pv 3) (fun _ _ => rfl)) rfl))
    (pss_one (ps_set (i := 2) sc_Play_look.nd rfl (Or.inr rfl) pe_dnewK))
    pss_nil)
    (pss_one (ps_expr (pe_bm PySem.F.plainAttrs_dict PySem.F.slot_dict_update PySem.F.type_dict_update mt_dupdate (pv 2) (pa_cons (pe_fld (pe_dget (by exact hu) (pe_fld (pv 0) rfl) (pv 3) (fun _ _ => rfl)) rfl) pa_nil)))))))
    (pss_one (ps_ret (pe_callTy (call_dictP rfl) (by rfl) T.z_dict (by decide +kernel) (pa_cons (pe_lc (own := [("lamp", 4)]) rfl sc_Play_look.nd (pi_list (pe_callB (call_sortedD rfl) (by rfl) T.z_sorted (by decide +kernel) (pa_cons (pv 2) pa_nil))) (blkOk_by (own := [("lamp", 4)]) (N := ["self", "number", "levels", "one", "lamp"]) (sc := defScope s_Play_look) (by decide +kernel)) (fun _ _ _ _ _ => pg_name (i := 4) sc_Play_look.nd rfl (Or.inl rfl)) (fun _ _ _ _ _ => (pts_one (pt_cmpR op_gt (pe_dget (by exact hu) (pv 2) (pv 4) (fun _ _ => rfl)) pe_int (nomark _)))) (fun _ _ _ _ _ => (pe_tup (pa_cons (pv 4) (pa_cons (pe_dget (by exact hu) (pv 2) (pv 4) (fun _ _ => rfl)) pa_nil))))) pa_nil))))))), ?_⟩
  obtain ⟨dx, kv0, h1, h2, tk⟩ := hp.kept
  refine ⟨_, rfl, _, _, _, rfl, h1, playF_no (by decide +kernel), _, rfl, _, _, rfl, p, d, ad, M, U, rfl, hp, hx, fun n c ex hn => ?_, e1⟩
  subst ex
  intro l0 nl0
  have s0 := same_upd (o := HO.dK []) nl0
  have g := hp.good
  have sub : ∀ i, ∀ e ∈ M.take i, e ∈ M := fun i e h => List.mem_of_mem_take h
  refine ⟨fun σ H' => ∃ l v3, σ = [some (.ref p), some (.int n), some (.ref l), v3, none] ∧ Same H H' ∧ H l = none ∧ WordsAt H' l (lookW (upto M n)), ?_, ?_⟩
  · refine ⟨_, rfl, _, _, _, rfl, s0 _ _ h1, playF_no (by decide +kernel), _, rfl, p, d, ad, M, U, rfl, hp.same s0, fun H1 ln s1 nln eln => ⟨ln, rfl, ⟨_, .inl (.inl eln)⟩, ?_⟩⟩
    have sln : H ln = none := s0.free nln
    refine for_list (K := K) (a := ln) (xs := nums M) (fun i σ H' => ∃ l v3, σ = [some (.ref p), some (.int n), some (.ref l), v3, none] ∧ Same H H' ∧ H l = none ∧ H' ln = some (.lst (nums M)) ∧ WordsAt H' l (lookW (M.take i)) ∧ ∀ e ∈ M.take i, e.1 ≤ n) ?_ ?_ ?_ ?_
    · exact ⟨l0, none, rfl, s0.trans s1, nl0, eln, ⟨[], s1 _ _ upd_same, .nil⟩, fun e h => by simp at h⟩
    · rintro i σ H' _ ⟨l, v3, _, _, _, h, _⟩
      exact .inl (.inl h)
    · rintro i y σ H' hy ⟨l, v3, rfl, s2, nl, hln, hW, hle⟩
      obtain ⟨e, he, rfl⟩ := nums_at hy
      have hm : e ∈ M := List.mem_of_getElem? he
      have hge : get M e.1 = some e.2 := get_of_mem g.nodup hm
      refine ⟨_, rfl, _, rfl, _, _, rfl, rfl, _, rfl, ite2 (fun c1 => ?_) (fun c1 => ?_)⟩
      · have c1 : n < e.1 := of_decide_eq_true c1
        refine ⟨l, _, rfl, s2, nl, ?_⟩
        rw [upto_take g hle (fun e' h' => by rw [he] at h'; cases h'; exact c1)]
        exact hW
      · have c1 : ¬ n < e.1 := fun z => c1 (decide_eq_true z)
        have hp2 := hp.same s2
        obtain ⟨dx2, kv2, k1, k2, tk2⟩ := hp2.kept
        obtain ⟨dc, kvs, e1, e2, wk⟩ := hp2.cue hge
        have hle' : ∀ x ∈ M.take (i + 1), x.1 ≤ n := fun x hx => by
          rw [take_snoc he] at hx
          rcases List.mem_append.mp hx with h | h
          · exact hle x h
          · rw [List.mem_singleton.mp h]; omega
        have fin : ∀ (l' : Addr) (H3 : Hp) (acc : Ws), Same H H3 → H l' = none → H3 ln = some (.lst (nums M)) → WordsAt H3 l' acc → Rising ltS acc → acc.length ≤ 60 → over acc e.2.words = lookW (M.take (i + 1)) →
            ∃ H4, Same H H4 ∧ H4 ln = some (.lst (nums M)) ∧ WordsAt H4 l' (lookW (M.take (i + 1))) ∧ ∃ kva, H3 l' = some (.dK kva) ∧ l' ≠ (ad e.1).2 ∧ H3 (ad e.1).2 = some (.dK kvs) ∧ kva.length + kvs.length ≤ sizeLine ∧ H4 = upd H3 l' (.dK (mergeK kva kvs)) := by
          rintro l' H3 acc s3 nl' hl3 ⟨kva, ea, wa⟩ hr hlen hov
          have f2 := g.few hp.lamps hm
          have lw := wk.len (g.wsrt _ hm)
          have la := wa.len hr
          obtain ⟨dc', kvs', _, e2', _⟩ := hp.cue hge
          have ee := s2 _ _ e2'
          rw [e2] at ee
          obtain rfl : kvs = kvs' := by injection ee with h; injection h
          have ne : l' ≠ ln := fun z => by
            subst z; rw [ea] at hl3; cases hl3
          refine ⟨upd H3 l' (.dK (mergeK kva kvs)), sm_mut s3 nl', by rw [upd_ne ne.symm]; exact hl3, ⟨_, upd_same, ?_⟩, kva, ea, fun z => ?_, s3 _ _ e2', by rw [sizeLine_eq]; omega, rfl⟩
          · rw [← hov]
            exact wa.merge wk (g.wnd hm)
          · rw [z, e2'] at nl'; cases nl'
        refine ⟨_, rfl, p, _, dx2, _, _, rfl, k1, T.c_Play, T.n_Play_kept, playF_kept, _, rfl, d, _, rfl, tk2.hit (.inl k2) hge, _, _, _, _, _, rfl, e1, T.c_Cue, T.n_Cue_fresh, cueF_fresh, _, rfl, ite2 (fun c2 => ?_) (fun c2 => ?_)⟩
        · intro l' nl'
          have s3 := same_upd (o := HO.dK []) nl'
          obtain ⟨H4, t1, t2, t3, kva, t4, t5, t6, t7, rfl⟩ := fin l' _ [] (s2.trans s3) (s2.free nl') (s3 _ _ hln) ⟨[], upd_same, .nil⟩ .nil (by simp) (by rw [lookW_snoc he, stepW, if_pos c2])
          exact ⟨_, rfl, .inr (.inr (.inl ⟨rfl, .inl ⟨_, t4⟩⟩)), _, rfl, p, _, dx2, _, _, rfl, s3 _ _ k1, T.c_Play, T.n_Play_kept, playF_kept, _, rfl, d, _, rfl, tk2.hit (.inl (s3 _ _ k2)) hge, _, _, _, _, _, rfl, s3 _ _ e1, T.c_Cue, T.n_Cue_words, cueF_words, _, _, _, _, rfl, rfl, t5, t4, .inl t6, t7, l', _, rfl, t1, s2.free nl', t2, t3, hle'⟩
        · obtain ⟨H4, t1, t2, t3, kva, t4, t5, t6, t7, rfl⟩ := fin l _ _ s2 nl hln hW (rising_lookW _) (lookW_few (g.take i) hp.lamps) (by rw [lookW_snoc he, stepW, if_neg c2])
          exact ⟨_, rfl, .inr (.inr (.inl ⟨rfl, .inl ⟨_, t4⟩⟩)), _, rfl, p, _, dx2, _, _, rfl, k1, T.c_Play, T.n_Play_kept, playF_kept, _, rfl, d, _, rfl, tk2.hit (.inl k2) hge, _, _, _, _, _, rfl, e1, T.c_Cue, T.n_Cue_words, cueF_words, _, _, _, _, rfl, rfl, t5, t4, .inl t6, t7, l, _, rfl, t1, nl, t2, t3, hle'⟩
    · rintro σ H' ⟨l, v3, rfl, s2, nl, hln, hW, hle⟩
      refine ⟨l, v3, rfl, s2, nl, ?_⟩
      have e0 : (nums M).length = M.length := by simp [nums]
      rw [e0, List.take_length] at hle hW
      have : upto M n = M := List.filter_eq_self.mpr fun e he => by simpa using hle e he
      rw [this]; exact hW
  · rintro σ H2 ⟨l, v3, rfl, s2, nl, kvs, hl, wk⟩
    have hr := rising_lookW (upto M n)
    obtain ⟨ks, hk, _, _⟩ := wk.keys
    have hfew := lookW_few (g.upto n) hp.lamps
    have hlen := wk.len hr
    refine ⟨_, rfl, _, kvs, ks, rfl, .inl hl, hk, ?_, fun ys a hp1 hp2 na => ?_⟩
    · have := congrArg List.length hk
      rw [List.length_map, List.length_map] at this
      omega
    rw [wk.sorted hr hk hp1 hp2]
    have s1 := same_upd (o := HO.lst (((lookW (upto M n)).map (·.1)).map V.str)) na
    refine ⟨a, rfl, ⟨_, .inl (.inl upd_same)⟩, fun D nD => ?_⟩
    refine lc_rel (walk_list (K := K) (a := a) (xs := ((lookW (upto M n)).map (·.1)).map V.str)) nD (fun x => match x with | .str z => decide (0 < (get (lookW (upto M n)) z).getD 0) | _ => false) (fun x y H' => ∃ t z, x = V.str z ∧ y = V.ref t ∧ H' t = some (.tup [.str z, .int ((get (lookW (upto M n)) z).getD 0)])) ?_ ?_ (fun _ => rfl) (fun H5 s5 => .inl (.inl (s5 _ _ upd_same))) ?_ ?_ ?_
    · rintro x y H1 H2 nl' ⟨t, z, rfl, rfl, h⟩
      exact ⟨t, z, rfl, rfl, nl' _ _ (fun _ z => by cases z) h⟩
    · rw [List.length_map, List.length_map, sizeLine_eq]; omega
    · rintro y hy H5 s5 Q' k
      obtain ⟨z, hz, rfl⟩ := List.mem_map.mp hy
      obtain ⟨v, hv⟩ := get_some_iff.mpr hz
      refine ⟨_, rfl, _, rfl, _, .int v, rfl, wk.hit (.inl (s5 _ _ (s1 _ _ hl))) hv, _, _, rfl, rfl, _, rfl, ?_⟩
      have := k H5 (Same.refl _)
      simp only [hv, Option.getD_some] at this
      exact this
    · rintro y hy _ H5 s5 Q' k
      obtain ⟨z, hz, rfl⟩ := List.mem_map.mp hy
      obtain ⟨v, hv⟩ := get_some_iff.mpr hz
      refine ⟨_, rfl, _, rfl, _, rfl, _, .int v, rfl, wk.hit (.inl (s5 _ _ (s1 _ _ hl))) hv, by simp [sizeLine_eq], fun t nt => ?_⟩
      exact k _ _ (same_upd nt) ⟨t, z, rfl, rfl, by rw [upd_same, hv]; rfl⟩
    · intro H5 ys' s5 hD hpair
      rw [strs_filter (p := fun z => decide (0 < (get (lookW (upto M n)) z).getD 0)) (fun _ => rfl)] at hpair
      obtain ⟨ps, rfl, hps⟩ := pairs_dict (K := K) (g := fun z => V.int ((get (lookW (upto M n)) z).getD 0)) hpair
      rw [← dW_keys (rising_nodup linS hr) (fun v => decide (0 < v))] at hps
      refine ⟨D, ps, _, rfl, .inl (.inl hD), hps, fun w' nw => ?_⟩
      show Q _ (upd H5 w' (.dK (mergeK [] (dW (look M n)))))
      rw [mergeK_nil (dW_nodup (look_rising M n))]
      have s6 := (s2.trans (s1.trans s5)).trans (same_upd (o := HO.dK (dW (look M n))) nw)
      exact q n c rfl hn _ w' s6 ((s2.trans (s1.trans s5)).free nw) upd_same
def spLevel (K : PySem.W.Frag) : Sp := sp3 fun s x l H Q E => ∃ p d ad M U, s = .ref p ∧ PlayAt K U H p d ad M ∧ Pl H x ∧ Pl H l ∧
  (∀ n c z, x = .int n → get M n = some c → l = .str z → lampS z = true → ∀ H', Same H H' → Q (.int (lev M n z)) H') ∧ (cueOf M x = none → Er K "NoCue" E H) ∧ (cueOf M x ≠ none → lampV l = false → Er K "NoLamp" E H)
theorem sc_Play_level : FnScope ["self", "number", "lamp", "found"] ["self", "number", "lamp"] (defScope s_Play_level) := ⟨rfl, rfl, rfl, by decide +kernel, rfl, by decide +kernel, by decide +kernel⟩
theorem d_Play_level (T : Txt K mg) : MDef P w K mg base (He.ga K "Play") 5 "level" ["self", "number", "lamp"] [] (spLevel K) := by
  have d_Play_look := d_Play_look (P := P) (w := w) (base := base) T
  have d_is_lamp := d_is_lamp (P := P) (w := w) (base := base) T
  refine mkM T.d_Play_level T.m_Play_level sc_Play_level (fun _ _ _ _ _ _ us hl => match us, hl with | [_, _, _], _ => rfl) len3 (fun cdv A outer s H vs Q E hr h => ?_)
  obtain ⟨_, x, l, rfl, p, d, ad, M, U, rfl, hp, hx, hl, q, e1, e2⟩ := h
  have hu := hu_of hr
  refine ⟨_, (pss_cons (ps_set (i := 3) sc_Play_level.nd rfl (Or.inl rfl) (pe_mt T.c_Play d_Play_look (hr.mono (by decide)) (passes_call (takes_of rfl rfl rfl rfl) fun _ _ _ _ h => h) (pv 0) (pa_cons (pv 1) pa_nil)))
    (pss_cons (ps_if (pt_not (pt_val (pe_fn d_is_lamp (hr.mono (by decide)) (by rfl) (passes_call (takes_of rfl rfl rfl rfl) fun _ _ _ _ h => h) (pa_cons (pv 2) pa_nil))))
    (pss_one (ps_raise rfl (takes_of rfl rfl rfl rfl) (pmk_own PySem.F.excBase_ValueError T.x_NoLamp.1 T.g_NoLamp T.x_NoLamp.2.1 (raises_own T.x_NoLamp.2.2.1 T.x_NoLamp.2.2.2) rfl)))
    pss_nil)
    (pss_one (ps_ret (pe_dget2 (by exact hu) (pv 3) (pv 2) pe_int ⟨rfl, rfl, rfl, rfl⟩))))), ?_⟩
  obtain ⟨dx, kv0, h1, h2, tk⟩ := hp.kept
  refine ⟨_, rfl, _, _, _, rfl, h1, playF_no (by decide +kernel), _, rfl, _, _, rfl, p, d, ad, M, U, rfl, hp, hx, fun n c ex hn H1 w' s1 nw hw => ?_, e1⟩
  refine ⟨_, rfl, _, rfl, hl.same s1, fun H2 s2 => ⟨_, rfl, ?_⟩⟩
  cases k1 : lampV l with
  | false => exact iteT (e2 (cue_some ex hn) k1 H2 (s1.trans s2))
  | true =>
    obtain ⟨z, rfl⟩ : ∃ z, l = .str z := by
      cases l with
      | str z => exact ⟨z, rfl⟩
      | _ => cases k1
    refine iteF ⟨_, rfl, _, rfl, .inl ⟨_, .inl (s2 _ _ hw)⟩, _, rfl, _, (WK.dW (rising_nodup linS (look_rising M n))).get (.inl (s2 _ _ hw)) z, ?_⟩
    have e : ((get (look M n) z).map V.int).getD (.int 0) = .int (lev M n z) := by
      rw [← look_lev hp.good]
      cases get (look M n) z <;> rfl
    rw [e]
    exact q n c z ex hn rfl k1 H2 (s1.trans s2)
end

/-! ## What a law draws: lamps, numbers -/
theorem letter_at {i : Int} (h0 : 0 ≤ i) (h1 : i < 26) : atI (Str.ofString "abcdefghijklmnopqrstuvwxyz").cps.toList i = some (97 + i.toNat) := by
  have e : (Str.ofString "abcdefghijklmnopqrstuvwxyz").cps.toList = (List.range 26).map (fun i => 97 + i) := by decide +kernel
  have hj : i.toNat < 26 := by omega
  have := atI_nat (xs := (Str.ofString "abcdefghijklmnopqrstuvwxyz").cps.toList) (j := i.toNat) (v := 97 + i.toNat) (by rw [e, List.getElem?_map, List.getElem?_range hj]; rfl)
  rwa [Int.toNat_of_nonneg h0] at this
theorem mul_cps {c : Nat} {m : Int} (h : 1 ≤ m) : (Txt.mul ⟨#[c]⟩ m).cps.toList = List.replicate m.toNat c := by
  have aux : ∀ (k : Nat) (acc : Array Nat), ((List.replicate k #[c]).foldl (· ++ ·) acc).toList = acc.toList ++ List.replicate k c := by
    intro k
    induction k with
    | zero => intro acc; simp
    | succ k ih =>
      intro acc
      rw [List.replicate_succ, List.foldl_cons, ih, Array.toList_append, List.replicate_succ, List.append_assoc]; rfl
  unfold Txt.mul
  rw [if_neg (by omega)]
  by_cases h1 : m = 1
  · subst h1; rfl
  · have e : (m == 1 || (⟨#[c]⟩ : Str).length == 0) = false := by
      have : (⟨#[c]⟩ : Str).length = 1 := rfl
      rw [this]; simp [h1]
    rw [e, if_neg (by simp)]
    have := aux m.toNat #[]
    simpa using this
/-- a lamp's signs -/
def lampL (b s m i : Nat) : List Nat := List.replicate i b ++ s :: List.replicate (m - 1 - i) b
def lampZ (b s : Nat) (m i : Int) : Str := cutS (Txt.mul ⟨#[b]⟩ m) none (some i) ++ ⟨#[s]⟩ ++ cutS (Txt.mul ⟨#[b]⟩ m) (some (i + 1)) none
theorem lamp_cps {b s : Nat} {m i : Int} (hi : 0 ≤ i) (him : i < m) : (lampZ b s m i).cps.toList = lampL b s m.toNat i.toNat := by
  obtain ⟨k, rfl⟩ := Int.eq_ofNat_of_zero_le hi
  obtain ⟨n, rfl⟩ := Int.eq_ofNat_of_zero_le (show 0 ≤ m by omega)
  have e0 := mul_cps (c := b) (m := (n : Int)) (by omega)
  have el : (Txt.mul ⟨#[b]⟩ (n : Int)).length = n := by
    show (Txt.mul ⟨#[b]⟩ (n : Int)).cps.size = n
    rw [← Array.length_toList, e0, List.length_replicate]; rfl
  unfold lampZ lampL
  rw [Str.cps_append, Str.cps_append, Array.toList_append, Array.toList_append]
  unfold cutS
  rw [el, e0, show ((k : Int) + 1) = ((k + 1 : Nat) : Int) by omega, HT.sIx_nat, HT.sIx_nat, HT.sIx_none, HT.sIx_none]
  simp only [Int.toNat_natCast, List.drop_zero, List.take_replicate, List.drop_replicate]
  have a1 : min (min k n - 0) (n - 0) = k := by omega
  have a2 : min (n - min (k + 1) n) (n - min (k + 1) n) = n - 1 - k := by omega
  rw [a1, a2, List.append_assoc]; rfl
theorem lampZ_ok {b s : Nat} {m i : Int} (hi : 0 ≤ i) (him : i < m) (hm : m ≤ 8) (hb : 97 ≤ b ∧ b ≤ 122) (hs : 97 ≤ s ∧ s ≤ 122) : lampS (lampZ b s m i) = true := by
  have e := lamp_cps (b := b) (s := s) hi him
  have el : (lampZ b s m i).length = m.toNat := by
    show (lampZ b s m i).cps.size = _
    rw [← Array.length_toList, e, lampL, List.length_append, List.length_cons, List.length_replicate, List.length_replicate]; omega
  unfold lampS
  rw [el, e]
  simp only [Bool.and_eq_true, decide_eq_true_eq, List.all_eq_true]
  refine ⟨⟨by omega, by omega⟩, fun c hc => ?_⟩
  have : c = b ∨ c = s := by
    rcases List.mem_append.mp hc with h | h
    · exact .inl (List.eq_of_mem_replicate h)
    · rcases List.mem_cons.mp h with h | h
      · exact .inr h
      · exact .inl (List.eq_of_mem_replicate h)
  simp only [letter, Bool.and_eq_true, decide_eq_true_eq]
  rcases this with rfl | rfl
  · exact hb
  · exact hs
theorem lampZ_inj {b s t : Nat} {m i : Int} (hi : 0 ≤ i) (him : i < m) (h : lampZ b s m i = lampZ b t m i) : s = t := by
  have e := lamp_cps (b := b) (s := s) hi him
  rw [h, lamp_cps hi him] at e
  unfold lampL at e
  have := List.append_cancel_left e
  exact (List.cons.inj this).1.symm
/-- the sixth lamps of a draw -/
def lampK (c : Int) (k : Nat) : Str := lampZ (97 + (c / 8 % 26).toNat) (97 + ((c / 1664 + 5 * (0 + (k : Int))) % 26).toNat) (1 + c % 8) (c / 208 % (1 + c % 8))
def lamps6 (c : Int) : List Str := (List.range 6).map (lampK c)
theorem lampK_dom {c : Int} : (0 ≤ c / 208 % (1 + c % 8)) ∧ c / 208 % (1 + c % 8) < 1 + c % 8 ∧ 1 + c % 8 ≤ 8 ∧ 1 ≤ 1 + c % 8 :=
  have h : 0 < 1 + c % 8 := by omega
  ⟨Int.emod_nonneg _ (by omega), Int.emod_lt_of_pos _ h, by omega, by omega⟩
theorem lamps6_len (c : Int) : (lamps6 c).length = 6 := by simp [lamps6]
theorem lamps6_ok (c : Int) : ∀ z ∈ lamps6 c, lampS z = true := by
  intro z hz
  obtain ⟨k, _, rfl⟩ := List.mem_map.mp hz
  obtain ⟨a1, a2, a3, a4⟩ := lampK_dom (c := c)
  exact lampZ_ok a1 a2 a3 (by omega) (by omega)
theorem lamps6_nodup (c : Int) : (lamps6 c).Nodup := by
  unfold lamps6
  refine List.pairwise_map.mpr ?_
  have : (List.range 6).Pairwise (fun a b => a < b ∧ b < 6) := by decide
  refine this.imp fun {a b} h e => ?_
  obtain ⟨a1, a2, _, _⟩ := lampK_dom (c := c)
  have := lampZ_inj a1 a2 e
  omega
theorem lamps6_take (c : Int) {k : Nat} (h : k < 6) : (lamps6 c).take (k + 1) = (lamps6 c).take k ++ [lampK c k] := take_snoc (by unfold lamps6; rw [List.getElem?_map, List.getElem?_range h]; rfl)
theorem lamps6_U (c : Int) : Lamps (lamps6 c) := ⟨by rw [lamps6_len]; decide, lamps6_ok c⟩
theorem lampS_okS {z : Str} (h : lampS z = true) : PyData.strOk z = true := by
  rw [okS_iff]
  intro c hc
  unfold lampS at h
  simp only [Bool.and_eq_true, List.all_eq_true] at h
  have := h.2 c hc
  simp only [letter, Bool.and_eq_true, decide_eq_true_eq] at this
  omega
theorem lampS_len {z : Str} (h : lampS z = true) : z.length ≤ 8 := by
  unfold lampS at h
  simp only [Bool.and_eq_true, decide_eq_true_eq] at h
  exact h.1.2
theorem lampS_pl {H : Hp} {z : Str} (h : lampS z = true) : Pl H (.str z) := ⟨Nat.le_trans (lampS_len h) (by decide), lampS_okS h⟩
def nums9 (c : Int) : List Int := [1, 2, 3, 10, 20 + c % 999000, 20 + c % 999000 + 1, 20 + c % 999000 + 2, 999998, 999999]
theorem nums9_ok (c : Int) : ∀ n ∈ nums9 c, 1 ≤ n ∧ n ≤ 999999 := by
  intro n hn
  simp only [nums9, List.mem_cons, List.not_mem_nil, or_false] at hn
  omega

section
variable {P : Program} {w : World} {K : PySem.W.Frag} {mg : Str → Option Value} {base : Heap}
def spLaw (K : PySem.W.Frag) : Sp := sp1 fun v H Q _ => ∃ (a : Addr) (ns : List Int), v = .ref a ∧ ns.length ≤ 63 ∧ SqL K H a (ns.map V.int) ∧ ∀ H', Q (.bl true) H'
def spCell (K : PySem.W.Frag) : Sp := sp2 fun a k H Q _ => ∃ (p : Addr) (ns : List Int) (i : Int), a = .ref p ∧ k = .int i ∧ 0 ≤ i ∧ SqL K H p (ns.map V.int) ∧ ∀ v : Int, Q (.int v) H
theorem sc__law_cell : FnScope ["_law_script", "_law_k"] ["_law_script", "_law_k"] (defScope s__law_cell) := ⟨rfl, rfl, rfl, by decide +kernel, rfl, by decide +kernel, by decide +kernel⟩
theorem d__law_cell (T : Txt K mg) : Def P w K mg base 1 "_law_cell" ["_law_script", "_law_k"] (spCell K) := by
  refine mkDef T.d__law_cell T.g__law_cell sc__law_cell (fun _ _ _ _ _ _ us hl => match us, hl with | [_, _], _ => rfl) len2 (BodyN.up fun cdv A outer s H vs Q E hr h => ?_)
  obtain ⟨_, _, rfl, p, ns, i, rfl, rfl, h0, hs, q⟩ := h
  have hu := hu_of hr
  refine ⟨_, (pss_cons (ps_if (pt_cmpR op_lt (pv 1) (pe_callB call_len_seq (by rfl) T.z_len (by decide +kernel) (pa_cons (pv 0) pa_nil)) (nomark _))
    (pss_one (ps_ret (pe_ix ix_list (pv 0) (pv 1) (fun _ _ => rfl))))
    pss_nil)
    (pss_one (ps_ret (pe_op op_mul pe_int (pv 1))))), ?_⟩
  refine ⟨_, rfl, _, rfl, _, _, rfl, .inl hs, _, _, rfl, rfl, _, rfl, ite2 (fun c1 => ?_) (fun c1 => ?_)⟩
  · have c1 : i < ((ns.map V.int).length : Int) := of_decide_eq_true c1
    obtain ⟨v, hv, ha⟩ := at_in (n := (ns.map V.int).length) rfl h0 c1
    obtain ⟨z, _, rfl⟩ := List.mem_map.mp hv
    exact ⟨_, rfl, _, rfl, _, _, _, _, rfl, rfl, hs, ha, q z⟩
  · exact ⟨_, rfl, _, _, rfl, rfl, .inl ⟨by decide, by decide⟩, q _⟩
def spLamps : Sp := sp1 fun a H Q _ => ∃ c : Int, a = .int c ∧ ∀ H' l, Same H H' → H l = none → H' l = some (.lst ((lamps6 c).map V.str)) → Q (.ref l) H'
theorem sc__law_lamps : FnScope ["_law_cell_here", "_law_letters", "_law_size", "_law_base", "_law_spot", "_law_found", "_law_k", "_law_sign"] ["_law_cell_here"] (defScope s__law_lamps) := ⟨rfl, rfl, rfl, by decide +kernel, rfl, by decide +kernel, by decide +kernel⟩
theorem d__law_lamps (T : Txt K mg) : Def P w K mg base 1 "_law_lamps" ["_law_cell_here"] (spLamps) := by
  refine mkDef T.d__law_lamps T.g__law_lamps sc__law_lamps (fun _ _ _ _ _ _ us hl => match us, hl with | [_], _ => rfl) len1 (BodyN.up fun cdv A outer s H vs Q E hr h => ?_)
  obtain ⟨_, rfl, c, rfl, q⟩ := h
  have hu := hu_of hr
  refine ⟨_, (pss_cons (ps_set (i := 1) sc__law_lamps.nd rfl (Or.inl rfl) pe_str)
    (pss_cons (ps_set (i := 2) sc__law_lamps.nd rfl (Or.inl rfl) (pe_op op_add pe_int (pe_op op_mod (pv 0) pe_int)))
    (pss_cons (ps_set (i := 3) sc__law_lamps.nd rfl (Or.inl rfl) (pe_op op_muls (pe_ix ix_str (pv 1) (pe_op op_mod (pe_op op_fdiv (pv 0) pe_int) pe_int) (fun _ _ => rfl)) (pv 2)))
    (pss_cons (ps_set (i := 4) sc__law_lamps.nd rfl (Or.inl rfl) (pe_op op_mod (pe_op op_fdiv (pv 0) pe_int) (pv 2)))
    (pss_cons (ps_set (i := 5) sc__law_lamps.nd rfl (Or.inl rfl) (pe_lst pa_nil))
    (pss_cons (ps_for PassesOwn.never rfl (pi_range1 (by rfl) T.z_range (pa_cons pe_int pa_nil)) (pg_name (i := 6) sc__law_lamps.nd rfl (Or.inl rfl))
    (pss_cons (ps_set (i := 7) sc__law_lamps.nd rfl (Or.inl rfl) (pe_ix ix_str (pv 1) (pe_op op_mod (pe_op op_add (pe_op op_fdiv (pv 0) pe_int) (pe_op op_mul pe_int (pv 6))) pe_int) (fun _ _ => rfl)))
    (pss_one (ps_expr (pe_bm PySem.F.plainAttrs_list PySem.F.slot_list_append PySem.F.type_list_append mt_append (pv 5) (pa_cons (pe_op op_add_str (pe_op op_add_str (pe_slice sl_str (pv 3) po_none (po_some (pv 4))) (pv 7)) (pe_slice sl_str (pv 3) (po_some (pe_op op_add (pv 4) pe_int)) po_none)) pa_nil))))))
    (pss_one (ps_ret (pv 5))))))))), ?_⟩
  obtain ⟨a1, a2, a3, a4⟩ := lampK_dom (c := c)
  have lz : (Str.ofString "abcdefghijklmnopqrstuvwxyz").length ≤ sizeLine := by rw [sizeLine_eq]; decide +kernel
  refine ⟨_, rfl, _, _, rfl, rfl, by simp, _, _, rfl, rfl, ?_⟩
  refine ⟨_, rfl, _, rfl, _, _, rfl, rfl, ⟨by decide, by decide⟩, _, _, rfl, rfl, by simp, _, _, _, rfl, rfl, lz, letter_at (Int.emod_nonneg _ (by decide)) (Int.emod_lt_of_pos _ (by decide)), _, rfl, _, _, rfl, rfl, show (1 : Nat) ≤ 1000 by decide, by omega, by omega, ?_⟩
  refine ⟨_, rfl, _, _, rfl, rfl, ⟨by decide, by decide⟩, _, rfl, _, _, rfl, rfl, show (0 : Int) < 1 + c % 8 by omega, ?_⟩
  refine ⟨by simp [sizeLine_eq], fun l nl => ?_⟩
  refine ⟨6, rfl, by decide, by decide, for_range (n := 6) (fun i σ H' => ∃ v6 v7, σ = [some (.int c), some (.str "abcdefghijklmnopqrstuvwxyz"), some (.int (1 + c % 8)), some (.str (Txt.mul ⟨#[97 + (c / 8 % 26).toNat]⟩ (1 + c % 8))), some (.int (c / 208 % (1 + c % 8))), some (.ref l), v6, v7] ∧ Same H H' ∧ H' l = some (.lst (((lamps6 c).take i).map V.str))) ⟨none, none, rfl, same_upd nl, upd_same⟩ ?_ ?_⟩
  · rintro i σ H' hi ⟨v6, v7, rfl, s1, hl⟩
    have lb : (Txt.mul ⟨#[97 + (c / 8 % 26).toNat]⟩ (1 + c % 8)).length ≤ 8 := by
      show (Txt.mul ⟨#[97 + (c / 8 % 26).toNat]⟩ (1 + c % 8)).cps.size ≤ 8
      rw [← Array.length_toList, mul_cps a4, List.length_replicate]; omega
    have lb2 : (Txt.mul ⟨#[97 + (c / 8 % 26).toNat]⟩ (1 + c % 8)).length ≤ sizeLine := Nat.le_trans lb (by rw [sizeLine_eq]; decide)
    refine ⟨_, rfl, _, rfl, _, _, rfl, rfl, ⟨by decide, by decide⟩, _, rfl, _, _, rfl, rfl, .inl ⟨by decide, by decide⟩, _, _, rfl, rfl, _, _, rfl, rfl, by simp, _, _, _, rfl, rfl, lz, letter_at (Int.emod_nonneg _ (by decide)) (Int.emod_lt_of_pos _ (by decide)), ?_⟩
    refine ⟨_, rfl, .inl ⟨rfl, _, .inl (.inl hl)⟩, _, rfl, _, rfl, _, rfl, _, rfl, lb2, _, rfl, _, _, rfl, rfl, ?_, _, rfl, _, rfl, _, _, rfl, rfl, _, rfl, _, rfl, lb2, _, _, rfl, rfl, ?_, _, _, _, rfl, rfl, hl, ?_, ?_⟩
    · have := cutS_length (Txt.mul ⟨#[97 + (c / 8 % 26).toNat]⟩ (1 + c % 8)) none (some (c / 208 % (1 + c % 8)))
      rw [sizeLine_eq]
      show _ + 1 ≤ _
      omega
    · have h1 := cutS_length (Txt.mul ⟨#[97 + (c / 8 % 26).toNat]⟩ (1 + c % 8)) none (some (c / 208 % (1 + c % 8)))
      have h2 := cutS_length (Txt.mul ⟨#[97 + (c / 8 % 26).toNat]⟩ (1 + c % 8)) (some (c / 208 % (1 + c % 8) + 1)) none
      rw [sizeLine_eq, Str.length_append]
      show _ + 1 + _ ≤ _
      omega
    · rw [List.length_map, List.length_take, lamps6_len, sizeLine_eq]; omega
    · refine ⟨_, _, rfl, sm_mut s1 nl, ?_⟩
      rw [upd_same, lamps6_take c hi, List.map_append]; rfl
  · rintro σ H' ⟨v6, v7, rfl, s1, hl⟩
    refine ⟨_, rfl, q H' l s1 nl ?_⟩
    rwa [show (lamps6 c).take 6 = lamps6 c from List.take_of_length_le (by rw [lamps6_len]; decide)] at hl
def spNums : Sp := sp1 fun a H Q _ => ∃ c : Int, a = .int c ∧ ∀ H' l, Same H H' → H l = none → H' l = some (.lst ((nums9 c).map V.int)) → Q (.ref l) H'
theorem sc__law_numbers : FnScope ["_law_cell_here", "_law_one"] ["_law_cell_here"] (defScope s__law_numbers) := ⟨rfl, rfl, rfl, by decide +kernel, rfl, by decide +kernel, by decide +kernel⟩
theorem d__law_numbers (T : Txt K mg) : Def P w K mg base 1 "_law_numbers" ["_law_cell_here"] (spNums) := by
  refine mkDef T.d__law_numbers T.g__law_numbers sc__law_numbers (fun _ _ _ _ _ _ us hl => match us, hl with | [_], _ => rfl) len1 (BodyN.up fun cdv A outer s H vs Q E hr h => ?_)
  obtain ⟨_, rfl, c, rfl, q⟩ := h
  have hu := hu_of hr
  refine ⟨_, (pss_cons (ps_set (i := 1) sc__law_numbers.nd rfl (Or.inl rfl) (pe_op op_add pe_int (pe_op op_mod (pv 0) pe_int)))
    (pss_one (ps_ret (pe_lst (pa_cons pe_int (pa_cons pe_int (pa_cons pe_int (pa_cons pe_int (pa_cons (pv 1) (pa_cons (pe_op op_add (pv 1) pe_int) (pa_cons (pe_op op_add (pv 1) pe_int) (pa_cons pe_int (pa_cons pe_int pa_nil))))))))))))), ?_⟩
  refine ⟨_, rfl, _, _, rfl, rfl, by simp, _, _, rfl, rfl, _, rfl, _, rfl, _, _, rfl, rfl, _, rfl, _, _, rfl, rfl, by simp [sizeLine_eq], fun p np => ?_⟩
  exact q _ p (same_upd np) np upd_same
end

/-! ## The law's own book beside the play -/
theorem iteY {b : Bool} {A B : Prop} (h : b = true) (x : A) : if b = true then A else B := by rw [if_pos h]; exact x
theorem iteN {b : Bool} {A B : Prop} (h : b = false) (x : B) : if b = true then A else B := by rw [if_neg (by rw [h]; simp)]; exact x
/-- the level, by a walk through all cues from the last one on -/
def levL (n : Int) (l : Str) : Book → Int
  | [] => 0
  | e :: r => if e.1 ≤ n then (match get e.2.words l with
    | some v => v
    | none => if e.2.fresh then 0 else levL n l r) else levL n l r
theorem levL_levR (n : Int) (l : Str) : ∀ R : Book, levL n l R = levR l (R.filter fun e => decide (e.1 ≤ n))
  | [] => rfl
  | e :: r => by
    unfold levL
    by_cases h : e.1 ≤ n
    · rw [if_pos h, List.filter_cons_of_pos (by simpa using h), levR, levL_levR n l r] <;> rfl
    · rw [if_neg h, List.filter_cons_of_neg (by simpa using h), levL_levR n l r]
theorem lev_levL {U : List Str} {M : Book} (g : Good U M) (n : Int) (l : Str) : lev M n l = levL n l M.reverse := by
  unfold lev
  rw [lookW_levR l (upto M n) fun e he => g.wnd (List.mem_filter.mp he).1, levL_levR]
  unfold upto
  rw [List.filter_reverse]
theorem levL_at {n : Int} {l : Str} {R : Book} {i : Nat} {e : Int × CueC} (h : R[i]? = some e) : levL n l (R.drop i) = levL n l (e :: R.drop (i + 1)) := by
  obtain ⟨hl, rfl⟩ := List.getElem?_eq_some_iff.mp h
  rw [List.drop_eq_getElem_cons hl]
theorem TK.sortedR {kvs : List (Key × V)} {M : Book} {ad : Int → Addr} (h : TK kvs M ad) (hs : Rising ltI M) {ks ys : List Int} (hk : kvs.map (·.1) = ks.map Sum.inl) (hp : ys.Perm ks) (hy : ys.Pairwise (· ≥ ·)) : ys = M.reverse.map (·.1) := by
  have := h.sorted hs hk ((List.reverse_perm ys).trans hp) (List.pairwise_reverse.mpr hy)
  rw [List.map_reverse, ← this, List.reverse_reverse]
section
variable {lk : Option Obj} {H : Hp} {d : Addr} {ad : Ads} {M : Book}
theorem TabAt.topR (T : TabAt RcM lk H d ad M) : ∃ kvs, Rd H d (.dK kvs) ∧ TK kvs M fun n => (ad n).1 := by
  obtain ⟨kvs, h, k⟩ := T.top
  exact ⟨kvs, box_rd h, k⟩
theorem TabAt.recd (T : TabAt RcM lk H d ad M) {n : Int} {c : CueC} (h : get M n = some c) : H (ad n).1 = some (.lst [.int c.up, .int c.down, .bl c.fresh, .ref (ad n).2]) := by
  obtain ⟨o, e, rfl⟩ := T.row n c h
  exact e
end
/-- what has been touched is within F; what is meant now is within F or new -/
def Mv (H : Hp) (F : Addr → Prop) (H' : Hp) (F' : Addr → Prop) : Prop := Chg F H H' ∧ Grow H F F'
theorem Mv.refl {H : Hp} {F : Addr → Prop} : Mv H F H F := ⟨fun _ _ e _ => e, fun _ h => .inl h⟩
theorem Mv.same {H H' : Hp} {F : Addr → Prop} (s : Same H H') : Mv H F H' F := ⟨fun b o e _ => s b o e, fun _ h => .inl h⟩
theorem Mv.trans {H H1 H2 : Hp} {F F1 F2 : Addr → Prop} (a : Mv H F H1 F1) (b : Mv H1 F1 H2 F2) : Mv H F H2 F2 := by
  refine ⟨fun x o e nf => b.1 x o (a.1 x o e nf) fun h => ?_, fun x h => ?_⟩
  · rcases a.2 x h with h | h
    · exact nf h
    · rw [h] at e; cases e
  · rcases b.2 x h with h | h
    · exact a.2 x h
    · by_cases z : F x
      · exact .inl z
      · refine .inr ?_
        cases e : H x with
        | none => rfl
        | some o => rw [a.1 x o e z] at h; cases h
/-- a play and the law's book, apart from each other -/
structure Two (K : PySem.W.Frag) (U : List Str) (NS : List Int) (H : Hp) (p dp : Addr) (ap : Ads) (Mp : Book) (dm : Addr) (am : Ads) (Mm : Book) : Prop where
  play : PlayAt K U H p dp ap Mp
  tab : TabAt RcM none H dm am Mm
  good : Good U Mm
  dis : ∀ b, footP p dp ap Mp b → foot dm am Mm b → False
  nmb : ∀ e ∈ Mm, e.1 ∈ NS
def footT (p dp : Addr) (ap : Ads) (Mp : Book) (dm : Addr) (am : Ads) (Mm : Book) (b : Addr) : Prop := footP p dp ap Mp b ∨ foot dm am Mm b
section
variable {K : PySem.W.Frag} {U : List Str} {NS : List Int} {H H' : Hp} {p dp dm : Addr} {ap ap' am : Ads} {Mp Mp' Mm : Book}
theorem Two.same (T : Two K U NS H p dp ap Mp dm am Mm) (s : Same H H') : Two K U NS H' p dp ap Mp dm am Mm := ⟨T.play.same s, T.tab.same s, T.good, T.dis, T.nmb⟩
theorem Two.has (T : Two K U NS H p dp ap Mp dm am Mm) {b : Addr} (h : footT p dp ap Mp dm am Mm b) : ∃ o, H b = some o := by
  rcases h with h | h
  · exact T.play.has h
  · exact T.tab.has h
/-- the play was changed -/
theorem Two.deed (T : Two K U NS H p dp ap Mp dm am Mm) (h : PlayAt K U H' p dp ap' Mp') (c : Chg (footP p dp ap Mp) H H') (g : Grow H (footP p dp ap Mp) (footP p dp ap' Mp')) :
    Two K U NS H' p dp ap' Mp' dm am Mm ∧ Mv H (footT p dp ap Mp dm am Mm) H' (footT p dp ap' Mp' dm am Mm) := by
  refine ⟨⟨h, T.tab.frame fun b o hb e => c b o e fun z => T.dis b z hb, T.good, fun b hb hm => ?_, T.nmb⟩, fun b o e n => c b o e fun z => n (.inl z), fun b hb => ?_⟩
  · rcases g b hb with h1 | h1
    · exact T.dis b h1 hm
    · obtain ⟨o, e⟩ := T.tab.has hm
      rw [h1] at e; cases e
  · rcases hb with h1 | h1
    · rcases g b h1 with h2 | h2
      · exact .inl (.inl h2)
      · exact .inr h2
    · exact .inl (.inr h1)
/-- words of the law's book were changed -/
theorem Two.word (T : Two K U NS H p dp ap Mp dm am Mm) {n : Int} {c : CueC} {f : Ws → Ws} {kvs : List (Key × V)} (hn : get Mm n = some c) (hw : WK kvs (f c.words)) (g : Good U (setW n f Mm)) :
    Two K U NS (upd H (am n).2 (.dK kvs)) p dp ap Mp dm am (setW n f Mm) ∧ Mv H (footT p dp ap Mp dm am Mm) (upd H (am n).2 (.dK kvs)) (footT p dp ap Mp dm am (setW n f Mm)) := by
  have hf : foot dm am Mm (am n).2 := .inr ⟨n, c, hn, .inr rfl⟩
  refine ⟨⟨T.play.frame fun b o hb e => by rw [upd_ne fun (z : b = (am n).2) => T.dis b hb (z ▸ hf)]; exact e, T.tab.word hn (fun b o _ ne e => by rw [upd_ne ne]; exact e) ⟨_, upd_same, hw⟩, g, fun b hb hm => T.dis b hb (foot_word.mp hm), fun e he => ?_⟩, fun b o e nf => by rw [upd_ne fun (z : b = (am n).2) => nf (.inr (z ▸ hf))]; exact e, fun b hb => ?_⟩
  · have : e.1 ∈ (setW n f Mm).map (·.1) := List.mem_map.mpr ⟨e, he, rfl⟩
    rw [setW_keys] at this
    obtain ⟨e', h1, h2⟩ := List.mem_map.mp this
    rw [← h2]; exact T.nmb e' h1
  · rcases hb with h | h
    · exact .inl (.inl h)
    · exact .inl (.inr (foot_word.mp h))
/-- a cue was put into the law's book -/
theorem Two.add (T : Two K U NS H p dp ap Mp dm am Mm) {n : Int} {c : CueC} {r w : Addr} {kvs : List (Key × V)} (hd : H dm = some (.dK kvs)) (hr : H r = some (.lst [.int c.up, .int c.down, .bl c.fresh, .ref w])) (hw : WordsAt H w c.words)
    (nr : ¬ footT p dp ap Mp dm am Mm r) (nw : ¬ footT p dp ap Mp dm am Mm w) (nrw : r ≠ w) (g : Good U (put ltI n c Mm)) (hn : n ∈ NS) :
    Two K U NS (upd H dm (.dK (putK kvs (Sum.inl n) (.ref r)))) p dp ap Mp dm (adSet am n (r, w)) (put ltI n c Mm) := by
  have rd : r ≠ dm := fun z => nr (.inr (.inl z))
  have wd : w ≠ dm := fun z => nw (.inr (.inl z))
  refine ⟨T.play.frame fun b o hb e => by rw [upd_ne fun z => T.dis b hb (.inl z)]; exact e, T.tab.add hd upd_same (by rw [upd_ne rd]; exact hr) rfl ?_ (fun z => nr (.inr z)) (fun z => nw (.inr z)) nrw (fun b u _ ne e => by rw [upd_ne ne]; exact e), g, fun b hb hm => ?_, fun e he => ?_⟩
  · obtain ⟨k, e, q⟩ := hw
    exact ⟨k, by rw [upd_ne wd]; exact e, q⟩
  · rcases foot_add hm with h | h | h
    · exact T.dis b hb h
    · exact nr (.inl (h ▸ hb))
    · exact nw (.inl (h ▸ hb))
  · have h := (keys_put n c Mm e.1).mp (List.mem_map.mpr ⟨e, he, rfl⟩)
    rcases h with h | h
    · rw [h]; exact hn
    · obtain ⟨e', h1, h2⟩ := List.mem_map.mp h
      rw [← h2]; exact T.nmb e' h1
/-- a cue was dropped from the law's book -/
theorem Two.drop (T : Two K U NS H p dp ap Mp dm am Mm) {n : Int} {kvs : List (Key × V)} (hd : H dm = some (.dK kvs)) :
    Two K U NS (upd H dm (.dK (dropK kvs (Sum.inl n)))) p dp ap Mp dm am (del n Mm) ∧ Mv H (footT p dp ap Mp dm am Mm) (upd H dm (.dK (dropK kvs (Sum.inl n)))) (footT p dp ap Mp dm am (del n Mm)) := by
  refine ⟨⟨T.play.frame fun b o hb e => by rw [upd_ne fun z => T.dis b hb (.inl z)]; exact e, T.tab.drop hd upd_same (fun b u _ ne e => by rw [upd_ne ne]; exact e), T.good.del n, fun b hb hm => T.dis b hb (foot_drop hm), fun e he => T.nmb e (List.mem_filter.mp he).1⟩, fun b o e nf => by rw [upd_ne fun z => nf (.inr (.inl z))]; exact e, fun b hb => ?_⟩
  rcases hb with h | h
  · exact .inl (.inl h)
  · exact .inl (.inr (foot_drop h))
theorem Two.few (T : Two K U NS H p dp ap Mp dm am Mm) (h : NS.length ≤ 9) : Mm.length ≤ 9 := by
  have := nodup_le T.good.nodup (u := NS) fun x hx => by
    obtain ⟨e, he, rfl⟩ := List.mem_map.mp hx
    exact T.nmb e he
  rw [List.length_map] at this; omega
end
/-- a dict that is walked is locked, and let go -/
theorem same_unlock {H H' : Hp} {d : Addr} {u x : HO} (h : H d = some u) (s : Same (upd H d x) H') : Same H (upd H' d u) := fun b o e => by
  by_cases z : b = d
  · subst z; rw [upd_same, ← h, e]
  · rw [upd_ne z]; exact s b o (by rw [upd_ne z]; exact e)
theorem TabAt.locked {H : Hp} {d : Addr} {ad : Ads} {M : Book} (T : TabAt RcM none H d ad M) {kvs : List (Key × V)} (h : H d = some (.dK kvs)) (od : Obj) : TabAt RcM (some od) (upd H d (.frz od (.dK kvs))) d ad M := by
  refine ⟨⟨kvs, upd_same, ?_⟩, fun n c hn => ?_, fun n c hn => ?_, T.inj, T.out, T.crs⟩
  · obtain ⟨k', e, q⟩ := T.top
    rw [h] at e
    cases e; exact q
  · obtain ⟨o, e, q⟩ := T.row n c hn
    exact ⟨o, by rw [upd_ne (T.out n c hn).1]; exact e, q⟩
  · obtain ⟨o, e, q⟩ := T.wrd n c hn
    exact ⟨o, by rw [upd_ne (T.out n c hn).2]; exact e, q⟩
theorem dW_snoc (ws : Ws) (l : Str) (v : Int) : dW (ws ++ [(l, v)]) = dW ws ++ [(Sum.inr l, V.int v)] := by simp [dW]
theorem putK_dW {ws : Ws} {l : Str} {v : Int} (h : l ∉ ws.map (·.1)) : putK (dW ws) (Sum.inr l) (.int v) = dW (ws ++ [(l, v)]) := by
  rw [dW_snoc, putK_new]
  rw [valV_dW, get_none_iff.mpr h]; rfl
/-- pairs, as data -/
theorem dat_items {K : PySem.W.Frag} {H : Hp} {ts : List Addr} {ws : Ws} (h : Paired (fun (t : Addr) (q : Key × V) => H t = some (.tup [kV q.1, q.2])) ts (dW ws)) (ok : ∀ w ∈ ws, PyData.strOk w.1 = true) :
    Paired (fun x d => Dat K H x d 1) (ts.map V.ref) (ws.map fun w => PyData.tuple [.str w.1, .int w.2]) := by
  induction ws generalizing ts with
  | nil => cases h; exact .nil
  | cons w r ih =>
    cases h with
    | cons h1 h2 =>
      refine .cons ?_ (ih h2 fun x hx => ok x (List.mem_cons_of_mem _ hx))
      exact dat_tup (xs := [.str w.1, .int w.2]) (.inl (.inl h1)) (by
        intro x hx
        simp only [List.mem_cons, List.not_mem_nil, or_false] at hx
        rcases hx with rfl | rfl
        · exact ok w List.mem_cons_self
        · rfl)
theorem look_mem {U : List Str} {M : Book} (g : Good U M) (n : Int) : ∀ w ∈ look M n, w.1 ∈ U ∧ 0 ≤ w.2 ∧ w.2 ≤ 100 := fun w hw => lookW_val (g.upto n) w (List.mem_filter.mp hw).1
theorem look_few {U : List Str} {M : Book} (g : Good U M) (u : Lamps U) (n : Int) : (look M n).length ≤ 60 := Nat.le_trans (List.length_filter_le _ _) (lookW_few (g.upto n) u)

theorem sortedS_le : ∀ {l : List Str}, sortedS l = true → l.Pairwise (fun a b => ¬ ltS b a) := by
  have aux : ∀ (l : List Str) (p : Str), risingS p l = true → (p :: l).Pairwise (fun a b => ¬ ltS b a) := by
    intro l
    induction l with
    | nil => intro p _; simp
    | cons x r ih =>
      intro p h
      obtain ⟨h1, h2⟩ := Bool.and_eq_true_iff.mp (show (!ltCps x.cps.toList p.cps.toList && risingS x r) = true from h)
      have ihx := ih x h2
      have px : ¬ ltS x p := fun q => by
        have : ltCps x.cps.toList p.cps.toList = true := q
        rw [this] at h1; simp at h1
      refine List.pairwise_cons.mpr ⟨fun y hy => ?_, ihx⟩
      rcases List.mem_cons.mp hy with rfl | hy
      · exact px
      · have h3 := (List.pairwise_cons.mp ihx).1 y hy
        intro q
        by_cases e : x = p
        · subst e; exact h3 q
        · rcases linS.tri x p e with k | k
          · exact px k
          · exact h3 (linS.tr _ _ _ q k)
  intro l h
  cases l with
  | nil => exact .nil
  | cons x r => exact aux r x h
theorem put_hit {k : Str} {v : Int} : ∀ {W : Ws}, Rising ltS W → get W k = some v → put ltS k v W = W
  | [], _, h => by cases h
  | (a, x) :: r, hr, h => by
    obtain ⟨h1, h2⟩ := List.pairwise_cons.mp hr
    unfold put
    rw [get] at h
    by_cases e : a = k
    · rw [if_pos e] at h ⊢
      cases h; rw [e]
    · rw [if_neg e] at h ⊢
      have : ltS a k := h1 k (List.mem_map.mpr ⟨_, get_mem h, rfl⟩)
      rw [if_neg (linS.asym this), put_hit h2 h]
theorem put_end {k : Str} {v : Int} : ∀ {W : Ws}, Rising ltS W → (∀ y ∈ W, ltS y.1 k) → put ltS k v W = W ++ [(k, v)]
  | [], _, _ => rfl
  | (a, x) :: r, hr, h => by
    have h0 := h _ List.mem_cons_self
    unfold put
    have ne : a ≠ k := fun e => linS.irr k (e ▸ h0)
    rw [if_neg ne, if_neg (linS.asym h0), put_end (List.pairwise_cons.mp hr).2 fun y hy => h y (List.mem_cons_of_mem _ hy)]
    rfl
theorem valV_of_mem {κ : Type} [DecidableEq κ] : ∀ {kvs : List (κ × V)} {k : κ} {v : V}, (kvs.map (·.1)).Nodup → (k, v) ∈ kvs → valV kvs k = some v
  | [], _, _, _, h => by cases h
  | (a, x) :: r, k, v, hn, h => by
    obtain ⟨h1, h2⟩ := List.nodup_cons.mp hn
    unfold valV
    rcases List.mem_cons.mp h with e | h
    · cases e; simp
    · have : a ≠ k := fun z => h1 (z ▸ List.mem_map.mpr ⟨_, h, rfl⟩)
      rw [List.find?_cons_of_neg (by simpa using this)]
      exact valV_of_mem h2 h
theorem putK_hit {κ : Type} [DecidableEq κ] {kvs : List (κ × V)} {k : κ} {v : V} (h : valV kvs k = some v) (hn : (kvs.map (·.1)).Nodup) : putK kvs k v = kvs := by
  unfold putK
  by_cases c : (kvs.any fun kv => decide (kv.1 = k)) = true
  · rw [if_pos c]
    have : kvs.map (fun kv => if kv.1 = k then (kv.1, v) else kv) = kvs.map id := List.map_congr_left fun kv hm => by
      by_cases e : kv.1 = k
      · rw [if_pos e]
        have := valV_of_mem (v := kv.2) hn hm
        rw [e, h] at this
        cases this; rfl
      · rw [if_neg e]; rfl
    rw [this, List.map_id]
  · exfalso
    apply c
    unfold valV at h
    obtain ⟨kv, hf, _⟩ := Option.map_eq_some_iff.mp h
    exact List.any_eq_true.mpr ⟨kv, List.mem_of_find?_eq_some hf, List.find?_some (p := fun kv : κ × V => decide (kv.1 = k)) hf⟩
section
variable {P : Program} {w : World} {K : PySem.W.Frag} {mg : Str → Option Value} {base : Heap}
def spLLevel : Sp := sp3 fun m n l H Q _ => ∃ lk d ad M U i z, m = .ref d ∧ n = .int i ∧ l = .str z ∧ TabAt RcM lk H d ad M ∧ Good U M ∧ ∀ H', Same H H' → Q (.int (lev M i z)) H'
theorem sc__law_level : FnScope ["_law_model", "_law_number", "_law_lamp", "_law_one"] ["_law_model", "_law_number", "_law_lamp"] (defScope s__law_level) := ⟨rfl, rfl, rfl, by decide +kernel, rfl, by decide +kernel, by decide +kernel⟩
theorem d__law_level (T : Txt K mg) : Def P w K mg base 1 "_law_level" ["_law_model", "_law_number", "_law_lamp"] (spLLevel) := by
  refine mkDef T.d__law_level T.g__law_level sc__law_level (fun _ _ _ _ _ _ us hl => match us, hl with | [_, _, _], _ => rfl) len3 (BodyN.up fun cdv A outer s H vs Q E hr h => ?_)
  obtain ⟨_, _, _, rfl, lk, d, ad, M, U, n, z, rfl, rfl, rfl, hT, g, q⟩ := h
  have hu := hu_of hr
  refine ⟨_, (pss_cons (ps_for PassesOwn.never rfl (pi_list (pe_sortedDR (pv 0) (by rfl) T.z_sorted)) (pg_name (i := 3) sc__law_level.nd rfl (Or.inl rfl))
    (pss_cons (ps_if (PW.pt (pw_and (pt_cmpR op_le (pv 3) (pv 1) (nomark _)) (pw_and1 (pt_cmp (pc_din (by exact hu) (pv 2) (pe_ix ix_list (pe_dget (by exact hu) (pv 0) (pv 3) (fun _ _ => rfl)) pe_int (fun _ _ => rfl)))))))
    (pss_one (ps_ret (pe_dget (by exact hu) (pe_ix ix_list (pe_dget (by exact hu) (pv 0) (pv 3) (fun _ _ => rfl)) pe_int (fun _ _ => rfl)) (pv 2) (fun _ _ => rfl))))
    pss_nil)
    (pss_one (ps_if (PW.pt (pw_and (pt_cmpR op_le (pv 3) (pv 1) (nomark _)) (pw_and1 (pt_val (pe_ix ix_list (pe_dget (by exact hu) (pv 0) (pv 3) (fun _ _ => rfl)) pe_int (fun _ _ => rfl))))))
    (pss_one (ps_ret pe_int))
    pss_nil))))
    (pss_one (ps_ret pe_int))), ?_⟩
  obtain ⟨kvs, rd, tk⟩ := hT.topR
  obtain ⟨ns, hk, _, _⟩ := tk.keys
  refine ⟨_, rfl, _, kvs, ns, rfl, rfl, rd, hk, fun ys p hp1 hp2 np => ?_⟩
  rw [tk.sortedR g.srt hk hp1 hp2]
  have s0 := same_upd (o := HO.lst ((M.reverse.map (·.1)).map V.int)) np
  refine ⟨p, rfl, ⟨_, .inl (.inl upd_same)⟩, for_list (K := K) (a := p) (xs := (M.reverse.map (·.1)).map V.int) (fun i σ H' => ∃ v3, σ = [some (.ref d), some (.int n), some (.str z), v3] ∧ Same H H' ∧ H' p = some (.lst ((M.reverse.map (·.1)).map V.int)) ∧ lev M n z = levL n z (M.reverse.drop i)) ⟨none, rfl, s0, upd_same, lev_levL g n z⟩ (fun i σ H' _ ⟨_, _, _, h, _⟩ => .inl (.inl h)) ?_ ?_⟩
  · rintro i x σ H' hx ⟨v3, rfl, s1, hl, hv⟩
    rw [List.map_map, List.getElem?_map] at hx
    obtain ⟨e, he, rfl⟩ := Option.map_eq_some_iff.mp hx
    have hm : e ∈ M := List.mem_reverse.mp (List.mem_of_getElem? he)
    have hge : get M e.1 = some e.2 := get_of_mem g.nodup hm
    have T1 := hT.same s1
    obtain ⟨kv1, rd1, tk1⟩ := T1.topR
    have hrec := T1.recd hge
    obtain ⟨kw, ew, wk⟩ := T1.wrd _ _ hge
    rw [levL_at he, levL] at hv
    have nxt : (e.1 ≤ n → get e.2.words z = none → e.2.fresh = false) → (e.1 ≤ n → get e.2.words z = none) → lev M n z = levL n z (M.reverse.drop (i + 1)) := by
      intro h1 h2
      by_cases c : e.1 ≤ n
      · rw [if_pos c, h2 c, h1 c (h2 c)] at hv
        simpa using hv
      · rwa [if_neg c] at hv
    have fin : (e.1 ≤ n → get e.2.words z = none) → ∀ v4 : Option V, (e.1 ≤ n → get e.2.words z = none → e.2.fresh = false) → ∃ v3, [some (V.ref d), some (.int n), some (.str z), v4] = [some (V.ref d), some (.int n), some (.str z), v3] ∧ Same H H' ∧ H' p = some (.lst ((M.reverse.map (·.1)).map V.int)) ∧ lev M n z = levL n z (M.reverse.drop (i + 1)) :=
      fun h2 v4 h1 => ⟨v4, rfl, s1, hl, nxt h1 h2⟩
    refine ⟨_, rfl, _, rfl, _, _, rfl, rfl, _, rfl, ite2 (fun c1 => ?_) (fun c1 => ?_)⟩
    · have c1 : e.1 ≤ n := of_decide_eq_true c1
      refine ⟨_, rfl, _, rfl, _, rfl, d, _, rfl, tk1.hit rd1 hge, _, _, _, _, rfl, rfl, .inl (.inl hrec), rfl, _, _, rfl, wk.get (.inl ew) z, _, rfl, ?_⟩
      cases hz : get e.2.words z with
      | some v =>
        refine iteT ⟨_, rfl, _, rfl, d, _, rfl, tk1.hit rd1 hge, _, _, _, _, rfl, rfl, .inl (.inl hrec), rfl, _, rfl, _, _, rfl, wk.hit (.inl ew) hz, ?_⟩
        rw [if_pos c1, hz] at hv
        have hv : lev M n z = v := hv
        rw [← hv]
        exact q H' s1
      | none =>
        refine iteF ⟨_, rfl, _, rfl, _, _, rfl, rfl, _, rfl, iteY (decide_eq_true c1) ⟨_, rfl, _, rfl, d, _, rfl, tk1.hit rd1 hge, _, _, _, _, rfl, rfl, .inl (.inl hrec), rfl, _, rfl, ite2 (fun c2 => ?_) (fun c2 => ?_)⟩⟩
        · rw [if_pos c1, hz] at hv
          have hv : lev M n z = if e.2.fresh = true then 0 else _ := hv
          rw [if_pos c2] at hv
          rw [← hv]
          exact q H' s1
        · exact fin (fun _ => hz) _ fun _ _ => by simpa using c2
    · have c1 : ¬ e.1 ≤ n := fun y => c1 (decide_eq_true y)
      refine iteF ⟨_, rfl, _, rfl, _, _, rfl, rfl, _, rfl, iteN (decide_eq_false c1) (iteF ?_)⟩
      exact fin (fun y => absurd y c1) _ fun y => absurd y c1
  · rintro σ H' ⟨v3, rfl, s1, hl, hv⟩
    rw [show ((M.reverse.map (·.1)).map V.int).length = M.reverse.length by simp, List.drop_length] at hv
    have hv : lev M n z = 0 := hv
    rw [← hv]
    exact q H' s1
/-- lamps asked for: all of U, perhaps more, perhaps twice -/
structure Asked (U ls : List Str) : Prop where
  cov : ∀ z ∈ U, z ∈ ls
  ok : ∀ z ∈ ls, lampS z = true
  few : ls.length ≤ 60
theorem Asked.self {U : List Str} (u : Lamps U) : Asked U U := ⟨fun _ h => h, u.ok, u.few⟩
def spLLook : Sp := sp3 fun m n a H Q _ => ∃ lk d ad M U i l ls, m = .ref d ∧ n = .int i ∧ a = .ref l ∧ TabAt RcM lk H d ad M ∧ Good U M ∧ Asked U ls ∧ H l = some (.lst (ls.map V.str)) ∧ ∀ H' r, Same H H' → H r = none → H' r = some (.dK (dW (look M i))) → Q (.ref r) H'
theorem sc__law_look : FnScope ["_law_model", "_law_number", "_law_lamps_here", "_law_found", "_law_lamp", "_law_level_here"] ["_law_model", "_law_number", "_law_lamps_here"] (defScope s__law_look) := ⟨rfl, rfl, rfl, by decide +kernel, rfl, by decide +kernel, by decide +kernel⟩
theorem d__law_look (T : Txt K mg) : Def P w K mg base 2 "_law_look" ["_law_model", "_law_number", "_law_lamps_here"] (spLLook) := by
  have d__law_level := d__law_level (P := P) (w := w) (base := base) T
  refine mkDef T.d__law_look T.g__law_look sc__law_look (fun _ _ _ _ _ _ us hl => match us, hl with | [_, _, _], _ => rfl) len3 (BodyN.up fun cdv A outer s H vs Q E hr h => ?_)
  obtain ⟨_, _, _, rfl, lk, d, ad, M, U, n, l, ls, rfl, rfl, rfl, hT, g, hA, hl, q⟩ := h
  have hu := hu_of hr
  refine ⟨_, (pss_cons (ps_set (i := 3) sc__law_look.nd rfl (Or.inl rfl) pe_dnewK)
    (pss_cons (ps_for PassesOwn.never rfl (pi_list (pe_callB cr_sortedS (by rfl) T.z_sorted (by decide +kernel) (pa_cons (pv 2) pa_nil))) (pg_name (i := 4) sc__law_look.nd rfl (Or.inl rfl))
    (pss_cons (ps_set (i := 5) sc__law_look.nd rfl (Or.inl rfl) (pe_fn d__law_level (hr.mono (by decide)) (by rfl) passL (pa_cons (pv 0) (pa_cons (pv 1) (pa_cons (pv 4) pa_nil)))))
    (pss_one (ps_if (pt_cmpR op_gt (pv 5) pe_int (nomark _))
    (pss_one (ps_dput hu (pv 3) (pv 4) (pv 5) rfl))
    pss_nil))))
    (pss_one (ps_ret (pv 3))))), ?_⟩
  intro f nf
  have s0 := same_upd (o := HO.dK []) nf
  have hU := hA.few
  refine ⟨_, rfl, _, _, rfl, .inl (.inl (s0 _ _ hl)), by omega, fun ys p hp1 hp2 np => ?_⟩
  have sp : Same H (upd (upd H f (.dK [])) p (.lst (ys.map V.str))) := s0.trans (same_upd np)
  have ry : ys.Pairwise (fun a b => ¬ ltS b a) := sortedS_le hp2
  have fp : f ≠ p := fun z => by rw [← z, upd_same] at np; cases np
  refine ⟨p, rfl, ⟨_, .inl (.inl upd_same)⟩, for_list (K := K) (a := p) (xs := ys.map V.str) (fun i σ H' => ∃ v4 v5 W, σ = [some (.ref d), some (.int n), some (.ref l), some (.ref f), v4, v5] ∧ Same H H' ∧ H' p = some (.lst (ys.map V.str)) ∧ H' f = some (.dK (dW W)) ∧ Rising ltS W ∧ ∀ z, get W z = if z ∈ ys.take i ∧ 0 < lev M n z then some (lev M n z) else none) ⟨none, none, [], rfl, sp, upd_same, by rw [upd_ne fp]; exact upd_same, .nil, fun z => by simp [get]⟩ (fun i σ H' _ ⟨_, _, _, _, _, h, _⟩ => .inl (.inl h)) ?_ ?_⟩
  · rintro i x σ H' hx ⟨v4, v5, W, rfl, s1, hl', hf, rW, gW⟩
    rw [List.getElem?_map] at hx
    obtain ⟨z, hz, rfl⟩ := Option.map_eq_some_iff.mp hx
    refine ⟨_, rfl, _, rfl, _, rfl, _, _, _, rfl, lk, d, ad, M, U, n, z, rfl, rfl, rfl, hT.same s1, g, fun H2 s2 => ?_⟩
    have etk : ∀ y, y ∈ ys.take (i + 1) ↔ y ∈ ys.take i ∨ y = z := fun y => by rw [take_snoc hz, List.mem_append, List.mem_singleton]
    refine ⟨_, rfl, _, _, rfl, rfl, _, rfl, ite2 (fun c1 => ?_) (fun c1 => ?_)⟩
    · have c1 : 0 < lev M n z := of_decide_eq_true c1
      have hlen : W.length ≤ 60 := by
        have := nodup_le (rising_nodup linS rW) (u := ls) fun y hy => by
          obtain ⟨v, hv⟩ := get_some_iff.mpr hy
          rw [gW] at hv
          by_cases c : y ∈ ys.take i ∧ 0 < lev M n y
          · exact (hp1.mem_iff).mp (List.mem_of_mem_take c.1)
          · rw [if_neg c] at hv; cases hv
        rw [List.length_map] at this; omega
      refine ⟨_, rfl, _, rfl, _, rfl, _, _, rfl, DPut.k (k := Sum.inr z) (s2 _ _ hf) (by simp only [dW, List.length_map, sizeLine_eq]; omega), ?_⟩
      have e : putK (dW W) (Sum.inr z) (.int (lev M n z)) = dW (put ltS z (lev M n z) W) := by
        cases hW : get W z with
        | some v =>
          have ev : v = lev M n z := by
            rw [gW] at hW
            by_cases c : z ∈ ys.take i ∧ 0 < lev M n z
            · rw [if_pos c] at hW; exact (Option.some.inj hW).symm
            · rw [if_neg c] at hW; cases hW
          rw [ev] at hW
          rw [put_hit rW hW, putK_hit (by rw [valV_dW, hW]; rfl) (dW_nodup rW)]
        | none =>
          have hno : z ∉ W.map (·.1) := get_none_iff.mp hW
          rw [putK_dW hno, put_end rW fun y hy => ?_]
          obtain ⟨v, hv⟩ := get_some_iff.mpr (List.mem_map.mpr ⟨y, hy, rfl⟩)
          rw [gW] at hv
          by_cases c : y.1 ∈ ys.take i ∧ 0 < lev M n y.1
          · have h1 : ¬ ltS z y.1 := by
              have := ry.sublist (List.take_sublist (i + 1) ys)
              rw [take_snoc hz, List.pairwise_append] at this
              exact this.2.2 y.1 c.1 z (by simp)
            rcases linS.tri y.1 z (fun e => hno (e ▸ List.mem_map.mpr ⟨y, hy, rfl⟩)) with h | h
            · exact h
            · exact absurd h h1
          · rw [if_neg c] at hv; cases hv
      refine ⟨_, _, put ltS z (lev M n z) W, rfl, sm_mut (s1.trans s2) nf, by rw [upd_ne fp.symm]; exact s2 _ _ hl', by rw [upd_same, e], rising_put linS _ _ rW, fun y => ?_⟩
      rw [get_put, gW]
      by_cases c : y = z
      · subst c
        rw [if_pos rfl, if_pos ⟨(etk y).mpr (.inr rfl), c1⟩]
      · rw [if_neg c]
        have : (y ∈ ys.take (i + 1) ∧ 0 < lev M n y) ↔ (y ∈ ys.take i ∧ 0 < lev M n y) := by rw [etk]; exact ⟨fun h => ⟨h.1.resolve_right c, h.2⟩, fun h => ⟨.inl h.1, h.2⟩⟩
        simp only [this]
    · have c1 : ¬ 0 < lev M n z := fun y => c1 (decide_eq_true y)
      refine ⟨_, _, W, rfl, s1.trans s2, s2 _ _ hl', s2 _ _ hf, rW, fun y => ?_⟩
      rw [gW]
      have : (y ∈ ys.take (i + 1) ∧ 0 < lev M n y) ↔ (y ∈ ys.take i ∧ 0 < lev M n y) := by
        rw [etk]
        refine ⟨fun h => ⟨h.1.resolve_right fun e => c1 (e ▸ h.2), h.2⟩, fun h => ⟨.inl h.1, h.2⟩⟩
      simp only [this]
  · rintro σ H' ⟨v4, v5, W, rfl, s1, hl', hf, rW, gW⟩
    refine ⟨_, rfl, q H' f s1 nf ?_⟩
    have eW : W = look M n := table_ext linS rW (look_rising M n) fun z => by
      rw [gW, get_look_lev g, List.take_of_length_le (by rw [List.length_map]; exact Nat.le_refl _)]
      by_cases c : 0 < lev M n z
      · rw [if_pos c, if_pos ⟨(hp1.mem_iff).mpr (hA.cov z (Decidable.byContradiction fun h => by rw [lev_out g n h] at c; omega)), c⟩]
      · rw [if_neg c, if_neg fun h => c h.2]
    rw [← eW]; exact hf
def spLSame : Sp := sp2 fun a b H Q _ => ∃ x y ws, a = .ref x ∧ b = .ref y ∧ H x = some (.dK (dW ws)) ∧ H y = some (.dK (dW ws)) ∧ ws.length ≤ 60 ∧ (∀ e ∈ ws, PyData.strOk e.1 = true) ∧ ∀ H', Same H H' → Q (.bl true) H'
theorem sc__law_same : FnScope ["_law_found", "_law_due", "_law_one"] ["_law_found", "_law_due"] (defScope s__law_same) := ⟨rfl, rfl, rfl, by decide +kernel, rfl, by decide +kernel, by decide +kernel⟩
theorem d__law_same (T : Txt K mg) : Def P w K mg base 2 "_law_same" ["_law_found", "_law_due"] (spLSame) := by
  have d__law_whole := d__law_whole (P := P) (w := w) (base := base) T
  refine mkDef T.d__law_same T.g__law_same sc__law_same (fun _ _ _ _ _ _ us hl => match us, hl with | [_, _], _ => rfl) len2 (BodyN.up fun cdv A outer s H vs Q E hr h => ?_)
  obtain ⟨_, _, rfl, x, y, ws, rfl, rfl, hx, hy, hlen, ok, q⟩ := h
  have hu := hu_of hr
  refine ⟨_, (pss_cons (ps_if (PW.pt (pw_or (pt_not (pt_val (pe_callB call_isDct (by rfl) T.z_isinstance (by decide +kernel) (pa_cons (pv 0) (pa_cons (pe_bltn (v := .ty "dict") rfl T.z_dict (by decide +kernel) rfl) pa_nil))))) (pw_or1 (pt_cmpR (op_neD hr.units) (LiI.pe_listItems rfl (pv 0) (by rfl) T.z_list (by decide +kernel)) (LiI.pe_listItems rfl (pv 1) (by rfl) T.z_list (by decide +kernel)) (nomark _)))))
    (pss_one (ps_ret pe_bl))
    pss_nil)
    (pss_one (ps_ret (pe_callB (cr_all rfl) (by rfl) T.z_all (by decide +kernel) (pa_cons (pe_lock (pe_lc (own := [("_law_one", 2)]) rfl sc__law_same.nd (pi_values (pv 0)) (blkOk_by (own := [("_law_one", 2)]) (N := ["_law_found", "_law_due", "_law_one"]) (sc := defScope s__law_same) (by decide +kernel)) (fun _ _ _ _ _ => pg_name (i := 2) sc__law_same.nd rfl (Or.inl rfl)) (fun _ _ _ _ _ => pts_nil) (fun _ _ _ _ _ => (pe_fn d__law_whole (hr.mono (by decide)) (by rfl) passL (pa_cons (pv 2) pa_nil))) /-LOCK-/)) pa_nil))))), ?_⟩
  refine ⟨_, rfl, x, _, rfl, hx, _, rfl, iteF ⟨_, rfl, x, _, rfl, hx, fun H1 l1 ts s1 n1 _ _ e1 pr1 => ⟨_, rfl, y, _, rfl, s1 _ _ hy, fun H2 l2 us s2 n2 _ _ e2 pr2 => ?_⟩⟩⟩
  have s1 : Same H H1 := s1
  have s2 : Same H1 H2 := s2
  have d1 := dat_lstD (K := K) (H := H2) (.inl (.inl (s2 _ _ e1))) (dat_items (K := K) (paired_imp (fun a b h => s2 _ _ h) pr1) ok)
  have d2 := dat_lstD (K := K) (H := H2) (.inl (.inl e2)) (dat_items (K := K) pr2 ok)
  refine neD_same d1 d2 (by decide) ⟨_, rfl, iteF ?_⟩
  have s12 := s1.trans s2
  refine ⟨x, _, s12 _ _ hx, trivial, fun od => ?_⟩
  have low : ∀ H', Same (upd H2 x (.frz od (.dK (dW ws)))) H' → Same H (upd H' x (.dK (dW ws))) := fun H' s => s12.trans (same_unlock (s12 _ _ hx) s)
  refine ⟨_, rfl, x, od, dW ws, rfl, upd_same, fun D nD => ?_⟩
  refine lc_pure (walk_vs (d := x) (o := od) (kvs := dW ws)) nD yes (fun _ => .bl true) ?_ (fun _ => rfl) (fun H5 s5 => s5 _ _ upd_same) (fun x _ H _ Q' k => tt_yes x k) ?_ ?_
  · simp only [dW, List.length_map, sizeLine_eq]; omega
  · intro v hv _ H5 s5 Q' k
    obtain ⟨kv, hkv, rfl⟩ := List.mem_map.mp hv
    obtain ⟨e, _, rfl⟩ := List.mem_map.mp hkv
    exact ⟨_, rfl, _, rfl, trivial, k H5 (Same.refl _)⟩
  · intro H5 s5 hD
    rw [filter_yes] at hD
    refine ⟨s5 _ _ upd_same, ?_⟩
    have nDx : D ≠ x := fun z => by rw [z, upd_same] at nD; cases nD
    refine ⟨D, ((dW ws).map (·.2)).map fun _ => true, rfl, .inl (.inl (by rw [upd_ne nDx, hD, List.map_map, List.map_map, List.map_map]; rfl)), ?_⟩
    have : (((dW ws).map (·.2)).map fun _ => true).all id = true := by simp
    rw [this]
    exact q _ (low _ s5)
end

section
variable {P : Program} {w : World} {K : PySem.W.Frag} {mg : Str → Option Value} {base : Heap}
def spLCue (K : PySem.W.Frag) : Sp := sp3 fun a m n H Q _ => ∃ p dp ap M U lk dm am i c, a = .ref p ∧ m = .ref dm ∧ n = .int i ∧ PlayAt K U H p dp ap M ∧ TabAt RcM lk H dm am M ∧ get M i = some c ∧ ∀ H', Same H H' → Q (.bl true) H'
theorem sc__law_cue_right : FnScope ["_law_play", "_law_model", "_law_number", "_law_found", "_law_up", "_law_down", "_law_fresh", "_law_words", "_law_lamp"] ["_law_play", "_law_model", "_law_number"] (defScope s__law_cue_right) := ⟨rfl, rfl, rfl, by decide +kernel, rfl, by decide +kernel, by decide +kernel⟩
theorem d__law_cue_right (T : Txt K mg) : Def P w K mg base 5 "_law_cue_right" ["_law_play", "_law_model", "_law_number"] (spLCue K) := by
  have d_Play_cue := d_Play_cue (P := P) (w := w) (base := base) T
  have d__law_same := d__law_same (P := P) (w := w) (base := base) T
  have d__law_whole := d__law_whole (P := P) (w := w) (base := base) T
  refine mkDef T.d__law_cue_right T.g__law_cue_right sc__law_cue_right (fun _ _ _ _ _ _ us hl => match us, hl with | [_, _, _], _ => rfl) len3 (BodyN.up fun cdv A outer s H vs Q E hr h => ?_)
  obtain ⟨_, _, _, rfl, p, dp, ap, M, U, lk, dm, am, i, c, rfl, rfl, rfl, hp, hT, hn, q⟩ := h
  have hu := hu_of hr
  refine ⟨_, (pss_cons (ps_set (i := 3) sc__law_cue_right.nd rfl (Or.inl rfl) (pe_mt T.c_Play d_Play_cue (hr.mono (by decide)) passL (pv 0) (pa_cons (pv 2) pa_nil)))
    (pss_cons (ps_asg (pe_dget (by exact hu) (pv 1) (pv 2) (fun _ _ => rfl)) (pg_lst rfl (pgs_cons (pg_name (i := 4) sc__law_cue_right.nd rfl (Or.inl rfl)) (pgs_cons (pg_name (i := 5) sc__law_cue_right.nd rfl (Or.inl rfl)) (pgs_cons (pg_name (i := 6) sc__law_cue_right.nd rfl (Or.inl rfl)) (pgs_cons (pg_name (i := 7) sc__law_cue_right.nd rfl (Or.inr rfl)) pgs_nil))))))
    (pss_cons (ps_if (PW.pt (pw_or (pt_not (pt_val (pe_callB call_isTup (by rfl) T.z_isinstance (by decide +kernel) (pa_cons (pv 3) (pa_cons (pe_bltn (v := .ty "tuple") rfl T.z_tuple (by decide +kernel) rfl) pa_nil))))) (pw_or (pt_cmpR op_ne (pe_callB call_len_seq (by rfl) T.z_len (by decide +kernel) (pa_cons (pv 3) pa_nil)) pe_int (nomark _)) (pw_or1 (pt_cmpR (op_neD hr.units) (pe_slice sl_tup (pv 3) po_none (po_some pe_int)) (pe_tup (pa_cons (pv 4) (pa_cons (pv 5) (pa_cons (pv 6) pa_nil)))) (nomark _))))))
    (pss_one (ps_ret pe_bl))
    pss_nil)
    (pss_cons (ps_if (PW.pt (pw_or (pt_not (pt_val (pe_callB call_isBl (by rfl) T.z_isinstance (by decide +kernel) (pa_cons (pe_ix ix_tup (pv 3) pe_int (fun _ _ => rfl)) (pa_cons (pe_bltn (v := .ty "bool") rfl T.z_bool (by decide +kernel) rfl) pa_nil))))) (pw_or (pt_not (pt_val (pe_fn d__law_whole (hr.mono (by decide)) (by rfl) passL (pa_cons (pe_ix ix_tup (pv 3) pe_int (fun _ _ => rfl)) pa_nil)))) (pw_or1 (pt_not (pt_val (pe_fn d__law_whole (hr.mono (by decide)) (by rfl) passL (pa_cons (pe_ix ix_tup (pv 3) pe_int (fun _ _ => rfl)) pa_nil))))))))
    (pss_one (ps_ret pe_bl))
    pss_nil)
    (pss_one (ps_ret (pe_fn d__law_same (hr.mono (by decide)) (by rfl) passL (pa_cons (pe_ix ix_tup (pv 3) pe_int (fun _ _ => rfl)) (pa_cons (pe_callTy (call_dictP rfl) (by rfl) T.z_dict (by decide +kernel) (pa_cons (pe_lc (own := [("_law_lamp", 8)]) rfl sc__law_cue_right.nd (pi_list (pe_callB (call_sortedD rfl) (by rfl) T.z_sorted (by decide +kernel) (pa_cons (pv 7) pa_nil))) (blkOk_by (own := [("_law_lamp", 8)]) (N := ["_law_play", "_law_model", "_law_number", "_law_found", "_law_up", "_law_down", "_law_fresh", "_law_words", "_law_lamp"]) (sc := defScope s__law_cue_right) (by decide +kernel)) (fun _ _ _ _ _ => pg_name (i := 8) sc__law_cue_right.nd rfl (Or.inl rfl)) (fun _ _ _ _ _ => pts_nil) (fun _ _ _ _ _ => (pe_tup (pa_cons (pv 8) (pa_cons (pe_dget (by exact hu) (pv 7) (pv 8) (fun _ _ => rfl)) pa_nil))))) pa_nil)) pa_nil))))))))), ?_⟩
  obtain ⟨dx, kv0, h1, h2, tk⟩ := hp.kept
  refine ⟨_, rfl, _, _, _, rfl, h1, playF_no (by decide +kernel), _, rfl, _, _, rfl, p, dp, ap, M, U, rfl, hp, trivial, fun n' c' ex hn' H1 t w1 s1 nt nw et ew => ?_, fun z => absurd z (cue_some rfl hn)⟩
  cases ex
  rw [hn] at hn'
  cases hn'
  have T1 := hT.same s1
  obtain ⟨kvm, rdm, tkm⟩ := T1.topR
  have hrec := T1.recd hn
  refine ⟨_, rfl, _, rfl, dm, _, rfl, tkm.hit rdm hn, _, _, rfl, .inl (.inl hrec), rfl, _, _, rfl, _, _, rfl, _, _, rfl, _, _, rfl, rfl, ?_⟩
  refine ⟨_, rfl, t, _, rfl, et, _, rfl, iteF ⟨_, rfl, t, _, rfl, .inr (.inl (.inl et)), rfl, _, rfl, iteN (by simp) ?_⟩⟩
  refine ⟨_, rfl, _, rfl, t, _, rfl, .inl (.inl et), fun h => absurd (show (3 : Nat) = 4 from h.2) (by decide), fun t2 n2 => ⟨_, rfl, _, rfl, _, rfl, by simp [sizeLine_eq], fun t3 n3 => ?_⟩⟩
  have s2 := same_upd (o := HO.tup (cutV [.int c.up, .int c.down, .bl c.fresh, .ref w1] none (some 3))) n2
  have s3 := same_upd (o := HO.tup [.int c.up, .int c.down, .bl c.fresh]) n3
  have ok3 : ∀ x ∈ [V.int c.up, .int c.down, .bl c.fresh], okV x = true := by simp [okV]
  refine neD_same (dat_tup (K := K) (xs := [V.int c.up, .int c.down, .bl c.fresh]) (.inl (.inl (s3 _ _ upd_same))) ok3) (dat_tup (K := K) (.inl (.inl upd_same)) ok3) (by decide) ⟨_, rfl, iteF ?_⟩
  have s23 := s2.trans s3
  have et3 := s23 _ _ et
  refine ⟨_, rfl, t, _, _, _, rfl, rfl, .inl (.inl et3), rfl, _, rfl, trivial, _, rfl, iteF ⟨_, rfl, t, _, _, _, rfl, rfl, .inl (.inl et3), rfl, _, rfl, trivial, _, rfl, iteF ⟨_, rfl, t, _, _, _, rfl, rfl, .inl (.inl et3), rfl, _, rfl, trivial, _, rfl, iteF ?_⟩⟩⟩
  have s13 := s1.trans s23
  refine ⟨_, rfl, t, _, _, _, rfl, rfl, .inl (.inl et3), rfl, ?_⟩
  have T3 := hT.same s13
  obtain ⟨kvs, c2, wk⟩ := T3.wrd _ _ hn
  have hm := hp.good.at hn
  have hw := hp.good.wsrt _ hm
  obtain ⟨ks, hk, _, _⟩ := wk.keys
  have hfew : c.words.length ≤ 60 := hp.good.few hp.lamps hm
  refine ⟨_, rfl, _, kvs, ks, rfl, .inl c2, hk, ?_, fun ys l hp1 hp2 nl => ?_⟩
  · have := congrArg List.length hk
    rw [List.length_map, List.length_map, wk.len hw] at this
    omega
  rw [wk.sorted hw hk hp1 hp2]
  have s4 := same_upd (o := HO.lst ((c.words.map (·.1)).map V.str)) nl
  refine ⟨l, rfl, ⟨_, .inl (.inl upd_same)⟩, fun D nD => ?_⟩
  refine lc_rel (walk_list (K := K) (a := l) (xs := (c.words.map (·.1)).map V.str)) nD yes (fun x y H' => ∃ t l, x = V.str l ∧ y = V.ref t ∧ H' t = some (.tup [.str l, .int ((get c.words l).getD 0)])) ?_ ?_ (fun _ => rfl) (fun H5 s5 => .inl (.inl (s5 _ _ upd_same))) (fun x _ H _ Q' k => tt_yes x k) ?_ ?_
  · rintro x y H1 H2 nl' ⟨t, l', rfl, rfl, h⟩
    exact ⟨t, l', rfl, rfl, nl' _ _ (fun _ z => by cases z) h⟩
  · rw [List.length_map, List.length_map, sizeLine_eq]; omega
  · rintro y hy _ H5 s5 Q' k
    obtain ⟨z, hz, rfl⟩ := List.mem_map.mp hy
    obtain ⟨v, hv⟩ := get_some_iff.mpr hz
    refine ⟨_, rfl, _, rfl, _, rfl, _, .int v, rfl, wk.hit (.inl (s5 _ _ (s4 _ _ c2))) hv, by simp [sizeLine_eq], fun t nt => ?_⟩
    exact k _ _ (same_upd nt) ⟨t, z, rfl, rfl, by rw [upd_same, hv]; rfl⟩
  · intro H5 ys' s5 hD hpair
    rw [filter_yes] at hpair
    obtain ⟨ps, rfl, hps⟩ := pairs_dict (K := K) (g := fun l => V.int ((get c.words l).getD 0)) hpair
    rw [← dW_all (rising_nodup linS hw)] at hps
    refine ⟨D, ps, _, rfl, .inl (.inl hD), hps, fun w' nw' => ?_⟩
    rw [mergeK_nil (dW_nodup hw)]
    have s45 := s4.trans s5
    have s6 := s45.trans (same_upd (o := HO.dK (dW c.words)) nw')
    refine ⟨_, _, rfl, w1, w', c.words, rfl, rfl, s6 _ _ (s23 _ _ ew), upd_same, hfew, fun e he => lampS_okS (hp.lamps.ok _ (hp.good.wrd _ hm e he).1), fun H6 s7 => ?_⟩
    exact q H6 (s13.trans (s6.trans s7))
def spLStands (K : PySem.W.Frag) : Sp := sp3 fun a m b H Q _ => ∃ NS p dp ap M U dm am l ls, a = .ref p ∧ m = .ref dm ∧ b = .ref l ∧ Two K U NS H p dp ap M dm am M ∧ Asked U ls ∧ H l = some (.lst (ls.map V.str)) ∧ ∀ H', Same H H' → Q (.bl true) H'
theorem sc__law_stands : FnScope ["_law_play", "_law_model", "_law_lamps_here", "_law_number", "_law_due", "_law_lamp"] ["_law_play", "_law_model", "_law_lamps_here"] (defScope s__law_stands) := ⟨rfl, rfl, rfl, by decide +kernel, rfl, by decide +kernel, by decide +kernel⟩
theorem d__law_stands (T : Txt K mg) : Def P w K mg base 6 "_law_stands" ["_law_play", "_law_model", "_law_lamps_here"] (spLStands K) := by
  have d_Play_numbers := d_Play_numbers (P := P) (w := w) (base := base) T
  have d__law_look := d__law_look (P := P) (w := w) (base := base) T
  have d__law_cue_right := d__law_cue_right (P := P) (w := w) (base := base) T
  have d__law_same := d__law_same (P := P) (w := w) (base := base) T
  have d_Play_level := d_Play_level (P := P) (w := w) (base := base) T
  have d_Play_look := d_Play_look (P := P) (w := w) (base := base) T
  refine mkDef T.d__law_stands T.g__law_stands sc__law_stands (fun _ _ _ _ _ _ us hl => match us, hl with | [_, _, _], _ => rfl) len3 (BodyN.up fun cdv A outer s H vs Q E hr h => ?_)
  obtain ⟨_, _, _, rfl, NS, p, dp, ap, M, U, dm, am, la, ls, rfl, rfl, rfl, hT, hA, hla, q⟩ := h
  have hu := hu_of hr
  refine ⟨_, (pss_cons (ps_if (pt_cmpR (op_neD hr.units) (pe_mt0 T.c_Play d_Play_numbers (hr.mono (by decide)) passL (pv 0)) (pe_callB (call_sortedDA rfl) (by rfl) T.z_sorted (by decide +kernel) (pa_cons (pv 1) pa_nil)) (nomark _))
    (pss_one (ps_ret pe_bl))
    pss_nil)
    (pss_cons (ps_lock (ps_for PassesOwn.never rfl (pi_keys (pv 1)) (pg_name (i := 3) sc__law_stands.nd rfl (Or.inl rfl))
    (pss_cons (ps_set (i := 4) sc__law_stands.nd rfl (Or.inl rfl) (pe_fn d__law_look (hr.mono (by decide)) (by rfl) passL (pa_cons (pv 1) (pa_cons (pv 3) (pa_cons (pv 2) pa_nil)))))
    (pss_cons (ps_if (PW.pt (pw_or (pt_not (pt_val (pe_fn d__law_cue_right (hr.mono (by decide)) (by rfl) passL (pa_cons (pv 0) (pa_cons (pv 1) (pa_cons (pv 3) pa_nil)))))) (pw_or1 (pt_not (pt_val (pe_fn d__law_same (hr.mono (by decide)) (by rfl) passL (pa_cons (pe_mt T.c_Play d_Play_look (hr.mono (by decide)) passL (pv 0) (pa_cons (pv 3) pa_nil)) (pa_cons (pv 4) pa_nil))))))))
    (pss_one (ps_ret pe_bl))
    pss_nil)
    (pss_one (ps_for PassesOwn.never rfl (pi_list (pv 2)) (pg_name (i := 5) sc__law_stands.nd rfl (Or.inl rfl))
    (pss_one (ps_if (pt_cmpR op_ne (pe_mt T.c_Play d_Play_level (hr.mono (by decide)) passL (pv 0) (pa_cons (pv 3) (pa_cons (pv 5) pa_nil))) (pe_dget2 (by exact hu) (pv 4) (pv 5) pe_int ⟨rfl, rfl, rfl, rfl⟩) (nomark _))
    (pss_one (ps_ret pe_bl))
    pss_nil))))))))
    (pss_one (ps_ret pe_bl)))), ?_⟩
  have hp := hT.play
  have g := hT.good
  obtain ⟨dx, kv0, h1, h2, tk⟩ := hp.kept
  refine ⟨_, rfl, _, _, _, rfl, h1, playF_no (by decide +kernel), _, rfl, p, dp, ap, M, U, rfl, hp, fun H1 l1 s1 n1 e1 => ?_⟩
  have T1 := hT.same s1
  obtain ⟨kvs, hd1, tkm⟩ := T1.tab.top
  have hd1 : H1 dm = some (.dK kvs) := hd1
  obtain ⟨ns, hk, _, hns⟩ := tkm.keys
  refine ⟨_, rfl, dm, kvs, ns, rfl, .inl hd1, hk, fun ys l2 hp1 hp2 n2 => ?_⟩
  rw [tkm.sorted g.srt hk hp1 hp2]
  have s2 := same_upd (o := HO.lst ((M.map (·.1)).map V.int)) n2
  have okn : ∀ x ∈ (M.map (·.1)).map V.int, okV x = true := by
    intro x hx
    obtain ⟨i, _, rfl⟩ := List.mem_map.mp hx
    rfl
  refine neD_same (dat_lst (K := K) (xs := (M.map (·.1)).map V.int) (.inl (.inl (s2 _ _ (by exact e1)))) okn) (dat_lst (K := K) (.inl (.inl upd_same)) okn) (by decide) ⟨_, rfl, iteF ?_⟩
  generalize eH : upd H1 l2 (.lst ((M.map (·.1)).map V.int)) = H2 at s2
  have T2 := T1.same s2
  have hd2 := s2 _ _ hd1
  refine ⟨dm, _, hd2, trivial, fun od => ?_⟩
  have dml : ∀ b o, H2 b = some o → b ≠ dm → (upd H2 dm (.frz od (.dK kvs))) b = some o := fun b o e ne => by rw [upd_ne ne]; exact e
  have P0 : PlayAt K U (upd H2 dm (.frz od (.dK kvs))) p dp ap M := T2.play.frame fun b o hb e => dml b o e fun z => T2.dis b hb (.inl z)
  have M0 := T2.tab.locked hd2 od
  have s02 := s1.trans s2
  have la0 : (upd H2 dm (.frz od (.dK kvs))) la = some (.lst (ls.map V.str)) := dml _ _ (s02 _ _ hla) fun z => by rw [z] at hla; rw [s02 _ _ hla] at hd2; cases hd2
  have back : ∀ H', Same (upd H2 dm (.frz od (.dK kvs))) H' → Same H (upd H' dm (.dK kvs)) := fun H' s => s02.trans (same_unlock hd2 s)
  have hd0 : (upd H2 dm (.frz od (.dK kvs))) dm = some (.frz od (.dK kvs)) := upd_same
  generalize upd H2 dm (.frz od (.dK kvs)) = H0 at P0 M0 la0 back dml hd0
  refine ⟨_, rfl, dm, od, rfl, .inl ⟨kvs, hd0, for_it walk_keys (fun i σ H' => ∃ v3 v4 v5, σ = [some (.ref p), some (.ref dm), some (.ref la), v3, v4, v5] ∧ Same H0 H') ⟨none, none, none, rfl, Same.refl _⟩ (fun i σ H' _ ⟨_, _, _, _, s⟩ => s _ _ hd0) ?_ ?_⟩⟩
  · rintro i x σ H3 H3' hi ⟨v3, v4, v5, rfl, s3⟩ ⟨rfl, k, v, hkv, rfl⟩
    have hmem : k ∈ kvs.map (·.1) := List.mem_map.mpr ⟨_, List.mem_of_getElem? hkv, rfl⟩
    rw [hk] at hmem
    obtain ⟨n, hn, rfl⟩ := List.mem_map.mp hmem
    obtain ⟨c, hc⟩ := get_some_iff.mpr ((hns n).mp hn)
    refine ⟨_, rfl, _, rfl, _, rfl, _, _, _, rfl, some od, dm, am, M, U, n, la, ls, rfl, rfl, rfl, M0.same s3, g, hA, s3 _ _ la0, fun H4 r s4 nr er => ?_⟩
    have s34 := s3.trans s4
    refine ⟨_, rfl, _, rfl, _, rfl, _, _, _, rfl, p, dp, ap, M, U, some od, dm, am, n, c, rfl, rfl, rfl, P0.same s34, M0.same s34, hc, fun H5 s5 => ⟨_, rfl, iteF ?_⟩⟩
    have s35 := s34.trans s5
    have P5 := P0.same s35
    obtain ⟨dx5, kv5, h51, _, _⟩ := P5.kept
    refine ⟨_, rfl, _, _, _, rfl, h51, playF_no (by decide +kernel), _, rfl, _, _, rfl, p, dp, ap, M, U, rfl, P5, trivial, fun n' c' ex hn' H6 w6 s6 n6 e6 => ?_, fun z => absurd z (cue_some rfl hc)⟩
    cases ex
    have er6 := s6 _ _ (s5 _ _ er)
    refine ⟨_, rfl, _, _, rfl, w6, r, look M n, rfl, rfl, e6, er6, look_few g hp.lamps n, fun e he => lampS_okS (hp.lamps.ok _ (look_mem g n e he).1), fun H7 s7 => ⟨_, rfl, iteF ?_⟩⟩
    have s37 := s35.trans (s6.trans s7)
    have er7 := s7 _ _ er6
    refine ⟨_, rfl, la, rfl, ⟨_, .inl (.inl (s37 _ _ la0))⟩, for_list (K := K) (a := la) (xs := ls.map V.str) (fun i σ H' => ∃ v5, σ = [some (.ref p), some (.ref dm), some (.ref la), some (.int n), some (.ref r), v5] ∧ Same H0 H' ∧ H' r = some (.dK (dW (look M n)))) ⟨_, rfl, s37, er7⟩ (fun i σ H' _ ⟨_, _, s, _⟩ => .inl (.inl (s _ _ la0))) ?_ ?_⟩
    · rintro j y σ H8 hy ⟨v5', rfl, s8, er8⟩
      rw [List.getElem?_map] at hy
      obtain ⟨z, hz, rfl⟩ := Option.map_eq_some_iff.mp hy
      have hzU : z ∈ ls := List.mem_of_getElem? hz
      have P8 := P0.same s8
      obtain ⟨dx8, kv8, h81, _, _⟩ := P8.kept
      have lz := hA.ok z hzU
      refine ⟨_, rfl, _, _, _, rfl, h81, playF_no (by decide +kernel), _, rfl, _, rfl, _, _, _, rfl, p, dp, ap, M, U, rfl, P8, trivial, lampS_pl lz, fun n' c' z' ex hn' ez hz' H9 s9 => ?_, fun z => absurd z (cue_some rfl hc), fun _ k => ?_⟩
      · cases ex; cases ez
        refine ⟨_, rfl, _, rfl, .inl ⟨_, .inl (s9 _ _ er8)⟩, _, rfl, _, (WK.dW (rising_nodup linS (look_rising M n))).get (.inl (s9 _ _ er8)) z, ?_⟩
        have e : ((get (look M n) z).map V.int).getD (.int 0) = .int (lev M n z) := by
          rw [← look_lev g]
          cases get (look M n) z <;> rfl
        rw [e]
        exact ⟨rfl, _, rfl, iteN (by simp) ⟨_, rfl, s8.trans s9, s9 _ _ er8⟩⟩
      · have k : lampS z = false := k
        rw [lz] at k; cases k
    · rintro σ H8 ⟨v5', rfl, s8, er8⟩
      exact ⟨_, _, _, rfl, s8⟩
  · rintro σ H3 ⟨v3, v4, v5, rfl, s3⟩
    exact ⟨s3 _ _ hd0, q _ (back _ s3)⟩
end

/-! ## Deeds at a play, the law's book standing beside -/
theorem Mv.keep {H H' : Hp} {F F' : Addr → Prop} (m : Mv H F H' F') {x : Addr} {o : HO} (e : H x = some o) (n : ¬ F x) : H' x = some o ∧ ¬ F' x := by
  refine ⟨m.1 x o e n, fun h => ?_⟩
  rcases m.2 x h with h | h
  · exact n h
  · rw [h] at e; cases e
section
variable {K : PySem.W.Frag} {U : List Str} {NS : List Int} {H H' : Hp} {p dp dm : Addr} {ap am : Ads} {M Mm : Book} {Q : VK} {E : XK} {n : Int} {c : CueC} {z : Str} {v : Int}
theorem tell_two (T : Two K U NS H p dp ap M dm am Mm) (hn : get M n = some c) (hz : z ∈ U) (hv : 0 ≤ v ∧ v ≤ 100)
    (q : ∀ H', Two K U NS H' p dp ap (setW n (put ltS z v) M) dm am Mm → Mv H (footT p dp ap M dm am Mm) H' (footT p dp ap (setW n (put ltS z v) M) dm am Mm) → Q .non H') : spTell K [.ref p, .int n, .str z, .int v] H Q E := by
  have lz : lampV (.str z) = true := T.play.lamps.ok z hz
  have wv : wholeV 0 100 (.int v) = true := whole_of hv
  refine ⟨_, _, _, _, rfl, p, dp, ap, M, U, rfl, T.play, trivial, lampS_pl lz, trivial, fun h => absurd h (cue_some rfl hn), fun _ h => ?_, fun _ _ h => ?_, ?_⟩
  · rw [lz] at h; cases h
  · rw [wv] at h; cases h
  · rintro n' c' z' i e1 _ e2 e3 _ _
    cases e1; cases e2; cases e3
    refine ⟨hz, fun H' h' ch => ?_⟩
    obtain ⟨a, b⟩ := T.deed h' ch fun b hb => .inl (hb.imp id (fun h => foot_word.mp h))
    exact q H' a b
theorem untell_two (T : Two K U NS H p dp ap M dm am Mm) (hn : get M n = some c) (hz : get c.words z = some v)
    (q : ∀ H', Two K U NS H' p dp ap (setW n (del z) M) dm am Mm → Mv H (footT p dp ap M dm am Mm) H' (footT p dp ap (setW n (del z) M) dm am Mm) → Q .non H') : spUntell K [.ref p, .int n, .str z] H Q E := by
  have hU : z ∈ U := (T.play.good.wrd _ (T.play.good.at hn) _ (get_mem hz)).1
  have lz : lampV (.str z) = true := T.play.lamps.ok z hU
  refine ⟨_, _, _, rfl, p, dp, ap, M, U, rfl, T.play, trivial, lampS_pl lz, fun h => absurd h (cue_some rfl hn), ?_, ?_⟩
  · rintro n' c' e1 h' hno
    cases e1
    rw [hn] at h'
    cases h'
    rw [hno z rfl] at hz; cases hz
  · rintro n' c' z' e1 h' e2 _
    cases e1; cases e2
    refine ⟨lz, fun H' h' ch => ?_⟩
    obtain ⟨a, b⟩ := T.deed h' ch fun b hb => .inl (hb.imp id (fun h => foot_word.mp h))
    exact q H' a b
theorem put_two (T : Two K U NS H p dp ap M dm am Mm) (hn : get M n = none) (hb : 1 ≤ n ∧ n ≤ 999999) {u d : Int} {f : Bool} (hf : 0 ≤ u ∧ u ≤ 6000 ∧ 0 ≤ d ∧ d ≤ 6000) (hl : M.length < 100)
    (q : ∀ H' ap', Two K U NS H' p dp ap' (put ltI n ⟨u, d, f, []⟩ M) dm am Mm → Mv H (footT p dp ap M dm am Mm) H' (footT p dp ap' (put ltI n ⟨u, d, f, []⟩ M) dm am Mm) → Q .non H') : spPut K [.ref p, .int n, .int u, .int d, .bl f] H Q E := by
  have w1 : wholeV 1 999999 (.int n) = true := whole_of hb
  have w2 : wholeV 0 6000 (.int u) = true := whole_of ⟨hf.1, hf.2.1⟩
  have w3 : wholeV 0 6000 (.int d) = true := whole_of hf.2.2
  refine ⟨_, _, _, _, _, rfl, p, dp, ap, M, U, f, rfl, rfl, T.play, trivial, trivial, trivial, fun h => ?_, fun _ h => absurd hn h, fun _ _ h => ?_, fun _ _ _ h => ?_, ?_⟩
  · rw [w1] at h; cases h
  · rw [w2, w3] at h; cases h
  · omega
  · rintro n' i j e1 e2 e3 _ _ _ _ H' ap' h' ch gr
    cases e1; cases e2; cases e3
    obtain ⟨a, b⟩ := T.deed h' ch gr
    exact q H' ap' a b
/-- a new cue in the law's book -/
theorem add_two (T : Two K U NS H p dp ap M dm am Mm) {w1 r : Addr} {u d : Int} {f : Bool} {kvs : List (Key × V)} (hd : H dm = some (.dK kvs)) (nw : H w1 = none) (nr : upd H w1 (.dK []) r = none) (hb : 1 ≤ n ∧ n ≤ 999999) (hn : n ∈ NS) (hf : 0 ≤ u ∧ u ≤ 6000 ∧ 0 ≤ d ∧ d ≤ 6000) (hl : Mm.length < 1000) :
    Two K U NS (upd (upd (upd H w1 (.dK [])) r (.lst [.int u, .int d, .bl f, .ref w1])) dm (.dK (putK kvs (Sum.inl n) (.ref r)))) p dp ap M dm (adSet am n (r, w1)) (put ltI n ⟨u, d, f, []⟩ Mm) ∧
    Mv H (footT p dp ap M dm am Mm) (upd (upd (upd H w1 (.dK [])) r (.lst [.int u, .int d, .bl f, .ref w1])) dm (.dK (putK kvs (Sum.inl n) (.ref r)))) (footT p dp ap M dm (adSet am n (r, w1)) (put ltI n ⟨u, d, f, []⟩ Mm)) := by
  have s1 := same_upd (o := HO.dK []) nw
  have s2 := s1.trans (same_upd (o := HO.lst [.int u, .int d, .bl f, .ref w1]) nr)
  have T2 := T.same s2
  have nw2 : ¬ footT p dp ap M dm am Mm w1 := fun h => by obtain ⟨o, e⟩ := T.has h; rw [nw] at e; cases e
  have nr2 : ¬ footT p dp ap M dm am Mm r := fun h => by obtain ⟨o, e⟩ := T.has h; rw [s1.free nr] at e; cases e
  have rw' : r ≠ w1 := fun y => by rw [y, upd_same] at nr; cases nr
  have g2 : Good U (put ltI n ⟨u, d, f, []⟩ Mm) := T.good.put hb .nil (by simp) hf hl
  refine ⟨T2.add (c := ⟨u, d, f, []⟩) (s2 _ _ hd) upd_same ⟨[], by rw [upd_ne rw'.symm]; exact upd_same, .nil⟩ nr2 nw2 rw' g2 hn, fun b o e nf => ?_, fun b h => ?_⟩
  · rw [upd_ne fun y => nf (.inr (.inl y))]; exact s2 _ _ e
  · rcases h with h | h
    · exact .inl (.inl h)
    · rcases foot_add h with h | h | h
      · exact .inl (.inr h)
      · exact .inr (h ▸ s1.free nr)
      · exact .inr (h ▸ nw)
theorem good_nil : Good U [] := ⟨.nil, by simp, by simp, by simp, by simp, by simp⟩
theorem play_new {dx d : Addr} {ad : Ads} (hp : H p = some (.ins (He.ga K "Play") dx (playF d))) (hd : H d = some (.dK [])) (lam : Lamps U) : PlayAt K U H p d ad [] := by
  refine ⟨⟨dx, hp⟩, ⟨⟨[], hd, TK.nil⟩, fun n c h => (by cases h), fun n c h => (by cases h), fun n m c e h => (by cases h), fun n c h => (by cases h), fun n m c e h => (by cases h)⟩, fun h => ?_, good_nil, lam⟩
  rcases h with h | ⟨n, c, h, _⟩
  · rw [h, hd] at hp; cases hp
  · cases h
theorem tab_new {dm : Addr} {ad : Ads} (hm : H dm = some (.dK [])) : TabAt RcM none H dm ad [] :=
  ⟨⟨[], hm, TK.nil⟩, fun n c h => (by cases h), fun n c h => (by cases h), fun n m c e h => (by cases h), fun n c h => (by cases h), fun n m c e h => (by cases h)⟩
theorem two_new {dx d : Addr} (hp : H p = some (.ins (He.ga K "Play") dx (playF d))) (hd : H d = some (.dK [])) (hm : H dm = some (.dK [])) (lam : Lamps U) (ne : d ≠ dm) : Two K U NS H p d ap [] dm am [] := by
  refine ⟨play_new hp hd lam, tab_new hm, good_nil, fun b h1 h2 => ?_, fun e h => by cases h⟩
  rcases h2 with h2 | ⟨n, c, h, _⟩
  · subst h2
    rcases h1 with h1 | h1 | ⟨n, c, h, _⟩
    · rw [h1, hp] at hm; cases hm
    · exact ne h1.symm
    · cases h
  · cases h
theorem footT_new {b : Addr} (h : footT p dp ap [] dm am [] b) : b = p ∨ b = dp ∨ b = dm := by
  rcases h with (h | h | ⟨n, c, h, _⟩) | h | ⟨n, c, h, _⟩
  · exact .inl h
  · exact .inr (.inl h)
  · cases h
  · exact .inr (.inr h)
  · cases h
theorem put_ne {n : Int} {c : CueC} {M : Book} : put ltI n c M ≠ [] := fun h => by
  have := (keys_put (lt := ltI) n c M n).mpr (.inl rfl)
  rw [h] at this; cases this
theorem setW_ne {n : Int} {f : Ws → Ws} {M : Book} {c : CueC} (h : get M n = some c) : setW n f M ≠ [] := fun e => by
  have := get_some_iff.mp ⟨c, h⟩
  rw [← setW_keys n f M, e] at this; cases this
/-- an item of a list, by a draw -/
theorem draw_at {α : Type} {f : α → V} {xs : List α} {m : Nat} (h : xs.length = m) {i : Int} (h0 : 0 ≤ i) (h1 : i < m) : ∃ x ∈ xs, atI (xs.map f) i = some (f x) := by
  obtain ⟨v, hv, ha⟩ := at_in (xs := xs.map f) (by rw [List.length_map]; exact h) h0 h1
  obtain ⟨x, hx, rfl⟩ := List.mem_map.mp hv
  exact ⟨x, hx, ha⟩
end

/-! ## Deeds that leave looks: what they do -/
theorem lev_setW_eq {U U' : List Str} {M : Book} {m : Int} {f : Ws → Ws} {l : Str} (g : Good U M) (g' : Good U' (setW m f M)) (h : ∀ c, get M m = some c → get (f c.words) l = get c.words l) (n : Int) : lev (setW m f M) n l = lev M n l := by
  have aux : ∀ R : Book, (∀ e ∈ R, e.1 = m → get (f e.2.words) l = get e.2.words l) → levL n l (setW m f R) = levL n l R := by
    intro R
    induction R with
    | nil => exact fun _ => rfl
    | cons e r ih =>
      intro hr
      have h1 := hr e List.mem_cons_self
      have h2 := ih fun x hx => hr x (List.mem_cons_of_mem _ hx)
      show levL n l ((if e.1 = m then (e.1, { e.2 with words := f e.2.words }) else e) :: setW m f r) = _
      by_cases z : e.1 = m
      · rw [if_pos z, levL, levL]
        simp only [h1 z, h2]
      · rw [if_neg z, levL, levL, h2]
  have e1 : (setW m f M).reverse = setW m f M.reverse := by unfold setW; rw [List.map_reverse]
  rw [lev_levL g', lev_levL g, e1]
  refine aux _ fun e he z => ?_
  have hm : e ∈ M := List.mem_reverse.mp he
  exact h e.2 (z ▸ get_of_mem g.nodup hm)
/-- the next cue -/
def nxt (M : Book) (n : Int) : Option Int := ((M.map (·.1)).filter fun i => decide (n < i)).head?
theorem nxt_mem {M : Book} {n m : Int} (h : nxt M n = some m) : m ∈ M.map (·.1) ∧ n < m := by
  have := List.mem_of_head? h
  obtain ⟨a, b⟩ := List.mem_filter.mp this
  exact ⟨a, by simpa using b⟩
theorem nxt_get {M : Book} {n m : Int} (h : nxt M n = some m) : ∃ c, get M m = some c := get_some_iff.mpr (nxt_mem h).1
/-- the words at a cue, told so that all levels there are D -/
def HeldW (M : Book) (m : Int) (D : Str → Int) (ws ws' : Ws) : Prop := Rising ltS ws' ∧ ∀ l, get ws' l = if lev M m l ≠ D l then some (D l) else get ws l
theorem HeldW.uniq {M : Book} {m : Int} {D : Str → Int} {ws a b : Ws} (h : HeldW M m D ws a) (k : HeldW M m D ws b) : a = b := table_ext linS h.1 k.1 fun l => by rw [h.2, k.2]
def Held (M : Book) (m : Int) (D : Str → Int) (M' : Book) : Prop := ∃ c ws', get M m = some c ∧ HeldW M m D c.words ws' ∧ M' = setW m (fun _ => ws') M
theorem Held.uniq {M : Book} {m : Int} {D : Str → Int} {a b : Book} (h : Held M m D a) (k : Held M m D b) : a = b := by
  obtain ⟨c, w, h1, h2, rfl⟩ := h
  obtain ⟨c', w', k1, k2, rfl⟩ := k
  rw [h1] at k1
  cases k1
  rw [h2.uniq k2]
/-- the next cue is held at what it told in M0 -/
def Kept (M0 M1 : Book) (n : Int) (M' : Book) : Prop := (nxt M0 n = none → M' = M1) ∧ ∀ m, nxt M0 n = some m → Held M1 m (lev M0 m) M'
theorem Kept.uniq {M0 M1 : Book} {n : Int} {a b : Book} (h : Kept M0 M1 n a) (k : Kept M0 M1 n b) : a = b := by
  cases z : nxt M0 n with
  | none => rw [h.1 z, k.1 z]
  | some m => exact (h.2 m z).uniq (k.2 m z)
theorem HeldW.wok {U : List Str} {M : Book} {m : Int} {D : Str → Int} {ws ws' : Ws} (g : Good U M) (h : HeldW M m D ws ws') (hD : ∀ l, 0 ≤ D l ∧ D l ≤ 100 ∧ (D l ≠ 0 → l ∈ U)) (hw : ∀ w ∈ ws, w.1 ∈ U ∧ 0 ≤ w.2 ∧ w.2 ≤ 100) : ∀ w ∈ ws', w.1 ∈ U ∧ 0 ≤ w.2 ∧ w.2 ≤ 100 := by
  intro w hm
  have e := get_of_mem (v := w.2) (rising_nodup linS h.1) hm
  rw [h.2] at e
  by_cases z : lev M m w.1 ≠ D w.1
  · rw [if_pos z] at e
    have e : D w.1 = w.2 := Option.some.inj e
    have := hD w.1
    rw [← e]
    refine ⟨Decidable.byContradiction fun y => ?_, this.1, this.2.1⟩
    by_cases d0 : D w.1 = 0
    · rw [lev_out g m y] at z
      exact z d0.symm
    · exact y (this.2.2 d0)
  · rw [if_neg z] at e
    exact hw _ (get_mem e)
theorem levD {U : List Str} {M : Book} (g : Good U M) (n : Int) : ∀ l, 0 ≤ lev M n l ∧ lev M n l ≤ 100 ∧ (lev M n l ≠ 0 → l ∈ U) := fun l => ⟨(lev_range g n l).1, (lev_range g n l).2, fun h => Decidable.byContradiction fun y => h (lev_out g n y)⟩
theorem Held.good {U : List Str} {M : Book} {m : Int} {D : Str → Int} {M' : Book} (g : Good U M) (h : Held M m D M') (hD : ∀ l, 0 ≤ D l ∧ D l ≤ 100 ∧ (D l ≠ 0 → l ∈ U)) : Good U M' := by
  obtain ⟨c, ws', hc, hw, rfl⟩ := h
  have hm := g.at hc
  have hok := hw.wok g hD (g.wrd _ hm)
  refine ⟨by show List.Pairwise _ _; rw [setW_keys]; exact g.srt, fun e he => ?_, fun e he => ?_, fun e he => ?_, fun e he => ?_, by unfold setW; rw [List.length_map]; exact g.len⟩
  all_goals obtain ⟨e0, h0, h1, h2, h3, h4, h5⟩ := mem_setW he
  · rcases h5 with h5 | ⟨_, h5⟩
    · rw [h5]; exact g.wsrt e0 h0
    · rw [h5]; exact hw.1
  · rw [h1]; exact g.num e0 h0
  · rcases h5 with h5 | ⟨_, h5⟩
    · rw [h5]; exact g.wrd e0 h0
    · rw [h5]; exact hok
  · rw [h2, h3]; exact g.fad e0 h0
/-- the words along a walk over lamps, some twice: told where the level was another one -/
def holdF (now D : Str → Int) (ks : List Str) (ws : Ws) : Ws := ks.foldl (fun a l => if now l ≠ D l then put ltS l (D l) a else a) ws
theorem holdF_snoc (now D : Str → Int) (ks : List Str) (l : Str) (ws : Ws) : holdF now D (ks ++ [l]) ws = if now l ≠ D l then put ltS l (D l) (holdF now D ks ws) else holdF now D ks ws := by
  unfold holdF; rw [List.foldl_append]; rfl
theorem get_holdF (now D : Str → Int) (l : Str) : ∀ (ks : List Str) (ws : Ws), get (holdF now D ks ws) l = if l ∈ ks ∧ now l ≠ D l then some (D l) else get ws l
  | [], ws => by simp [holdF]
  | k :: r, ws => by
    show get (holdF now D r (if now k ≠ D k then put ltS k (D k) ws else ws)) l = _
    rw [get_holdF now D l r]
    by_cases h : l ∈ r ∧ now l ≠ D l
    · rw [if_pos h, if_pos ⟨List.mem_cons_of_mem _ h.1, h.2⟩]
    · rw [if_neg h]
      by_cases z : l = k
      · subst z
        by_cases y : now l ≠ D l
        · rw [if_pos y, get_put, if_pos rfl, if_pos ⟨List.mem_cons_self, y⟩]
        · rw [if_neg y, if_neg fun q => y q.2]
      · have e : get (if now k ≠ D k then put ltS k (D k) ws else ws) l = get ws l := by
          by_cases y : now k ≠ D k
          · rw [if_pos y, get_put, if_neg z]
          · rw [if_neg y]
        rw [e, if_neg]
        rintro ⟨q1, q2⟩
        rcases List.mem_cons.mp q1 with q | q
        · exact z q
        · exact h ⟨q, q2⟩
theorem rising_holdF (now D : Str → Int) : ∀ (ks : List Str) (ws : Ws), Rising ltS ws → Rising ltS (holdF now D ks ws)
  | [], _, h => h
  | k :: r, ws, h => by
    refine rising_holdF now D r _ ?_
    show Rising ltS (if now k ≠ D k then put ltS k (D k) ws else ws)
    by_cases y : now k ≠ D k
    · rw [if_pos y]; exact rising_put linS _ _ h
    · rw [if_neg y]; exact h
theorem held_holdF {M : Book} {m : Int} {D : Str → Int} {ks : List Str} {ws : Ws} (hs : Rising ltS ws) (h : ∀ l, l ∉ ks → lev M m l = D l) : HeldW M m D ws (holdF (lev M m) D ks ws) :=
  ⟨rising_holdF _ _ _ _ hs, fun l => by
    rw [get_holdF]
    by_cases z : lev M m l ≠ D l
    · rw [if_pos z, if_pos ⟨Decidable.byContradiction fun y => z (h l y), z⟩]
    · rw [if_neg z, if_neg fun q => z q.2]⟩
theorem wok_holdF {U : List Str} {now D : Str → Int} : ∀ {ks : List Str} {ws : Ws}, (∀ l ∈ ks, l ∈ U) → (∀ l, 0 ≤ D l ∧ D l ≤ 100) → Rising ltS ws → (∀ w ∈ ws, w.1 ∈ U ∧ 0 ≤ w.2 ∧ w.2 ≤ 100) → Rising ltS (holdF now D ks ws) ∧ ∀ w ∈ holdF now D ks ws, w.1 ∈ U ∧ 0 ≤ w.2 ∧ w.2 ≤ 100
  | [], ws, _, _, hs, hw => ⟨hs, hw⟩
  | k :: r, ws, hk, hD, hs, hw => by
    show Rising ltS (holdF now D r (if now k ≠ D k then put ltS k (D k) ws else ws)) ∧ ∀ w ∈ holdF now D r (if now k ≠ D k then put ltS k (D k) ws else ws), w.1 ∈ U ∧ 0 ≤ w.2 ∧ w.2 ≤ 100
    refine wok_holdF (fun l h => hk l (List.mem_cons_of_mem _ h)) hD ?_ ?_
    · by_cases y : now k ≠ D k
      · rw [if_pos y]; exact rising_put linS _ _ hs
      · rw [if_neg y]; exact hs
    · by_cases y : now k ≠ D k
      · rw [if_pos y]; exact (wok_put (hk k List.mem_cons_self) (hD k).1 (hD k).2 hs hw).2
      · rw [if_neg y]; exact hw
theorem cut_first {xs : List V} : cutV xs none (some 1) = xs.take 1 := by
  unfold cutV
  rw [show (some (1 : Int)) = some ((1 : Nat) : Int) from rfl, HT.sIx_nat, HT.sIx_none, List.drop_zero, Nat.sub_zero]
  cases xs <;> simp
theorem nums_filter (M : Book) (n : Int) (f : V → Bool) (hf : ∀ i, f (.int i) = decide (n < i)) : ((nums M).filter f).take 1 = (nxt M n).toList.map V.int := by
  have aux : ∀ l : List Int, (l.map V.int).filter f = (l.filter fun i => decide (n < i)).map V.int := by
    intro l
    induction l with
    | nil => rfl
    | cons i r ih =>
      rw [List.map_cons]
      by_cases h : n < i
      · rw [List.filter_cons_of_pos (by rw [hf]; simpa using h), List.filter_cons_of_pos (by simpa using h), ih]; rfl
      · rw [List.filter_cons_of_neg (by rw [hf]; simpa using h), List.filter_cons_of_neg (by simpa using h), ih]
  unfold nums nxt
  rw [aux]
  cases (M.map (·.1)).filter fun i => decide (n < i) <;> rfl

/-! ## Deeds that leave looks -/
theorem setW_setW (n : Int) (f g : Ws → Ws) (M : Book) : setW n f (setW n g M) = setW n (fun w => f (g w)) M := by
  unfold setW
  rw [List.map_map]
  refine List.map_congr_left fun e _ => ?_
  by_cases h : e.1 = n <;> simp [h]
theorem setW_same {U : List Str} {M : Book} (g : Good U M) {n : Int} {c : CueC} (h : get M n = some c) : setW n (fun _ => c.words) M = M := by
  unfold setW
  have : M.map (fun e => if e.1 = n then (e.1, { e.2 with words := c.words }) else e) = M.map id := List.map_congr_left fun e he => by
    by_cases z : e.1 = n
    · have := get_of_mem (v := e.2) g.nodup he
      rw [z, h] at this
      cases this
      rw [if_pos z]; rfl
    · rw [if_neg z]; rfl
  rw [this, List.map_id]
theorem get_setW_const {M : Book} {n : Int} {c : CueC} (h : get M n = some c) (ws : Ws) : get (setW n (fun _ => ws) M) n = some { c with words := ws } := by
  rw [get_setW, if_pos rfl, h]; rfl
theorem footP_word {p d : Addr} {ad : Ads} {M : Book} {n : Int} {f : Ws → Ws} {b : Addr} : footP p d ad (setW n f M) b ↔ footP p d ad M b := or_congr Iff.rfl foot_word
theorem dW_kV (ws : Ws) : (dW ws).map (fun kv => kV kv.1) = (ws.map (·.1)).map V.str := by
  unfold dW; rw [List.map_map, List.map_map]; rfl
theorem getD_int (o : Option Int) : (o.map V.int).getD (.int 0) = .int (o.getD 0) := by cases o <;> rfl
theorem ne_int {a b : Int} (h : (!decide (V.int a = V.int b)) = true) : a ≠ b := by
  rintro rfl; simp at h
theorem eq_int {a b : Int} (h : ¬ (!decide (V.int a = V.int b)) = true) : a = b := by
  simpa using h
section
variable {P : Program} {w : World} {K : PySem.W.Frag} {mg : Str → Option Value} {base : Heap}
def spBehind (K : PySem.W.Frag) : Sp := sp2 fun s x H Q _ => ∃ p d ad M U n, s = .ref p ∧ x = .int n ∧ PlayAt K U H p d ad M ∧ ∀ H' l, Same H H' → H l = none → H' l = some (.lst ((nxt M n).toList.map V.int)) → Q (.ref l) H'
theorem sc_Play_behind : FnScope ["self", "number", "one"] ["self", "number"] (defScope s_Play_behind) := ⟨rfl, rfl, rfl, by decide +kernel, rfl, by decide +kernel, by decide +kernel⟩
theorem d_Play_behind (T : Txt K mg) : MDef P w K mg base (He.ga K "Play") 2 "behind" ["self", "number"] [] (spBehind K) := by
  have d_Play_numbers := d_Play_numbers (P := P) (w := w) (base := base) T
  refine mkM T.d_Play_behind T.m_Play_behind sc_Play_behind (fun _ _ _ _ _ _ us hl => match us, hl with | [_, _], _ => rfl) len2 (BodyN.up fun cdv A outer s H vs Q E hr h => ?_)
  obtain ⟨_, _, rfl, p, d, ad, M, U, n, rfl, rfl, hp, q⟩ := h
  have hu := hu_of hr
  refine ⟨_, (pss_one (ps_ret (pe_slice sl_list (pe_lc (own := [("one", 2)]) rfl sc_Play_behind.nd (pi_list (pe_mt0 T.c_Play d_Play_numbers (hr.mono (by decide)) passL (pv 0))) (blkOk_by (own := [("one", 2)]) (N := ["self", "number", "one"]) (sc := defScope s_Play_behind) (by decide +kernel)) (fun _ _ _ _ _ => pg_name (i := 2) sc_Play_behind.nd rfl (Or.inl rfl)) (fun _ _ _ _ _ => (pts_one (pt_cmpR op_gt (pv 2) (pv 1) (nomark _)))) (fun _ _ _ _ _ => (pv 2))) po_none (po_some pe_int)))), ?_⟩
  obtain ⟨dx, kv0, h1, h2, tk⟩ := hp.kept
  refine ⟨_, rfl, _, _, _, rfl, h1, playF_no (by decide +kernel), _, rfl, p, d, ad, M, U, rfl, hp, fun H1 l s1 nl el => ⟨l, rfl, ⟨_, .inl (.inl el)⟩, fun D nD => ?_⟩⟩
  refine lc_pure (walk_list (K := K) (a := l) (xs := nums M)) nD (fun v => match v with | .int i => decide (n < i) | _ => false) id ?_ (fun _ => rfl) (fun H5 s5 => .inl (.inl (s5 _ _ el))) ?_ ?_ ?_
  · have := hp.good.len
    simp only [nums, List.length_map, sizeLine_eq]; omega
  · intro v hv H5 s5 Q' k
    obtain ⟨i, _, rfl⟩ := List.mem_map.mp hv
    exact ⟨_, rfl, _, rfl, _, _, rfl, rfl, _, rfl, k H5 (Same.refl _)⟩
  · exact fun v _ _ H5 s5 Q' k => ⟨_, rfl, k H5 (Same.refl _)⟩
  · intro H5 s5 hD
    refine ⟨_, rfl, _, _, rfl, .inl (.inl hD), fun t nt => ?_⟩
    rw [List.map_id, cut_first, nums_filter M n _ fun _ => rfl]
    have s15 := s1.trans s5
    exact q _ t (s15.trans (same_upd nt)) (s15.free nt) upd_same
def spHold (K : PySem.W.Frag) : Sp := sp3 fun s x k H Q _ => ∃ p d ad M U n c r L, s = .ref p ∧ x = .int n ∧ k = .ref r ∧ PlayAt K U H p d ad M ∧ get M n = some c ∧ H r = some (.dK (dW L)) ∧ ¬ footP p d ad M r ∧ Rising ltS L ∧ (∀ e ∈ L, e.1 ∈ U ∧ 0 ≤ e.2 ∧ e.2 ≤ 100) ∧
  ∀ H' M', Held M n (fun l => (get L l).getD 0) M' → PlayAt K U H' p d ad M' → Chg (footP p d ad M) H H' → (∀ b, footP p d ad M' b ↔ footP p d ad M b) → Q .non H'
theorem sc_Play_hold : FnScope ["self", "number", "look", "now", "lamp"] ["self", "number", "look"] (defScope s_Play_hold) := ⟨rfl, rfl, rfl, by decide +kernel, rfl, by decide +kernel, by decide +kernel⟩
theorem d_Play_hold (T : Txt K mg) : MDef P w K mg base (He.ga K "Play") 5 "hold" ["self", "number", "look"] [] (spHold K) := by
  have d_Play_look := d_Play_look (P := P) (w := w) (base := base) T
  refine mkM T.d_Play_hold T.m_Play_hold sc_Play_hold (fun _ _ _ _ _ _ us hl => match us, hl with | [_, _, _], _ => rfl) len3 (fun cdv A outer s H vs Q E hr h => ?_)
  obtain ⟨_, _, _, rfl, p, d, ad, M, U, n, c, r, L, rfl, rfl, rfl, hp, hn, hr0, nf, hL, okL, q⟩ := h
  have hu := hu_of hr
  refine ⟨_, (pss_cons (ps_set (i := 3) sc_Play_hold.nd rfl (Or.inl rfl) (pe_mt T.c_Play d_Play_look (hr.mono (by decide)) (passes_call (takes_of rfl rfl rfl rfl) fun _ _ _ _ h => h) (pv 0) (pa_cons (pv 1) pa_nil)))
    (pss_one (ps_for (passes_of rfl) rfl (pi_list (pe_op op_catS (pe_callTy (call_listD rfl) (by rfl) T.z_list (by decide +kernel) (pa_cons (pv 2) pa_nil)) (pe_callTy (call_listD rfl) (by rfl) T.z_list (by decide +kernel) (pa_cons (pv 3) pa_nil)))) (pg_name (i := 4) sc_Play_hold.nd rfl (Or.inl rfl))
    (pss_one (ps_if (pt_cmpR op_ne (pe_dget2 (by exact hu) (pv 3) (pv 4) pe_int ⟨rfl, rfl, rfl, rfl⟩) (pe_dget2 (by exact hu) (pv 2) (pv 4) pe_int ⟨rfl, rfl, rfl, rfl⟩) (nomark _))
    (pss_one (ps_dput hu (pe_fld (pe_dget (by exact hu) (pe_fld (pv 0) rfl) (pv 1) (fun _ _ => rfl)) rfl) (pv 4) (pe_dget2 (by exact hu) (pv 2) (pv 4) pe_int ⟨rfl, rfl, rfl, rfl⟩) rfl))
    pss_nil))))), ?_⟩
  obtain ⟨dx, kv0, h1, h2, tk⟩ := hp.kept
  have g := hp.good
  refine ⟨_, rfl, _, _, _, rfl, h1, playF_no (by decide +kernel), _, rfl, _, _, rfl, p, d, ad, M, U, rfl, hp, trivial, fun n' c' ex hn' H1 w1 s1 nw ew => ?_, fun z => absurd z (cue_some rfl hn)⟩
  cases ex
  have lf := look_few g hp.lamps n
  have Lf : L.length ≤ 60 := by
    have := nodup_le (rising_nodup linS hL) (u := U) fun x hx => by
      obtain ⟨e, he, rfl⟩ := List.mem_map.mp hx
      exact (okL e he).1
    rw [List.length_map] at this
    exact Nat.le_trans this hp.lamps.few
  refine ⟨_, rfl, r, dW L, rfl, .inl (s1 _ _ hr0), fun a1 n1 => ⟨_, rfl, w1, dW (look M n), rfl, .inl (same_upd n1 _ _ ew), fun a2 n2 => ⟨a1, a2, _, _, rfl, rfl, .inl (.inl (same_upd n2 _ _ upd_same)), .inl (.inl upd_same), ?_, fun a3 n3 => ?_⟩⟩⟩
  · simp only [dW, List.length_map, sizeLine_eq]; omega
  have s2 := same_upd (o := HO.lst ((dW L).map fun kv => kV kv.1)) n1
  have s3 := same_upd (o := HO.lst ((dW (look M n)).map fun kv => kV kv.1)) n2
  have s4 := same_upd (o := HO.lst ((dW L).map (fun kv => kV kv.1) ++ (dW (look M n)).map fun kv => kV kv.1)) n3
  have s24 := s2.trans (s3.trans s4)
  have sB := s1.trans s24
  have na3 : H a3 = none := (s1.trans (s2.trans s3)).free n3
  have eks : (dW L).map (fun kv => kV kv.1) ++ (dW (look M n)).map (fun kv => kV kv.1) = (L.map (·.1) ++ (look M n).map (·.1)).map V.str := by rw [dW_kV, dW_kV, List.map_append]
  rw [eks] at s4 s24 sB ⊢
  have ea3 : (upd (upd (upd H1 a1 (.lst ((dW L).map fun kv => kV kv.1))) a2 (.lst ((dW (look M n)).map fun kv => kV kv.1))) a3 (.lst ((L.map (·.1) ++ (look M n).map (·.1)).map V.str))) a3 = some (.lst ((L.map (·.1) ++ (look M n).map (·.1)).map V.str)) := upd_same
  have ewB := s24 _ _ ew
  have erB := sB _ _ hr0
  generalize upd (upd (upd H1 a1 (.lst ((dW L).map fun kv => kV kv.1))) a2 (.lst ((dW (look M n)).map fun kv => kV kv.1))) a3 (.lst ((L.map (·.1) ++ (look M n).map (·.1)).map V.str)) = HB at s4 s24 sB ea3 ewB erB
  clear s4 s24 eks
  have fnew : ∀ b, H b = none → ¬ footP p d ad M b := fun b hb h => by obtain ⟨o, e⟩ := hp.has h; rw [hb] at e; cases e
  have hD : ∀ l, 0 ≤ (get L l).getD 0 ∧ (get L l).getD 0 ≤ 100 := fun l => by
    cases e : get L l with
    | none => exact ⟨by decide, by decide⟩
    | some v => exact (okL _ (get_mem e)).2
  have hkU : ∀ l ∈ L.map (·.1) ++ (look M n).map (·.1), l ∈ U := fun l hl => by
    rcases List.mem_append.mp hl with h | h
    · obtain ⟨e, he, rfl⟩ := List.mem_map.mp h
      exact (okL e he).1
    · obtain ⟨e, he, rfl⟩ := List.mem_map.mp h
      exact (look_mem g n e he).1
  have hcw : ∀ w ∈ c.words, w.1 ∈ U ∧ 0 ≤ w.2 ∧ w.2 ≤ 100 := g.wrd _ (g.at hn)
  have hcs := g.wsrt _ (g.at hn)
  have hout : ∀ l, l ∉ L.map (·.1) ++ (look M n).map (·.1) → lev M n l = (get L l).getD 0 := fun l hl => by
    rw [← look_lev g, get_none_iff.mpr fun h => hl (List.mem_append.mpr (.inr h)), get_none_iff.mpr fun h => hl (List.mem_append.mpr (.inl h))]
  generalize hks : L.map (·.1) ++ (look M n).map (·.1) = ks at ea3 hkU hout ⊢
  refine ⟨a3, rfl, ⟨_, .inl (.inl ea3)⟩, for_list (K := K) (a := a3) (xs := ks.map V.str) (fun i σ H' => ∃ v4, σ = [some (.ref p), some (.int n), some (.ref r), some (.ref w1), v4] ∧ PlayAt K U H' p d ad (setW n (fun _ => holdF (lev M n) (fun l => (get L l).getD 0) (ks.take i) c.words) M) ∧ Chg (footP p d ad M) HB H') ?_ ?_ ?_ ?_⟩
  · refine ⟨none, rfl, ?_, fun b o e _ => e⟩
    show PlayAt K U HB p d ad (setW n (fun _ => c.words) M)
    rw [setW_same g hn]
    exact hp.same sB
  · rintro i σ H' _ ⟨v4, _, _, ch⟩
    exact .inl (.inl (ch _ _ ea3 (fnew _ na3)))
  · rintro i x σ H' hx ⟨v4, rfl, hp', ch⟩
    rw [List.getElem?_map] at hx
    obtain ⟨l, hl, rfl⟩ := Option.map_eq_some_iff.mp hx
    have ew' := ch _ _ ewB (fnew _ nw)
    have er' := ch _ _ erB nf
    have d1 := (WK.dW (rising_nodup linS (look_rising M n))).get (.inl ew') l
    have d2 := (WK.dW (rising_nodup linS hL)).get (.inl er') l
    refine ⟨_, rfl, _, rfl, .inl ⟨_, .inl ew'⟩, _, rfl, _, d1, _, rfl, _, rfl, .inl ⟨_, .inl er'⟩, _, rfl, _, d2, ?_⟩
    rw [getD_int, getD_int, look_lev g]
    refine ⟨rfl, _, rfl, ite2 (fun c1 => ?_) (fun c1 => ?_)⟩
    · have c1 := ne_int c1
      refine ⟨_, rfl, _, rfl, .inl ⟨_, .inl er'⟩, _, rfl, _, d2, ?_⟩
      rw [getD_int]
      obtain ⟨dx', kv', k1, k2, tk'⟩ := hp'.kept
      have hn' := get_setW_const hn (holdF (lev M n) (fun l => (get L l).getD 0) (ks.take i) c.words)
      obtain ⟨dc, kvs, e1, e2, wk⟩ := hp'.cue hn'
      have hm' := hp'.good.at hn'
      have lw := wk.len (hp'.good.wsrt _ hm')
      have fw : kvs.length ≤ 60 := by rw [lw]; exact hp'.good.few hp'.lamps hm'
      refine ⟨_, rfl, p, _, dx', _, _, rfl, k1, T.c_Play, T.n_Play_kept, playF_kept, _, rfl, d, _, rfl, tk'.hit (.inl k2) hn', _, _, _, _, _, rfl, e1, T.c_Cue, T.n_Cue_words, cueF_words, _, rfl, _, _, rfl, DPut.k (k := Sum.inr l) e2 (by rw [sizeLine_eq]; omega), ?_⟩
      have eS : setW n (put ltS l ((get L l).getD 0)) (setW n (fun _ => holdF (lev M n) (fun l => (get L l).getD 0) (ks.take i) c.words) M) = setW n (fun _ => holdF (lev M n) (fun l => (get L l).getD 0) (ks.take (i + 1)) c.words) M := by
        rw [setW_setW, take_snoc hl]
        congr 1
        funext _
        rw [holdF_snoc, if_pos c1]
      have hl' := hkU l (List.mem_of_getElem? hl)
      refine ⟨_, rfl, ?_, fun b o e nb => ?_⟩
      · rw [← eS]
        exact hp'.word hn' (fun b o _ ne e => by rw [upd_ne ne]; exact e) ⟨_, upd_same, wk.put l _⟩ (hp'.good.setW fun ws hs hw => wok_put hl' (hD l).1 (hD l).2 hs hw)
      · rw [upd_ne fun y => nb (.inr (.inr ⟨n, c, hn, .inr y⟩))]
        exact ch b o e nb
    · have c1 := eq_int c1
      refine ⟨_, rfl, ?_, ch⟩
      rw [take_snoc hl, holdF_snoc, if_neg fun y => y c1]
      exact hp'
  · rintro σ H' ⟨v4, rfl, hp', ch⟩
    rw [show (ks.map V.str).length = ks.length by simp, List.take_length] at hp'
    exact q H' _ ⟨c, _, hn, held_holdF hcs hout, rfl⟩ hp' (fun b o e nb => ch b o (sB _ _ e) nb) fun b => footP_word
end

theorem get_del_ne {M : Book} {n m : Int} (h : m ≠ n) : get (del n M) m = get M m := by rw [get_del, if_neg h]
theorem PlayAt.drop {K : PySem.W.Frag} {U : List Str} {H : Hp} {p d : Addr} {ad : Ads} {M : Book} (T : PlayAt K U H p d ad M) {kvs : List (Key × V)} (hd : H d = some (.dK kvs)) (n : Int) : PlayAt K U (upd H d (.dK (dropK kvs (Sum.inl n)))) p d ad (del n M) := by
  obtain ⟨dx, e⟩ := T.ob
  have pd : p ≠ d := fun z => T.off (.inl z)
  exact ⟨⟨dx, by rw [upd_ne pd]; exact e⟩, T.tb.drop hd upd_same (fun b u _ ne e => by rw [upd_ne ne]; exact e), fun h => T.off (foot_drop h), T.good.del n, T.lamps⟩
theorem footP_drop {p d : Addr} {ad : Ads} {M : Book} {n : Int} {b : Addr} (h : footP p d ad (del n M) b) : footP p d ad M b := h.imp id foot_drop
theorem Held.of {U : List Str} {M0 M : Book} {m n : Int} {M' : Book} (g : Good U M0) (h : Held M m (fun l => (get (look M0 n) l).getD 0) M') : Held M m (lev M0 n) M' := by
  have : (fun l => (get (look M0 n) l).getD 0) = lev M0 n := funext fun l => look_lev g n l
  rwa [this] at h
theorem look_ok {U : List Str} {M : Book} (g : Good U M) (n : Int) : ∀ e ∈ look M n, e.1 ∈ U ∧ 0 ≤ e.2 ∧ e.2 ≤ 100 := look_mem g n
section
variable {P : Program} {w : World} {K : PySem.W.Frag} {mg : Str → Option Value} {base : Heap}
def spCut (K : PySem.W.Frag) : Sp := sp2 fun s x H Q E => ∃ p d ad M U, s = .ref p ∧ PlayAt K U H p d ad M ∧ Pl H x ∧ (cueOf M x = none → Er K "NoCue" E H) ∧
  (∀ n c, x = .int n → get M n = some c → ∀ H', PlayAt K U H' p d ad (del n M) → Chg (footP p d ad M) H H' → Q .non H')
theorem sc_Play_cut : FnScope ["self", "number"] ["self", "number"] (defScope s_Play_cut) := ⟨rfl, rfl, rfl, by decide +kernel, rfl, by decide +kernel, by decide +kernel⟩
theorem d_Play_cut (T : Txt K mg) : MDef P w K mg base (He.ga K "Play") 4 "cut" ["self", "number"] [] (spCut K) := by
  have d_Play_sure := d_Play_sure (P := P) (w := w) (base := base) T
  refine mkM T.d_Play_cut T.m_Play_cut sc_Play_cut (fun _ _ _ _ _ _ us hl => match us, hl with | [_, _], _ => rfl) len2 (fun cdv A outer s H vs Q E hr h => ?_)
  obtain ⟨_, x, rfl, p, d, ad, M, U, rfl, hp, hx, e1, q⟩ := h
  have hu := hu_of hr
  refine ⟨_, (pss_cons (ps_expr (pe_mt T.c_Play d_Play_sure (hr.mono (by decide)) (passes_call (takes_of rfl rfl rfl rfl) fun _ _ _ _ h => h) (pv 0) (pa_cons (pv 1) pa_nil)))
    (pss_one (ps_expr (pe_dpop1 (pe_fld (pv 0) rfl) (pv 1) ⟨rfl, rfl, rfl, rfl⟩)))), ?_⟩
  obtain ⟨dx, kv0, h1, h2, tk⟩ := hp.kept
  refine ⟨_, rfl, _, _, _, rfl, h1, playF_no (by decide +kernel), _, rfl, _, _, rfl, p, d, ad, M, U, rfl, hp, hx, fun n c ex hn => ?_, e1⟩
  subst ex
  refine ⟨_, rfl, p, _, dx, _, _, rfl, h1, T.c_Play, T.n_Play_kept, playF_kept, _, rfl, .inl ⟨_, .inl h2⟩, _, rfl, kv0, Sum.inl n, .ref (ad n).1, h2, rfl, by rw [tk.vl, hn]; rfl, ?_⟩
  exact q n c rfl hn _ (hp.drop h2 n) fun b o e nb => by rw [upd_ne fun y => nb (.inr (.inl y))]; exact e
def spOnly (K : PySem.W.Frag) : Sp := sp4 fun s x l v H Q E => ∃ p d ad M U, s = .ref p ∧ PlayAt K U H p d ad M ∧ Pl H x ∧ Pl H l ∧ Pl H v ∧ (cueOf M x = none → Er K "NoCue" E H) ∧ (cueOf M x ≠ none → lampV l = false → Er K "NoLamp" E H) ∧ (cueOf M x ≠ none → lampV l = true → wholeV 0 100 v = false → Er K "NoLevel" E H) ∧
  (∀ n c z i, x = .int n → get M n = some c → l = .str z → v = .int i → lampV l = true → (0 ≤ i ∧ i ≤ 100) → z ∈ U ∧ ∀ H' M', Kept M (setW n (put ltS z i) M) n M' → PlayAt K U H' p d ad M' → Chg (footP p d ad M) H H' → (∀ b, footP p d ad M' b → footP p d ad M b) → Q .non H')
theorem sc_Play_only : FnScope ["self", "number", "lamp", "level", "found", "looks", "one", "look"] ["self", "number", "lamp", "level"] (defScope s_Play_only) := ⟨rfl, rfl, rfl, by decide +kernel, rfl, by decide +kernel, by decide +kernel⟩
theorem d_Play_only (T : Txt K mg) : MDef P w K mg base (He.ga K "Play") 6 "only" ["self", "number", "lamp", "level"] [] (spOnly K) := by
  have d_Play_sure := d_Play_sure (P := P) (w := w) (base := base) T
  have d_need_word := d_need_word (P := P) (w := w) (base := base) T
  have d_Play_hold := d_Play_hold (P := P) (w := w) (base := base) T
  have d_Play_look := d_Play_look (P := P) (w := w) (base := base) T
  have d_Play_behind := d_Play_behind (P := P) (w := w) (base := base) T
  refine mkM T.d_Play_only T.m_Play_only sc_Play_only (fun _ _ _ _ _ _ us hl => match us, hl with | [_, _, _, _], _ => rfl) len4 (fun cdv A outer s H vs Q E hr h => ?_)
  obtain ⟨_, x, l, v, rfl, p, d, ad, M, U, rfl, hp, hx, hl, hv, e1, e2, e3, q⟩ := h
  have hu := hu_of hr
  refine ⟨_, (pss_cons (ps_set (i := 4) sc_Play_only.nd rfl (Or.inl rfl) (pe_mt T.c_Play d_Play_sure (hr.mono (by decide)) (passes_call (takes_of rfl rfl rfl rfl) fun _ _ _ _ h => h) (pv 0) (pa_cons (pv 1) pa_nil)))
    (pss_cons (ps_expr (pe_fn d_need_word (hr.mono (by decide)) (by rfl) (passes_call (takes_of rfl rfl rfl rfl) fun _ _ _ _ h => h) (pa_cons (pv 2) (pa_cons (pv 3) pa_nil))))
    (pss_cons (ps_setLc (i := 5) (own := [("one", 6)]) rfl sc_Play_only.nd rfl rfl (sw_true rfl rfl rfl (by decide +kernel)) (pi_list (pe_mt T.c_Play d_Play_behind (hr.mono (by decide)) (passes_call (takes_of rfl rfl rfl rfl) fun _ _ _ _ h => h) (pv 0) (pa_cons (pv 1) pa_nil))) (blkOk_by (own := [("one", 6)]) (N := ["self", "number", "lamp", "level", "found", "looks", "one", "look"]) (sc := defScope s_Play_only) (by decide +kernel)) (fun _ _ _ _ _ => pg_name (i := 6) sc_Play_only.nd rfl (Or.inl rfl)) (fun _ _ _ _ _ => pts_nil) (fun _ _ _ _ _ => (pe_tup (pa_cons (pv 6) (pa_cons (pe_mt T.c_Play d_Play_look (hr.mono (by decide)) passL (pv 0) (pa_cons (pv 6) pa_nil)) pa_nil)))))
    (pss_cons (ps_dput hu (pe_fld (pv 4) rfl) (pv 2) (pv 3) rfl)
    (pss_one (ps_for (passes_of rfl) rfl (pi_list (pv 5)) (pg_tup rfl (pgs_cons (pg_name (i := 6) sc_Play_only.nd rfl (Or.inl rfl)) (pgs_cons (pg_name (i := 7) sc_Play_only.nd rfl (Or.inl rfl)) pgs_nil)))
    (pss_one (ps_expr (pe_mt T.c_Play d_Play_hold (hr.mono (by decide)) (passes_call (takes_of rfl rfl rfl rfl) fun _ _ _ _ h => h) (pv 0) (pa_cons (pv 6) (pa_cons (pv 7) pa_nil))))))))))), ?_⟩
  obtain ⟨dx, kv0, h1, h2, tk⟩ := hp.kept
  refine ⟨_, rfl, _, _, _, rfl, h1, playF_no (by decide +kernel), _, rfl, _, _, rfl, p, d, ad, M, U, rfl, hp, hx, fun n c ex hn => ?_, e1⟩
  refine ⟨_, rfl, _, rfl, _, _, rfl, hl, hv, fun k1 k2 H1 s1 => ?_, e2 (cue_some ex hn), e3 (cue_some ex hn)⟩
  obtain ⟨z, rfl⟩ : ∃ z, l = .str z := by
    cases l with
    | str z => exact ⟨z, rfl⟩
    | _ => cases k1
  obtain ⟨i, rfl, hi⟩ := whole_int k2
  obtain ⟨hz, q1⟩ := q n c z i ex hn rfl rfl k1 hi
  subst ex
  have g := hp.good
  have hp1 := hp.same s1
  refine ⟨_, rfl, _, _, _, rfl, s1 _ _ h1, playF_no (by decide +kernel), _, rfl, _, _, rfl, p, d, ad, M, U, n, rfl, rfl, hp1, fun H2 l2 s2 nl2 el2 => ⟨l2, rfl, ⟨_, .inl (.inl el2)⟩, fun D nD => ?_⟩⟩
  have s12 := s1.trans s2
  refine lc_rel (walk_list (K := K) (a := l2) (xs := (nxt M n).toList.map V.int)) nD yes (fun x y H' => ∃ m t w, x = V.int m ∧ y = V.ref t ∧ H t = none ∧ H w = none ∧ H' t = some (.tup [.int m, .ref w]) ∧ H' w = some (.dK (dW (look M m)))) ?_ ?_ (fun _ => rfl) (fun H5 s5 => .inl (.inl (s5 _ _ el2))) (fun x _ H _ Q' k => tt_yes x k) ?_ ?_
  · rintro x y H3 H4 nl' ⟨m, t, w', rfl, rfl, a1, a2, a3, a4⟩
    exact ⟨m, t, w', rfl, rfl, a1, a2, nl' _ _ (fun _ z => by cases z) a3, nl' _ _ (fun _ z => by cases z) a4⟩
  · rw [List.length_map, sizeLine_eq]
    cases nxt M n <;> simp
  · rintro y hy _ H5 s5 Q' k
    obtain ⟨m, hm, rfl⟩ := List.mem_map.mp hy
    have hm : nxt M n = some m := Option.mem_toList.mp hm
    obtain ⟨cm, hcm⟩ := nxt_get hm
    have s15 := s12.trans s5
    refine ⟨_, rfl, _, rfl, _, _, _, rfl, s15 _ _ h1, playF_no (by decide +kernel), _, rfl, _, _, rfl, p, d, ad, M, U, rfl, hp.same s15, trivial, fun m' c' ex hm' H6 w6 s6 n6 e6 => ⟨by simp [sizeLine_eq], fun t nt => ?_⟩, fun z => absurd z (cue_some rfl hcm)⟩
    cases ex
    have st := same_upd (o := HO.tup [.int m, .ref w6]) nt
    exact k _ _ (s6.trans st) ⟨m, t, w6, rfl, rfl, (s15.trans s6).free nt, s15.free n6, upd_same, st _ _ e6⟩
  · intro H5 ys s5 hD hpair
    rw [filter_yes] at hpair
    have s15 := s12.trans s5
    have hp5 := hp.same s15
    obtain ⟨dc, kvs, c1, c2, wk⟩ := hp5.cue hn
    have hm := g.at hn
    refine ⟨_, rfl, _, rfl, _, _, _, _, _, rfl, c1, T.c_Cue, T.n_Cue_words, cueF_words, _, rfl, _, _, rfl, DPut.k (k := Sum.inr z) c2 (by rw [wk.len (g.wsrt _ hm), sizeLine_eq]; exact Nat.lt_of_le_of_lt (g.few hp.lamps hm) (by decide)), ?_⟩
    have hpX := hp5.word hn (fun b o _ ne e => by rw [upd_ne ne]; exact e) ⟨_, upd_same, wk.put z i⟩ (g.setW fun ws hs hw => wok_put hz hi.1 hi.2 hs hw)
    have fW : footP p d ad M (ad n).2 := .inr (.inr ⟨n, c, hn, .inr rfl⟩)
    have chX : Chg (footP p d ad M) H5 (upd H5 (ad n).2 (.dK (putK kvs (Sum.inr z) (.int i)))) := fun b o e nb => by
      rw [upd_ne fun (y : b = (ad n).2) => nb (y ▸ fW)]; exact e
    have fnew : ∀ b, H b = none → ¬ footP p d ad M b := fun b hb h => by obtain ⟨o, e⟩ := hp.has h; rw [hb] at e; cases e
    have hDn : H D = none := s12.free nD
    have eD := chX _ _ hD (fnew _ hDn)
    generalize upd H5 (ad n).2 (.dK (putK kvs (Sum.inr z) (.int i))) = HX at hpX chX eD
    have chH : Chg (footP p d ad M) H HX := fun b o e nb => chX b o (s15 _ _ e) nb
    refine ⟨_, rfl, D, rfl, ⟨_, .inl (.inl eD)⟩, ?_⟩
    cases hnx : nxt M n with
    | none =>
      rw [hnx] at hpair
      cases hpair
      refine for_list (K := K) (a := D) (xs := []) (fun _ σ H' => H' = HX) rfl (fun i σ H' _ e => by rw [e]; exact .inl (.inl eD)) (fun i x σ H' hx => by simp at hx) ?_
      rintro σ H' rfl
      exact q1 _ _ ⟨fun _ => rfl, fun m h => by rw [hnx] at h; cases h⟩ hpX chH fun b h => footP_word.mp h
    | some m =>
      rw [hnx] at hpair
      have hpair : Paired _ [V.int m] ys := hpair
      cases hpair with
      | cons hR hr =>
      cases hr
      obtain ⟨m', t, w', e0, rfl, a1, a2, a3, a4⟩ := hR
      cases e0
      obtain ⟨cm, hcm⟩ := nxt_get hnx
      have hmn : m ≠ n := by have := (nxt_mem hnx).2; omega
      have hcmX : get (setW n (put ltS z i) M) m = some cm := by rw [get_setW, if_neg hmn]; exact hcm
      have et := chX _ _ a3 (fnew _ a1)
      have ew := chX _ _ a4 (fnew _ a2)
      refine for_list (K := K) (a := D) (xs := [V.ref t]) (fun j σ H' => (j = 0 ∧ H' = HX ∧ σ = [some (.ref p), some (.int n), some (.str z), some (.int i), some (.ref (ad n).1), some (.ref D), none, none]) ∨ (j = 1 ∧ ∃ M', Held (setW n (put ltS z i) M) m (lev M m) M' ∧ PlayAt K U H' p d ad M' ∧ Chg (footP p d ad M) HX H' ∧ ∀ b, footP p d ad M' b → footP p d ad M b)) (.inl ⟨rfl, rfl, rfl⟩) ?_ ?_ ?_
      · rintro j σ H' _ (⟨_, rfl, _⟩ | ⟨_, M', _, _, ch, _⟩)
        · exact .inl (.inl eD)
        · exact .inl (.inl (ch _ _ eD (fnew _ hDn)))
      · rintro j y σ H' hy hP
        cases j with
        | succ j => simp at hy
        | zero =>
          rcases hP with ⟨_, rfl, rfl⟩ | ⟨z', _⟩
          · cases hy
            refine ⟨t, _, rfl, .inl (.inl et), rfl, _, _, rfl, _, _, rfl, rfl, ?_⟩
            obtain ⟨dxX, kvX, x1, _, _⟩ := hpX.kept
            refine ⟨_, rfl, _, _, _, rfl, x1, playF_no (by decide +kernel), _, rfl, _, rfl, _, _, _, rfl, p, d, ad, _, U, m, cm, w', look M m, rfl, rfl, rfl, hpX, hcmX, ew, fun h => fnew _ a2 (footP_word.mp h), look_rising M m, look_ok g m, fun H' M' hh hp' ch fo => ?_⟩
            exact .inr ⟨rfl, M', hh.of g, hp', fun b o e nb => ch b o e fun h => nb (footP_word.mp h), fun b h => footP_word.mp ((fo b).mp h)⟩
          · cases z'
      · rintro σ H' (⟨z', _⟩ | ⟨_, M', hh, hp', ch, fo⟩)
        · cases z'
        · exact q1 _ M' ⟨fun h => (by rw [hnx] at h; cases h), fun m' h => (by rw [hnx] at h; cases h; exact hh)⟩ hp' (fun b o e nb => ch b o (chH b o e nb) nb) fo
def spLift (K : PySem.W.Frag) : Sp := sp2 fun s x H Q E => ∃ p d ad M U, s = .ref p ∧ PlayAt K U H p d ad M ∧ Pl H x ∧ (cueOf M x = none → Er K "NoCue" E H) ∧
  (∀ n c, x = .int n → get M n = some c → ∀ H' M', Kept M (del n M) n M' → PlayAt K U H' p d ad M' → Chg (footP p d ad M) H H' → (∀ b, footP p d ad M' b → footP p d ad M b) → Q .non H')
theorem sc_Play_lift : FnScope ["self", "number", "looks", "one", "look"] ["self", "number"] (defScope s_Play_lift) := ⟨rfl, rfl, rfl, by decide +kernel, rfl, by decide +kernel, by decide +kernel⟩
theorem d_Play_lift (T : Txt K mg) : MDef P w K mg base (He.ga K "Play") 6 "lift" ["self", "number"] [] (spLift K) := by
  have d_Play_sure := d_Play_sure (P := P) (w := w) (base := base) T
  have d_Play_hold := d_Play_hold (P := P) (w := w) (base := base) T
  have d_Play_look := d_Play_look (P := P) (w := w) (base := base) T
  have d_Play_behind := d_Play_behind (P := P) (w := w) (base := base) T
  refine mkM T.d_Play_lift T.m_Play_lift sc_Play_lift (fun _ _ _ _ _ _ us hl => match us, hl with | [_, _], _ => rfl) len2 (fun cdv A outer s H vs Q E hr h => ?_)
  obtain ⟨_, x, rfl, p, d, ad, M, U, rfl, hp, hx, e1, q⟩ := h
  have hu := hu_of hr
  refine ⟨_, (pss_cons (ps_expr (pe_mt T.c_Play d_Play_sure (hr.mono (by decide)) (passes_call (takes_of rfl rfl rfl rfl) fun _ _ _ _ h => h) (pv 0) (pa_cons (pv 1) pa_nil)))
    (pss_cons (ps_setLc (i := 2) (own := [("one", 3)]) rfl sc_Play_lift.nd rfl rfl (sw_true rfl rfl rfl (by decide +kernel)) (pi_list (pe_mt T.c_Play d_Play_behind (hr.mono (by decide)) (passes_call (takes_of rfl rfl rfl rfl) fun _ _ _ _ h => h) (pv 0) (pa_cons (pv 1) pa_nil))) (blkOk_by (own := [("one", 3)]) (N := ["self", "number", "looks", "one", "look"]) (sc := defScope s_Play_lift) (by decide +kernel)) (fun _ _ _ _ _ => pg_name (i := 3) sc_Play_lift.nd rfl (Or.inl rfl)) (fun _ _ _ _ _ => pts_nil) (fun _ _ _ _ _ => (pe_tup (pa_cons (pv 3) (pa_cons (pe_mt T.c_Play d_Play_look (hr.mono (by decide)) passL (pv 0) (pa_cons (pv 3) pa_nil)) pa_nil)))))
    (pss_cons (ps_expr (pe_dpop1 (pe_fld (pv 0) rfl) (pv 1) ⟨rfl, rfl, rfl, rfl⟩))
    (pss_one (ps_for (passes_of rfl) rfl (pi_list (pv 2)) (pg_tup rfl (pgs_cons (pg_name (i := 3) sc_Play_lift.nd rfl (Or.inl rfl)) (pgs_cons (pg_name (i := 4) sc_Play_lift.nd rfl (Or.inl rfl)) pgs_nil)))
    (pss_one (ps_expr (pe_mt T.c_Play d_Play_hold (hr.mono (by decide)) (passes_call (takes_of rfl rfl rfl rfl) fun _ _ _ _ h => h) (pv 0) (pa_cons (pv 3) (pa_cons (pv 4) pa_nil)))))))))), ?_⟩
  obtain ⟨dx, kv0, h1, h2, tk⟩ := hp.kept
  refine ⟨_, rfl, _, _, _, rfl, h1, playF_no (by decide +kernel), _, rfl, _, _, rfl, p, d, ad, M, U, rfl, hp, hx, fun n c ex hn => ?_, e1⟩
  subst ex
  have q := q n c rfl hn
  have g := hp.good
  refine ⟨_, rfl, _, _, _, rfl, h1, playF_no (by decide +kernel), _, rfl, _, _, rfl, p, d, ad, M, U, n, rfl, rfl, hp, fun H2 l2 s2 nl2 el2 => ⟨l2, rfl, ⟨_, .inl (.inl el2)⟩, fun D nD => ?_⟩⟩
  refine lc_rel (walk_list (K := K) (a := l2) (xs := (nxt M n).toList.map V.int)) nD yes (fun x y H' => ∃ m t w, x = V.int m ∧ y = V.ref t ∧ H t = none ∧ H w = none ∧ H' t = some (.tup [.int m, .ref w]) ∧ H' w = some (.dK (dW (look M m)))) ?_ ?_ (fun _ => rfl) (fun H5 s5 => .inl (.inl (s5 _ _ el2))) (fun x _ H _ Q' k => tt_yes x k) ?_ ?_
  · rintro x y H3 H4 nl' ⟨m, t, w', rfl, rfl, a1, a2, a3, a4⟩
    exact ⟨m, t, w', rfl, rfl, a1, a2, nl' _ _ (fun _ z => by cases z) a3, nl' _ _ (fun _ z => by cases z) a4⟩
  · rw [List.length_map, sizeLine_eq]
    cases nxt M n <;> simp
  · rintro y hy _ H5 s5 Q' k
    obtain ⟨m, hm, rfl⟩ := List.mem_map.mp hy
    have hm : nxt M n = some m := Option.mem_toList.mp hm
    obtain ⟨cm, hcm⟩ := nxt_get hm
    have s15 := s2.trans s5
    refine ⟨_, rfl, _, rfl, _, _, _, rfl, s15 _ _ h1, playF_no (by decide +kernel), _, rfl, _, _, rfl, p, d, ad, M, U, rfl, hp.same s15, trivial, fun m' c' ex hm' H6 w6 s6 n6 e6 => ⟨by simp [sizeLine_eq], fun t nt => ?_⟩, fun z => absurd z (cue_some rfl hcm)⟩
    cases ex
    have st := same_upd (o := HO.tup [.int m, .ref w6]) nt
    exact k _ _ (s6.trans st) ⟨m, t, w6, rfl, rfl, (s15.trans s6).free nt, s15.free n6, upd_same, st _ _ e6⟩
  · intro H5 ys s5 hD hpair
    rw [filter_yes] at hpair
    have s15 := s2.trans s5
    have hp5 := hp.same s15
    have h25 := s15 _ _ h2
    refine ⟨_, rfl, p, _, dx, _, _, rfl, s15 _ _ h1, T.c_Play, T.n_Play_kept, playF_kept, _, rfl, .inl ⟨_, .inl h25⟩, _, rfl, kv0, Sum.inl n, .ref (ad n).1, h25, rfl, by rw [tk.vl, hn]; rfl, ?_⟩
    have hpX := hp5.drop h25 n
    have chX : Chg (footP p d ad M) H5 (upd H5 d (.dK (dropK kv0 (Sum.inl n)))) := fun b o e nb => by
      rw [upd_ne fun (y : b = d) => nb (.inr (.inl y))]; exact e
    have fnew : ∀ b, H b = none → ¬ footP p d ad M b := fun b hb h => by obtain ⟨o, e⟩ := hp.has h; rw [hb] at e; cases e
    have hDn : H D = none := s2.free nD
    have eD := chX _ _ hD (fnew _ hDn)
    generalize upd H5 d (.dK (dropK kv0 (Sum.inl n))) = HX at hpX chX eD
    have chH : Chg (footP p d ad M) H HX := fun b o e nb => chX b o (s15 _ _ e) nb
    refine ⟨_, rfl, D, rfl, ⟨_, .inl (.inl eD)⟩, ?_⟩
    cases hnx : nxt M n with
    | none =>
      rw [hnx] at hpair
      cases hpair
      refine for_list (K := K) (a := D) (xs := []) (fun _ σ H' => H' = HX) rfl (fun i σ H' _ e => by rw [e]; exact .inl (.inl eD)) (fun i x σ H' hx => by simp at hx) ?_
      rintro σ H' rfl
      exact q _ _ ⟨fun _ => rfl, fun m h => by rw [hnx] at h; cases h⟩ hpX chH fun b h => footP_drop h
    | some m =>
      rw [hnx] at hpair
      have hpair : Paired _ [V.int m] ys := hpair
      cases hpair with
      | cons hR hr =>
      cases hr
      obtain ⟨m', t, w', e0, rfl, a1, a2, a3, a4⟩ := hR
      cases e0
      obtain ⟨cm, hcm⟩ := nxt_get hnx
      have hmn : m ≠ n := by have := (nxt_mem hnx).2; omega
      have hcmX : get (del n M) m = some cm := by rw [get_del_ne hmn]; exact hcm
      have et := chX _ _ a3 (fnew _ a1)
      have ew := chX _ _ a4 (fnew _ a2)
      refine for_list (K := K) (a := D) (xs := [V.ref t]) (fun j σ H' => (j = 0 ∧ H' = HX ∧ σ = [some (.ref p), some (.int n), some (.ref D), none, none]) ∨ (j = 1 ∧ ∃ M', Held (del n M) m (lev M m) M' ∧ PlayAt K U H' p d ad M' ∧ Chg (footP p d ad M) HX H' ∧ ∀ b, footP p d ad M' b → footP p d ad M b)) (.inl ⟨rfl, rfl, rfl⟩) ?_ ?_ ?_
      · rintro j σ H' _ (⟨_, rfl, _⟩ | ⟨_, M', _, _, ch, _⟩)
        · exact .inl (.inl eD)
        · exact .inl (.inl (ch _ _ eD (fnew _ hDn)))
      · rintro j y σ H' hy hP
        cases j with
        | succ j => simp at hy
        | zero =>
          rcases hP with ⟨_, rfl, rfl⟩ | ⟨z', _⟩
          · cases hy
            refine ⟨t, _, rfl, .inl (.inl et), rfl, _, _, rfl, _, _, rfl, rfl, ?_⟩
            obtain ⟨dxX, kvX, x1, _, _⟩ := hpX.kept
            refine ⟨_, rfl, _, _, _, rfl, x1, playF_no (by decide +kernel), _, rfl, _, rfl, _, _, _, rfl, p, d, ad, _, U, m, cm, w', look M m, rfl, rfl, rfl, hpX, hcmX, ew, fun h => fnew _ a2 (footP_drop h), look_rising M m, look_ok g m, fun H' M' hh hp' ch fo => ?_⟩
            exact .inr ⟨rfl, M', hh.of g, hp', fun b o e nb => ch b o e fun h => nb (footP_drop h), fun b h => footP_drop ((fo b).mp h)⟩
          · cases z'
      · rintro σ H' (⟨z', _⟩ | ⟨_, M', hh, hp', ch, fo⟩)
        · cases z'
        · exact q _ M' ⟨fun h => (by rw [hnx] at h; cases h), fun m' h => (by rw [hnx] at h; cases h; exact hh)⟩ hp' (fun b o e nb => ch b o (chH b o e nb) nb) fo
end

/-! ## The law's own deeds -/
def optV : Option Int → V
  | none => .non
  | some i => .int i
def hold1 (o : Option Int) (z : Str) (due : Int) (M : Book) : Book := match o with
  | none => M
  | some k => if lev M k z ≠ due then setW k (put ltS z due) M else M
theorem held_one {U : List Str} {M1 : Book} (g : Good U M1) {m : Int} {c : CueC} (hc : get M1 m = some c) {z : Str} {D : Str → Int} (hD : ∀ l, l ≠ z → lev M1 m l = D l) : Held M1 m D (hold1 (some m) z (D z) M1) := by
  have hs := g.wsrt _ (g.at hc)
  have e : hold1 (some m) z (D z) M1 = setW m (fun _ => holdF (lev M1 m) D [z] c.words) M1 := by
    show (if lev M1 m z ≠ D z then setW m (put ltS z (D z)) M1 else M1) = _
    have e0 : holdF (lev M1 m) D [z] c.words = if lev M1 m z ≠ D z then put ltS z (D z) c.words else c.words := rfl
    rw [e0]
    by_cases h : lev M1 m z ≠ D z
    · rw [if_pos h, if_pos h]
      have := setW_same g hc
      conv => lhs; rw [← this, setW_setW]
    · rw [if_neg h, if_neg h, setW_same g hc]
  rw [e]
  exact ⟨c, _, hc, held_holdF hs fun l hl => hD l fun y => hl (y ▸ List.mem_singleton.mpr rfl), rfl⟩
theorem Held.ne {M : Book} {m : Int} {D : Str → Int} {M' : Book} (h : Held M m D M') : M' ≠ [] := by
  obtain ⟨c, ws, hc, _, rfl⟩ := h
  exact setW_ne hc
theorem Kept.ne {M M1 : Book} {n : Int} {M' : Book} (h : Kept M M1 n M') (h1 : M1 ≠ []) : M' ≠ [] := by
  cases z : nxt M n with
  | none => rw [h.1 z]; exact h1
  | some m => exact (h.2 m z).ne
theorem put_put {n : Int} {c c' : CueC} {M : Book} (h : Rising ltI M) : put ltI n c (put ltI n c' M) = put ltI n c M :=
  table_ext linI (rising_put linI _ _ (rising_put linI _ _ h)) (rising_put linI _ _ h) fun k => by
    rw [get_put, get_put, get_put]
    by_cases z : k = n
    · rw [if_pos z, if_pos z]
    · rw [if_neg z, if_neg z, if_neg z]
section
variable {K : PySem.W.Frag} {U : List Str} {NS : List Int} {H H' : Hp} {p dp dm : Addr} {ap am : Ads} {M Mm : Book} {Q : VK} {E : XK} {n : Int} {c : CueC} {z : Str} {v : Int}
theorem only_two (T : Two K U NS H p dp ap M dm am Mm) (hn : get M n = some c) (hz : z ∈ U) (hv : 0 ≤ v ∧ v ≤ 100)
    (q : ∀ H' M', Kept M (setW n (put ltS z v) M) n M' → Two K U NS H' p dp ap M' dm am Mm → Mv H (footT p dp ap M dm am Mm) H' (footT p dp ap M' dm am Mm) → Q .non H') : spOnly K [.ref p, .int n, .str z, .int v] H Q E := by
  have lz : lampV (.str z) = true := T.play.lamps.ok z hz
  have wv : wholeV 0 100 (.int v) = true := whole_of hv
  refine ⟨_, _, _, _, rfl, p, dp, ap, M, U, rfl, T.play, trivial, lampS_pl lz, trivial, fun h => absurd h (cue_some rfl hn), fun _ h => ?_, fun _ _ h => ?_, ?_⟩
  · rw [lz] at h; cases h
  · rw [wv] at h; cases h
  · rintro n' c' z' i e1 _ e2 e3 _ _
    cases e1; cases e2; cases e3
    refine ⟨hz, fun H' M' hk h' ch fo => ?_⟩
    obtain ⟨a, b⟩ := T.deed h' ch fun b hb => .inl (fo b hb)
    exact q H' M' hk a b
theorem lift_two (T : Two K U NS H p dp ap M dm am Mm) (hn : get M n = some c)
    (q : ∀ H' M', Kept M (del n M) n M' → Two K U NS H' p dp ap M' dm am Mm → Mv H (footT p dp ap M dm am Mm) H' (footT p dp ap M' dm am Mm) → Q .non H') : spLift K [.ref p, .int n] H Q E := by
  refine ⟨_, _, rfl, p, dp, ap, M, U, rfl, T.play, trivial, fun h => absurd h (cue_some rfl hn), ?_⟩
  rintro n' c' e1 _ H' M' hk h' ch fo
  cases e1
  obtain ⟨a, b⟩ := T.deed h' ch fun b hb => .inl (fo b hb)
  exact q H' M' hk a b
theorem cut_two (T : Two K U NS H p dp ap M dm am Mm) (hn : get M n = some c)
    (q : ∀ H', Two K U NS H' p dp ap (del n M) dm am Mm → Mv H (footT p dp ap M dm am Mm) H' (footT p dp ap (del n M) dm am Mm) → Q .non H') : spCut K [.ref p, .int n] H Q E := by
  refine ⟨_, _, rfl, p, dp, ap, M, U, rfl, T.play, trivial, fun h => absurd h (cue_some rfl hn), ?_⟩
  rintro n' c' e1 _ H' h' ch
  cases e1
  obtain ⟨a, b⟩ := T.deed h' ch fun b hb => .inl (footP_drop hb)
  exact q H' a b
/-- a word of the law's book -/
theorem Two.at (T : Two K U NS H p dp ap M dm am Mm) (hn : get Mm n = some c) : ∃ kvs kw, H dm = some (.dK kvs) ∧ DGet H dm (.int n) (some (V.ref (am n).1)) ∧ H (am n).1 = some (.lst [.int c.up, .int c.down, .bl c.fresh, .ref (am n).2]) ∧ H (am n).2 = some (.dK kw) ∧ WK kw c.words ∧ kw.length < sizeLine ∧ valV kvs (Sum.inl n) = some (V.ref (am n).1) := by
  obtain ⟨kvs, hd, tk⟩ := T.tab.top
  have hd : H dm = some (.dK kvs) := hd
  obtain ⟨kw, ew, wk⟩ := T.tab.wrd _ _ hn
  have hm := T.good.at hn
  refine ⟨kvs, kw, hd, tk.hit (.inl hd) hn, T.tab.recd hn, ew, wk, ?_, by rw [tk.vl, hn]; rfl⟩
  have : c.words.length ≤ 60 := T.good.few T.play.lamps hm
  rw [wk.len (T.good.wsrt _ hm), sizeLine_eq]; omega
theorem Two.obj (T : Two K U NS H p dp ap M dm am Mm) : ∃ dx, H p = some (.ins (He.ga K "Play") dx (playF dp)) := T.play.ob
theorem Two.set (T : Two K U NS H p dp ap M dm am Mm) (hn : get Mm n = some c) {kw : List (Key × V)} (wk : WK kw c.words) (hz : z ∈ U) (hv : 0 ≤ v ∧ v ≤ 100) :
    Two K U NS (upd H (am n).2 (.dK (putK kw (Sum.inr z) (.int v)))) p dp ap M dm am (setW n (put ltS z v) Mm) ∧ Mv H (footT p dp ap M dm am Mm) (upd H (am n).2 (.dK (putK kw (Sum.inr z) (.int v)))) (footT p dp ap M dm am (setW n (put ltS z v) Mm)) :=
  T.word hn (wk.put z v) (T.good.setW fun ws hs hw => wok_put hz hv.1 hv.2 hs hw)
end
section
variable {P : Program} {w : World} {K : PySem.W.Frag} {mg : Str → Option Value} {base : Heap}
def spLHold (K : PySem.W.Frag) : Sp := sp4 fun m n l d H Q _ => ∃ NS p dp ap M U dm am Mm o z due, m = .ref dm ∧ n = optV o ∧ l = .str z ∧ d = .int due ∧ Two K U NS H p dp ap M dm am Mm ∧ (∀ k, o = some k → ∃ c, get Mm k = some c) ∧ z ∈ U ∧ (0 ≤ due ∧ due ≤ 100) ∧
  ∀ H', Two K U NS H' p dp ap M dm am (hold1 o z due Mm) → Mv H (footT p dp ap M dm am Mm) H' (footT p dp ap M dm am (hold1 o z due Mm)) → Q .non H'
theorem sc__law_hold : FnScope ["_law_model", "_law_number", "_law_lamp", "_law_due"] ["_law_model", "_law_number", "_law_lamp", "_law_due"] (defScope s__law_hold) := ⟨rfl, rfl, rfl, by decide +kernel, rfl, by decide +kernel, by decide +kernel⟩
theorem d__law_hold (T : Txt K mg) : Def P w K mg base 2 "_law_hold" ["_law_model", "_law_number", "_law_lamp", "_law_due"] (spLHold K) := by
  have d__law_level := d__law_level (P := P) (w := w) (base := base) T
  refine mkDef T.d__law_hold T.g__law_hold sc__law_hold (fun _ _ _ _ _ _ us hl => match us, hl with | [_, _, _, _], _ => rfl) len4 (BodyN.up fun cdv A outer s H vs Q E hr h => ?_)
  obtain ⟨_, _, _, _, rfl, NS, p, dp, ap, M, U, dm, am, Mm, o, z, due, rfl, rfl, rfl, rfl, hT, ho, hz, hd, q⟩ := h
  have hu := hu_of hr
  refine ⟨_, (pss_one (ps_if (PW.pt (pw_and (pt_cmpR op_notN (pv 1) pe_non (nomark _)) (pw_and1 (pt_cmpR op_ne (pe_fn d__law_level (hr.mono (by decide)) (by rfl) passL (pa_cons (pv 0) (pa_cons (pv 1) (pa_cons (pv 2) pa_nil)))) (pv 3) (nomark _)))))
    (pss_one (ps_dput hu (pe_ix ix_list (pe_dget (by exact hu) (pv 0) (pv 1) (fun _ _ => rfl)) pe_int (fun _ _ => rfl)) (pv 2) (pv 3) rfl))
    pss_nil)), ?_⟩
  cases o with
  | none => exact ⟨_, rfl, rfl, _, rfl, iteF (q H hT Mv.refl)⟩
  | some k =>
    obtain ⟨c, hc⟩ := ho k rfl
    refine ⟨_, rfl, rfl, _, rfl, iteT ⟨_, rfl, _, rfl, _, rfl, _, _, _, rfl, none, dm, am, Mm, U, k, z, rfl, rfl, rfl, hT.tab, hT.good, fun H1 s1 => ⟨_, rfl, rfl, _, rfl, ite2 (fun c1 => ?_) (fun c1 => ?_)⟩⟩⟩
    · have c1 := ne_int c1
      have T1 := hT.same s1
      obtain ⟨kvs, kw, d1, d2, d3, d4, d5, d6, _⟩ := T1.at hc
      refine ⟨_, rfl, _, rfl, _, rfl, dm, _, rfl, d2, _, _, _, _, rfl, rfl, .inl (.inl d3), rfl, _, rfl, _, _, rfl, DPut.k (k := Sum.inr z) d4 d6, ?_⟩
      obtain ⟨T2, m2⟩ := T1.set hc d5 hz hd
      have e : hold1 (some k) z due Mm = setW k (put ltS z due) Mm := if_pos c1
      rw [e] at q
      exact q _ T2 ((Mv.same s1).trans m2)
    · have c1 := eq_int c1
      have e : hold1 (some k) z due Mm = Mm := if_neg fun y => y c1
      rw [e] at q
      exact q _ (hT.same s1) (Mv.same s1)
def spLBehind : Sp := sp2 fun m n H Q _ => ∃ lk d ad M U i, m = .ref d ∧ n = .int i ∧ TabAt RcM lk H d ad M ∧ Good U M ∧ ∀ H', Same H H' → Q (optV (nxt M i)) H'
theorem sc__law_behind : FnScope ["_law_model", "_law_number", "_law_some", "_law_one"] ["_law_model", "_law_number"] (defScope s__law_behind) := ⟨rfl, rfl, rfl, by decide +kernel, rfl, by decide +kernel, by decide +kernel⟩
theorem d__law_behind (T : Txt K mg) : Def P w K mg base 1 "_law_behind" ["_law_model", "_law_number"] (spLBehind) := by
  refine mkDef T.d__law_behind T.g__law_behind sc__law_behind (fun _ _ _ _ _ _ us hl => match us, hl with | [_, _], _ => rfl) len2 (BodyN.up fun cdv A outer s H vs Q E hr h => ?_)
  obtain ⟨_, _, rfl, lk, d, ad, M, U, n, rfl, rfl, hT, g, q⟩ := h
  have hu := hu_of hr
  refine ⟨_, (pss_cons (ps_setLc (i := 2) (own := [("_law_one", 3)]) rfl sc__law_behind.nd rfl rfl (sw_true rfl rfl rfl (by decide +kernel)) (pi_list (pe_callB (call_sortedDA rfl) (by rfl) T.z_sorted (by decide +kernel) (pa_cons (pv 0) pa_nil))) (blkOk_by (own := [("_law_one", 3)]) (N := ["_law_model", "_law_number", "_law_some", "_law_one"]) (sc := defScope s__law_behind) (by decide +kernel)) (fun _ _ _ _ _ => pg_name (i := 3) sc__law_behind.nd rfl (Or.inl rfl)) (fun _ _ _ _ _ => (pts_one (pt_cmpR op_gt (pv 3) (pv 1) (nomark _)))) (fun _ _ _ _ _ => (pv 3)))
    (pss_one (ps_ret (pe_ifExp (pt_cmpR (op_neD hr.units) (pv 2) (pe_lst pa_nil) (nomark _)) (pe_ix ix_list (pv 2) pe_int (fun _ _ => rfl)) pe_non)))), ?_⟩
  obtain ⟨kvs, rd, tk⟩ := hT.topR
  obtain ⟨ns, hk, _, _⟩ := tk.keys
  refine ⟨_, rfl, d, kvs, ns, rfl, rd, hk, fun ys l hp1 hp2 nl => ?_⟩
  rw [tk.sorted g.srt hk hp1 hp2]
  have s1 := same_upd (o := HO.lst ((M.map (·.1)).map V.int)) nl
  refine ⟨l, rfl, ⟨_, .inl (.inl upd_same)⟩, fun D nD => ?_⟩
  refine lc_pure (walk_list (K := K) (a := l) (xs := nums M)) nD (fun v => match v with | .int i => decide (n < i) | _ => false) id ?_ (fun _ => rfl) (fun H5 s5 => .inl (.inl (s5 _ _ upd_same))) ?_ ?_ ?_
  · have := g.len
    simp only [nums, List.length_map, sizeLine_eq]; omega
  · intro v hv H5 s5 Q' k
    obtain ⟨i, _, rfl⟩ := List.mem_map.mp hv
    exact ⟨_, rfl, _, rfl, _, _, rfl, rfl, _, rfl, k H5 (Same.refl _)⟩
  · exact fun v _ _ H5 s5 Q' k => ⟨_, rfl, k H5 (Same.refl _)⟩
  · intro H5 s5 hD
    have hf := nums_filter M n (fun v => match v with | .int i => decide (n < i) | _ => false) fun _ => rfl
    rw [List.map_id] at hD
    have hall : ∀ x ∈ (nums M).filter (fun v => match v with | .int i => decide (n < i) | _ => false), okV x = true := fun x hx => by
      obtain ⟨i, _, rfl⟩ := List.mem_map.mp (List.mem_filter.mp hx).1
      rfl
    generalize (nums M).filter (fun v => match v with | .int i => decide (n < i) | _ => false) = F at hD hf hall
    refine ⟨_, rfl, by simp, fun e ne => ?_⟩
    have s2 := same_upd (o := HO.lst []) ne
    have eD := s2 _ _ hD
    cases F with
    | nil =>
      refine neD_nil (ds := []) (dat_lst (K := K) (xs := []) (.inl (.inl eD)) (by simp)) upd_same (by decide) ⟨_, rfl, iteF ?_⟩
      have : nxt M n = none := by
        cases z : nxt M n with
        | none => rfl
        | some i => rw [z] at hf; simp at hf
      rw [this] at q
      exact q _ (s1.trans (s5.trans s2))
    | cons x r =>
      obtain ⟨i, hi, rfl⟩ : ∃ i, nxt M n = some i ∧ x = .int i := by
        cases z : nxt M n with
        | none => rw [z] at hf; simp at hf
        | some i => rw [z] at hf; exact ⟨i, rfl, by simpa using hf⟩
      refine neD_nil (dat_lst (K := K) (.inl (.inl eD)) hall) upd_same (by decide) ⟨_, rfl, iteY rfl ⟨_, rfl, _, _, _, _, rfl, rfl, .inl (.inl eD), show atI (V.int i :: r) 0 = some (.int i) from atI_nat (j := 0) rfl, ?_⟩⟩
      rw [hi] at q
      exact q _ (s1.trans (s5.trans s2))
end

section
variable {P : Program} {w : World} {K : PySem.W.Frag} {mg : Str → Option Value} {base : Heap}
def spLPut (K : PySem.W.Frag) : Sp := sp4 fun a m n x H Q _ => ∃ NS p dp ap M U dm am i mx, a = .ref p ∧ m = .ref dm ∧ n = .int i ∧ x = .int mx ∧ Two K U NS H p dp ap M dm am M ∧ get M i = none ∧ i ∈ NS ∧ NS.length ≤ 9 ∧ (1 ≤ i ∧ i ≤ 999999) ∧ 0 ≤ mx ∧
  ∀ H' ap' am' M', Two K U NS H' p dp ap' M' dm am' M' → Mv H (footT p dp ap M dm am M) H' (footT p dp ap' M' dm am' M') → M' ≠ [] → Q .non H'
theorem sc__law_put : FnScope ["_law_play", "_law_model", "_law_number", "_law_mix", "_law_up", "_law_down", "_law_fresh"] ["_law_play", "_law_model", "_law_number", "_law_mix"] (defScope s__law_put) := ⟨rfl, rfl, rfl, by decide +kernel, rfl, by decide +kernel, by decide +kernel⟩
theorem d__law_put (T : Txt K mg) : Def P w K mg base 4 "_law_put" ["_law_play", "_law_model", "_law_number", "_law_mix"] (spLPut K) := by
  have d_Play_put := d_Play_put (P := P) (w := w) (base := base) T
  obtain d_Play_put_2 := d_Play_put_2 (P := P) (w := w) (base := base) T
  refine mkDef T.d__law_put T.g__law_put sc__law_put (fun _ _ _ _ _ _ us hl => match us, hl with | [_, _, _, _], _ => rfl) len4 (BodyN.up fun cdv A outer s H vs Q E hr h => ?_)
  obtain ⟨_, _, _, _, rfl, NS, p, dp, ap, M, U, dm, am, n, x, rfl, rfl, rfl, rfl, hT, hg, hn, hNS, hb, hx, q⟩ := h
  have hu := hu_of hr
  refine ⟨_, (pss_cons (ps_set (i := 4) sc__law_put.nd rfl (Or.inl rfl) (pe_ix ix_list (pe_lst (pa_cons pe_int (pa_cons pe_int (pa_cons (pe_op op_mod (pv 3) pe_int) (pa_cons pe_int pa_nil))))) (pe_op op_mod (pe_op op_fdiv (pv 3) pe_int) pe_int) (fun _ _ => rfl)))
    (pss_cons (ps_set (i := 5) sc__law_put.nd rfl (Or.inl rfl) (pe_ix ix_list (pe_lst (pa_cons pe_int (pa_cons pe_int (pa_cons (pe_op op_mod (pe_op op_fdiv (pv 3) pe_int) pe_int) (pa_cons pe_int pa_nil))))) (pe_op op_mod (pe_op op_fdiv (pv 3) pe_int) pe_int) (fun _ _ => rfl)))
    (pss_cons (ps_set (i := 6) sc__law_put.nd rfl (Or.inl rfl) (pe_cmpR op_eq (pe_op op_mod (pe_op op_fdiv (pv 3) pe_int) pe_int) pe_int (nomark _)))
    (pss_cons (ps_dput hu (pv 1) (pv 2) (pe_lst (pa_cons (pv 4) (pa_cons (pv 5) (pa_cons (pv 6) (pa_cons pe_dnewK pa_nil))))) rfl)
    (pss_cons (ps_if (PW.pt (pw_and (pt_cmpR op_eq (pe_op op_mod (pe_op op_fdiv (pv 3) pe_int) pe_int) pe_int (nomark _)) (pw_and1 (pt_not (pt_val (pv 6))))))
    (pss_cons (ps_dput hu (pv 1) (pv 2) (pe_lst (pa_cons (pv 4) (pa_cons pe_int (pa_cons pe_bl (pa_cons pe_dnewK pa_nil))))) rfl)
    (pss_one (ps_ret (pe_mt T.c_Play d_Play_put_2 (hr.mono (by decide)) passL (pv 0) (pa_cons (pv 2) (pa_cons (pv 4) pa_nil))))))
    pss_nil)
    (pss_one (ps_ret (pe_mt T.c_Play d_Play_put (hr.mono (by decide)) passL (pv 0) (pa_cons (pv 2) (pa_cons (pv 4) (pa_cons (pv 5) (pa_cons (pv 6) pa_nil)))))))))))), ?_⟩
  have hlen := hT.few hNS
  obtain ⟨u, hu1, hu2⟩ := draw_at (f := V.int) (xs := [0, 1, x % 6001, 6000]) (m := 4) rfl (i := x / 7 % 4) (by omega) (by omega)
  obtain ⟨d, hd1, hd2⟩ := draw_at (f := V.int) (xs := [0, 1, x / 11 % 6001, 6000]) (m := 4) rfl (i := x / 13 % 4) (by omega) (by omega)
  have hu0 : 0 ≤ u ∧ u ≤ 6000 := by
    simp only [List.mem_cons, List.not_mem_nil, or_false] at hu1; omega
  have hd0 : 0 ≤ d ∧ d ≤ 6000 := by
    simp only [List.mem_cons, List.not_mem_nil, or_false] at hd1; omega
  refine ⟨_, rfl, _, _, rfl, rfl, by simp, by simp [sizeLine_eq], fun l1 n1 => ⟨_, rfl, _, _, rfl, rfl, ⟨by decide, by decide⟩, _, _, rfl, rfl, by simp, _, _, _, _, rfl, rfl, .inl (.inl upd_same), hu2, ?_⟩⟩
  have s1 := same_upd (o := HO.lst [.int 0, .int 1, .int (x % 6001), .int 6000]) n1
  refine ⟨_, rfl, _, _, rfl, rfl, ⟨by decide, by decide⟩, _, _, rfl, rfl, by simp, by simp [sizeLine_eq], fun l2 n2 => ⟨_, rfl, _, _, rfl, rfl, ⟨by decide, by decide⟩, _, _, rfl, rfl, by simp, _, _, _, _, rfl, rfl, .inl (.inl upd_same), hd2, ?_⟩⟩
  have s2 := s1.trans (same_upd (o := HO.lst [.int 0, .int 1, .int (x / 11 % 6001), .int 6000]) n2)
  refine ⟨_, rfl, _, _, rfl, rfl, ⟨by decide, by decide⟩, _, _, rfl, rfl, by simp, rfl, ?_⟩
  have T2 := hT.same s2
  obtain ⟨kvs, e2, tk⟩ := T2.tab.top
  have e2 : _ = some (HO.dK kvs) := e2
  have tl := tk.len hT.good.srt
  refine ⟨_, rfl, _, rfl, _, rfl, fun w1 nw => ⟨by simp [sizeLine_eq], fun r nr => ⟨_, rfl, _, rfl, dm, _, rfl, DPut.k (kvs := kvs) (k := Sum.inl n) ?_ (by rw [sizeLine_eq]; omega), ?_⟩⟩⟩
  · rw [upd_ne (ne_of_none (same_upd nw _ _ e2) nr), upd_ne (ne_of_none e2 nw)]; exact e2
  obtain ⟨T3, m3⟩ := add_two (u := u) (d := d) (f := decide (V.int (x / 17 % 4) = V.int 0)) T2 e2 nw nr hb hn ⟨hu0.1, hu0.2, hd0.1, hd0.2⟩ (by omega)
  obtain ⟨dx3, k3⟩ := T3.obj
  have m03 := (Mv.same s2).trans m3
  have late : ∀ E, spPut K [.ref p, .int n, .int u, .int d, .bl (decide (V.int (x / 17 % 4) = V.int 0))] _ Q E := fun E => put_two (E := E) T3 hg hb ⟨hu0.1, hu0.2, hd0.1, hd0.2⟩ (by omega) fun H' ap' T4 m4 => q H' _ _ _ T4 (m03.trans m4) put_ne
  refine ⟨_, rfl, _, _, rfl, rfl, ⟨by decide, by decide⟩, _, _, rfl, rfl, by simp, rfl, _, rfl, ite2 (fun c1 => ?_) (fun c1 => ?_)⟩
  · refine ⟨_, rfl, _, rfl, ite2 (fun c2 => ?_) (fun c2 => ?_)⟩
    · clear late
      obtain ⟨kv3, e3, tk3⟩ := T3.tab.top
      have e3 : _ = some (HO.dK kv3) := e3
      have tl3 := tk3.len T3.good.srt
      have hlen3 := T3.few hNS
      refine ⟨_, rfl, fun w2 nw2 => ⟨by simp [sizeLine_eq], fun r2 nr2 => ⟨_, rfl, _, rfl, dm, _, rfl, DPut.k (kvs := kv3) (k := Sum.inl n) ?_ (by rw [sizeLine_eq]; omega), ?_⟩⟩⟩
      · rw [upd_ne (ne_of_none (same_upd nw2 _ _ e3) nr2), upd_ne (ne_of_none e3 nw2)]; exact e3
      obtain ⟨T4, m4⟩ := add_two (u := u) (d := 0) (f := false) T3 e3 nw2 nr2 hb hn ⟨hu0.1, hu0.2, by decide, by decide⟩ (by omega)
      rw [put_put hT.good.srt] at T4 m4
      obtain ⟨dx4, k4⟩ := T4.obj
      refine ⟨_, rfl, _, _, _, rfl, k4, playF_no (by decide +kernel), _, rfl, _, rfl, ?_⟩
      exact put_two T4 hg hb ⟨hu0.1, hu0.2, by decide, by decide⟩ (by omega) fun H' ap' T5 m5 => q H' _ _ _ T5 (m03.trans (m4.trans m5)) put_ne
    · exact ⟨_, rfl, _, _, _, rfl, k3, playF_no (by decide +kernel), _, rfl, _, rfl, _, rfl, _, rfl, late _⟩
  · exact ⟨_, rfl, _, _, _, rfl, k3, playF_no (by decide +kernel), _, rfl, _, rfl, _, rfl, _, rfl, late _⟩
def spLOnly (K : PySem.W.Frag) : Sp := sp5 fun a m n l x H Q _ => ∃ NS p dp ap M U dm am i z v c, a = .ref p ∧ m = .ref dm ∧ n = .int i ∧ l = .str z ∧ x = .int v ∧ Two K U NS H p dp ap M dm am M ∧ get M i = some c ∧ z ∈ U ∧ (0 ≤ v ∧ v ≤ 100) ∧
  ∀ H' M', Kept M (setW i (put ltS z v) M) i M' → Two K U NS H' p dp ap M' dm am M' → Mv H (footT p dp ap M dm am M) H' (footT p dp ap M' dm am M') → Q .non H'
theorem sc__law_only : FnScope ["_law_play", "_law_model", "_law_number", "_law_lamp", "_law_level_here", "_law_after", "_law_due"] ["_law_play", "_law_model", "_law_number", "_law_lamp", "_law_level_here"] (defScope s__law_only) := ⟨rfl, rfl, rfl, by decide +kernel, rfl, by decide +kernel, by decide +kernel⟩
theorem d__law_only (T : Txt K mg) : Def P w K mg base 7 "_law_only" ["_law_play", "_law_model", "_law_number", "_law_lamp", "_law_level_here"] (spLOnly K) := by
  have d__law_behind := d__law_behind (P := P) (w := w) (base := base) T
  have d__law_hold := d__law_hold (P := P) (w := w) (base := base) T
  have d_Play_only := d_Play_only (P := P) (w := w) (base := base) T
  have d__law_level := d__law_level (P := P) (w := w) (base := base) T
  refine mkDef T.d__law_only T.g__law_only sc__law_only (fun _ _ _ _ _ _ us hl => match us, hl with | [_, _, _, _, _], _ => rfl) len5 (BodyN.up fun cdv A outer s H vs Q E hr h => ?_)
  obtain ⟨_, _, _, _, _, rfl, NS, p, dp, ap, M, U, dm, am, n, z, v, c, rfl, rfl, rfl, rfl, rfl, hT, hn, hz, hv, q⟩ := h
  have hu := hu_of hr
  refine ⟨_, (pss_cons (ps_set (i := 5) sc__law_only.nd rfl (Or.inl rfl) (pe_fn d__law_behind (hr.mono (by decide)) (by rfl) passL (pa_cons (pv 1) (pa_cons (pv 2) pa_nil))))
    (pss_cons (ps_set (i := 6) sc__law_only.nd rfl (Or.inl rfl) (pe_ifExp (pt_cmpR op_isN (pv 5) pe_non (nomark _)) pe_int (pe_fn d__law_level (hr.mono (by decide)) (by rfl) passL (pa_cons (pv 1) (pa_cons (pv 5) (pa_cons (pv 3) pa_nil))))))
    (pss_cons (ps_dput hu (pe_ix ix_list (pe_dget (by exact hu) (pv 1) (pv 2) (fun _ _ => rfl)) pe_int (fun _ _ => rfl)) (pv 3) (pv 4) rfl)
    (pss_cons (ps_expr (pe_fn d__law_hold (hr.mono (by decide)) (by rfl) passL (pa_cons (pv 1) (pa_cons (pv 5) (pa_cons (pv 3) (pa_cons (pv 6) pa_nil))))))
    (pss_one (ps_ret (pe_mt T.c_Play d_Play_only (hr.mono (by decide)) passL (pv 0) (pa_cons (pv 2) (pa_cons (pv 3) (pa_cons (pv 4) pa_nil)))))))))), ?_⟩
  refine ⟨_, rfl, _, rfl, _, _, rfl, none, dm, am, M, U, n, rfl, rfl, hT.tab, hT.good, fun H1 s1 => ?_⟩
  have T1 := hT.same s1
  have g := hT.good
  obtain ⟨dx, ob1⟩ := T1.obj
  have fin : ∀ (H2 : Hp) (due : Int), Same H1 H2 → (match nxt M n with | none => due = 0 | some m => due = lev M m z) → ∃ kvs kw, H2 dm = some (.dK kvs) ∧ DGet H2 dm (.int n) (some (V.ref (am n).1)) ∧ H2 (am n).1 = some (.lst [.int c.up, .int c.down, .bl c.fresh, .ref (am n).2]) ∧ H2 (am n).2 = some (.dK kw) ∧ kw.length < sizeLine ∧
      ∃ Mm, Two K U NS (upd H2 (am n).2 (.dK (putK kw (Sum.inr z) (.int v)))) p dp ap M dm am (setW n (put ltS z v) M) ∧ Mv H (footT p dp ap M dm am M) (upd H2 (am n).2 (.dK (putK kw (Sum.inr z) (.int v)))) (footT p dp ap M dm am (setW n (put ltS z v) M)) ∧ (∀ k, nxt M n = some k → ∃ c, get (setW n (put ltS z v) M) k = some c) ∧ (0 ≤ due ∧ due ≤ 100) ∧ hold1 (nxt M n) z due (setW n (put ltS z v) M) = Mm ∧ Kept M (setW n (put ltS z v) M) n Mm := by
    intro H2 due s2 hdue
    obtain ⟨kvs, kw, a1, a2, a3, a4, a5, a6, _⟩ := (T1.same s2).at hn
    obtain ⟨T3, m3⟩ := (T1.same s2).set hn a5 hz hv
    have hex : ∀ k, nxt M n = some k → ∃ c, get (setW n (put ltS z v) M) k = some c := fun k hk => by
      obtain ⟨ck, hck⟩ := nxt_get hk
      have : k ≠ n := by have := (nxt_mem hk).2; omega
      exact ⟨ck, by rw [get_setW, if_neg this]; exact hck⟩
    refine ⟨kvs, kw, a1, a2, a3, a4, a6, _, T3, (Mv.same (s1.trans s2)).trans m3, hex, ?_, rfl, ?_⟩
    · cases hk : nxt M n with
      | none => rw [hk] at hdue; have hdue : due = 0 := hdue; omega
      | some k => rw [hk] at hdue; have hdue : due = lev M k z := hdue; rw [hdue]; exact lev_range g k z
    · cases hk : nxt M n with
      | none => exact ⟨fun _ => rfl, fun m h => by rw [hk] at h; cases h⟩
      | some k =>
        rw [hk] at hdue
        have hdue : due = lev M k z := hdue
        obtain ⟨ck, hck⟩ := hex k hk
        refine ⟨fun h => (by rw [hk] at h; cases h), fun m h => ?_⟩
        rw [hk] at h
        cases h
        rw [hdue]
        exact held_one T3.good hck fun l hl => lev_setW_eq g T3.good (fun c _ => by rw [get_put, if_neg hl]) k
  have rest : ∀ (H2 : Hp) (due : Int), Same H1 H2 → (match nxt M n with | none => due = 0 | some m => due = lev M m z) → ∃ (kvs kw : List (Key × V)), H2 dm = some (.dK kvs) ∧ DGet H2 dm (.int n) (some (V.ref (am n).1)) ∧ H2 (am n).1 = some (.lst [.int c.up, .int c.down, .bl c.fresh, .ref (am n).2]) ∧ H2 (am n).2 = some (.dK kw) ∧ kw.length < sizeLine ∧
      ∀ Q1 : VK, (∀ H3, (∃ dx, H3 p = some (.ins (He.ga K "Play") dx (playF dp))) → (∀ E, spOnly K [.ref p, .int n, .str z, .int v] H3 Q E) → Q1 .non H3) → spLHold K [.ref dm, optV (nxt M n), .str z, .int due] (upd H2 (am n).2 (.dK (putK kw (Sum.inr z) (.int v)))) Q1 fun _ _ _ => False := by
    intro H2 due s2 hdue
    obtain ⟨kvs, kw, a1, a2, a3, a4, a6, Mm, T3, m3, hex, hb, hM, hk⟩ := fin H2 due s2 hdue
    refine ⟨kvs, kw, a1, a2, a3, a4, a6, fun Q1 q1 => ⟨_, _, _, _, rfl, NS, p, dp, ap, M, U, dm, am, _, nxt M n, z, due, rfl, rfl, rfl, rfl, T3, hex, hz, hb, fun H4 T4 m4 => ?_⟩⟩
    rw [hM] at T4 m4
    refine q1 H4 T4.obj fun E => only_two T4 hn hz hv fun H5 M' hk' T5 m5 => ?_
    have e := hk'.uniq hk
    subst e
    exact q H5 M' hk T5 (m3.trans (m4.trans m5))
  cases hk : nxt M n with
  | none =>
    rw [hk] at rest
    obtain ⟨kvs, kw, a1, a2, a3, a4, a6, r⟩ := rest H1 0 (Same.refl _) rfl
    refine ⟨_, rfl, rfl, _, rfl, iteT ?_⟩
    refine ⟨_, rfl, _, rfl, _, rfl, dm, _, rfl, a2, _, _, _, _, rfl, rfl, .inl (.inl a3), rfl, _, rfl, _, _, rfl, DPut.k (k := Sum.inr z) a4 a6, ?_⟩
    refine ⟨_, rfl, _, rfl, _, rfl, _, rfl, r _ fun H3 ⟨dx3, o3⟩ h3 => ?_⟩
    exact ⟨_, rfl, _, _, _, rfl, o3, playF_no (by decide +kernel), _, rfl, _, rfl, _, rfl, h3 _⟩
  | some m =>
    rw [hk] at rest
    refine ⟨_, rfl, rfl, _, rfl, iteF ⟨_, rfl, _, rfl, _, rfl, _, _, _, rfl, none, dm, am, M, U, m, z, rfl, rfl, rfl, T1.tab, g, fun H2 s2 => ?_⟩⟩
    obtain ⟨kvs, kw, a1, a2, a3, a4, a6, r⟩ := rest H2 (lev M m z) s2 rfl
    refine ⟨_, rfl, _, rfl, _, rfl, dm, _, rfl, a2, _, _, _, _, rfl, rfl, .inl (.inl a3), rfl, _, rfl, _, _, rfl, DPut.k (k := Sum.inr z) a4 a6, ?_⟩
    refine ⟨_, rfl, _, rfl, _, rfl, _, rfl, r _ fun H3 ⟨dx3, o3⟩ h3 => ?_⟩
    exact ⟨_, rfl, _, _, _, rfl, o3, playF_no (by decide +kernel), _, rfl, _, rfl, _, rfl, h3 _⟩
end

theorem ite_share {c A B : Prop} [Decidable c] (hB : B) (hA : c → B → A) : if c then A else B := by
  by_cases h : c
  · rw [if_pos h]; exact hA h hB
  · rw [if_neg h]; exact hB
def due0 (M : Book) (n : Int) (z : Str) : Int := match nxt M n with
  | none => 0
  | some k => lev M k z
theorem due0_range {U : List Str} {M : Book} (g : Good U M) (n : Int) (z : Str) : 0 ≤ due0 M n z ∧ due0 M n z ≤ 100 := by
  unfold due0
  cases nxt M n with
  | none => exact ⟨Int.le_refl 0, show (0 : Int) ≤ 100 by decide⟩
  | some k => exact lev_range g k z
theorem lift_steps {U : List Str} {M : Book} (g : Good U M) (nd : U.Nodup) (n : Int) : ∃ Mi : Nat → Book, Mi 0 = del n M ∧ (∀ i z, U[i]? = some z → hold1 (nxt M n) z (due0 M n z) (Mi i) = Mi (i + 1)) ∧ Kept M (del n M) n (Mi U.length) ∧ ∀ i k, nxt M n = some k → ∃ c, get (Mi i) k = some c := by
  unfold due0
  cases hk : nxt M n with
  | none => exact ⟨fun _ => del n M, rfl, fun _ _ _ => rfl, ⟨fun _ => rfl, fun m h => by rw [hk] at h; cases h⟩, fun i k h => by cases h⟩
  | some k =>
    have kn : k ≠ n := by have := (nxt_mem hk).2; omega
    obtain ⟨c, hc0⟩ := nxt_get hk
    have hc : get (del n M) k = some c := by rw [get_del_ne kn]; exact hc0
    have g1 := g.del n
    have hs := g1.wsrt _ (g1.at hc)
    have hw := g1.wrd _ (g1.at hc)
    have hD : ∀ l, 0 ≤ lev M k l ∧ lev M k l ≤ 100 := fun l => lev_range g k l
    refine ⟨fun i => setW k (fun _ => holdF (lev (del n M) k) (lev M k) (U.take i) c.words) (del n M), ?_, fun i z hz => ?_, ⟨fun h => (by rw [hk] at h; cases h), fun m h => ?_⟩, fun i j h => ?_⟩
    · exact setW_same g1 hc
    · have nz : z ∉ U.take i := fun h => by
        have := nd.sublist (List.take_sublist (i + 1) U)
        rw [take_snoc hz, List.nodup_append] at this
        exact this.2.2 z h z (by simp) rfl
      have gi : Good U (setW k (fun _ => holdF (lev (del n M) k) (lev M k) (U.take i) c.words) (del n M)) := g1.setW fun _ _ _ => wok_holdF (fun l hl => List.mem_of_mem_take hl) hD hs hw
      have el : lev (setW k (fun _ => holdF (lev (del n M) k) (lev M k) (U.take i) c.words) (del n M)) k z = lev (del n M) k z := lev_setW_eq g1 gi (fun c' hc' => by
        rw [hc] at hc'
        cases hc'
        rw [get_holdF, if_neg fun y => nz y.1]) k
      show (if lev (setW k (fun _ => holdF (lev (del n M) k) (lev M k) (U.take i) c.words) (del n M)) k z ≠ lev M k z then _ else _) = _
      rw [el]
      show _ = setW k (fun _ => holdF (lev (del n M) k) (lev M k) (U.take (i + 1)) c.words) (del n M)
      rw [take_snoc hz, holdF_snoc]
      by_cases y : lev (del n M) k z ≠ lev M k z
      · rw [if_pos y, if_pos y, setW_setW]
      · rw [if_neg y, if_neg y]
    · rw [hk] at h
      cases h
      show Held _ _ _ (setW k (fun _ => holdF (lev (del n M) k) (lev M k) (U.take U.length) c.words) (del n M))
      rw [List.take_length]
      exact ⟨c, _, hc, held_holdF hs fun l hl => by rw [lev_out g1 k hl, lev_out g k hl], rfl⟩
    · cases h
      exact ⟨_, get_setW_const hc _⟩
section
variable {P : Program} {w : World} {K : PySem.W.Frag} {mg : Str → Option Value} {base : Heap}
def spLLift (K : PySem.W.Frag) : Sp := sp4 fun a m n l H Q _ => ∃ NS p dp ap M U dm am i ls c, a = .ref p ∧ m = .ref dm ∧ n = .int i ∧ l = .ref ls ∧ Two K U NS H p dp ap M dm am M ∧ get M i = some c ∧ U.Nodup ∧ H ls = some (.lst (U.map V.str)) ∧ ¬ footT p dp ap M dm am M ls ∧
  ∀ H' M', Kept M (del i M) i M' → Two K U NS H' p dp ap M' dm am M' → Mv H (footT p dp ap M dm am M) H' (footT p dp ap M' dm am M') → Q .non H'
theorem sc__law_lift : FnScope ["_law_play", "_law_model", "_law_number", "_law_lamps_here", "_law_after", "_law_dues", "_law_lamp", "_law_due"] ["_law_play", "_law_model", "_law_number", "_law_lamps_here"] (defScope s__law_lift) := ⟨rfl, rfl, rfl, by decide +kernel, rfl, by decide +kernel, by decide +kernel⟩
theorem d__law_lift (T : Txt K mg) : Def P w K mg base 7 "_law_lift" ["_law_play", "_law_model", "_law_number", "_law_lamps_here"] (spLLift K) := by
  have d__law_behind := d__law_behind (P := P) (w := w) (base := base) T
  have d_Play_lift := d_Play_lift (P := P) (w := w) (base := base) T
  have d__law_hold := d__law_hold (P := P) (w := w) (base := base) T
  have d__law_level := d__law_level (P := P) (w := w) (base := base) T
  refine mkDef T.d__law_lift T.g__law_lift sc__law_lift (fun _ _ _ _ _ _ us hl => match us, hl with | [_, _, _, _], _ => rfl) len4 (BodyN.up fun cdv A outer s H vs Q E hr h => ?_)
  obtain ⟨_, _, _, _, rfl, NS, p, dp, ap, M, U, dm, am, n, ls, c, rfl, rfl, rfl, rfl, hT, hn, nd, hls, nls, q⟩ := h
  have hu := hu_of hr
  refine ⟨_, (pss_cons (ps_set (i := 4) sc__law_lift.nd rfl (Or.inr rfl) (pe_fn d__law_behind (hr.mono (by decide)) (by rfl) passL (pa_cons (pv 1) (pa_cons (pv 2) pa_nil))))
    (pss_cons (ps_setLc (i := 5) (own := [("_law_lamp", 6)]) rfl sc__law_lift.nd rfl rfl (sw_true rfl rfl rfl (by decide +kernel)) (pi_list (pv 3)) (blkOk_by (own := [("_law_lamp", 6)]) (N := ["_law_play", "_law_model", "_law_number", "_law_lamps_here", "_law_after", "_law_dues", "_law_lamp", "_law_due"]) (sc := defScope s__law_lift) (by decide +kernel)) (fun _ _ _ _ _ => pg_name (i := 6) sc__law_lift.nd rfl (Or.inl rfl)) (fun _ _ _ _ _ => pts_nil) (fun _ _ _ _ _ => (pe_ifExp (pt_cmpR op_isN (pv 4) pe_non (nomark _)) pe_int (pe_fn d__law_level (hr.mono (by decide)) (by rfl) passL (pa_cons (pv 1) (pa_cons (pv 4) (pa_cons (pv 6) pa_nil)))))))
    (pss_cons (ps_expr (pe_dpop1 (pv 1) (pv 2) ⟨rfl, rfl, rfl, rfl⟩))
    (pss_cons (ps_for PassesOwn.never rfl (pi_zip (by rfl) T.z_zip (pa_cons (pv 3) (pa_cons (pv 5) pa_nil))) (pg_tup rfl (pgs_cons (pg_name (i := 6) sc__law_lift.nd rfl (Or.inl rfl)) (pgs_cons (pg_name (i := 7) sc__law_lift.nd rfl (Or.inl rfl)) pgs_nil)))
    (pss_one (ps_expr (pe_fn d__law_hold (hr.mono (by decide)) (by rfl) passL (pa_cons (pv 1) (pa_cons (pv 4) (pa_cons (pv 6) (pa_cons (pv 7) pa_nil))))))))
    (pss_one (ps_ret (pe_mt T.c_Play d_Play_lift (hr.mono (by decide)) passL (pv 0) (pa_cons (pv 2) pa_nil)))))))), ?_⟩
  have g := hT.good
  refine ⟨_, rfl, _, rfl, _, _, rfl, none, dm, am, M, U, n, rfl, rfl, hT.tab, g, fun H1 s1 => ?_⟩
  refine ⟨_, rfl, ls, rfl, ⟨_, .inl (.inl (s1 _ _ hls))⟩, fun D nD => ?_⟩
  refine lc_pure (walk_list (K := K) (a := ls) (xs := U.map V.str)) nD yes (fun v => match v with | .str z => .int (due0 M n z) | _ => .non) ?_ (fun _ => rfl) (fun H5 s5 => .inl (.inl (s5 _ _ (s1 _ _ hls)))) (fun x _ H _ Q' k => tt_yes x k) ?_ ?_
  · have := hT.play.lamps.few
    rw [List.length_map, sizeLine_eq]; omega
  · intro v hv _ H5 s5 Q' k
    obtain ⟨z, _, rfl⟩ := List.mem_map.mp hv
    have k : ∀ H', Same H5 H' → Q' (.int (due0 M n z)) H' := k
    unfold due0 at k
    cases hk : nxt M n with
    | none =>
      rw [hk] at k
      exact ⟨_, rfl, rfl, _, rfl, iteT (k H5 (Same.refl _))⟩
    | some m =>
      rw [hk] at k
      exact ⟨_, rfl, rfl, _, rfl, iteF ⟨_, rfl, _, rfl, _, rfl, _, _, _, rfl, none, dm, am, M, U, m, z, rfl, rfl, rfl, hT.tab.same (s1.trans s5), g, fun H6 s6 => k H6 s6⟩⟩
  · intro H2 s2 hD
    have s12 := s1.trans s2
    have T2 := hT.same s12
    obtain ⟨kvs, kw, d1, d2, d3, d4, d5, d6, d7⟩ := T2.at hn
    refine ⟨_, rfl, dm, rfl, .inl ⟨_, .inl d1⟩, _, rfl, kvs, Sum.inl n, .ref (am n).1, d1, rfl, d7, ?_⟩
    obtain ⟨T3, m3⟩ := T2.drop d1 (n := n)
    have nDF : ¬ footT p dp ap M dm am M D := fun h => by obtain ⟨o, e⟩ := hT.has h; rw [s1.free nD] at e; cases e
    obtain ⟨e3, n3⟩ := m3.keep (s12 _ _ hls) nls
    obtain ⟨eD, nD3⟩ := m3.keep hD nDF
    rw [filter_yes, List.map_map] at eD
    have m03 := (Mv.same s12).trans m3
    generalize upd H2 dm (.dK (dropK kvs (Sum.inl n))) = H3 at T3 m3 e3 eD m03
    obtain ⟨Mi, M0, hstep, hkept, hex⟩ := lift_steps g nd n
    refine ⟨_, rfl, _, rfl, ls, D, _, _, rfl, .inl (.inl e3), .inl (.inl eD), for_it (walk_zip (K := K) (a := ls) (b := D) (n := U.length) (by rw [List.length_map, List.length_map, Nat.min_self])) (fun i σ H' => ∃ v6 v7, σ = [some (.ref p), some (.ref dm), some (.int n), some (.ref ls), some (optV (nxt M n)), some (.ref D), v6, v7] ∧ Two K U NS H' p dp ap M dm am (Mi i) ∧ Mv H3 (footT p dp ap M dm am (del n M)) H' (footT p dp ap M dm am (Mi i))) ⟨none, none, rfl, by rw [M0]; exact T3, by rw [M0]; exact Mv.refl⟩ (fun i σ H' _ ⟨_, _, _, _, m⟩ => ⟨.inl (.inl (m.keep e3 n3).1), .inl (.inl (m.keep eD nD3).1)⟩) ?_ ?_⟩
    · rintro i y σ H4 H4' hi ⟨v6, v7, rfl, T4, m4⟩ ⟨t, xx, yy, rfl, nt, rfl, hxx, hyy⟩
      have hxx : (U.map V.str)[i]? = some xx := hxx
      have hyy : (U.map ((fun v => match v with | .str z => .int (due0 M n z) | _ => .non) ∘ V.str))[i]? = some yy := hyy
      rw [List.getElem?_map] at hxx hyy
      obtain ⟨z, hz, rfl⟩ := Option.map_eq_some_iff.mp hxx
      rw [hz] at hyy
      cases hyy
      have st := same_upd (o := HO.tup [.str z, .int (due0 M n z)]) nt
      refine ⟨t, _, rfl, .inl (.inl upd_same), rfl, _, _, rfl, _, _, rfl, rfl, ?_⟩
      refine ⟨_, rfl, _, rfl, _, rfl, _, rfl, _, _, _, _, rfl, NS, p, dp, ap, M, U, dm, am, Mi i, nxt M n, z, due0 M n z, rfl, rfl, rfl, rfl, T4.same st, fun k hk => hex i k hk, List.mem_of_getElem? hz, due0_range g n z, fun H5 T5 m5 => ?_⟩
      rw [hstep i z hz] at T5 m5
      exact ⟨_, _, rfl, T5, m4.trans ((Mv.same st).trans m5)⟩
    · rintro σ H4 ⟨v6, v7, rfl, T4, m4⟩
      obtain ⟨dx, ob⟩ := T4.obj
      refine ⟨_, rfl, _, _, _, rfl, ob, playF_no (by decide +kernel), _, rfl, ?_⟩
      refine lift_two T4 hn fun H5 M' hk' T5 m5 => ?_
      have e := hk'.uniq hkept
      subst e
      exact q H5 _ hkept T5 (m03.trans (m4.trans m5))
def spLDone (K : PySem.W.Frag) : Sp := sp5 fun a m b c x H Q _ => ∃ NS p dp ap M U dm am l1 l2 i, a = .ref p ∧ m = .ref dm ∧ b = .ref l1 ∧ c = .ref l2 ∧ x = .int i ∧ Two K U NS H p dp ap M dm am M ∧ U.length = 6 ∧ U.Nodup ∧ NS.length = 9 ∧ (∀ n ∈ NS, 1 ≤ n ∧ n ≤ 999999) ∧
  H l1 = some (.lst (U.map V.str)) ∧ ¬ footT p dp ap M dm am M l1 ∧ H l2 = some (.lst (NS.map V.int)) ∧ 0 ≤ i ∧ ∀ H' ap' am' M', Two K U NS H' p dp ap' M' dm am' M' → Mv H (footT p dp ap M dm am M) H' (footT p dp ap' M' dm am' M') → Q .non H'
theorem sc__law_done : FnScope ["_law_play", "_law_model", "_law_lamps_here", "_law_numbers_here", "_law_mix", "_law_number", "_law_lamp", "_law_level_here", "_law_way_here"] ["_law_play", "_law_model", "_law_lamps_here", "_law_numbers_here", "_law_mix"] (defScope s__law_done) := ⟨rfl, rfl, rfl, by decide +kernel, rfl, by decide +kernel, by decide +kernel⟩
theorem d__law_done (T : Txt K mg) : Def P w K mg base 8 "_law_done" ["_law_play", "_law_model", "_law_lamps_here", "_law_numbers_here", "_law_mix"] (spLDone K) := by
  have d_Play_tell := d_Play_tell (P := P) (w := w) (base := base) T
  have d__law_put := d__law_put (P := P) (w := w) (base := base) T
  have d__law_only := d__law_only (P := P) (w := w) (base := base) T
  have d_Play_untell := d_Play_untell (P := P) (w := w) (base := base) T
  have d_Play_cut := d_Play_cut (P := P) (w := w) (base := base) T
  have d__law_lift := d__law_lift (P := P) (w := w) (base := base) T
  refine mkDef T.d__law_done T.g__law_done sc__law_done (fun _ _ _ _ _ _ us hl => match us, hl with | [_, _, _, _, _], _ => rfl) len5 (BodyN.up fun cdv A outer s H vs Q E hr h => ?_)
  obtain ⟨_, _, _, _, _, rfl, NS, p, dp, ap, M, U, dm, am, l1, l2, x, rfl, rfl, rfl, rfl, rfl, hT, hU, nd, hNS, hb, h1, nl1, h2, hx, q⟩ := h
  have hu := hu_of hr
  refine ⟨_, (pss_cons (ps_set (i := 5) sc__law_done.nd rfl (Or.inl rfl) (pe_ix ix_list (pv 3) (pe_op op_mod (pe_op op_fdiv (pv 4) pe_int) pe_int) (fun _ _ => rfl)))
    (pss_cons (ps_set (i := 6) sc__law_done.nd rfl (Or.inl rfl) (pe_ix ix_list (pv 2) (pe_op op_mod (pe_op op_fdiv (pv 4) pe_int) pe_int) (fun _ _ => rfl)))
    (pss_cons (ps_set (i := 7) sc__law_done.nd rfl (Or.inl rfl) (pe_ix ix_list (pe_lst (pa_cons pe_int (pa_cons pe_int (pa_cons (pe_op op_mod (pe_op op_fdiv (pv 4) pe_int) pe_int) (pa_cons (pe_op op_mod (pe_op op_fdiv (pv 4) pe_int) pe_int) pa_nil))))) (pe_op op_mod (pe_op op_fdiv (pv 4) pe_int) pe_int) (fun _ _ => rfl)))
    (pss_cons (ps_set (i := 8) sc__law_done.nd rfl (Or.inl rfl) (pe_op op_mod (pe_op op_fdiv (pv 4) pe_int) pe_int))
    (pss_cons (ps_if (pt_cmp (pc_dnotin (by exact hu) (pv 5) (pv 1)))
    (pss_one (ps_ret (pe_fn d__law_put (hr.mono (by decide)) (by rfl) passL (pa_cons (pv 0) (pa_cons (pv 1) (pa_cons (pv 5) (pa_cons (pe_op op_fdiv (pv 4) pe_int) pa_nil)))))))
    pss_nil)
    (pss_cons (ps_if (pt_cmpR op_lt (pv 8) pe_int (nomark _))
    (pss_cons (ps_dput hu (pe_ix ix_list (pe_dget (by exact hu) (pv 1) (pv 5) (fun _ _ => rfl)) pe_int (fun _ _ => rfl)) (pv 6) (pv 7) rfl)
    (pss_one (ps_ret (pe_mt T.c_Play d_Play_tell (hr.mono (by decide)) passL (pv 0) (pa_cons (pv 5) (pa_cons (pv 6) (pa_cons (pv 7) pa_nil)))))))
    pss_nil)
    (pss_cons (ps_if (pt_cmpR op_lt (pv 8) pe_int (nomark _))
    (pss_one (ps_ret (pe_fn d__law_only (hr.mono (by decide)) (by rfl) passL (pa_cons (pv 0) (pa_cons (pv 1) (pa_cons (pv 5) (pa_cons (pv 6) (pa_cons (pv 7) pa_nil))))))))
    pss_nil)
    (pss_cons (ps_if (PW.pt (pw_and (pt_cmpR op_eq (pv 8) pe_int (nomark _)) (pw_and1 (pt_cmp (pc_din (by exact hu) (pv 6) (pe_ix ix_list (pe_dget (by exact hu) (pv 1) (pv 5) (fun _ _ => rfl)) pe_int (fun _ _ => rfl)))))))
    (pss_cons (ps_expr (pe_dpop1 (pe_ix ix_list (pe_dget (by exact hu) (pv 1) (pv 5) (fun _ _ => rfl)) pe_int (fun _ _ => rfl)) (pv 6) ⟨rfl, rfl, rfl, rfl⟩))
    (pss_one (ps_ret (pe_mt T.c_Play d_Play_untell (hr.mono (by decide)) passL (pv 0) (pa_cons (pv 5) (pa_cons (pv 6) pa_nil))))))
    pss_nil)
    (pss_cons (ps_if (PW.pt (pw_and (pt_cmpR op_eq (pv 8) pe_int (nomark _)) (pw_and1 (pt_cmpR op_eq (pe_op op_mod (pe_op op_fdiv (pv 4) pe_int) pe_int) pe_int (nomark _)))))
    (pss_cons (ps_expr (pe_dpop1 (pv 1) (pv 5) ⟨rfl, rfl, rfl, rfl⟩))
    (pss_one (ps_ret (pe_mt T.c_Play d_Play_cut (hr.mono (by decide)) passL (pv 0) (pa_cons (pv 5) pa_nil)))))
    pss_nil)
    (pss_cons (ps_if (pt_cmpR op_eq (pv 8) pe_int (nomark _))
    (pss_one (ps_ret (pe_fn d__law_lift (hr.mono (by decide)) (by rfl) passL (pa_cons (pv 0) (pa_cons (pv 1) (pa_cons (pv 5) (pa_cons (pv 2) pa_nil)))))))
    pss_nil)
    (pss_cons (ps_dput hu (pe_ix ix_list (pe_dget (by exact hu) (pv 1) (pv 5) (fun _ _ => rfl)) pe_int (fun _ _ => rfl)) (pv 6) (pv 7) rfl)
    (pss_one (ps_ret (pe_mt T.c_Play d_Play_tell (hr.mono (by decide)) passL (pv 0) (pa_cons (pv 5) (pa_cons (pv 6) (pa_cons (pv 7) pa_nil))))))))))))))))), ?_⟩
  obtain ⟨n, hn, an⟩ := draw_at (f := V.int) hNS (i := x / 3 % 9) (by omega) (by omega)
  obtain ⟨z, hz, az⟩ := draw_at (f := V.str) hU (i := x / 29 % 6) (by omega) (by omega)
  obtain ⟨v, hv, av⟩ := draw_at (f := V.int) (xs := [0, 100, x / 31 % 101, x / 31 % 4]) (m := 4) rfl (i := x / 37 % 4) (by omega) (by omega)
  have hv : 0 ≤ v ∧ v ≤ 100 := by
    simp only [List.mem_cons, List.not_mem_nil, or_false] at hv; omega
  refine ⟨_, rfl, _, rfl, _, _, rfl, rfl, ⟨by decide, by decide⟩, _, _, rfl, rfl, by simp, _, _, _, _, rfl, rfl, .inl (.inl h2), an, ?_⟩
  refine ⟨_, rfl, _, rfl, _, _, rfl, rfl, ⟨by decide, by decide⟩, _, _, rfl, rfl, by simp, _, _, _, _, rfl, rfl, .inl (.inl h1), az, ?_⟩
  refine ⟨_, rfl, _, _, rfl, rfl, ⟨by decide, by decide⟩, _, _, rfl, rfl, by simp, _, rfl, _, _, rfl, rfl, ⟨by decide, by decide⟩, _, _, rfl, rfl, by simp, by simp [sizeLine_eq], fun l3 n3 => ⟨_, rfl, _, _, rfl, rfl, ⟨by decide, by decide⟩, _, _, rfl, rfl, by simp, _, _, _, _, rfl, rfl, .inl (.inl upd_same), av, ?_⟩⟩
  refine ⟨_, rfl, _, _, rfl, rfl, ⟨by decide, by decide⟩, _, _, rfl, rfl, by simp, ?_⟩
  have s1 := same_upd (o := HO.lst [.int 0, .int 100, .int (x / 31 % 101), .int (x / 31 % 4)]) n3
  have T1 := hT.same s1
  have h1 := s1 _ _ h1
  replace q : ∀ H' ap' am' M', Two K U NS H' p dp ap' M' dm am' M' → Mv (upd H l3 (.lst [.int 0, .int 100, .int (x / 31 % 101), .int (x / 31 % 4)])) (footT p dp ap M dm am M) H' (footT p dp ap' M' dm am' M') → Q .non H' := fun H' ap' am' M' T m => q H' ap' am' M' T ((Mv.same s1).trans m)
  have h3 : (upd H l3 (.lst [.int 0, .int 100, .int (x / 31 % 101), .int (x / 31 % 4)])) l3 = some (.lst [.int 0, .int 100, .int (x / 31 % 101), .int (x / 31 % 4)]) := upd_same
  generalize upd H l3 (.lst [.int 0, .int 100, .int (x / 31 % 101), .int (x / 31 % 4)]) = H1 at T1 h1 q h3
  clear hT s1
  obtain ⟨kvs, hd, tk⟩ := T1.tab.top
  have hd : H1 dm = some (.dK kvs) := hd
  refine ⟨_, rfl, _, rfl, dm, _, rfl, tk.get (.inl hd) n, _, rfl, ?_⟩
  cases hg : get M n with
  | none =>
    refine iteT ⟨_, rfl, _, rfl, _, rfl, _, rfl, _, _, rfl, rfl, ⟨by decide, by decide⟩, _, _, _, _, rfl, NS, p, dp, ap, M, U, dm, am, n, x / 5, rfl, rfl, rfl, rfl, T1, hg, hn, by omega, hb n hn, by omega, fun H' ap' am' M' T m _ => q H' ap' am' M' T m⟩
  | some c =>
    refine iteF ?_
    obtain ⟨kvs', kw, d1, d2, d3, d4, d5, d6, d7⟩ := T1.at hg
    obtain ⟨T2, m2⟩ := T1.set hg d5 hz hv
    obtain ⟨dx2, o2⟩ := T2.obj
    have tell : ∀ E, spTell K [.ref p, .int n, .str z, .int v] (upd H1 (am n).2 (.dK (putK kw (Sum.inr z) (.int v)))) Q E := fun E => tell_two T2 hg hz hv fun H' T3 m3 => q H' _ _ _ T3 (m2.trans m3)
    refine ⟨_, rfl, _, _, rfl, rfl, _, rfl, ite2 (fun c1 => ?_) (fun c1 => ?_)⟩
    · refine ⟨_, rfl, _, rfl, _, rfl, dm, _, rfl, d2, _, _, _, _, rfl, rfl, .inl (.inl d3), rfl, _, rfl, _, _, rfl, DPut.k (k := Sum.inr z) d4 d6, ?_⟩
      exact ⟨_, rfl, _, _, _, rfl, o2, playF_no (by decide +kernel), _, rfl, _, rfl, _, rfl, tell _⟩
    refine ⟨_, rfl, _, _, rfl, rfl, _, rfl, ite2 (fun c2 => ?_) (fun c2 => ?_)⟩
    · exact ⟨_, rfl, _, rfl, _, rfl, _, rfl, _, rfl, _, _, _, _, _, rfl, NS, p, dp, ap, M, U, dm, am, n, z, v, c, rfl, rfl, rfl, rfl, rfl, T1, hg, hz, hv, fun H' M' _ T m => q H' _ _ _ T m⟩
    refine ⟨_, rfl, rfl, _, rfl, ite_share ?_ fun c3 hR => ?_⟩
    · refine ⟨_, rfl, rfl, _, rfl, ite_share ?_ fun c4 hR => ?_⟩
      · refine ⟨_, rfl, rfl, _, rfl, ite2 (fun c5 => ?_) (fun c5 => ?_)⟩
        · exact ⟨_, rfl, _, rfl, _, rfl, _, rfl, _, _, _, _, rfl, NS, p, dp, ap, M, U, dm, am, n, l1, c, rfl, rfl, rfl, rfl, T1, hg, nd, h1, nl1, fun H' M' _ T m => q H' _ _ _ T m⟩
        · refine ⟨_, rfl, _, rfl, _, rfl, dm, _, rfl, d2, _, _, _, _, rfl, rfl, .inl (.inl d3), rfl, _, rfl, _, _, rfl, DPut.k (k := Sum.inr z) d4 d6, ?_⟩
          exact ⟨_, rfl, _, _, _, rfl, o2, playF_no (by decide +kernel), _, rfl, _, rfl, _, rfl, tell _⟩
      · refine ⟨_, rfl, _, _, rfl, rfl, ⟨by decide, by decide⟩, _, _, rfl, rfl, by simp, rfl, _, rfl, ite2 (fun _ => ?_) (fun _ => hR)⟩
        refine ⟨_, rfl, dm, rfl, .inl ⟨_, .inl d1⟩, _, rfl, kvs', Sum.inl n, .ref (am n).1, d1, rfl, d7, ?_⟩
        obtain ⟨T3, m3⟩ := T1.drop d1 (n := n)
        obtain ⟨dx3, o3⟩ := T3.obj
        exact ⟨_, rfl, _, _, _, rfl, o3, playF_no (by decide +kernel), _, rfl, cut_two T3 hg fun H' T4 m4 => q H' _ _ _ T4 (m3.trans m4)⟩
    · refine ⟨_, rfl, _, rfl, _, rfl, dm, _, rfl, d2, _, _, _, _, rfl, rfl, .inl (.inl d3), rfl, _, _, rfl, d5.get (.inl d4) z, _, rfl, ?_⟩
      cases hz' : get c.words z with
      | none => exact iteF hR
      | some v0 =>
        refine iteT ⟨_, rfl, _, rfl, dm, _, rfl, d2, _, _, _, _, rfl, rfl, .inl (.inl d3), rfl, _, rfl, .inl ⟨_, .inl d4⟩, _, rfl, kw, Sum.inr z, .int v0, d4, rfl, by rw [d5.vl, hz']; rfl, ?_⟩
        have g2 : Good U (setW n (Cue.del z) M) := T1.good.setW fun ws hs hw => wok_del hs hw
        obtain ⟨T3, m3⟩ := T1.word hg (d5.drop z) g2
        obtain ⟨dx3, o3⟩ := T3.obj
        exact ⟨_, rfl, _, _, _, rfl, o3, playF_no (by decide +kernel), _, rfl, _, rfl, untell_two T3 hg hz' fun H' T4 m4 => q H' _ _ _ T4 (m3.trans m4)⟩
end

/-- a dict, empty or not -/
theorem op_eqK {X : Cx} {k : Nat} (hr : Room k X.A) : OpR X (compareOp .Eq) (fun x y H Q => ∃ a b ks, x = .ref a ∧ y = .ref b ∧ H a = some (.dK ks) ∧ H b = some (.dK []) ∧ Q (.bl ks.isEmpty) H) := by
  intro pins s σ H x y v u Q I rx ry h
  obtain ⟨a, b, ks, rfl, rfl, ea, eb, q⟩ := h
  obtain rfl : v = Value.ref a := rx
  obtain rfl : u = Value.ref b := ry
  obtain ⟨_, ya, va, ra, da⟩ := (show ObjOk X.prog X.w H s.heap a (.dK ks) from I.hok a _ ea)
  obtain ⟨_, yb, vb, rb, db⟩ := (show ObjOk X.prog X.w H s.heap b (.dK []) from I.hok b _ eb)
  have l1 := ra.length
  have l2 : 0 = vb.length := rb.length
  refine PySem.W.keq_eq (knd := mixKind X.prog X.w) (r := true) ya yb da db hr.units0 (fun hl => hits_all rb ra fun p hp => ?_) (fin_bl I q ?_)
  · have : ks = [] := List.length_eq_zero_iff.mp (by omega)
    rw [this] at hp; cases hp
  · cases ks with
    | nil =>
      have : va.length = vb.length := by rw [← l1, ← l2]; rfl
      simp [this]
    | cons x r =>
      have : ¬ va.length = vb.length := by rw [← l1, ← l2]; simp
      simp [this]
section
variable {P : Program} {w : World} {K : PySem.W.Frag} {mg : Str → Option Value} {base : Heap}
def spBuilt (K : PySem.W.Frag) : Sp := sp3 fun a f m H Q _ => ∃ (x : Addr) (ns : List Int) (fi mi : Int), a = .ref x ∧ f = .int fi ∧ m = .int mi ∧ 0 ≤ fi ∧ 0 ≤ mi ∧ mi < 100000 ∧ SqL K H x (ns.map V.int) ∧
  ∀ H' t p dp ap M dm am la lb c0 c1, Two K (lamps6 c0) (nums9 c1) H' p dp ap M dm am M → M ≠ [] → H' la = some (.lst ((lamps6 c0).map V.str)) → ¬ footT p dp ap M dm am M la → H' lb = some (.lst ((nums9 c1).map V.int)) → ¬ footT p dp ap M dm am M lb →
    (∀ b o, H b = some o → H' b = some o ∧ ¬ footT p dp ap M dm am M b) → H' t = some (.tup [.ref p, .ref dm, .ref la, .ref lb]) → Q (.ref t) H'
theorem sc__law_built : FnScope ["_law_script", "_law_first", "_law_many", "_law_lamps_here", "_law_numbers_here", "_law_play", "_law_model", "_law_k", "_law_mix"] ["_law_script", "_law_first", "_law_many"] (defScope s__law_built) := ⟨rfl, rfl, rfl, by decide +kernel, rfl, by decide +kernel, by decide +kernel⟩
theorem d__law_built (T : Txt K mg) : Def P w K mg base 9 "_law_built" ["_law_script", "_law_first", "_law_many"] (spBuilt K) := by
  have d__law_lamps := d__law_lamps (P := P) (w := w) (base := base) T
  have d__law_numbers := d__law_numbers (P := P) (w := w) (base := base) T
  have d_Play___init__ := d_Play___init__ (P := P) (w := w) (base := base) T
  have d__law_mixed := d__law_mixed (P := P) (w := w) (base := base) T
  have d__law_done := d__law_done (P := P) (w := w) (base := base) T
  have d__law_put := d__law_put (P := P) (w := w) (base := base) T
  have d__law_cell := d__law_cell (P := P) (w := w) (base := base) T
  refine mkDef T.d__law_built T.g__law_built sc__law_built (fun _ _ _ _ _ _ us hl => match us, hl with | [_, _, _], _ => rfl) len3 (BodyN.up fun cdv A outer s H vs Q E hr h => ?_)
  obtain ⟨_, _, _, rfl, a, ns, fi, mi, rfl, rfl, rfl, hf0, hm0, hm1, hS, q⟩ := h
  have hu := hu_of hr
  refine ⟨_, (pss_cons (ps_set (i := 3) sc__law_built.nd rfl (Or.inl rfl) (pe_fn d__law_lamps (hr.mono (by decide)) (by rfl) passL (pa_cons (pe_fn d__law_mixed (hr.mono (by decide)) (by rfl) passL (pa_cons (pe_fn d__law_cell (hr.mono (by decide)) (by rfl) passL (pa_cons (pv 0) (pa_cons (pv 1) pa_nil))) (pa_cons pe_int pa_nil))) pa_nil)))
    (pss_cons (ps_set (i := 4) sc__law_built.nd rfl (Or.inl rfl) (pe_fn d__law_numbers (hr.mono (by decide)) (by rfl) passL (pa_cons (pe_fn d__law_mixed (hr.mono (by decide)) (by rfl) passL (pa_cons (pe_fn d__law_cell (hr.mono (by decide)) (by rfl) passL (pa_cons (pv 0) (pa_cons (pv 1) pa_nil))) (pa_cons pe_int pa_nil))) pa_nil)))
    (pss_cons (ps_set (i := 5) sc__law_built.nd rfl (Or.inl rfl) (pe_mk0 T.k_Play d_Play___init__ (hr.mono (by decide)) (by rfl) T.g_Play passL))
    (pss_cons (ps_set (i := 6) sc__law_built.nd rfl (Or.inl rfl) pe_dnewK)
    (pss_cons (ps_for PassesOwn.never rfl (pi_range1 (by rfl) T.z_range (pa_cons (pv 2) pa_nil)) (pg_name (i := 7) sc__law_built.nd rfl (Or.inl rfl))
    (pss_cons (ps_set (i := 8) sc__law_built.nd rfl (Or.inl rfl) (pe_fn d__law_mixed (hr.mono (by decide)) (by rfl) passL (pa_cons (pe_fn d__law_cell (hr.mono (by decide)) (by rfl) passL (pa_cons (pv 0) (pa_cons (pe_op op_add (pe_op op_add (pv 1) pe_int) (pe_op op_mod (pv 7) pe_int)) pa_nil))) (pa_cons (pe_op op_add pe_int (pv 7)) pa_nil))))
    (pss_one (ps_expr (pe_fn d__law_done (hr.mono (by decide)) (by rfl) passL (pa_cons (pv 5) (pa_cons (pv 6) (pa_cons (pv 3) (pa_cons (pv 4) (pa_cons (pv 8) pa_nil))))))))))
    (Evl.pss_cut (ps_if (pt_cmpR (op_eqK hr) (pv 6) pe_dnewK (nomark _))
    (pss_one (ps_expr (pe_fn d__law_put (hr.mono (by decide)) (by rfl) passL (pa_cons (pv 5) (pa_cons (pv 6) (pa_cons (pe_ix ix_list (pv 4) pe_int (fun _ _ => rfl)) (pa_cons (pv 2) pa_nil)))))))
    pss_nil)
    (pss_one (ps_ret (pe_tup (pa_cons (pv 5) (pa_cons (pv 6) (pa_cons (pv 3) (pa_cons (pv 4) pa_nil))))))))))))), ?_⟩
  refine ⟨_, rfl, _, rfl, _, _, rfl, a, ns, fi, rfl, rfl, hf0, hS, fun v0 => ⟨_, _, rfl, v0, 1, rfl, rfl, ⟨_, rfl, mixed v0 1, rfl, fun H1 la s1 nla ela => ?_⟩⟩⟩
  refine ⟨_, rfl, _, rfl, _, _, rfl, a, ns, fi, rfl, rfl, hf0, s1.seq hS, fun v1 => ⟨_, _, rfl, v1, 2, rfl, rfl, ⟨_, rfl, mixed v1 2, rfl, fun H2 lb s2 nlb elb => ?_⟩⟩⟩
  have ela := s2 _ _ ela
  have s12 := s1.trans s2
  have hS2 := s2.seq (s1.seq hS)
  intro p dx np ndx ndp
  refine ⟨_, rfl, p, dx, rfl, upd_same, fun d H3 nd ep ed kp => ⟨rfl, ?_⟩⟩
  have nd2 : H2 d = none := by
    by_cases z : d = p
    · rw [z]; exact np
    · rw [upd_ne z] at nd
      by_cases z' : d = dx
      · rw [z', upd_same] at nd; cases nd
      · rwa [upd_ne z'] at nd
  have s3 : Same H2 H3 := fun b o e => kp b o (by rw [upd_ne (ne_of_none e np), upd_ne (ne_of_none e ndx)]; exact e) (ne_of_none e np)
  intro m nm
  have s4 := same_upd (o := HO.dK []) nm
  have hdm : d ≠ m := fun z => by rw [z, nm] at ed; cases ed
  have em : (upd H3 m (.dK [])) m = some (.dK []) := upd_same
  generalize upd H3 m (.dK []) = H4 at s4 em
  have s24 := s3.trans s4
  have ad : Ads := fun _ => (p, p)
  have T0 : Two K (lamps6 (mixed v0 1)) (nums9 (mixed v1 2)) H4 p d ad [] m ad [] := two_new (s4 _ _ ep) (s4 _ _ ed) em (lamps6_U _) hdm
  have old : ∀ b o, H2 b = some o → H4 b = some o ∧ ¬ footT p d ad [] m ad [] b := fun b o e => ⟨s24 _ _ e, fun h => by
    rcases footT_new h with h | h | h
    · exact ne_of_none e np h
    · exact ne_of_none e nd2 h
    · exact ne_of_none (s3 _ _ e) nm h⟩
  obtain ⟨LS, hLS, kLS⟩ : ∃ L : List (Addr × HO), (∀ x ∈ L, H2 x.1 = some x.2) ∧ ∀ H' : Hp, (∀ x ∈ L, H' x.1 = some x.2) → SqL K H' a (ns.map V.int) := by
    rcases hS2 with (h | ⟨o, h⟩) | h
    · exact ⟨[(a, _)], fun x hx => by rw [List.mem_singleton.mp hx]; exact h, fun H' k => .inl (.inl (k _ List.mem_cons_self))⟩
    · exact ⟨[(a, _)], fun x hx => by rw [List.mem_singleton.mp hx]; exact h, fun H' k => .inl (.inr ⟨o, k _ List.mem_cons_self⟩)⟩
    · exact ⟨[], fun x hx => (by cases hx), fun H' _ => .inr h⟩
  refine ⟨_, rfl, mi, rfl, by omega, by omega, for_range (fun i σ H' => ∃ ap am M v7 v8, σ = [some (.ref a), some (.int fi), some (.int mi), some (.ref la), some (.ref lb), some (.ref p), some (.ref m), v7, v8] ∧ Two K (lamps6 (mixed v0 1)) (nums9 (mixed v1 2)) H' p d ap M m am M ∧ ∀ b o, H2 b = some o → H' b = some o ∧ ¬ footT p d ap M m am M b) ⟨_, _, [], none, none, rfl, T0, old⟩ ?_ ?_⟩
  · rintro i σ H5 hi ⟨ap, am, M, v7, v8, rfl, hT, keep⟩
    refine ⟨_, rfl, _, rfl, _, _, rfl, rfl, _, rfl, _, _, rfl, rfl, by simp, _, _, rfl, rfl, _, _, rfl, a, ns, _, rfl, rfl, ?_, kLS H5 fun x hx => (keep _ _ (hLS x hx)).1, fun c => ?_⟩
    · omega
    refine ⟨_, rfl, _, _, rfl, rfl, _, _, rfl, c, _, rfl, rfl, ?_⟩
    refine ⟨_, rfl, _, rfl, _, rfl, _, rfl, _, rfl, _, _, _, _, _, rfl, _, p, d, ap, M, _, m, am, la, lb, _, rfl, rfl, rfl, rfl, rfl, hT, lamps6_len _, lamps6_nodup _, rfl, nums9_ok _, (keep _ _ ela).1, (keep _ _ ela).2, (keep _ _ elb).1, (mixed_nn _ _).1, fun H6 ap' am' M' T6 m6 => ?_⟩
    exact ⟨ap', am', M', _, _, rfl, T6, fun b o e => m6.keep (keep b o e).1 (keep b o e).2⟩
  · rintro σ H5 ⟨ap, am, M, v7, v8, rfl, hT, keep⟩
    obtain ⟨kvs, hd, tk⟩ := hT.tab.top
    have hd : H5 m = some (.dK kvs) := hd
    have tl := tk.len hT.good.srt
    refine ⟨fun σ H' => ∃ ap am M v7 v8, σ = [some (.ref a), some (.int fi), some (.int mi), some (.ref la), some (.ref lb), some (.ref p), some (.ref m), v7, v8] ∧ Two K (lamps6 (mixed v0 1)) (nums9 (mixed v1 2)) H' p d ap M m am M ∧ (∀ b o, H2 b = some o → H' b = some o ∧ ¬ footT p d ap M m am M b) ∧ M ≠ [], ?_, ?_⟩
    · refine ⟨_, rfl, fun e ne => ⟨m, e, kvs, rfl, rfl, ?_, upd_same, _, rfl, ite2 (fun c1 => ?_) (fun c1 => ?_)⟩⟩
      · rw [upd_ne (ne_of_none hd ne)]; exact hd
      · have k0 : kvs = [] := List.isEmpty_iff.mp c1
        have hM : M = [] := List.length_eq_zero_iff.mp (by rw [← tl, k0]; rfl)
        subst hM
        have sE := same_upd (o := HO.dK []) ne
        refine ⟨_, rfl, _, rfl, _, rfl, _, _, _, _, rfl, rfl, .inl (.inl (sE _ _ (keep _ _ elb).1)), atI_nat (j := 0) rfl, _, rfl, _, _, _, _, rfl, _, p, d, ap, [], _, m, am, 1, mi, rfl, rfl, rfl, rfl, hT.same sE, rfl, List.mem_cons_self, Nat.le_refl 9, ⟨by decide, by decide⟩, hm0, fun H6 ap' am' M' T6 m6 ne6 => ?_⟩
        exact ⟨ap', am', M', _, _, rfl, T6, fun b o e => m6.keep (sE _ _ (keep b o e).1) (keep b o e).2, ne6⟩
      · have sE := same_upd (o := HO.dK []) ne
        exact ⟨ap, am, M, _, _, rfl, hT.same sE, fun b o e => ⟨sE _ _ (keep b o e).1, (keep b o e).2⟩, fun z => c1 (by
          rw [z] at tl
          rw [List.length_eq_zero_iff.mp tl]; rfl)⟩
    rintro σ H6 ⟨ap, am, M, v7, v8, rfl, hT, keep, hne⟩
    refine ⟨_, rfl, _, rfl, _, rfl, _, rfl, by simp [sizeLine_eq], fun t nt => ?_⟩
    have st := same_upd (o := HO.tup [.ref p, .ref m, .ref la, .ref lb]) nt
    exact q _ t p d ap M m am la lb _ _ (hT.same st) hne (st _ _ (keep _ _ ela).1) (keep _ _ ela).2 (st _ _ (keep _ _ elb).1) (keep _ _ elb).2 (fun b o e => ⟨st _ _ (keep _ _ (s12 _ _ e)).1, (keep _ _ (s12 _ _ e)).2⟩) upd_same
end

/-! ## refusals, told by words -/
/-- the refusal that is due of a cue put in, or no word -/
def dueV (M : Book) (x u d : V) : Str := if wholeV 1 999999 x = false then "cue" else if (cueOf M x).isSome then "taken" else if (wholeV 0 6000 u && wholeV 0 6000 d) = false then "time" else if 100 ≤ M.length then "many" else ""
theorem s_diff {a b : Str} (h : decide (a = b) = false) : a ≠ b := of_decide_eq_false h
section
variable {K : PySem.W.Frag} {U : List Str} {H : Hp} {p d : Addr} {ad : Ads} {M : Book} {x u dn : V} {b : Bool} {Q : VK} {E : XK}
theorem put_try (T : PlayAt K U H p d ad M) (hx : Pl H x) (hu : Pl H u) (hd : Pl H dn) (e0 : dueV M x u dn = "cue" → Er K "NoCue" E H) (e1 : dueV M x u dn = "taken" → Er K "Taken" E H) (e5 : dueV M x u dn = "time" → Er K "NoTime" E H) (e2 : dueV M x u dn = "many" → Er K "TooMany" E H)
    (q : dueV M x u dn = "" → ∀ n i j, x = .int n → u = .int i → dn = .int j → (1 ≤ n ∧ n ≤ 999999) → (0 ≤ i ∧ i ≤ 6000 ∧ 0 ≤ j ∧ j ≤ 6000) → get M n = none → M.length < 100 → Becomes K U H p d ad M (put ltI n ⟨i, j, b, []⟩ M) (Q .non)) : spPut K [.ref p, x, u, dn, .bl b] H Q E := by
  refine ⟨_, _, _, _, _, rfl, p, d, ad, M, U, b, rfl, rfl, T, hx, hu, hd, fun h => e0 ?_, fun h1 h2 => e1 ?_, fun h1 h2 h3 => e5 ?_, fun h1 h2 h3 h4 => e2 ?_, fun n i j ex eu ed hn hf h0 hl => q ?_ n i j ex eu ed hn hf h0 hl⟩
  · unfold dueV; rw [if_pos h]
  · unfold dueV
    rw [if_neg (by rw [h1]; simp), if_pos]
    cases z : cueOf M x with
    | none => exact absurd z h2
    | some c => rfl
  · unfold dueV
    rw [if_neg (by rw [h1]; simp), if_neg (by rw [h2]; simp), if_pos h3]
  · unfold dueV
    rw [if_neg (by rw [h1]; simp), if_neg (by rw [h2]; simp), if_neg (by rw [h3]; simp), if_pos h4]
  · subst ex eu ed
    have h1 : wholeV 1 999999 (.int n) = true := whole_of hn
    have h2 : cueOf M (.int n) = none := h0
    have h3 : (wholeV 0 6000 (.int i) && wholeV 0 6000 (.int j)) = true := by rw [whole_of ⟨hf.1, hf.2.1⟩, whole_of hf.2.2]; rfl
    unfold dueV
    rw [if_neg (by rw [h1]; simp), if_neg (by rw [h2]; simp), if_neg (by rw [h3]; simp), if_neg (by omega)]
end
theorem pl_take {H H' : Hp} {x : V} (s : Same H H') (h : Pl H x) : Pl H' x := h.same s
theorem xo_same {H H' : Hp} {a : Addr} {cls : Value} {d : Option Addr} (s : Same H H') (n : H' a = none) : Same H (upd H' a (XO cls d a)) := sm_new s n
theorem pl_upd {H : Hp} {z : V} {a : Addr} {xs : List V} (h : Pl H z) : Pl (upd H a (.lst xs)) z := by
  cases z with
  | ref b =>
    by_cases e : b = a
    · exact .inl ⟨xs, by rw [e]; exact upd_same⟩
    · rcases h with ⟨ys, h⟩ | ⟨ys, h⟩ | ⟨ys, h⟩
      · exact .inl ⟨ys, by rw [upd_ne e]; exact h⟩
      · exact .inr (.inl ⟨ys, by rw [upd_ne e]; exact h⟩)
      · exact .inr (.inr ⟨ys, by rw [upd_ne e]; exact h⟩)
  | _ => exact h

/-! ## Runs on the heap -/
def sceneF (u d : Int) (w : Addr) : List (Str × V) := [("up", .int u), ("down", .int d), ("lights", .ref w)]
theorem sceneF_up {u d : Int} {w : Addr} : (sceneF u d w).lookup ("up" : Str) = some (V.int u) := lookup_hit (by decide +kernel)
theorem sceneF_down {u d : Int} {w : Addr} : (sceneF u d w).lookup ("down" : Str) = some (V.int d) := (lookup_miss (by decide +kernel)).trans (lookup_hit (by decide +kernel))
theorem sceneF_lights {u d : Int} {w : Addr} : (sceneF u d w).lookup ("lights" : Str) = some (V.ref w) := (lookup_miss (by decide +kernel)).trans ((lookup_miss (by decide +kernel)).trans (lookup_hit (by decide +kernel)))
theorem sceneF_no {u d : Int} {w : Addr} {m : Str} (h1 : decide (m = ("up" : Str)) = false) (h2 : decide (m = ("down" : Str)) = false) (h3 : decide (m = ("lights" : Str)) = false) : (sceneF u d w).lookup m = none := (lookup_miss h1).trans ((lookup_miss h2).trans ((lookup_miss h3).trans rfl))
def runF (ds lc : Addr) : List (Str × V) := [("scenes", .ref ds), ("called", .ref lc)]
theorem runF_scenes {ds lc : Addr} : (runF ds lc).lookup ("scenes" : Str) = some (V.ref ds) := lookup_hit (by decide +kernel)
theorem runF_called {ds lc : Addr} : (runF ds lc).lookup ("called" : Str) = some (V.ref lc) := (lookup_miss (by decide +kernel)).trans (lookup_hit (by decide +kernel))
theorem runF_no {ds lc : Addr} {m : Str} (h1 : decide (m = ("scenes" : Str)) = false) (h2 : decide (m = ("called" : Str)) = false) : (runF ds lc).lookup m = none := (lookup_miss h1).trans ((lookup_miss h2).trans rfl)
def RcS (K : PySem.W.Frag) : RcT := fun o u d _ w => ∃ dx, o = .ins (He.ga K "Scene") dx (sceneF u d w)
/-- what a run knows of a play -/
def sceneE (M : Book) (e : Int × CueC) : Int × CueC := (e.1, ⟨e.2.up, e.2.down, false, look M e.1⟩)
def scenes (M : Book) : Book := M.map (sceneE M)
theorem scenes_keys (M : Book) : (scenes M).map (·.1) = M.map (·.1) := by unfold scenes; rw [List.map_map]; rfl
theorem get_sceneL (M : Book) (n : Int) : ∀ R : Book, get (R.map (sceneE M)) n = (get R n).map fun c => (sceneE M (n, c)).2
  | [] => rfl
  | (a, c) :: r => by
    have ih := get_sceneL M n r
    show get ((a, (sceneE M (a, c)).2) :: r.map (sceneE M)) n = _
    by_cases z : a = n
    · subst z
      rw [get, if_pos rfl, get, if_pos rfl]; rfl
    · rw [get, if_neg z, get, if_neg z, ih]
theorem get_scenes (M : Book) (n : Int) : get (scenes M) n = (get M n).map fun c => ⟨c.up, c.down, false, look M n⟩ := get_sceneL M n M
theorem scenes_good {U : List Str} {M : Book} (g : Good U M) : Good U (scenes M) := by
  refine ⟨by show List.Pairwise _ _; rw [scenes_keys]; exact g.srt, fun e he => ?_, fun e he => ?_, fun e he => ?_, fun e he => ?_, by unfold scenes; rw [List.length_map]; exact g.len⟩
  all_goals obtain ⟨e0, h0, rfl⟩ := List.mem_map.mp he
  · exact look_rising M _
  · exact g.num e0 h0
  · exact look_mem g _
  · exact g.fad e0 h0
theorem put_endB {M : Book} {n : Int} {c : CueC} (h : ∀ e ∈ M, e.1 < n) : put ltI n c M = M ++ [(n, c)] := by
  induction M with
  | nil => rfl
  | cons e r ih =>
    have h1 := h e List.mem_cons_self
    unfold put
    rw [if_neg (by omega), if_neg (by show ¬ n < e.1; omega), ih fun x hx => h x (List.mem_cons_of_mem _ hx)]
    rfl
abbrev Cs := List (Int × Int)
def CallsAt (H : Hp) (ts : List Addr) (cs : Cs) : Prop := Paired (fun (t : Addr) (c : Int × Int) => H t = some (.tup [.int c.1, .int c.2])) ts cs
structure CsOk (S : Book) (cs : Cs) : Prop where
  few : cs.length ≤ 20
  ok : ∀ c ∈ cs, (∃ e, get S c.1 = some e) ∧ 0 ≤ c.2 ∧ c.2 ≤ 1000000000
  ord : cs.Pairwise fun a b => a.2 ≤ b.2
structure RunAt (K : PySem.W.Frag) (U : List Str) (H : Hp) (r ds : Addr) (as : Ads) (lc : Addr) (ts : List Addr) (S : Book) (cs : Cs) : Prop where
  ob : ∃ dx, H r = some (.ins (He.ga K "Run") dx (runF ds lc))
  tb : TabAt (RcS K) none H ds as S
  cl : H lc = some (.lst (ts.map V.ref))
  ct : CallsAt H ts cs
  off : ¬ foot ds as S r ∧ ¬ foot ds as S lc
  good : Good U S
  lamps : Lamps U
  cs : CsOk S cs
def footR (r ds : Addr) (as : Ads) (lc : Addr) (ts : List Addr) (S : Book) (b : Addr) : Prop := b = r ∨ b = lc ∨ b ∈ ts ∨ foot ds as S b
theorem paired_memL {α β : Type} {F : α → β → Prop} : ∀ {xs : List α} {ys : List β} {x : α}, Paired F xs ys → x ∈ xs → ∃ y ∈ ys, F x y
  | _, _, _, .cons h t, hx => by
    rcases List.mem_cons.mp hx with rfl | hx
    · exact ⟨_, List.mem_cons_self, h⟩
    · obtain ⟨y, a, b⟩ := paired_memL t hx
      exact ⟨y, List.mem_cons_of_mem _ a, b⟩
theorem paired_impL {α β : Type} {F G : α → β → Prop} : ∀ {xs : List α} {ys : List β}, (∀ a ∈ xs, ∀ b, F a b → G a b) → Paired F xs ys → Paired G xs ys
  | _, _, _, .nil => .nil
  | _, _, h, .cons a t => .cons (h _ List.mem_cons_self _ a) (paired_impL (fun x hx => h x (List.mem_cons_of_mem _ hx)) t)
section
variable {K : PySem.W.Frag} {U : List Str} {H H' : Hp} {r ds lc : Addr} {as : Ads} {ts : List Addr} {S : Book} {cs : Cs}
theorem RunAt.has (T : RunAt K U H r ds as lc ts S cs) {b : Addr} (h : footR r ds as lc ts S b) : ∃ o, H b = some o := by
  rcases h with rfl | rfl | h | h
  · obtain ⟨dx, e⟩ := T.ob
    exact ⟨_, e⟩
  · exact ⟨_, T.cl⟩
  · obtain ⟨y, _, e⟩ := paired_memL T.ct h
    exact ⟨_, e⟩
  · exact T.tb.has h
theorem RunAt.frame (T : RunAt K U H r ds as lc ts S cs) (k : ∀ b o, footR r ds as lc ts S b → H b = some o → H' b = some o) : RunAt K U H' r ds as lc ts S cs := by
  obtain ⟨dx, e⟩ := T.ob
  exact ⟨⟨dx, k _ _ (.inl rfl) e⟩, T.tb.frame fun b o h e => k b o (.inr (.inr (.inr h))) e, k _ _ (.inr (.inl rfl)) T.cl, paired_impL (fun a ha b e => k _ _ (.inr (.inr (.inl ha))) e) T.ct, T.off, T.good, T.lamps, T.cs⟩
theorem RunAt.same (T : RunAt K U H r ds as lc ts S cs) (s : Same H H') : RunAt K U H' r ds as lc ts S cs := T.frame fun b o _ e => s b o e
theorem RunAt.sceneAt (T : RunAt K U H r ds as lc ts S cs) {n : Int} {c : CueC} (h : get S n = some c) : ∃ dx kvs, H (as n).1 = some (.ins (He.ga K "Scene") dx (sceneF c.up c.down (as n).2)) ∧ H (as n).2 = some (.dK kvs) ∧ WK kvs c.words := by
  obtain ⟨o, e, dx, rfl⟩ := T.tb.row n c h
  obtain ⟨kvs, e2, wk⟩ := T.tb.wrd n c h
  exact ⟨dx, kvs, e, e2, wk⟩
end
section
variable {P : Program} {w : World} {K : PySem.W.Frag} {mg : Str → Option Value} {base : Heap}
def spSceneInit (K : PySem.W.Frag) : Sp := sp4 fun s u dn l H Q _ => ∃ (x dx w : Addr) (a b : Int), s = .ref x ∧ u = .int a ∧ dn = .int b ∧ l = .ref w ∧ H x = some (.ins (He.ga K "Scene") dx []) ∧ Q .non (upd H x (.ins (He.ga K "Scene") dx (sceneF a b w)))
theorem sc_Scene___init__ : FnScope ["self", "up", "down", "lights"] ["self", "up", "down", "lights"] (defScope s_Scene___init__) := ⟨rfl, rfl, rfl, by decide +kernel, rfl, by decide +kernel, by decide +kernel⟩
theorem d_Scene___init__ (T : Txt K mg) : IDef P w K mg base (He.ma K (He.ga K "Scene") "__init__") 1 ["self", "up", "down", "lights"] (spSceneInit K) := by
  refine mkI T.d_Scene___init__ sc_Scene___init__ (fun _ _ _ _ _ _ us hl => match us, hl with | [_, _, _, _], _ => rfl) len4 (BodyN.up fun cdv A outer s H vs Q E hr h => ?_)
  obtain ⟨_, _, _, _, rfl, x, dx, lw, a, b, rfl, rfl, rfl, rfl, hx, q⟩ := h
  have hu := hu_of hr
  refine ⟨_, (pss_cons (ps_fld (pv 0) (pv 1) rfl)
    (pss_cons (ps_fld (pv 0) (pv 2) rfl)
    (pss_one (ps_fld (pv 0) (pv 3) rfl)))), ?_⟩
  refine ⟨_, rfl, _, rfl, x, _, dx, _, rfl, hx, T.c_Scene, T.n_Scene_up, by simp, ?_⟩
  refine ⟨_, rfl, _, rfl, x, _, dx, _, rfl, upd_same, T.c_Scene, T.n_Scene_down, Nat.le_trans (Nat.succ_le_succ (length_putF _ _ _)) (by simp), ?_⟩
  refine ⟨_, rfl, _, rfl, x, _, dx, _, rfl, upd_same, T.c_Scene, T.n_Scene_lights, Nat.le_trans (Nat.succ_le_succ (Nat.le_trans (length_putF _ _ _) (Nat.succ_le_succ (length_putF _ _ _)))) (by simp), ?_⟩
  have f1 : ¬ (("up" : Str) = "down") := by decide +kernel
  have f2 : ¬ (("up" : Str) = "lights") := by decide +kernel
  have f3 : ¬ (("down" : Str) = "lights") := by decide +kernel
  rw [upd_upd, upd_upd]
  simp only [putF, if_neg f1, if_neg f2, if_neg f3]
  exact q
def spRunInit (K : PySem.W.Frag) : Sp := sp2 fun s a H Q _ => ∃ x dx p d ad M U, s = .ref x ∧ a = .ref p ∧ H x = some (.ins (He.ga K "Run") dx []) ∧ PlayAt K U H p d ad M ∧ ¬ footP p d ad M x ∧
  ∀ H' ds as lc, RunAt K U H' x ds as lc [] (scenes M) [] → (∀ b o, H b = some o → b ≠ x → H' b = some o) → (∀ b, footR x ds as lc [] (scenes M) b → b = x ∨ H b = none) → Q .non H'
theorem sc_Run___init__ : FnScope ["self", "play", "number", "told"] ["self", "play"] (defScope s_Run___init__) := ⟨rfl, rfl, rfl, by decide +kernel, rfl, by decide +kernel, by decide +kernel⟩
theorem d_Run___init__ (T : Txt K mg) : IDef P w K mg base (He.ma K (He.ga K "Run") "__init__") 5 ["self", "play"] (spRunInit K) := by
  have d_Play_numbers := d_Play_numbers (P := P) (w := w) (base := base) T
  have d_Play_cue := d_Play_cue (P := P) (w := w) (base := base) T
  have d_Scene___init__ := d_Scene___init__ (P := P) (w := w) (base := base) T
  have d_Play_look := d_Play_look (P := P) (w := w) (base := base) T
  refine mkI T.d_Run___init__ sc_Run___init__ (fun _ _ _ _ _ _ us hl => match us, hl with | [_, _], _ => rfl) len2 (fun cdv A outer s H vs Q E hr h => ?_)
  obtain ⟨_, _, rfl, x, dx, p, d, ad, M, U, rfl, rfl, hx, hp, hxp, q⟩ := h
  have hu := hu_of hr
  refine ⟨_, (pss_cons (ps_fld (pv 0) pe_dnewK rfl)
    (pss_cons (ps_for (passes_of rfl) rfl (pi_list (pe_mt0 T.c_Play d_Play_numbers (hr.mono (by decide)) (passes_call (takes_of rfl rfl rfl rfl) fun _ _ _ _ h => h) (pv 1))) (pg_name (i := 2) sc_Run___init__.nd rfl (Or.inl rfl))
    (pss_cons (ps_set (i := 3) sc_Run___init__.nd rfl (Or.inl rfl) (pe_mt T.c_Play d_Play_cue (hr.mono (by decide)) (passes_call (takes_of rfl rfl rfl rfl) fun _ _ _ _ h => h) (pv 1) (pa_cons (pv 2) pa_nil)))
    (pss_one (ps_dput hu (pe_fld (pv 0) rfl) (pv 2) (pe_mk T.k_Scene d_Scene___init__ (hr.mono (by decide)) (by rfl) T.g_Scene (passes_call (takes_of rfl rfl rfl rfl) fun _ _ _ _ h => h) (pa_cons (pe_ix ix_tup (pv 3) pe_int (fun _ _ => rfl)) (pa_cons (pe_ix ix_tup (pv 3) pe_int (fun _ _ => rfl)) (pa_cons (pe_mt T.c_Play d_Play_look (hr.mono (by decide)) (passes_call (takes_of rfl rfl rfl rfl) fun _ _ _ _ h => h) (pv 1) (pa_cons (pv 2) pa_nil)) pa_nil)))) rfl))))
    (pss_one (ps_fld (pv 0) (pe_lst pa_nil) rfl)))), ?_⟩
  have g := hp.good
  intro ds nds
  have dsx : ds ≠ x := (ne_of_none hx nds).symm
  refine ⟨_, rfl, x, _, dx, _, rfl, by rw [upd_ne dsx.symm]; exact hx, T.c_Run, T.n_Run_scenes, by simp, ?_⟩
  have ex : (upd (upd H ds (.dK [])) x (.ins (He.ga K "Run") dx (putF "scenes" (.ref ds) []))) x = some (.ins (He.ga K "Run") dx [("scenes", .ref ds)]) := upd_same
  have ed : (upd (upd H ds (.dK [])) x (.ins (He.ga K "Run") dx (putF "scenes" (.ref ds) []))) ds = some (.dK []) := by rw [upd_ne dsx]; exact upd_same
  have k1 : ∀ b o, H b = some o → b ≠ x → (upd (upd H ds (.dK [])) x (.ins (He.ga K "Run") dx (putF "scenes" (.ref ds) []))) b = some o := fun b o e ne => by rw [upd_ne ne, upd_ne (ne_of_none e nds)]; exact e
  generalize upd (upd H ds (.dK [])) x (.ins (He.ga K "Run") dx (putF "scenes" (.ref ds) [])) = H1 at ex ed k1
  have xp : ∀ b, footP p d ad M b → b ≠ x := fun b h z => hxp (z ▸ h)
  have P1 : PlayAt K U H1 p d ad M := hp.frame fun b o h e => k1 b o e (xp b h)
  have T1 : TabAt (RcS K) none H1 ds (fun _ => (x, x)) [] := ⟨⟨[], ed, TK.nil⟩, fun n c h => (by cases h), fun n c h => (by cases h), fun n m c e h => (by cases h), fun n c h => (by cases h), fun n m c e h => (by cases h)⟩
  have f1 : ∀ b, foot ds (fun _ => (x, x)) [] b → H b = none := fun b h => by
    rcases h with h | ⟨n, c, h, _⟩
    · rw [h]; exact nds
    · cases h
  obtain ⟨dxp, obp⟩ := P1.ob
  refine ⟨_, rfl, _, _, _, rfl, obp, playF_no (by decide +kernel), _, rfl, p, d, ad, M, U, rfl, P1, fun H2 ln s2 nln eln => ⟨ln, rfl, ⟨_, .inl (.inl eln)⟩, ?_⟩⟩
  have nlnH : H ln = none := by
    cases e : H ln with
    | none => rfl
    | some o =>
      by_cases z : ln = x
      · rw [z, ex] at nln; cases nln
      · rw [k1 _ _ e z] at nln; cases nln
  refine for_list (K := K) (a := ln) (xs := nums M) (fun i σ H' => ∃ as v2 v3, σ = [some (.ref x), some (.ref p), v2, v3] ∧ H' x = some (.ins (He.ga K "Run") dx [("scenes", .ref ds)]) ∧ TabAt (RcS K) none H' ds as ((M.take i).map (sceneE M)) ∧ (∀ b o, H b = some o → b ≠ x → H' b = some o) ∧ (∀ b, foot ds as ((M.take i).map (sceneE M)) b → H b = none) ∧ H' ln = some (.lst (nums M)) ∧ ¬ foot ds as ((M.take i).map (sceneE M)) ln) ⟨_, none, none, rfl, s2 _ _ ex, T1.same s2, fun b o e ne => s2 _ _ (k1 b o e ne), f1, eln, fun h => ?_⟩ (fun i σ H' _ ⟨_, _, _, _, _, _, _, _, h, _⟩ => .inl (.inl h)) ?_ ?_
  · obtain ⟨o, e⟩ := T1.has h
    rw [nln] at e; cases e
  · rintro i y σ H3 hy ⟨as, v2, v3, rfl, ex3, T3, k3, f3, eln3, nl3⟩
    obtain ⟨e, he, rfl⟩ := nums_at hy
    have hm : e ∈ M := List.mem_of_getElem? he
    have hge : get M e.1 = some e.2 := get_of_mem g.nodup hm
    have P3 : PlayAt K U H3 p d ad M := hp.frame fun b o h z => k3 b o z (xp b h)
    obtain ⟨dx3, o3⟩ := P3.ob
    refine ⟨_, rfl, _, _, _, rfl, o3, playF_no (by decide +kernel), _, rfl, _, _, rfl, p, d, ad, M, U, rfl, P3, trivial, fun n c en hn H4 t w1 s4 nt nw1 et ew1 => ?_, fun z => absurd z (cue_some rfl hge)⟩
    cases en
    rw [hge] at hn
    cases hn
    have P4 := P3.same s4
    obtain ⟨dx4, o4⟩ := P4.ob
    refine ⟨_, rfl, _, _, _, _, rfl, rfl, .inl (.inl et), show atI [V.int e.2.up, .int e.2.down, .bl e.2.fresh, .ref w1] 0 = some _ from atI_nat (j := 0) rfl, _, rfl, _, _, _, _, rfl, rfl, .inl (.inl et), show atI [V.int e.2.up, .int e.2.down, .bl e.2.fresh, .ref w1] 1 = some _ from atI_nat (j := 1) rfl, ?_⟩
    refine ⟨_, rfl, _, _, _, rfl, o4, playF_no (by decide +kernel), _, rfl, _, _, rfl, p, d, ad, M, U, rfl, P4, trivial, fun n c en hn H5 w2 s5 nw2 ew2 => ?_, fun z => absurd z (cue_some rfl hge)⟩
    cases en
    have s35 := s4.trans s5
    have ex5 := s35 _ _ ex3
    have eln5 := s35 _ _ eln3
    have T5 := T3.same s35
    intro z dz nz ndz ndzz
    have zw : z ≠ w2 := (ne_of_none ew2 nz).symm
    refine ⟨_, _, _, _, rfl, z, dz, w2, _, _, rfl, rfl, rfl, rfl, upd_same, rfl, ?_⟩
    have k6 : ∀ b o, H5 b = some o → (upd (upd (upd H5 dz (.own z)) z (.ins (He.ga K "Scene") dz [])) z (.ins (He.ga K "Scene") dz (sceneF e.2.up e.2.down w2))) b = some o := fun b o h => by rw [upd_ne (ne_of_none h nz), upd_ne (ne_of_none h nz), upd_ne (ne_of_none h ndz)]; exact h
    have ez : (upd (upd (upd H5 dz (.own z)) z (.ins (He.ga K "Scene") dz [])) z (.ins (He.ga K "Scene") dz (sceneF e.2.up e.2.down w2))) z = some (.ins (He.ga K "Scene") dz (sceneF e.2.up e.2.down w2)) := upd_same
    generalize upd (upd (upd H5 dz (.own z)) z (.ins (He.ga K "Scene") dz [])) z (.ins (He.ga K "Scene") dz (sceneF e.2.up e.2.down w2)) = H6 at k6 ez
    have T6 := T5.same k6
    obtain ⟨kvs, hd6, tk⟩ := T6.top
    have hd6 : H6 ds = some (.dK kvs) := hd6
    have srt : Rising ltI ((M.take i).map (sceneE M)) := by
      show List.Pairwise _ _
      rw [List.map_map]
      exact g.srt.sublist ((List.take_sublist i M).map _)
    have tl := tk.len srt
    have hlen := g.len
    refine ⟨_, rfl, x, _, dx, _, _, rfl, k6 _ _ ex5, T.c_Run, T.n_Run_scenes, lookup_hit (by decide +kernel), _, rfl, ds, _, rfl, DPut.k (k := Sum.inl e.1) hd6 (by rw [sizeLine_eq, tl, List.length_map, List.length_take]; omega), ?_⟩
    have nH : ∀ b, H3 b = none → b ≠ x := fun b h z => by rw [z, ex3] at h; cases h
    have nz3 : H3 z = none := s35.free nz
    have nw3 : H3 w2 = none := s4.free nw2
    have nz0 : ¬ foot ds as ((M.take i).map (sceneE M)) z := fun h => by obtain ⟨o, e⟩ := T3.has h; rw [nz3] at e; cases e
    have nw0 : ¬ foot ds as ((M.take i).map (sceneE M)) w2 := fun h => by obtain ⟨o, e⟩ := T3.has h; rw [nw3] at e; cases e
    have zd : z ≠ ds := fun h => nz0 (.inl h)
    have wd : w2 ≠ ds := fun h => nw0 (.inl h)
    have tb := T6.add (c := (sceneE M e).2) (H' := upd H6 ds (.dK (putK kvs (Sum.inl e.1) (.ref z)))) hd6 upd_same (by rw [upd_ne zd]; exact ez) ⟨dz, rfl⟩ ⟨_, by rw [upd_ne wd]; exact k6 _ _ ew2, WK.dW (rising_nodup linS (look_rising M e.1))⟩ nz0 nw0 zw (fun b o _ ne h => by rw [upd_ne ne]; exact h)
    have eb : put ltI e.1 (sceneE M e).2 ((M.take i).map (sceneE M)) = (M.take (i + 1)).map (sceneE M) := by
      rw [take_snoc he, List.map_append, put_endB]
      · rfl
      · intro b hb
        obtain ⟨b0, hb0, rfl⟩ := List.mem_map.mp hb
        have srt : Rising ltI (M.take (i + 1)) := g.srt.sublist ((List.take_sublist _ _).map _)
        rw [take_snoc he] at srt
        unfold Rising at srt
        rw [List.map_append, List.pairwise_append] at srt
        exact srt.2.2 b0.1 (List.mem_map.mpr ⟨b0, hb0, rfl⟩) e.1 (by simp)
    have noneH : ∀ b, H3 b = none → H b = none := fun b h => by
      cases z : H b with
      | none => rfl
      | some o =>
        by_cases y : b = x
        · rw [y, ex3] at h; cases h
        · rw [k3 b o z y] at h; cases h
    have fA : ∀ b, foot ds (adSet as e.1 (z, w2)) (put ltI e.1 (sceneE M e).2 ((M.take i).map (sceneE M))) b → H b = none := fun b h => by
      rcases foot_add h with h | h | h
      · exact f3 b h
      · rw [h]; exact noneH _ nz3
      · rw [h]; exact noneH _ nw3
    have lnd : ln ≠ ds := fun h => nl3 (.inl h)
    have nlA : ¬ foot ds (adSet as e.1 (z, w2)) (put ltI e.1 (sceneE M e).2 ((M.take i).map (sceneE M))) ln := fun h => by
      rcases foot_add h with h | h | h
      · exact nl3 h
      · rw [h, nz3] at eln3; cases eln3
      · rw [h, nw3] at eln3; cases eln3
    rw [eb] at tb fA nlA
    exact ⟨_, _, _, rfl, by rw [upd_ne dsx.symm]; exact k6 _ _ ex5, tb, fun b o h ne => by rw [upd_ne (ne_of_none h nds)]; exact k6 _ _ (s35 _ _ (k3 b o h ne)), fA, by rw [upd_ne lnd]; exact k6 _ _ eln5, nlA⟩
  · rintro σ H3 ⟨as, v2, v3, rfl, ex3, T3, k3, f3, _, _⟩
    have e0 : (nums M).length = M.length := by simp [nums]
    rw [e0, List.take_length] at T3 f3
    refine ⟨by simp [sizeLine_eq], fun lc nlc => ?_⟩
    have lx : lc ≠ x := (ne_of_none ex3 nlc).symm
    refine ⟨_, rfl, x, _, dx, _, rfl, by rw [upd_ne lx.symm]; exact ex3, T.c_Run, T.n_Run_called, Nat.le_trans (Nat.succ_le_succ (Nat.le_refl _)) (by simp), ?_⟩
    have nlf : ¬ foot ds as (scenes M) lc := fun h => by obtain ⟨o, e⟩ := T3.has h; rw [nlc] at e; cases e
    have xf : ¬ foot ds as (scenes M) x := fun h => by rw [f3 x h] at hx; cases hx
    have nlH : H lc = none := by
      cases z : H lc with
      | none => rfl
      | some o => rw [k3 _ _ z lx] at nlc; cases nlc
    have f1 : ¬ (("scenes" : Str) = "called") := by decide +kernel
    refine q _ ds as lc ⟨⟨dx, ?_⟩, T3.frame fun b o h e => by rw [upd_ne fun (z : b = x) => xf (z ▸ h), upd_ne (ne_of_none e nlc)]; exact e, by rw [upd_ne lx]; exact upd_same, .nil, ⟨xf, nlf⟩, scenes_good g, hp.lamps, ⟨by simp, by simp, .nil⟩⟩ (fun b o e ne => by rw [upd_ne ne, upd_ne (ne_of_none e nlH)]; exact k3 b o e ne) fun b h => ?_
    · rw [upd_same]
      simp only [putF, if_neg f1]
      rfl
    · rcases h with h | h | h | h
      · exact .inl h
      · exact .inr (h ▸ nlH)
      · cases h
      · exact .inr (f3 b h)
end

/-! ## Calls of a run -/
/-- a moment that may be called next -/
def momentOk (cs : Cs) (m : V) : Bool := wholeV 0 1000000000 m && (match cs.getLast?, m with
  | none, _ => true
  | some c, .int i => decide (c.2 ≤ i)
  | some _, _ => false)
/-- the refusal that is due of a call, or no word -/
def dueC (S : Book) (cs : Cs) (n m : V) : Str := match cueOf S n with
  | none => "cue"
  | some _ => if momentOk cs m = false then "time" else if 20 ≤ cs.length then "many" else ""
theorem dueC_cue {S : Book} {cs : Cs} {n m : V} (h : cueOf S n = none) : dueC S cs n m = "cue" := by unfold dueC; rw [h]
theorem dueC_some {S : Book} {cs : Cs} {n m : V} {c : CueC} (h : cueOf S n = some c) : dueC S cs n m = (if momentOk cs m = false then ("time" : Str) else if 20 ≤ cs.length then ("many" : Str) else ("" : Str)) := by unfold dueC; rw [h]
def lastN (cs : Cs) : Int := (cs.getLast?.map (·.1)).getD 0
def prv (M : Book) (n : Int) : Option Int := ((M.map (·.1)).filter fun i => decide (i < n)).getLast?
theorem prv_mem {M : Book} {n m : Int} (h : prv M n = some m) : m ∈ M.map (·.1) ∧ m < n := by
  have := List.mem_of_getLast? h
  obtain ⟨a, b⟩ := List.mem_filter.mp this
  exact ⟨a, by simpa using b⟩
def tupI (c : Int × Int) : PyData := .tuple [.int c.1, .int c.2]
theorem calls_dat {K : PySem.W.Frag} {H : Hp} {ts : List Addr} {cs : Cs} (h : CallsAt H ts cs) : Paired (fun x d => Dat K H x d 1) (ts.map V.ref) (cs.map tupI) := by
  unfold CallsAt at h
  induction h with
  | nil => exact .nil
  | cons h1 h2 ih =>
    refine .cons ?_ ih
    exact dat_tup (xs := [_, _]) (.inl (.inl h1)) (by
      intro x hx
      simp only [List.mem_cons, List.not_mem_nil, or_false] at hx
      rcases hx with rfl | rfl <;> rfl)
theorem calls_last {H : Hp} {ts : List Addr} {cs : Cs} (h : CallsAt H ts cs) {c : Int × Int} (e : cs.getLast? = some c) : ∃ t, ts.getLast? = some t ∧ H t = some (.tup [.int c.1, .int c.2]) := by
  unfold CallsAt at h
  induction h with
  | nil => cases e
  | @cons t c' ts' cs' h1 h2 ih =>
    cases h2 with
    | nil =>
      cases e
      exact ⟨t, rfl, h1⟩
    | cons h3 h4 =>
      rw [List.getLast?_cons_cons] at e ⊢
      exact ih e
theorem pw_last {cs : Cs} (h : cs.Pairwise fun a b => a.2 ≤ b.2) {c : Int × Int} (hl : cs.getLast? = some c) : ∀ a ∈ cs, a.2 ≤ c.2 := by
  obtain ⟨ys, rfl⟩ := List.getLast?_eq_some_iff.mp hl
  intro a ha
  rcases List.mem_append.mp ha with h' | h'
  · exact (List.pairwise_append.mp h).2.2 a h' c (by simp)
  · rw [List.mem_singleton.mp h']; exact Int.le_refl _
theorem at_last {xs : List V} {v : V} (h : xs.getLast? = some v) : atI xs (-1) = some v := by
  have hne : xs ≠ [] := fun z => by rw [z] at h; cases h
  have hl : 0 < xs.length := List.length_pos_iff.mpr hne
  unfold atI ixN
  rw [if_neg (by decide), if_pos (by omega)]
  show xs[((-1 : Int) + xs.length).toNat]? = some v
  have : ((-1 : Int) + xs.length).toNat = xs.length - 1 := by omega
  rw [this, ← List.getLast?_eq_getElem?]
  exact h
theorem ints_filter (f : V → Bool) (g : Int → Bool) (h : ∀ i, f (.int i) = g i) : ∀ l : List Int, (l.map V.int).filter f = (l.filter g).map V.int
  | [] => rfl
  | a :: r => by
    have ih := ints_filter f g h r
    rw [List.map_cons, List.filter_cons, List.filter_cons, h, ih]
    by_cases c : g a = true
    · rw [if_pos c, if_pos c]; rfl
    · rw [if_neg c, if_neg c]
section
variable {P : Program} {w : World} {K : PySem.W.Frag} {mg : Str → Option Value} {base : Heap}
def spRCall (K : PySem.W.Frag) : Sp := sp3 fun s n m H Q E => ∃ r ds as lc ts S cs U, s = .ref r ∧ RunAt K U H r ds as lc ts S cs ∧ Pl H n ∧ Pl H m ∧ (dueC S cs n m = "cue" → Er K "NoCue" E H) ∧ (dueC S cs n m = "time" → Er K "NoTime" E H) ∧ (dueC S cs n m = "many" → Er K "TooMany" E H) ∧
  (dueC S cs n m = "" → ∀ k i H' t, n = .int k → m = .int i → RunAt K U H' r ds as lc (ts ++ [t]) S (cs ++ [(k, i)]) → (∀ b o, H b = some o → b ≠ lc → H' b = some o) → H t = none → Q .non H')
theorem sc_Run_call : FnScope ["self", "number", "moment"] ["self", "number", "moment"] (defScope s_Run_call) := ⟨rfl, rfl, rfl, by decide +kernel, rfl, by decide +kernel, by decide +kernel⟩
theorem d_Run_call (T : Txt K mg) : MDef P w K mg base (He.ga K "Run") 3 "call" ["self", "number", "moment"] [] (spRCall K) := by
  have d_is_moment := d_is_moment (P := P) (w := w) (base := base) T
  refine mkM T.d_Run_call T.m_Run_call sc_Run_call (fun _ _ _ _ _ _ us hl => match us, hl with | [_, _, _], _ => rfl) len3 (fun cdv A outer s H vs Q E hr h => ?_)
  obtain ⟨_, n, m, rfl, r, ds, as, lc, ts, S, cs, U, rfl, hR, pn, pm, e0, e1, e2, q⟩ := h
  have hu := hu_of hr
  refine ⟨_, (pss_cons (ps_if (PW.pt (pw_or (pt_val (pe_callB call_isBl (by rfl) T.z_isinstance (by decide +kernel) (pa_cons (pv 1) (pa_cons (pe_bltn (v := .ty "bool") rfl T.z_bool (by decide +kernel) rfl) pa_nil)))) (pw_or (pt_not (pt_val (pe_callB call_isInt (by rfl) T.z_isinstance (by decide +kernel) (pa_cons (pv 1) (pa_cons (pe_bltn (v := .ty "int") rfl T.z_int (by decide +kernel) rfl) pa_nil))))) (pw_or1 (pt_cmp (pc_dnotin (by exact hu) (pv 1) (pe_fld (pv 0) rfl)))))))
    (pss_one (ps_raise rfl (takes_of rfl rfl rfl rfl) (pmk_own PySem.F.excBase_ValueError T.x_NoCue.1 T.g_NoCue T.x_NoCue.2.1 (raises_own T.x_NoCue.2.2.1 T.x_NoCue.2.2.2) rfl)))
    pss_nil)
    (pss_cons (ps_if (PW.pt (pw_or (pt_not (pt_val (pe_fn d_is_moment (hr.mono (by decide)) (by rfl) (passes_call (takes_of rfl rfl rfl rfl) fun _ _ _ _ h => h) (pa_cons (pv 2) pa_nil)))) (pw_or1 (PW.pt (pw_and (pt_cmpR (op_neD hr.units) (pe_fld (pv 0) rfl) (pe_lst pa_nil) (nomark _)) (pw_and1 (pt_cmpR op_lt (pv 2) (pe_ix ix_tup (pe_ix ix_list (pe_fld (pv 0) rfl) (pe_un un_neg pe_int) (fun _ _ => rfl)) pe_int (fun _ _ => rfl)) (nomark _))))))))
    (pss_one (ps_raise rfl (takes_of rfl rfl rfl rfl) (pmk_own PySem.F.excBase_ValueError T.x_NoTime.1 T.g_NoTime T.x_NoTime.2.1 (raises_own T.x_NoTime.2.2.1 T.x_NoTime.2.2.2) rfl)))
    pss_nil)
    (pss_cons (ps_if (pt_cmpR op_ge (pe_callB call_len_seq (by rfl) T.z_len (by decide +kernel) (pa_cons (pe_fld (pv 0) rfl) pa_nil)) (pe_glob (v := .int 20) rfl (T.g_MOST_CALLS).choose_spec ⟨_, rfl⟩) (nomark _))
    (pss_one (ps_raise rfl (takes_of rfl rfl rfl rfl) (pmk_own PySem.F.excBase_ValueError T.x_TooMany.1 T.g_TooMany T.x_TooMany.2.1 (raises_own T.x_TooMany.2.2.1 T.x_TooMany.2.2.2) rfl)))
    pss_nil)
    (pss_one (ps_expr (pe_bm PySem.F.plainAttrs_list PySem.F.slot_list_append PySem.F.type_list_append mt_append (pe_fld (pv 0) rfl) (pa_cons (pe_tup (pa_cons (pv 1) (pa_cons (pv 2) pa_nil))) pa_nil))))))), ?_⟩
  obtain ⟨dx, ob⟩ := hR.ob
  obtain ⟨kvs, hd, tk⟩ := hR.tb.top
  have hd : H ds = some (.dK kvs) := hd
  have bad : cueOf S n = none → Er K "NoCue" E H := fun h => e0 (dueC_cue h)
  have kind : isBl n = true ∨ (isBl n = false ∧ isInt n = false) ∨ ∃ k, n = .int k := by
    cases n with
    | bl b => exact .inl rfl
    | int k => exact .inr (.inr ⟨k, rfl⟩)
    | _ => exact .inr (.inl ⟨rfl, rfl⟩)
  rcases kind with h | ⟨h, h2⟩ | ⟨k, rfl⟩
  · refine ⟨_, rfl, _, rfl, pn, _, rfl, iteY h (iteT (bad ?_ H (Same.refl H)))⟩
    cases n with
    | bl b => rfl
    | _ => cases h
  · refine ⟨_, rfl, _, rfl, pn, _, rfl, iteN h ⟨_, rfl, _, rfl, pn, _, rfl, iteY (by rw [h2]; rfl) (iteT (bad ?_ H (Same.refl H)))⟩⟩
    cases n with
    | int k => cases h2
    | _ => rfl
  refine ⟨_, rfl, _, rfl, pn, _, rfl, iteF ⟨_, rfl, _, rfl, pn, _, rfl, iteF ⟨_, rfl, _, rfl, r, _, dx, _, _, rfl, ob, T.c_Run, T.n_Run_scenes, runF_scenes, ds, _, rfl, tk.get (.inl hd) k, _, rfl, ?_⟩⟩⟩
  cases hg : get S k with
  | none => exact iteT (bad hg H (Same.refl H))
  | some c =>
    have hdue := dueC_some (cs := cs) (m := m) (show cueOf S (.int k) = some c from hg)
    refine iteF ⟨_, rfl, _, rfl, pm, _, rfl, ?_⟩
    cases c1 : wholeV 0 1000000000 m with
    | false =>
      have h1 : momentOk cs m = false := by unfold momentOk; rw [c1]; rfl
      rw [if_pos h1] at hdue
      exact iteT (e1 hdue H (Same.refl H))
    | true =>
      obtain ⟨i, rfl, hi⟩ := whole_int c1
      refine iteF ⟨_, rfl, r, _, dx, _, _, rfl, ob, T.c_Run, T.n_Run_called, runF_called, by simp [sizeLine_eq], fun e ne => ?_⟩
      have se := same_upd (o := HO.lst []) ne
      have Re := hR.same se
      have De := dat_lstD (K := K) (.inl (.inl Re.cl)) (calls_dat (K := K) Re.ct)
      refine neD_nil De upd_same (by decide) ⟨_, rfl, ?_⟩
      generalize upd H e (.lst []) = H1 at se Re De
      obtain ⟨_, ob1⟩ := Re.ob
      have second : ∀ c', cs.getLast? = some c' → ∃ t', ts.getLast? = some t' ∧ H1 t' = some (.tup [.int c'.1, .int c'.2]) := fun c' h => calls_last Re.ct h
      have mapl : ∀ t', ts.getLast? = some t' → atI (ts.map V.ref) (-1) = some (V.ref t') := fun t' h => at_last (by rw [List.getLast?_map, h]; rfl)
      have ix1 : ∀ a b : Int, atI [V.int a, .int b] 1 = some (.int b) := fun a b => atI_nat (j := 1) rfl
      cases hm : momentOk cs (.int i) with
      | false =>
        rw [if_pos hm] at hdue
        cases hl : cs.getLast? with
        | none =>
          unfold momentOk at hm
          rw [hl, c1] at hm
          cases hm
        | some c' =>
          have hlt : i < c'.2 := by
            unfold momentOk at hm
            rw [hl, c1] at hm
            have hm : decide (c'.2 ≤ i) = false := by simpa using hm
            have := of_decide_eq_false hm
            omega
          obtain ⟨t', ht', et'⟩ := second c' hl
          have hne : (!(cs.map tupI).isEmpty) = true := by
            cases cs with
            | nil => cases hl
            | cons _ _ => rfl
          refine iteY hne ⟨_, rfl, _, rfl, r, _, dx, _, _, rfl, se _ _ ob, T.c_Run, T.n_Run_called, runF_called, _, rfl, _, _, _, _, rfl, rfl, .inl (.inl Re.cl), mapl t' ht', _, _, _, _, rfl, rfl, .inl (.inl et'), ix1 _ _, _, _, rfl, rfl, _, rfl, iteY (decide_eq_true hlt) ?_⟩
          exact e1 hdue H1 se
      | true =>
        rw [if_neg (by rw [hm]; simp)] at hdue
        refine ite_share ?_ fun hne hR' => ?_
        · refine ⟨_, rfl, r, _, dx, _, _, rfl, se _ _ ob, T.c_Run, T.n_Run_called, runF_called, lc, _, rfl, .inl (.inl (.inl Re.cl)), _, _, rfl, rfl, _, rfl, ?_⟩
          have el : (ts.map V.ref).length = cs.length := by rw [List.length_map]; exact paired_len Re.ct
          rw [el]
          by_cases c20 : 20 ≤ cs.length
          · rw [if_pos c20] at hdue
            exact iteY (decide_eq_true (by omega)) (e2 hdue H1 se)
          · rw [if_neg c20] at hdue
            refine iteN (decide_eq_false (by omega)) ⟨_, rfl, r, _, dx, _, _, rfl, se _ _ ob, T.c_Run, T.n_Run_called, runF_called, .inl ⟨rfl, _, .inl (.inl Re.cl)⟩, _, rfl, _, rfl, by simp [sizeLine_eq], fun t nt => ?_⟩
            have st := same_upd (o := HO.tup [.int k, .int i]) nt
            refine ⟨lc, _, _, rfl, rfl, st _ _ Re.cl, by rw [el, sizeLine_eq]; omega, ?_⟩
            have sHt := se.trans st
            have tl : t ≠ lc := (ne_of_none Re.cl nt).symm
            have rl : r ≠ lc := fun z => by rw [z, hR.cl] at ob; cases ob
            have lcs : ¬ foot ds as S lc := hR.off.2
            have tup_ne : ∀ {b : Addr} {xs : List V}, (upd H1 t (.tup [.int k, .int i])) b = some (.tup xs) → b ≠ lc := fun {b xs} h z => by rw [z, st _ _ Re.cl] at h; cases h
            refine q hdue k i _ t rfl rfl ⟨⟨dx, by rw [upd_ne rl]; exact sHt _ _ ob⟩, (hR.tb.same sHt).frame fun b o h e => by rw [upd_ne fun (z : b = lc) => lcs (z ▸ h)]; exact e, by rw [upd_same, List.map_append]; rfl, ?_, hR.off, hR.good, hR.lamps, ⟨?_, ?_, ?_⟩⟩ (fun b o e ne => by rw [upd_ne ne]; exact sHt _ _ e) (se.free nt)
            · refine paired_snoc (paired_imp (fun a b h => by rw [upd_ne (tup_ne (st _ _ (se _ _ h)))]; exact st _ _ (se _ _ h)) hR.ct) ?_
              show (upd (upd H1 t _) lc _) t = _
              rw [upd_ne tl]; exact upd_same
            · rw [List.length_append]; show cs.length + 1 ≤ 20; omega
            · intro c' hc'
              rcases List.mem_append.mp hc' with h | h
              · exact hR.cs.ok c' h
              · rw [List.mem_singleton.mp h]; exact ⟨⟨c, hg⟩, hi⟩
            · rw [List.pairwise_append]
              refine ⟨hR.cs.ord, List.pairwise_singleton _ _, fun a ha b hb => ?_⟩
              rw [List.mem_singleton.mp hb]
              show a.2 ≤ i
              cases hl : cs.getLast? with
              | none => rw [List.getLast?_eq_none_iff.mp hl] at ha; cases ha
              | some c' =>
                have h1 : c'.2 ≤ i := by
                  unfold momentOk at hm
                  rw [hl, c1] at hm
                  simpa using hm
                have h2 : a.2 ≤ c'.2 := pw_last hR.cs.ord hl a ha
                omega
        · cases hl : cs.getLast? with
          | none =>
            rw [List.getLast?_eq_none_iff.mp hl] at hne
            cases hne
          | some c' =>
            have hlt : ¬ i < c'.2 := by
              unfold momentOk at hm
              rw [hl, c1] at hm
              have : c'.2 ≤ i := by simpa using hm
              omega
            obtain ⟨t', ht', et'⟩ := second c' hl
            exact ⟨_, rfl, _, rfl, r, _, dx, _, _, rfl, se _ _ ob, T.c_Run, T.n_Run_called, runF_called, _, rfl, _, _, _, _, rfl, rfl, .inl (.inl Re.cl), mapl t' ht', _, _, _, _, rfl, rfl, .inl (.inl et'), ix1 _ _, _, _, rfl, rfl, _, rfl, iteN (decide_eq_false hlt) hR'⟩
def spGo (K : PySem.W.Frag) : Sp := sp2 fun s m H Q E => ∃ r ds as lc ts S cs U, s = .ref r ∧ RunAt K U H r ds as lc ts S cs ∧ Pl H m ∧ (nxt S (lastN cs) = none → Er K "NoCue" E H) ∧
  ∀ k, nxt S (lastN cs) = some k → (dueC S cs (.int k) m = "time" → Er K "NoTime" E H) ∧ (dueC S cs (.int k) m = "many" → Er K "TooMany" E H) ∧
    (dueC S cs (.int k) m = "" → ∀ i H' t, m = .int i → RunAt K U H' r ds as lc (ts ++ [t]) S (cs ++ [(k, i)]) → (∀ b o, H b = some o → b ≠ lc → H' b = some o) → H t = none → Q (.int k) H')
def spBack (K : PySem.W.Frag) : Sp := sp2 fun s m H Q E => ∃ r ds as lc ts S cs U, s = .ref r ∧ RunAt K U H r ds as lc ts S cs ∧ Pl H m ∧ (prv S (lastN cs) = none → Er K "NoCue" E H) ∧
  ∀ k, prv S (lastN cs) = some k → (dueC S cs (.int k) m = "time" → Er K "NoTime" E H) ∧ (dueC S cs (.int k) m = "many" → Er K "TooMany" E H) ∧
    (dueC S cs (.int k) m = "" → ∀ i H' t, m = .int i → RunAt K U H' r ds as lc (ts ++ [t]) S (cs ++ [(k, i)]) → (∀ b o, H b = some o → b ≠ lc → H' b = some o) → H t = none → Q (.int k) H')
def spCalls (K : PySem.W.Frag) : Sp := sp1 fun s H Q _ => ∃ r ds as lc ts S cs U, s = .ref r ∧ RunAt K U H r ds as lc ts S cs ∧ ∀ H' l, Same H H' → H l = none → H' l = some (.lst (ts.map V.ref)) → Q (.ref l) H'
theorem sc_Run_calls : FnScope ["self"] ["self"] (defScope s_Run_calls) := ⟨rfl, rfl, rfl, by decide +kernel, rfl, by decide +kernel, by decide +kernel⟩
theorem d_Run_calls (T : Txt K mg) : MDef P w K mg base (He.ga K "Run") 1 "calls" ["self"] [] (spCalls K) := by
  refine mkM T.d_Run_calls T.m_Run_calls sc_Run_calls (fun _ _ _ _ _ _ us hl => match us, hl with | [_], _ => rfl) len1 (BodyN.up fun cdv A outer s H vs Q E hr h => ?_)
  obtain ⟨_, rfl, r, ds, as, lc, ts, S, cs, U, rfl, hR, q⟩ := h
  have hu := hu_of hr
  refine ⟨_, (pss_one (ps_ret (pe_callTy call_list_of (by rfl) T.z_list (by decide +kernel) (pa_cons (pe_fld (pv 0) rfl) pa_nil)))), ?_⟩
  obtain ⟨dx, ob⟩ := hR.ob
  refine ⟨_, rfl, r, _, dx, _, _, rfl, ob, T.c_Run, T.n_Run_called, runF_called, lc, _, rfl, .inl (.inl (.inl hR.cl)), fun l nl => ?_⟩
  exact q _ l (same_upd nl) nl upd_same
end

/-! ## Fractions: where a lamp is -/
abbrev Frac := Int × Int
def gcdI (a b : Int) : Int := ((Int.gcd a b : Nat) : Int)
def lowF (a b : Int) : Frac := (a / gcdI a b, b / gcdI a b)
theorem gcd_step {a b : Int} (ha : 0 ≤ a) (hb : 0 < b) : gcdI b (a % b) = gcdI a b := by
  obtain ⟨m, rfl⟩ := Int.eq_ofNat_of_zero_le ha
  obtain ⟨n, rfl⟩ := Int.eq_ofNat_of_zero_le (Int.le_of_lt hb)
  show (((Nat.gcd n (m % n)) : Nat) : Int) = ((Nat.gcd m n : Nat) : Int)
  rw [Nat.gcd_comm m n, Nat.gcd_rec n m, Nat.gcd_comm]
theorem gcd_end {a : Int} (ha : 0 ≤ a) : gcdI a 0 = a := by
  obtain ⟨m, rfl⟩ := Int.eq_ofNat_of_zero_le ha
  unfold gcdI
  rw [Int.gcd_zero_right]; rfl
theorem gcdI_pos {a b : Int} (hb : 0 < b) : 0 < gcdI a b := by
  unfold gcdI
  have : 0 < Int.gcd a b := Int.gcd_pos_iff.mpr (.inr (by omega))
  omega
theorem gcdI_dl (a b : Int) : gcdI a b ∣ a := Int.gcd_dvd_left a b
theorem gcdI_dr (a b : Int) : gcdI a b ∣ b := Int.gcd_dvd_right a b
/-- a fraction that may be told: between dark and full, lowest, below 2 ^ m -/
structure FOk (m : Nat) (f : Frac) : Prop where
  a0 : 0 ≤ f.1
  b1 : 1 ≤ f.2
  ab : f.1 ≤ 100 * f.2
  bm : f.2 < 2 ^ m
  co : gcdI f.1 f.2 = 1
theorem FOk.up {m n : Nat} {f : Frac} (h : FOk m f) (k : m ≤ n) : FOk n f := ⟨h.a0, h.b1, h.ab, Int.lt_of_lt_of_le h.bm (by
  have : (2 : Nat) ^ m ≤ 2 ^ n := Nat.pow_le_pow_right (by decide) k
  have h2 : ((2 ^ m : Nat) : Int) ≤ ((2 ^ n : Nat) : Int) := Int.ofNat_le.mpr this
  rw [Int.natCast_pow, Int.natCast_pow] at h2
  exact h2), h.co⟩
theorem fok_goal {g : Int} (h : 0 ≤ g ∧ g ≤ 100) : FOk 1 (g, 1) := ⟨h.1, by show (1 : Int) ≤ 1; decide, by show g ≤ 100 * 1; omega, by show (1 : Int) < 2 ^ 1; decide, by
  show gcdI g 1 = 1
  unfold gcdI
  rw [Int.gcd_one_right]; rfl⟩
theorem div_exact {a d : Int} (h : d ∣ a) : d * (a / d) = a := Int.mul_ediv_cancel' h
/-- made lowest -/
theorem fok_low {m : Nat} {a b : Int} (ha : 0 ≤ a) (hb : 1 ≤ b) (hab : a ≤ 100 * b) (hm : b < 2 ^ m) : FOk m (lowF a b) := by
  have hg := gcdI_pos (a := a) (b := b) (by omega)
  have e1 := div_exact (gcdI_dl a b)
  have e2 := div_exact (gcdI_dr a b)
  have hb' : 0 < b / gcdI a b := by
    refine Int.not_le.mp fun h => ?_
    have := Int.mul_le_mul_of_nonneg_left h (c := gcdI a b) (by omega)
    rw [e2, Int.mul_zero] at this
    omega
  refine ⟨Int.ediv_nonneg ha (by omega), hb', ?_, ?_, ?_⟩
  · show a / gcdI a b ≤ 100 * (b / gcdI a b)
    refine Int.le_of_mul_le_mul_left (a := gcdI a b) ?_ hg
    rw [e1, show gcdI a b * (100 * (b / gcdI a b)) = 100 * (gcdI a b * (b / gcdI a b)) by rw [← Int.mul_assoc, Int.mul_comm (gcdI a b) 100, Int.mul_assoc], e2]
    exact hab
  · show b / gcdI a b < 2 ^ m
    have : b / gcdI a b ≤ b := Int.ediv_le_self _ (by omega)
    omega
  · show gcdI (a / gcdI a b) (b / gcdI a b) = 1
    unfold gcdI at hg ⊢
    have := Int.gcd_ediv_gcd_ediv_gcd (i := a) (j := b) (by omega)
    omega
/-- two fractions in lowest terms are one, if they are as great -/
theorem frac_eq {m n : Nat} {f h : Frac} (hf : FOk m f) (hh : FOk n h) (e : f.1 * h.2 = h.1 * f.2) : f = h := by
  obtain ⟨a, b⟩ := f
  obtain ⟨c, d⟩ := h
  have e : a * d = c * b := e
  have b1 : 1 ≤ b := hf.b1
  have d1 : 1 ≤ d := hh.b1
  have k1 : Int.gcd a b = 1 := by have : gcdI a b = 1 := hf.co; unfold gcdI at this; omega
  have k2 : Int.gcd c d = 1 := by have : gcdI c d = 1 := hh.co; unfold gcdI at this; omega
  have en : a.natAbs * d.natAbs = c.natAbs * b.natAbs := by rw [← Int.natAbs_mul, ← Int.natAbs_mul, e]
  have h1 : b ∣ d := Int.natAbs_dvd_natAbs.mp (Nat.Coprime.dvd_of_dvd_mul_left (k := b.natAbs) (m := a.natAbs) (by rw [Nat.Coprime, Nat.gcd_comm]; exact k1) ⟨c.natAbs, by rw [en, Nat.mul_comm]⟩)
  have h2 : d ∣ b := Int.natAbs_dvd_natAbs.mp (Nat.Coprime.dvd_of_dvd_mul_left (k := d.natAbs) (m := c.natAbs) (by rw [Nat.Coprime, Nat.gcd_comm]; exact k2) ⟨a.natAbs, by rw [← en, Nat.mul_comm]⟩)
  have ebd : b = d := Int.dvd_antisymm (by omega) (by omega) h1 h2
  subst ebd
  have : a = c := Int.eq_of_mul_eq_mul_right (by omega) e
  rw [this]
theorem goal_iff {m : Nat} {f : Frac} {g : Int} (hf : FOk m f) (hg : 0 ≤ g ∧ g ≤ 100) : f = (g, 1) ↔ f.1 = g * f.2 := by
  constructor
  · rintro rfl; simp
  · intro h
    exact frac_eq hf (fok_goal hg) (by show f.1 * 1 = g * f.2; omega)
/-- how long a lamp goes -/
def lenF (f : Frac) (g up down : Int) : Int := if f = (g, 1) then 0 else if f.1 * 1 < g * f.2 then up else down
/-- where it is, so long behind the call -/
def wayF (f : Frac) (g gone len : Int) : Frac := if len ≤ gone then (g, 1) else lowF (f.1 * 1 * (len - gone) + g * f.2 * gone) (f.2 * 1 * len)
theorem way_parts {m : Nat} {f : Frac} {g gone len : Int} (hf : FOk m f) (hg : 0 ≤ g ∧ g ≤ 100) (h0 : 0 ≤ gone) (hl : gone < len) (h6 : len ≤ 6000) :
    0 ≤ f.1 * 1 * (len - gone) + g * f.2 * gone ∧ 1 ≤ f.2 * 1 * len ∧ f.1 * 1 * (len - gone) + g * f.2 * gone ≤ 100 * (f.2 * 1 * len) ∧ f.2 * 1 * len < 2 ^ (m + 13) := by
  have a0 := hf.a0
  have b1 := hf.b1
  have p1 : 0 ≤ f.1 * 1 * (len - gone) := Int.mul_nonneg (by omega) (by omega)
  have gb : 0 ≤ g * f.2 := Int.mul_nonneg hg.1 (by omega)
  have p2 : 0 ≤ g * f.2 * gone := Int.mul_nonneg gb h0
  have gb2 : g * f.2 ≤ 100 * f.2 := Int.mul_le_mul_of_nonneg_right hg.2 (by omega)
  have q1 : f.1 * 1 * (len - gone) ≤ 100 * f.2 * (len - gone) := Int.mul_le_mul_of_nonneg_right (by have := hf.ab; omega) (by omega)
  have q2 : g * f.2 * gone ≤ 100 * f.2 * gone := Int.mul_le_mul_of_nonneg_right gb2 h0
  have e : 100 * f.2 * (len - gone) + 100 * f.2 * gone = 100 * (f.2 * 1 * len) := by
    rw [← Int.mul_add, Int.sub_add_cancel, Int.mul_one, Int.mul_assoc]
  have r1 : 1 * 1 ≤ f.2 * 1 * len := Int.mul_le_mul (by omega) (by omega) (by decide) (by omega)
  have r2 : f.2 * 1 * len ≤ f.2 * 1 * 6000 := Int.mul_le_mul_of_nonneg_left h6 (by omega)
  have r3 : (2 : Int) ^ (m + 13) = 2 ^ m * 8192 := by rw [Int.pow_add]; rfl
  have bm := hf.bm
  refine ⟨by omega, by omega, by omega, ?_⟩
  rw [r3]; omega
theorem way_ok {m : Nat} {f : Frac} {g gone len : Int} (hf : FOk m f) (hg : 0 ≤ g ∧ g ≤ 100) (h0 : 0 ≤ gone) (h6 : len ≤ 6000) : FOk (m + 13) (wayF f g gone len) := by
  unfold wayF
  by_cases hl : len ≤ gone
  · rw [if_pos hl]; exact (fok_goal hg).up (by omega)
  · rw [if_neg hl]
    obtain ⟨a, b, c, d⟩ := way_parts hf hg h0 (by omega) h6
    exact fok_low a b c d
theorem nat_of_lt {a : Int} {m : Nat} (h0 : 0 ≤ a) (h : a < 2 ^ m) : a.natAbs < 2 ^ m := by
  have e : ((2 ^ m : Nat) : Int) = 2 ^ m := by rw [Int.natCast_pow]; rfl
  omega
theorem FOk.na {m : Nat} {f : Frac} (h : FOk m f) : f.1.natAbs < 2 ^ (m + 7) := by
  have e : (2 : Int) ^ (m + 7) = 2 ^ m * 128 := by rw [Int.pow_add]; rfl
  have a := h.ab
  have b := h.bm
  have c := h.b1
  exact nat_of_lt h.a0 (by rw [e]; omega)
theorem FOk.nb {m : Nat} {f : Frac} (h : FOk m f) : f.2.natAbs < 2 ^ m := nat_of_lt (by have := h.b1; omega) h.bm

/-! ## Lights: fractions, scenes -/
theorem eqv_tupI (a b : Int × Int) : PyData.eqv (tupI a) (tupI b) = decide (a = b) := by
  obtain ⟨a1, a2⟩ := a
  obtain ⟨b1, b2⟩ := b
  rw [Bool.eq_iff_iff]
  simp [tupI, PyData.eqv, PyData.eqvAll]
theorem ix2_0 (a b : V) : atI [a, b] 0 = some a := atI_nat (j := 0) rfl
theorem ix2_1 (a b : V) : atI [a, b] 1 = some b := atI_nat (j := 1) rfl
theorem big_up {x : Int} {m n : Nat} (h : x.natAbs < 2 ^ m) (k : m ≤ n) : x.natAbs < 2 ^ n := Nat.lt_of_lt_of_le h (Nat.pow_le_pow_right (by decide) k)
theorem small_big {x : Int} {n : Nat} (h : x.natAbs < 2 ^ 13) (k : 13 ≤ n) : x.natAbs < 2 ^ n := big_up h k
theorem nabs_lt {x : Int} (h0 : 0 ≤ x) (h1 : x ≤ 6000) : x.natAbs < 2 ^ 13 := by omega
section
variable {P : Program} {w : World} {K : PySem.W.Frag} {mg : Str → Option Value} {base : Heap}
def spDivisor : Sp := sp2 fun a b H Q _ => ∃ x y : Int, a = .int x ∧ b = .int y ∧ 0 ≤ x ∧ 0 ≤ y ∧ Q (.int (gcdI x y)) H
theorem sc_divisor : FnScope ["one", "other"] ["one", "other"] (defScope s_divisor) := ⟨rfl, rfl, rfl, by decide +kernel, rfl, by decide +kernel, by decide +kernel⟩
theorem d_divisor (T : Txt K mg) : Def P w K mg base 1 "divisor" ["one", "other"] (spDivisor) := by
  refine mkDef T.d_divisor T.g_divisor sc_divisor (fun _ _ _ _ _ _ us hl => match us, hl with | [_, _], _ => rfl) len2 (BodyN.up fun cdv A outer s H vs Q E hr h => ?_)
  obtain ⟨_, _, rfl, x, y, rfl, rfl, hx, hy, q⟩ := h
  have hu := hu_of hr
  refine ⟨_, (pss_cons (ps_while PassesOwn.never (pt_cmpR op_gt (pv 1) pe_int (nomark _)) (pss_one (ps_par (i := 0) (j := 1) (by rfl) sc_divisor.nd rfl rfl (by decide) rfl rfl (pa_cons (pv 1) (pa_cons (pe_op op_mod (pv 0) (pv 1)) pa_nil)) (by rfl))))
    (pss_one (ps_ret (pv 0)))), ?_⟩
  refine while_by (fun σ H' => ∃ a b : Int, σ = [some (.int a), some (.int b)] ∧ H' = H ∧ 0 ≤ a ∧ 0 ≤ b ∧ gcdI a b = gcdI x y) (fun σ _ => match σ with | [_, some (.int b)] => b.toNat | _ => 0) ⟨x, y, rfl, rfl, hx, hy, rfl⟩ ?_ ?_
  · rintro σ H' ⟨a, b, rfl, rfl, ha, hb, e⟩
    refine ⟨_, rfl, _, _, rfl, rfl, _, rfl, ite2 (fun c => ?_) (fun c => ?_)⟩
    · have c : 0 < b := of_decide_eq_true c
      refine ⟨_, rfl, _, rfl, _, rfl, _, _, rfl, rfl, c, _, _, rfl, ⟨b, a % b, rfl, rfl, hb, Int.emod_nonneg _ (by omega), by rw [gcd_step ha c, e]⟩, ?_⟩
      show (a % b).toNat < b.toNat
      have := Int.emod_lt_of_pos a c
      have := Int.emod_nonneg a (by omega : b ≠ 0)
      omega
    · have c : ¬ 0 < b := fun z => c (decide_eq_true z)
      have : b = 0 := by omega
      subst this
      refine ⟨_, rfl, ?_⟩
      rw [← e, gcd_end ha] at q
      exact q
  · rintro σ H' Q1 Q2 h ⟨v, e1, i, j, e2, e3, b, e4, k⟩
    exact ⟨v, e1, i, j, e2, e3, b, e4, h _ _ k⟩
def spLowest : Sp := sp2 fun a b H Q _ => ∃ x y : Int, a = .int x ∧ b = .int y ∧ 0 ≤ x ∧ 1 ≤ y ∧ y.natAbs < 2 ^ 8000 ∧ ∀ H' t, Same H H' → H t = none → H' t = some (.tup [.int (lowF x y).1, .int (lowF x y).2]) → Q (.ref t) H'
theorem sc_lowest : FnScope ["above", "below", "by"] ["above", "below"] (defScope s_lowest) := ⟨rfl, rfl, rfl, by decide +kernel, rfl, by decide +kernel, by decide +kernel⟩
theorem d_lowest (T : Txt K mg) : Def P w K mg base 2 "lowest" ["above", "below"] (spLowest) := by
  have d_divisor := d_divisor (P := P) (w := w) (base := base) T
  refine mkDef T.d_lowest T.g_lowest sc_lowest (fun _ _ _ _ _ _ us hl => match us, hl with | [_, _], _ => rfl) len2 (BodyN.up fun cdv A outer s H vs Q E hr h => ?_)
  obtain ⟨_, _, rfl, x, y, rfl, rfl, hx, hy, hb, q⟩ := h
  have hu := hu_of hr
  refine ⟨_, (pss_cons (ps_set (i := 2) sc_lowest.nd rfl (Or.inl rfl) (pe_fn d_divisor (hr.mono (by decide)) (by rfl) passL (pa_cons (pv 0) (pa_cons (pv 1) pa_nil))))
    (pss_one (ps_ret (pe_tup (pa_cons (pe_op op_fdivW (pv 0) (pv 2)) (pa_cons (pe_op op_fdivW (pv 1) (pv 2)) pa_nil)))))), ?_⟩
  have hg := gcdI_pos (a := x) (b := y) (by omega)
  have hl : (gcdI x y).natAbs < 2 ^ 8000 := by
    have : gcdI x y ≤ y := Int.le_of_dvd (by omega) (gcdI_dr x y)
    exact Nat.lt_of_le_of_lt (by omega) hb
  refine ⟨_, rfl, _, rfl, _, _, rfl, x, y, rfl, rfl, hx, by omega, ?_⟩
  refine ⟨_, rfl, _, rfl, _, _, rfl, rfl, wide_div hg hl (by decide) (by decide), _, rfl, _, rfl, _, _, rfl, rfl, wide_div hg hl (by decide) (by decide), by simp [sizeLine_eq], fun t nt => ?_⟩
  exact q _ t (same_upd nt) nt upd_same
def spRises (K : PySem.W.Frag) : Sp := sp2 fun a b H Q _ => ∃ (s t : Addr) (f h : Frac), a = .ref s ∧ b = .ref t ∧ SqT K H s [.int f.1, .int f.2] ∧ SqT K H t [.int h.1, .int h.2] ∧ f.1.natAbs < 2 ^ 1000 ∧ f.2.natAbs < 2 ^ 1000 ∧ h.1.natAbs < 2 ^ 1000 ∧ h.2.natAbs < 2 ^ 1000 ∧ Q (.bl (decide (f.1 * h.2 < h.1 * f.2))) H
theorem sc_rises : FnScope ["begin", "goal"] ["begin", "goal"] (defScope s_rises) := ⟨rfl, rfl, rfl, by decide +kernel, rfl, by decide +kernel, by decide +kernel⟩
theorem d_rises (T : Txt K mg) : Def P w K mg base 1 "rises" ["begin", "goal"] (spRises K) := by
  refine mkDef T.d_rises T.g_rises sc_rises (fun _ _ _ _ _ _ us hl => match us, hl with | [_, _], _ => rfl) len2 (BodyN.up fun cdv A outer s H vs Q E hr h => ?_)
  obtain ⟨_, _, rfl, s, t, f, h, rfl, rfl, hs, ht, b1, b2, b3, b4, q⟩ := h
  have hu := hu_of hr
  refine ⟨_, (pss_one (ps_ret (pe_cmpR op_lt (pe_op op_mulW (pe_ix ix_tup (pv 0) pe_int (fun _ _ => rfl)) (pe_ix ix_tup (pv 1) pe_int (fun _ _ => rfl))) (pe_op op_mulW (pe_ix ix_tup (pv 1) pe_int (fun _ _ => rfl)) (pe_ix ix_tup (pv 0) pe_int (fun _ _ => rfl))) (nomark _)))), ?_⟩
  exact ⟨_, rfl, _, _, _, _, rfl, rfl, hs, ix2_0 _ _, _, rfl, _, _, _, _, rfl, rfl, ht, ix2_1 _ _, _, _, rfl, rfl, wide_mul b1 b4 (by decide) (by decide) (by decide), _, rfl, _, _, _, _, rfl, rfl, ht, ix2_0 _ _, _, rfl, _, _, _, _, rfl, rfl, hs, ix2_1 _ _, _, _, rfl, rfl, wide_mul b3 b2 (by decide) (by decide) (by decide), _, _, rfl, rfl, q⟩
def spWay (K : PySem.W.Frag) : Sp := sp4 fun a b c d H Q _ => ∃ (s t : Addr) (f : Frac) (g gone len : Int) (m : Nat), a = .ref s ∧ b = .ref t ∧ c = .int gone ∧ d = .int len ∧ SqT K H s [.int f.1, .int f.2] ∧ H t = some (.tup [.int g, .int 1]) ∧ FOk m f ∧ m ≤ 800 ∧ (0 ≤ g ∧ g ≤ 100) ∧ 0 ≤ gone ∧ (0 ≤ len ∧ len ≤ 6000) ∧
  ∀ H' r, Same H H' → H' r = some (.tup [.int (wayF f g gone len).1, .int (wayF f g gone len).2]) → Q (.ref r) H'
theorem sc_on_the_way : FnScope ["begin", "goal", "gone", "length", "above"] ["begin", "goal", "gone", "length"] (defScope s_on_the_way) := ⟨rfl, rfl, rfl, by decide +kernel, rfl, by decide +kernel, by decide +kernel⟩
theorem d_on_the_way (T : Txt K mg) : Def P w K mg base 3 "on_the_way" ["begin", "goal", "gone", "length"] (spWay K) := by
  have d_lowest := d_lowest (P := P) (w := w) (base := base) T
  refine mkDef T.d_on_the_way T.g_on_the_way sc_on_the_way (fun _ _ _ _ _ _ us hl => match us, hl with | [_, _, _, _], _ => rfl) len4 (BodyN.up fun cdv A outer s H vs Q E hr h => ?_)
  obtain ⟨_, _, _, _, rfl, s, t, f, g, gone, len, m, rfl, rfl, rfl, rfl, hs, ht, hf, hm, hg, h0, ⟨hl0, hl⟩, q⟩ := h
  have hu := hu_of hr
  refine ⟨_, (pss_cons (ps_if (pt_cmpR op_ge (pv 2) (pv 3) (nomark _))
    (pss_one (ps_ret (pv 1)))
    pss_nil)
    (pss_cons (ps_set (i := 4) sc_on_the_way.nd rfl (Or.inl rfl) (pe_op op_add (pe_op op_mulW (pe_op op_mulW (pe_ix ix_tup (pv 0) pe_int (fun _ _ => rfl)) (pe_ix ix_tup (pv 1) pe_int (fun _ _ => rfl))) (pe_op op_sub (pv 3) (pv 2))) (pe_op op_mulW (pe_op op_mulW (pe_ix ix_tup (pv 1) pe_int (fun _ _ => rfl)) (pe_ix ix_tup (pv 0) pe_int (fun _ _ => rfl))) (pv 2))))
    (pss_one (ps_ret (pe_fn d_lowest (hr.mono (by decide)) (by rfl) passL (pa_cons (pv 4) (pa_cons (pe_op op_mulW (pe_op op_mulW (pe_ix ix_tup (pv 0) pe_int (fun _ _ => rfl)) (pe_ix ix_tup (pv 1) pe_int (fun _ _ => rfl))) (pv 3)) pa_nil))))))), ?_⟩
  refine ⟨_, rfl, _, rfl, _, _, rfl, rfl, _, rfl, ite2 (fun c => ?_) (fun c => ?_)⟩
  · have c : len ≤ gone := of_decide_eq_true c
    refine ⟨_, rfl, q H t (Same.refl H) ?_⟩
    unfold wayF
    rw [if_pos c]; exact ht
  have c : ¬ len ≤ gone := fun z => c (decide_eq_true z)
  have ht2 : SqT K H t [.int g, .int 1] := .inl (.inl ht)
  have b1 : f.1.natAbs < 2 ^ 1000 := big_up hf.na (by omega)
  have b2 : f.2.natAbs < 2 ^ 1000 := big_up hf.nb (by omega)
  have b3 : g.natAbs < 2 ^ 13 := by omega
  have bl : (len - gone).natAbs < 2 ^ 13 := by omega
  have bg : gone.natAbs < 2 ^ 13 := by omega
  have bL : len.natAbs < 2 ^ 13 := by omega
  have one : (1 : Int).natAbs < 2 ^ 13 := by decide
  obtain ⟨p1, p2, p3, p4⟩ := way_parts hf hg h0 (by omega) hl
  refine ⟨_, rfl, _, _, _, _, rfl, rfl, hs, ix2_0 _ _, _, rfl, _, _, _, _, rfl, rfl, ht2, ix2_1 _ _, _, _, rfl, rfl, wide_mul b1 one (by decide) (by decide) (by decide), _, rfl, _, rfl, _, _, rfl, rfl, _, _, rfl, rfl, wide_mul (wide_lt b1 one) bl (by decide) (by decide) (by decide), _, rfl, _, _, _, _, rfl, rfl, ht2, ix2_0 _ _, _, rfl, _, _, _, _, rfl, rfl, hs, ix2_1 _ _, _, _, rfl, rfl, wide_mul b3 b2 (by decide) (by decide) (by decide), _, rfl, _, _, rfl, rfl, wide_mul (wide_lt b3 b2) bg (by decide) (by decide) (by decide), _, _, rfl, rfl, ?_⟩
  refine ⟨_, rfl, _, rfl, _, _, _, _, rfl, rfl, hs, ix2_1 _ _, _, rfl, _, _, _, _, rfl, rfl, ht2, ix2_1 _ _, _, _, rfl, rfl, wide_mul b2 one (by decide) (by decide) (by decide), _, rfl, _, _, rfl, rfl, wide_mul (wide_lt b2 one) bL (by decide) (by decide) (by decide), ?_⟩
  refine ⟨_, _, rfl, _, _, rfl, rfl, p1, p2, big_up (nat_of_lt (by omega) p4) (by omega), fun H' r s1 _ e => q H' r s1 ?_⟩
  unfold wayF
  rw [if_neg c]; exact e
def SceneAt (K : PySem.W.Frag) (U : List Str) (H : Hp) (y : Addr) (c : CueC) : Prop := ∃ dx w, H y = some (.ins (He.ga K "Scene") dx (sceneF c.up c.down w)) ∧ WordsAt H w c.words ∧ Rising ltS c.words ∧ (∀ e ∈ c.words, e.1 ∈ U ∧ 0 ≤ e.2 ∧ e.2 ≤ 100) ∧ (0 ≤ c.up ∧ c.up ≤ 6000 ∧ 0 ≤ c.down ∧ c.down ≤ 6000)
def goalOf (c : CueC) (l : Str) : Int := (get c.words l).getD 0
theorem SceneAt.same {U : List Str} {H H' : Hp} {y : Addr} {c : CueC} (h : SceneAt K U H y c) (s : Same H H') : SceneAt K U H' y c := by
  obtain ⟨dx, w, e, ⟨kvs, e2, wk⟩, r⟩ := h
  exact ⟨dx, w, s _ _ e, ⟨kvs, s _ _ e2, wk⟩, r⟩
theorem SceneAt.goal {U : List Str} {H : Hp} {y : Addr} {c : CueC} (h : SceneAt K U H y c) (l : Str) : 0 ≤ goalOf c l ∧ goalOf c l ≤ 100 := by
  obtain ⟨_, _, _, _, _, hw, _⟩ := h
  unfold goalOf
  cases z : get c.words l with
  | none => exact ⟨Int.le_refl 0, show (0 : Int) ≤ 100 by decide⟩
  | some v => exact (hw _ (get_mem z)).2
def spGoal (K : PySem.W.Frag) : Sp := sp2 fun s l H Q _ => ∃ y c z U, s = .ref y ∧ l = .str z ∧ SceneAt K U H y c ∧ ∀ H' t, Same H H' → H t = none → H' t = some (.tup [.int (goalOf c z), .int 1]) → Q (.ref t) H'
theorem sc_Scene_goal : FnScope ["self", "lamp"] ["self", "lamp"] (defScope s_Scene_goal) := ⟨rfl, rfl, rfl, by decide +kernel, rfl, by decide +kernel, by decide +kernel⟩
theorem d_Scene_goal (T : Txt K mg) : MDef P w K mg base (He.ga K "Scene") 1 "goal" ["self", "lamp"] [] (spGoal K) := by
  refine mkM T.d_Scene_goal T.m_Scene_goal sc_Scene_goal (fun _ _ _ _ _ _ us hl => match us, hl with | [_, _], _ => rfl) len2 (BodyN.up fun cdv A outer s H vs Q E hr h => ?_)
  obtain ⟨_, _, rfl, y, c, z, U, rfl, rfl, hS, q⟩ := h
  have hu := hu_of hr
  refine ⟨_, (pss_one (ps_ret (pe_tup (pa_cons (pe_dget2 (by exact hu) (pe_fld (pv 0) rfl) (pv 1) pe_int ⟨rfl, rfl, rfl, rfl⟩) (pa_cons pe_int pa_nil))))), ?_⟩
  obtain ⟨dx, lw, e1, ⟨kvs, e2, wk⟩, _⟩ := hS
  refine ⟨_, rfl, y, _, dx, _, _, rfl, e1, T.c_Scene, T.n_Scene_lights, sceneF_lights, _, rfl, .inl ⟨_, .inl e2⟩, _, rfl, _, wk.get (.inl e2) z, ?_⟩
  rw [getD_int]
  refine ⟨by simp [sizeLine_eq], fun t nt => q _ t (same_upd nt) nt upd_same⟩
def spLength (K : PySem.W.Frag) : Sp := sp3 fun s l b H Q _ => ∃ y c z U t f m, s = .ref y ∧ l = .str z ∧ b = .ref t ∧ SceneAt K U H y c ∧ SqT K H t [.int f.1, .int f.2] ∧ FOk m f ∧ m ≤ 800 ∧ ∀ H', Same H H' → Q (.int (lenF f (goalOf c z) c.up c.down)) H'
theorem sc_Scene_length : FnScope ["self", "lamp", "begin"] ["self", "lamp", "begin"] (defScope s_Scene_length) := ⟨rfl, rfl, rfl, by decide +kernel, rfl, by decide +kernel, by decide +kernel⟩
theorem d_Scene_length (T : Txt K mg) : MDef P w K mg base (He.ga K "Scene") 2 "length" ["self", "lamp", "begin"] [] (spLength K) := by
  have d_Scene_goal := d_Scene_goal (P := P) (w := w) (base := base) T
  have d_rises := d_rises (P := P) (w := w) (base := base) T
  refine mkM T.d_Scene_length T.m_Scene_length sc_Scene_length (fun _ _ _ _ _ _ us hl => match us, hl with | [_, _, _], _ => rfl) len3 (BodyN.up fun cdv A outer s H vs Q E hr h => ?_)
  obtain ⟨_, _, _, rfl, y, c, z, U, t, f, m, rfl, rfl, rfl, hS, ht, hf, hm, q⟩ := h
  have hu := hu_of hr
  refine ⟨_, (pss_cons (ps_if (pt_cmpR (op_eqD hr.units) (pv 2) (pe_mt T.c_Scene d_Scene_goal (hr.mono (by decide)) passL (pv 0) (pa_cons (pv 1) pa_nil)) (nomark _))
    (pss_one (ps_ret pe_int))
    pss_nil)
    (pss_one (ps_ret (pe_ifExp (pt_val (pe_fn d_rises (hr.mono (by decide)) (by rfl) passL (pa_cons (pv 2) (pa_cons (pe_mt T.c_Scene d_Scene_goal (hr.mono (by decide)) passL (pv 0) (pa_cons (pv 1) pa_nil)) pa_nil)))) (pe_fld (pv 0) rfl) (pe_fld (pv 0) rfl))))), ?_⟩
  obtain ⟨dx, lw, e1, _, _, _, _⟩ := id hS
  have hg := hS.goal z
  have no : ∀ {u d : Int} {w : Addr}, (sceneF u d w).lookup ("goal" : Str) = none := fun {u d w} => sceneF_no (by decide +kernel) (by decide +kernel) (by decide +kernel)
  refine ⟨_, rfl, _, rfl, _, dx, _, rfl, e1, no, _, rfl, _, _, rfl, y, c, z, U, rfl, rfl, hS, fun H1 tg s1 ng eg => ?_⟩
  have ht1 := sm_seqT s1 ht
  have ok2 : ∀ a b : Int, ∀ x ∈ [V.int a, .int b], okV x = true := fun a b x hx => by
    simp only [List.mem_cons, List.not_mem_nil, or_false] at hx
    rcases hx with rfl | rfl <;> rfl
  have d1 := dat_tup ht1 (ok2 _ _)
  have d2 := dat_tup (K := K) (.inl (.inl eg)) (ok2 _ _)
  refine ⟨tupI f, tupI (goalOf c z, 1), d1.1, d2.1, shaped_of d1.2 (by decide), shaped_of d2.2 (by decide), _, rfl, ?_⟩
  rw [eqv_tupI]
  by_cases he : f = (goalOf c z, 1)
  · refine iteY (decide_eq_true he) ?_
    have := q H1 s1
    unfold lenF at this
    rwa [if_pos he] at this
  refine iteN (decide_eq_false he) ?_
  refine ⟨_, rfl, _, rfl, _, dx, _, rfl, s1 _ _ e1, no, _, rfl, _, _, rfl, y, c, z, U, rfl, rfl, hS.same s1, fun H2 tg2 s2 ng2 eg2 => ?_⟩
  have s12 := s1.trans s2
  refine ⟨_, _, rfl, t, tg2, f, (goalOf c z, 1), rfl, rfl, sm_seqT s2 ht1, .inl (.inl eg2), big_up hf.na (by omega), big_up hf.nb (by omega), big_up (m := 13) (by omega) (by decide), big_up (m := 13) (by show (1 : Int).natAbs < 2 ^ 13; decide) (by decide), _, rfl, ?_⟩
  have q2 := q H2 s12
  unfold lenF at q2
  rw [if_neg he] at q2
  by_cases hr' : f.1 * 1 < goalOf c z * f.2
  · rw [if_pos hr'] at q2
    exact iteY (decide_eq_true hr') ⟨_, rfl, y, _, dx, _, _, rfl, s12 _ _ e1, T.c_Scene, T.n_Scene_up, sceneF_up, q2⟩
  · rw [if_neg hr'] at q2
    exact iteN (decide_eq_false hr') ⟨_, rfl, y, _, dx, _, _, rfl, s12 _ _ e1, T.c_Scene, T.n_Scene_down, sceneF_down, q2⟩
/-- a dict from lamps to fractions: dark where it holds none -/
def FracAt (U : List Str) (H : Hp) (w : Addr) (pos : Str → Frac) : Prop := ∃ kvs : List (Key × V), H w = some (.dK kvs) ∧ (kvs.map (·.1)).Nodup ∧ (∀ k ∈ kvs.map (·.1), ∃ l ∈ U, k = Sum.inr l) ∧
  ∀ l, match valV kvs (Sum.inr l) with
    | none => pos l = (0, 1)
    | some v => ∃ t, v = V.ref t ∧ H t = some (.tup [.int (pos l).1, .int (pos l).2])
theorem FracAt.same {U : List Str} {H H' : Hp} {w : Addr} {pos : Str → Frac} (h : FracAt U H w pos) (s : Same H H') : FracAt U H' w pos := by
  obtain ⟨kvs, e, nd, ks, vl⟩ := h
  refine ⟨kvs, s _ _ e, nd, ks, fun l => ?_⟩
  have := vl l
  cases z : valV kvs (Sum.inr l) with
  | none => rw [z] at this; exact this
  | some v =>
    rw [z] at this
    obtain ⟨t, e1, e2⟩ := this
    exact ⟨t, e1, s _ _ e2⟩
theorem lamp_keys {U : List Str} {kvs : List (Key × V)} (h : ∀ k ∈ kvs.map (·.1), ∃ l ∈ U, k = Sum.inr l) : ∃ ls : List Str, kvs.map (·.1) = ls.map Sum.inr ∧ ∀ l ∈ ls, l ∈ U := by
  obtain ⟨ls, e⟩ := inr_keys (ks := kvs.map (·.1)) fun k hk => by
    obtain ⟨l, _, e⟩ := h k hk
    exact ⟨l, e⟩
  refine ⟨ls, e, fun l hl => ?_⟩
  obtain ⟨l', h1, h2⟩ := h (Sum.inr l) (by rw [e]; exact List.mem_map.mpr ⟨l, hl, rfl⟩)
  rw [Sum.inr.inj h2]; exact h1
theorem key_vals {kvs : List (Key × V)} {ls : List Str} (h : kvs.map (·.1) = ls.map Sum.inr) : kvs.map (fun kv => kV kv.1) = ls.map V.str := by
  have : kvs.map (fun kv => kV kv.1) = (kvs.map (·.1)).map kV := by rw [List.map_map]; rfl
  rw [this, h, List.map_map]; rfl
def stepF (c : CueC) (gone : Int) (pos : Str → Frac) : Str → Frac := fun l => wayF (pos l) (goalOf c l) gone (lenF (pos l) (goalOf c l) c.up c.down)
def spFaded (K : PySem.W.Frag) : Sp := sp3 fun s a g H Q _ => ∃ y c U w pos gone m, s = .ref y ∧ a = .ref w ∧ g = .int gone ∧ SceneAt K U H y c ∧ Lamps U ∧ FracAt U H w pos ∧ (∀ l, FOk m (pos l)) ∧ m ≤ 800 ∧ 0 ≤ gone ∧ ∀ H' r, Same H H' → H r = none → FracAt U H' r (stepF c gone pos) → Q (.ref r) H'
theorem sc_Scene_faded : FnScope ["self", "levels", "gone", "found", "lamp", "begin"] ["self", "levels", "gone"] (defScope s_Scene_faded) := ⟨rfl, rfl, rfl, by decide +kernel, rfl, by decide +kernel, by decide +kernel⟩
theorem d_Scene_faded (T : Txt K mg) : MDef P w K mg base (He.ga K "Scene") 4 "faded" ["self", "levels", "gone"] [] (spFaded K) := by
  have d_on_the_way := d_on_the_way (P := P) (w := w) (base := base) T
  have d_Scene_goal := d_Scene_goal (P := P) (w := w) (base := base) T
  have d_Scene_length := d_Scene_length (P := P) (w := w) (base := base) T
  refine mkM T.d_Scene_faded T.m_Scene_faded sc_Scene_faded (fun _ _ _ _ _ _ us hl => match us, hl with | [_, _, _], _ => rfl) len3 (BodyN.up fun cdv A outer s H vs Q E hr h => ?_)
  obtain ⟨_, _, _, rfl, y, c, U, w0, pos, gone, m, rfl, rfl, rfl, hS, hU, hW, hf, hm, h0, q⟩ := h
  have hu := hu_of hr
  refine ⟨_, (pss_cons (ps_set (i := 3) sc_Scene_faded.nd rfl (Or.inl rfl) pe_dnewK)
    (pss_cons (ps_for PassesOwn.never rfl (pi_list (pe_op op_catS (pe_callTy (call_listD rfl) (by rfl) T.z_list (by decide +kernel) (pa_cons (pv 1) pa_nil)) (pe_callTy (call_listD rfl) (by rfl) T.z_list (by decide +kernel) (pa_cons (pe_fld (pv 0) rfl) pa_nil)))) (pg_name (i := 4) sc_Scene_faded.nd rfl (Or.inl rfl))
    (pss_cons (ps_set (i := 5) sc_Scene_faded.nd rfl (Or.inl rfl) (pe_dget2 (by exact hu) (pv 1) (pv 4) (pe_glob (v := .ref _) rfl T.g_DARK rfl) ⟨rfl, rfl, rfl, rfl⟩))
    (pss_one (ps_dput hu (pv 3) (pv 4) (pe_fn d_on_the_way (hr.mono (by decide)) (by rfl) passL (pa_cons (pv 5) (pa_cons (pe_mt T.c_Scene d_Scene_goal (hr.mono (by decide)) passL (pv 0) (pa_cons (pv 4) pa_nil)) (pa_cons (pv 2) (pa_cons (pe_mt T.c_Scene d_Scene_length (hr.mono (by decide)) passL (pv 0) (pa_cons (pv 4) (pa_cons (pv 5) pa_nil))) pa_nil))))) rfl))))
    (pss_one (ps_ret (pv 3))))), ?_⟩
  obtain ⟨dx, lw, e1, ⟨lvs, e2, wk⟩, hr1, hw1, hfd⟩ := id hS
  obtain ⟨kvs, ew, nd, ks, vl⟩ := hW
  obtain ⟨kl, hkl, klU⟩ := lamp_keys ks
  obtain ⟨ll, hll, _, hllm⟩ := wk.keys
  have llU : ∀ l ∈ ll, l ∈ U := fun l hl => by
    obtain ⟨x, hx, rfl⟩ := List.mem_map.mp ((hllm l).mp hl)
    exact (hw1 x hx).1
  have few1 : kl.length ≤ 60 := by
    have n1 : kl.Nodup := nodup_of_map (f := (Sum.inr : Str → Key)) (by rw [← hkl]; exact nd)
    have := nodup_le n1 klU
    have := hU.few
    omega
  have lvl : lvs.length = c.words.length := wk.len hr1
  have few2 : ll.length ≤ 60 := by
    have n1 := nodup_le (rising_nodup linS hr1) (u := U) fun x hx => by
      obtain ⟨y, hy, rfl⟩ := List.mem_map.mp hx
      exact (hw1 y hy).1
    rw [List.length_map] at n1
    have := hU.few
    have e := congrArg List.length hll
    rw [List.length_map, List.length_map] at e
    omega
  intro f nf
  have sf := same_upd (o := HO.dK []) nf
  have ef : (upd H f (.dK [])) f = some (.dK []) := upd_same
  generalize upd H f (.dK []) = H0 at sf ef
  refine ⟨_, rfl, w0, kvs, rfl, .inl (sf _ _ ew), fun l1 nl1 => ?_⟩
  have s1 := same_upd (o := HO.lst (kvs.map fun kv => kV kv.1)) nl1
  refine ⟨_, rfl, y, _, dx, _, _, rfl, s1 _ _ (sf _ _ e1), T.c_Scene, T.n_Scene_lights, sceneF_lights, lw, lvs, rfl, .inl (s1 _ _ (sf _ _ e2)), fun l2 nl2 => ?_⟩
  have s2 := same_upd (o := HO.lst (lvs.map fun kv => kV kv.1)) nl2
  refine ⟨l1, l2, kl.map V.str, ll.map V.str, rfl, rfl, .inl (.inl (s2 _ _ (by rw [← key_vals hkl]; exact upd_same))), .inl (.inl (by rw [← key_vals hll]; exact upd_same)), by rw [List.length_map, List.length_map, sizeLine_eq]; omega, fun l3 nl3 => ?_⟩
  rw [← List.map_append]
  have s3 := same_upd (o := HO.lst ((kl ++ ll).map V.str)) nl3
  have e3 : (upd (upd (upd H0 l1 (.lst (kvs.map fun kv => kV kv.1))) l2 (.lst (lvs.map fun kv => kV kv.1))) l3 (.lst ((kl ++ ll).map V.str))) l3 = some (.lst ((kl ++ ll).map V.str)) := upd_same
  have s13 := s1.trans (s2.trans s3)
  generalize upd (upd (upd H0 l1 (.lst (kvs.map fun kv => kV kv.1))) l2 (.lst (lvs.map fun kv => kV kv.1))) l3 (.lst ((kl ++ ll).map V.str)) = H3 at s3 e3 s13
  have sH3 := sf.trans s13
  have ef3 := s13 _ _ ef
  have l3f : l3 ≠ f := fun z => by rw [z, ef3] at e3; cases e3
  have mem : ∀ {z}, z ∈ kl ++ ll → z ∈ U := fun {z} h => by
    rcases List.mem_append.mp h with h | h
    · exact klU z h
    · exact llU z h
  refine ⟨l3, rfl, ⟨_, .inl (.inl e3)⟩, for_list (K := K) (a := l3) (xs := (kl ++ ll).map V.str) (fun i σ H' => ∃ v4 v5 fvs, σ = [some (.ref y), some (.ref w0), some (.int gone), some (.ref f), v4, v5] ∧ Same H H' ∧ H' l3 = some (.lst ((kl ++ ll).map V.str)) ∧ H' f = some (.dK fvs) ∧ (fvs.map (·.1)).Nodup ∧ (∀ k ∈ fvs.map (·.1), ∃ l ∈ U, k = Sum.inr l) ∧ ∀ l, match valV fvs (Sum.inr l) with
    | none => l ∉ (kl ++ ll).take i
    | some v => ∃ t, v = V.ref t ∧ H' t = some (.tup [.int (stepF c gone pos l).1, .int (stepF c gone pos l).2])) ⟨none, none, [], rfl, sH3, e3, ef3, List.nodup_nil, fun k h => (by cases h), fun l => by simp [valV]⟩ (fun i σ H' _ ⟨_, _, _, _, _, h, _⟩ => .inl (.inl h)) ?_ ?_⟩
  · rintro i x σ H' hx ⟨v4, v5, fvs, rfl, s4, e3', ef', ndf, ksf, vlf⟩
    rw [List.getElem?_map] at hx
    obtain ⟨z, hz, rfl⟩ := Option.map_eq_some_iff.mp hx
    have hzm := List.mem_of_getElem? hz
    have hzU := mem hzm
    have ew' := s4 _ _ ew
    have hS' := hS.same s4
    -- begin
    obtain ⟨tb, htb, hget⟩ : ∃ tb, SqT K H' tb [.int (pos z).1, .int (pos z).2] ∧ ∃ o, valV kvs (Sum.inr z) = o ∧ o.getD (V.ref (He.ga K "DARK")) = V.ref tb := by
      have := vl z
      cases hv : valV kvs (Sum.inr z) with
      | none =>
        rw [hv] at this
        refine ⟨He.ga K "DARK", ?_, none, rfl, rfl⟩
        rw [this]; exact T.t_DARK H'
      | some v =>
        rw [hv] at this
        obtain ⟨t, rfl, e⟩ := this
        exact ⟨t, .inl (.inl (s4 _ _ e)), _, rfl, rfl⟩
    obtain ⟨o, ho, hget⟩ := hget
    have dg : DGet H' w0 (.str z) o := .inl ⟨kvs, Sum.inr z, .inl ew', rfl, ho.symm⟩
    refine ⟨_, rfl, _, rfl, .inl ⟨_, .inl ew'⟩, _, rfl, o, dg, ?_⟩
    rw [hget]
    have noG : ∀ {u d : Int} {w : Addr}, (sceneF u d w).lookup ("goal" : Str) = none := fun {u d w} => sceneF_no (by decide +kernel) (by decide +kernel) (by decide +kernel)
    have noL : ∀ {u d : Int} {w : Addr}, (sceneF u d w).lookup ("length" : Str) = none := fun {u d w} => sceneF_no (by decide +kernel) (by decide +kernel) (by decide +kernel)
    refine ⟨_, rfl, _, rfl, _, dx, _, rfl, s4 _ _ e1, noG, _, rfl, _, _, rfl, y, c, z, U, rfl, rfl, hS', fun H5 tg s5 ng eg => ?_⟩
    have s45 := s4.trans s5
    refine ⟨_, rfl, _, rfl, _, dx, _, rfl, s45 _ _ e1, noL, _, rfl, _, rfl, _, _, _, rfl, y, c, z, U, tb, pos z, m, rfl, rfl, rfl, hS.same s45, sm_seqT s5 htb, hf z, hm, fun H6 s6 => ?_⟩
    have s56 := s5.trans s6
    have lb : 0 ≤ lenF (pos z) (goalOf c z) c.up c.down ∧ lenF (pos z) (goalOf c z) c.up c.down ≤ 6000 := by
      unfold lenF
      by_cases h1 : pos z = (goalOf c z, 1)
      · rw [if_pos h1]; decide
      · rw [if_neg h1]
        by_cases h2 : (pos z).1 * 1 < goalOf c z * (pos z).2
        · rw [if_pos h2]; omega
        · rw [if_neg h2]; omega
    refine ⟨_, _, _, _, rfl, tb, tg, pos z, goalOf c z, gone, _, m, rfl, rfl, rfl, rfl, sm_seqT s56 htb, s6 _ _ eg, hf z, hm, hS.goal z, h0, lb, fun H7 r s7 er => ?_⟩
    have s47 := s56.trans s7
    have sH7 := s4.trans s47
    have ef7 := s47 _ _ ef'
    have lf : fvs.length ≤ 60 := by
      obtain ⟨fl, hfl, flU⟩ := lamp_keys ksf
      have n1 : fl.Nodup := nodup_of_map (f := (Sum.inr : Str → Key)) (by rw [← hfl]; exact ndf)
      have := nodup_le n1 flU
      have := hU.few
      have e := congrArg List.length hfl
      rw [List.length_map, List.length_map] at e
      omega
    refine ⟨_, rfl, _, rfl, f, _, rfl, DPut.k (k := Sum.inr z) ef7 (by rw [sizeLine_eq]; omega), ?_⟩
    refine ⟨_, _, putK fvs (Sum.inr z) (.ref r), rfl, sm_mut sH7 nf, by rw [upd_ne l3f]; exact s47 _ _ e3', upd_same, nd_putK' ndf, fun k hk => ?_, fun l => ?_⟩
    · rcases mem_putK hk with h | h
      · exact ⟨z, hzU, h⟩
      · exact ksf k h
    · rw [take_snoc hz, valV_put]
      have keepT : ∀ {t : Addr} {xs : List V}, H7 t = some (.tup xs) → (upd H7 f (.dK (putK fvs (Sum.inr z) (.ref r)))) t = some (.tup xs) := fun {t xs} h => by
        rw [upd_ne fun y => by rw [y, ef7] at h; cases h]; exact h
      by_cases hl : l = z
      · subst hl
        rw [if_pos rfl]
        exact ⟨r, rfl, keepT er⟩
      · rw [if_neg fun y => hl (Sum.inr.inj y)]
        have := vlf l
        cases hv : valV fvs (Sum.inr l) with
        | none =>
          rw [hv] at this
          show l ∉ (kl ++ ll).take i ++ [z]
          rw [List.mem_append, List.mem_singleton]
          exact fun h => h.elim this hl
        | some v =>
          rw [hv] at this
          obtain ⟨t, e, et⟩ := this
          exact ⟨t, e, keepT (s47 _ _ et)⟩
  · rintro σ H' ⟨v4, v5, fvs, rfl, s4, e3', ef', ndf, ksf, vlf⟩
    refine ⟨_, rfl, q H' f s4 nf ⟨fvs, ef', ndf, ksf, fun l => ?_⟩⟩
    have := vlf l
    rw [List.length_map, List.take_length] at this
    cases hv : valV fvs (Sum.inr l) with
    | some v => rw [hv] at this; exact this
    | none =>
      rw [hv] at this
      have h1 : l ∉ kl := fun h => this (List.mem_append.mpr (.inl h))
      have h2 : l ∉ ll := fun h => this (List.mem_append.mpr (.inr h))
      have g0 : goalOf c l = 0 := by
        unfold goalOf
        rw [get_none_iff.mpr fun h => h2 ((hllm l).mpr h)]; rfl
      have p0 : pos l = (0, 1) := by
        have hv2 := vl l
        cases hk : valV kvs (Sum.inr l) with
        | none => rw [hk] at hv2; exact hv2
        | some v =>
          have : (Sum.inr l : Key) ∈ kvs.map (·.1) := valV_iff.mp (by rw [hk]; rfl)
          rw [hkl] at this
          obtain ⟨l', hl', e⟩ := List.mem_map.mp this
          rw [Sum.inr.inj e] at hl'
          exact absurd hl' h1
      show stepF c gone pos l = (0, 1)
      unfold stepF
      rw [p0, g0]
      unfold lenF wayF
      rw [if_pos rfl, if_pos h0]
end

/-! ## Lights along the calls -/
def darkP : Str → Frac := fun _ => (0, 1)
def stepP (S : Book) (n gone : Int) (pos : Str → Frac) : Str → Frac := match get S n with
  | some c => stepF c gone pos
  | none => pos
/-- the lights at the k-th call, by the ones ahead of it -/
def posK (S : Book) (cs : Cs) : Nat → Str → Frac
  | 0 => darkP
  | k + 1 => match cs[k]?, cs[k + 1]? with
    | some c, some d => stepP S c.1 (d.2 - c.2) (posK S cs k)
    | _, _ => posK S cs k
theorem goal_rng {U : List Str} {S : Book} (g : Good U S) {n : Int} {c : CueC} (h : get S n = some c) (l : Str) : 0 ≤ goalOf c l ∧ goalOf c l ≤ 100 := by
  unfold goalOf
  cases z : get c.words l with
  | none => exact ⟨Int.le_refl 0, show (0 : Int) ≤ 100 by decide⟩
  | some v => exact (g.wrd _ (g.at h) _ (get_mem z)).2
theorem len_rng {U : List Str} {S : Book} (g : Good U S) {n : Int} {c : CueC} (h : get S n = some c) (f : Frac) (x : Int) : 0 ≤ lenF f x c.up c.down ∧ lenF f x c.up c.down ≤ 6000 := by
  have fd := g.fad _ (g.at h)
  unfold lenF
  by_cases h1 : f = (x, 1)
  · rw [if_pos h1]; decide
  · rw [if_neg h1]
    by_cases h2 : f.1 * 1 < x * f.2
    · rw [if_pos h2]; exact ⟨fd.1, fd.2.1⟩
    · rw [if_neg h2]; exact fd.2.2
theorem stepP_ok {U : List Str} {S : Book} (g : Good U S) {n gone : Int} {pos : Str → Frac} {m : Nat} {l : Str} (h : FOk m (pos l)) (h0 : 0 ≤ gone) : FOk (m + 13) (stepP S n gone pos l) := by
  unfold stepP
  cases z : get S n with
  | none => exact h.up (by omega)
  | some c => exact way_ok h (goal_rng g z l) h0 (len_rng g z _ _).2
theorem gap_nn {cs : Cs} (h : cs.Pairwise fun a b => a.2 ≤ b.2) {k : Nat} {c d : Int × Int} (hc : cs[k]? = some c) (hd : cs[k + 1]? = some d) : 0 ≤ d.2 - c.2 := by
  obtain ⟨h1, rfl⟩ := List.getElem?_eq_some_iff.mp hc
  obtain ⟨h2, rfl⟩ := List.getElem?_eq_some_iff.mp hd
  have := List.pairwise_iff_getElem.mp h k (k + 1) h1 h2 (by omega)
  omega
theorem posK_ok {U : List Str} {S : Book} (g : Good U S) {cs : Cs} (h : cs.Pairwise fun a b => a.2 ≤ b.2) (l : Str) : ∀ k, FOk (1 + 13 * k) (posK S cs k l)
  | 0 => fok_goal (g := 0) (by decide)
  | k + 1 => by
    have ih := posK_ok g h l k
    unfold posK
    cases hc : cs[k]? with
    | none => exact ih.up (by omega)
    | some c =>
      cases hd : cs[k + 1]? with
      | none => exact ih.up (by omega)
      | some d => exact (stepP_ok g ih (gap_nn h hc hd)).up (by omega)
theorem posK_pre {S : Book} {cs more : Cs} : ∀ {k}, k < cs.length → posK S (cs ++ more) k = posK S cs k
  | 0, _ => rfl
  | k + 1, h => by
    unfold posK
    rw [posK_pre (by omega), List.getElem?_append_left (by omega), List.getElem?_append_left (by omega)]
theorem calls_at {H : Hp} {ts : List Addr} {cs : Cs} (h : CallsAt H ts cs) {k : Nat} {c : Int × Int} (e : cs[k]? = some c) : ∃ t, ts[k]? = some t ∧ H t = some (.tup [.int c.1, .int c.2]) := by
  unfold CallsAt at h
  induction h generalizing k with
  | nil => simp at e
  | @cons t c' ts' cs' h1 h2 ih =>
    cases k with
    | zero =>
      simp at e
      subst e
      exact ⟨t, by simp, h1⟩
    | succ k =>
      obtain ⟨t', a, b⟩ := ih (by simpa using e)
      exact ⟨t', by simpa using a, b⟩
theorem RunAt.scene {K : PySem.W.Frag} {U : List Str} {H : Hp} {r ds lc : Addr} {as : Ads} {ts : List Addr} {S : Book} {cs : Cs} (T : RunAt K U H r ds as lc ts S cs) {n : Int} {c : CueC} (h : get S n = some c) : SceneAt K U H (as n).1 c := by
  obtain ⟨dx, kvs, e1, e2, wk⟩ := T.sceneAt h
  have hm := T.good.at h
  exact ⟨dx, (as n).2, e1, ⟨kvs, e2, wk⟩, T.good.wsrt _ hm, T.good.wrd _ hm, T.good.fad _ hm⟩
theorem at_ref {ts : List Addr} {k : Nat} {t : Addr} (h : ts[k]? = some t) {i : Int} (e : i = (k : Int)) : atI (ts.map V.ref) i = some (.ref t) := by
  subst e
  exact atI_nat (by rw [List.getElem?_map, h]; rfl)
theorem frac_dark {U : List Str} {H : Hp} {w : Addr} (h : H w = some (.dK [])) : FracAt U H w darkP := ⟨[], h, List.nodup_nil, fun k h => (by cases h), fun l => rfl⟩
section
variable {P : Program} {w : World} {K : PySem.W.Frag} {mg : Str → Option Value} {base : Heap}
theorem noFaded {u d : Int} {w : Addr} : (sceneF u d w).lookup ("faded" : Str) = none := sceneF_no (by decide +kernel) (by decide +kernel) (by decide +kernel)
def spBegun (K : PySem.W.Frag) : Sp := sp2 fun s a H Q _ => ∃ (r ds : Addr) (as : Ads) (lc : Addr) (ts : List Addr) (S : Book) (cs : Cs) (U : List Str) (k : Nat), s = .ref r ∧ a = .int (k : Int) ∧ RunAt K U H r ds as lc ts S cs ∧ k < cs.length ∧ ∀ H' w', Same H H' → H w' = none → FracAt U H' w' (posK S cs k) → Q (.ref w') H'
theorem sc_Run_begun : FnScope ["self", "many", "levels", "k", "number", "since", "until"] ["self", "many"] (defScope s_Run_begun) := ⟨rfl, rfl, rfl, by decide +kernel, rfl, by decide +kernel, by decide +kernel⟩
theorem d_Run_begun (T : Txt K mg) : MDef P w K mg base (He.ga K "Run") 5 "begun" ["self", "many"] [] (spBegun K) := by
  have d_Scene_faded := d_Scene_faded (P := P) (w := w) (base := base) T
  refine mkM T.d_Run_begun T.m_Run_begun sc_Run_begun (fun _ _ _ _ _ _ us hl => match us, hl with | [_, _], _ => rfl) len2 (BodyN.up fun cdv A outer s H vs Q E hr h => ?_)
  obtain ⟨_, _, rfl, r, ds, as, lc, ts, S, cs, U, k, rfl, rfl, hR, hk, q⟩ := h
  have hu := hu_of hr
  refine ⟨_, (pss_cons (ps_set (i := 2) sc_Run_begun.nd rfl (Or.inl rfl) pe_dnewK)
    (pss_cons (ps_for PassesOwn.never rfl (pi_range1 (by rfl) T.z_range (pa_cons (pv 1) pa_nil)) (pg_name (i := 3) sc_Run_begun.nd rfl (Or.inl rfl))
    (pss_cons (ps_asg (pe_ix ix_list (pe_fld (pv 0) rfl) (pv 3) (fun _ _ => rfl)) (pg_tup rfl (pgs_cons (pg_name (i := 4) sc_Run_begun.nd rfl (Or.inl rfl)) (pgs_cons (pg_name (i := 5) sc_Run_begun.nd rfl (Or.inl rfl)) pgs_nil))))
    (pss_cons (ps_set (i := 6) sc_Run_begun.nd rfl (Or.inl rfl) (pe_ix ix_tup (pe_ix ix_list (pe_fld (pv 0) rfl) (pe_op op_add (pv 3) pe_int) (fun _ _ => rfl)) pe_int (fun _ _ => rfl)))
    (pss_one (ps_set (i := 2) sc_Run_begun.nd rfl (Or.inl rfl) (pe_mt T.c_Scene d_Scene_faded (hr.mono (by decide)) passL (pe_dget (by exact hu) (pe_fld (pv 0) rfl) (pv 4) (fun _ _ => rfl)) (pa_cons (pv 2) (pa_cons (pe_op op_sub (pv 6) (pv 5)) pa_nil))))))))
    (pss_one (ps_ret (pv 2))))), ?_⟩
  obtain ⟨dx, ob⟩ := hR.ob
  have h20 := hR.cs.few
  intro w0 nw0
  have s0 := same_upd (o := HO.dK []) nw0
  refine ⟨_, rfl, (k : Int), rfl, by omega, by omega, for_range (n := k) (fun i σ H' => ∃ v3 v4 v5 v6 w', σ = [some (.ref r), some (.int (k : Int)), some (.ref w'), v3, v4, v5, v6] ∧ Same H H' ∧ H w' = none ∧ FracAt U H' w' (posK S cs i)) ⟨none, none, none, none, w0, rfl, s0, nw0, frac_dark upd_same⟩ ?_ ?_⟩
  · rintro i σ H1 hi ⟨v3, v4, v5, v6, w', rfl, s1, nw', hF⟩
    have R1 := hR.same s1
    obtain ⟨c, hc⟩ : ∃ c, cs[i]? = some c := ⟨_, List.getElem?_eq_getElem (by omega)⟩
    obtain ⟨d, hd⟩ : ∃ d, cs[i + 1]? = some d := ⟨_, List.getElem?_eq_getElem (by omega)⟩
    obtain ⟨t, ht, et⟩ := calls_at R1.ct hc
    obtain ⟨t2, ht2, et2⟩ := calls_at R1.ct hd
    obtain ⟨⟨sc, hsc⟩, _⟩ := hR.cs.ok c (List.mem_of_getElem? hc)
    obtain ⟨kvs, hds, tk⟩ := R1.tb.top
    have hds : H1 ds = some (.dK kvs) := hds
    have hS := R1.scene hsc
    obtain ⟨dxs, lw, es, _⟩ := id hS
    refine ⟨_, rfl, r, _, dx, _, _, rfl, s1 _ _ ob, T.c_Run, T.n_Run_called, runF_called, _, rfl, _, _, _, _, rfl, rfl, .inl (.inl R1.cl), at_ref ht (by omega), _, _, rfl, .inl (.inl et), rfl, _, _, rfl, _, _, rfl, rfl, ?_⟩
    refine ⟨_, rfl, r, _, dx, _, _, rfl, s1 _ _ ob, T.c_Run, T.n_Run_called, runF_called, _, rfl, _, _, rfl, rfl, _, _, _, _, rfl, rfl, .inl (.inl R1.cl), at_ref ht2 (by omega), _, _, _, _, rfl, rfl, .inl (.inl et2), ix2_1 _ _, ?_⟩
    refine ⟨_, rfl, r, _, dx, _, _, rfl, s1 _ _ ob, T.c_Run, T.n_Run_scenes, runF_scenes, _, rfl, ds, _, rfl, tk.hit (.inl hds) hsc, _, dxs, _, rfl, es, noFaded, _, rfl, _, rfl, _, rfl, _, _, rfl, rfl, ?_⟩
    refine ⟨_, _, _, rfl, (as c.1).1, sc, U, w', posK S cs i, d.2 - c.2, 1 + 13 * i, rfl, rfl, rfl, hS, hR.lamps, hF, fun l => posK_ok hR.good hR.cs.ord l i, by omega, gap_nn hR.cs.ord hc hd, fun H2 w2 s2 n2 hF2 => ?_⟩
    refine ⟨_, _, _, _, w2, rfl, s1.trans s2, s1.free n2, ?_⟩
    have e : posK S cs (i + 1) = stepF sc (d.2 - c.2) (posK S cs i) := by
      show (match cs[i]?, cs[i + 1]? with
        | some c, some d => stepP S c.1 (d.2 - c.2) (posK S cs i)
        | _, _ => posK S cs i) = _
      rw [hc, hd]
      show stepP S c.1 (d.2 - c.2) (posK S cs i) = _
      unfold stepP
      rw [hsc]
    rw [e]; exact hF2
  · rintro σ H1 ⟨v3, v4, v5, v6, w', rfl, s1, nw', hF⟩
    exact ⟨_, rfl, q H1 w' s1 nw' hF⟩
end

/-! ## What a run tells of moments -/
def nUp (cs : Cs) (i : Int) : Nat := (cs.filter fun c => decide (c.2 ≤ i)).length
theorem filter_up {i : Int} : ∀ {cs : Cs}, (cs.Pairwise fun a b => a.2 ≤ b.2) → (cs.filter fun c => decide (c.2 ≤ i)) = cs.take (nUp cs i)
  | [], _ => rfl
  | c :: r, h => by
    obtain ⟨h1, h2⟩ := List.pairwise_cons.mp h
    unfold nUp
    by_cases k : c.2 ≤ i
    · rw [List.filter_cons_of_pos (by simpa using k), List.length_cons, List.take_succ_cons]
      exact congrArg (c :: ·) (filter_up h2)
    · rw [List.filter_cons_of_neg (by simpa using k)]
      have : r.filter (fun c => decide (c.2 ≤ i)) = [] := List.filter_eq_nil_iff.mpr fun d hd => by
        have := h1 d hd
        simp; omega
      rw [this]; rfl
theorem nUp_le (cs : Cs) (i : Int) : nUp cs i ≤ cs.length := List.length_filter_le _ _
/-- the last call up to a moment -/
theorem nUp_at {cs : Cs} (h : cs.Pairwise fun a b => a.2 ≤ b.2) {i : Int} {n : Nat} (e : nUp cs i = n + 1) : ∃ c, cs[n]? = some c ∧ c.2 ≤ i := by
  have hl := nUp_le cs i
  obtain ⟨c, hc⟩ : ∃ c, cs[n]? = some c := ⟨_, List.getElem?_eq_getElem (by omega)⟩
  refine ⟨c, hc, ?_⟩
  have : c ∈ cs.take (nUp cs i) := by
    rw [e, take_snoc hc]; simp
  rw [← filter_up h] at this
  simpa using (List.mem_filter.mp this).2
/-- the lights at a moment -/
def atP (S : Book) (cs : Cs) (i : Int) : Str → Frac := match nUp cs i with
  | 0 => darkP
  | n + 1 => match cs[n]? with
    | some c => stepP S c.1 (i - c.2) (posK S cs n)
    | none => darkP
/-- told: just these lamps, in this order, with their fractions -/
def FracL (H : Hp) (w : Addr) (pos : Str → Frac) (ls : List Str) : Prop := ∃ kvs : List (Key × V), H w = some (.dK kvs) ∧ Paired (fun (kv : Key × V) (l : Str) => ∃ t, kv = (Sum.inr l, V.ref t) ∧ H t = some (.tup [.int (pos l).1, .int (pos l).2])) kvs ls
theorem calls_count {H : Hp} {i : Int} : ∀ {ts : List Addr} {cs : Cs}, CallsAt H ts cs → ((ts.map V.ref).filter fun v => match v with
    | .ref t => (match H t with
      | some (.tup [_, .int b]) => decide (b ≤ i)
      | _ => false)
    | _ => false).length = nUp cs i
  | _, _, .nil => rfl
  | _, c :: _, .cons h t => by
    have ih := calls_count (i := i) t
    unfold nUp at ih ⊢
    rw [List.map_cons]
    by_cases k : c.2 ≤ i
    · rw [List.filter_cons_of_pos (by simp only [h]; simpa using k), List.filter_cons_of_pos (by simpa using k), List.length_cons, List.length_cons, ih]
    · rw [List.filter_cons_of_neg (by simp only [h]; simpa using k), List.filter_cons_of_neg (by simpa using k), ih]
theorem paired_of_map {α β : Type} {F : β → α → Prop} {f : α → β} : ∀ {l : List α}, (∀ a ∈ l, F (f a) a) → Paired F (l.map f) l
  | [], _ => .nil
  | a :: r, h => .cons (h a List.mem_cons_self) (paired_of_map fun b hb => h b (List.mem_cons_of_mem _ hb))
section
variable {P : Program} {w : World} {K : PySem.W.Frag} {mg : Str → Option Value} {base : Heap}
def spAt (K : PySem.W.Frag) : Sp := sp2 fun s m H Q E => ∃ r ds as lc ts S cs U, s = .ref r ∧ RunAt K U H r ds as lc ts S cs ∧ Pl H m ∧ (wholeV 0 1000000000 m = false → Er K "NoTime" E H) ∧
  ∀ i, m = .int i → 0 ≤ i → i ≤ 1000000000 → ∀ H' w' ls, Same H H' → H w' = none → FracL H' w' (atP S cs i) ls → ls.Pairwise ltS → (∀ l, l ∈ ls ↔ 0 < (atP S cs i l).1) → Q (.ref w') H'
theorem sc_Run_at : FnScope ["self", "moment", "many", "call", "number", "since", "levels", "lamp"] ["self", "moment"] (defScope s_Run_at) := ⟨rfl, rfl, rfl, by decide +kernel, rfl, by decide +kernel, by decide +kernel⟩
theorem d_Run_at (T : Txt K mg) : MDef P w K mg base (He.ga K "Run") 6 "at" ["self", "moment"] [] (spAt K) := by
  have d_Scene_faded := d_Scene_faded (P := P) (w := w) (base := base) T
  have d_is_moment := d_is_moment (P := P) (w := w) (base := base) T
  have d_Run_begun := d_Run_begun (P := P) (w := w) (base := base) T
  refine mkM T.d_Run_at T.m_Run_at sc_Run_at (fun _ _ _ _ _ _ us hl => match us, hl with | [_, _], _ => rfl) len2 (fun cdv A outer s H vs Q E hr h => ?_)
  obtain ⟨_, m, rfl, r, ds, as, lc, ts, S, cs, U, rfl, hR, pm, e0, q⟩ := h
  have hu := hu_of hr
  refine ⟨_, (pss_cons (ps_if (pt_not (pt_val (pe_fn d_is_moment (hr.mono (by decide)) (by rfl) (passes_call (takes_of rfl rfl rfl rfl) fun _ _ _ _ h => h) (pa_cons (pv 1) pa_nil))))
    (pss_one (ps_raise rfl (takes_of rfl rfl rfl rfl) (pmk_own PySem.F.excBase_ValueError T.x_NoTime.1 T.g_NoTime T.x_NoTime.2.1 (raises_own T.x_NoTime.2.2.1 T.x_NoTime.2.2.2) rfl)))
    pss_nil)
    (pss_cons (ps_set (i := 2) sc_Run_at.nd rfl (Or.inl rfl) (pe_callB call_len_seq (by rfl) T.z_len (by decide +kernel) (pa_cons (pe_lc (own := [("call", 3)]) rfl sc_Run_at.nd (pi_list (pe_fld (pv 0) rfl)) (blkOk_by (own := [("call", 3)]) (N := ["self", "moment", "many", "call", "number", "since", "levels", "lamp"]) (sc := defScope s_Run_at) (by decide +kernel)) (fun _ _ _ _ _ => pg_name (i := 3) sc_Run_at.nd rfl (Or.inl rfl)) (fun _ _ _ _ _ => (pts_one (pt_cmpR op_le (pe_ix (ix_tupK (K := K) rfl) (pv 3) pe_int (fun _ _ => rfl)) (pv 1) (nomark _)))) (fun _ _ _ _ _ => (pv 3))) pa_nil)))
    (pss_cons (ps_if (pt_cmpR op_eq (pv 2) pe_int (nomark _))
    (pss_one (ps_ret pe_dnewK))
    pss_nil)
    (pss_cons (ps_asg (pe_ix ix_list (pe_fld (pv 0) rfl) (pe_op op_sub (pv 2) pe_int) (fun _ _ => rfl)) (pg_tup rfl (pgs_cons (pg_name (i := 4) sc_Run_at.nd rfl (Or.inl rfl)) (pgs_cons (pg_name (i := 5) sc_Run_at.nd rfl (Or.inl rfl)) pgs_nil))))
    (pss_cons (ps_set (i := 6) sc_Run_at.nd rfl (Or.inr rfl) (pe_mt T.c_Scene d_Scene_faded (hr.mono (by decide)) (passes_call (takes_of rfl rfl rfl rfl) fun _ _ _ _ h => h) (pe_dget (by exact hu) (pe_fld (pv 0) rfl) (pv 4) (fun _ _ => rfl)) (pa_cons (pe_mt T.c_Run d_Run_begun (hr.mono (by decide)) (passes_call (takes_of rfl rfl rfl rfl) fun _ _ _ _ h => h) (pv 0) (pa_cons (pe_op op_sub (pv 2) pe_int) pa_nil)) (pa_cons (pe_op op_sub (pv 1) (pv 5)) pa_nil))))
    (pss_one (ps_ret (pe_callTy (call_dictP rfl) (by rfl) T.z_dict (by decide +kernel) (pa_cons (pe_lc (own := [("lamp", 7)]) rfl sc_Run_at.nd (pi_list (pe_callB (call_sortedD rfl) (by rfl) T.z_sorted (by decide +kernel) (pa_cons (pv 6) pa_nil))) (blkOk_by (own := [("lamp", 7)]) (N := ["self", "moment", "many", "call", "number", "since", "levels", "lamp"]) (sc := defScope s_Run_at) (by decide +kernel)) (fun _ _ _ _ _ => pg_name (i := 7) sc_Run_at.nd rfl (Or.inl rfl)) (fun _ _ _ _ _ => (pts_one (pt_cmpR op_gt (pe_ix (ix_tupK (K := K) rfl) (pe_dget (by exact hu) (pv 6) (pv 7) (fun _ _ => rfl)) pe_int (fun _ _ => rfl)) pe_int (nomark _)))) (fun _ _ _ _ _ => (pe_tup (pa_cons (pv 7) (pa_cons (pe_dget (by exact hu) (pv 6) (pv 7) (fun _ _ => rfl)) pa_nil))))) pa_nil))))))))), ?_⟩
  obtain ⟨dx, ob⟩ := hR.ob
  refine ⟨_, rfl, _, rfl, pm, _, rfl, ?_⟩
  cases c1 : wholeV 0 1000000000 m with
  | false => exact iteT (e0 c1 H (Same.refl H))
  | true =>
    obtain ⟨i, rfl, hi⟩ := whole_int c1
    have q := q i rfl hi.1 hi.2
    refine iteF ⟨_, rfl, r, _, dx, _, _, rfl, ob, T.c_Run, T.n_Run_called, runF_called, lc, rfl, ⟨_, .inl (.inl hR.cl)⟩, fun D nD => ?_⟩
    have few := hR.cs.few
    have el : ts.length = cs.length := paired_len hR.ct
    refine lc_pure (walk_list (K := K) (a := lc) (xs := ts.map V.ref)) nD (fun v => match v with
      | .ref t => (match H t with
        | some (.tup [_, .int b]) => decide (b ≤ i)
        | _ => false)
      | _ => false) id ?_ (fun _ => rfl) (fun H5 s5 => .inl (.inl (s5 _ _ hR.cl))) ?_ ?_ ?_
    · rw [List.length_map, sizeLine_eq]; omega
    · intro v hv H5 s5 Q' k
      obtain ⟨t, ht, rfl⟩ := List.mem_map.mp hv
      obtain ⟨c, _, hc⟩ := paired_memL hR.ct ht
      refine ⟨_, rfl, _, _, _, _, rfl, rfl, .inl (.inl (s5 _ _ hc)), ix2_1 _ _, _, rfl, _, _, rfl, rfl, _, rfl, ?_⟩
      have := k H5 (Same.refl _)
      simp only [hc] at this
      exact this
    · exact fun v _ _ H5 s5 Q' k => ⟨_, rfl, k H5 (Same.refl _)⟩
    intro H1 s1 hD
    rw [List.map_id] at hD
    refine ⟨_, _, rfl, .inl (.inl (.inl hD)), ?_⟩
    rw [calls_count hR.ct]
    refine ⟨_, rfl, rfl, _, rfl, ?_⟩
    cases hn : nUp cs i with
    | zero =>
      refine iteY rfl (fun w0 nw0 => ?_)
      have s2 := same_upd (o := HO.dK []) nw0
      have ea : atP S cs i = darkP := by unfold atP; rw [hn]
      refine q _ w0 [] (s1.trans s2) (s1.free nw0) ⟨[], upd_same, .nil⟩ .nil fun l => ?_
      rw [ea]
      simp [darkP]
    | succ n =>
      refine iteN (by simp; omega) ?_
      obtain ⟨c, hc, hci⟩ := nUp_at hR.cs.ord hn
      have hle := nUp_le cs i
      have R1 := hR.same s1
      obtain ⟨t, ht, et⟩ := calls_at R1.ct hc
      obtain ⟨⟨sc, hsc⟩, _⟩ := hR.cs.ok c (List.mem_of_getElem? hc)
      obtain ⟨kvs, hds, tk⟩ := R1.tb.top
      have hds : H1 ds = some (.dK kvs) := hds
      refine ⟨_, rfl, r, _, dx, _, _, rfl, s1 _ _ ob, T.c_Run, T.n_Run_called, runF_called, _, rfl, _, _, rfl, rfl, _, _, _, _, rfl, rfl, .inl (.inl R1.cl), at_ref ht (by omega), _, _, rfl, .inl (.inl et), rfl, _, _, rfl, _, _, rfl, rfl, ?_⟩
      obtain ⟨dxs, lw, es, _⟩ := R1.scene hsc
      refine ⟨_, rfl, r, _, dx, _, _, rfl, s1 _ _ ob, T.c_Run, T.n_Run_scenes, runF_scenes, _, rfl, ds, _, rfl, tk.hit (.inl hds) hsc, _, dxs, _, rfl, es, noFaded, ?_⟩
      refine ⟨_, rfl, _, _, _, rfl, s1 _ _ ob, runF_no (by decide +kernel) (by decide +kernel), _, rfl, _, _, rfl, rfl, ?_⟩
      have spB : ∀ (Q1 : VK) (E1 : XK), (∀ H' w', Same H1 H' → H1 w' = none → FracAt U H' w' (posK S cs n) → Q1 (.ref w') H') → spBegun K [.ref r, .int (((n + 1 : Nat) : Int) - 1)] H1 Q1 E1 := fun Q1 E1 k => ⟨_, _, rfl, r, ds, as, lc, ts, S, cs, U, n, rfl, by congr 1; omega, R1, by omega, k⟩
      refine spB _ _ fun H2 w2 s2 n2 hF => ?_
      have s12 := s1.trans s2
      have R2 := hR.same s12
      refine ⟨_, rfl, _, rfl, _, _, rfl, rfl, ?_⟩
      refine ⟨_, _, _, rfl, (as c.1).1, sc, U, w2, posK S cs n, i - c.2, 1 + 13 * n, rfl, rfl, rfl, R2.scene hsc, hR.lamps, hF, fun l => posK_ok hR.good hR.cs.ord l n, by omega, by omega, fun H3 w3 s3 n3 hF3 => ?_⟩
      have s13 := s12.trans s3
      have ea : atP S cs i = stepF sc (i - c.2) (posK S cs n) := by
        unfold atP
        rw [hn]
        show (match cs[n]? with
          | some c => stepP S c.1 (i - c.2) (posK S cs n)
          | none => darkP) = _
        rw [hc]
        show stepP S c.1 (i - c.2) (posK S cs n) = _
        unfold stepP
        rw [hsc]
      rw [ea] at q
      generalize stepF sc (i - c.2) (posK S cs n) = pos at hF3 q
      obtain ⟨fvs, ef, nd, ks, vl⟩ := hF3
      obtain ⟨fl, hfl, flU⟩ := lamp_keys ks
      have ndl : fl.Nodup := nodup_of_map (f := (Sum.inr : Str → Key)) (by rw [← hfl]; exact nd)
      have few1 : fl.length ≤ 60 := by
        have := nodup_le ndl flU
        have := hR.lamps.few
        omega
      refine ⟨_, rfl, w3, fvs, fl, rfl, .inl ef, hfl, by omega, fun ys a hp1 hp2 na => ?_⟩
      have s4 := same_upd (o := HO.lst (ys.map V.str)) na
      have ry : ys.Pairwise ltS := sortedS_rising hp2 (hp1.nodup_iff.mpr ndl)
      have ysm : ∀ {z}, z ∈ ys → ∃ t, valV fvs (Sum.inr z) = some (V.ref t) ∧ H3 t = some (.tup [.int (pos z).1, .int (pos z).2]) := fun {z} hz => by
        have h1 : (Sum.inr z : Key) ∈ fvs.map (·.1) := by rw [hfl]; exact List.mem_map.mpr ⟨z, (hp1.mem_iff).mp hz, rfl⟩
        have h2 := valV_iff.mpr h1
        have := vl z
        cases hv : valV fvs (Sum.inr z) with
        | none => rw [hv] at h2; cases h2
        | some v =>
          rw [hv] at this
          obtain ⟨t, rfl, e⟩ := this
          exact ⟨t, rfl, e⟩
      refine ⟨a, rfl, ⟨_, .inl (.inl upd_same)⟩, fun D2 nD2 => ?_⟩
      refine lc_rel (walk_list (K := K) (a := a) (xs := ys.map V.str)) nD2 (fun x => match x with | .str z => decide (0 < (pos z).1) | _ => false) (fun x y H' => ∃ t z, x = V.str z ∧ y = V.ref t ∧ H' t = some (.tup [.str z, (valV fvs (Sum.inr z)).getD .non])) ?_ ?_ (fun _ => rfl) (fun H5 s5 => .inl (.inl (s5 _ _ upd_same))) ?_ ?_ ?_
      · rintro x y H1 H2 nl' ⟨t, z, rfl, rfl, h⟩
        exact ⟨t, z, rfl, rfl, nl' _ _ (fun _ z => by cases z) h⟩
      · rw [List.length_map, hp1.length_eq, sizeLine_eq]; omega
      · rintro y hy H5 s5 Q' k
        obtain ⟨z, hz, rfl⟩ := List.mem_map.mp hy
        obtain ⟨t, hv, e⟩ := ysm hz
        exact ⟨_, rfl, _, rfl, _, _, rfl, .inl ⟨fvs, Sum.inr z, .inl (s5 _ _ (s4 _ _ ef)), rfl, hv.symm⟩, _, _, _, _, rfl, rfl, .inl (.inl (s5 _ _ (s4 _ _ e))), ix2_0 _ _, _, _, rfl, rfl, _, rfl, k H5 (Same.refl _)⟩
      · rintro y hy _ H5 s5 Q' k
        obtain ⟨z, hz, rfl⟩ := List.mem_map.mp hy
        obtain ⟨t, hv, e⟩ := ysm hz
        refine ⟨_, rfl, _, rfl, _, rfl, _, _, rfl, .inl ⟨fvs, Sum.inr z, .inl (s5 _ _ (s4 _ _ ef)), rfl, hv.symm⟩, by simp [sizeLine_eq], fun t' nt => ?_⟩
        exact k _ _ (same_upd nt) ⟨t', z, rfl, rfl, by rw [upd_same, hv]; rfl⟩
      · intro H5 zs s5 hD2 hpair
        rw [strs_filter (p := fun z => decide (0 < (pos z).1)) (fun _ => rfl)] at hpair
        obtain ⟨ps, rfl, hps⟩ := pairs_dict (K := K) (g := fun z => (valV fvs (Sum.inr z)).getD .non) hpair
        refine ⟨D2, ps, _, rfl, .inl (.inl hD2), hps, fun w' nw => ?_⟩
        have rl : (ys.filter fun z => decide (0 < (pos z).1)).Pairwise ltS := ry.sublist List.filter_sublist
        have ndk : (((ys.filter fun z => decide (0 < (pos z).1)).map fun l => ((Sum.inr l : Key), (valV fvs (Sum.inr l)).getD .non)).map (·.1)).Nodup := by
          rw [List.map_map]
          exact nodup_map (fun a b h => Sum.inr.inj h) (rising_nodup linS rl)
        rw [mergeK_nil ndk]
        have s35 := s4.trans s5
        have s6 := s13.trans (s35.trans (same_upd (o := HO.dK ((ys.filter fun z => decide (0 < (pos z).1)).map fun l => ((Sum.inr l : Key), (valV fvs (Sum.inr l)).getD .non))) nw))
        refine q _ w' _ s6 ((s13.trans s35).free nw) ⟨_, upd_same, ?_⟩ rl fun l => ?_
        · refine paired_of_map fun l hl => ?_
          obtain ⟨t, hv, e⟩ := ysm (List.mem_filter.mp hl).1
          exact ⟨t, by rw [hv]; rfl, same_upd nw _ _ (s35 _ _ e)⟩
        · rw [List.mem_filter]
          constructor
          · exact fun h => by simpa using h.2
          · intro h
            refine ⟨?_, by simpa using h⟩
            rw [hp1.mem_iff]
            refine Decidable.byContradiction fun hno => ?_
            have := vl l
            have h1 : valV fvs (Sum.inr l) = none := by
              cases hv : valV fvs (Sum.inr l) with
              | none => rfl
              | some v =>
                have : (Sum.inr l : Key) ∈ fvs.map (·.1) := valV_iff.mp (by rw [hv]; rfl)
                rw [hfl] at this
                obtain ⟨l', hl', e⟩ := List.mem_map.mp this
                rw [Sum.inr.inj e] at hl'
                exact absurd hl' hno
            rw [h1] at this
            have this : pos l = (0, 1) := this
            rw [this] at h
            exact absurd h (by decide)
end

section
variable {P : Program} {w : World} {K : PySem.W.Frag} {mg : Str → Option Value} {base : Heap}
def spEnded (K : PySem.W.Frag) : Sp := sp1 fun s H Q _ => ∃ r ds as lc ts S cs U, s = .ref r ∧ RunAt K U H r ds as lc ts S cs ∧ (cs = [] → ∀ H', Same H H' → Q (.int 0) H') ∧
  ∀ c sc, cs.getLast? = some c → get S c.1 = some sc → ∀ mx, 0 ≤ mx → (∀ l, lenF (posK S cs (cs.length - 1) l) (goalOf sc l) sc.up sc.down ≤ mx) → (mx = 0 ∨ ∃ l, mx = lenF (posK S cs (cs.length - 1) l) (goalOf sc l) sc.up sc.down) → ∀ H', Same H H' → Q (.int (c.2 + mx)) H'
theorem sc_Run_ended : FnScope ["self", "number", "since", "scene", "levels", "lengths", "lamp"] ["self"] (defScope s_Run_ended) := ⟨rfl, rfl, rfl, by decide +kernel, rfl, by decide +kernel, by decide +kernel⟩
theorem d_Run_ended (T : Txt K mg) : MDef P w K mg base (He.ga K "Run") 6 "ended" ["self"] [] (spEnded K) := by
  have d_Run_begun := d_Run_begun (P := P) (w := w) (base := base) T
  have d_Scene_length := d_Scene_length (P := P) (w := w) (base := base) T
  refine mkM T.d_Run_ended T.m_Run_ended sc_Run_ended (fun _ _ _ _ _ _ us hl => match us, hl with | [_], _ => rfl) len1 (BodyN.up fun cdv A outer s H vs Q E hr h => ?_)
  obtain ⟨_, rfl, r, ds, as, lc, ts, S, cs, U, rfl, hR, q0, q⟩ := h
  have hu := hu_of hr
  refine ⟨_, (pss_cons (ps_if (pt_cmpR (op_eqD hr.units) (pe_fld (pv 0) rfl) (pe_lst pa_nil) (nomark _))
    (pss_one (ps_ret pe_int))
    pss_nil)
    (pss_cons (ps_asg (pe_ix ix_list (pe_fld (pv 0) rfl) (pe_un un_neg pe_int) (fun _ _ => rfl)) (pg_tup rfl (pgs_cons (pg_name (i := 1) sc_Run_ended.nd rfl (Or.inl rfl)) (pgs_cons (pg_name (i := 2) sc_Run_ended.nd rfl (Or.inl rfl)) pgs_nil))))
    (pss_cons (ps_set (i := 3) sc_Run_ended.nd rfl (Or.inr rfl) (pe_dget (by exact hu) (pe_fld (pv 0) rfl) (pv 1) (fun _ _ => rfl)))
    (pss_cons (ps_set (i := 4) sc_Run_ended.nd rfl (Or.inr rfl) (pe_mt T.c_Run d_Run_begun (hr.mono (by decide)) passL (pv 0) (pa_cons (pe_op op_sub (pe_callB call_len_seq (by rfl) T.z_len (by decide +kernel) (pa_cons (pe_fld (pv 0) rfl) pa_nil)) pe_int) pa_nil)))
    (pss_cons (ps_setLc (i := 5) (own := [("lamp", 6)]) rfl sc_Run_ended.nd rfl rfl (sw_true rfl rfl rfl (by decide +kernel)) (pi_list (pe_op op_catS (pe_callTy (call_listD rfl) (by rfl) T.z_list (by decide +kernel) (pa_cons (pv 4) pa_nil)) (pe_callTy (call_listD rfl) (by rfl) T.z_list (by decide +kernel) (pa_cons (pe_fld (pv 3) rfl) pa_nil)))) (blkOk_by (own := [("lamp", 6)]) (N := ["self", "number", "since", "scene", "levels", "lengths", "lamp"]) (sc := defScope s_Run_ended) (by decide +kernel)) (fun _ _ _ _ _ => pg_name (i := 6) sc_Run_ended.nd rfl (Or.inl rfl)) (fun _ _ _ _ _ => pts_nil) (fun _ _ _ _ _ => (pe_mt T.c_Scene d_Scene_length (hr.mono (by decide)) passL (pv 3) (pa_cons (pv 6) (pa_cons (pe_dget2 (by exact hu) (pv 4) (pv 6) (pe_glob (v := .ref _) rfl T.g_DARK rfl) ⟨rfl, rfl, rfl, rfl⟩) pa_nil)))))
    (pss_one (ps_ret (pe_op op_add (pv 2) (pe_callB (cr_max rfl) (by rfl) T.z_max (by decide +kernel) (pa_cons (pe_op op_catS (pe_lst (pa_cons pe_int pa_nil)) (pv 5)) pa_nil)))))))))), ?_⟩
  obtain ⟨dx, ob⟩ := hR.ob
  refine ⟨_, rfl, r, _, dx, _, _, rfl, ob, T.c_Run, T.n_Run_called, runF_called, by simp [sizeLine_eq], fun e ne => ?_⟩
  have se := same_upd (o := HO.lst []) ne
  have Re := hR.same se
  refine eqD_nil (dat_lstD (K := K) (.inl (.inl Re.cl)) (calls_dat (K := K) Re.ct)) upd_same (by decide) ⟨_, rfl, ?_⟩
  generalize upd H e (.lst []) = H1 at se Re
  cases hl : cs.getLast? with
  | none =>
    have e0 := List.getLast?_eq_none_iff.mp hl
    subst e0
    exact iteY rfl (q0 rfl H1 se)
  | some c =>
    have hcl : 0 < cs.length := by
      cases cs with
      | nil => cases hl
      | cons _ _ => simp
    have hne : (cs.map tupI).isEmpty = false := by
      cases cs with
      | nil => cases hl
      | cons _ _ => rfl
    refine iteN hne ?_
    obtain ⟨t, ht, et⟩ := calls_last Re.ct hl
    obtain ⟨⟨sc, hsc⟩, _⟩ := hR.cs.ok c (List.mem_of_getLast? hl)
    have q := q c sc hl hsc
    obtain ⟨kvs, hds, tk⟩ := Re.tb.top
    have hds : H1 ds = some (.dK kvs) := hds
    have few := hR.cs.few
    refine ⟨_, rfl, r, _, dx, _, _, rfl, se _ _ ob, T.c_Run, T.n_Run_called, runF_called, _, rfl, _, _, _, _, rfl, rfl, .inl (.inl Re.cl), at_last (by rw [List.getLast?_map, ht]; rfl), _, _, rfl, .inl (.inl et), rfl, _, _, rfl, _, _, rfl, rfl, ?_⟩
    refine ⟨_, rfl, r, _, dx, _, _, rfl, se _ _ ob, T.c_Run, T.n_Run_scenes, runF_scenes, _, rfl, ds, _, rfl, tk.hit (.inl hds) hsc, ?_⟩
    have el : (ts.map V.ref).length = cs.length := by rw [List.length_map]; exact paired_len hR.ct
    refine ⟨_, rfl, _, _, _, rfl, se _ _ ob, runF_no (by decide +kernel) (by decide +kernel), _, rfl, r, _, dx, _, _, rfl, se _ _ ob, T.c_Run, T.n_Run_called, runF_called, lc, _, rfl, .inl (.inl (.inl Re.cl)), _, _, rfl, rfl, ?_⟩
    have spB : ∀ (Q1 : VK) (E1 : XK), (∀ H' w', Same H1 H' → H1 w' = none → FracAt U H' w' (posK S cs (cs.length - 1)) → Q1 (.ref w') H') → spBegun K [.ref r, .int (((ts.map V.ref).length : Int) - 1)] H1 Q1 E1 := fun Q1 E1 k => ⟨_, _, rfl, r, ds, as, lc, ts, S, cs, U, cs.length - 1, rfl, by congr 1; omega, Re, by omega, k⟩
    refine spB _ _ fun H2 w2 s2 n2 hF => ?_
    have s12 := se.trans s2
    have R2 := hR.same s12
    have hS2 := R2.scene hsc
    obtain ⟨dxs, lw, es, ⟨lvs, e2, wk⟩, hr1, hw1, hfd⟩ := id hS2
    obtain ⟨fvs, ew, nd, ks, vl⟩ := hF
    have hU := hR.lamps
    obtain ⟨kl, hkl, klU⟩ := lamp_keys ks
    obtain ⟨ll, hll, _, hllm⟩ := wk.keys
    have few1 : kl.length ≤ 60 := by
      have n1 : kl.Nodup := nodup_of_map (f := (Sum.inr : Str → Key)) (by rw [← hkl]; exact nd)
      have := nodup_le n1 klU
      have := hU.few
      omega
    have lvl : lvs.length = sc.words.length := wk.len hr1
    have few2 : ll.length ≤ 60 := by
      have n1 := nodup_le (rising_nodup linS hr1) (u := U) fun x hx => by
        obtain ⟨y, hy, rfl⟩ := List.mem_map.mp hx
        exact (hw1 y hy).1
      rw [List.length_map] at n1
      have := hU.few
      have e := congrArg List.length hll
      rw [List.length_map, List.length_map] at e
      omega
    have hok : ∀ l, FOk (1 + 13 * (cs.length - 1)) (posK S cs (cs.length - 1) l) := fun l => posK_ok hR.good hR.cs.ord l _
    generalize posK S cs (cs.length - 1) = pos at vl q hok
    refine ⟨_, rfl, w2, fvs, rfl, .inl ew, fun l1 nl1 => ?_⟩
    have t1 := same_upd (o := HO.lst (fvs.map fun kv => kV kv.1)) nl1
    refine ⟨_, rfl, (as c.1).1, _, dxs, _, _, rfl, t1 _ _ es, T.c_Scene, T.n_Scene_lights, sceneF_lights, lw, lvs, rfl, .inl (t1 _ _ e2), fun l2 nl2 => ?_⟩
    have t2 := same_upd (o := HO.lst (lvs.map fun kv => kV kv.1)) nl2
    refine ⟨l1, l2, kl.map V.str, ll.map V.str, rfl, rfl, .inl (.inl (t2 _ _ (by rw [← key_vals hkl]; exact upd_same))), .inl (.inl (by rw [← key_vals hll]; exact upd_same)), by rw [List.length_map, List.length_map, sizeLine_eq]; omega, fun l3 nl3 => ?_⟩
    rw [← List.map_append]
    have t3 := same_upd (o := HO.lst ((kl ++ ll).map V.str)) nl3
    refine ⟨l3, rfl, ⟨_, .inl (.inl upd_same)⟩, fun D nD => ?_⟩
    have t13 := t1.trans (t2.trans t3)
    have noL : ∀ {u d : Int} {w : Addr}, (sceneF u d w).lookup ("length" : Str) = none := fun {u d w} => sceneF_no (by decide +kernel) (by decide +kernel) (by decide +kernel)
    refine lc_pure (walk_list (K := K) (a := l3) (xs := (kl ++ ll).map V.str)) nD yes (fun v => match v with
      | .str z => .int (lenF (pos z) (goalOf sc z) sc.up sc.down)
      | _ => .non) ?_ (fun _ => rfl) (fun H5 s5 => .inl (.inl (s5 _ _ upd_same))) (fun x _ H _ Q' k => tt_yes x k) ?_ ?_
    · rw [List.length_map, List.length_append, sizeLine_eq]; omega
    · intro v hv _ H5 s5 Q' k
      obtain ⟨z, hz, rfl⟩ := List.mem_map.mp hv
      have s25 := t13.trans s5
      obtain ⟨tb, htb, o, ho, hget⟩ : ∃ tb, SqT K H5 tb [.int (pos z).1, .int (pos z).2] ∧ ∃ o, valV fvs (Sum.inr z) = o ∧ o.getD (V.ref (He.ga K "DARK")) = V.ref tb := by
        have := vl z
        cases hv : valV fvs (Sum.inr z) with
        | none =>
          rw [hv] at this
          refine ⟨He.ga K "DARK", ?_, none, rfl, rfl⟩
          have this : pos z = (0, 1) := this
          rw [this]; exact T.t_DARK H5
        | some v =>
          rw [hv] at this
          obtain ⟨t, rfl, e⟩ := this
          exact ⟨t, .inl (.inl (s25 _ _ e)), _, rfl, rfl⟩
      refine ⟨_, rfl, _, dxs, _, rfl, s25 _ _ es, noL, _, rfl, _, rfl, _, rfl, .inl ⟨_, .inl (s25 _ _ ew)⟩, _, rfl, o, .inl ⟨fvs, Sum.inr z, .inl (s25 _ _ ew), rfl, ho.symm⟩, ?_⟩
      rw [hget]
      exact ⟨_, _, _, rfl, (as c.1).1, sc, z, U, tb, pos z, _, rfl, rfl, rfl, hS2.same s25, htb, hok z, by omega, fun H6 s6 => k H6 s6⟩
    · intro H5 s5 hD
      rw [filter_yes, List.map_map] at hD
      have hD : H5 D = some (.lst (((kl ++ ll).map fun z => lenF (pos z) (goalOf sc z) sc.up sc.down).map V.int)) := by
        rw [hD, List.map_map]; rfl
      refine ⟨_, rfl, by simp [sizeLine_eq], fun l4 nl4 => ?_⟩
      have t4 := same_upd (o := HO.lst [V.int 0]) nl4
      refine ⟨_, rfl, l4, D, _, _, rfl, rfl, .inl (.inl upd_same), .inl (.inl (t4 _ _ hD)), by rw [List.length_map, List.length_map, List.length_append, sizeLine_eq]; show 1 + _ ≤ _; omega, fun l5 nl5 => ?_⟩
      have t5 := same_upd (o := HO.lst ([V.int 0] ++ ((kl ++ ll).map fun z => lenF (pos z) (goalOf sc z) sc.up sc.down).map V.int)) nl5
      refine ⟨l5, 0 :: (kl ++ ll).map fun z => lenF (pos z) (goalOf sc z) sc.up sc.down, rfl, .inl (.inl upd_same), by simp, fun mx hmx hall => ?_⟩
      refine ⟨_, _, rfl, rfl, q mx (hall 0 List.mem_cons_self) (fun l => ?_) ?_ _ ((s12.trans (t13.trans s5)).trans (t4.trans t5))⟩
      · by_cases hm : l ∈ kl ++ ll
        · exact hall _ (List.mem_cons_of_mem _ (List.mem_map.mpr ⟨l, hm, rfl⟩))
        · have h1 : l ∉ kl := fun h => hm (List.mem_append.mpr (.inl h))
          have h2 : l ∉ ll := fun h => hm (List.mem_append.mpr (.inr h))
          have g0 : goalOf sc l = 0 := by
            unfold goalOf
            rw [get_none_iff.mpr fun h => h2 ((hllm l).mpr h)]; rfl
          have p0 : pos l = (0, 1) := by
            have hv2 := vl l
            cases hk : valV fvs (Sum.inr l) with
            | none => rw [hk] at hv2; exact hv2
            | some v =>
              have : (Sum.inr l : Key) ∈ fvs.map (·.1) := valV_iff.mp (by rw [hk]; rfl)
              rw [hkl] at this
              obtain ⟨l', hl', e⟩ := List.mem_map.mp this
              rw [Sum.inr.inj e] at hl'
              exact absurd hl' h1
          rw [p0, g0]
          unfold lenF
          rw [if_pos rfl]
          exact hall 0 List.mem_cons_self
      · rcases List.mem_cons.mp hmx with h | h
        · exact .inl h
        · obtain ⟨z, _, e⟩ := List.mem_map.mp h
          exact .inr ⟨z, e.symm⟩
end

/-! ## Lights by the model, in plain terms -/
theorem way_law1 {m : Nat} {f : Frac} {g u d gone : Int} (hf : FOk m f) (hg : 0 ≤ g ∧ g ≤ 100) (h0 : 0 ≤ gone) (h : (if g * f.2 < f.1 then d else u) ≤ gone ∨ f.1 = g * f.2) : wayF f g gone (lenF f g u d) = (g, 1) := by
  unfold lenF
  by_cases e : f.1 = g * f.2
  · rw [if_pos ((goal_iff hf hg).mpr e)]
    unfold wayF
    rw [if_pos h0]
  · rw [if_neg fun z => e ((goal_iff hf hg).mp z)]
    have h := h.resolve_right e
    have e2 : (if f.1 * 1 < g * f.2 then u else d) = if g * f.2 < f.1 then d else u := by
      by_cases c : g * f.2 < f.1
      · rw [if_pos c, if_neg (by omega)]
      · rw [if_neg c, if_pos (by omega)]
    rw [e2]
    unfold wayF
    rw [if_pos h]
theorem way_law2 {m : Nat} {f : Frac} {g u d gone L : Int} (hf : FOk m f) (hg : 0 ≤ g ∧ g ≤ 100) (hL : L = if g * f.2 < f.1 then d else u) (h1 : ¬ L ≤ gone) (h2 : ¬ f.1 = g * f.2) : lenF f g u d = L ∧ wayF f g gone L = lowF (f.1 * L + (g * f.2 - f.1) * gone) (f.2 * L) ∧ f.1 * 1 * (L - gone) + g * f.2 * gone = f.1 * L + (g * f.2 - f.1) * gone ∧ f.2 * 1 * L = f.2 * L := by
  have e1 : lenF f g u d = L := by
    unfold lenF
    rw [if_neg fun z => h2 ((goal_iff hf hg).mp z), hL]
    by_cases c : g * f.2 < f.1
    · rw [if_pos c, if_neg (by omega)]
    · rw [if_neg c, if_pos (by omega)]
  have e3 : f.1 * 1 * (L - gone) + g * f.2 * gone = f.1 * L + (g * f.2 - f.1) * gone := by
    rw [Int.mul_one, Int.mul_sub, Int.sub_mul]; omega
  have e4 : f.2 * 1 * L = f.2 * L := by rw [Int.mul_one]
  refine ⟨e1, ?_, e3, e4⟩
  unfold wayF
  rw [if_neg h1, e3, e4]
/-- a call up to a moment -/
def upV (H : Hp) (i : Int) (v : V) : Bool := match v with
  | .ref t => (match H t with
    | some (.tup [_, .int b]) => decide (b ≤ i)
    | _ => false)
  | _ => false
theorem upV_at {H : Hp} {i : Int} {t : Addr} {c : Int × Int} (h : H t = some (.tup [.int c.1, .int c.2])) : upV H i (.ref t) = decide (c.2 ≤ i) := by
  unfold upV
  simp only [h]
theorem calls_filter {H : Hp} {i : Int} : ∀ {ts : List Addr} {cs : Cs}, CallsAt H ts cs → (cs.Pairwise fun a b => a.2 ≤ b.2) → (ts.map V.ref).filter (upV H i) = (ts.take (nUp cs i)).map V.ref
  | _, _, .nil, _ => rfl
  | t :: ts, c :: cs, .cons h r, hp => by
    obtain ⟨p1, p2⟩ := List.pairwise_cons.mp hp
    have ih := calls_filter (i := i) r p2
    unfold nUp at ih ⊢
    rw [List.map_cons]
    by_cases k : c.2 ≤ i
    · rw [List.filter_cons_of_pos (by rw [upV_at h]; simpa using k), List.filter_cons_of_pos (by simpa using k), List.length_cons, List.take_succ_cons, List.map_cons, ih]
    · rw [List.filter_cons_of_neg (by rw [upV_at h]; simpa using k), List.filter_cons_of_neg (by simpa using k), ih]
      have : cs.filter (fun c => decide (c.2 ≤ i)) = [] := List.filter_eq_nil_iff.mpr fun d hd => by
        have := p1 d hd
        simp; omega
      rw [this]; rfl
/-- the lights as the k-th of the calls up to a moment begins, and at last those at the moment -/
def posN (S : Book) (cs : Cs) (i : Int) (k : Nat) : Str → Frac := if k < nUp cs i then posK S cs k else atP S cs i
theorem posN_zero (S : Book) (cs : Cs) (i : Int) : posN S cs i 0 = darkP := by
  unfold posN
  by_cases h : 0 < nUp cs i
  · rw [if_pos h]; rfl
  · rw [if_neg h]
    unfold atP
    rw [show nUp cs i = 0 by omega]
def untilN (cs : Cs) (i : Int) (k : Nat) : Int := if k + 1 < nUp cs i then ((cs[k + 1]?).map (·.2)).getD i else i
theorem nUp_mem {cs : Cs} (h : cs.Pairwise fun a b => a.2 ≤ b.2) {i : Int} {k : Nat} (hk : k < nUp cs i) : ∃ c, cs[k]? = some c ∧ c.2 ≤ i := by
  have hl := nUp_le cs i
  obtain ⟨c, hc⟩ : ∃ c, cs[k]? = some c := ⟨_, List.getElem?_eq_getElem (by omega)⟩
  refine ⟨c, hc, ?_⟩
  have : c ∈ cs.take (nUp cs i) := List.mem_of_getElem? (i := k) (by rw [List.getElem?_take_of_lt hk]; exact hc)
  rw [← filter_up h] at this
  simpa using (List.mem_filter.mp this).2
theorem until_ge {cs : Cs} (h : cs.Pairwise fun a b => a.2 ≤ b.2) {i : Int} {k : Nat} (hk : k < nUp cs i) {c : Int × Int} (hc : cs[k]? = some c) : 0 ≤ untilN cs i k - c.2 := by
  unfold untilN
  by_cases h1 : k + 1 < nUp cs i
  · rw [if_pos h1]
    obtain ⟨d, hd, _⟩ := nUp_mem h h1
    rw [hd]
    have := List.pairwise_iff_getElem.mp h k (k + 1) (by have := (List.getElem?_eq_some_iff.mp hc).1; omega) (by have := (List.getElem?_eq_some_iff.mp hd).1; omega) (by omega)
    obtain ⟨l1, e1⟩ := List.getElem?_eq_some_iff.mp hc
    obtain ⟨l2, e2⟩ := List.getElem?_eq_some_iff.mp hd
    rw [e1, e2] at this
    show 0 ≤ d.2 - c.2
    omega
  · rw [if_neg h1]
    obtain ⟨c', hc', e⟩ := nUp_mem h hk
    rw [hc] at hc'
    cases hc'
    omega
theorem posN_step {S : Book} {cs : Cs} (h : cs.Pairwise fun a b => a.2 ≤ b.2) {i : Int} {k : Nat} (hk : k < nUp cs i) {c : Int × Int} (hc : cs[k]? = some c) : posN S cs i (k + 1) = stepP S c.1 (untilN cs i k - c.2) (posN S cs i k) := by
  have e0 : posN S cs i k = posK S cs k := by unfold posN; rw [if_pos hk]
  rw [e0]
  unfold posN untilN
  by_cases h1 : k + 1 < nUp cs i
  · rw [if_pos h1, if_pos h1]
    obtain ⟨d, hd, _⟩ := nUp_mem h h1
    rw [hd]
    show (match cs[k]?, cs[k + 1]? with
      | some c, some d => stepP S c.1 (d.2 - c.2) (posK S cs k)
      | _, _ => posK S cs k) = _
    rw [hc, hd]; rfl
  · rw [if_neg h1, if_neg h1]
    unfold atP
    rw [show nUp cs i = k + 1 by omega]
    show (match cs[k]? with
      | some c => stepP S c.1 (i - c.2) (posK S cs k)
      | none => darkP) = _
    rw [hc]
theorem posN_end (S : Book) (cs : Cs) (i : Int) : posN S cs i (nUp cs i) = atP S cs i := by unfold posN; rw [if_neg (by omega)]
/-- what a run takes for a goal is what the model tells -/
theorem goal_scene {U : List Str} {M : Book} (g : Good U M) {n : Int} {c : CueC} (h : get M n = some c) (l : Str) : ∃ sc, get (scenes M) n = some sc ∧ goalOf sc l = lev M n l ∧ sc.up = c.up ∧ sc.down = c.down :=
  ⟨⟨c.up, c.down, false, look M n⟩, by rw [get_scenes, h]; rfl, look_lev g n l, rfl, rfl⟩

section
variable {P : Program} {w : World} {K : PySem.W.Frag} {mg : Str → Option Value} {base : Heap}
def spLDivisor : Sp := spDivisor
theorem sc__law_divisor : FnScope ["_law_one", "_law_other"] ["_law_one", "_law_other"] (defScope s__law_divisor) := ⟨rfl, rfl, rfl, by decide +kernel, rfl, by decide +kernel, by decide +kernel⟩
theorem d__law_divisor (T : Txt K mg) : Def P w K mg base 1 "_law_divisor" ["_law_one", "_law_other"] (spLDivisor) := by
  refine mkDef T.d__law_divisor T.g__law_divisor sc__law_divisor (fun _ _ _ _ _ _ us hl => match us, hl with | [_, _], _ => rfl) len2 (BodyN.up fun cdv A outer s H vs Q E hr h => ?_)
  obtain ⟨_, _, rfl, x, y, rfl, rfl, hx, hy, q⟩ := h
  have hu := hu_of hr
  refine ⟨_, (pss_cons (ps_while PassesOwn.never (pt_cmpR op_gt (pv 1) pe_int (nomark _)) (pss_one (ps_par (i := 0) (j := 1) (by rfl) sc__law_divisor.nd rfl rfl (by decide) rfl rfl (pa_cons (pv 1) (pa_cons (pe_op op_mod (pv 0) (pv 1)) pa_nil)) (by rfl))))
    (pss_one (ps_ret (pv 0)))), ?_⟩
  refine while_by (fun σ H' => ∃ a b : Int, σ = [some (.int a), some (.int b)] ∧ H' = H ∧ 0 ≤ a ∧ 0 ≤ b ∧ gcdI a b = gcdI x y) (fun σ _ => match σ with | [_, some (.int b)] => b.toNat | _ => 0) ⟨x, y, rfl, rfl, hx, hy, rfl⟩ ?_ ?_
  · rintro σ H' ⟨a, b, rfl, rfl, ha, hb, e⟩
    refine ⟨_, rfl, _, _, rfl, rfl, _, rfl, ite2 (fun c => ?_) (fun c => ?_)⟩
    · have c : 0 < b := of_decide_eq_true c
      refine ⟨_, rfl, _, rfl, _, rfl, _, _, rfl, rfl, c, _, _, rfl, ⟨b, a % b, rfl, rfl, hb, Int.emod_nonneg _ (by omega), by rw [gcd_step ha c, e]⟩, ?_⟩
      show (a % b).toNat < b.toNat
      have := Int.emod_lt_of_pos a c
      have := Int.emod_nonneg a (by omega : b ≠ 0)
      omega
    · have c : ¬ 0 < b := fun z => c (decide_eq_true z)
      have : b = 0 := by omega
      subst this
      refine ⟨_, rfl, ?_⟩
      rw [← e, gcd_end ha] at q
      exact q
  · rintro σ H' Q1 Q2 h ⟨v, e1, i, j, e2, e3, b, e4, k⟩
    exact ⟨v, e1, i, j, e2, e3, b, e4, h _ _ k⟩
def spLLowest : Sp := spLowest
theorem sc__law_lowest : FnScope ["_law_above", "_law_below", "_law_by"] ["_law_above", "_law_below"] (defScope s__law_lowest) := ⟨rfl, rfl, rfl, by decide +kernel, rfl, by decide +kernel, by decide +kernel⟩
theorem d__law_lowest (T : Txt K mg) : Def P w K mg base 2 "_law_lowest" ["_law_above", "_law_below"] (spLLowest) := by
  have d__law_divisor := d__law_divisor (P := P) (w := w) (base := base) T
  refine mkDef T.d__law_lowest T.g__law_lowest sc__law_lowest (fun _ _ _ _ _ _ us hl => match us, hl with | [_, _], _ => rfl) len2 (BodyN.up fun cdv A outer s H vs Q E hr h => ?_)
  obtain ⟨_, _, rfl, x, y, rfl, rfl, hx, hy, hb, q⟩ := h
  have hu := hu_of hr
  refine ⟨_, (pss_cons (ps_set (i := 2) sc__law_lowest.nd rfl (Or.inl rfl) (pe_fn d__law_divisor (hr.mono (by decide)) (by rfl) passL (pa_cons (pv 0) (pa_cons (pv 1) pa_nil))))
    (pss_one (ps_ret (pe_tup (pa_cons (pe_op op_fdivW (pv 0) (pv 2)) (pa_cons (pe_op op_fdivW (pv 1) (pv 2)) pa_nil)))))), ?_⟩
  have hg := gcdI_pos (a := x) (b := y) (by omega)
  have hl : (gcdI x y).natAbs < 2 ^ 8000 := by
    have : gcdI x y ≤ y := Int.le_of_dvd (by omega) (gcdI_dr x y)
    exact Nat.lt_of_le_of_lt (by omega) hb
  refine ⟨_, rfl, _, rfl, _, _, rfl, x, y, rfl, rfl, hx, by omega, ?_⟩
  refine ⟨_, rfl, _, rfl, _, _, rfl, rfl, wide_div hg hl (by decide) (by decide), _, rfl, _, rfl, _, _, rfl, rfl, wide_div hg hl (by decide) (by decide), by simp [sizeLine_eq], fun t nt => ?_⟩
  exact q _ t (same_upd nt) nt upd_same
def spLWay (K : PySem.W.Frag) : Sp := sp4 fun b c d e H Q _ => ∃ (t l : Addr) (f : Frac) (g u dn gone : Int) (m : Nat), b = .ref t ∧ c = .int g ∧ d = .ref l ∧ e = .int gone ∧ SqT K H t [.int f.1, .int f.2] ∧ H l = some (.lst [.int u, .int dn]) ∧ FOk m f ∧ m ≤ 800 ∧ (0 ≤ g ∧ g ≤ 100) ∧ 0 ≤ gone ∧ (0 ≤ u ∧ u ≤ 6000 ∧ 0 ≤ dn ∧ dn ≤ 6000) ∧
  ∀ H' r, Same H H' → H r = none → H' r = some (.tup [.int (wayF f g gone (lenF f g u dn)).1, .int (wayF f g gone (lenF f g u dn)).2]) → Q (.ref r) H'
theorem sc__law_way : FnScope ["_law_begin", "_law_goal", "_law_fades", "_law_gone", "_law_length", "_law_step"] ["_law_begin", "_law_goal", "_law_fades", "_law_gone"] (defScope s__law_way) := ⟨rfl, rfl, rfl, by decide +kernel, rfl, by decide +kernel, by decide +kernel⟩
theorem d__law_way (T : Txt K mg) : Def P w K mg base 3 "_law_way" ["_law_begin", "_law_goal", "_law_fades", "_law_gone"] (spLWay K) := by
  have d__law_lowest := d__law_lowest (P := P) (w := w) (base := base) T
  refine mkDef T.d__law_way T.g__law_way sc__law_way (fun _ _ _ _ _ _ us hl => match us, hl with | [_, _, _, _], _ => rfl) len4 (BodyN.up fun cdv A outer s H vs Q E hr h => ?_)
  obtain ⟨_, _, _, _, rfl, t, l, f, g, u, dn, gone, m, rfl, rfl, rfl, rfl, ht, hl, hf, hm, hg, h0, ⟨u0, u1, d0, d1⟩, q⟩ := h
  have hu := hu_of hr
  refine ⟨_, (pss_cons (ps_set (i := 4) sc__law_way.nd rfl (Or.inl rfl) (pe_ix ix_list (pv 2) (pe_callTy call_int1 (by rfl) T.z_int (by decide +kernel) (pa_cons (pe_cmpR op_lt (pe_op op_mulW (pv 1) (pe_ix ix_tup (pv 0) pe_int (fun _ _ => rfl))) (pe_ix ix_tup (pv 0) pe_int (fun _ _ => rfl)) (nomark _)) pa_nil)) (fun _ _ => rfl)))
    (pss_cons (ps_if (PW.pt (pw_or (pt_cmpR op_ge (pv 3) (pv 4) (nomark _)) (pw_or1 (pt_cmpR op_eq (pe_ix ix_tup (pv 0) pe_int (fun _ _ => rfl)) (pe_op op_mulW (pv 1) (pe_ix ix_tup (pv 0) pe_int (fun _ _ => rfl))) (nomark _)))))
    (pss_one (ps_ret (pe_tup (pa_cons (pv 1) (pa_cons pe_int pa_nil)))))
    pss_nil)
    (pss_cons (ps_set (i := 5) sc__law_way.nd rfl (Or.inl rfl) (pe_op op_mulW (pe_op op_sub (pe_op op_mulW (pv 1) (pe_ix ix_tup (pv 0) pe_int (fun _ _ => rfl))) (pe_ix ix_tup (pv 0) pe_int (fun _ _ => rfl))) (pv 3)))
    (pss_one (ps_ret (pe_fn d__law_lowest (hr.mono (by decide)) (by rfl) passL (pa_cons (pe_op op_add (pe_op op_mulW (pe_ix ix_tup (pv 0) pe_int (fun _ _ => rfl)) (pv 4)) (pv 5)) (pa_cons (pe_op op_mulW (pe_ix ix_tup (pv 0) pe_int (fun _ _ => rfl)) (pv 4)) pa_nil)))))))), ?_⟩
  have b1 : f.1.natAbs < 2 ^ 1000 := big_up hf.na (by omega)
  have b2 : f.2.natAbs < 2 ^ 1000 := big_up hf.nb (by omega)
  have b3 : g.natAbs < 2 ^ 13 := by omega
  have bp : (g * f.2).natAbs < 2 ^ 1013 := by
    have := wide_lt b3 b2
    rwa [show 13 + 1000 = 1013 from rfl] at this
  have cm : CMulW g f.2 := wide_mul b3 b2 (by decide) (by decide) (by decide)
  obtain ⟨L, hL⟩ : ∃ L, L = if g * f.2 < f.1 then dn else u := ⟨_, rfl⟩
  have hat : atI [V.int u, .int dn] (if decide (g * f.2 < f.1) = true then 1 else 0) = some (.int L) := by
    rw [hL]
    by_cases c : g * f.2 < f.1
    · rw [if_pos c, if_pos (decide_eq_true c)]; exact ix2_1 _ _
    · rw [if_neg c, if_neg (by simpa using c)]; exact ix2_0 _ _
  have hL0 : 0 ≤ L ∧ L ≤ 6000 := by
    rw [hL]
    by_cases c : g * f.2 < f.1
    · rw [if_pos c]; exact ⟨d0, d1⟩
    · rw [if_neg c]; exact ⟨u0, u1⟩
  refine ⟨_, rfl, _, rfl, _, rfl, _, _, _, _, rfl, rfl, ht, ix2_1 _ _, _, _, rfl, rfl, cm, _, rfl, _, _, _, _, rfl, rfl, ht, ix2_0 _ _, _, _, rfl, rfl, .inr ⟨_, rfl, _, _, _, _, rfl, rfl, .inl (.inl hl), hat, ?_⟩⟩
  have fin : (L ≤ gone ∨ f.1 = g * f.2) → ∀ r, H r = none → Q (.ref r) (upd H r (.tup [.int g, .int 1])) := fun h r nr => q _ r (same_upd nr) nr (by rw [way_law1 hf hg h0 (by rw [← hL]; exact h)]; exact upd_same)
  refine ⟨_, rfl, _, rfl, _, _, rfl, rfl, _, rfl, ite2 (fun c => ?_) (fun c => ?_)⟩
  · exact ⟨_, rfl, by simp [sizeLine_eq], fin (.inl (of_decide_eq_true c))⟩
  have c1 : ¬ L ≤ gone := fun z => c (decide_eq_true z)
  refine ⟨_, rfl, _, _, _, _, rfl, rfl, ht, ix2_0 _ _, _, rfl, _, rfl, _, _, _, _, rfl, rfl, ht, ix2_1 _ _, _, _, rfl, rfl, cm, rfl, _, rfl, ite2 (fun c => ?_) (fun c => ?_)⟩
  · exact ⟨_, rfl, by simp [sizeLine_eq], fin (.inr (by simpa using c))⟩
  have c2 : ¬ f.1 = g * f.2 := by simpa using c
  obtain ⟨eL, eW, e3, e4⟩ := way_law2 hf hg hL c1 c2 (gone := gone)
  obtain ⟨p1, p2, p3, p4⟩ := way_parts hf hg h0 (by omega) hL0.2 (gone := gone) (len := L)
  rw [e3] at p1 p3
  rw [e4] at p2 p3 p4
  have bl : L.natAbs < 2 ^ 13 := by omega
  have bg : gone.natAbs < 2 ^ 13 := by omega
  have bd : (g * f.2 - f.1).natAbs < 2 ^ 1014 := by
    have k1 : (2 : Nat) ^ 1000 ≤ 2 ^ 1013 := Nat.pow_le_pow_right (by decide) (by decide)
    have k2 : (2 : Nat) ^ 1014 = 2 ^ 1013 * 2 := Nat.pow_succ 2 1013
    rw [k2]
    generalize (2 : Nat) ^ 1013 = A at *
    generalize (2 : Nat) ^ 1000 = B at *
    omega
  refine ⟨_, rfl, _, rfl, _, _, _, _, rfl, rfl, ht, ix2_1 _ _, _, _, rfl, rfl, cm, _, rfl, _, _, _, _, rfl, rfl, ht, ix2_0 _ _, _, _, rfl, rfl, _, rfl, _, _, rfl, rfl, wide_mul bd bg (by decide) (by decide) (by decide), ?_⟩
  refine ⟨_, rfl, _, _, _, _, rfl, rfl, ht, ix2_0 _ _, _, rfl, _, _, rfl, rfl, wide_mul b1 bl (by decide) (by decide) (by decide), _, rfl, _, _, rfl, rfl, _, rfl, _, _, _, _, rfl, rfl, ht, ix2_1 _ _, _, rfl, _, _, rfl, rfl, wide_mul b2 bl (by decide) (by decide) (by decide), ?_⟩
  refine ⟨_, _, rfl, _, _, rfl, rfl, p1, p2, big_up (nat_of_lt (by omega) p4) (by omega), fun H' r s1 nr e => q H' r s1 nr ?_⟩
  rw [eL, eW]; exact e
end

/-- != of data within a comprehension -/
theorem op_neDK {X : Cx} {K : PySem.W.Frag} (hK : X.K = K) (hu : X.A.units + 64 < cLine) : OpR X (compareOp .NotEq) (rNeD K) := by
  subst hK; exact op_neD hu
theorem pg_tupK {X : Cx} {K : PySem.W.Frag} {es : List Expr} {k : Nat} {t : TGs} {n : Nat} {pos : Pos} (hK : X.K = K) (hc : X.calm = true) (h : PGs X es t)
    (hn : (assignEach es X.env).length = n := by rfl) (hst : (assignEach es X.env).findIdx? (·.1) = none := by rfl) : PG X (.Tuple es k pos) (gTup K n t) := by
  subst hK; exact pg_tup hc h hn hst
/-- a comprehension that takes nothing -/
theorem lc_none {J : It} {G : Hp → Prop} {xs : List V} (w : Walk J xs.length G (YAt xs)) {g : TG} {tt : TT} {te : TE} {vs : List Nat} {σ : L2.St} {H1 : Hp} {D : Addr} {Qd : Hp → Prop} (nD : H1 D = none) (hG : ∀ H, Same H1 H → G H)
    (hs : ∀ x ∈ xs, ∀ H, Same H1 H → ∀ Q' : L2.St → Bool → Hp → Prop, (∀ σ2 H', Same H H' → Q' σ2 false H') → g x (wipe σ vs) H fun σ2 H2 => wipe σ2 vs = wipe σ vs ∧ tt σ2 H2 (Q' σ2))
    (q : ∀ H, Same H1 H → H D = some (.lst []) → Qd H) : LcGoal J g tt te vs σ H1 D Qd := by
  refine lc_it w (fun i H => Same H1 H ∧ H D = some (.lst [])) ⟨same_upd nD, upd_same⟩ (fun i H _ p => hG H p.1) ?_ ?_
  · rintro i x H H' hi ⟨s1, hD⟩ ⟨rfl, hx⟩
    have hm : x ∈ xs := List.mem_of_getElem? hx
    refine hs x hm _ s1 (fun σ2 b H3 => if b = true then te σ2 H3 fun y H4 => ∃ acc, H4 D = some (HO.lst acc) ∧ acc.length < sizeLine ∧ Same H1 (upd H4 D (HO.lst (acc ++ [y]))) ∧ upd H4 D (HO.lst (acc ++ [y])) D = some (HO.lst []) else Same H1 H3 ∧ H3 D = some (HO.lst [])) ?_
    intro σ2 H' s'
    exact iteF ⟨s1.trans s', s' _ _ hD⟩
  · rintro H ⟨s1, hD⟩
    exact q H s1 hD
theorem paired_mem {α β : Type} {F : α → β → Prop} : ∀ {xs : List α} {ys : List β} {y : β}, Paired F xs ys → y ∈ ys → ∃ x ∈ xs, F x y
  | _, _, _, .cons h t, hy => by
    rcases List.mem_cons.mp hy with rfl | hy
    · exact ⟨_, List.mem_cons_self, h⟩
    · obtain ⟨x, hx, r⟩ := paired_mem t hy
      exact ⟨x, List.mem_cons_of_mem _ hx, r⟩
theorem kept_get {M M1 M' : Book} {n k : Int} {c : CueC} (h : Kept M M1 n M') (hk : get M1 k = some c) : ∃ c', get M' k = some c' := by
  cases z : nxt M n with
  | none => rw [h.1 z]; exact ⟨c, hk⟩
  | some m =>
    obtain ⟨c1, ws', hc1, _, e⟩ := h.2 m z
    rw [e, get_some_iff, setW_keys, ← get_some_iff]
    exact ⟨c, hk⟩

/-- a comprehension over pairs (items, enumerate, zip) to two names: R tells what an element is made of the i-th pair -/
theorem lc_pairs {J : It} {G : Hp → Prop} {n : Nat} {xs ys : Nat → Option V} (w : Walk J n G (YPair xs ys)) {g : TG} {tt : TT} {te : TE} {vs : List Nat} {σ : L2.St} {H1 : Hp} {D : Addr} {Qd : Hp → Prop} (nD : H1 D = none) (st : V → V → L2.St) (f : Nat → Bool) (R : Nat → V → Hp → Prop)
    (hR : ∀ i y H H', NL H H' → R i y H → R i y H') (hz : n < sizeLine) (hG : ∀ H, Same H1 H → G H)
    (ht : ∀ i x y T, i < n → xs i = some x → ys i = some y → ∀ H, Same H1 H → H T = some (.tup [x, y]) → ∀ C : L2.St → Bool → Hp → Prop, (∀ H', Same H H' → C (st x y) (f i) H') → g (.ref T) (wipe σ vs) H fun σ2 H2 => wipe σ2 vs = wipe σ vs ∧ tt σ2 H2 (C σ2))
    (he : ∀ i x y, i < n → xs i = some x → ys i = some y → f i = true → ∀ H, Same H1 H → ∀ Q' : VK, (∀ z H', Same H H' → R i z H' → Q' z H') → te (st x y) H Q')
    (q : ∀ H zs, Same H1 H → H D = some (.lst zs) → Paired (fun i z => R i z H) ((List.range n).filter f) zs → Qd H) : LcGoal J g tt te vs σ H1 D Qd := by
  refine lc_it w (fun i H => i ≤ n ∧ Same H1 H ∧ ∃ zs, H D = some (.lst zs) ∧ Paired (fun i z => R i z H) ((List.range i).filter f) zs) ⟨Nat.zero_le _, same_upd nD, [], upd_same, .nil⟩ (fun i H _ p => hG H p.2.1) ?_ ?_
  · rintro i x H H' hi ⟨_, s1, zs, hD, p⟩ ⟨T, a, b, rfl, nT, rfl, ha, hb⟩
    have sT := same_upd (o := HO.tup [a, b]) nT
    refine ht i a b T hi ha hb _ (s1.trans sT) upd_same (fun σ2 b' H3 => if b' = true then te σ2 H3 fun y H4 => ∃ acc, H4 D = some (HO.lst acc) ∧ acc.length < sizeLine ∧ (i + 1 ≤ n ∧ Same H1 (upd H4 D (.lst (acc ++ [y]))) ∧ ∃ zs, (upd H4 D (.lst (acc ++ [y]))) D = some (.lst zs) ∧ Paired (fun i z => R i z (upd H4 D (.lst (acc ++ [y])))) ((List.range (i + 1)).filter f) zs) else (i + 1 ≤ n ∧ Same H1 H3 ∧ ∃ zs, H3 D = some (.lst zs) ∧ Paired (fun i z => R i z H3) ((List.range (i + 1)).filter f) zs)) ?_
    intro H3 s3
    have s13 := (s1.trans sT).trans s3
    have p3 : Paired (fun i z => R i z H3) ((List.range i).filter f) zs := paired_imp (fun a b h => hR a b _ _ (Same.nl (sT.trans s3)) h) p
    have hD3 := s3 _ _ (sT _ _ hD)
    cases e : f i with
    | false =>
      refine iteF ⟨hi, s13, zs, hD3, ?_⟩
      rw [List.range_succ, List.filter_append, List.filter_cons, e]
      simpa using p3
    | true =>
      refine iteT (he i a b hi ha hb e _ s13 _ fun y H4 s4 r => ?_)
      have hD4 := s4 _ _ hD3
      have hl : zs.length < sizeLine := by
        rw [← paired_len p]
        refine Nat.lt_of_le_of_lt (List.length_filter_le _ _) ?_
        rw [List.length_range]; omega
      refine ⟨zs, hD4, hl, hi, sm_mut (s13.trans s4) nD, _, upd_same, ?_⟩
      rw [List.range_succ, List.filter_append, List.filter_cons, e]
      have n4 := nl_upd (l' := zs ++ [y]) hD4
      exact paired_snoc (paired_imp (fun a b h => hR a b _ _ n4 (hR a b _ _ (Same.nl s4) h)) p3) (hR _ _ _ _ n4 r)
  · rintro H ⟨_, s1, zs, hD, p⟩
    exact q H zs s1 hD p

theorem rep_map {t : Addr} : ∀ ls : List Str, (List.replicate ls.length [V.ref t]).flatten = (ls.map fun _ => t).map V.ref
  | [] => rfl
  | _ :: r => by
    show [V.ref t] ++ (List.replicate r.length [V.ref t]).flatten = _
    rw [rep_map r]; rfl
/-- addresses, each holding the fraction of its lamp -/
def FracsAt (H : Hp) (pos : Str → Frac) (tl : List Addr) (ls : List Str) : Prop := Paired (fun (t : Addr) (l : Str) => H t = some (.tup [.int (pos l).1, .int (pos l).2])) tl ls
theorem FracsAt.same {H H' : Hp} {pos : Str → Frac} {tl : List Addr} {ls : List Str} (h : FracsAt H pos tl ls) (s : Same H H') : FracsAt H' pos tl ls := paired_imp (fun _ _ e => s _ _ e) h
theorem fracs_of {H : Hp} {pos : Str → Frac} : ∀ {ls : List Str} {zs : List V} {k : Nat} {all : List Str}, (∀ j l, ls[j]? = some l → all[k + j]? = some l) → Paired (fun (i : Nat) (z : V) => ∃ t l, z = V.ref t ∧ all[i]? = some l ∧ H t = some (.tup [.int (pos l).1, .int (pos l).2])) (List.range' k ls.length) zs → ∃ tl : List Addr, zs = tl.map V.ref ∧ FracsAt H pos tl ls
  | [], _, _, _, _, .nil => ⟨[], rfl, .nil⟩
  | l :: r, _, k, all, h, p => by
    cases p with
    | cons a b =>
      obtain ⟨t, l', rfl, e, ht⟩ := a
      have := h 0 l rfl
      rw [Nat.add_zero, e] at this
      cases this
      obtain ⟨tl, rfl, hp⟩ := fracs_of (all := all) (fun j l hj => by
        have := h (j + 1) l hj
        rwa [show k + (j + 1) = k + 1 + j by omega] at this) b
      exact ⟨t :: tl, rfl, .cons ht hp⟩
section
variable {P : Program} {w : World} {K : PySem.W.Frag} {mg : Str → Option Value} {base : Heap}
def spLLights (K : PySem.W.Frag) : Sp := sp4 fun m l c t H Q _ => ∃ dm am M U la ls lc ts cs i, m = .ref dm ∧ l = .ref la ∧ c = .ref lc ∧ t = .int i ∧ TabAt RcM none H dm am M ∧ Good U M ∧ H la = some (.lst (ls.map V.str)) ∧ ls.length ≤ 60 ∧ H lc = some (.lst (ts.map V.ref)) ∧ CallsAt H ts cs ∧ CsOk (scenes M) cs ∧
  ∀ H' w tl, Same H H' → H w = none → H' w = some (.lst (tl.map V.ref)) → FracsAt H' (atP (scenes M) cs i) tl ls → Q (.ref w) H'
theorem sc__law_lights : FnScope ["_law_model", "_law_lamps_here", "_law_calls", "_law_moment", "_law_some", "_law_call", "_law_levels", "_law_k", "_law_until", "_law_goals", "_law_lamp", "_law_fades", "_law_one", "_law_goal"] ["_law_model", "_law_lamps_here", "_law_calls", "_law_moment"] (defScope s__law_lights) := ⟨rfl, rfl, rfl, by decide +kernel, rfl, by decide +kernel, by decide +kernel⟩
theorem d__law_lights (T : Txt K mg) : Def P w K mg base 4 "_law_lights" ["_law_model", "_law_lamps_here", "_law_calls", "_law_moment"] (spLLights K) := by
  have d__law_level := d__law_level (P := P) (w := w) (base := base) T
  have d__law_way := d__law_way (P := P) (w := w) (base := base) T
  refine mkDef T.d__law_lights T.g__law_lights sc__law_lights (fun _ _ _ _ _ _ us hl => match us, hl with | [_, _, _, _], _ => rfl) len4 (BodyN.up fun cdv A outer s H vs Q E hr h => ?_)
  obtain ⟨_, _, _, _, rfl, dm, am, M, U, la, ls, lc, ts, cs, i, rfl, rfl, rfl, rfl, hM, g, hla, few, hlc, hC, hcs, q⟩ := h
  have hu := hu_of hr
  refine ⟨_, (pss_cons (ps_setLc (i := 4) (own := [("_law_call", 5)]) rfl sc__law_lights.nd rfl rfl (sw_true rfl rfl rfl (by decide +kernel)) (pi_list (pv 2)) (blkOk_by (own := [("_law_call", 5)]) (N := ["_law_model", "_law_lamps_here", "_law_calls", "_law_moment", "_law_some", "_law_call", "_law_levels", "_law_k", "_law_until", "_law_goals", "_law_lamp", "_law_fades", "_law_one", "_law_goal"]) (sc := defScope s__law_lights) (by decide +kernel)) (fun _ _ _ _ _ => pg_name (i := 5) sc__law_lights.nd rfl (Or.inl rfl)) (fun _ _ _ _ _ => (pts_one (pt_cmpR op_le (pe_ix (ix_tupK (K := K) rfl) (pv 5) pe_int (fun _ _ => rfl)) (pv 3) (nomark _)))) (fun _ _ _ _ _ => (pv 5)))
    (pss_cons (ps_set (i := 6) sc__law_lights.nd rfl (Or.inl rfl) (pe_op op_rep (pe_lst (pa_cons (pe_tup (pa_cons pe_int (pa_cons pe_int pa_nil))) pa_nil)) (pe_callB call_len_seq (by rfl) T.z_len (by decide +kernel) (pa_cons (pv 1) pa_nil))))
    (pss_cons (ps_for PassesOwn.never rfl (pi_enum (by rfl) T.z_enumerate (pa_cons (pv 4) pa_nil)) (pg_tup rfl (pgs_cons (pg_name (i := 7) sc__law_lights.nd rfl (Or.inl rfl)) (pgs_cons (pg_name (i := 5) sc__law_lights.nd rfl (Or.inr rfl)) pgs_nil)))
    (Evl.pss_cut (ps_set (i := 8) sc__law_lights.nd rfl (Or.inr rfl) (pe_ifExp (pt_cmpR op_lt (pe_op op_add (pv 7) pe_int) (pe_callB call_len_seq (by rfl) T.z_len (by decide +kernel) (pa_cons (pv 4) pa_nil)) (nomark _)) (pe_ix ix_tup (pe_ix ix_list (pv 4) (pe_op op_add (pv 7) pe_int) (fun _ _ => rfl)) pe_int (fun _ _ => rfl)) (pv 3)))
    (pss_cons (ps_setLc (i := 9) (own := [("_law_lamp", 10)]) rfl sc__law_lights.nd rfl rfl (sw_true rfl rfl rfl (by decide +kernel)) (pi_list (pv 1)) (blkOk_by (own := [("_law_lamp", 10)]) (N := ["_law_model", "_law_lamps_here", "_law_calls", "_law_moment", "_law_some", "_law_call", "_law_levels", "_law_k", "_law_until", "_law_goals", "_law_lamp", "_law_fades", "_law_one", "_law_goal"]) (sc := defScope s__law_lights) (by decide +kernel)) (fun _ _ _ _ _ => pg_name (i := 10) sc__law_lights.nd rfl (Or.inl rfl)) (fun _ _ _ _ _ => pts_nil) (fun _ _ _ _ _ => (pe_fn d__law_level (hr.mono (by decide)) (by rfl) passL (pa_cons (pv 0) (pa_cons (pe_ix (ix_tupK (K := K) rfl) (pv 5) pe_int (fun _ _ => rfl)) (pa_cons (pv 10) pa_nil))))))
    (pss_cons (ps_set (i := 11) sc__law_lights.nd rfl (Or.inr rfl) (pe_slice sl_list (pe_dget (by exact hu) (pv 0) (pe_ix ix_tup (pv 5) pe_int (fun _ _ => rfl)) (fun _ _ => rfl)) po_none (po_some pe_int)))
    (pss_one (ps_setLc (i := 6) (own := [("_law_one", 12), ("_law_goal", 13)]) rfl sc__law_lights.nd rfl rfl (sw_true rfl rfl rfl (by decide +kernel)) (pi_zip (by rfl) T.z_zip (pa_cons (pv 6) (pa_cons (pv 9) pa_nil))) (blkOk_by (own := [("_law_one", 12), ("_law_goal", 13)]) (N := ["_law_model", "_law_lamps_here", "_law_calls", "_law_moment", "_law_some", "_law_call", "_law_levels", "_law_k", "_law_until", "_law_goals", "_law_lamp", "_law_fades", "_law_one", "_law_goal"]) (sc := defScope s__law_lights) (by decide +kernel)) (fun _ _ _ _ _ => pg_tupK (K := K) (n := 2) rfl rfl (pgs_cons (pg_name (i := 12) sc__law_lights.nd rfl (Or.inl rfl)) (pgs_cons (pg_name (i := 13) sc__law_lights.nd rfl (Or.inl rfl)) pgs_nil))) (fun _ _ _ _ _ => pts_nil) (fun _ _ _ _ _ => (pe_fn d__law_way (hr.mono (by decide)) (by rfl) passL (pa_cons (pv 12) (pa_cons (pv 13) (pa_cons (pv 11) (pa_cons (pe_op op_sub (pv 8) (pe_ix (ix_tupK (K := K) rfl) (pv 5) pe_int (fun _ _ => rfl))) pa_nil))))))))))))
    (pss_one (ps_ret (pv 6)))))), ?_⟩
  have gS := scenes_good g
  have elc : ts.length = cs.length := paired_len hC
  have fewC := hcs.few
  refine ⟨_, rfl, lc, rfl, ⟨_, .inl (.inl hlc)⟩, fun D nD => ?_⟩
  refine lc_pure (walk_list (K := K) (a := lc) (xs := ts.map V.ref)) nD (upV H i) id ?_ (fun _ => rfl) (fun H5 s5 => .inl (.inl (s5 _ _ hlc))) ?_ ?_ ?_
  · rw [List.length_map, sizeLine_eq]; omega
  · intro v hv H5 s5 Q' k
    obtain ⟨t, ht, rfl⟩ := List.mem_map.mp hv
    obtain ⟨c, _, hc⟩ := paired_memL hC ht
    refine ⟨_, rfl, _, _, _, _, rfl, rfl, .inl (.inl (s5 _ _ hc)), ix2_1 _ _, _, rfl, _, _, rfl, rfl, _, rfl, ?_⟩
    have := k H5 (Same.refl _)
    rw [upV_at hc] at this
    exact this
  · exact fun v _ _ H5 s5 Q' k => ⟨_, rfl, k H5 (Same.refl _)⟩
  intro H1 s1 hD
  rw [List.map_id, calls_filter hC hcs.ord] at hD
  have hn := nUp_le cs i
  have elT : ((ts.take (nUp cs i)).map V.ref).length = nUp cs i := by rw [List.length_map, List.length_take]; omega
  refine ⟨by simp [sizeLine_eq], fun t0 nt0 => ⟨by simp [sizeLine_eq], fun l0 nl0 => ?_⟩⟩
  have st0 := same_upd (o := HO.tup [.int 0, .int 1]) nt0
  have sl0 := same_upd (o := HO.lst [V.ref t0]) nl0
  have s13 := s1.trans (st0.trans sl0)
  refine ⟨_, rfl, la, _, rfl, .inl (.inl (.inl (s13 _ _ hla))), l0, _, _, rfl, rfl, upd_same, by omega, by rw [List.length_map]; omega, by rw [List.length_map, sizeLine_eq]; simp; omega, fun lv nlv => ?_⟩
  have slv := same_upd (o := HO.lst (List.replicate ((((ls.map V.str).length : Nat) : Int)).toNat [V.ref t0]).flatten) nlv
  have elv : (upd (upd (upd H1 t0 (.tup [.int 0, .int 1])) l0 (.lst [V.ref t0])) lv (.lst (List.replicate ((((ls.map V.str).length : Nat) : Int)).toNat [V.ref t0]).flatten)) lv = some (.lst ((ls.map fun _ => t0).map V.ref)) := by
    rw [upd_same, Int.toNat_natCast, List.length_map, rep_map]
  have s2 := s13.trans slv
  have p0 : FracsAt (upd (upd (upd H1 t0 (.tup [.int 0, .int 1])) l0 (.lst [V.ref t0])) lv (.lst (List.replicate ((((ls.map V.str).length : Nat) : Int)).toNat [V.ref t0]).flatten)) (posN (scenes M) cs i 0) (ls.map fun _ => t0) ls := by
    rw [posN_zero]
    exact paired_of_map fun l _ => slv _ _ (sl0 _ _ upd_same)
  have hD2 := slv _ _ (sl0 _ _ (st0 _ _ hD))
  have nlvH : H lv = none := s13.free nlv
  generalize upd (upd (upd H1 t0 (.tup [.int 0, .int 1])) l0 (.lst [V.ref t0])) lv (.lst (List.replicate ((((ls.map V.str).length : Nat) : Int)).toNat [V.ref t0]).flatten) = H2 at s2 p0 elv hD2
  clear slv nlv s13 sl0 st0 nt0 nl0
  refine ⟨_, rfl, D, _, rfl, .inl (.inl hD2), for_it (walk_enum (K := K) (a := D) (xs := (ts.take (nUp cs i)).map V.ref)) (fun k σ H' => ∃ lv v5 v7 v8 v9 v10 v11 v12 v13 tl, σ = [some (.ref dm), some (.ref la), some (.ref lc), some (.int i), some (.ref D), v5, some (.ref lv), v7, v8, v9, v10, v11, v12, v13] ∧ Same H2 H' ∧ H lv = none ∧ H' lv = some (.lst (tl.map V.ref)) ∧ FracsAt H' (posN (scenes M) cs i k) tl ls) ⟨lv, _, none, none, none, none, none, none, none, _, rfl, Same.refl _, nlvH, elv, p0⟩ (fun i σ H' _ ⟨_, _, _, _, _, _, _, _, _, _, _, s, _⟩ => .inl (.inl (s _ _ hD2))) ?_ ?_⟩
  · rintro k x σ H5 H5' hi ⟨lv, v5, v7, v8, v9, v10, v11, v12, v13, tl, rfl, s5, nlv, elv, hF⟩ ⟨t, kk, c, rfl, nt, rfl, hk, hc⟩
    cases hk
    have hk : k < nUp cs i := by
      have := (List.getElem?_eq_some_iff.mp hc).1
      rwa [elT] at this
    obtain ⟨ck, hck, _⟩ := nUp_mem hcs.ord hk
    obtain ⟨tk, htk, etk⟩ := calls_at hC hck
    have : ((ts.take (nUp cs i)).map V.ref)[k]? = some (V.ref tk) := by rw [List.getElem?_map, List.getElem?_take_of_lt hk, htk]; rfl
    have hc : ((ts.take (nUp cs i)).map V.ref)[k]? = some c := hc
    rw [this] at hc
    cases hc
    obtain ⟨⟨sc0, hsc0⟩, _, _⟩ := hcs.ok ck (List.mem_of_getElem? hck)
    have hgk : ∃ c, get M ck.1 = some c := by
      rw [get_scenes] at hsc0
      obtain ⟨c, hc, _⟩ := Option.map_eq_some_iff.mp hsc0
      exact ⟨c, hc⟩
    obtain ⟨cu, hcu⟩ := hgk
    obtain ⟨sc, hsc, _, eup, edn⟩ := goal_scene g hcu ""
    have hgoal : ∀ l, goalOf sc l = lev M ck.1 l := fun l => by
      obtain ⟨sc', h', e', _⟩ := goal_scene g hcu l
      rw [hsc] at h'
      cases h'; exact e'
    have st := same_upd (o := HO.tup [.int (k : Nat), .ref tk]) nt
    refine ⟨t, _, rfl, .inl (.inl upd_same), rfl, _, _, rfl, _, _, rfl, rfl, ?_⟩
    have s26 := s5.trans st
    have s06 := s2.trans s26
    have elv := st _ _ elv
    have hF := hF.same st
    generalize upd H5 t (.tup [.int (k : Nat), .ref tk]) = H6 at s26 s06 elv hF
    clear st nt s5
    have hD6 := s26 _ _ hD2
    -- the moment of the next call
    refine ⟨fun σ H' => σ = [some (.ref dm), some (.ref la), some (.ref lc), some (.int i), some (.ref D), some (.ref tk), some (.ref lv), some (.int (k : Nat)), some (.int (untilN cs i k)), v9, v10, v11, v12, v13] ∧ H' = H6, ?_, ?_⟩
    · refine ⟨_, rfl, _, _, rfl, rfl, _, rfl, D, _, rfl, .inl (.inl (.inl hD6)), _, _, rfl, rfl, _, rfl, ?_⟩
      rw [elT]
      by_cases h1 : k + 1 < nUp cs i
      · obtain ⟨d, hd, _⟩ := nUp_mem hcs.ord h1
        obtain ⟨td, htd, etd⟩ := calls_at hC hd
        have eu : untilN cs i k = d.2 := by unfold untilN; rw [if_pos h1, hd]; rfl
        rw [eu]
        exact iteY (decide_eq_true (by omega)) ⟨_, rfl, _, rfl, _, _, rfl, rfl, _, _, _, _, rfl, rfl, .inl (.inl hD6), at_ref (t := td) (k := k + 1) (by rw [List.getElem?_take_of_lt h1]; exact htd) (by omega), _, _, _, _, rfl, rfl, .inl (.inl (s06 _ _ etd)), ix2_1 _ _, rfl, rfl⟩
      · have eu : untilN cs i k = i := by unfold untilN; rw [if_neg h1]
        rw [eu]
        exact iteN (decide_eq_false (by omega)) ⟨_, rfl, rfl, rfl⟩
    rintro σ H' ⟨rfl, rfl⟩
    have hu0 := until_ge hcs.ord hk hck
    -- the goals
    have hla6 := s06 _ _ hla
    have etk6 := s06 _ _ etk
    refine ⟨_, rfl, la, rfl, ⟨_, .inl (.inl hla6)⟩, fun D2 nD2 => ?_⟩
    refine lc_pure (walk_list (K := K) (a := la) (xs := ls.map V.str)) nD2 yes (fun v => match v with | .str z => .int (lev M ck.1 z) | v => v) ?_ (fun _ => rfl) (fun H5 s5 => .inl (.inl (s5 _ _ hla6))) (fun x _ H _ Q' k => tt_yes x k) ?_ ?_
    · rw [List.length_map, sizeLine_eq]; omega
    · intro y hy _ H7 s7 Q' kk
      obtain ⟨z, hz, rfl⟩ := List.mem_map.mp hy
      exact ⟨_, rfl, _, rfl, _, _, _, _, rfl, rfl, .inl (.inl (s7 _ _ etk6)), ix2_0 _ _, _, rfl, _, _, _, rfl, none, dm, am, M, U, ck.1, z, rfl, rfl, rfl, (hM.same s06).same s7, g, fun H' s => kk H' s⟩
    intro H7 s7 hD7
    rw [filter_yes, List.map_map] at hD7
    have s07 := s06.trans s7
    have M7 := hM.same s07
    obtain ⟨kvs, hd, tk7⟩ := M7.top
    have hd : H7 dm = some (.dK kvs) := hd
    obtain ⟨o, er, erow⟩ := M7.row _ _ hcu
    subst erow
    refine ⟨_, rfl, _, rfl, _, _, _, _, rfl, rfl, .inl (.inl (s07 _ _ etk)), ix2_0 _ _, dm, _, rfl, tk7.hit (.inl hd) hcu, _, rfl, (am ck.1).1, _, rfl, .inl (.inl er), fun lf nlf => ?_⟩
    have s8 := same_upd (o := HO.lst [V.int cu.up, .int cu.down]) nlf
    have elf : (upd H7 lf (.lst (cutV [V.int cu.up, .int cu.down, .bl cu.fresh, .ref (am ck.1).2] none (some 2)))) lf = some (.lst [V.int cu.up, .int cu.down]) := upd_same
    have e8 : upd H7 lf (.lst (cutV [V.int cu.up, .int cu.down, .bl cu.fresh, .ref (am ck.1).2] none (some 2))) = upd H7 lf (.lst [V.int cu.up, .int cu.down]) := rfl
    rw [e8] at elf ⊢
    have elv8 := s8 _ _ (s7 _ _ elv)
    have hD8 := s8 _ _ hD7
    have hF8 := (hF.same s7).same s8
    have s08 := s07.trans s8
    have s28 := s26.trans (s7.trans s8)
    have etk8 := s08 _ _ etk
    generalize upd H7 lf (.lst [V.int cu.up, .int cu.down]) = H8 at elf elv8 hD8 hF8 s08 s28 etk8
    clear s8 nlf s7 hF elv
    have ell : tl.length = ls.length := paired_len hF8
    refine ⟨_, rfl, _, rfl, lv, D2, _, _, rfl, .inl (.inl elv8), .inl (.inl hD8), fun D3 nD3 => ?_⟩
    refine lc_pairs (walk_zip (K := K) (a := lv) (b := D2) (xs := tl.map V.ref) (ys := ls.map ((fun v => match v with | V.str z => V.int (lev M ck.1 z) | v => v) ∘ V.str)) (n := ls.length) (by rw [List.length_map, List.length_map, ell, Nat.min_self])) nD3 (fun x y => [some (.ref dm), some (.ref la), some (.ref lc), some (.int i), some (.ref D), some (.ref tk), some (.ref lv), some (.int (k : Nat)), some (.int (untilN cs i k)), some (.ref D2), v10, some (.ref lf), some x, some y]) (fun _ => true) (fun j z H => ∃ t l, z = V.ref t ∧ ls[j]? = some l ∧ H t = some (.tup [.int (posN (scenes M) cs i (k + 1) l).1, .int (posN (scenes M) cs i (k + 1) l).2])) ?_ ?_ (fun H s => ⟨.inl (.inl (s _ _ elv8)), .inl (.inl (s _ _ hD8))⟩) ?_ ?_ ?_
    · rintro j y H H' nl ⟨t, l, e, h1, h2⟩
      exact ⟨t, l, e, h1, nl _ _ (fun _ z => by cases z) h2⟩
    · rw [sizeLine_eq]; omega
    · intro j x y T hj hx hy HX sX hT C k
      exact ⟨T, _, rfl, .inl (.inl hT), rfl, _, _, rfl, _, _, rfl, rfl, rfl, tt_yes x k⟩
    · intro j x y hj hx hy _ HX sX Q' kq
      have hx : (tl.map V.ref)[j]? = some x := hx
      rw [List.getElem?_map] at hx
      obtain ⟨tj, htj, rfl⟩ := Option.map_eq_some_iff.mp hx
      obtain ⟨lj, hlj, etj⟩ := LiI.paired_get hF8 htj
      have hy : (ls.map ((fun v => match v with | V.str z => V.int (lev M ck.1 z) | v => v) ∘ V.str))[j]? = some y := hy
      rw [List.getElem?_map, hlj] at hy
      obtain rfl : V.int (lev M ck.1 lj) = y := by simpa using hy
      have ep : posN (scenes M) cs i k lj = posK (scenes M) cs k lj := by unfold posN; rw [if_pos hk]
      have fok : FOk (1 + 13 * k) (posN (scenes M) cs i k lj) := by rw [ep]; exact posK_ok gS hcs.ord lj k
      have es : posN (scenes M) cs i (k + 1) lj = wayF (posN (scenes M) cs i k lj) (lev M ck.1 lj) (untilN cs i k - ck.2) (lenF (posN (scenes M) cs i k lj) (lev M ck.1 lj) cu.up cu.down) := by
        rw [posN_step hcs.ord hk hck]
        unfold stepP
        rw [hsc]
        show wayF (posN (scenes M) cs i k lj) (goalOf sc lj) (untilN cs i k - ck.2) (lenF (posN (scenes M) cs i k lj) (goalOf sc lj) sc.up sc.down) = _
        rw [hgoal lj, eup, edn]
      have fd := g.fad _ (g.at hcu)
      have gr := goal_rng gS hsc lj
      rw [hgoal lj] at gr
      exact ⟨_, rfl, _, rfl, _, rfl, _, rfl, _, rfl, _, _, _, _, rfl, rfl, .inl (.inl (sX _ _ etk8)), ix2_1 _ _, _, _, rfl, rfl, _, _, _, _, rfl, tj, lf, _, _, cu.up, cu.down, _, 1 + 13 * k, rfl, rfl, rfl, rfl, .inl (.inl (sX _ _ etj)), sX _ _ elf, fok, by omega, gr, hu0, fd, fun H' r s nr e => kq _ H' s ⟨r, lj, rfl, hlj, by rw [es]; exact e⟩⟩
    · intro H9 zs s9 hD9 hp
      rw [List.filter_eq_self.mpr fun _ _ => rfl, List.range_eq_range'] at hp
      obtain ⟨tl', rfl, hp'⟩ := fracs_of (all := ls) (fun j l h => by rwa [Nat.zero_add]) hp
      exact ⟨D3, _, _, _, _, _, _, _, _, tl', rfl, s28.trans s9, s08.free nD3, hD9, hp'⟩
  · rintro σ H5 ⟨lv, v5, v7, v8, v9, v10, v11, v12, v13, tl, rfl, s5, nlv, elv, hF⟩
    rw [elT, posN_end] at hF
    exact ⟨_, rfl, q _ lv tl (s2.trans s5) nlv elv hF⟩
end

/-- rows of other lamps stand by the lamps' order -/
theorem row_le {a b : Row} (h : PySem.W.dataLe false rowD a b = true) (ne : a.2.1 ≠ b.2.1) : ltS a.2.1 b.2.1 := by
  have h : (!PySem.W.dataLt (rowD b) (rowD a)) = true := h
  unfold rowD at h
  rw [PySem.W.dataLt_pair (by simp [PySem.W.alike]) (by simp [PySem.W.alike, PySem.W.alikeAll])] at h
  have e : PyData.eqv (.str b.2.1) (.str a.2.1) = false := by
    cases z : PyData.eqv (.str b.2.1) (.str a.2.1) with
    | false => rfl
    | true => exact absurd (by simpa [PyData.eqv] using z : b.2.1 = a.2.1) (Ne.symm ne)
  rw [e, if_neg Bool.false_ne_true, PySem.W.dataLt_str] at h
  have h : ¬ b.2.1.cps.toList < a.2.1.cps.toList := by simpa using h
  unfold ltS
  rw [ltCps_eq]
  refine decide_eq_true ?_
  have ne2 : a.2.1.cps.toList ≠ b.2.1.cps.toList := fun e => ne (ext_toList e)
  have tri := ltCps_tri a.2.1.cps.toList b.2.1.cps.toList ne2
  rw [ltCps_eq, ltCps_eq] at tri
  rcases tri with h' | h'
  · exact of_decide_eq_true h'
  · exact absurd (of_decide_eq_true h') h

/-! ## What is found of a moment, as data -/
theorem step_dark {U : List Str} {S : Book} (g : Good U S) {l : Str} (hl : l ∉ U) {n gone : Int} {pos : Str → Frac} (hp : pos l = (0, 1)) (h0 : 0 ≤ gone) : stepP S n gone pos l = (0, 1) := by
  unfold stepP
  cases z : get S n with
  | none => exact hp
  | some c =>
    have e : goalOf c l = 0 := by
      unfold goalOf
      cases y : get c.words l with
      | none => rfl
      | some v => exact absurd (g.wrd _ (g.at z) _ (get_mem y)).1 hl
    show wayF (pos l) (goalOf c l) gone (lenF (pos l) (goalOf c l) c.up c.down) = (0, 1)
    rw [hp, e]
    unfold lenF
    rw [if_pos rfl]
    unfold wayF
    rw [if_pos h0]
theorem ord_gap {cs : Cs} (h : cs.Pairwise fun a b => a.2 ≤ b.2) {k : Nat} {c d : Int × Int} (hc : cs[k]? = some c) (hd : cs[k + 1]? = some d) : 0 ≤ d.2 - c.2 := by
  obtain ⟨l1, e1⟩ := List.getElem?_eq_some_iff.mp hc
  obtain ⟨l2, e2⟩ := List.getElem?_eq_some_iff.mp hd
  have := List.pairwise_iff_getElem.mp h k (k + 1) l1 l2 (by omega)
  rw [e1, e2] at this
  omega
theorem posK_dark {U : List Str} {S : Book} (g : Good U S) {cs : Cs} (h : cs.Pairwise fun a b => a.2 ≤ b.2) {l : Str} (hl : l ∉ U) : ∀ k, posK S cs k l = (0, 1)
  | 0 => rfl
  | k + 1 => by
    have ih := posK_dark g h hl k
    show (match cs[k]?, cs[k + 1]? with
      | some c, some d => stepP S c.1 (d.2 - c.2) (posK S cs k)
      | _, _ => posK S cs k) l = _
    cases hc : cs[k]? with
    | none => exact ih
    | some c =>
      cases hd : cs[k + 1]? with
      | none => exact ih
      | some d => exact step_dark g hl ih (ord_gap h hc hd)
theorem atP_cases (S : Book) {cs : Cs} (h : cs.Pairwise fun a b => a.2 ≤ b.2) (i : Int) : atP S cs i = darkP ∨ ∃ n c, cs[n]? = some c ∧ nUp cs i = n + 1 ∧ c.2 ≤ i ∧ atP S cs i = stepP S c.1 (i - c.2) (posK S cs n) := by
  unfold atP
  cases e : nUp cs i with
  | zero => exact .inl rfl
  | succ n =>
    obtain ⟨c, hc, hi⟩ := nUp_at h e
    refine .inr ⟨n, c, hc, rfl, hi, ?_⟩
    show (match cs[n]? with
      | some c => stepP S c.1 (i - c.2) (posK S cs n)
      | none => darkP) = _
    rw [hc]
theorem atP_dark {U : List Str} {S : Book} (g : Good U S) {cs : Cs} (h : cs.Pairwise fun a b => a.2 ≤ b.2) {l : Str} (hl : l ∉ U) (i : Int) : atP S cs i l = (0, 1) := by
  rcases atP_cases S h i with e | ⟨n, c, _, _, hi, e⟩
  · rw [e]; rfl
  · rw [e]; exact step_dark g hl (posK_dark g h hl n) (by omega)
theorem atP_ok {U : List Str} {S : Book} (g : Good U S) {cs : Cs} (h : cs.Pairwise fun a b => a.2 ≤ b.2) (i : Int) (l : Str) : ∃ m, FOk m (atP S cs i l) := by
  rcases atP_cases S h i with e | ⟨n, c, _, _, hi, e⟩
  · rw [e]; exact ⟨_, fok_goal (g := 0) (by decide)⟩
  · rw [e]; exact ⟨_, stepP_ok g (posK_ok g h l n) (by omega)⟩
theorem frac_zero {m : Nat} {f : Frac} (h : FOk m f) (h0 : ¬ 0 < f.1) : f = (0, 1) := (goal_iff h (g := 0) (by decide)).mpr (by have := h.a0; omega)
def frD (pos : Str → Frac) (l : Str) : PyData := .tuple [.str l, tupI (pos l)]
theorem eqv_frD (p q : Str → Frac) (a b : Str) : PyData.eqv (frD p a) (frD q b) = decide ((a, p a) = (b, q b)) := by
  unfold frD
  generalize p a = x
  generalize q b = y
  obtain ⟨x1, x2⟩ := x
  obtain ⟨y1, y2⟩ := y
  rw [Bool.eq_iff_iff]
  simp [tupI, PyData.eqv, PyData.eqvAll]
theorem eqvAll_frD (p q : Str → Frac) : ∀ A B : List Str, PyData.eqvAll (A.map (frD p)) (B.map (frD q)) = decide (A.map (fun l => (l, p l)) = B.map fun l => (l, q l))
  | [], [] => by simp [PyData.eqvAll]
  | [], _ :: _ => by simp [PyData.eqvAll]
  | _ :: _, [] => by simp [PyData.eqvAll]
  | a :: A, b :: B => by
    have ih := eqvAll_frD p q A B
    rw [List.map_cons, List.map_cons, List.map_cons, List.map_cons, PyData.eqvAll, ih, eqv_frD, Bool.eq_iff_iff]
    simp
theorem eqv_rows (p q : Str → Frac) (A B : List Str) : PyData.eqv (.list (A.map (frD p))) (.list (B.map (frD q))) = decide (A.map (fun l => (l, p l)) = B.map fun l => (l, q l)) := by
  rw [← eqvAll_frD]
  simp [PyData.eqv]
theorem rows_iff {A B ls : List Str} {p q : Str → Frac} (hA : A.Pairwise ltS) (hB : B.Pairwise ltS) (mA : ∀ l, l ∈ A ↔ 0 < (p l).1) (mB : ∀ l, l ∈ B ↔ l ∈ ls ∧ 0 < (q l).1) (out : ∀ l, 0 < (p l).1 → l ∈ ls) (fp : ∀ l, ∃ m, FOk m (p l)) (fq : ∀ l ∈ ls, ∃ m, FOk m (q l)) :
    (A.map (fun l => (l, p l)) = B.map fun l => (l, q l)) ↔ ∀ l ∈ ls, p l = q l := by
  constructor
  · intro h
    have hAB : A = B := by
      have := congrArg (List.map (·.1)) h
      rw [List.map_map, List.map_map] at this
      have e : ∀ (r : Str → Frac) (l : List Str), l.map ((fun x : Str × Frac => x.1) ∘ fun l => (l, r l)) = l := fun r l => by
        have : ((fun x : Str × Frac => x.1) ∘ fun l => (l, r l)) = id := rfl
        rw [this, List.map_id]
      rwa [e, e] at this
    subst hAB
    intro l hl
    by_cases c : 0 < (q l).1
    · have hm : l ∈ A := (mB l).mpr ⟨hl, c⟩
      exact (Prod.mk.inj (List.map_inj_left.mp h l hm)).2
    · have hm : l ∉ A := fun z => c ((mB l).mp z).2
      have c2 : ¬ 0 < (p l).1 := fun z => hm ((mA l).mpr z)
      obtain ⟨m, h1⟩ := fp l
      obtain ⟨m2, h2⟩ := fq l hl
      rw [frac_zero h1 c2, frac_zero h2 c]
  · intro h
    have hAB : A = B := rising_eq linS hA hB fun l => by
      rw [mA, mB]
      exact ⟨fun z => ⟨out l z, by rw [← h l (out l z)]; exact z⟩, fun ⟨z1, z2⟩ => by rw [h l z1]; exact z2⟩
    subst hAB
    exact List.map_inj_left.mpr fun l hl => by rw [h l ((mB l).mp hl).1]
theorem dat_tupD {K : PySem.W.Frag} {H : Hp} {a : Addr} {xs : List V} {ds : List PyData} {n : Nat} (e : SqT K H a xs) (h : Paired (fun x d => Dat K H x d n) xs ds) : Dat K H (.ref a) (.tuple ds) (n + 1) := by
  have k : DpAll K H xs ds ∧ ∀ d ∈ ds, d.canLay0 = true ∧ d.depth ≤ n := by
    clear e
    induction h with
    | nil => exact ⟨.nil, fun d hd => by cases hd⟩
    | cons h1 _ ih => exact ⟨.cons h1.1 ih.1, fun d hd => by
        rcases List.mem_cons.mp hd with rfl | hd
        · exact h1.2
        · exact ih.2 d hd⟩
  exact ⟨.tup e k.1, lay_tup k.2⟩
theorem Dat.up {K : PySem.W.Frag} {H : Hp} {x : V} {d : PyData} {m n : Nat} (h : Dat K H x d m) (k : m ≤ n) : Dat K H x d n := ⟨h.1, h.2.1, Nat.le_trans h.2.2 k⟩
theorem dat_frD {K : PySem.W.Frag} {H : Hp} {T t : Addr} {l : Str} {pos : Str → Frac} (hT : H T = some (.tup [.str l, .ref t])) (ht : H t = some (.tup [.int (pos l).1, .int (pos l).2])) (ok : okV (.str l) = true) : Dat K H (.ref T) (frD pos l) 2 := by
  have ok2 : ∀ x ∈ [V.int (pos l).1, .int (pos l).2], okV x = true := fun x hx => by
    simp only [List.mem_cons, List.not_mem_nil, or_false] at hx
    rcases hx with rfl | rfl <;> rfl
  exact dat_tupD (.inl (.inl hT)) (.cons ((dat_flat (K := K) (H := H) ok).up (by decide)) (.cons (dat_tup (K := K) (.inl (.inl ht)) ok2) .nil))
/-- pairs made of the lamps that shine -/
theorem rows_of {H : Hp} {due : Str → Frac} : ∀ {ls : List Str} {tl : List Addr} {zs : List V} {k : Nat} {all : List Str} {al : List Addr}, (∀ j l, ls[j]? = some l → all[k + j]? = some l) → (∀ j l, tl[j]? = some l → al[k + j]? = some l) → FracsAt H due tl ls →
    Paired (fun (i : Nat) (z : V) => ∃ T t l, z = V.ref T ∧ all[i]? = some l ∧ al[i]? = some t ∧ H T = some (.tup [.str l, .ref t])) ((List.range' k ls.length).filter fun i => (all[i]?).any fun l => decide (0 < (due l).1)) zs →
    ∃ es : List Row, zs = es.map (fun e => V.ref e.1) ∧ (∀ e ∈ es, RowAt H e ∧ e.2.2.2 = due e.2.1) ∧ es.map (·.2.1) = ls.filter fun l => decide (0 < (due l).1)
  | [], _, _, _, _, _, _, _, _, .nil => ⟨[], rfl, fun e h => (by cases h), rfl⟩
  | l :: r, t :: tr, zs, k, all, al, h, h', .cons ht hr, p => by
    have e0 := h 0 l rfl
    have e0' := h' 0 t rfl
    rw [Nat.add_zero] at e0 e0'
    have step : ∀ j l', r[j]? = some l' → all[k + 1 + j]? = some l' := fun j l' hj => by
      have := h (j + 1) l' hj
      rwa [show k + (j + 1) = k + 1 + j by omega] at this
    have step' : ∀ j l', tr[j]? = some l' → al[k + 1 + j]? = some l' := fun j l' hj => by
      have := h' (j + 1) l' hj
      rwa [show k + (j + 1) = k + 1 + j by omega] at this
    have er : List.range' k (l :: r).length = k :: List.range' (k + 1) r.length := List.range'_succ
    rw [er] at p
    by_cases c : 0 < (due l).1
    · rw [List.filter_cons_of_pos (by rw [e0]; simpa using c)] at p
      cases p with
      | cons a b =>
        obtain ⟨T, t', l', rfl, e1, e2, hT⟩ := a
        rw [e0] at e1
        rw [e0'] at e2
        cases e1
        cases e2
        obtain ⟨es, rfl, k1, k2⟩ := rows_of step step' hr b
        refine ⟨(T, l, t, due l) :: es, rfl, fun e he => ?_, ?_⟩
        · rcases List.mem_cons.mp he with rfl | he
          · exact ⟨⟨hT, ht⟩, rfl⟩
          · exact k1 e he
        · rw [List.map_cons, k2, List.filter_cons_of_pos (by simpa using c)]
    · rw [List.filter_cons_of_neg (by rw [e0]; simpa using c)] at p
      obtain ⟨es, rfl, k1, k2⟩ := rows_of step step' hr p
      exact ⟨es, rfl, k1, by rw [k2, List.filter_cons_of_neg (by simpa using c)]⟩
/-- the rows in their order -/
theorem rows_sorted {es fs : List Row} {ls : List Str} {due : Str → Frac} (h : es.map (·.2.1) = ls.filter fun l => decide (0 < (due l).1)) (nd : ls.Nodup) (hp : fs.Perm es) (hs : fs.Pairwise fun x y => PySem.W.dataLe false rowD x y = true) : (fs.map (·.2.1)).Pairwise ltS ∧ ∀ l, l ∈ fs.map (·.2.1) ↔ l ∈ ls ∧ 0 < (due l).1 := by
  have pm : (fs.map (·.2.1)).Perm (es.map (·.2.1)) := hp.map _
  have ndf : (fs.map (·.2.1)).Nodup := pm.nodup_iff.mpr (by rw [h]; exact nd.sublist List.filter_sublist)
  refine ⟨List.pairwise_map.mpr ((hs.and (List.pairwise_map.mp ndf)).imp fun ⟨a, b⟩ => row_le a b), fun l => ?_⟩
  rw [pm.mem_iff, h, List.mem_filter]
  simp
theorem items_dat {K : PySem.W.Frag} {H : Hp} {pos : Str → Frac} : ∀ {its : List Addr} {kvs : List (Key × V)} {ls : List Str}, Paired (fun (t : Addr) (q : Key × V) => H t = some (.tup [kV q.1, q.2])) its kvs → Paired (fun (kv : Key × V) (l : Str) => ∃ t, kv = (Sum.inr l, V.ref t) ∧ H t = some (.tup [.int (pos l).1, .int (pos l).2])) kvs ls → (∀ l ∈ ls, okV (.str l) = true) →
    Paired (fun x d => Dat K H x d 2) (its.map V.ref) (ls.map (frD pos))
  | _, _, _, .nil, .nil, _ => .nil
  | _, _, _, .cons a b, .cons ⟨t, e, ht⟩ d, ok => by
    subst e
    exact .cons (dat_frD a ht (ok _ List.mem_cons_self)) (items_dat b d fun l hl => ok l (List.mem_cons_of_mem _ hl))
theorem rows_dat {K : PySem.W.Frag} {H : Hp} {due : Str → Frac} : ∀ {fs : List Row}, (∀ e ∈ fs, RowAt H e ∧ e.2.2.2 = due e.2.1) → (∀ e ∈ fs, okV (.str e.2.1) = true) → Paired (fun x d => Dat K H x d 2) (fs.map fun e => V.ref e.1) ((fs.map (·.2.1)).map (frD due))
  | [], _, _ => .nil
  | e :: r, h, ok => by
    obtain ⟨⟨a1, a2⟩, a3⟩ := h e List.mem_cons_self
    refine .cons (dat_frD a1 ?_ (ok e List.mem_cons_self)) (rows_dat (fun x hx => h x (List.mem_cons_of_mem _ hx)) fun x hx => ok x (List.mem_cons_of_mem _ hx))
    rw [← a3]; exact a2

section
variable {P : Program} {w : World} {K : PySem.W.Frag} {mg : Str → Option Value} {base : Heap}
def spLRight (K : PySem.W.Frag) : Sp := sp4 fun a l t d H Q _ => ∃ r ds as lc ts S cs U la i ld tl due, a = .ref r ∧ l = .ref la ∧ t = .int i ∧ d = .ref ld ∧ RunAt K U H r ds as lc ts S cs ∧ (0 ≤ i ∧ i ≤ 1000000000) ∧ H la = some (.lst (U.map V.str)) ∧ U.Nodup ∧ H ld = some (.lst (tl.map V.ref)) ∧ FracsAt H due tl U ∧ (∀ l ∈ U, ∃ m, FOk m (due l)) ∧
  ∀ H', Same H H' → Q (.bl (decide (∀ l ∈ U, atP S cs i l = due l))) H'
theorem sc__law_at_right : FnScope ["_law_run", "_law_lamps_here", "_law_moment", "_law_due", "_law_found", "_law_rows", "_law_lamp", "_law_one"] ["_law_run", "_law_lamps_here", "_law_moment", "_law_due"] (defScope s__law_at_right) := ⟨rfl, rfl, rfl, by decide +kernel, rfl, by decide +kernel, by decide +kernel⟩
theorem d__law_at_right (T : Txt K mg) : Def P w K mg base 7 "_law_at_right" ["_law_run", "_law_lamps_here", "_law_moment", "_law_due"] (spLRight K) := by
  have d_Run_at := d_Run_at (P := P) (w := w) (base := base) T
  have d__law_whole := d__law_whole (P := P) (w := w) (base := base) T
  refine mkDef T.d__law_at_right T.g__law_at_right sc__law_at_right (fun _ _ _ _ _ _ us hl => match us, hl with | [_, _, _, _], _ => rfl) len4 (BodyN.up fun cdv A outer s H vs Q E hr h => ?_)
  obtain ⟨_, _, _, _, rfl, r, ds, as, lc, ts, S, cs, U, la, i, ld, tl, due, rfl, rfl, rfl, rfl, hR, ⟨hi0, hi1⟩, hla, nd, hld, hF, hok, q⟩ := h
  have hu := hu_of hr
  refine ⟨_, (pss_cons (ps_set (i := 4) sc__law_at_right.nd rfl (Or.inl rfl) (pe_mt T.c_Run d_Run_at (hr.mono (by decide)) passL (pv 0) (pa_cons (pv 2) pa_nil)))
    (pss_cons (ps_set (i := 5) sc__law_at_right.nd rfl (Or.inl rfl) (pe_callB (cr_sortedT hr) (by rfl) T.z_sorted (by decide +kernel) (pa_cons (pe_lc (own := [("_law_lamp", 6), ("_law_one", 7)]) rfl sc__law_at_right.nd (pi_zip (by rfl) T.z_zip (pa_cons (pv 1) (pa_cons (pv 3) pa_nil))) (blkOk_by (own := [("_law_lamp", 6), ("_law_one", 7)]) (N := ["_law_run", "_law_lamps_here", "_law_moment", "_law_due", "_law_found", "_law_rows", "_law_lamp", "_law_one"]) (sc := defScope s__law_at_right) (by decide +kernel)) (fun _ _ _ _ _ => pg_tupK (K := K) (n := 2) rfl rfl (pgs_cons (pg_name (i := 6) sc__law_at_right.nd rfl (Or.inl rfl)) (pgs_cons (pg_name (i := 7) sc__law_at_right.nd rfl (Or.inl rfl)) pgs_nil))) (fun _ _ _ _ _ => (pts_one (pt_cmpR op_gt (pe_ix (ix_tupK (K := K) rfl) (pv 7) pe_int (fun _ _ => rfl)) pe_int (nomark _)))) (fun _ _ _ _ _ => (pe_tup (pa_cons (pv 6) (pa_cons (pv 7) pa_nil))))) pa_nil)))
    (pss_cons (ps_if (PW.pt (pw_or (pt_not (pt_val (pe_callB call_isDct (by rfl) T.z_isinstance (by decide +kernel) (pa_cons (pv 4) (pa_cons (pe_bltn (v := .ty "dict") rfl T.z_dict (by decide +kernel) rfl) pa_nil))))) (pw_or1 (pt_cmpR (op_neD hr.units) (LiI.pe_listItems rfl (pv 4) (by rfl) T.z_list (by decide +kernel)) (pv 5) (nomark _)))))
    (pss_one (ps_ret pe_bl))
    pss_nil)
    (pss_cons (ps_lock (ps_for PassesOwn.never rfl (pi_values (pv 4)) (pg_name (i := 7) sc__law_at_right.nd rfl (Or.inl rfl))
    (pss_one (ps_if (PW.pt (pw_or (pt_not (pt_val (pe_callB call_isTup (by rfl) T.z_isinstance (by decide +kernel) (pa_cons (pv 7) (pa_cons (pe_bltn (v := .ty "tuple") rfl T.z_tuple (by decide +kernel) rfl) pa_nil))))) (pw_or (pt_not (pt_val (pe_fn d__law_whole (hr.mono (by decide)) (by rfl) passL (pa_cons (pe_ix ix_tup (pv 7) pe_int (fun _ _ => rfl)) pa_nil)))) (pw_or1 (pt_not (pt_val (pe_fn d__law_whole (hr.mono (by decide)) (by rfl) passL (pa_cons (pe_ix ix_tup (pv 7) pe_int (fun _ _ => rfl)) pa_nil))))))))
    (pss_one (ps_ret pe_bl))
    pss_nil))))
    (pss_one (ps_ret pe_bl)))))), ?_⟩
  obtain ⟨dx, ob⟩ := hR.ob
  have g := hR.good
  have ord := hR.cs.ord
  have fewU := hR.lamps.few
  refine ⟨_, rfl, _, dx, _, rfl, ob, runF_no (by decide +kernel) (by decide +kernel), _, rfl, ?_⟩
  refine ⟨_, _, rfl, r, ds, as, lc, ts, S, cs, U, rfl, hR, trivial, fun h => ?_, fun i' ei _ _ H1 w ls' s1 nw hA hP hL => ?_⟩
  · rw [whole_of ⟨hi0, hi1⟩] at h; cases h
  cases ei
  obtain ⟨kvs, ew, pk⟩ := hA
  have out : ∀ l, 0 < (atP S cs i l).1 → l ∈ U := fun l h => Decidable.byContradiction fun z => by
    rw [atP_dark g ord z] at h
    exact absurd h (by decide)
  have hla1 := s1 _ _ hla
  have hld1 := s1 _ _ hld
  have hF1 := hF.same s1
  have ell : tl.length = U.length := paired_len hF
  refine ⟨_, rfl, _, rfl, la, ld, _, _, rfl, .inl (.inl hla1), .inl (.inl hld1), fun D nD => ?_⟩
  refine lc_pairs (walk_zip (K := K) (a := la) (b := ld) (xs := U.map V.str) (ys := tl.map V.ref) (n := U.length) (by rw [List.length_map, List.length_map, ell, Nat.min_self])) nD (fun x y => [some (.ref r), some (.ref la), some (.int i), some (.ref ld), some (.ref w), none, some x, some y]) (fun j => (U[j]?).any fun l => decide (0 < (due l).1)) (fun j z H => ∃ T t l, z = V.ref T ∧ U[j]? = some l ∧ tl[j]? = some t ∧ H T = some (.tup [.str l, .ref t])) ?_ ?_ (fun H s => ⟨.inl (.inl (s _ _ hla1)), .inl (.inl (s _ _ hld1))⟩) ?_ ?_ ?_
  · rintro j y H H' nl ⟨T, t, l, e, h1, h2, h3⟩
    exact ⟨T, t, l, e, h1, h2, nl _ _ (fun _ z => by cases z) h3⟩
  · rw [sizeLine_eq]; omega
  · intro j x y T hj hx hy HX sX hT C k
    have hx : (U.map V.str)[j]? = some x := hx
    rw [List.getElem?_map] at hx
    obtain ⟨lj, hlj, rfl⟩ := Option.map_eq_some_iff.mp hx
    have hy : (tl.map V.ref)[j]? = some y := hy
    rw [List.getElem?_map] at hy
    obtain ⟨tj, htj, rfl⟩ := Option.map_eq_some_iff.mp hy
    obtain ⟨l', hl', et⟩ := LiI.paired_get hF1 htj
    rw [hlj] at hl'
    cases hl'
    have ef : (U[j]?).any (fun l => decide (0 < (due l).1)) = decide (0 < (due lj).1) := by rw [hlj]; rfl
    have k : ∀ H', Same HX H' → C [some (.ref r), some (.ref la), some (.int i), some (.ref ld), some (.ref w), none, some (.str lj), some (.ref tj)] ((U[j]?).any fun l => decide (0 < (due l).1)) H' := k
    rw [ef] at k
    exact ⟨T, _, rfl, .inl (.inl hT), rfl, _, _, rfl, _, _, rfl, rfl, rfl, _, rfl, _, _, _, _, rfl, rfl, .inl (.inl (sX _ _ et)), ix2_0 _ _, _, _, rfl, rfl, _, rfl, k HX (Same.refl _)⟩
  · intro j x y hj hx hy _ HX sX Q' kq
    have hx : (U.map V.str)[j]? = some x := hx
    rw [List.getElem?_map] at hx
    obtain ⟨lj, hlj, rfl⟩ := Option.map_eq_some_iff.mp hx
    have hy : (tl.map V.ref)[j]? = some y := hy
    rw [List.getElem?_map] at hy
    obtain ⟨tj, htj, rfl⟩ := Option.map_eq_some_iff.mp hy
    exact ⟨_, rfl, _, rfl, by simp [sizeLine_eq], fun T nT => kq _ _ (same_upd nT) ⟨T, tj, lj, rfl, hlj, htj, upd_same⟩⟩
  intro H2 zs s2 hD hp
  rw [List.range_eq_range'] at hp
  obtain ⟨es, rfl, hes, hlamps⟩ := rows_of (k := 0) (all := U) (al := tl) (fun j l h => by rwa [Nat.zero_add]) (fun j l h => by rwa [Nat.zero_add]) (hF1.same s2) hp
  refine ⟨D, es, rfl, hD, fun e he => (hes e he).1, fun fs p hpm hso np => ?_⟩
  have s3 := same_upd (o := HO.lst (fs.map fun e => V.ref e.1)) np
  obtain ⟨hB, mB⟩ := rows_sorted hlamps nd hpm hso
  have efs : (upd H2 p (.lst (fs.map fun e => V.ref e.1))) p = some (.lst (fs.map fun e => V.ref e.1)) := upd_same
  have hfs : ∀ e ∈ fs, RowAt (upd H2 p (.lst (fs.map fun e => V.ref e.1))) e ∧ e.2.2.2 = due e.2.1 := fun e he => by
    obtain ⟨⟨a1, a2⟩, a3⟩ := hes e (hpm.mem_iff.mp he)
    exact ⟨⟨s3 _ _ a1, s3 _ _ a2⟩, a3⟩
  have s13 := s2.trans s3
  have s03 := s1.trans s13
  generalize upd H2 p (.lst (fs.map fun e => V.ref e.1)) = H3 at s3 efs hfs s13 s03
  have ew3 := s13 _ _ ew
  have pk3 : Paired (fun (kv : Key × V) (l : Str) => ∃ t, kv = (Sum.inr l, V.ref t) ∧ H3 t = some (.tup [.int (atP S cs i l).1, .int (atP S cs i l).2])) kvs ls' := paired_imp (fun _ _ ⟨t, a, b⟩ => ⟨t, a, s13 _ _ b⟩) pk
  refine ⟨_, rfl, w, kvs, rfl, ew3, _, rfl, iteF ⟨_, rfl, w, kvs, rfl, ew3, fun H4 pi its s4 npi nits npits epi hits => ⟨_, rfl, ?_⟩⟩⟩
  have s04 := s03.trans s4
  have ew4 := s4 _ _ ew3
  have pk4 : Paired (fun (kv : Key × V) (l : Str) => ∃ t, kv = (Sum.inr l, V.ref t) ∧ H4 t = some (.tup [.int (atP S cs i l).1, .int (atP S cs i l).2])) kvs ls' := paired_imp (fun _ _ ⟨t, a, b⟩ => ⟨t, a, s4 _ _ b⟩) pk3
  have okU : ∀ l ∈ U, okV (.str l) = true := fun l h => lampS_okS (hR.lamps.ok l h)
  have da := dat_lstD (K := K) (.inl (.inl epi)) (items_dat (K := K) hits pk4 fun l h => okU l (out l ((hL l).mp h)))
  have db := dat_lstD (K := K) (.inl (.inl (s4 _ _ efs))) (rows_dat (K := K) (fs := fs) (fun e he => ⟨⟨s4 _ _ (hfs e he).1.1, s4 _ _ (hfs e he).1.2⟩, (hfs e he).2⟩) fun e he => okU _ ((mB _).mp (List.mem_map.mpr ⟨e, he, rfl⟩)).1)
  have key := rows_iff hP hB hL mB out (atP_ok g ord i) hok
  refine ⟨.list (ls'.map (frD (atP S cs i))), .list ((fs.map fun e : Row => e.2.1).map (frD due)), da.1, db.1, shaped_of da.2 (by decide), shaped_of db.2 (by decide), ?_⟩
  rw [eqv_rows]
  refine ⟨_, rfl, ?_⟩
  by_cases hE : ∀ l ∈ U, atP S cs i l = due l
  rotate_left
  · refine iteY (by rw [decide_eq_false fun z => hE (key.mp z)]; rfl) ?_
    have := q H4 s04
    rwa [decide_eq_false hE] at this
  refine iteN (by rw [decide_eq_true (key.mpr hE)]; rfl) ?_
  refine ⟨w, _, ew4, trivial, fun od => ⟨_, rfl, w, od, kvs, rfl, upd_same, for_it walk_vs (fun j σ H' => ∃ v7, σ = [some (.ref r), some (.ref la), some (.int i), some (.ref ld), some (.ref w), some (.ref p), none, v7] ∧ Same (upd H4 w (.frz od (.dK kvs))) H') ⟨none, rfl, Same.refl _⟩ (fun j σ H' _ ⟨_, _, s⟩ => s _ _ upd_same) ?_ ?_⟩⟩
  · rintro j y σ H5 H5' hj ⟨v7, rfl, s5⟩ ⟨rfl, hy⟩
    rw [List.getElem?_map] at hy
    obtain ⟨kv, hkv, rfl⟩ := Option.map_eq_some_iff.mp hy
    obtain ⟨l, _, t, rfl, et⟩ := LiI.paired_get pk4 hkv
    have tw : t ≠ w := fun z => by rw [z, ew4] at et; cases et
    have et5 := s5 _ _ (by rw [upd_ne tw]; exact et : (upd H4 w (.frz od (.dK kvs))) t = _)
    exact ⟨_, rfl, t, _, rfl, et5, _, rfl, iteF ⟨_, rfl, _, _, _, _, rfl, rfl, .inl (.inl et5), ix2_0 _ _, _, rfl, trivial, _, rfl, iteF ⟨_, rfl, _, _, _, _, rfl, rfl, .inl (.inl et5), ix2_1 _ _, _, rfl, trivial, _, rfl, iteF ⟨_, rfl, s5⟩⟩⟩⟩
  · rintro σ H5 ⟨v7, rfl, s5⟩
    have := q _ (s04.trans (same_unlock ew4 s5))
    rw [decide_eq_true hE] at this
    exact ⟨s5 _ _ upd_same, this⟩
end

/-! ## Between where a fade begins and its goal -/
/-- p is the fraction x / y -/
def IsF (p : Frac) (x y : Int) : Prop := p.1 * y = x * p.2 ∧ 1 ≤ p.2
def leF (p q : Frac) : Prop := p.1 * q.2 ≤ q.1 * p.2
theorem leF_of {p q : Frac} {x x' y : Int} (hp : IsF p x y) (hq : IsF q x' y) (hy : 1 ≤ y) (h : x ≤ x') : leF p q := by
  obtain ⟨e1, a1⟩ := hp
  obtain ⟨e2, a2⟩ := hq
  unfold leF
  have k1 : p.1 * q.2 * y = x * (p.2 * q.2) := by
    rw [Int.mul_right_comm, e1, Int.mul_assoc]
  have k2 : q.1 * p.2 * y = x' * (p.2 * q.2) := by
    rw [Int.mul_right_comm, e2, Int.mul_assoc, Int.mul_comm q.2 p.2]
  have k3 : x * (p.2 * q.2) ≤ x' * (p.2 * q.2) := Int.mul_le_mul_of_nonneg_right h (Int.mul_nonneg (by omega) (by omega))
  refine Int.le_of_mul_le_mul_right (a := y) ?_ (by omega)
  rw [k1, k2]; exact k3
theorem isF_low {x y : Int} (hy : 1 ≤ y) : IsF (lowF x y) x y := by
  have e1 := div_exact (gcdI_dl x y)
  have e2 := div_exact (gcdI_dr x y)
  have hg := gcdI_pos (a := x) (b := y) (by omega)
  unfold IsF lowF
  generalize gcdI x y = d at e1 e2 hg
  generalize x / d = a at e1
  generalize y / d = b at e2
  subst e1 e2
  constructor
  · show a * (d * b) = d * a * b
    rw [← Int.mul_assoc, Int.mul_comm a d]
  · show 1 ≤ b
    refine Decidable.byContradiction fun h => ?_
    have : d * b ≤ 0 := Int.mul_nonpos_of_nonneg_of_nonpos (by omega) (by omega)
    omega
/-- where a fade stands behind a while, over one denominator -/
theorem isF_way {m : Nat} {f : Frac} (hf : FOk m f) {g t L : Int} (ht : 0 ≤ t) (hL : 1 ≤ L) : IsF (wayF f g t L) (f.1 * L + (g * f.2 - f.1) * min t L) (f.2 * L) := by
  have h2 := hf.b1
  unfold wayF
  by_cases c : L ≤ t
  · rw [if_pos c, Int.min_eq_right c]
    refine ⟨?_, Int.le_refl 1⟩
    show g * (f.2 * L) = (f.1 * L + (g * f.2 - f.1) * L) * 1
    rw [Int.mul_one, ← Int.add_mul, show f.1 + (g * f.2 - f.1) = g * f.2 by omega, Int.mul_assoc]
  · rw [if_neg c, Int.min_eq_left (by omega)]
    have hy : 1 ≤ f.2 * L := Int.mul_pos (by omega : 0 < f.2) (by omega : 0 < L)
    have e : f.1 * 1 * (L - t) + g * f.2 * t = f.1 * L + (g * f.2 - f.1) * t := by
      rw [Int.mul_one, Int.mul_sub, Int.sub_mul]; omega
    rw [e, Int.mul_one]
    exact isF_low hy
theorem isF_beg {m : Nat} {f : Frac} (hf : FOk m f) {g L : Int} : IsF f (f.1 * L + (g * f.2 - f.1) * 0) (f.2 * L) := by
  refine ⟨?_, hf.b1⟩
  rw [Int.mul_zero, Int.add_zero, ← Int.mul_assoc, Int.mul_right_comm]
theorem isF_end {f : Frac} {g L : Int} : IsF (g, 1) (f.1 * L + (g * f.2 - f.1) * L) (f.2 * L) := by
  refine ⟨?_, Int.le_refl 1⟩
  show g * (f.2 * L) = (f.1 * L + (g * f.2 - f.1) * L) * 1
  rw [Int.mul_one, ← Int.add_mul, show f.1 + (g * f.2 - f.1) = g * f.2 by omega, Int.mul_assoc]
theorem way_zero {f : Frac} {g t : Int} (ht : 0 ≤ t) : wayF f g t 0 = (g, 1) := by unfold wayF; rw [if_pos ht]
/-- a fade up rises, a fade down falls, from its beginning to its goal -/
theorem way_between {m : Nat} {f : Frac} (hf : FOk m f) {g s t L : Int} (hs : 0 ≤ s) (hst : s ≤ t) (hL : 0 ≤ L) :
    (f.1 ≤ g * f.2 → leF f (wayF f g s L) ∧ leF (wayF f g s L) (wayF f g t L) ∧ leF (wayF f g t L) (g, 1)) ∧
    (g * f.2 ≤ f.1 → leF (g, 1) (wayF f g t L) ∧ leF (wayF f g t L) (wayF f g s L) ∧ leF (wayF f g s L) f) := by
  have h2 := hf.b1
  by_cases c : L = 0
  · subst c
    rw [way_zero hs, way_zero (Int.le_trans hs hst)]
    exact ⟨fun h => ⟨by unfold leF; simpa using h, Int.le_refl _, Int.le_refl _⟩, fun h => ⟨Int.le_refl _, Int.le_refl _, by unfold leF; simpa using h⟩⟩
  have L1 : 1 ≤ L := by omega
  have y1 : 1 ≤ f.2 * L := Int.mul_pos (by omega : 0 < f.2) (by omega : 0 < L)
  have b := isF_beg hf (g := g) (L := L)
  have e := isF_end (f := f) (g := g) (L := L)
  have ps := isF_way hf (g := g) hs L1
  have pt := isF_way hf (g := g) (Int.le_trans hs hst) L1
  have m1 : 0 ≤ min s L := by omega
  have m2 : min s L ≤ min t L := by omega
  have m3 : min t L ≤ L := by omega
  generalize min s L = S at ps m1 m2
  generalize min t L = T at pt m2 m3
  generalize f.1 * L = A at b e ps pt
  constructor
  · intro h
    have d : 0 ≤ g * f.2 - f.1 := by omega
    have k1 := Int.mul_le_mul_of_nonneg_left m1 d
    have k2 := Int.mul_le_mul_of_nonneg_left m2 d
    have k3 := Int.mul_le_mul_of_nonneg_left m3 d
    exact ⟨leF_of b ps y1 (by omega), leF_of ps pt y1 (by omega), leF_of pt e y1 (by omega)⟩
  · intro h
    have d : g * f.2 - f.1 ≤ 0 := by omega
    have k1 := Int.mul_le_mul_of_nonpos_left d m1
    have k2 := Int.mul_le_mul_of_nonpos_left d m2
    have k3 := Int.mul_le_mul_of_nonpos_left d m3
    exact ⟨leF_of e pt y1 (by omega), leF_of pt ps y1 (by omega), leF_of ps b y1 (by omega)⟩

theorem frac_get {H : Hp} {pos : Str → Frac} : ∀ {kvs : List (Key × V)} {ls : List Str}, Paired (fun (kv : Key × V) (l : Str) => ∃ t, kv = (Sum.inr l, V.ref t) ∧ H t = some (.tup [.int (pos l).1, .int (pos l).2])) kvs ls → ∀ z, (z ∈ ls → ∃ t, valV kvs (Sum.inr z) = some (V.ref t) ∧ H t = some (.tup [.int (pos z).1, .int (pos z).2])) ∧ (z ∉ ls → valV kvs (Sum.inr z) = none)
  | _, _, .nil, z => ⟨fun h => (by cases h), fun _ => rfl⟩
  | _ :: kvs, l :: ls, .cons ⟨t, e, ht⟩ r, z => by
    subst e
    obtain ⟨i1, i2⟩ := frac_get r z
    by_cases c : l = z
    · subst c
      exact ⟨fun _ => ⟨t, by simp [valV], ht⟩, fun h => absurd List.mem_cons_self h⟩
    · have e : valV ((Sum.inr l, V.ref t) :: kvs) (Sum.inr z : Key) = valV kvs (Sum.inr z) := by
        have ne : ¬ (Sum.inr l : Key) = Sum.inr z := fun h => c (Sum.inr.inj h)
        unfold valV
        rw [List.find?_cons_of_neg (by simpa using ne)]
      rw [e]
      exact ⟨fun h => i1 (by
        rcases List.mem_cons.mp h with h | h
        · exact absurd h.symm c
        · exact h), fun h => i2 fun k => h (List.mem_cons_of_mem _ k)⟩
section
variable {P : Program} {w : World} {K : PySem.W.Frag} {mg : Str → Option Value} {base : Heap}
/-- a fraction of no more than a thousand bits -/
def Few (p : Frac) : Prop := p.1.natAbs < 2 ^ 1000 ∧ p.2.natAbs < 2 ^ 1000
def spLLess (K : PySem.W.Frag) : Sp := sp2 fun a b H Q _ => ∃ (s t : Addr) (f h : Frac), a = .ref s ∧ b = .ref t ∧ H s = some (.tup [.int f.1, .int f.2]) ∧ H t = some (.tup [.int h.1, .int h.2]) ∧ Few f ∧ Few h ∧ Q (.bl (decide (f.1 * h.2 < h.1 * f.2))) H
theorem sc__law_less : FnScope ["_law_one", "_law_other"] ["_law_one", "_law_other"] (defScope s__law_less) := ⟨rfl, rfl, rfl, by decide +kernel, rfl, by decide +kernel, by decide +kernel⟩
theorem d__law_less (T : Txt K mg) : Def P w K mg base 1 "_law_less" ["_law_one", "_law_other"] (spLLess K) := by
  refine mkDef T.d__law_less T.g__law_less sc__law_less (fun _ _ _ _ _ _ us hl => match us, hl with | [_, _], _ => rfl) len2 (BodyN.up fun cdv A outer s H vs Q E hr h => ?_)
  obtain ⟨_, _, rfl, s, t, f, h, rfl, rfl, hs, ht, ⟨b1, b2⟩, ⟨b3, b4⟩, q⟩ := h
  have hu := hu_of hr
  refine ⟨_, (pss_one (ps_ret (pe_cmpR op_lt (pe_op op_mulW (pe_ix ix_tup (pv 0) pe_int (fun _ _ => rfl)) (pe_ix ix_tup (pv 1) pe_int (fun _ _ => rfl))) (pe_op op_mulW (pe_ix ix_tup (pv 1) pe_int (fun _ _ => rfl)) (pe_ix ix_tup (pv 0) pe_int (fun _ _ => rfl))) (nomark _)))), ?_⟩
  exact ⟨_, rfl, _, _, _, _, rfl, rfl, .inl (.inl hs), ix2_0 _ _, _, rfl, _, _, _, _, rfl, rfl, .inl (.inl ht), ix2_1 _ _, _, _, rfl, rfl, wide_mul b1 b4 (by decide) (by decide) (by decide), _, rfl, _, _, _, _, rfl, rfl, .inl (.inl ht), ix2_0 _ _, _, rfl, _, _, _, _, rfl, rfl, .inl (.inl hs), ix2_1 _ _, _, _, rfl, rfl, wide_mul b3 b2 (by decide) (by decide) (by decide), _, _, rfl, rfl, q⟩
/-- four fractions, each at its place -/
def Four (H : Hp) (l : Addr) (q0 q1 q2 q3 : Frac) : Prop := ∃ a0 a1 a2 a3 : Addr, H l = some (.lst [.ref a0, .ref a1, .ref a2, .ref a3]) ∧ H a0 = some (.tup [.int q0.1, .int q0.2]) ∧ H a1 = some (.tup [.int q1.1, .int q1.2]) ∧ H a2 = some (.tup [.int q2.1, .int q2.2]) ∧ H a3 = some (.tup [.int q3.1, .int q3.2])
def spLBetween (K : PySem.W.Frag) : Sp := sp4 fun a b c d H Q _ => ∃ (t0 t1 t2 t3 : Addr) (p0 p1 p2 p3 : Frac), a = .ref t0 ∧ b = .ref t1 ∧ c = .ref t2 ∧ d = .ref t3 ∧ H t0 = some (.tup [.int p0.1, .int p0.2]) ∧ H t1 = some (.tup [.int p1.1, .int p1.2]) ∧ H t2 = some (.tup [.int p2.1, .int p2.2]) ∧ H t3 = some (.tup [.int p3.1, .int p3.2]) ∧ Few p0 ∧ Few p1 ∧ Few p2 ∧ Few p3 ∧
  (p0.1 * p3.2 ≤ p3.1 * p0.2 → leF p0 p1 ∧ leF p1 p2 ∧ leF p2 p3) ∧ (p3.1 * p0.2 ≤ p0.1 * p3.2 → leF p3 p2 ∧ leF p2 p1 ∧ leF p1 p0) ∧ ∀ H', Same H H' → Q (.bl true) H'
theorem sc__law_between : FnScope ["_law_begun", "_law_one", "_law_later", "_law_goal", "_law_row", "_law_k"] ["_law_begun", "_law_one", "_law_later", "_law_goal"] (defScope s__law_between) := ⟨rfl, rfl, rfl, by decide +kernel, rfl, by decide +kernel, by decide +kernel⟩
theorem d__law_between (T : Txt K mg) : Def P w K mg base 2 "_law_between" ["_law_begun", "_law_one", "_law_later", "_law_goal"] (spLBetween K) := by
  have d__law_less := d__law_less (P := P) (w := w) (base := base) T
  refine mkDef T.d__law_between T.g__law_between sc__law_between (fun _ _ _ _ _ _ us hl => match us, hl with | [_, _, _, _], _ => rfl) len4 (BodyN.up fun cdv A outer s H vs Q E hr h => ?_)
  obtain ⟨_, _, _, _, rfl, t0, t1, t2, t3, p0, p1, p2, p3, rfl, rfl, rfl, rfl, e0, e1, e2, e3, f0, f1, f2, f3, up, dn, q⟩ := h
  have hu := hu_of hr
  refine ⟨_, (pss_cons (ps_set (i := 4) sc__law_between.nd rfl (Or.inr rfl) (pe_lst (pa_cons (pv 0) (pa_cons (pv 1) (pa_cons (pv 2) (pa_cons (pv 3) pa_nil))))))
    (Evl.pss_cut (ps_if (pt_val (pe_fn d__law_less (hr.mono (by decide)) (by rfl) passL (pa_cons (pv 3) (pa_cons (pv 0) pa_nil))))
    (pss_one (ps_set (i := 4) sc__law_between.nd rfl (Or.inr rfl) (pe_revL (pv 4))))
    pss_nil)
    (pss_one (ps_ret (pe_cmpR (op_eqD hr.units) (pe_lc (own := [("_law_k", 5)]) rfl sc__law_between.nd (pi_range1 (by rfl) T.z_range (pa_cons pe_int pa_nil)) (blkOk_by (own := [("_law_k", 5)]) (N := ["_law_begun", "_law_one", "_law_later", "_law_goal", "_law_row", "_law_k"]) (sc := defScope s__law_between) (by decide +kernel)) (fun _ _ _ _ _ => pg_name (i := 5) sc__law_between.nd rfl (Or.inl rfl)) (fun _ _ _ _ _ => (pts_one (pt_val (pe_fn d__law_less (hr.mono (by decide)) (by rfl) passL (pa_cons (pe_ix (ix_listK (K := K) rfl) (pv 4) (pe_op op_add (pv 5) pe_int) (fun _ _ => rfl)) (pa_cons (pe_ix (ix_listK (K := K) rfl) (pv 4) (pv 5) (fun _ _ => rfl)) pa_nil)))))) (fun _ _ _ _ _ => (pv 5))) (pe_lst pa_nil) (nomark _)))))), ?_⟩
  refine ⟨_, rfl, _, rfl, _, rfl, _, rfl, by simp [sizeLine_eq], fun l nl => ?_⟩
  have s1 := same_upd (o := HO.lst [V.ref t0, .ref t1, .ref t2, .ref t3]) nl
  have el : (upd H l (.lst [V.ref t0, .ref t1, .ref t2, .ref t3])) l = some (.lst [V.ref t0, .ref t1, .ref t2, .ref t3]) := upd_same
  generalize upd H l (.lst [V.ref t0, .ref t1, .ref t2, .ref t3]) = H1 at s1 el
  refine ⟨fun σ H' => ∃ l q0 q1 q2 q3, σ = [some (.ref t0), some (.ref t1), some (.ref t2), some (.ref t3), some (.ref l), none] ∧ Same H H' ∧ Four H' l q0 q1 q2 q3 ∧ (Few q0 ∧ Few q1 ∧ Few q2 ∧ Few q3) ∧ leF q0 q1 ∧ leF q1 q2 ∧ leF q2 q3, ?_, ?_⟩
  · refine ⟨_, rfl, _, rfl, _, _, rfl, t3, t0, p3, p0, rfl, rfl, s1 _ _ e3, s1 _ _ e0, f3, f0, _, rfl, ?_⟩
    by_cases c : p3.1 * p0.2 < p0.1 * p3.2
    · refine iteY (decide_eq_true c) ⟨_, rfl, l, _, rfl, .inl (.inl el), fun l2 nl2 => ?_⟩
      have s2 := same_upd (o := HO.lst [V.ref t3, .ref t2, .ref t1, .ref t0]) nl2
      exact ⟨l2, p3, p2, p1, p0, rfl, s1.trans s2, ⟨t3, t2, t1, t0, upd_same, s2 _ _ (s1 _ _ e3), s2 _ _ (s1 _ _ e2), s2 _ _ (s1 _ _ e1), s2 _ _ (s1 _ _ e0)⟩, ⟨f3, f2, f1, f0⟩, dn (Int.le_of_lt c)⟩
    · exact iteN (decide_eq_false c) ⟨l, p0, p1, p2, p3, rfl, s1, ⟨t0, t1, t2, t3, el, s1 _ _ e0, s1 _ _ e1, s1 _ _ e2, s1 _ _ e3⟩, ⟨f0, f1, f2, f3⟩, up (Int.not_lt.mp c)⟩
  clear s1 el e0 e1 e2 e3 f0 f1 f2 f3 up dn
  rintro σ H1 ⟨l, q0, q1, q2, q3, rfl, s1, ⟨a0, a1, a2, a3, el, e0, e1, e2, e3⟩, ⟨f0, f1, f2, f3⟩, k0, k1, k2⟩
  refine ⟨3, rfl, by omega, by omega, fun D nD => ?_⟩
  refine lc_pure (walk_rng (lo := 0) (n := 3)) nD (fun _ => false) id ?_ (fun _ => rfl) (fun _ _ => trivial) ?_ (fun _ _ h => by cases h) ?_
  · rw [sizeLine_eq]; decide
  · intro v hv H2 s2 Q' k
    have hl := s2 _ _ el
    have hv : v = .int 0 ∨ v = .int 1 ∨ v = .int 2 := by simpa [rng, List.range, List.range.loop] using hv
    have no : ∀ {x y : Frac}, leF x y → decide (y.1 * x.2 < x.1 * y.2) = false := fun {x y} h => decide_eq_false (by unfold leF at h; omega)
    rcases hv with rfl | rfl | rfl
    · refine ⟨_, rfl, _, rfl, _, _, rfl, rfl, _, _, _, _, rfl, rfl, .inl (.inl hl), atI_nat (j := 1) rfl, _, rfl, _, rfl, _, _, _, _, rfl, rfl, .inl (.inl hl), atI_nat (j := 0) rfl, _, _, rfl, a1, a0, q1, q0, rfl, rfl, s2 _ _ e1, s2 _ _ e0, f1, f0, _, rfl, ?_⟩
      rw [no k0]; exact k H2 (Same.refl _)
    · refine ⟨_, rfl, _, rfl, _, _, rfl, rfl, _, _, _, _, rfl, rfl, .inl (.inl hl), atI_nat (j := 2) rfl, _, rfl, _, rfl, _, _, _, _, rfl, rfl, .inl (.inl hl), atI_nat (j := 1) rfl, _, _, rfl, a2, a1, q2, q1, rfl, rfl, s2 _ _ e2, s2 _ _ e1, f2, f1, _, rfl, ?_⟩
      rw [no k1]; exact k H2 (Same.refl _)
    · refine ⟨_, rfl, _, rfl, _, _, rfl, rfl, _, _, _, _, rfl, rfl, .inl (.inl hl), atI_nat (j := 3) rfl, _, rfl, _, rfl, _, _, _, _, rfl, rfl, .inl (.inl hl), atI_nat (j := 2) rfl, _, _, rfl, a3, a2, q3, q2, rfl, rfl, s2 _ _ e3, s2 _ _ e2, f3, f2, _, rfl, ?_⟩
      rw [no k2]; exact k H2 (Same.refl _)
  · intro H2 s2 hD
    have eD : ((rng 0 3).filter fun _ => false).map id = ([] : List V) := by simp
    rw [eD] at hD
    refine ⟨by simp [sizeLine_eq], fun e ne => ?_⟩
    have se := same_upd (o := HO.lst []) ne
    exact eqD_nil (dat_lst (K := K) (xs := []) (.inl (.inl (se _ _ hD))) (by simp)) upd_same (by decide) (q _ (s1.trans (s2.trans se)))
def spLLight : Sp := sp2 fun a b H Q _ => ∃ (wd : Addr) (z : Str) (pos : Str → Frac) (ls : List Str), a = .ref wd ∧ b = .str z ∧ FracL H wd pos ls ∧ ls.Nodup ∧ (∀ l, l ∈ ls ↔ 0 < (pos l).1) ∧ (¬ 0 < (pos z).1 → pos z = (0, 1)) ∧ ∀ H' t, Same H H' → H' t = some (.tup [.int (pos z).1, .int (pos z).2]) → Q (.ref t) H'
theorem sc__law_light : FnScope ["_law_found", "_law_lamp"] ["_law_found", "_law_lamp"] (defScope s__law_light) := ⟨rfl, rfl, rfl, by decide +kernel, rfl, by decide +kernel, by decide +kernel⟩
theorem d__law_light (T : Txt K mg) : Def P w K mg base 1 "_law_light" ["_law_found", "_law_lamp"] (spLLight) := by
  refine mkDef T.d__law_light T.g__law_light sc__law_light (fun _ _ _ _ _ _ us hl => match us, hl with | [_, _], _ => rfl) len2 (BodyN.up fun cdv A outer s H vs Q E hr h => ?_)
  obtain ⟨_, _, rfl, wd, z, pos, ls, rfl, rfl, ⟨kvs, ew, pk⟩, nd, hm, h0, q⟩ := h
  have hu := hu_of hr
  refine ⟨_, (pss_one (ps_ret (pe_dget2 (by exact hu) (pv 0) (pv 1) (pe_tup (pa_cons pe_int (pa_cons pe_int pa_nil))) ⟨rfl, rfl, rfl, rfl⟩))), ?_⟩
  obtain ⟨g1, g2⟩ := frac_get pk z
  refine ⟨_, rfl, _, rfl, .inl ⟨_, .inl ew⟩, _, rfl, by simp [sizeLine_eq], fun t0 nt0 => ?_⟩
  have s0 := same_upd (o := HO.tup [.int 0, .int 1]) nt0
  have e0 : (upd H t0 (.tup [.int 0, .int 1])) t0 = some (.tup [.int 0, .int 1]) := upd_same
  generalize upd H t0 (.tup [.int 0, .int 1]) = H1 at s0 e0
  have dg : DGet H1 wd (.str z) (valV kvs (Sum.inr z)) := .inl ⟨kvs, Sum.inr z, .inl (s0 _ _ ew), rfl, rfl⟩
  refine ⟨_, dg, ?_⟩
  by_cases c : z ∈ ls
  · obtain ⟨t, ht, et⟩ := g1 c
    rw [ht]
    exact q H1 t s0 (s0 _ _ et)
  · rw [g2 c]
    have := h0 fun k => c ((hm z).mpr k)
    exact q H1 t0 s0 (by rw [this]; exact e0)
end

/-! ## The end of a run, in plain terms -/
theorem len_law {m : Nat} {f : Frac} {g u d : Int} (hf : FOk m f) (hg : 0 ≤ g ∧ g ≤ 100) : lenF f g u d = if f.1 < g * f.2 then u else if g * f.2 < f.1 then d else 0 := by
  unfold lenF
  by_cases e : f.1 = g * f.2
  · rw [if_pos ((goal_iff hf hg).mpr e), if_neg (by omega), if_neg (by omega)]
  · rw [if_neg fun z => e ((goal_iff hf hg).mp z), Int.mul_one]
    by_cases c : f.1 < g * f.2
    · rw [if_pos c, if_pos c]
    · rw [if_neg c, if_neg c, if_pos (by omega)]
theorem nUp_all {cs : Cs} {i : Int} (h : ∀ c ∈ cs, c.2 ≤ i) : nUp cs i = cs.length := by
  unfold nUp
  rw [List.filter_eq_self.mpr fun c hc => by simpa using h c hc]
/-- the lights as the last call begins -/
theorem atP_last {S : Book} {pre : Cs} {c : Int × Int} (h : (pre ++ [c]).Pairwise fun a b => a.2 ≤ b.2) : atP S pre c.2 = posK S (pre ++ [c]) pre.length := by
  have hle : ∀ x ∈ pre, x.2 ≤ c.2 := fun x hx => (List.pairwise_append.mp h).2.2 x hx c (by simp)
  unfold atP
  rw [nUp_all hle]
  cases e : pre.length with
  | zero => rfl
  | succ n =>
    obtain ⟨d, hd⟩ : ∃ d, pre[n]? = some d := ⟨_, List.getElem?_eq_getElem (by omega)⟩
    have h1 : (pre ++ [c])[n]? = some d := by rw [List.getElem?_append_left (by omega)]; exact hd
    have h2 : (pre ++ [c])[n + 1]? = some c := by rw [← e, List.getElem?_append_right (by omega)]; simp
    show (match pre[n]? with
      | some x => stepP S x.1 (c.2 - x.2) (posK S pre n)
      | none => darkP) = (match (pre ++ [c])[n]?, (pre ++ [c])[n + 1]? with
      | some x, some y => stepP S x.1 (y.2 - x.2) (posK S (pre ++ [c]) n)
      | _, _ => posK S (pre ++ [c]) n)
    rw [hd, h1, h2, posK_pre (by omega)]
/-- the lights at a moment behind the last call -/
theorem atP_tail {S : Book} {pre : Cs} {c : Int × Int} (h : (pre ++ [c]).Pairwise fun a b => a.2 ≤ b.2) {i : Int} (hi : c.2 ≤ i) : atP S (pre ++ [c]) i = stepP S c.1 (i - c.2) (posK S (pre ++ [c]) pre.length) := by
  have hle : ∀ x ∈ pre ++ [c], x.2 ≤ i := fun x hx => by
    rcases List.mem_append.mp hx with hx | hx
    · have := (List.pairwise_append.mp h).2.2 x hx c (by simp)
      omega
    · rw [List.mem_singleton.mp hx]; exact hi
  unfold atP
  rw [nUp_all hle, List.length_append]
  show (match (pre ++ [c])[pre.length]? with
    | some x => stepP S x.1 (i - x.2) (posK S (pre ++ [c]) pre.length)
    | none => darkP) = _
  rw [List.getElem?_append_right (Nat.le_refl _), Nat.sub_self]; rfl
/-- mx: how long the last fades are -/
structure EndsAt (S : Book) (pre : Cs) (c : Int × Int) (sc : CueC) (mx : Int) : Prop where
  get : get S c.1 = some sc
  nn : 0 ≤ mx
  all : ∀ l, lenF (posK S (pre ++ [c]) pre.length l) (goalOf sc l) sc.up sc.down ≤ mx
  one : mx = 0 ∨ ∃ l, mx = lenF (posK S (pre ++ [c]) pre.length l) (goalOf sc l) sc.up sc.down
section
variable {U : List Str} {S : Book} {pre : Cs} {c : Int × Int} {sc : CueC} {mx : Int}
theorem EndsAt.le (E : EndsAt S pre c sc mx) (g : Good U S) : mx ≤ 6000 := by
  rcases E.one with h | ⟨l, h⟩
  · omega
  · rw [h]; exact (len_rng g E.get _ _).2
theorem EndsAt.done (E : EndsAt S pre c sc mx) (h : (pre ++ [c]).Pairwise fun a b => a.2 ≤ b.2) {i : Int} (hi : c.2 + mx ≤ i) (l : Str) : atP S (pre ++ [c]) i l = (goalOf sc l, 1) := by
  have := E.nn
  rw [atP_tail h (by omega)]
  unfold stepP
  rw [E.get]
  show wayF (posK S (pre ++ [c]) pre.length l) (goalOf sc l) (i - c.2) (lenF (posK S (pre ++ [c]) pre.length l) (goalOf sc l) sc.up sc.down) = _
  unfold wayF
  rw [if_pos (by have := E.all l; omega)]
theorem low_goal {x y g : Int} (hx : 0 ≤ x) (hy : 1 ≤ y) (h : lowF x y = (g, 1)) : x = g * y := by
  unfold lowF at h
  obtain ⟨h1, h2⟩ := Prod.mk.inj h
  have e1 := div_exact (gcdI_dl x y)
  have e2 := div_exact (gcdI_dr x y)
  rw [h1] at e1
  rw [h2] at e2
  rw [Int.mul_one] at e2
  rw [← e1, Int.mul_comm, e2]
theorem EndsAt.before (E : EndsAt S pre c sc mx) (g : Good U S) (h : (pre ++ [c]).Pairwise fun a b => a.2 ≤ b.2) (hm : mx ≠ 0) : ∃ l ∈ U, atP S (pre ++ [c]) (c.2 + mx - 1) l ≠ (goalOf sc l, 1) := by
  obtain ⟨l, hl⟩ := E.one.resolve_left hm
  have hU : l ∈ U := Decidable.byContradiction fun z => by
    have hd := posK_dark g h z pre.length
    rw [hd] at hl
    have e : goalOf sc l = 0 := by
      unfold goalOf
      cases y : Cue.get sc.words l with
      | none => rfl
      | some v => exact absurd (g.wrd _ (g.at E.get) _ (get_mem y)).1 z
    rw [e] at hl
    unfold lenF at hl
    rw [if_pos rfl] at hl
    exact hm hl
  refine ⟨l, hU, ?_⟩
  have nn := E.nn
  have ok := posK_ok g h l pre.length
  have gr := goal_rng g E.get l
  have h6 := E.le g
  rw [atP_tail h (by omega)]
  unfold stepP
  rw [E.get]
  show wayF (posK S (pre ++ [c]) pre.length l) (goalOf sc l) (c.2 + mx - 1 - c.2) (lenF (posK S (pre ++ [c]) pre.length l) (goalOf sc l) sc.up sc.down) ≠ _
  have hne : ¬ (posK S (pre ++ [c]) pre.length l).1 = goalOf sc l * (posK S (pre ++ [c]) pre.length l).2 := fun z => by
    unfold lenF at hl
    rw [if_pos ((goal_iff ok gr).mpr z)] at hl
    exact hm hl
  rw [← hl]
  generalize posK S (pre ++ [c]) pre.length l = f at ok hne
  generalize goalOf sc l = y at gr hne
  intro hw
  unfold wayF at hw
  rw [if_neg (by omega)] at hw
  obtain ⟨p1, p2, _, _⟩ := way_parts ok gr (gone := c.2 + mx - 1 - c.2) (len := mx) (by omega) (by omega) h6
  have := low_goal p1 p2 hw
  rw [show mx - (c.2 + mx - 1 - c.2) = 1 by omega, Int.mul_one, Int.mul_one, Int.mul_one, show c.2 + mx - 1 - c.2 = mx - 1 by omega, Int.mul_sub, Int.mul_one, ← Int.mul_assoc] at this
  exact hne (by omega)
end

theorem calls_snoc {H : Hp} : ∀ {pre : Cs} {ts : List Addr} {c : Int × Int}, CallsAt H ts (pre ++ [c]) → ∃ ts0 t, ts = ts0 ++ [t] ∧ CallsAt H ts0 pre ∧ H t = some (.tup [.int c.1, .int c.2])
  | [], _, _, .cons h .nil => ⟨[], _, rfl, .nil, h⟩
  | _ :: _, _, _, .cons h r => by
    obtain ⟨ts0, t, rfl, a, b⟩ := calls_snoc r
    exact ⟨_ :: ts0, t, rfl, .cons h a, b⟩
theorem cut_init {xs : List V} {x : V} : cutV (xs ++ [x]) none (some (-1)) = xs := by
  unfold cutV
  rw [HT.sIx_none]
  have e : HT.sIx (xs ++ [x]).length (xs ++ [x]).length (some (-1)) = xs.length := by
    show (if (-1 : Int) < 0 then ((-1 : Int) + ((xs ++ [x]).length : Int)).toNat else min (-1 : Int).toNat (xs ++ [x]).length) = _
    rw [if_pos (by decide), List.length_append]
    show ((-1 : Int) + ((xs.length + 1 : Nat) : Int)).toNat = _
    omega
  rw [e]
  simp
theorem CsOk.init {S : Book} {pre : Cs} {c : Int × Int} (h : CsOk S (pre ++ [c])) : CsOk S pre := ⟨by have := h.few; rw [List.length_append] at this; omega, fun x hx => h.ok x (List.mem_append.mpr (.inl hx)), (List.pairwise_append.mp h.ord).1⟩

theorem fok_few {m : Nat} {f : Frac} (h : FOk m f) (k : m ≤ 900) : Few f := ⟨big_up h.na (by omega), big_up h.nb (by omega)⟩
theorem atP_few {U : List Str} {S : Book} (g : Good U S) {cs : Cs} (h : CsOk S cs) (i : Int) (l : Str) : Few (atP S cs i l) := by
  rcases atP_cases S h.ord i with e | ⟨n, c, hc, _, hi, e⟩
  · rw [e]; exact fok_few (fok_goal (g := 0) (by decide)) (by decide)
  · have hn := (List.getElem?_eq_some_iff.mp hc).1
    have := h.few
    rw [e]; exact fok_few (stepP_ok g (posK_ok g h.ord l n) (by omega)) (by omega)
theorem FracL.nl {H H' : Hp} {w : Addr} {pos : Str → Frac} {ls : List Str} (h : FracL H w pos ls) (n : NL H H') : FracL H' w pos ls := by
  obtain ⟨kvs, e, p⟩ := h
  exact ⟨kvs, n _ _ (fun _ z => by cases z) e, paired_imp (fun _ _ ⟨t, a, b⟩ => ⟨t, a, n _ _ (fun _ z => by cases z) b⟩) p⟩
theorem FracL.same {H H' : Hp} {w : Addr} {pos : Str → Frac} {ls : List Str} (h : FracL H w pos ls) (n : Same H H') : FracL H' w pos ls := by
  obtain ⟨kvs, e, p⟩ := h
  exact ⟨kvs, n _ _ e, paired_imp (fun _ _ ⟨t, a, b⟩ => ⟨t, a, n _ _ b⟩) p⟩
section
variable {P : Program} {w : World} {K : PySem.W.Frag} {mg : Str → Option Value} {base : Heap}
def spLCallRight (K : PySem.W.Frag) : Sp := sp5 fun a b c d e H Q _ => ∃ r ds as lc ts U dm am M la lw tl pre cl gp g0 g1, a = .ref r ∧ b = .ref dm ∧ c = .ref la ∧ d = .ref lw ∧ e = .ref gp ∧ RunAt K U H r ds as lc ts (scenes M) (pre ++ [cl]) ∧ TabAt RcM none H dm am M ∧ Good U M ∧ U.Nodup ∧ H la = some (.lst (U.map V.str)) ∧ H lw = some (.lst (tl.map V.ref)) ∧ CallsAt H tl (pre ++ [cl]) ∧ H gp = some (.tup [.int g0, .int g1]) ∧ 0 ≤ g0 ∧ 0 ≤ g1 ∧ 0 ≤ cl.2 ∧ cl.2 + g0 + g1 ≤ 1000000000 ∧
  ∀ H', Same H H' → Q (.bl true) H'
theorem sc__law_call_right : FnScope ["_law_run", "_law_model", "_law_lamps_here", "_law_calls", "_law_gaps", "_law_number", "_law_since", "_law_moments", "_law_found", "_law_moment", "_law_begun", "_law_k", "_law_lamp", "_law_goal"] ["_law_run", "_law_model", "_law_lamps_here", "_law_calls", "_law_gaps"] (defScope s__law_call_right) := ⟨rfl, rfl, rfl, by decide +kernel, rfl, by decide +kernel, by decide +kernel⟩
theorem d__law_call_right (T : Txt K mg) : Def P w K mg base 8 "_law_call_right" ["_law_run", "_law_model", "_law_lamps_here", "_law_calls", "_law_gaps"] (spLCallRight K) := by
  have d__law_lights := d__law_lights (P := P) (w := w) (base := base) T
  have d_Run_at := d_Run_at (P := P) (w := w) (base := base) T
  have d__law_at_right := d__law_at_right (P := P) (w := w) (base := base) T
  have d__law_level := d__law_level (P := P) (w := w) (base := base) T
  have d__law_between := d__law_between (P := P) (w := w) (base := base) T
  have d__law_light := d__law_light (P := P) (w := w) (base := base) T
  refine mkDef T.d__law_call_right T.g__law_call_right sc__law_call_right (fun _ _ _ _ _ _ us hl => match us, hl with | [_, _, _, _, _], _ => rfl) len5 (BodyN.up fun cdv A outer s H vs Q E hr h => ?_)
  obtain ⟨_, _, _, _, _, rfl, r, ds, as, lc, ts, U, m, am, M, la, lw, tl, pre, cl, gp, g0, g1, rfl, rfl, rfl, rfl, rfl, hR, hM, g, nd, hla, hlw, hC, hgp, h0, h1, hs0, hs1, q⟩ := h
  have hu := hu_of hr
  refine ⟨_, (pss_cons (ps_asg (pe_ix ix_list (pv 3) (pe_un un_neg pe_int) (fun _ _ => rfl)) (pg_tup rfl (pgs_cons (pg_name (i := 5) sc__law_call_right.nd rfl (Or.inl rfl)) (pgs_cons (pg_name (i := 6) sc__law_call_right.nd rfl (Or.inl rfl)) pgs_nil))))
    (pss_cons (ps_set (i := 7) sc__law_call_right.nd rfl (Or.inl rfl) (pe_lst (pa_cons (pe_op op_add (pv 6) (pe_ix ix_tup (pv 4) pe_int (fun _ _ => rfl))) (pa_cons (pv 6) (pa_cons (pe_op op_add (pe_op op_add (pv 6) (pe_ix ix_tup (pv 4) pe_int (fun _ _ => rfl))) (pe_ix ix_tup (pv 4) pe_int (fun _ _ => rfl))) pa_nil)))))
    (pss_cons (ps_setLc (i := 8) (own := [("_law_moment", 9)]) rfl sc__law_call_right.nd rfl rfl (sw_true rfl rfl rfl (by decide +kernel)) (pi_list (pv 7)) (blkOk_by (own := [("_law_moment", 9)]) (N := ["_law_run", "_law_model", "_law_lamps_here", "_law_calls", "_law_gaps", "_law_number", "_law_since", "_law_moments", "_law_found", "_law_moment", "_law_begun", "_law_k", "_law_lamp", "_law_goal"]) (sc := defScope s__law_call_right) (by decide +kernel)) (fun _ _ _ _ _ => pg_name (i := 9) sc__law_call_right.nd rfl (Or.inl rfl)) (fun _ _ _ _ _ => pts_nil) (fun _ _ _ _ _ => (pe_mt T.c_Run d_Run_at (hr.mono (by decide)) passL (pv 0) (pa_cons (pv 9) pa_nil))))
    (pss_cons (ps_set (i := 10) sc__law_call_right.nd rfl (Or.inl rfl) (pe_fn d__law_lights (hr.mono (by decide)) (by rfl) passL (pa_cons (pv 1) (pa_cons (pv 2) (pa_cons (pe_slice sl_list (pv 3) po_none (po_some (pe_un un_neg pe_int))) (pa_cons (pv 6) pa_nil))))))
    (pss_cons (ps_for PassesOwn.never rfl (pi_range1 (by rfl) T.z_range (pa_cons pe_int pa_nil)) (pg_name (i := 11) sc__law_call_right.nd rfl (Or.inl rfl))
    (pss_one (ps_if (pt_not (pt_val (pe_fn d__law_at_right (hr.mono (by decide)) (by rfl) passL (pa_cons (pv 0) (pa_cons (pv 2) (pa_cons (pe_ix ix_list (pv 7) (pv 11) (fun _ _ => rfl)) (pa_cons (pe_fn d__law_lights (hr.mono (by decide)) (by rfl) passL (pa_cons (pv 1) (pa_cons (pv 2) (pa_cons (pv 3) (pa_cons (pe_ix ix_list (pv 7) (pv 11) (fun _ _ => rfl)) pa_nil))))) pa_nil)))))))
    (pss_one (ps_ret pe_bl))
    pss_nil)))
    (pss_cons (ps_for PassesOwn.never rfl (pi_enum (by rfl) T.z_enumerate (pa_cons (pv 2) pa_nil)) (pg_tup rfl (pgs_cons (pg_name (i := 11) sc__law_call_right.nd rfl (Or.inl rfl)) (pgs_cons (pg_name (i := 12) sc__law_call_right.nd rfl (Or.inl rfl)) pgs_nil)))
    (pss_cons (ps_set (i := 13) sc__law_call_right.nd rfl (Or.inl rfl) (pe_tup (pa_cons (pe_fn d__law_level (hr.mono (by decide)) (by rfl) passL (pa_cons (pv 1) (pa_cons (pv 5) (pa_cons (pv 12) pa_nil)))) (pa_cons pe_int pa_nil))))
    (pss_one (ps_if (pt_not (pt_val (pe_fn d__law_between (hr.mono (by decide)) (by rfl) passL (pa_cons (pe_ix ix_list (pv 10) (pv 11) (fun _ _ => rfl)) (pa_cons (pe_fn d__law_light (hr.mono (by decide)) (by rfl) passL (pa_cons (pe_ix ix_list (pv 8) pe_int (fun _ _ => rfl)) (pa_cons (pv 12) pa_nil))) (pa_cons (pe_fn d__law_light (hr.mono (by decide)) (by rfl) passL (pa_cons (pe_ix ix_list (pv 8) pe_int (fun _ _ => rfl)) (pa_cons (pv 12) pa_nil))) (pa_cons (pv 13) pa_nil)))))))
    (pss_one (ps_ret pe_bl))
    pss_nil))))
    (pss_one (ps_ret pe_bl)))))))), ?_⟩
  have gS := scenes_good g
  obtain ⟨ts0, t, rfl, hC0, et⟩ := calls_snoc hC
  have hcs := hR.cs
  have hcs0 := hcs.init
  have fewU := hR.lamps.few
  obtain ⟨⟨sc, hsc⟩, _⟩ := hcs.ok cl (List.mem_append.mpr (.inr List.mem_cons_self))
  obtain ⟨cu, hcu⟩ : ∃ c, get M cl.1 = some c := by
    have := hsc
    rw [get_scenes] at this
    obtain ⟨c, hc, _⟩ := Option.map_eq_some_iff.mp this
    exact ⟨c, hc⟩
  have hgoal : ∀ l, goalOf sc l = lev M cl.1 l := fun l => by
    obtain ⟨sc', h', e', _⟩ := goal_scene g hcu l
    rw [hsc] at h'
    cases h'; exact e'
  have hat : atI ((ts0 ++ [t]).map V.ref) (-1) = some (V.ref t) := at_last (by rw [List.map_append]; simp)
  refine ⟨_, rfl, _, rfl, _, _, _, _, rfl, rfl, .inl (.inl hlw), hat, _, _, rfl, .inl (.inl et), rfl, _, _, rfl, _, _, rfl, rfl, ?_⟩
  refine ⟨_, rfl, _, rfl, _, _, _, _, rfl, rfl, .inl (.inl hgp), ix2_0 _ _, _, _, rfl, rfl, _, rfl, _, rfl, _, rfl, _, _, _, _, rfl, rfl, .inl (.inl hgp), ix2_0 _ _, _, _, rfl, rfl, _, rfl, _, _, _, _, rfl, rfl, .inl (.inl hgp), ix2_1 _ _, _, _, rfl, rfl, by simp [sizeLine_eq], fun lm nlm => ?_⟩
  have s1 := same_upd (o := HO.lst [V.int (cl.2 + g0), .int cl.2, .int (cl.2 + g0 + g1)]) nlm
  have elm : (upd H lm (.lst [V.int (cl.2 + g0), .int cl.2, .int (cl.2 + g0 + g1)])) lm = some (.lst [V.int (cl.2 + g0), .int cl.2, .int (cl.2 + g0 + g1)]) := upd_same
  have R1 := hR.same s1
  have M1 := hM.same s1
  have hla1 := s1 _ _ hla
  have hlw1 := s1 _ _ hlw
  have hC1 : CallsAt (upd H lm (.lst [V.int (cl.2 + g0), .int cl.2, .int (cl.2 + g0 + g1)])) ts0 pre := paired_imp (fun _ _ h => s1 _ _ h) hC0
  have hCC : CallsAt (upd H lm (.lst [V.int (cl.2 + g0), .int cl.2, .int (cl.2 + g0 + g1)])) (ts0 ++ [t]) (pre ++ [cl]) := paired_imp (fun _ _ h => s1 _ _ h) hC
  generalize upd H lm (.lst [V.int (cl.2 + g0), .int cl.2, .int (cl.2 + g0 + g1)]) = H1 at s1 elm R1 M1 hla1 hlw1 hC1 hCC
  refine ⟨_, rfl, lm, rfl, ⟨_, .inl (.inl elm)⟩, fun D nD => ?_⟩
  refine lc_rel (walk_list (K := K) (a := lm) (xs := [V.int (cl.2 + g0), .int cl.2, .int (cl.2 + g0 + g1)])) nD yes (fun x y H => ∃ i wd ls, x = V.int i ∧ y = V.ref wd ∧ FracL H wd (atP (scenes M) (pre ++ [cl]) i) ls ∧ ls.Nodup ∧ ∀ l, l ∈ ls ↔ 0 < (atP (scenes M) (pre ++ [cl]) i l).1) ?_ ?_ (fun _ => rfl) (fun H5 s5 => .inl (.inl (s5 _ _ elm))) (fun x _ H _ Q' k => tt_yes x k) ?_ ?_
  · rintro x y H1 H2 nl' ⟨i, wd, ls, rfl, rfl, a1, a2, a3⟩
    exact ⟨i, wd, ls, rfl, rfl, a1.nl nl', a2, a3⟩
  · show 3 < _
    rw [sizeLine_eq]; decide
  · intro y hy _ H5 s5 Q' kk
    obtain ⟨i, rfl, hi0, hi1⟩ : ∃ i, y = V.int i ∧ 0 ≤ i ∧ i ≤ 1000000000 := by
      simp only [List.mem_cons, List.not_mem_nil, or_false] at hy
      rcases hy with rfl | rfl | rfl
      · exact ⟨_, rfl, by omega, by omega⟩
      · exact ⟨_, rfl, by omega, by omega⟩
      · exact ⟨_, rfl, by omega, by omega⟩
    have R5 := R1.same s5
    obtain ⟨dx5, ob5⟩ := R5.ob
    refine ⟨_, rfl, _, dx5, _, rfl, ob5, runF_no (by decide +kernel) (by decide +kernel), _, rfl, _, _, rfl, r, ds, as, lc, ts, _, _, _, rfl, R5, trivial, fun h => absurd h (by rw [whole_of ⟨hi0, hi1⟩]; simp), fun i' ei _ _ H6 wd ls s6 nw hF hP hL => ?_⟩
    cases ei
    exact kk _ _ s6 ⟨i, wd, ls, rfl, rfl, hF, rising_nodup linS hP, hL⟩
  intro H2 ys s2 hD hp
  rw [filter_yes] at hp
  obtain ⟨w0, w1, w2, ls0, ls2, rfl, F0, B0, F2, B2⟩ : ∃ w0 w1 w2 ls0 ls2, ys = [V.ref w0, .ref w1, .ref w2] ∧ FracL H2 w0 (atP (scenes M) (pre ++ [cl]) (cl.2 + g0)) ls0 ∧ (ls0.Nodup ∧ ∀ l, l ∈ ls0 ↔ 0 < (atP (scenes M) (pre ++ [cl]) (cl.2 + g0) l).1) ∧ FracL H2 w2 (atP (scenes M) (pre ++ [cl]) (cl.2 + g0 + g1)) ls2 ∧ (ls2.Nodup ∧ ∀ l, l ∈ ls2 ↔ 0 < (atP (scenes M) (pre ++ [cl]) (cl.2 + g0 + g1) l).1) := by
    cases hp with
    | cons a b =>
      cases b with
      | cons b c =>
        cases c with
        | cons c d =>
          cases d
          obtain ⟨_, w0, ls0, e, rfl, a1, a2, a3⟩ := a
          cases e
          obtain ⟨_, w1, _, e, rfl, _⟩ := b
          obtain ⟨_, w2, ls2, e, rfl, c1, c2, c3⟩ := c
          cases e
          exact ⟨w0, w1, w2, ls0, ls2, rfl, a1, ⟨a2, a3⟩, c1, ⟨c2, c3⟩⟩
  have s02 := s1.trans s2
  have R2 := R1.same s2
  have M2 := M1.same s2
  have hlw2 := s2 _ _ hlw1
  refine ⟨_, rfl, _, rfl, _, rfl, _, rfl, _, rfl, lw, _, rfl, .inl (.inl hlw2), fun l2 nl2 => ?_⟩
  have e2 : cutV ((ts0 ++ [t]).map V.ref) none (some (-1)) = ts0.map V.ref := by rw [List.map_append]; exact cut_init
  rw [e2]
  have s3 := same_upd (o := HO.lst (ts0.map V.ref)) nl2
  refine ⟨_, rfl, _, _, _, _, rfl, m, am, M, U, la, U, l2, ts0, pre, cl.2, rfl, rfl, rfl, rfl, M2.same s3, g, s3 _ _ (s2 _ _ hla1), by omega, upd_same, paired_imp (fun _ _ h => s3 _ _ (s2 _ _ h)) hC1, hcs0, fun H4 wb bl s4 nwb ewb hFb => ?_⟩
  have s24 := s3.trans s4
  have s14 := s2.trans s24
  have R4 := R1.same s14
  have M4 := M1.same s14
  have A4 := s14 _ _ hla1
  have W4 := s14 _ _ hlw1
  have C4 : CallsAt H4 (ts0 ++ [t]) (pre ++ [cl]) := paired_imp (fun _ _ h => s14 _ _ h) hCC
  have LM4 := s14 _ _ elm
  have D4 := s24 _ _ hD
  have F04 := F0.same s24
  have F24 := F2.same s24
  have s04 := s1.trans s14
  clear s3 s4 s24 s14 nl2 F0 F2 hD elm hCC hC1 hlw2 M2 R2 s02 s2 s1 hla1 hlw1 R1 M1
  refine ⟨3, rfl, by omega, by omega, for_range (fun k σ H' => ∃ v9 v11 v12 v13, σ = [some (.ref r), some (.ref m), some (.ref la), some (.ref lw), some (.ref gp), some (.int cl.1), some (.int cl.2), some (.ref lm), some (.ref D), v9, some (.ref wb), v11, v12, v13] ∧ Same H4 H') ⟨_, _, _, _, rfl, Same.refl _⟩ ?_ ?_⟩
  · rintro k σ H5 hk ⟨v9, v11, v12, v13, rfl, s5⟩
    have hk : k < 3 := by
      have : k < (3 : Int).toNat := hk
      omega
    obtain ⟨v, hv, ha⟩ := at_in (xs := [V.int (cl.2 + g0), .int cl.2, .int (cl.2 + g0 + g1)]) (i := 0 + (k : Int)) (n := 3) rfl (by omega) (by omega)
    obtain ⟨i, rfl, hi0, hi1⟩ : ∃ i, v = V.int i ∧ 0 ≤ i ∧ i ≤ 1000000000 := by
      simp only [List.mem_cons, List.not_mem_nil, or_false] at hv
      rcases hv with rfl | rfl | rfl
      · exact ⟨_, rfl, by omega, by omega⟩
      · exact ⟨_, rfl, by omega, by omega⟩
      · exact ⟨_, rfl, by omega, by omega⟩
    refine ⟨_, rfl, _, rfl, _, rfl, _, rfl, _, _, _, _, rfl, rfl, .inl (.inl (s5 _ _ LM4)), ha, _, rfl, _, rfl, _, rfl, _, rfl, _, rfl, _, _, _, _, rfl, rfl, .inl (.inl (s5 _ _ LM4)), ha, ?_⟩
    refine ⟨_, _, _, _, rfl, m, am, M, U, la, U, lw, ts0 ++ [t], pre ++ [cl], i, rfl, rfl, rfl, rfl, M4.same s5, g, s5 _ _ A4, by omega, s5 _ _ W4, paired_imp (fun _ _ h => s5 _ _ h) C4, hcs, fun H6 wl fl s6 nwl ewl hFl => ?_⟩
    have s56 := s5.trans s6
    exact ⟨_, _, _, _, rfl, r, ds, as, lc, ts, _, _, U, la, i, wl, fl, _, rfl, rfl, rfl, rfl, R4.same s56, ⟨hi0, hi1⟩, s56 _ _ A4, nd, ewl, hFl, fun l _ => atP_ok gS hcs.ord i l, fun H7 s7 => ⟨_, rfl, iteN (by rw [decide_eq_true fun l _ => rfl]; rfl) ⟨_, _, _, _, rfl, s56.trans s7⟩⟩⟩
  rintro σ H5 ⟨v9, v11, v12, v13, rfl, s5⟩
  refine ⟨_, rfl, la, _, rfl, .inl (.inl (s5 _ _ A4)), for_it (walk_enum (K := K) (a := la) (xs := U.map V.str)) (fun k σ H' => ∃ v9 v11 v12 v13, σ = [some (.ref r), some (.ref m), some (.ref la), some (.ref lw), some (.ref gp), some (.int cl.1), some (.int cl.2), some (.ref lm), some (.ref D), v9, some (.ref wb), v11, v12, v13] ∧ Same H4 H') ⟨_, _, _, _, rfl, s5⟩ (fun i σ H' _ ⟨_, _, _, _, _, s⟩ => .inl (.inl (s _ _ A4))) ?_ ?_⟩
  · rintro k x σ H6 H6' hi ⟨v9, v11, v12, v13, rfl, s6⟩ ⟨tt, kk, c, rfl, nt, rfl, hk, hc⟩
    have hc : (U.map V.str)[k]? = some c := hc
    rw [List.getElem?_map] at hc
    obtain ⟨z, hz, rfl⟩ := Option.map_eq_some_iff.mp hc
    cases hk
    have st := same_upd (o := HO.tup [.int (k : Nat), .str z]) nt
    refine ⟨tt, _, rfl, .inl (.inl upd_same), rfl, _, _, rfl, _, _, rfl, rfl, ?_⟩
    have s47 := s6.trans st
    generalize upd H6 tt (.tup [.int (k : Nat), .str z]) = H7 at s47
    clear st nt s6
    refine ⟨_, rfl, _, rfl, _, rfl, _, _, _, rfl, none, m, am, M, U, cl.1, z, rfl, rfl, rfl, M4.same s47, g, fun H8 s8 => ⟨by simp [sizeLine_eq], fun tg ntg => ?_⟩⟩
    have sg := same_upd (o := HO.tup [.int (lev M cl.1 z), .int 1]) ntg
    have s49 := s47.trans (s8.trans sg)
    have etg : (upd H8 tg (.tup [.int (lev M cl.1 z), .int 1])) tg = some (.tup [.int (lev M cl.1 z), .int 1]) := upd_same
    generalize upd H8 tg (.tup [.int (lev M cl.1 z), .int 1]) = H9 at s49 etg
    clear sg ntg s8 s47
    obtain ⟨tb, htb, etb⟩ : ∃ tb, bl[k]? = some tb ∧ H4 tb = some (.tup [.int (atP (scenes M) pre cl.2 z).1, .int (atP (scenes M) pre cl.2 z).2]) := by
      have hl : k < bl.length := by rw [paired_len hFb]; exact (List.getElem?_eq_some_iff.mp hz).1
      obtain ⟨l', hl', e⟩ := LiI.paired_get hFb (List.getElem?_eq_getElem hl)
      rw [hz] at hl'
      cases hl'
      exact ⟨_, List.getElem?_eq_getElem hl, e⟩
    have dark : ∀ i, ¬ 0 < (atP (scenes M) (pre ++ [cl]) i z).1 → atP (scenes M) (pre ++ [cl]) i z = (0, 1) := fun i h => by
      obtain ⟨_, ok⟩ := atP_ok gS hcs.ord i z
      exact frac_zero ok h
    refine ⟨_, rfl, _, rfl, _, _, _, _, rfl, rfl, .inl (.inl (s49 _ _ ewb)), at_ref htb rfl, _, rfl, _, _, _, _, rfl, rfl, .inl (.inl (s49 _ _ D4)), atI_nat (j := 0) rfl, _, rfl, _, _, rfl, w0, z, _, ls0, rfl, rfl, F04.same s49, B0.1, B0.2, dark _, fun HA t1 sA et1 => ?_⟩
    have s4A := s49.trans sA
    refine ⟨_, rfl, _, _, _, _, rfl, rfl, .inl (.inl (s4A _ _ D4)), atI_nat (j := 2) rfl, _, rfl, _, _, rfl, w2, z, _, ls2, rfl, rfl, F24.same s4A, B2.1, B2.2, dark _, fun HB t2 sB et2 => ?_⟩
    have s4B := s4A.trans sB
    have ok := posK_ok gS hcs.ord z pre.length
    have gr := goal_rng gS hsc z
    have lr := len_rng gS hsc (posK (scenes M) (pre ++ [cl]) pre.length z) (goalOf sc z)
    have fw := hcs0.few
    have ep0 : atP (scenes M) pre cl.2 z = posK (scenes M) (pre ++ [cl]) pre.length z := congrFun (atP_last hcs.ord) z
    have ep : ∀ i, cl.2 ≤ i → atP (scenes M) (pre ++ [cl]) i z = wayF (posK (scenes M) (pre ++ [cl]) pre.length z) (goalOf sc z) (i - cl.2) (lenF (posK (scenes M) (pre ++ [cl]) pre.length z) (goalOf sc z) sc.up sc.down) := fun i h => by
      rw [atP_tail hcs.ord h]
      unfold stepP
      rw [hsc]; rfl
    have wb := way_between ok (g := goalOf sc z) (s := cl.2 + g0 - cl.2) (t := cl.2 + g0 + g1 - cl.2) (by omega) (by omega) lr.1
    have f1 := atP_few gS hcs (cl.2 + g0) z
    have f2 := atP_few gS hcs (cl.2 + g0 + g1) z
    rw [← ep _ (by omega), ← ep _ (by omega), ← ep0, hgoal] at wb
    have f0 := atP_few gS hcs0 cl.2 z
    rw [hgoal] at gr
    refine ⟨_, rfl, _, _, _, _, rfl, tb, t1, t2, tg, _, _, _, (lev M cl.1 z, 1), rfl, rfl, rfl, rfl, s4B _ _ etb, sB _ _ et1, et2, (sA.trans sB) _ _ etg, f0, f1, f2, fok_few (fok_goal gr) (by decide), fun h => wb.1 (by simpa using h), fun h => wb.2 (by simpa using h), fun HC sC => ⟨_, rfl, iteF ⟨_, _, _, _, rfl, s4B.trans sC⟩⟩⟩
  · rintro σ H6 ⟨v9, v11, v12, v13, rfl, s6⟩
    exact q _ (s04.trans s6)
end

theorem seq_keep {K : PySem.W.Frag} {H : Hp} {a : Addr} {xs : List V} (hS : SqL K H a xs) : ∃ L : List (Addr × HO), (∀ x ∈ L, H x.1 = some x.2) ∧ ∀ H' : Hp, (∀ x ∈ L, H' x.1 = some x.2) → SqL K H' a xs := by
  rcases hS with (h | ⟨o, h⟩) | h
  · exact ⟨[(a, _)], fun x hx => by rw [List.mem_singleton.mp hx]; exact h, fun H' k => .inl (.inl (k _ List.mem_cons_self))⟩
  · exact ⟨[(a, _)], fun x hx => by rw [List.mem_singleton.mp hx]; exact h, fun H' k => .inl (.inr ⟨o, k _ List.mem_cons_self⟩)⟩
  · exact ⟨[], fun x hx => (by cases hx), fun H' _ => .inr h⟩
theorem cut_sub {xs : List V} {i j : Option Int} : (cutV xs i j).Sublist xs := (List.take_sublist _ _).trans (List.drop_sublist _ _)
theorem EndsAt.uniq {S : Book} {pre : Cs} {c : Int × Int} {sc sc' : CueC} {mx mx' : Int} (E : EndsAt S pre c sc mx) (F : EndsAt S pre c sc' mx') : mx = mx' := by
  have e := E.get
  rw [F.get] at e
  cases e
  have h1 : mx ≤ mx' := by
    rcases E.one with h | ⟨l, h⟩
    · have := F.nn; omega
    · rw [h]; exact F.all l
  have h2 : mx' ≤ mx := by
    rcases F.one with h | ⟨l, h⟩
    · have := E.nn; omega
    · rw [h]; exact E.all l
  omega
theorem goals_of {H : Hp} {pos : Str → Int} : ∀ {ls : List Str} {zs : List V}, Paired (fun (x z : V) => ∃ t l, x = V.str l ∧ z = V.ref t ∧ H t = some (.tup [.int (pos l), .int 1])) (ls.map V.str) zs → ∃ tl : List Addr, zs = tl.map V.ref ∧ FracsAt H (fun l => (pos l, 1)) tl ls
  | [], _, .nil => ⟨[], rfl, .nil⟩
  | _ :: r, _, .cons ⟨t, _, e, rfl, h⟩ b => by
    cases e
    obtain ⟨tl, rfl, k⟩ := goals_of b
    exact ⟨t :: tl, rfl, .cons h k⟩
theorem ends_of {S : Book} {pre : Cs} {cl c2 : Int × Int} {sc2 : CueC} {m2 : Int} (h1 : (pre ++ [cl]).getLast? = some c2) (h2 : get S c2.1 = some sc2) (h3 : 0 ≤ m2) (h4 : ∀ l, lenF (posK S (pre ++ [cl]) ((pre ++ [cl]).length - 1) l) (goalOf sc2 l) sc2.up sc2.down ≤ m2) (h5 : m2 = 0 ∨ ∃ l, m2 = lenF (posK S (pre ++ [cl]) ((pre ++ [cl]).length - 1) l) (goalOf sc2 l) sc2.up sc2.down) : c2 = cl ∧ EndsAt S pre cl sc2 m2 := by
  have e1 : (pre ++ [cl]).getLast? = some cl := by simp
  have e2 : (pre ++ [cl]).length - 1 = pre.length := by simp
  rw [e1] at h1
  cases h1
  rw [e2] at h4 h5
  exact ⟨rfl, ⟨h2, h3, h4, h5⟩⟩
theorem since_le {s hi : Int} {n : Nat} (h : s ≤ 9000 * (((hi - 10).toNat : Nat) : Int)) (hh : hi ≤ 20) (_ : n = (hi - 10).toNat) : s ≤ 90000 := by omega
theorem end_bnd {c m : Int} (h : 0 ≤ c ∧ c ≤ 90000) (h0 : 0 ≤ m) (h1 : m ≤ 6000) : (0 ≤ c + m ∧ c + m ≤ 1000000000) ∧ (0 ≤ c + m + 9000 ∧ c + m + 9000 ≤ 1000000000) := by omega
theorem end_le (c : Int) : c ≤ c + 9000 := by omega
section
variable {P : Program} {w : World} {K : PySem.W.Frag} {mg : Str → Option Value} {base : Heap}
def spLPiece (K : PySem.W.Frag) : Sp := sp2 fun a b H Q _ => ∃ (x : Addr) (ns : List Int) (fi : Int), a = .ref x ∧ b = .int fi ∧ (0 ≤ fi ∧ fi ≤ ns.length) ∧ SqL K H x (ns.map V.int) ∧ ∀ H', Same H H' → Q (.bl true) H'
theorem sc__law_piece : FnScope ["_law_script", "_law_first", "_law_play", "_law_model", "_law_lamps_here", "_law_numbers_here", "_law_run", "_law_calls", "_law_since", "_law_k", "_law_mix", "_law_number", "_law_alone", "_law_goals", "_law_lamp", "_law_ends", "_law_one", "_law_moment"] ["_law_script", "_law_first"] (defScope s__law_piece) := ⟨rfl, rfl, rfl, by decide +kernel, rfl, by decide +kernel, by decide +kernel⟩
theorem d__law_piece (T : Txt K mg) : Def P w K mg base 10 "_law_piece" ["_law_script", "_law_first"] (spLPiece K) := by
  have d__law_built := d__law_built (P := P) (w := w) (base := base) T
  have d_Run___init__ := d_Run___init__ (P := P) (w := w) (base := base) T
  have d_Run_call := d_Run_call (P := P) (w := w) (base := base) T
  have d__law_mixed := d__law_mixed (P := P) (w := w) (base := base) T
  have d__law_call_right := d__law_call_right (P := P) (w := w) (base := base) T
  have d__law_level := d__law_level (P := P) (w := w) (base := base) T
  have d_Run_ended := d_Run_ended (P := P) (w := w) (base := base) T
  have d__law_at_right := d__law_at_right (P := P) (w := w) (base := base) T
  have d__law_cell := d__law_cell (P := P) (w := w) (base := base) T
  have d_Run_at := d_Run_at (P := P) (w := w) (base := base) T
  refine mkDef T.d__law_piece T.g__law_piece sc__law_piece (fun _ _ _ _ _ _ us hl => match us, hl with | [_, _], _ => rfl) len2 (BodyN.up fun cdv A outer s H vs Q E hr h => ?_)
  obtain ⟨_, _, rfl, a, ns, fi, rfl, rfl, ⟨hf0, hf1⟩, hS, q⟩ := h
  have hu := hu_of hr
  refine ⟨_, (pss_cons (ps_asg (pe_fn d__law_built (hr.mono (by decide)) (by rfl) passL (pa_cons (pv 0) (pa_cons (pv 1) (pa_cons (pe_op op_add pe_int (pe_op op_mod (pe_fn d__law_cell (hr.mono (by decide)) (by rfl) passL (pa_cons (pv 0) (pa_cons (pv 1) pa_nil))) pe_int)) pa_nil)))) (pg_tup rfl (pgs_cons (pg_name (i := 2) sc__law_piece.nd rfl (Or.inl rfl)) (pgs_cons (pg_name (i := 3) sc__law_piece.nd rfl (Or.inr rfl)) (pgs_cons (pg_name (i := 4) sc__law_piece.nd rfl (Or.inr rfl)) (pgs_cons (pg_name (i := 5) sc__law_piece.nd rfl (Or.inl rfl)) pgs_nil))))))
    (pss_cons (ps_set (i := 6) sc__law_piece.nd rfl (Or.inl rfl) (pe_mk T.k_Run d_Run___init__ (hr.mono (by decide)) (by rfl) T.g_Run passL (pa_cons (pv 2) pa_nil)))
    (pss_cons (ps_set (i := 7) sc__law_piece.nd rfl (Or.inr rfl) (pe_lst pa_nil))
    (pss_cons (ps_set (i := 8) sc__law_piece.nd rfl (Or.inl rfl) pe_int)
    (pss_cons (ps_for PassesOwn.never rfl (pi_range2 (by rfl) T.z_range (pa_cons pe_int (pa_cons (pe_callB (call_min2 rfl) (by rfl) T.z_min (by decide +kernel) (pa_cons pe_int (pa_cons (pe_op op_sub (pe_callB call_len_seq (by rfl) T.z_len (by decide +kernel) (pa_cons (pv 0) pa_nil)) (pv 1)) pa_nil))) pa_nil))) (pg_name (i := 9) sc__law_piece.nd rfl (Or.inl rfl))
    (pss_cons (ps_set (i := 10) sc__law_piece.nd rfl (Or.inl rfl) (pe_fn d__law_mixed (hr.mono (by decide)) (by rfl) passL (pa_cons (pe_ix ix_list (pv 0) (pe_op op_add (pv 1) (pv 9)) (fun _ _ => rfl)) (pa_cons (pe_op op_add pe_int (pv 9)) pa_nil))))
    (pss_cons (ps_set (i := 8) sc__law_piece.nd rfl (Or.inl rfl) (pe_op op_add (pv 8) (pe_ix ix_list (pe_lst (pa_cons pe_int (pa_cons pe_int (pa_cons (pe_op op_mod (pe_op op_fdiv (pv 10) pe_int) pe_int) (pa_cons (pe_op op_mod (pe_op op_fdiv (pv 10) pe_int) pe_int) pa_nil))))) (pe_op op_mod (pe_op op_fdiv (pv 10) pe_int) pe_int) (fun _ _ => rfl))))
    (pss_cons (ps_set (i := 11) sc__law_piece.nd rfl (Or.inl rfl) (pe_ix ix_list (pe_callB (call_sortedDA rfl) (by rfl) T.z_sorted (by decide +kernel) (pa_cons (pv 3) pa_nil)) (pe_op op_mod (pe_op op_fdiv (pv 10) pe_int) (pe_callB call_lenR (by rfl) T.z_len (by decide +kernel) (pa_cons (pv 3) pa_nil))) (fun _ _ => rfl)))
    (pss_cons (ps_expr (pe_mt T.c_Run d_Run_call (hr.mono (by decide)) passL (pv 6) (pa_cons (pv 11) (pa_cons (pv 8) pa_nil))))
    (pss_cons (ps_expr (pe_bm PySem.F.plainAttrs_list PySem.F.slot_list_append PySem.F.type_list_append mt_append (pv 7) (pa_cons (pe_tup (pa_cons (pv 11) (pa_cons (pv 8) pa_nil))) pa_nil)))
    (pss_one (ps_if (pt_not (pt_val (pe_fn d__law_call_right (hr.mono (by decide)) (by rfl) passL (pa_cons (pv 6) (pa_cons (pv 3) (pa_cons (pv 4) (pa_cons (pv 7) (pa_cons (pe_tup (pa_cons (pe_op op_mod (pe_op op_fdiv (pv 10) pe_int) pe_int) (pa_cons (pe_op op_mod (pe_op op_fdiv (pv 10) pe_int) pe_int) pa_nil))) pa_nil))))))))
    (pss_one (ps_ret pe_bl))
    pss_nil))))))))
    (pss_cons (ps_if (pt_cmpR (op_eqD hr.units) (pv 7) (pe_lst pa_nil) (nomark _))
    (pss_one (ps_ret (pe_and (pe_cmpR op_eq (pe_mt0 T.c_Run d_Run_ended (hr.mono (by decide)) passL (pv 6)) pe_int (nomark _)) (pe_one (pe_cmpR (op_eqK hr) (pe_mt T.c_Run d_Run_at (hr.mono (by decide)) passL (pv 6) (pa_cons (pv 8) pa_nil)) pe_dnewK (nomark _))))))
    pss_nil)
    (pss_cons (ps_set (i := 12) sc__law_piece.nd rfl (Or.inl rfl) (pe_mk T.k_Run d_Run___init__ (hr.mono (by decide)) (by rfl) T.g_Run passL (pa_cons (pv 2) pa_nil)))
    (pss_cons (ps_expr (pe_mt T.c_Run d_Run_call (hr.mono (by decide)) passL (pv 12) (pa_cons (pe_ix ix_tup (pe_ix ix_list (pv 7) (pe_un un_neg pe_int) (fun _ _ => rfl)) pe_int (fun _ _ => rfl)) (pa_cons pe_int pa_nil))))
    (pss_cons (ps_set (i := 13) sc__law_piece.nd rfl (Or.inr rfl) (pe_lc (own := [("_law_lamp", 14)]) rfl sc__law_piece.nd (pi_list (pv 4)) (blkOk_by (own := [("_law_lamp", 14)]) (N := ["_law_script", "_law_first", "_law_play", "_law_model", "_law_lamps_here", "_law_numbers_here", "_law_run", "_law_calls", "_law_since", "_law_k", "_law_mix", "_law_number", "_law_alone", "_law_goals", "_law_lamp", "_law_ends", "_law_one", "_law_moment"]) (sc := defScope s__law_piece) (by decide +kernel)) (fun _ _ _ _ _ => pg_name (i := 14) sc__law_piece.nd rfl (Or.inl rfl)) (fun _ _ _ _ _ => pts_nil) (fun _ _ _ _ _ => (pe_tup (pa_cons (pe_fn d__law_level (hr.mono (by decide)) (by rfl) passL (pa_cons (pv 3) (pa_cons (pe_ix (ix_tupK (K := K) rfl) (pe_ix (ix_listK (K := K) rfl) (pv 7) (pe_un un_neg pe_int) (fun _ _ => rfl)) pe_int (fun _ _ => rfl)) (pa_cons (pv 14) pa_nil)))) (pa_cons pe_int pa_nil))))))
    (pss_cons (ps_set (i := 15) sc__law_piece.nd rfl (Or.inl rfl) (pe_lst (pa_cons (pe_tup (pa_cons (pv 6) (pa_cons (pe_mt0 T.c_Run d_Run_ended (hr.mono (by decide)) passL (pv 6)) pa_nil))) (pa_cons (pe_tup (pa_cons (pv 6) (pa_cons (pe_op op_add (pe_mt0 T.c_Run d_Run_ended (hr.mono (by decide)) passL (pv 6)) pe_int) pa_nil))) (pa_cons (pe_tup (pa_cons (pv 12) (pa_cons (pe_mt0 T.c_Run d_Run_ended (hr.mono (by decide)) passL (pv 12)) pa_nil))) pa_nil)))))
    (pss_one (ps_ret (pe_callB (cr_all rfl) (by rfl) T.z_all (by decide +kernel) (pa_cons (pe_lc (own := [("_law_one", 16), ("_law_moment", 17)]) rfl sc__law_piece.nd (pi_list (pv 15)) (blkOk_by (own := [("_law_one", 16), ("_law_moment", 17)]) (N := ["_law_script", "_law_first", "_law_play", "_law_model", "_law_lamps_here", "_law_numbers_here", "_law_run", "_law_calls", "_law_since", "_law_k", "_law_mix", "_law_number", "_law_alone", "_law_goals", "_law_lamp", "_law_ends", "_law_one", "_law_moment"]) (sc := defScope s__law_piece) (by decide +kernel)) (fun _ _ _ _ _ => pg_tupK (K := K) (n := 2) rfl rfl (pgs_cons (pg_name (i := 16) sc__law_piece.nd rfl (Or.inl rfl)) (pgs_cons (pg_name (i := 17) sc__law_piece.nd rfl (Or.inl rfl)) pgs_nil))) (fun _ _ _ _ _ => pts_nil) (fun _ _ _ _ _ => (pe_fn d__law_at_right (hr.mono (by decide)) (by rfl) passL (pa_cons (pv 16) (pa_cons (pv 4) (pa_cons (pv 17) (pa_cons (pv 13) pa_nil))))))) pa_nil)))))))))))))), ?_⟩
  refine ⟨_, rfl, _, rfl, _, rfl, _, rfl, _, _, rfl, a, ns, fi, rfl, rfl, hf0, hS, fun v0 => ⟨_, _, rfl, rfl, by simp, _, _, rfl, rfl, _, _, _, rfl, a, ns, fi, _, rfl, rfl, rfl, hf0, (by show (0 : Int) ≤ 1 + v0 % 11; omega), (by show 1 + v0 % 11 < 100000; omega), hS, fun H1 t p d ap M m am la lb c0 c1 hT hne hla nla hlb nlb keep et => ⟨t, _, rfl, .inl (.inl et), rfl, _, _, rfl, _, _, rfl, _, _, rfl, _, _, rfl, rfl, ?_⟩⟩⟩
  have g := hT.good
  have u := lamps6_U c0
  refine ⟨_, rfl, fun r dr nr ndr ndrr => ?_⟩
  have s2 : Same H1 (upd (upd H1 dr (.own r)) r (.ins (He.ga K "Run") dr [])) := fun b o e => by rw [upd_ne (ne_of_none e nr), upd_ne (ne_of_none e ndr)]; exact e
  refine ⟨_, _, rfl, r, dr, p, d, ap, M, _, rfl, rfl, upd_same, hT.play.same s2, fun h => ?_, fun H3 ds as lc hR kp fr => ⟨rfl, ?_⟩⟩
  · obtain ⟨o, e⟩ := hT.play.has h
    rw [nr] at e; cases e
  have s3 : Same H1 H3 := fun b o e => kp b o (s2 _ _ e) (ne_of_none e nr)
  have lcr : lc ≠ r := fun z => by
    obtain ⟨dx, e⟩ := hR.ob
    rw [← z, hR.cl] at e; cases e
  have nlc : H1 lc = none := by
    rcases fr lc (.inr (.inl rfl)) with h | h
    · exact absurd h lcr
    · exact s2.free h
  have T3 := hT.same s3
  have A3 := s3 _ _ hla
  have S3 : Same H H3 := fun b o e => s3 _ _ (keep b o e).1
  refine ⟨by simp [sizeLine_eq], fun lw nlw => ?_⟩
  have s4 := same_upd (o := HO.lst []) nlw
  have elw : (upd H3 lw (.lst [])) lw = some (.lst (([] : List Addr).map V.ref)) := upd_same
  have R4 := hR.same s4
  have lcw : lc ≠ lw := ne_of_none hR.cl nlw
  have mne : ∀ b, foot m am M b → b ≠ lw ∧ b ≠ lc := fun b h => by
    obtain ⟨o, e⟩ := T3.tab.has h
    obtain ⟨o1, e1⟩ := hT.tab.has h
    exact ⟨ne_of_none e nlw, ne_of_none e1 nlc⟩
  have lane : la ≠ lw ∧ la ≠ lc := ⟨ne_of_none A3 nlw, ne_of_none hla nlc⟩
  have rne : ∀ b, footR r ds as lc [] (scenes M) b → b ≠ lw := fun b h => by
    obtain ⟨o, e⟩ := hR.has h
    exact ne_of_none e nlw
  obtain ⟨LS, hLS, kLS⟩ := seq_keep hS
  have lsn : ∀ y ∈ LS, H3 y.1 = some y.2 ∧ y.1 ≠ lc := fun y hy => ⟨S3 _ _ (hLS y hy), ne_of_none (keep _ _ (hLS y hy)).1 nlc⟩
  have A4 := s4 _ _ A3
  have K4 : ∀ b o, H3 b = some o → b ≠ lc → (upd H3 lw (.lst [])) b = some o := fun b o e _ => s4 _ _ e
  generalize upd H3 lw (.lst []) = H4 at s4 elw R4 A4 K4
  have keep0 := keep
  clear keep
  have S4 : SqL K H4 a (ns.map V.int) := kLS _ fun y hy => s4 _ _ (lsn y hy).1
  obtain ⟨hi, ehi, hh1, hh2⟩ : ∃ hi : Int, (if ((ns.map V.int).length : Int) - fi < 20 then ((ns.map V.int).length : Int) - fi else 20) = hi ∧ hi ≤ 20 ∧ (0 ≤ hi ∧ hi ≤ (ns.length : Int) - fi) := by
    refine ⟨_, rfl, ?_, ?_, ?_⟩ <;> rw [List.length_map] <;> split <;> omega
  refine ⟨_, rfl, a, _, rfl, .inl S4, _, rfl, _, _, rfl, rfl, _, _, rfl, ?_⟩
  rw [ehi]
  refine ⟨10, hi, rfl, ⟨by omega, by omega, by omega, by omega⟩, for_range (fun j σ H' => ∃ since v9 v10 v11 ts cs tl, σ = [some (.ref a), some (.int fi), some (.ref p), some (.ref m), some (.ref la), some (.ref lb), some (.ref r), some (.ref lw), some (.int since), v9, v10, v11, none, none, none, none, none, none] ∧ RunAt K (lamps6 c0) H' r ds as lc ts (scenes M) cs ∧ H' la = some (.lst ((lamps6 c0).map V.str)) ∧ H' lw = some (.lst (tl.map V.ref)) ∧ CallsAt H' tl cs ∧ cs.length = j ∧ (0 ≤ since ∧ since ≤ 9000 * (j : Int)) ∧ (∀ c ∈ cs, c.2 ≤ since) ∧ ∀ b o, H3 b = some o → b ≠ lc → H' b = some o) ⟨0, none, none, none, [], [], [], rfl, R4, A4, elw, .nil, rfl, ⟨Int.le_refl 0, by omega⟩, fun c h => (by cases h), K4⟩ ?_ ?_⟩
  · rintro j σ H9 hj ⟨since, v9, v10, v11, ts, cs, tl, rfl, hR, hA, hw, hC, hlen, ⟨hs0, hs1⟩, hle, keep⟩
    have hM : TabAt RcM none H9 m am M := T3.tab.frame fun b o h e => keep b o e (mne b h).2
    have hj' : (j : Int) < hi - 10 := by omega
    obtain ⟨v, hv, ha⟩ := at_in (xs := ns.map V.int) (i := fi + (10 + (j : Int))) (n := (ns.map V.int).length) rfl (by omega) (by rw [List.length_map]; omega)
    obtain ⟨c, _, rfl⟩ := List.mem_map.mp hv
    refine ⟨_, rfl, _, rfl, _, rfl, _, _, rfl, rfl, _, _, _, _, rfl, rfl, kLS _ (fun y hy => keep _ _ (lsn y hy).1 (lsn y hy).2), ha, _, rfl, _, _, rfl, rfl, _, _, rfl, c, _, rfl, rfl, ?_⟩
    clear ha hv
    have hm0 := (mixed_nn c (600 + (10 + (j : Nat)))).1
    generalize mixed c (600 + (10 + (j : Nat))) = mx at hm0 ⊢
    have hj : j < 20 := by omega
    -- the moment
    refine ⟨_, rfl, _, rfl, _, _, rfl, rfl, ⟨by decide, by decide⟩, _, _, rfl, rfl, by simp, _, rfl, _, _, rfl, rfl, ⟨by decide, by decide⟩, _, _, rfl, rfl, by simp, by simp [sizeLine_eq], fun p1 n1 => ?_⟩
    have s1' := same_upd (o := HO.lst [V.int 0, .int 1, .int (mx / 20 % 40), .int (mx / 20 % 9000)]) n1
    obtain ⟨v, hv, ha⟩ := at_in (xs := [V.int 0, .int 1, .int (mx / 20 % 40), .int (mx / 20 % 9000)]) (i := mx / 5 % 4) (n := 4) rfl (by omega) (by omega)
    obtain ⟨z, rfl, hz0, hz1⟩ : ∃ z, v = .int z ∧ 0 ≤ z ∧ z ≤ 9000 := by
      simp only [List.mem_cons, List.not_mem_nil, or_false] at hv
      rcases hv with rfl | rfl | rfl | rfl
      · exact ⟨_, rfl, by omega, by omega⟩
      · exact ⟨_, rfl, by omega, by omega⟩
      · exact ⟨_, rfl, by omega, by omega⟩
      · exact ⟨_, rfl, by omega, by omega⟩
    refine ⟨_, rfl, _, _, rfl, rfl, ⟨by decide, by decide⟩, _, _, rfl, rfl, by simp, _, _, _, _, rfl, rfl, .inl (.inl upd_same), ha, _, _, rfl, rfl, ?_⟩
    have hR := hR.same s1'
    have hM := hM.same s1'
    have keep := fun b o e n => s1' b o (keep b o e n)
    have hA := s1' _ _ hA
    have hw := s1' _ _ hw
    have hC : CallsAt (upd H9 p1 (.lst [V.int 0, .int 1, .int (mx / 20 % 40), .int (mx / 20 % 9000)])) tl cs := paired_imp (fun _ _ h => s1' _ _ h) hC
    generalize upd H9 p1 (.lst [V.int 0, .int 1, .int (mx / 20 % 40), .int (mx / 20 % 9000)]) = HA at hR hM hA hw hC keep
    clear s1' n1 ha hv
    have hs2 : 0 ≤ since + z ∧ since + z ≤ 9000 * ((j : Int) + 1) := by omega
    have hle2 : ∀ c ∈ cs, c.2 ≤ since + z := fun c h => by have := hle c h; omega
    -- the number
    obtain ⟨kvs8, hd8, tk8⟩ := hM.top
    have hd8 : HA m = some (.dK kvs8) := hd8
    obtain ⟨ks8, hk8, _, _⟩ := tk8.keys
    have tl8 := tk8.len g.srt
    have hpos : 0 < M.length := List.length_pos_iff.mpr hne
    refine ⟨_, rfl, m, kvs8, ks8, rfl, .inl hd8, hk8, fun ys l hp1 hp2 nl => ?_⟩
    rw [tk8.sorted g.srt hk8 hp1 hp2]
    have sN := same_upd (o := HO.lst ((M.map (·.1)).map V.int)) nl
    have kpos : (0 : Int) < (kvs8.length : Int) := by omega
    obtain ⟨nv, hnv, ha⟩ := at_in (xs := (M.map (·.1)).map V.int) (i := mx / 7 % (kvs8.length : Int)) (n := kvs8.length) (by simp [tl8]) (Int.emod_nonneg _ (by omega)) (Int.emod_lt_of_pos _ kpos)
    obtain ⟨k0, hk0, rfl⟩ := List.mem_map.mp hnv
    refine ⟨_, rfl, _, _, rfl, rfl, ⟨by decide, by decide⟩, _, rfl, m, kvs8, rfl, .inl (sN _ _ hd8), _, _, rfl, rfl, kpos, _, _, _, _, rfl, rfl, .inl (.inl upd_same), ha, ?_⟩
    have hR := hR.same sN
    have hM := hM.same sN
    have keep := fun b o e n => sN b o (keep b o e n)
    have hA := sN _ _ hA
    have hw := sN _ _ hw
    have hC : CallsAt (upd HA l (.lst ((M.map (·.1)).map V.int))) tl cs := paired_imp (fun _ _ h => sN _ _ h) hC
    generalize upd HA l (.lst ((M.map (·.1)).map V.int)) = HB at hR hM hA hw hC keep
    clear sN nl ha hnv tl8 kpos hp1 hp2 hk8 tk8 hd8
    obtain ⟨cu, hcu⟩ := get_some_iff.mpr hk0
    have hsc : ∃ s, get (scenes M) k0 = some s := ⟨_, by rw [get_scenes, hcu]; rfl⟩
    obtain ⟨s0, hs0'⟩ := hsc
    have hdue : dueC (scenes M) cs (.int k0) (.int (since + z)) = "" := by
      rw [dueC_some (show cueOf (scenes M) (.int k0) = some s0 from hs0')]
      have hm : momentOk cs (.int (since + z)) = true := by
        unfold momentOk
        rw [whole_of (by omega : (0 : Int) ≤ (since + z) ∧ (since + z) ≤ 1000000000)]
        cases h : cs.getLast? with
        | none => rfl
        | some d =>
          have := hle2 d (List.mem_of_getLast? h)
          simpa using this
      rw [if_neg (by rw [hm]; simp), if_neg (by omega)]
    obtain ⟨dx, ob⟩ := hR.ob
    refine ⟨_, rfl, _, dx, _, rfl, ob, runF_no (by decide +kernel) (by decide +kernel), _, rfl, _, rfl, ?_⟩
    refine ⟨_, _, _, rfl, r, ds, as, lc, ts, scenes M, cs, _, rfl, hR, trivial, trivial, fun h => absurd (hdue.symm.trans h) (s_diff (by decide +kernel)), fun h => absurd (hdue.symm.trans h) (s_diff (by decide +kernel)), fun h => absurd (hdue.symm.trans h) (s_diff (by decide +kernel)), fun _ k1 i1 HC tn e1 e2 R' kp ntn => ?_⟩
    cases e1
    cases e2
    have hM := (hM.frame fun b o h e => kp b o e (mne b h).2 : TabAt RcM none HC m am M)
    have hA := kp _ _ hA lane.2
    have keep : ∀ b o, H3 b = some o → b ≠ lc → HC b = some o := fun b o e n => kp b o (keep b o e n) n
    have hw := kp _ _ hw lcw.symm
    have hC : CallsAt HC tl cs := paired_imp (fun _ _ h => kp _ _ h fun z => by rw [z, hR.cl] at h; cases h) hC
    clear kp ntn hR ob dx
    -- told to the law's own list
    refine ⟨_, rfl, .inl ⟨rfl, _, .inl (.inl hw)⟩, _, rfl, _, rfl, by simp [sizeLine_eq], fun t2 nt2 => ?_⟩
    have st := same_upd (o := HO.tup [.int k0, .int (since + z)]) nt2
    have tne : t2 ≠ lw := (ne_of_none hw nt2).symm
    have el : (tl.map V.ref).length = cs.length := by rw [List.length_map]; exact paired_len hC
    refine ⟨lw, _, _, rfl, rfl, st _ _ hw, by rw [el, sizeLine_eq]; omega, ?_⟩
    have kp : ∀ b o, HC b = some o → b ≠ lw → (upd (upd HC t2 (.tup [.int k0, .int (since + z)])) lw (.lst (tl.map V.ref ++ [.ref t2]))) b = some o := fun b o e ne => by rw [upd_ne ne]; exact st _ _ e
    have hw2 : (upd (upd HC t2 (.tup [.int k0, .int (since + z)])) lw (.lst (tl.map V.ref ++ [.ref t2]))) lw = some (.lst ((tl ++ [t2]).map V.ref)) := by rw [upd_same, List.map_append]; rfl
    have et2 : (upd (upd HC t2 (.tup [.int k0, .int (since + z)])) lw (.lst (tl.map V.ref ++ [.ref t2]))) t2 = some (.tup [.int k0, .int (since + z)]) := by rw [upd_ne tne]; exact upd_same
    generalize upd (upd HC t2 (.tup [.int k0, .int (since + z)])) lw (.lst (tl.map V.ref ++ [.ref t2])) = HD at kp hw2 et2
    have hCD : CallsAt HD (tl ++ [t2]) (cs ++ [(k0, (since + z))]) := paired_snoc (paired_imp (fun _ _ h => kp _ _ h fun z => by rw [z, hw] at h; cases h) hC) et2
    have RD : RunAt K (lamps6 c0) HD r ds as lc (ts ++ [tn]) (scenes M) (cs ++ [(k0, (since + z))]) := R'.frame fun b o h e => kp b o e fun z => by
      rcases h with h | h | h | h
      · exact rne b (.inl h) z
      · exact rne b (.inr (.inl h)) z
      · obtain ⟨y, _, e2⟩ := paired_memL R'.ct h
        rw [z, hw] at e2; cases e2
      · exact rne b (.inr (.inr (.inr h))) z
    have keepD : ∀ b o, H3 b = some o → b ≠ lc → HD b = some o := fun b o e n => kp b o (keep b o e n) (ne_of_none e nlw)
    have MD : TabAt RcM none HD m am M := hM.frame fun b o h e => kp b o e (mne b h).1
    have AD := kp _ _ hA lane.1
    refine ⟨_, rfl, _, rfl, _, rfl, _, rfl, _, rfl, _, _, rfl, rfl, ⟨by decide, by decide⟩, _, _, rfl, rfl, by simp, _, rfl, _, _, rfl, rfl, ⟨by decide, by decide⟩, _, _, rfl, rfl, by simp, by simp [sizeLine_eq], fun gp ngp => ?_⟩
    have sg := same_upd (o := HO.tup [.int (mx / 11 % 50), .int (mx / 13 % 6100)]) ngp
    refine ⟨_, _, _, _, _, rfl, r, ds, as, lc, _, _, m, am, M, la, lw, tl ++ [t2], cs, (k0, since + z), gp, mx / 11 % 50, mx / 13 % 6100, rfl, rfl, rfl, rfl, rfl, RD.same sg, MD.same sg, g, lamps6_nodup _, sg _ _ AD, sg _ _ hw2, paired_imp (fun _ _ h => sg _ _ h) hCD, upd_same, by omega, by omega, hs2.1, (by show since + z + mx / 11 % 50 + mx / 13 % 6100 ≤ 1000000000; omega), fun HE sE => ⟨_, rfl, iteF ?_⟩⟩
    have sDE := sg.trans sE
    exact ⟨since + z, _, _, _, ts ++ [tn], cs ++ [(k0, since + z)], tl ++ [t2], rfl, RD.same sDE, sDE _ _ AD, sDE _ _ hw2, paired_imp (fun _ _ h => sDE _ _ h) hCD, by rw [List.length_append, hlen]; rfl, ⟨hs2.1, by have := hs2.2; omega⟩, fun x hx => (by
      rcases List.mem_append.mp hx with h | h
      · exact hle2 x h
      · rw [List.mem_singleton.mp h]; exact Int.le_refl _), fun b o e n => sDE _ _ (keepD b o e n)⟩
  · rintro σ H9 ⟨since, v9, v10, v11, ts, cs, tl, rfl, hR, hA, hw, hC, hlen, ⟨hs0, hs1⟩, hle, keep⟩
    have S9 : Same H H9 := fun b o e => keep b o (S3 b o e) (ne_of_none (keep0 b o e).1 nlc)
    refine ⟨_, rfl, by simp [sizeLine_eq], fun e ne => ?_⟩
    have se := same_upd (o := HO.lst []) ne
    refine eqD_nil (dat_lstD (K := K) (.inl (.inl (se _ _ hw))) (calls_dat (K := K) (paired_imp (fun _ _ h => se _ _ h) hC))) upd_same (by decide) ⟨_, rfl, ?_⟩
    have RA := hR.same se
    have SA := S9.trans se
    obtain ⟨dx, ob⟩ := RA.ob
    cases cs with
    | nil =>
      refine iteY rfl ⟨_, rfl, _, dx, _, rfl, ob, runF_no (by decide +kernel) (by decide +kernel), _, rfl, r, ds, as, lc, _, _, _, _, rfl, RA, fun _ HA sA => ⟨rfl, _, rfl, iteT ?_⟩, fun c sc h => by cases h⟩
      have RB := RA.same sA
      have hn : since ≤ 1000000000 := by
        have e0 : (0 : Nat) = (hi - 10).toNat := hlen
        rw [← e0] at hs1
        have : since ≤ 9000 * ((0 : Nat) : Int) := hs1
        omega
      refine ⟨_, rfl, _, dx, _, rfl, sA _ _ ob, runF_no (by decide +kernel) (by decide +kernel), _, rfl, _, _, rfl, r, ds, as, lc, _, _, _, _, rfl, RB, trivial, fun h => absurd h (by rw [whole_of ⟨hs0, hn⟩]; simp), fun i ei _ _ HB w' ls sB nw hF _ hL => ?_⟩
      have hls : ls = [] := by
        cases ls with
        | nil => rfl
        | cons a r =>
          have := (hL a).mp List.mem_cons_self
          exact absurd this (by show ¬ (0 : Int) < 0; decide)
      subst hls
      obtain ⟨kvs0, ew, pw⟩ := hF
      cases pw
      intro e0 ne0
      have se0 := same_upd (o := HO.dK []) ne0
      exact ⟨w', e0, [], rfl, rfl, se0 _ _ ew, upd_same, q _ (SA.trans (sA.trans (sB.trans se0)))⟩
    | cons c0' cr =>
      refine iteN rfl ?_
      obtain ⟨pre, cl, ecs⟩ : ∃ pre cl, c0' :: cr = pre ++ [cl] := by
        obtain ⟨l', b, h⟩ := (List.eq_nil_or_concat (c0' :: cr)).resolve_left (List.cons_ne_nil _ _)
        exact ⟨l', b, by rw [h, List.concat_eq_append]⟩
      rw [ecs] at hC RA hle
      have wA := se _ _ hw
      have AA := se _ _ hA
      have CA : CallsAt (upd H9 e (.lst [])) tl (pre ++ [cl]) := paired_imp (fun _ _ h => se _ _ h) hC
      have kA : ∀ b o, H3 b = some o → b ≠ lc → (upd H9 e (.lst [])) b = some o := fun b o h n => se _ _ (keep b o h n)
      have PA : PlayAt K (lamps6 c0) (upd H9 e (.lst [])) p d ap M := T3.play.frame fun b o h e' => kA b o e' (by
        obtain ⟨o1, e1⟩ := hT.play.has h
        exact ne_of_none e1 nlc)
      have MA : TabAt RcM none (upd H9 e (.lst [])) m am M := T3.tab.frame fun b o h e' => kA b o e' (mne b h).2
      generalize upd H9 e (.lst []) = HA at SA RA wA AA CA kA PA MA ob
      refine ⟨_, rfl, fun r2 dr2 nr2 ndr2 _ => ?_⟩
      have sM : Same HA (upd (upd HA dr2 (.own r2)) r2 (.ins (He.ga K "Run") dr2 [])) := fun b o e => by rw [upd_ne (ne_of_none e nr2), upd_ne (ne_of_none e ndr2)]; exact e
      refine ⟨_, _, rfl, r2, dr2, p, d, ap, M, _, rfl, rfl, upd_same, PA.same sM, fun h => ?_, fun HB ds2 as2 lc2 hR2 kp2 fr2 => ⟨rfl, ?_⟩⟩
      · obtain ⟨o, e'⟩ := PA.has h
        rw [nr2] at e'; cases e'
      have sB : Same HA HB := fun b o e' => kp2 b o (sM _ _ e') (ne_of_none e' nr2)
      have lc2r : lc2 ≠ r2 := fun z => by
        obtain ⟨dx, e⟩ := hR2.ob
        rw [← z, hR2.cl] at e; cases e
      have nlc2 : HA lc2 = none := by
        rcases fr2 lc2 (.inr (.inl rfl)) with h | h
        · exact absurd h lc2r
        · exact sM.free h
      obtain ⟨tl0, tt, rfl, hCt0, ett⟩ := calls_snoc CA
      have hat : atI ((tl0 ++ [tt]).map V.ref) (-1) = some (V.ref tt) := at_last (by rw [List.map_append]; simp)
      obtain ⟨dx2, ob2⟩ := hR2.ob
      obtain ⟨⟨s0, hs0'⟩, _⟩ := RA.cs.ok cl (List.mem_append.mpr (.inr List.mem_cons_self))
      have hdue : dueC (scenes M) [] (.int cl.1) (.int 5) = "" := by
        rw [dueC_some (show cueOf (scenes M) (.int cl.1) = some s0 from hs0')]
        rfl
      refine ⟨_, rfl, _, dx2, _, rfl, ob2, runF_no (by decide +kernel) (by decide +kernel), _, rfl, _, rfl, _, _, _, _, rfl, rfl, .inl (.inl (sB _ _ wA)), hat, _, _, _, _, rfl, rfl, .inl (.inl (sB _ _ ett)), ix2_0 _ _, ?_⟩
      refine ⟨_, _, _, rfl, r2, ds2, as2, lc2, [], scenes M, [], _, rfl, hR2, trivial, trivial, fun h => absurd (hdue.symm.trans h) (s_diff (by decide +kernel)), fun h => absurd (hdue.symm.trans h) (s_diff (by decide +kernel)), fun h => absurd (hdue.symm.trans h) (s_diff (by decide +kernel)), fun _ k1 i1 HC tn e1 e2 R2 kp3 ntn => ?_⟩
      cases e1
      cases e2
      have sAC : Same HA HC := fun b o e' => kp3 b o (sB _ _ e') (ne_of_none e' nlc2)
      have RC := RA.same sAC
      have MC := MA.same sAC
      have AC := sAC _ _ AA
      have WC := sAC _ _ wA
      have TC := sAC _ _ ett
      have lm := lamps6_len c0
      refine ⟨_, rfl, la, rfl, ⟨_, .inl (.inl AC)⟩, fun D nD => ?_⟩
      refine lc_rel (walk_list (K := K) (a := la) (xs := (lamps6 c0).map V.str)) nD yes (fun x z H => ∃ t l, x = V.str l ∧ z = V.ref t ∧ H t = some (.tup [.int (lev M cl.1 l), .int 1])) ?_ ?_ (fun _ => rfl) (fun H5 s5 => .inl (.inl (s5 _ _ AC))) (fun x _ H _ Q' k => tt_yes x k) ?_ ?_
      · rintro x y H1 H2 nl' ⟨t, z, rfl, rfl, h⟩
        exact ⟨t, z, rfl, rfl, nl' _ _ (fun _ z => by cases z) h⟩
      · rw [List.length_map, lm, sizeLine_eq]; omega
      · intro y hy _ H5 s5 Q' kk
        obtain ⟨z, hz, rfl⟩ := List.mem_map.mp hy
        exact ⟨_, rfl, _, rfl, _, rfl, _, _, _, _, rfl, rfl, .inl (.inl (s5 _ _ WC)), hat, _, _, _, _, rfl, rfl, .inl (.inl (s5 _ _ TC)), ix2_0 _ _, _, rfl, _, _, _, rfl, none, m, am, M, _, cl.1, z, rfl, rfl, rfl, MC.same s5, g, fun H6 s6 => ⟨by simp [sizeLine_eq], fun t nt => kk _ _ (s6.trans (same_upd nt)) ⟨t, z, rfl, rfl, upd_same⟩⟩⟩
      intro HH zs sH hD hp
      rw [filter_yes] at hp
      obtain ⟨gl, rfl, hF⟩ := goals_of hp
      have sAH := sAC.trans sH
      have RH := RA.same sAH
      have R2H := R2.same sH
      obtain ⟨dxh, obh⟩ := RH.ob
      obtain ⟨dxg, obg⟩ := R2H.ob
      refine ⟨_, rfl, _, rfl, _, dxh, _, rfl, obh, runF_no (by decide +kernel) (by decide +kernel), _, rfl, r, ds, as, lc, _, _, _, _, rfl, RH, fun h => (by simp at h), fun c2 sc2 h1 h2 m2 h3 h4 h5 HI sI => ⟨by simp [sizeLine_eq], fun t1 n1 => ?_⟩⟩
      obtain ⟨rfl, E1⟩ := ends_of h1 h2 h3 h4 h5
      have st1 := same_upd (o := HO.tup [.ref r, .int (c2.2 + m2)]) n1
      have et1 : (upd HI t1 (.tup [.ref r, .int (c2.2 + m2)])) t1 = some (.tup [.ref r, .int (c2.2 + m2)]) := upd_same
      have sHJ := sI.trans st1
      generalize upd HI t1 (.tup [.ref r, .int (c2.2 + m2)]) = HJ at et1 sHJ
      clear st1 n1
      refine ⟨_, rfl, _, rfl, _, dxh, _, rfl, sHJ _ _ obh, runF_no (by decide +kernel) (by decide +kernel), _, rfl, r, ds, as, lc, _, _, _, _, rfl, RH.same sHJ, fun h => (by simp at h), fun c3 sc3 i1 i2 m3 i3 i4 i5 HK sK => ⟨_, _, rfl, rfl, by simp [sizeLine_eq], fun t2 n2 => ?_⟩⟩
      obtain ⟨rfl, E2⟩ := ends_of i1 i2 i3 i4 i5
      obtain rfl := E1.uniq E2
      have st2 := same_upd (o := HO.tup [.ref r, .int (c3.2 + m2 + 9000)]) n2
      have et2 : (upd HK t2 (.tup [.ref r, .int (c3.2 + m2 + 9000)])) t2 = some (.tup [.ref r, .int (c3.2 + m2 + 9000)]) := upd_same
      have sJL := sK.trans st2
      generalize upd HK t2 (.tup [.ref r, .int (c3.2 + m2 + 9000)]) = HL at et2 sJL
      clear st2 n2
      have sHL := sHJ.trans sJL
      refine ⟨_, rfl, _, rfl, _, dxg, _, rfl, sHL _ _ obg, runF_no (by decide +kernel) (by decide +kernel), _, rfl, r2, ds2, as2, lc2, _, _, _, _, rfl, R2H.same sHL, fun h => (by simp at h), fun c4 sc4 j1 j2 m4 j3 j4 j5 HM sM2 => ⟨by simp [sizeLine_eq], fun t3 n3 => ?_⟩⟩
      obtain ⟨rfl, E3⟩ := ends_of (pre := []) j1 j2 j3 j4 j5
      have st3 := same_upd (o := HO.tup [.ref r2, .int (5 + m4)]) n3
      have et3 : (upd HM t3 (.tup [.ref r2, .int (5 + m4)])) t3 = some (.tup [.ref r2, .int (5 + m4)]) := upd_same
      have sLN := sM2.trans st3
      generalize upd HM t3 (.tup [.ref r2, .int (5 + m4)]) = HN at et3 sLN ⊢
      have sHN := sHL.trans sLN
      have hgo : ∀ sc, get (scenes M) c3.1 = some sc → ∀ l, goalOf sc l = lev M c3.1 l := fun sc hs l => by
        have hs2 := hs
        rw [get_scenes] at hs2
        obtain ⟨cu, hcu, _⟩ := Option.map_eq_some_iff.mp hs2
        obtain ⟨sc', h', e', _⟩ := goal_scene g hcu l
        rw [hs] at h'
        cases h'; exact e'
      have gS := scenes_good g
      have okg : ∀ l ∈ lamps6 c0, ∃ m, FOk m (lev M c3.1 l, 1) := fun l _ => ⟨1, fok_goal (by
        have := goal_rng gS E1.get l
        rw [hgo _ E1.get] at this
        exact this)⟩
      have m6 := E1.le gS
      have m0 := E1.nn
      have k6 := E3.le gS
      have k0 := E3.nn
      have cb := (RA.cs.ok c3 (List.mem_append.mpr (.inr List.mem_cons_self))).2
      have cb2 := hle c3 (List.mem_append.mpr (.inr List.mem_cons_self))
      refine ⟨by simp [sizeLine_eq], fun le nle => ?_⟩
      have sle := same_upd (o := HO.lst [V.ref t1, .ref t2, .ref t3]) nle
      have ele : (upd HN le (.lst [V.ref t1, .ref t2, .ref t3])) le = some (.lst [V.ref t1, .ref t2, .ref t3]) := upd_same
      have sHO := sHN.trans sle
      have s1O := (sJL.trans sLN).trans sle
      have s2O := sLN.trans sle
      generalize upd HN le (.lst [V.ref t1, .ref t2, .ref t3]) = HX at sle ele sHO s1O s2O
      have ord1 : (pre ++ [c3]).Pairwise fun a b => a.2 ≤ b.2 := RA.cs.ord
      have hs9 : since ≤ 90000 := since_le hs1 hh1 hlen
      have bc : 0 ≤ c3.2 ∧ c3.2 ≤ 90000 := ⟨cb.1, Int.le_trans cb2 hs9⟩
      have all3 : ∀ v ∈ [V.ref t1, .ref t2, .ref t3], ∃ t rr i ds as lc ts cs, v = V.ref t ∧ HX t = some (.tup [.ref rr, .int i]) ∧ RunAt K (lamps6 c0) HX rr ds as lc ts (scenes M) cs ∧ (0 ≤ i ∧ i ≤ 1000000000) ∧ ∀ l, atP (scenes M) cs i l = (lev M c3.1 l, 1) := by
        intro v hv
        simp only [List.mem_cons, List.not_mem_nil, or_false] at hv
        rcases hv with rfl | rfl | rfl
        · exact ⟨t1, r, c3.2 + m2, ds, as, lc, ts, pre ++ [c3], rfl, s1O _ _ et1, RH.same sHO, (end_bnd bc m0 m6).1, fun l => by rw [E1.done ord1 (Int.le_refl _) l, hgo _ E1.get l]⟩
        · exact ⟨t2, r, c3.2 + m2 + 9000, ds, as, lc, ts, pre ++ [c3], rfl, s2O _ _ et2, RH.same sHO, (end_bnd bc m0 m6).2, fun l => by rw [E1.done ord1 (end_le _) l, hgo _ E1.get l]⟩
        · exact ⟨t3, r2, 5 + m4, ds2, as2, lc2, _, _, rfl, sle _ _ et3, R2H.same sHO, (end_bnd (c := 5) ⟨by decide, by decide⟩ k0 k6).1, fun l => by rw [E3.done (List.pairwise_singleton _ _) (Int.le_refl _) l, hgo _ E3.get l]⟩
      have AX := sHO _ _ (sH _ _ AC)
      have FX := hF.same sHO
      have DX := sHO _ _ hD
      have SX := SA.trans (sAH.trans sHO)
      clear et1 et2 et3 sle s1O s2O E1 E2 E3
      refine ⟨_, rfl, le, rfl, ⟨_, .inl (.inl ele)⟩, fun D2 nD2 => ?_⟩
      refine lc_it (walk_list (K := K) (a := le) (xs := [V.ref t1, .ref t2, .ref t3])) (fun j H => Same HX H ∧ ∃ bs : List Bool, H D2 = some (.lst (bs.map V.bl)) ∧ bs.length = j ∧ ∀ b ∈ bs, b = true) ⟨same_upd nD2, [], upd_same, rfl, fun b h => (by cases h)⟩ (fun i H _ pz => .inl (.inl (pz.1 _ _ ele))) ?_ ?_
      · rintro j x H0 H0' hj ⟨s0, bs, hD2, hbl, hbs⟩ ⟨rfl, hx⟩
        obtain ⟨t, rr, i, ds', as', lc', ts', cs', rfl, ht, hRR, ⟨hi0, hi1⟩, hat'⟩ := all3 x (List.mem_of_getElem? hx)
        have hj3 : j < 3 := hj
        refine ⟨t, _, rfl, .inl (.inl (s0 _ _ ht)), rfl, _, _, rfl, _, _, rfl, rfl, rfl, tt_yes V.non fun H1 s1 => iteT ?_⟩
        have s01 := s0.trans s1
        refine ⟨_, rfl, _, rfl, _, rfl, _, rfl, _, _, _, _, rfl, rr, ds', as', lc', ts', _, cs', _, la, i, D, gl, _, rfl, rfl, rfl, rfl, hRR.same s01, ⟨hi0, hi1⟩, s01 _ _ AX, lamps6_nodup _, s01 _ _ DX, FX.same s01, okg, fun H2 s2 => ?_⟩
        rw [decide_eq_true fun l _ => hat' l]
        refine ⟨bs.map V.bl, s2 _ _ (s1 _ _ hD2), by rw [List.length_map, hbl, sizeLine_eq]; omega, sm_mut (s01.trans s2) nD2, bs ++ [true], by rw [upd_same, List.map_append]; rfl, by rw [List.length_append, hbl]; rfl, fun b hb => ?_⟩
        rcases List.mem_append.mp hb with hb | hb
        · exact hbs b hb
        · exact List.mem_singleton.mp hb
      · rintro H0 ⟨s0, bs, hD2, _, hbs⟩
        refine ⟨D2, bs, rfl, .inl (.inl hD2), ?_⟩
        have eb : bs.all id = true := List.all_eq_true.mpr fun b hb => hbs b hb
        rw [eb]
        exact q _ (SX.trans s0)
end

/-! ## The law: all pieces -/
theorem rng21 {L : Int} (h0 : 0 ≤ L) : Builtin.Range.rangeSize 0 (L + 1) 21 = L / 21 + 1 := by
  unfold Builtin.Range.rangeSize
  rw [if_pos (by decide), if_pos (by omega)]
  omega
theorem sm21 {L : Int} (h0 : 0 ≤ L) (h1 : L ≤ 1000) : Builtin.Range.small 0 (L + 1) 21 = true := by
  unfold Builtin.Range.small
  rw [rng21 h0]
  simp only [Builtin.Range.rangeFitsLong, Bool.and_eq_true, Bool.or_eq_true, decide_eq_true_eq, beq_iff_eq]
  rw [if_pos (by decide), Bool.and_eq_true, decide_eq_true_eq, decide_eq_true_eq]
  omega
theorem rgc21 {L : Nat} (hl : L ≤ 63) : RgC 0 ((L : Int) + 1) 21 (L / 21 + 1) := ⟨by decide, by decide, sm21 (by omega) (by omega), by rw [rng21 (by omega)]; omega⟩
section
variable {P : Program} {w : World} {K : PySem.W.Frag} {mg : Str → Option Value} {base : Heap}
theorem sc_law : FnScope ["_law_script", "_law_first"] ["_law_script"] (defScope s_law) := ⟨rfl, rfl, rfl, by decide +kernel, rfl, by decide +kernel, by decide +kernel⟩
theorem ok_law (T : Txt K mg) {fd : FuncData} (F : FunD K "law" "law" (defArgs s_law) (defBody s_law) (defScope s_law) [] [] (He.ga K "law") fd) : FnOk P w K mg base CX0 11 (He.ga K "law") fd ["_law_script"] (spLaw K) := by
  have d__law_piece := d__law_piece (P := P) (w := w) (base := base) T
  refine F.ok sc_law len1 fun cdv A outer s H vs Q E hr h => ?_
  obtain ⟨_, rfl, a, ns, rfl, hl, hS, q⟩ := h
  have hu := hu_of hr
  refine ⟨_, PSs.nox (pss_cons (ps_for PassesOwn.never rfl (pi_range3 (by rfl) T.z_range (pa_cons pe_int (pa_cons (pe_op op_add (pe_callB call_len_seq (by rfl) T.z_len (by decide +kernel) (pa_cons (pv 0) pa_nil)) pe_int) (pa_cons pe_int pa_nil)))) (pg_name (i := 1) sc_law.nd rfl (Or.inl rfl))
    (pss_one (ps_if (pt_not (pt_val (pe_fn d__law_piece (hr.mono (by decide)) (by rfl) passL (pa_cons (pv 0) (pa_cons (pv 1) pa_nil)))))
    (pss_one (ps_ret pe_bl))
    pss_nil)))
    (pss_one (ps_ret pe_bl))), ?_⟩
  have hl : ns.length ≤ 63 := hl
  have hn : RgC 0 (((ns.map V.int).length : Int) + 1) 21 (ns.length / 21 + 1) := by rw [List.length_map]; exact rgc21 hl
  have hc : ∀ j : Nat, j < ns.length / 21 + 1 → 21 * (j : Int) ≤ ns.length := fun j hj => by omega
  refine ⟨_, rfl, a, _, rfl, .inl hS, _, _, rfl, rfl, 0, _, 21, _, rfl, hn, for_rangeC (fun j σ H' => ∃ v1, σ = [some (.ref a), v1] ∧ Same H H') ⟨none, rfl, Same.refl _⟩ ?_ ?_⟩
  · rintro j σ H1 hj ⟨v1, rfl, s1⟩
    have := hc j hj
    refine ⟨_, rfl, _, rfl, _, _, rfl, a, ns, 0 + (j : Int) * 21, rfl, rfl, ⟨by omega, by omega⟩, s1.seq hS, fun H2 s2 => ⟨_, rfl, iteF ⟨_, rfl, s1.trans s2⟩⟩⟩
  · rintro σ H1 ⟨v1, rfl, s1⟩
    exact q H1
end

end Cue
open PySem PySem.W PySem.Calls PyProof.Rows
set_option maxHeartbeats 0 in
theorem PySem.Challenge.cw_cuehall_k15_whole_runs_holds : PySem.Challenge.rw_cuehall_k15_whole_runs.Holds := by
  w_on; o_law
  refine HandSHeadRun.head_any (r := OpenLaw.row PySem.Challenge.rw_cuehall_k15_whole_runs) (q := view (OpenLaw.row PySem.Challenge.rw_cuehall_k15_whole_runs).prog [64]) (H := Cue.hk) (ob := Cue.ob) (M := 8000) (loose := Cue.loose) (d := HandSHeadRun.topDef (OpenLaw.row PySem.Challenge.rw_cuehall_k15_whole_runs).prog 64) (kwd := []) Cue.ob_eq
    (by kernel_rfl) (fun s => by kernel_rfl) Cue.run (by kernel_rfl) (by kernel_rfl) (by kernel_rfl) (by rfl) (by first | assumption | decide +kernel) (by decide +kernel) ⟨rfl, rfl, rfl, rfl, rfl, by decide +kernel⟩ ?hw ?hc
  case hw => w_witness2
  case hc =>
    refine L2.walk_ofE (l := PySem.Challenge.rw_cuehall_k15_whole_runs) (n := 63) (k := 11) (x := "_law_script") (CX := L2.CX0) rfl (by decide) (by kernel_rfl) ⟨rfl, by decide, by decide⟩ ?F (fun _ _ _ _ z => z)
    intro w mg fa h Y G hmg0
    obtain ⟨K, KX, c⟩ := Y
    have T := Cue.txt_of KX G c
    have hmg : mg ("law" : PySem.Str) = some (.ref fa) := by
      have e : (HandSHeadRun.topDef (OpenLaw.row PySem.Challenge.rw_cuehall_k15_whole_runs).prog 64).name = ("law" : PySem.Str) := by kernel_rfl
      rw [← e]
      exact hmg0
    obtain ⟨fd, F⟩ := T.d_law
    have e := hmg.symm.trans T.g_law
    cases e
    have b := L2.FunD.bindsA (ps := ["_law_script"]) F fun _ _ _ _ _ _ us hl => match us, hl with | [_], _ => rfl
    exact ⟨K, fd, Cue.spLaw K, KX, fun s v => b s [v] rfl, fun H a ns hl _ hS => ⟨_, rfl, a, ns, rfl, hl, hS, fun _ => rfl⟩, fun base hb hg => Cue.ok_law T F⟩
#print axioms PySem.Challenge.cw_cuehall_k15_whole_runs_holds

