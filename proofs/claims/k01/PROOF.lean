import PyProof.Rows.All
import Wide.All
import OpenK.AllK
import Wide.FinOn
import KE.KStateDown
import Lean
import HandS.ForMost
import HandS.ForExc
import HandS.Defaults
import HandS.IsInst
import HandS.Finally
import HandS.ListItems
import HandS.SortInts
import HandS.SortKw
import HandS.Walk
import HandS.Iter
import HandS.Text
import HandS.Head0
import HandS.Head1
import HandS.Head2
import HandS.HeadEnd
import HandS.HeadHook1
import HandS.HeadHook2
import PySem.Challenge.RW_cuehall_k01_kinds
set_option Elab.async false
set_option linter.all false
set_option maxRecDepth 100000
set_option maxHeartbeats 4000000
namespace Cue
open PySem PySem.Spec PyProof.Rows L2
/-! ## The library of this claim: rules that the hand layer lacks, defs in bundles. Own work. -/
section
variable {X : Cx}
/-! ### a def of the module, a method of a class, with all that a call wants -/
structure Def (P : Program) (w : World) (K : PySem.W.Frag) (mg : Str → Option Value) (base : Heap) (k : Nat) (x : Str) (ps : List Str) (sp : Sp) : Prop where
  ex : ∃ f fd, mg x = some (.ref f) ∧ PySem.W.keepIn K (.ref f) = true ∧ FnOk P w K mg base (L2.CX P w) k f fd ps sp ∧ Binds K fd ps []
structure MDef (P : Program) (w : World) (K : PySem.W.Frag) (mg : Str → Option Value) (base : Heap) (C : Addr) (k : Nat) (m : Str) (ps : List Str) (dvs : List V) (sp : Sp) : Prop where
  ex : ∃ f fd ds, Meth K C m f ∧ FnOk P w K mg base (L2.CX P w) k f fd ps sp ∧ Binds K fd ps ds ∧ Vals dvs ds
structure IDef (P : Program) (w : World) (K : PySem.W.Frag) (mg : Str → Option Value) (base : Heap) (f : Addr) (k : Nat) (ps : List Str) (sp : Sp) : Prop where
  ex : ∃ fd, FnOk P w K mg base (L2.CX P w) k f fd ps sp ∧ Binds K fd ps []
section
variable {k : Nat} {x m : Str} {ps : List Str} {sp : Sp} {dvs : List V} {E : XK} {p pos apos : Pos} {e o : Expr} {es : List Expr} {ta : TE} {t : TA} {C f : Addr}
theorem pe_fn (D : Def X.prog X.w X.K X.mg X.base k x ps sp) (hr : Room k X.A) (hg : Gl X x) (hx : Passes (L2.CX X.prog X.w) X E) (ha : PA X (e :: es) t)
    (hdb : (x == ("__debug__" : Str)) = false := by decide) (he : starEach (e :: es) X.env = (false, eval e X.env) :: starEach es X.env := by rfl) (hpl : (backTo pos (starEach es X.env)).any (·.1) = false := by rfl) :
    PE X (.Call (.Name x p) (e :: es) [] pos) (tCall sp [] E t) := by
  obtain ⟨f, fd, hm, hk, F, hb⟩ := D.ex
  exact pe_call F hr hg hm hk hb .nil hx ha hdb he hpl
theorem pe_mt {pl : Sem Bool} (c : Cls X.K C) (D : MDef X.prog X.w X.K X.mg X.base C k m ps dvs sp) (hr : Room k X.A) (hx : Passes (L2.CX X.prog X.w) X E) (he : PE X o ta) (ha : PA X (e :: es) t)
    (hst : starEach (e :: es) X.env = (false, eval e X.env) :: starEach es X.env := by rfl) (hpl : (backTo pos (starEach es X.env)).any (·.1) = false := by rfl)
    (ht : eval (.Call (.Attribute o m apos) (e :: es) [] pos) X.env = (do
      let ov ← eval o X.env
      standAt apos.atName
      let (f, first) ← holding [ov] (getMethod ov m pl)
      callWith pos f first (backTo pos (starEach (e :: es) X.env)) (backToKw pos (keywordEach [] X.env))) := by rfl) :
    PE X (.Call (.Attribute o m apos) (e :: es) [] pos) (tMeth C m sp dvs E ta t) := by
  obtain ⟨f, fd, ds, hm, F, hb, hd⟩ := D.ex
  exact pe_meth he c hm F hr hb hd hx ha hst hpl ht
theorem pe_mt0 {pl : Sem Bool} (c : Cls X.K C) (D : MDef X.prog X.w X.K X.mg X.base C k m ps dvs sp) (hr : Room k X.A) (hx : Passes (L2.CX X.prog X.w) X E) (he : PE X o ta)
    (ht : eval (.Call (.Attribute o m apos) [] [] pos) X.env = (do
      let ov ← eval o X.env
      standAt apos.atName
      let (f, first) ← holding [ov] (getMethod ov m pl)
      callWith pos f first (backTo pos (starEach [] X.env)) (backToKw pos (keywordEach [] X.env))) := by rfl) :
    PE X (.Call (.Attribute o m apos) [] [] pos) (tMeth C m sp dvs E ta tNil) := by
  obtain ⟨f, fd, ds, hm, F, hb, hd⟩ := D.ex
  exact pe_meth0 he c hm F hr hb hd hx ht
theorem pe_mk (M : Mk X.K C f) (D : IDef X.prog X.w X.K X.mg X.base f k ps sp) (hr : Room (k + 1) X.A) (hg : Gl X x) (hm : X.mg x = some (.ref C)) (hx : Passes (L2.CX X.prog X.w) X E) (ha : PA X (e :: es) t)
    (hdb : (x == ("__debug__" : Str)) = false := by decide) (he : starEach (e :: es) X.env = (false, eval e X.env) :: starEach es X.env := by rfl) (hpl : (backTo pos (starEach es X.env)).any (·.1) = false := by rfl) :
    PE X (.Call (.Name x p) (e :: es) [] pos) (tMake C sp [] E t) := by
  obtain ⟨fd, F, hb⟩ := D.ex
  exact pe_make M F hr hg hm hb .nil hx ha hdb he hpl
theorem pe_mk0 (M : Mk X.K C f) (D : IDef X.prog X.w X.K X.mg X.base f k ps sp) (hr : Room (k + 1) X.A) (hg : Gl X x) (hm : X.mg x = some (.ref C)) (hx : Passes (L2.CX X.prog X.w) X E)
    (hdb : (x == ("__debug__" : Str)) = false := by decide) : PE X (.Call (.Name x p) [] [] pos) (tMake C sp [] E tNil) := by
  obtain ⟨fd, F, hb⟩ := D.ex
  exact pe_make0 M F hr hg hm hb .nil hx hdb
end
/-! ### promises by the number of parameters -/
def sp1 (φ : V → Hp → VK → XK → Prop) : Sp := fun vs H Q E => ∃ a, vs = [a] ∧ φ a H Q E
def sp2 (φ : V → V → Hp → VK → XK → Prop) : Sp := fun vs H Q E => ∃ a b, vs = [a, b] ∧ φ a b H Q E
def sp3 (φ : V → V → V → Hp → VK → XK → Prop) : Sp := fun vs H Q E => ∃ a b c, vs = [a, b, c] ∧ φ a b c H Q E
def sp4 (φ : V → V → V → V → Hp → VK → XK → Prop) : Sp := fun vs H Q E => ∃ a b c d, vs = [a, b, c, d] ∧ φ a b c d H Q E
def sp5 (φ : V → V → V → V → V → Hp → VK → XK → Prop) : Sp := fun vs H Q E => ∃ a b c d e, vs = [a, b, c, d, e] ∧ φ a b c d e H Q E
theorem len1 {φ} : ∀ vs H Q E, sp1 φ vs H Q E → vs.length = 1 := by
  rintro _ _ _ _ ⟨a, rfl, _⟩; rfl
theorem len2 {φ} : ∀ vs H Q E, sp2 φ vs H Q E → vs.length = 2 := by
  rintro _ _ _ _ ⟨a, b, rfl, _⟩; rfl
theorem len3 {φ} : ∀ vs H Q E, sp3 φ vs H Q E → vs.length = 3 := by
  rintro _ _ _ _ ⟨a, b, c, rfl, _⟩; rfl
theorem len4 {φ} : ∀ vs H Q E, sp4 φ vs H Q E → vs.length = 4 := by
  rintro _ _ _ _ ⟨a, b, c, d, rfl, _⟩; rfl
theorem len5 {φ} : ∀ vs H Q E, sp5 φ vs H Q E → vs.length = 5 := by
  rintro _ _ _ _ ⟨a, b, c, d, e, rfl, _⟩; rfl
section
variable {P : Program} {w : World} {K : PySem.W.Frag} {mg : Str → Option Value} {base : Heap} {x q : Str} {st : Stmt} {N ps : List Str} {sp : Sp} {k : Nat} {f C : Addr} {dl : List V}
/-- what a def's body is to show: nothing is raised; or what is raised goes out -/
abbrev BodyN (P : Program) (w : World) (K : PySem.W.Frag) (mg : Str → Option Value) (base : Heap) (N : List Str) (q : Str) (st : Stmt) (f : Addr) (k : Nat) (sp : Sp) : Prop :=
  ∀ (cdv : Value) (A : Around) (outer : List Env) (s : Shared) (H : Hp) (vs : List V) (Q : VK) (E : XK), Room k (A.deeper (envOfC q (defScope st) s.heap.objs.size f cdv)) → sp vs H Q E →
    ∃ t, PSs (cxOf (L2.CX P w) P w K mg base N q (defScope st) f cdv A outer s H E).nox (defBody st) t ∧ t { nx := fun _ H' => Q .non H', rt := Q } (start N vs) H
abbrev BodyX (P : Program) (w : World) (K : PySem.W.Frag) (mg : Str → Option Value) (base : Heap) (N : List Str) (q : Str) (st : Stmt) (f : Addr) (k : Nat) (sp : Sp) : Prop :=
  ∀ (cdv : Value) (A : Around) (outer : List Env) (s : Shared) (H : Hp) (vs : List V) (Q : VK) (E : XK), Room k (A.deeper (envOfC q (defScope st) s.heap.objs.size f cdv)) → sp vs H Q E →
    ∃ t, PSs (cxOf (L2.CX P w) P w K mg base N q (defScope st) f cdv A outer s H E) (defBody st) t ∧ t { nx := fun _ H' => Q .non H', rt := Q } (start N vs) H
theorem BodyN.up (b : BodyN P w K mg base N q st f k sp) : BodyX P w K mg base N q st f k sp := fun cdv A outer s H vs Q E hr h => by
  obtain ⟨t, h1, h2⟩ := b cdv A outer s H vs Q E hr h
  exact ⟨t, PSs.nox h1, h2⟩
/-- how n arguments bind to n parameters -/
abbrev BindsAll (x q : Str) (st : Stmt) (ps : List Str) : Prop := ∀ (kV doc pm : Value) (an : Option Addr) (cdv ct : Value) (us : List Value), us.length = ps.length →
  bindArgs (PySem.W.fnOf x q (defArgs st) (defBody st) (defScope st) .none kV doc pm an cdv ct) ⟨us, []⟩ = pure (ps.zip us)
theorem mkDef (F : ∃ fd, FunD K x q (defArgs st) (defBody st) (defScope st) [] [] f fd) (g : mg x = some (.ref f)) (S : FnScope N ps (defScope st)) (B : BindsAll x q st ps) (len : ∀ vs H Q E, sp vs H Q E → vs.length = ps.length)
    (b : BodyX P w K mg base N q st f k sp) : Def P w K mg base (k + 1) x ps sp := by
  obtain ⟨fd, F⟩ := F
  exact ⟨f, fd, g, F.kp, F.ok S len b, F.bindsN B⟩
theorem mkM (F : ∃ fd, FunD K x q (defArgs st) (defBody st) (defScope st) [] [] f fd) (g : Meth K C x f) (S : FnScope N ps (defScope st)) (B : BindsAll x q st ps) (len : ∀ vs H Q E, sp vs H Q E → vs.length = ps.length)
    (b : BodyX P w K mg base N q st f k sp) : MDef P w K mg base C (k + 1) x ps [] sp := by
  obtain ⟨fd, F⟩ := F
  exact ⟨f, fd, [], g, F.ok S len b, F.bindsN B, .nil⟩
theorem mkI (F : ∃ fd, FunD K x q (defArgs st) (defBody st) (defScope st) [] [] f fd) (S : FnScope N ps (defScope st)) (B : BindsAll x q st ps) (len : ∀ vs H Q E, sp vs H Q E → vs.length = ps.length)
    (b : BodyX P w K mg base N q st f k sp) : IDef P w K mg base f (k + 1) ps sp := by
  obtain ⟨fd, F⟩ := F
  exact ⟨fd, F.ok S len b, F.bindsN B⟩
theorem Def.up {j : Nat} (D : Def P w K mg base k x ps sp) (h : k ≤ j) : Def P w K mg base j x ps sp := by
  obtain ⟨f, fd, a, b, F, c⟩ := D.ex
  exact ⟨f, fd, a, b, F.mono h, c⟩
end
/-! ### heaps -/
theorem same_upd {H : Hp} {p : Addr} {o : HO} (h : H p = none) : Same H (upd H p o) := fun b u e => by
  rw [upd_ne (ne_of_none e h)]; exact e
theorem sm_mut {H H' : Hp} {p : Addr} {o : HO} (e : Same H H') (h : H p = none) : Same H (upd H' p o) := fun b u z => by
  rw [upd_ne (ne_of_none z h)]; exact e b u z
theorem sm_new {H H' : Hp} {p : Addr} {o : HO} (e : Same H H') (h : H' p = none) : Same H (upd H' p o) := sm_mut e (e.free h)
theorem sm_seqT {K : PySem.W.Frag} {H H' : Hp} {a : Addr} {xs : List V} (e : Same H H') (h : SqT K H a xs) : SqT K H' a xs := by
  rcases h with (h | ⟨o, h⟩) | h
  · exact .inl (.inl (e _ _ h))
  · exact .inl (.inr ⟨o, e _ _ h⟩)
  · exact .inr h
/-! ### list + list, each only read -/
theorem op_catS : OpR X (binaryOp .Add) (fun x y H Q => ∃ l b xs zs, x = .ref l ∧ y = .ref b ∧ SqL X.K H l xs ∧ SqL X.K H b zs ∧ xs.length + zs.length ≤ sizeLine ∧ ∀ p, H p = none → Q (.ref p) (upd H p (.lst (xs ++ zs)))) := by
  intro pins s σ H x y v u Q I rx ry h
  obtain ⟨l, b, xs, zs, rfl, rfl, hl, hb, hz, q⟩ := h
  cases rx; cases ry
  obtain ⟨vs, r, pl, z⟩ := I.list hl
  obtain ⟨ws, r2, pl2, z2⟩ := I.list hb
  have n1 := r.length; have n2 := r2.length
  obtain ⟨⟨c1, d1, t1, l1⟩, k1, e1, g1, f1⟩ := pl
  obtain ⟨⟨c2, d2, t2, l2⟩, k2, e2, g2, f2⟩ := pl2
  obtain ⟨f1, h1⟩ := f1; obtain ⟨f2, h2⟩ := f2
  cases g1; cases g2; cases f1; cases f2; cases h1; cases h2
  refine concat_meets ⟨_, e1, rfl⟩ ⟨_, e2, rfl⟩ noFill_list_add seq_list_add PySem.F.slot_list_add PySem.F.entry_list_add (PySem.F.args_list_add_2 _ _) (list_addW l b _ _ k1 k2 _ _ _ _ (by rw [List.size_toArray, List.size_toArray]; omega)) ⟨e1, e2, ?_⟩
  rw [show vs.toArray ++ ws.toArray = (vs ++ ws).toArray by simp]
  exact ⟨.ref _, _, I.lnew (t' := s.toks) (r.append r2) (by rw [List.length_append]; omega), rfl, q _ I.fresh⟩
/-! ### things, and what isinstance tells of them -/
/-- a thing of no own class -/
def Pl (H : Hp) : V → Prop
  | .non => True | .bl _ => True | .int _ => True | .str z => z.length ≤ 100000 ∧ PyData.strOk z = true
  | .ref a => (∃ xs, H a = some (.lst xs)) ∨ (∃ xs, H a = some (.tup xs)) ∨ ∃ kvs, H a = some (.dK kvs)
  | _ => False
theorem Pl.same {H H' : Hp} {x : V} (e : Same H H') (h : Pl H x) : Pl H' x := by
  cases x <;> try exact h
  rcases h with ⟨xs, h⟩ | ⟨xs, h⟩ | ⟨xs, h⟩
  · exact .inl ⟨xs, e _ _ h⟩
  · exact .inr (.inl ⟨xs, e _ _ h⟩)
  · exact .inr (.inr ⟨xs, e _ _ h⟩)
def isInt : V → Bool | .int _ => true | .bl _ => true | _ => false
def isBl : V → Bool | .bl _ => true | _ => false
def isStr : V → Bool | .str _ => true | _ => false
theorem Pl.ty {K : PySem.W.Frag} {H : Hp} {x : V} (h : Pl H x) : ∃ t, TyX K H x (.type t) ∧ kitB t "int" = some (isInt x) ∧ kitB t "bool" = some (isBl x) ∧ kitB t "str" = some (isStr x) := by
  cases x with
  | non => exact ⟨_, .base .non, (show kitB "NoneType" "int" = some false by decide +kernel), (show kitB "NoneType" "bool" = some false by decide +kernel), (show kitB "NoneType" "str" = some false by decide +kernel)⟩
  | bl b => exact ⟨_, .base (.bl b), (show kitB "bool" "int" = some true by decide +kernel), (show kitB "bool" "bool" = some true by decide +kernel), (show kitB "bool" "str" = some false by decide +kernel)⟩
  | int i => exact ⟨_, .base (.int i), (show kitB "int" "int" = some true by decide +kernel), (show kitB "int" "bool" = some false by decide +kernel), (show kitB "int" "str" = some false by decide +kernel)⟩
  | str z => exact ⟨_, .base (.str z), (show kitB "str" "int" = some false by decide +kernel), (show kitB "str" "bool" = some false by decide +kernel), (show kitB "str" "str" = some true by decide +kernel)⟩
  | ref a =>
    rcases h with ⟨xs, h⟩ | ⟨xs, h⟩ | ⟨xs, h⟩
    · exact ⟨_, .base (.lst h), (show kitB "list" "int" = some false by decide +kernel), (show kitB "list" "bool" = some false by decide +kernel), (show kitB "list" "str" = some false by decide +kernel)⟩
    · exact ⟨_, .base (.tup h), (show kitB "tuple" "int" = some false by decide +kernel), (show kitB "tuple" "bool" = some false by decide +kernel), (show kitB "tuple" "str" = some false by decide +kernel)⟩
    · exact ⟨_, .base (.dK h), (show kitB "dict" "int" = some false by decide +kernel), (show kitB "dict" "bool" = some false by decide +kernel), (show kitB "dict" "str" = some false by decide +kernel)⟩
  | byt b => exact h.elim
  | flt b => exact h.elim
  | ty n => exact h.elim
/-- isinstance(x, T) of a thing -/
theorem is_int {K : PySem.W.Frag} {H : Hp} {x : V} {Q : VK} (h : Pl H x) (q : Q (.bl (isInt x)) H) : rIsi K [x, .ty "int"] H Q := by
  obtain ⟨t, a, b, _, _⟩ := h.ty (K := K)
  exact ⟨_, _, _, _, _, rfl, .ty _, a, kit_ty b, q⟩
theorem is_bool {K : PySem.W.Frag} {H : Hp} {x : V} {Q : VK} (h : Pl H x) (q : Q (.bl (isBl x)) H) : rIsi K [x, .ty "bool"] H Q := by
  obtain ⟨t, a, _, b, _⟩ := h.ty (K := K)
  exact ⟨_, _, _, _, _, rfl, .ty _, a, kit_ty b, q⟩
theorem is_str {K : PySem.W.Frag} {H : Hp} {x : V} {Q : VK} (h : Pl H x) (q : Q (.bl (isStr x)) H) : rIsi K [x, .ty "str"] H Q := by
  obtain ⟨t, a, _, _, b⟩ := h.ty (K := K)
  exact ⟨_, _, _, _, _, rfl, .ty _, a, kit_ty b, q⟩
theorem call_isInt : CallR X (.builtin "isinstance") (fun vs H Q => ∃ x, vs = [x, .ty "int"] ∧ Pl H x ∧ Q (.bl (isInt x)) H) := fun pins s σ H xs us Q I r q => by
  obtain ⟨x, rfl, h, q⟩ := q
  exact call_isi pins s σ H _ us Q I r (is_int h q)
theorem call_isBl : CallR X (.builtin "isinstance") (fun vs H Q => ∃ x, vs = [x, .ty "bool"] ∧ Pl H x ∧ Q (.bl (isBl x)) H) := fun pins s σ H xs us Q I r q => by
  obtain ⟨x, rfl, h, q⟩ := q
  exact call_isi pins s σ H _ us Q I r (is_bool h q)
theorem call_isStr : CallR X (.builtin "isinstance") (fun vs H Q => ∃ x, vs = [x, .ty "str"] ∧ Pl H x ∧ Q (.bl (isStr x)) H) := fun pins s σ H xs us Q I r q => by
  obtain ⟨x, rfl, h, q⟩ := q
  exact call_isi pins s σ H _ us Q I r (is_str h q)
theorem call_isLst : CallR X (.builtin "isinstance") (fun vs H Q => ∃ a xs, vs = [.ref a, .ty "list"] ∧ H a = some (.lst xs) ∧ Q (.bl true) H) := fun pins s σ H xs us Q I r q => by
  obtain ⟨a, ys, rfl, h, q⟩ := q
  exact call_isi pins s σ H _ us Q I r ⟨_, _, _, _, _, rfl, .ty _, .base (.lst h), kit_ty (by decide +kernel), q⟩
theorem call_isDct : CallR X (.builtin "isinstance") (fun vs H Q => ∃ a kvs, vs = [.ref a, .ty "dict"] ∧ H a = some (.dK kvs) ∧ Q (.bl true) H) := fun pins s σ H xs us Q I r q => by
  obtain ⟨a, ys, rfl, h, q⟩ := q
  exact call_isi pins s σ H _ us Q I r ⟨_, _, _, _, _, rfl, .ty _, .base (.dK h), kit_ty (by decide +kernel), q⟩
theorem call_isTup : CallR X (.builtin "isinstance") (fun vs H Q => ∃ a xs, vs = [.ref a, .ty "tuple"] ∧ H a = some (.tup xs) ∧ Q (.bl true) H) := fun pins s σ H xs us Q I r q => by
  obtain ⟨a, ys, rfl, h, q⟩ := q
  exact call_isi pins s σ H _ us Q I r ⟨_, _, _, _, _, rfl, .ty _, .base (.tup h), kit_ty (by decide +kernel), q⟩

/-! ### comprehensions: the new list, item by item -/
/-- the items of a text, of a range -/
def sgn (z : Str) : List V := z.cps.toList.map fun c => .str ⟨#[c]⟩
def rng (lo : Int) (n : Nat) : List V := (List.range n).map fun i => .int (lo + (i : Nat))
theorem walk_sgn {z : Str} : Walk (Its z) (sgn z).length (fun _ => True) (YAt (sgn z)) := by
  have e : (sgn z).length = z.cps.size := by simp [sgn]
  rw [e]
  refine ⟨fun i H hi _ => hi, fun _ _ => Nat.le_refl _, fun i H v H' hi _ y => ?_⟩
  obtain ⟨rfl, c, h1, rfl⟩ := y
  exact ⟨rfl, by simp [sgn, h1]⟩
theorem walk_rng {lo : Int} {n : Nat} : Walk (Itr lo n) (rng lo n).length (fun _ => True) (YAt (rng lo n)) := by
  have e : (rng lo n).length = n := by simp [rng]
  rw [e]
  refine ⟨fun i H hi _ => hi, fun _ _ => Nat.le_refl _, fun i H v H' hi _ y => ?_⟩
  obtain ⟨rfl, rfl⟩ := y
  exact ⟨rfl, by simp [rng, hi]⟩
theorem walk_ks {d : Addr} {o : Obj} {kvs : List (Key × V)} : Walk (Itk d o kvs) (kvs.map fun kv => kV kv.1).length (fun H => H d = some (.frz o (.dK kvs))) (YAt (kvs.map fun kv => kV kv.1)) := by
  rw [List.length_map]
  refine walk_keys.mono (fun _ h => h) fun i H x H' _ _ y => ?_
  obtain ⟨rfl, k, v, h1, rfl⟩ := y
  exact ⟨rfl, by simp [h1]⟩
theorem walk_vs {d : Addr} {o : Obj} {kvs : List (Key × V)} : Walk (Itd d o kvs) (kvs.map (·.2)).length (fun H => H d = some (.frz o (.dK kvs))) (YAt (kvs.map (·.2))) := by
  rw [List.length_map]
  refine walk_values.mono (fun _ h => h) fun i H x H' _ _ y => ?_
  obtain ⟨rfl, k, h1⟩ := y
  exact ⟨rfl, by simp [h1]⟩
/-- what a comprehension with one name wants behind its source -/
abbrev LcGoal (J : It) (g : TG) (tt : TT) (te : TE) (vs : List Nat) (σ : L2.St) (H1 : Hp) (D : Addr) (Qd : Hp → Prop) : Prop := ∃ W : Nat → Nat → Hp → Prop, (∃ m, W 0 m (upd H1 D (.lst []))) ∧ ∀ i m H, W i m H →
  (J.stop i H ∧ Qd H) ∨ (J.go i H ∧ ∃ Nx : Hp → Prop, (∀ H', Nx H' → ∃ m', m' < m ∧ W (i + 1) m' H') ∧ ∀ x H', J.yld i H x H' → g x (wipe σ vs) H' fun σ2 H2 => wipe σ2 vs = wipe σ vs ∧ tt σ2 H2 fun b H3 =>
    if b = true then te σ2 H3 fun y H4 => ∃ acc, H4 D = some (.lst acc) ∧ acc.length < sizeLine ∧ Nx (upd H4 D (.lst (acc ++ [y]))) else Nx H3)
theorem paired_snoc {α β : Type} {F : α → β → Prop} : ∀ {xs : List α} {ys : List β} {x : α} {y : β}, Paired F xs ys → F x y → Paired F (xs ++ [x]) (ys ++ [y])
  | _, _, _, _, .nil, h => .cons h .nil
  | _, _, _, _, .cons h t, h' => .cons h (paired_snoc t h')
theorem paired_len {α β : Type} {F : α → β → Prop} : ∀ {xs : List α} {ys : List β}, Paired F xs ys → xs.length = ys.length
  | _, _, .nil => rfl
  | _, _, .cons _ t => by simp [paired_len t]
theorem paired_fn {α β : Type} {g : α → β} : ∀ {xs : List α} {ys : List β}, Paired (fun x y => y = g x) xs ys → ys = xs.map g
  | _, _, .nil => rfl
  | _, _, .cons h t => by rw [h, paired_fn t]; rfl
theorem take_snoc {α : Type} {xs : List α} {i : Nat} {x : α} (h : xs[i]? = some x) : xs.take (i + 1) = xs.take i ++ [x] := by
  rw [List.take_add_one, h]; rfl
/-- all but lists are as they were -/
def NL (H H' : Hp) : Prop := ∀ b o, (∀ l, o ≠ .lst l) → H b = some o → H' b = some o
theorem Same.nl {H H' : Hp} (s : Same H H') : NL H H' := fun b o _ e => s b o e
theorem nl_upd {H : Hp} {D : Addr} {l l' : List V} (h : H D = some (.lst l)) : NL H (upd H D (.lst l')) := fun b o n e => by
  have : b ≠ D := fun z => by
    subst z
    rw [h] at e
    exact n l (Option.some.inj e).symm
  rw [upd_ne this]; exact e
theorem paired_imp {α β : Type} {F G : α → β → Prop} (h : ∀ a b, F a b → G a b) : ∀ {xs : List α} {ys : List β}, Paired F xs ys → Paired G xs ys
  | _, _, .nil => .nil
  | _, _, .cons a t => .cons (h _ _ a) (paired_imp h t)
/-- over items that stand, to one name: R tells what an element is made of its item -/
theorem lc_rel {J : It} {G : Hp → Prop} {xs : List V} (w : Walk J xs.length G (YAt xs)) {j : Nat} {tt : TT} {te : TE} {vs : List Nat} {σ : L2.St} {H1 : Hp} {D : Addr} {Qd : Hp → Prop} (nD : H1 D = none) (f : V → Bool) (R : V → V → Hp → Prop)
    (hR : ∀ x y H H', NL H H' → R x y H → R x y H') (hz : xs.length < sizeLine) (hw : ∀ x, wipe ((wipe σ vs).set j (some x)) vs = wipe σ vs) (hG : ∀ H, Same H1 H → G H)
    (ht : ∀ x ∈ xs, ∀ H, Same H1 H → ∀ Q' : Bool → Hp → Prop, (∀ H', Same H H' → Q' (f x) H') → tt ((wipe σ vs).set j (some x)) H Q')
    (he : ∀ x ∈ xs, f x = true → ∀ H, Same H1 H → ∀ Q' : VK, (∀ y H', Same H H' → R x y H' → Q' y H') → te ((wipe σ vs).set j (some x)) H Q')
    (q : ∀ H ys, Same H1 H → H D = some (.lst ys) → Paired (fun x y => R x y H) (xs.filter f) ys → Qd H) : LcGoal J (gName j) tt te vs σ H1 D Qd := by
  refine lc_it w (fun i H => Same H1 H ∧ ∃ ys, H D = some (.lst ys) ∧ Paired (fun x y => R x y H) ((xs.take i).filter f) ys) ⟨same_upd nD, [], upd_same, .nil⟩ (fun i H _ p => hG H p.1) ?_ ?_
  · rintro i x H H' hi ⟨s1, ys, hD, p⟩ ⟨rfl, hx⟩
    have hm : x ∈ xs := List.mem_of_getElem? hx
    refine ⟨hw x, ht x hm _ s1 _ fun H2 s2 => ?_⟩
    have p2 : Paired (fun x y => R x y H2) ((xs.take i).filter f) ys := paired_imp (fun a b h => hR a b _ _ (Same.nl s2) h) p
    cases e : f x with
    | false =>
      refine iteF ⟨s1.trans s2, ys, s2 _ _ hD, ?_⟩
      rw [take_snoc hx, List.filter_append, List.filter_cons, e]
      simpa using p2
    | true =>
      refine iteT (he x hm e _ (s1.trans s2) _ fun y H3 s3 r => ?_)
      have hD3 := s3 _ _ (s2 _ _ hD)
      have hl : ys.length < sizeLine := by
        rw [← paired_len p]
        exact Nat.lt_of_le_of_lt (Nat.le_trans (List.length_filter_le _ _) (by rw [List.length_take]; exact Nat.min_le_right _ _)) hz
      refine ⟨ys, hD3, hl, sm_mut ((s1.trans s2).trans s3) nD, _, upd_same, ?_⟩
      rw [take_snoc hx, List.filter_append, List.filter_cons, e]
      have n3 := nl_upd (l' := ys ++ [y]) hD3
      exact paired_snoc (paired_imp (fun a b h => hR a b _ _ n3 (hR a b _ _ (Same.nl s3) h)) p2) (hR _ _ _ _ n3 r)
  · rintro H ⟨s1, ys, hD, p⟩
    rw [List.take_length] at p
    exact q H ys s1 hD p
/-- .. where each element is a value of its item -/
theorem lc_pure {J : It} {G : Hp → Prop} {xs : List V} (w : Walk J xs.length G (YAt xs)) {j : Nat} {tt : TT} {te : TE} {vs : List Nat} {σ : L2.St} {H1 : Hp} {D : Addr} {Qd : Hp → Prop} (nD : H1 D = none) (f : V → Bool) (g : V → V)
    (hz : xs.length < sizeLine) (hw : ∀ x, wipe ((wipe σ vs).set j (some x)) vs = wipe σ vs) (hG : ∀ H, Same H1 H → G H)
    (ht : ∀ x ∈ xs, ∀ H, Same H1 H → ∀ Q' : Bool → Hp → Prop, (∀ H', Same H H' → Q' (f x) H') → tt ((wipe σ vs).set j (some x)) H Q')
    (he : ∀ x ∈ xs, f x = true → ∀ H, Same H1 H → ∀ Q' : VK, (∀ H', Same H H' → Q' (g x) H') → te ((wipe σ vs).set j (some x)) H Q')
    (q : ∀ H, Same H1 H → H D = some (.lst ((xs.filter f).map g)) → Qd H) : LcGoal J (gName j) tt te vs σ H1 D Qd :=
  lc_rel w nD f (fun x y _ => y = g x) (fun _ _ _ _ _ h => h) hz hw hG ht (fun x hm e H s Q' k => he x hm e H s Q' fun H' s' => k _ H' s' rfl) fun H ys s hD p => q H s (by rw [paired_fn p] at hD; exact hD)
/-- a comprehension without tests -/
def yes : V → Bool := fun _ => true
theorem filter_yes (xs : List V) : xs.filter yes = xs := List.filter_eq_self.mpr fun _ _ => rfl
theorem tt_yes {σ : L2.St} {H : Hp} {Q' : Bool → Hp → Prop} (x : V) (k : ∀ H', Same H H' → Q' (yes x) H') : tYes σ H Q' := k H (Same.refl H)
end

/-! ### == and != of data -/
def dV : V → PyData
  | .bl b => .bool b | .int i => .int i | .str z => .str z | _ => .none
def okV : V → Bool
  | .non => true | .bl _ => true | .int _ => true | .str z => PyData.strOk z | _ => false
section
variable {K : PySem.W.Frag} {H : Hp}
theorem dp_flat {x : V} (h : okV x = true) : Dp K H x (dV x) := by
  cases x <;> first | exact .non | exact .bl _ | exact .int _ | exact .str _ | exact absurd h (by simp [okV])
theorem dpAll_flat : ∀ {xs : List V}, (∀ x ∈ xs, okV x = true) → DpAll K H xs (xs.map dV)
  | [], _ => .nil
  | x :: r, h => .cons (dp_flat (h x List.mem_cons_self)) (dpAll_flat fun y hy => h y (List.mem_cons_of_mem _ hy))
theorem lay_flat {x : V} (h : okV x = true) : (dV x).canLay0 = true ∧ (dV x).depth ≤ 0 := by
  cases x with
  | str z => exact ⟨by simpa [dV, PyData.canLay0, okV] using h, by simp [dV, PyData.depth]⟩
  | non => exact ⟨by simp [dV, PyData.canLay0], by simp [dV, PyData.depth]⟩
  | bl b => exact ⟨by simp [dV, PyData.canLay0], by simp [dV, PyData.depth]⟩
  | int b => exact ⟨by simp [dV, PyData.canLay0], by simp [dV, PyData.depth]⟩
  | _ => exact absurd h (by simp [okV])
theorem lay_all {ds : List PyData} {n : Nat} : (∀ d ∈ ds, d.canLay0 = true ∧ d.depth ≤ n) → PyData.canLayAll0 ds = true ∧ PyData.depthAll ds ≤ n := by
  induction ds with
  | nil => intro _; exact ⟨by simp [PyData.canLayAll0], by simp [PyData.depthAll]⟩
  | cons d r ih =>
    intro h
    have h1 := h d List.mem_cons_self
    have h2 := ih fun e he => h e (List.mem_cons_of_mem _ he)
    simp only [PyData.canLayAll0, PyData.depthAll, h1.1, h2.1, Bool.and_self, true_and]
    have := h1.2; have := h2.2
    omega
theorem lay_list {ds : List PyData} {n : Nat} (h : ∀ d ∈ ds, d.canLay0 = true ∧ d.depth ≤ n) : (PyData.list ds).canLay0 = true ∧ (PyData.list ds).depth ≤ n + 1 := by
  have := lay_all h
  simp only [PyData.canLay0, PyData.depth, this.1, true_and]
  have := this.2
  omega
theorem lay_tup {ds : List PyData} {n : Nat} (h : ∀ d ∈ ds, d.canLay0 = true ∧ d.depth ≤ n) : (PyData.tuple ds).canLay0 = true ∧ (PyData.tuple ds).depth ≤ n + 1 := by
  have := lay_all h
  simp only [PyData.canLay0, PyData.depth, this.1, true_and]
  have := this.2
  omega
theorem shaped_of {d : PyData} {n : Nat} (h : d.canLay0 = true ∧ d.depth ≤ n) (hn : n ≤ 64) : SeqAt.shaped d = true := by
  simp only [SeqAt.shaped, h.1, Bool.true_and, decide_eq_true_eq]
  exact Nat.le_trans h.2 hn
/-- data at a value: told, and of a shape that == looks at -/
def Dat (K : PySem.W.Frag) (H : Hp) (x : V) (d : PyData) (n : Nat) : Prop := Dp K H x d ∧ d.canLay0 = true ∧ d.depth ≤ n
theorem dat_flat {x : V} (h : okV x = true) : Dat K H x (dV x) 0 := ⟨dp_flat h, lay_flat h⟩
theorem dat_lst {a : Addr} {xs : List V} (e : SqL K H a xs) (h : ∀ x ∈ xs, okV x = true) : Dat K H (.ref a) (.list (xs.map dV)) 1 :=
  ⟨.lst e (dpAll_flat h), lay_list fun d hd => by
    obtain ⟨x, hx, rfl⟩ := List.mem_map.mp hd
    exact lay_flat (h x hx)⟩
theorem dat_tup {a : Addr} {xs : List V} (e : SqT K H a xs) (h : ∀ x ∈ xs, okV x = true) : Dat K H (.ref a) (.tuple (xs.map dV)) 1 :=
  ⟨.tup e (dpAll_flat h), lay_tup fun d hd => by
    obtain ⟨x, hx, rfl⟩ := List.mem_map.mp hd
    exact lay_flat (h x hx)⟩
theorem dat_lstD {a : Addr} {xs : List V} {ds : List PyData} {n : Nat} (e : SqL K H a xs) (h : Paired (fun x d => Dat K H x d n) xs ds) : Dat K H (.ref a) (.list ds) (n + 1) := by
  have k : DpAll K H xs ds ∧ ∀ d ∈ ds, d.canLay0 = true ∧ d.depth ≤ n := by
    clear e
    induction h with
    | nil => exact ⟨.nil, fun d hd => by cases hd⟩
    | cons h1 _ ih => exact ⟨.cons h1.1 ih.1, fun d hd => by
        rcases List.mem_cons.mp hd with rfl | hd
        · exact h1.2
        · exact ih.2 d hd⟩
  exact ⟨.lst e k.1, lay_list k.2⟩
theorem eqD_same {x y : V} {d : PyData} {n : Nat} {Q : VK} (hx : Dat K H x d n) (hy : Dat K H y d n) (hn : n ≤ 64) (q : Q (.bl true) H) : rEqD K x y H Q := by
  refine ⟨d, d, hx.1, hy.1, shaped_of hx.2 hn, shaped_of hx.2 hn, ?_⟩
  rw [SeqAt.eqv_refl _ hx.2.1]; exact q
theorem neD_same {x y : V} {d : PyData} {n : Nat} {Q : VK} (hx : Dat K H x d n) (hy : Dat K H y d n) (hn : n ≤ 64) (q : Q (.bl false) H) : rNeD K x y H Q := by
  refine ⟨d, d, hx.1, hy.1, shaped_of hx.2 hn, shaped_of hx.2 hn, ?_⟩
  rw [SeqAt.eqv_refl _ hx.2.1]; exact q
theorem eqv_nil (ds : List PyData) : PyData.eqv (.list ds) (.list []) = ds.isEmpty := by
  cases ds <;> simp [PyData.eqv, PyData.eqvAll]
/-- .. with the empty list -/
theorem eqD_nil {x : V} {b : Addr} {ds : List PyData} {n : Nat} {Q : VK} (hx : Dat K H x (.list ds) n) (hb : H b = some (.lst [])) (hn : n ≤ 64) (q : Q (.bl ds.isEmpty) H) : rEqD K x (.ref b) H Q := by
  have hy := dat_lst (K := K) (xs := []) (.inl (.inl hb)) (fun x h => by cases h)
  refine ⟨_, _, hx.1, hy.1, shaped_of hx.2 hn, shaped_of hy.2 (by decide), ?_⟩
  rw [List.map_nil, eqv_nil]; exact q
theorem neD_nil {x : V} {b : Addr} {ds : List PyData} {n : Nat} {Q : VK} (hx : Dat K H x (.list ds) n) (hb : H b = some (.lst [])) (hn : n ≤ 64) (q : Q (.bl !ds.isEmpty) H) : rNeD K x (.ref b) H Q := by
  have hy := dat_lst (K := K) (xs := []) (.inl (.inl hb)) (fun x h => by cases h)
  refine ⟨_, _, hx.1, hy.1, shaped_of hx.2 hn, shaped_of hy.2 (by decide), ?_⟩
  rw [List.map_nil, eqv_nil]; exact q
end
/-! ### texts -/
/-- a text's signs are signs -/
theorem okS_iff {z : Str} : PyData.strOk z = true ↔ ∀ c ∈ z.cps.toList, c < 1114112 := by
  show (z.cps.all fun c => decide (c < 1114112)) = true ↔ _
  rw [← Array.all_toList, List.all_eq_true]
  simp only [decide_eq_true_eq]
theorem okS_append {a b : Str} (ha : PyData.strOk a = true) (hb : PyData.strOk b = true) : PyData.strOk (a ++ b) = true := by
  rw [okS_iff] at *
  intro c hc
  have : (a ++ b).cps.toList = a.cps.toList ++ b.cps.toList := by rw [Str.cps_append, Array.toList_append]
  rw [this] at hc
  rcases List.mem_append.mp hc with h | h
  · exact ha c h
  · exact hb c h
theorem okS_cut {z : Str} (h : PyData.strOk z = true) (lo hi : Option Int) : PyData.strOk (cutS z lo hi) = true := by
  rw [okS_iff] at *
  intro c hc
  have : c ∈ ((z.cps.toList.drop (HT.sIx z.length 0 lo)).take (HT.sIx z.length z.length hi - HT.sIx z.length 0 lo)) := by simpa [cutS] using hc
  exact h c (List.mem_of_mem_drop (List.mem_of_mem_take this))
theorem okS_join {s : Str} (hs : PyData.strOk s = true) : ∀ {ys : List Str}, (∀ y ∈ ys, PyData.strOk y = true) → PyData.strOk (Txt.join s ys) = true := by
  intro ys h
  have e : Txt.join s ys = Str.join s ys := StrLaws.glued_eq_join s ys
  rw [e]
  induction ys with
  | nil => exact okS_iff.mpr fun c hc => by simp [Str.join, Str.empty] at hc
  | cons y r ih =>
    cases r with
    | nil => exact h y List.mem_cons_self
    | cons z r => exact okS_append (okS_append (h y List.mem_cons_self) hs) (ih (fun w hw => h w (List.mem_cons_of_mem _ hw)) (StrLaws.glued_eq_join s _))
theorem okS_one {c : Nat} (h : c < 1114112) : PyData.strOk ⟨#[c]⟩ = true := by
  rw [okS_iff]; intro d hd
  have : d = c := by simpa using hd
  omega
theorem len_join (s : Str) (ys : List Str) : (Txt.join s ys).length = (ys.map (·.length)).sum + (ys.length - 1) * s.length := size_glued s ys
section
variable {X : Cx}
/-- text * number -/
theorem op_muls : OpR X (binaryOp .Mult) (fun x y H Q => ∃ (z : Str) (n : Int), x = .str z ∧ y = .int n ∧ z.length ≤ 1000 ∧ 0 ≤ n ∧ n ≤ 1000 ∧ Q (.str (Txt.mul z n)) H) := by
  intro pins s σ H x y v u Q I rx ry h
  obtain ⟨z, n, rfl, rfl, hz, h0, h1, q⟩ := h
  obtain ⟨t, rfl⟩ := rx
  obtain ⟨k, rfl⟩ := ry
  refine SB.mul ⟨?_, ?_, ?_⟩ fun t' k => ⟨.str _, H, I.tok _, ⟨_, rfl⟩, q⟩
  · simp only [Bool.or_eq_false_iff, decide_eq_false_iff_not]; omega
  · intro h2 _ h3
    have : (9223372036854775807 : Int) / 1000 ≤ (2 ^ 63 - 1) / n := by
      refine Int.le_ediv_of_mul_le (by omega) ?_
      omega
    omega
  · intro _ _
    have : z.length * n.toNat ≤ 1000 * 1000 := Nat.mul_le_mul hz (by omega)
    simp only [Builtin.Str.tooLong, decide_eq_false_iff_not, sizeLine_eq]
    omega
end

def topS (i : Nat) : Stmt := PySem.Challenge.pw_cuehall_k01_kinds.main.body.getD i (.Pass ⟨0, 0, 0, 0⟩)
abbrev s_is_whole : Stmt := topS 7
abbrev s_is_cue : Stmt := topS 8
abbrev s_is_lamp : Stmt := topS 9
abbrev s_is_level : Stmt := topS 10
abbrev s_is_fade : Stmt := topS 11
abbrev s_is_moment : Stmt := topS 12
abbrev s__law_mixed : Stmt := topS 14
abbrev s__law_whole : Stmt := topS 15
abbrev s__law_thing : Stmt := topS 16
abbrev s__law_due : Stmt := topS 17
abbrev s__law_told : Stmt := topS 18
abbrev s_law : Stmt := topS 19
abbrev ExcOk (K : PySem.W.Frag) (C : Addr) : Prop := PySem.W.excIn K C He.veBase "ValueError.__new__" = true ∧ PySem.W.keepIn K (.ref C) = true ∧ PySem.W.subIn K (.ref C) (.type "BaseException") = some true ∧ PySem.W.typeIn K (.ref C) = some (.type "type")
structure Txt (K : PySem.W.Frag) (mg : Str → Option Value) : Prop where
  g_is_whole : mg "is_whole" = some (.ref (He.ga K "is_whole"))
  g_is_cue : mg "is_cue" = some (.ref (He.ga K "is_cue"))
  g_is_lamp : mg "is_lamp" = some (.ref (He.ga K "is_lamp"))
  g_is_level : mg "is_level" = some (.ref (He.ga K "is_level"))
  g_is_fade : mg "is_fade" = some (.ref (He.ga K "is_fade"))
  g_is_moment : mg "is_moment" = some (.ref (He.ga K "is_moment"))
  g__law_mixed : mg "_law_mixed" = some (.ref (He.ga K "_law_mixed"))
  g__law_whole : mg "_law_whole" = some (.ref (He.ga K "_law_whole"))
  g__law_thing : mg "_law_thing" = some (.ref (He.ga K "_law_thing"))
  g__law_due : mg "_law_due" = some (.ref (He.ga K "_law_due"))
  g__law_told : mg "_law_told" = some (.ref (He.ga K "_law_told"))
  g_law : mg "law" = some (.ref (He.ga K "law"))
  z_isinstance : mg "isinstance" = none
  z_int : mg "int" = none
  z_bool : mg "bool" = none
  z_str : mg "str" = none
  z_len : mg "len" = none
  z_all : mg "all" = none
  z_range : mg "range" = none
  g_LETTERS : ∃ t, mg "LETTERS" = some (.str "abcdefghijklmnopqrstuvwxyz" t)
  g_LONGEST : ∃ t, mg "LONGEST" = some (.int 8 t)
  g_LAST_CUE : ∃ t, mg "LAST_CUE" = some (.int 999999 t)
  g_FULL : ∃ t, mg "FULL" = some (.int 100 t)
  g_LONGEST_FADE : ∃ t, mg "LONGEST_FADE" = some (.int 6000 t)
  g_LAST_MOMENT : ∃ t, mg "LAST_MOMENT" = some (.int 1000000000 t)
  d_is_whole : ∃ fd, FunD K "is_whole" "is_whole" (defArgs s_is_whole) (defBody s_is_whole) (defScope s_is_whole) [] [] (He.ga K "is_whole") fd
  d_is_cue : ∃ fd, FunD K "is_cue" "is_cue" (defArgs s_is_cue) (defBody s_is_cue) (defScope s_is_cue) [] [] (He.ga K "is_cue") fd
  d_is_lamp : ∃ fd, FunD K "is_lamp" "is_lamp" (defArgs s_is_lamp) (defBody s_is_lamp) (defScope s_is_lamp) [] [] (He.ga K "is_lamp") fd
  d_is_level : ∃ fd, FunD K "is_level" "is_level" (defArgs s_is_level) (defBody s_is_level) (defScope s_is_level) [] [] (He.ga K "is_level") fd
  d_is_fade : ∃ fd, FunD K "is_fade" "is_fade" (defArgs s_is_fade) (defBody s_is_fade) (defScope s_is_fade) [] [] (He.ga K "is_fade") fd
  d_is_moment : ∃ fd, FunD K "is_moment" "is_moment" (defArgs s_is_moment) (defBody s_is_moment) (defScope s_is_moment) [] [] (He.ga K "is_moment") fd
  d__law_mixed : ∃ fd, FunD K "_law_mixed" "_law_mixed" (defArgs s__law_mixed) (defBody s__law_mixed) (defScope s__law_mixed) [] [] (He.ga K "_law_mixed") fd
  d__law_whole : ∃ fd, FunD K "_law_whole" "_law_whole" (defArgs s__law_whole) (defBody s__law_whole) (defScope s__law_whole) [] [] (He.ga K "_law_whole") fd
  d__law_thing : ∃ fd, FunD K "_law_thing" "_law_thing" (defArgs s__law_thing) (defBody s__law_thing) (defScope s__law_thing) [] [] (He.ga K "_law_thing") fd
  d__law_due : ∃ fd, FunD K "_law_due" "_law_due" (defArgs s__law_due) (defBody s__law_due) (defScope s__law_due) [] [] (He.ga K "_law_due") fd
  d__law_told : ∃ fd, FunD K "_law_told" "_law_told" (defArgs s__law_told) (defBody s__law_told) (defScope s__law_told) [] [] (He.ga K "_law_told") fd
  d_law : ∃ fd, FunD K "law" "law" (defArgs s_law) (defBody s_law) (defScope s_law) [] [] (He.ga K "law") fd
def D_is_whole : He.DefD := ⟨("is_whole", none), "is_whole", "is_whole", defArgs s_is_whole, defBody s_is_whole, defScope s_is_whole, [], []⟩
def D_is_cue : He.DefD := ⟨("is_cue", none), "is_cue", "is_cue", defArgs s_is_cue, defBody s_is_cue, defScope s_is_cue, [], []⟩
def D_is_lamp : He.DefD := ⟨("is_lamp", none), "is_lamp", "is_lamp", defArgs s_is_lamp, defBody s_is_lamp, defScope s_is_lamp, [], []⟩
def D_is_level : He.DefD := ⟨("is_level", none), "is_level", "is_level", defArgs s_is_level, defBody s_is_level, defScope s_is_level, [], []⟩
def D_is_fade : He.DefD := ⟨("is_fade", none), "is_fade", "is_fade", defArgs s_is_fade, defBody s_is_fade, defScope s_is_fade, [], []⟩
def D_is_moment : He.DefD := ⟨("is_moment", none), "is_moment", "is_moment", defArgs s_is_moment, defBody s_is_moment, defScope s_is_moment, [], []⟩
def D__law_mixed : He.DefD := ⟨("_law_mixed", none), "_law_mixed", "_law_mixed", defArgs s__law_mixed, defBody s__law_mixed, defScope s__law_mixed, [], []⟩
def D__law_whole : He.DefD := ⟨("_law_whole", none), "_law_whole", "_law_whole", defArgs s__law_whole, defBody s__law_whole, defScope s__law_whole, [], []⟩
def D__law_thing : He.DefD := ⟨("_law_thing", none), "_law_thing", "_law_thing", defArgs s__law_thing, defBody s__law_thing, defScope s__law_thing, [], []⟩
def D__law_due : He.DefD := ⟨("_law_due", none), "_law_due", "_law_due", defArgs s__law_due, defBody s__law_due, defScope s__law_due, [], []⟩
def D__law_told : He.DefD := ⟨("_law_told", none), "_law_told", "_law_told", defArgs s__law_told, defBody s__law_told, defScope s__law_told, [], []⟩
def D_law : He.DefD := ⟨("law", none), "law", "law", defArgs s_law, defBody s_law, defScope s_law, [], []⟩
def fn : List He.DefD := [D_is_whole, D_is_cue, D_is_lamp, D_is_level, D_is_fade, D_is_moment, D__law_mixed, D__law_whole, D__law_thing, D__law_due, D__law_told, D_law]
def fa : List He.Fa := [.glo "is_whole", .glo "is_cue", .glo "is_lamp", .glo "is_level", .glo "is_fade", .glo "is_moment", .glo "_law_mixed", .glo "_law_whole", .glo "_law_thing", .glo "_law_due", .glo "_law_told", .glo "law", .free "isinstance", .free "int", .free "bool", .free "str", .free "len", .free "all", .free "range", .str "LETTERS" "abcdefghijklmnopqrstuvwxyz", .int "LONGEST" 8, .int "LAST_CUE" 999999, .int "FULL" 100, .int "LONGEST_FADE" 6000, .int "LAST_MOMENT" 1000000000]
def loose : List PySem.Str := ([("LETTERS" : PySem.Str), ("LONGEST" : PySem.Str), ("LAST_CUE" : PySem.Str), ("FULL" : PySem.Str), ("LONGEST_FADE" : PySem.Str), ("LAST_MOMENT" : PySem.Str), ("is_whole" : PySem.Str), ("is_cue" : PySem.Str), ("is_lamp" : PySem.Str), ("is_level" : PySem.Str), ("is_fade" : PySem.Str), ("is_moment" : PySem.Str), ("_law_mixed" : PySem.Str), ("_law_whole" : PySem.Str), ("_law_thing" : PySem.Str), ("_law_due" : PySem.Str), ("_law_told" : PySem.Str)] : List PySem.Str)
abbrev R : PySem.W.OpenRow := PySem.W.OpenLaw.row PySem.Challenge.rw_cuehall_k01_kinds
abbrev hk : PySem.W.Hook := He.hookD 5 fa fn
def ob (s : PySem.W.SharedT) : He.AlD := He.obsDG 5 fa fn (HandSHeadRun.getT s)
theorem ob_eq (s : PySem.W.SharedT) : ob s = hk.obs s.abs := He.obsDG_eq (HandSHeadRun.getT_eq s)
theorem run (w : World) : HandSHeadRun.RunEq R (PySem.W.view R.prog [19]) hk ob 4000 loose w := by
  intro os
  kernel_rfl
theorem txt_of {K : PySem.W.Frag} {h : Heap} {mg : Str → Option Value} (X : K.In h) (G : h.Ns mainGlobals mg) (c : He.SaysD fa fn K) : Txt K mg where
  g_is_whole := He.glo_ok X G (c.fact 0 rfl)
  g_is_cue := He.glo_ok X G (c.fact 1 rfl)
  g_is_lamp := He.glo_ok X G (c.fact 2 rfl)
  g_is_level := He.glo_ok X G (c.fact 3 rfl)
  g_is_fade := He.glo_ok X G (c.fact 4 rfl)
  g_is_moment := He.glo_ok X G (c.fact 5 rfl)
  g__law_mixed := He.glo_ok X G (c.fact 6 rfl)
  g__law_whole := He.glo_ok X G (c.fact 7 rfl)
  g__law_thing := He.glo_ok X G (c.fact 8 rfl)
  g__law_due := He.glo_ok X G (c.fact 9 rfl)
  g__law_told := He.glo_ok X G (c.fact 10 rfl)
  g_law := He.glo_ok X G (c.fact 11 rfl)
  z_isinstance := He.free_ok X G (c.fact 12 rfl)
  z_int := He.free_ok X G (c.fact 13 rfl)
  z_bool := He.free_ok X G (c.fact 14 rfl)
  z_str := He.free_ok X G (c.fact 15 rfl)
  z_len := He.free_ok X G (c.fact 16 rfl)
  z_all := He.free_ok X G (c.fact 17 rfl)
  z_range := He.free_ok X G (c.fact 18 rfl)
  g_LETTERS := He.str_ok X G (c.fact 19 rfl)
  g_LONGEST := He.int_ok X G (c.fact 20 rfl)
  g_LAST_CUE := He.int_ok X G (c.fact 21 rfl)
  g_FULL := He.int_ok X G (c.fact 22 rfl)
  g_LONGEST_FADE := He.int_ok X G (c.fact 23 rfl)
  g_LAST_MOMENT := He.int_ok X G (c.fact 24 rfl)
  d_is_whole := c.def_ 0 (d := D_is_whole) rfl
  d_is_cue := c.def_ 1 (d := D_is_cue) rfl
  d_is_lamp := c.def_ 2 (d := D_is_lamp) rfl
  d_is_level := c.def_ 3 (d := D_is_level) rfl
  d_is_fade := c.def_ 4 (d := D_is_fade) rfl
  d_is_moment := c.def_ 5 (d := D_is_moment) rfl
  d__law_mixed := c.def_ 6 (d := D__law_mixed) rfl
  d__law_whole := c.def_ 7 (d := D__law_whole) rfl
  d__law_thing := c.def_ 8 (d := D__law_thing) rfl
  d__law_due := c.def_ 9 (d := D__law_due) rfl
  d__law_told := c.def_ 10 (d := D__law_told) rfl
  d_law := c.def_ 11 (d := D_law) rfl
/-! ## cuehall.names -/
/-- a whole number (no truth) within two bounds -/
def wholeV (lo hi : Int) : V → Bool
  | .int i => decide (lo ≤ i) && decide (i ≤ hi)
  | _ => false
def letter (c : Nat) : Bool := decide (97 ≤ c) && decide (c ≤ 122)
/-- a lamp's name -/
def lampS (z : Str) : Bool := decide (1 ≤ z.length) && decide (z.length ≤ 8) && z.cps.toList.all letter
def lampV : V → Bool
  | .str z => lampS z
  | _ => false
section
variable {P : Program} {w : World} {K : PySem.W.Frag} {mg : Str → Option Value} {base : Heap}
def spWhole3 : Sp := sp3 fun x a b H Q _ => ∃ lo hi : Int, a = .int lo ∧ b = .int hi ∧ Pl H x ∧ Q (.bl (wholeV lo hi x)) H
def spWhole (lo hi : Int) : Sp := sp1 fun x H Q _ => Pl H x ∧ Q (.bl (wholeV lo hi x)) H
theorem sc_is_whole : FnScope ["thing", "least", "most"] ["thing", "least", "most"] (defScope s_is_whole) := ⟨rfl, rfl, rfl, by decide +kernel, rfl, by decide +kernel, by decide +kernel⟩
theorem d_is_whole (T : Txt K mg) : Def P w K mg base 1 "is_whole" ["thing", "least", "most"] (spWhole3) := by
  refine mkDef T.d_is_whole T.g_is_whole sc_is_whole (fun _ _ _ _ _ _ us hl => match us, hl with | [_, _, _], _ => rfl) len3 (BodyN.up fun cdv A outer s H vs Q E hr h => ?_)
  obtain ⟨x, _, _, rfl, lo, hi, rfl, rfl, hx, q⟩ := h
  have hu := hu_of hr
  refine ⟨_, (pss_one (ps_ret (pe_and (pe_callB call_isInt (by rfl) T.z_isinstance (by decide +kernel) (pa_cons (pv 0) (pa_cons (pe_bltn (v := .ty "int") rfl T.z_int (by decide +kernel) rfl) pa_nil))) (pe_and (pe_not (pe_callB call_isBl (by rfl) T.z_isinstance (by decide +kernel) (pa_cons (pv 0) (pa_cons (pe_bltn (v := .ty "bool") rfl T.z_bool (by decide +kernel) rfl) pa_nil)))) (pe_one (pe_chain op_le op_le (pv 1) (pv 0) (pv 2))))))), ?_⟩
  refine ⟨_, rfl, _, rfl, hx, _, rfl, ?_⟩
  cases x with
  | int i =>
    refine ⟨_, rfl, _, rfl, hx, _, rfl, _, rfl, ?_⟩
    refine ⟨_, rfl, _, rfl, _, _, rfl, rfl, _, rfl, ?_⟩
    by_cases h : lo ≤ i
    · rw [if_pos (decide_eq_true h)]
      refine ⟨_, rfl, _, _, rfl, rfl, ?_⟩
      have e : wholeV lo hi (.int i) = decide (i ≤ hi) := by simp [wholeV, h]
      rw [e] at q; exact q
    · rw [if_neg (by simpa using h)]
      have e : wholeV lo hi (.int i) = false := by simp [wholeV, h]
      rw [e] at q; exact q
  | bl b => exact ⟨_, rfl, _, rfl, hx, _, rfl, _, rfl, q⟩
  | _ => exact q
theorem sc_is_cue : FnScope ["thing"] ["thing"] (defScope s_is_cue) := ⟨rfl, rfl, rfl, by decide +kernel, rfl, by decide +kernel, by decide +kernel⟩
theorem d_is_cue (T : Txt K mg) : Def P w K mg base 2 "is_cue" ["thing"] (spWhole 1 999999) := by
  have d_is_whole := d_is_whole (P := P) (w := w) (base := base) T
  refine mkDef T.d_is_cue T.g_is_cue sc_is_cue (fun _ _ _ _ _ _ us hl => match us, hl with | [_], _ => rfl) len1 (BodyN.up fun cdv A outer s H vs Q E hr h => ?_)
  obtain ⟨x, rfl, hx, q⟩ := h
  have hu := hu_of hr
  refine ⟨_, (pss_one (ps_ret (pe_fn d_is_whole (hr.mono (by decide)) (by rfl) passL (pa_cons (pv 0) (pa_cons pe_int (pa_cons (pe_glob (v := .int 999999) rfl (T.g_LAST_CUE).choose_spec ⟨_, rfl⟩) pa_nil)))))), ?_⟩
  exact ⟨_, rfl, _, _, _, rfl, _, _, rfl, rfl, hx, q⟩
theorem sc_is_level : FnScope ["thing"] ["thing"] (defScope s_is_level) := ⟨rfl, rfl, rfl, by decide +kernel, rfl, by decide +kernel, by decide +kernel⟩
theorem d_is_level (T : Txt K mg) : Def P w K mg base 2 "is_level" ["thing"] (spWhole 0 100) := by
  have d_is_whole := d_is_whole (P := P) (w := w) (base := base) T
  refine mkDef T.d_is_level T.g_is_level sc_is_level (fun _ _ _ _ _ _ us hl => match us, hl with | [_], _ => rfl) len1 (BodyN.up fun cdv A outer s H vs Q E hr h => ?_)
  obtain ⟨x, rfl, hx, q⟩ := h
  have hu := hu_of hr
  refine ⟨_, (pss_one (ps_ret (pe_fn d_is_whole (hr.mono (by decide)) (by rfl) passL (pa_cons (pv 0) (pa_cons pe_int (pa_cons (pe_glob (v := .int 100) rfl (T.g_FULL).choose_spec ⟨_, rfl⟩) pa_nil)))))), ?_⟩
  exact ⟨_, rfl, _, _, _, rfl, _, _, rfl, rfl, hx, q⟩
theorem sc_is_fade : FnScope ["thing"] ["thing"] (defScope s_is_fade) := ⟨rfl, rfl, rfl, by decide +kernel, rfl, by decide +kernel, by decide +kernel⟩
theorem d_is_fade (T : Txt K mg) : Def P w K mg base 2 "is_fade" ["thing"] (spWhole 0 6000) := by
  have d_is_whole := d_is_whole (P := P) (w := w) (base := base) T
  refine mkDef T.d_is_fade T.g_is_fade sc_is_fade (fun _ _ _ _ _ _ us hl => match us, hl with | [_], _ => rfl) len1 (BodyN.up fun cdv A outer s H vs Q E hr h => ?_)
  obtain ⟨x, rfl, hx, q⟩ := h
  have hu := hu_of hr
  refine ⟨_, (pss_one (ps_ret (pe_fn d_is_whole (hr.mono (by decide)) (by rfl) passL (pa_cons (pv 0) (pa_cons pe_int (pa_cons (pe_glob (v := .int 6000) rfl (T.g_LONGEST_FADE).choose_spec ⟨_, rfl⟩) pa_nil)))))), ?_⟩
  exact ⟨_, rfl, _, _, _, rfl, _, _, rfl, rfl, hx, q⟩
theorem sc_is_moment : FnScope ["thing"] ["thing"] (defScope s_is_moment) := ⟨rfl, rfl, rfl, by decide +kernel, rfl, by decide +kernel, by decide +kernel⟩
theorem d_is_moment (T : Txt K mg) : Def P w K mg base 2 "is_moment" ["thing"] (spWhole 0 1000000000) := by
  have d_is_whole := d_is_whole (P := P) (w := w) (base := base) T
  refine mkDef T.d_is_moment T.g_is_moment sc_is_moment (fun _ _ _ _ _ _ us hl => match us, hl with | [_], _ => rfl) len1 (BodyN.up fun cdv A outer s H vs Q E hr h => ?_)
  obtain ⟨x, rfl, hx, q⟩ := h
  have hu := hu_of hr
  refine ⟨_, (pss_one (ps_ret (pe_fn d_is_whole (hr.mono (by decide)) (by rfl) passL (pa_cons (pv 0) (pa_cons pe_int (pa_cons (pe_glob (v := .int 1000000000) rfl (T.g_LAST_MOMENT).choose_spec ⟨_, rfl⟩) pa_nil)))))), ?_⟩
  exact ⟨_, rfl, _, _, _, rfl, _, _, rfl, rfl, hx, q⟩
end

theorem mem_letters (c : Nat) : decide (c ∈ (Str.ofString "abcdefghijklmnopqrstuvwxyz").cps.toList) = letter c := by
  have e : (Str.ofString "abcdefghijklmnopqrstuvwxyz").cps.toList = (List.range 26).map (fun i => 97 + i) := by decide +kernel
  rw [e, letter, Bool.eq_iff_iff]
  simp only [decide_eq_true_eq, Bool.and_eq_true, List.mem_map, List.mem_range]
  exact ⟨fun ⟨i, h, e⟩ => by omega, fun h => ⟨c - 97, by omega, by omega⟩⟩
section
variable {P : Program} {w : World} {K : PySem.W.Frag} {mg : Str → Option Value} {base : Heap}
def spLamp : Sp := sp1 fun x H Q _ => Pl H x ∧ ∀ H', Same H H' → Q (.bl (lampV x)) H'
theorem sc_is_lamp : FnScope ["thing", "sign"] ["thing"] (defScope s_is_lamp) := ⟨rfl, rfl, rfl, by decide +kernel, rfl, by decide +kernel, by decide +kernel⟩
theorem d_is_lamp (T : Txt K mg) : Def P w K mg base 1 "is_lamp" ["thing"] (spLamp) := by
  refine mkDef T.d_is_lamp T.g_is_lamp sc_is_lamp (fun _ _ _ _ _ _ us hl => match us, hl with | [_], _ => rfl) len1 (BodyN.up fun cdv A outer s H vs Q E hr h => ?_)
  obtain ⟨x, rfl, hx, q⟩ := h
  have hu := hu_of hr
  refine ⟨_, (pss_one (ps_ret (pe_and (pe_callB call_isStr (by rfl) T.z_isinstance (by decide +kernel) (pa_cons (pv 0) (pa_cons (pe_bltn (v := .ty "str") rfl T.z_str (by decide +kernel) rfl) pa_nil))) (pe_and (pe_chain op_le op_le pe_int (pe_callB call_len_str (by rfl) T.z_len (by decide +kernel) (pa_cons (pv 0) pa_nil)) (pe_glob (v := .int 8) rfl (T.g_LONGEST).choose_spec ⟨_, rfl⟩)) (pe_one (pe_callB (cr_all rfl) (by rfl) T.z_all (by decide +kernel) (pa_cons (pe_lc (own := [("sign", 1)]) rfl sc_is_lamp.nd (pi_str (pv 0)) (blkOk_by (own := [("sign", 1)]) (N := ["thing", "sign"]) (sc := defScope s_is_lamp) (by decide +kernel)) (fun _ _ _ _ _ => pg_name (i := 1) sc_is_lamp.nd rfl (Or.inl rfl)) (fun _ _ _ _ _ => pts_nil) (fun _ _ _ _ _ => (pe_cmpR op_in_sign (pv 1) (pe_glob (v := .str "abcdefghijklmnopqrstuvwxyz") rfl (T.g_LETTERS).choose_spec ⟨_, rfl⟩) rfl))) pa_nil))))))), ?_⟩
  refine ⟨_, rfl, _, rfl, hx, _, rfl, ?_⟩
  cases x with
  | str z =>
    have hz : z.length ≤ 100000 := hx.1
    have hs : z.length ≤ sizeLine := Nat.le_trans hz (by rw [sizeLine_eq]; decide)
    refine iteT ⟨_, rfl, _, rfl, hs, _, _, rfl, rfl, _, rfl, ?_⟩
    by_cases h1 : (1 : Int) ≤ z.length
    · rw [if_pos (decide_eq_true h1)]
      refine ⟨_, _, rfl, rfl, _, rfl, ?_⟩
      by_cases h2 : (z.length : Int) ≤ 8
      · rw [if_pos (decide_eq_true h2)]
        refine ⟨_, rfl, z, rfl, ?_⟩
        intro D nD
        refine lc_pure (walk_sgn (z := z)) nD yes (fun v => match v with | .str y => .bl (y.cps.toList.all letter) | _ => .non) ?_ ?_ (fun _ _ => trivial) (fun x _ H _ Q' k => tt_yes x k) ?_ ?_
        · rw [sgn, List.length_map, sizeLine_eq]
          have : z.cps.toList.length = z.length := by simp [Str.length]
          omega
        · exact fun _ => rfl
        · intro v hv _ H' s1 Q' k
          obtain ⟨c, _, rfl⟩ := List.mem_map.mp hv
          refine ⟨_, rfl, _, _, rfl, rfl, ?_⟩
          rw [mem_letters]
          have := k H' (Same.refl _)
          simpa using this
        · intro H' s1 hD
          rw [filter_yes] at hD
          refine ⟨D, z.cps.toList.map letter, rfl, .inl (.inl (by rw [hD, sgn, List.map_map, List.map_map]; congr 2; refine List.map_congr_left fun c _ => ?_; simp)), ?_⟩
          have e : (List.map letter z.cps.toList).all id = z.cps.toList.all letter := by simp [List.all_map]
          have e2 : lampV (.str z) = z.cps.toList.all letter := by
            have a : 1 ≤ z.length := by omega
            have b : z.length ≤ 8 := by omega
            simp [lampV, lampS, a, b]
          rw [e, ← e2]
          exact q H' s1
      · rw [if_neg (by simpa using h2)]
        have e : lampV (.str z) = false := by
          have b : ¬ z.length ≤ 8 := by omega
          simp [lampV, lampS, b]
        have := q H (Same.refl H)
        rw [e] at this; exact this
    · rw [if_neg (by simpa using h1)]
      have e : lampV (.str z) = false := by
        have b : ¬ 1 ≤ z.length := by omega
        simp only [lampV, lampS, decide_eq_false b, Bool.false_and]
      have := q H (Same.refl H)
      rw [e] at this; exact ⟨_, rfl, iteF this⟩
  | _ => exact q H (Same.refl H)
end

/-! ## the law's draws -/
/-- the law's scrambler -/
def mixed (c k : Int) : Int :=
  let one := (c + 7919 * k + 104729) * 48271 % 2147483647
  (one * one + 69621 * one) % 2147483629 / 7
theorem mixed_nn (c k : Int) : 0 ≤ mixed c k ∧ mixed c k < 306783376 := by
  unfold mixed; simp only; omega
section
variable {P : Program} {w : World} {K : PySem.W.Frag} {mg : Str → Option Value} {base : Heap}
def spMixed : Sp := sp2 fun a b H Q _ => ∃ c k : Int, a = .int c ∧ b = .int k ∧ Q (.int (mixed c k)) H
theorem sc__law_mixed : FnScope ["_law_cell", "_law_k", "_law_one"] ["_law_cell", "_law_k"] (defScope s__law_mixed) := ⟨rfl, rfl, rfl, by decide +kernel, rfl, by decide +kernel, by decide +kernel⟩
theorem d__law_mixed (T : Txt K mg) : Def P w K mg base 1 "_law_mixed" ["_law_cell", "_law_k"] (spMixed) := by
  refine mkDef T.d__law_mixed T.g__law_mixed sc__law_mixed (fun _ _ _ _ _ _ us hl => match us, hl with | [_, _], _ => rfl) len2 (BodyN.up fun cdv A outer s H vs Q E hr h => ?_)
  obtain ⟨_, _, rfl, c, k, rfl, rfl, q⟩ := h
  have hu := hu_of hr
  refine ⟨_, (pss_cons (ps_set (i := 2) sc__law_mixed.nd rfl (Or.inl rfl) (pe_op op_mod (pe_op op_mul (pe_op op_add (pe_op op_add (pv 0) (pe_op op_mul pe_int (pv 1))) pe_int) pe_int) pe_int))
    (pss_one (ps_ret (pe_op op_fdiv (pe_op op_mod (pe_op op_add (pe_op op_mul (pv 2) (pv 2)) (pe_op op_mul pe_int (pv 2))) pe_int) pe_int)))), ?_⟩
  refine ⟨_, rfl, _, rfl, _, _, rfl, rfl, .inl ⟨by decide, by decide⟩, _, _, rfl, rfl, _, _, rfl, rfl, _, _, rfl, rfl, .inr ⟨by decide, by decide⟩, _, _, rfl, rfl, by simp, ?_⟩
  have h1 : 0 ≤ (c + 7919 * k + 104729) * 48271 % 2147483647 := Int.emod_nonneg _ (by decide)
  have h2 : (c + 7919 * k + 104729) * 48271 % 2147483647 < 2147483647 := Int.emod_lt_of_pos _ (by decide)
  exact ⟨_, rfl, _, rfl, _, _, rfl, rfl, .inl ⟨by omega, by omega⟩, _, rfl, _, _, rfl, rfl, .inl ⟨by decide, by decide⟩, _, _, rfl, rfl, _, _, rfl, rfl, by simp, _, _, rfl, rfl, ⟨by decide, by decide⟩, q⟩
def spIsWhole : Sp := sp1 fun x H Q _ => Pl H x ∧ Q (.bl (isInt x && !isBl x)) H
theorem sc__law_whole : FnScope ["_law_found"] ["_law_found"] (defScope s__law_whole) := ⟨rfl, rfl, rfl, by decide +kernel, rfl, by decide +kernel, by decide +kernel⟩
theorem d__law_whole (T : Txt K mg) : Def P w K mg base 1 "_law_whole" ["_law_found"] (spIsWhole) := by
  refine mkDef T.d__law_whole T.g__law_whole sc__law_whole (fun _ _ _ _ _ _ us hl => match us, hl with | [_], _ => rfl) len1 (BodyN.up fun cdv A outer s H vs Q E hr h => ?_)
  obtain ⟨x, rfl, hx, q⟩ := h
  have hu := hu_of hr
  refine ⟨_, (pss_one (ps_ret (pe_and (pe_callB call_isInt (by rfl) T.z_isinstance (by decide +kernel) (pa_cons (pv 0) (pa_cons (pe_bltn (v := .ty "int") rfl T.z_int (by decide +kernel) rfl) pa_nil))) (pe_one (pe_not (pe_callB call_isBl (by rfl) T.z_isinstance (by decide +kernel) (pa_cons (pv 0) (pa_cons (pe_bltn (v := .ty "bool") rfl T.z_bool (by decide +kernel) rfl) pa_nil)))))))), ?_⟩
  refine ⟨_, rfl, _, rfl, hx, _, rfl, ?_⟩
  cases e : isInt x with
  | false => rw [e] at q; exact iteF q
  | true =>
    rw [e] at q
    exact iteT ⟨_, rfl, _, rfl, hx, _, rfl, q⟩
/-- an index that lies in a list -/
theorem at_in {α : Type} {xs : List α} {i : Int} {n : Nat} (h : xs.length = n) (h0 : 0 ≤ i) (h1 : i < n) : ∃ v, v ∈ xs ∧ atI xs i = some v := by
  subst h
  have hj : i.toNat < xs.length := by omega
  refine ⟨xs[i.toNat], List.getElem_mem hj, ?_⟩
  have := atI_nat (xs := xs) (j := i.toNat) (v := xs[i.toNat]) (by simp)
  rwa [Int.toNat_of_nonneg h0] at this
end

/-! ## the law -/
/-- what is due of a thing -/
def dueV (x : V) : List V := [.bl (wholeV 1 999999 x), .bl (wholeV 0 100 x), .bl (wholeV 0 6000 x), .bl (wholeV 0 1000000000 x), .bl (lampV x)]
theorem due_ok (x : V) : ∀ y ∈ dueV x, okV y = true := by
  intro y hy
  simp only [dueV, List.mem_cons, List.not_mem_nil, or_false] at hy
  rcases hy with rfl | rfl | rfl | rfl | rfl <;> rfl
section
variable {P : Program} {w : World} {K : PySem.W.Frag} {mg : Str → Option Value} {base : Heap}
def spLaw (K : PySem.W.Frag) : Sp := sp1 fun v H Q _ => ∃ (a : Addr) (ns : List Int), v = .ref a ∧ ns.length ≤ 63 ∧ SqL K H a (ns.map V.int) ∧ ∀ H', Q (.bl true) H'
def spThing : Sp := sp1 fun a H Q _ => ∃ c : Int, a = .int c ∧ ∀ v H', Same H H' → Pl H' v → Q v H'
theorem sc__law_thing : FnScope ["_law_cell", "_law_mix", "_law_letters", "_law_word", "_law_k", "_law_spot"] ["_law_cell"] (defScope s__law_thing) := ⟨rfl, rfl, rfl, by decide +kernel, rfl, by decide +kernel, by decide +kernel⟩
theorem d__law_thing (T : Txt K mg) : Def P w K mg base 2 "_law_thing" ["_law_cell"] (spThing) := by
  have d__law_mixed := d__law_mixed (P := P) (w := w) (base := base) T
  refine mkDef T.d__law_thing T.g__law_thing sc__law_thing (fun _ _ _ _ _ _ us hl => match us, hl with | [_], _ => rfl) len1 (BodyN.up fun cdv A outer s H vs Q E hr h => ?_)
  obtain ⟨_, rfl, c, rfl, q⟩ := h
  have hu := hu_of hr
  refine ⟨_, (pss_cons (ps_set (i := 1) sc__law_thing.nd rfl (Or.inl rfl) (pe_fn d__law_mixed (hr.mono (by decide)) (by rfl) passL (pa_cons (pv 0) (pa_cons pe_int pa_nil))))
    (pss_cons (ps_if (pt_cmpR op_eq (pe_op op_mod (pv 1) pe_int) pe_int (nomark _))
    (pss_one (ps_ret (pe_ix ix_list (pe_lst (pa_cons pe_non (pa_cons pe_bl (pa_cons pe_bl (pa_cons pe_str (pa_cons pe_str (pa_cons (pe_lst (pa_cons pe_int pa_nil)) (pa_cons (pe_tup (pa_cons pe_int pa_nil)) (pa_cons pe_dnewK (pa_cons pe_str (pa_cons (pe_lst (pa_cons pe_str pa_nil)) pa_nil))))))))))) (pe_op op_mod (pe_op op_fdiv (pv 1) pe_int) pe_int) (fun _ _ => rfl))))
    pss_nil)
    (pss_cons (ps_if (pt_cmpR op_eq (pe_op op_mod (pv 1) pe_int) pe_int (nomark _))
    (pss_one (ps_ret (pe_op op_sub (pe_op op_add (pe_ix ix_list (pe_lst (pa_cons pe_int (pa_cons pe_int (pa_cons pe_int (pa_cons pe_int (pa_cons pe_int (pa_cons (pe_op op_pow pe_int pe_int) pa_nil))))))) (pe_op op_mod (pe_op op_fdiv (pv 1) pe_int) pe_int) (fun _ _ => rfl)) (pe_op op_mod (pe_op op_fdiv (pv 1) pe_int) pe_int)) pe_int)))
    pss_nil)
    (pss_cons (ps_if (pt_cmpR op_eq (pe_op op_mod (pv 1) pe_int) pe_int (nomark _))
    (pss_one (ps_ret (pe_op op_mul (pe_op op_mod (pv 0) (pe_op op_pow pe_int pe_int)) (pe_ix ix_list (pe_lst (pa_cons pe_int (pa_cons (pe_un un_neg pe_int) pa_nil))) (pe_op op_mod (pe_op op_fdiv (pv 1) pe_int) pe_int) (fun _ _ => rfl)))))
    pss_nil)
    (pss_cons (ps_set (i := 2) sc__law_thing.nd rfl (Or.inr rfl) pe_str)
    (pss_cons (ps_set (i := 3) sc__law_thing.nd rfl (Or.inl rfl) (pe_join pe_str (pe_lc (own := [("_law_k", 4)]) rfl sc__law_thing.nd (pi_range1 (by rfl) T.z_range (pa_cons (pe_op op_mod (pe_op op_fdiv (pv 1) pe_int) pe_int) pa_nil)) (blkOk_by (own := [("_law_k", 4)]) (N := ["_law_cell", "_law_mix", "_law_letters", "_law_word", "_law_k", "_law_spot"]) (sc := defScope s__law_thing) (by decide +kernel)) (fun _ _ _ _ _ => pg_name (i := 4) sc__law_thing.nd rfl (Or.inl rfl)) (fun _ _ _ _ _ => pts_nil) (fun _ _ _ _ _ => (pe_ix ix_str (pv 2) (pe_op op_mod (pe_fn d__law_mixed (hr.mono (by decide)) (by rfl) passL (pa_cons (pv 0) (pa_cons (pe_op op_add pe_int (pv 4)) pa_nil))) pe_int) (fun _ _ => rfl))))))
    (pss_cons (ps_set (i := 5) sc__law_thing.nd rfl (Or.inl rfl) (pe_op op_mod (pe_op op_fdiv (pv 1) pe_int) (pe_op op_add (pe_callB call_len_str (by rfl) T.z_len (by decide +kernel) (pa_cons (pv 3) pa_nil)) pe_int)))
    (pss_cons (ps_if (pt_cmpR op_eq (pe_op op_mod (pe_op op_fdiv (pv 1) pe_int) pe_int) pe_int (nomark _))
    (pss_one (ps_ret (pe_op op_add_str (pe_op op_add_str (pe_slice sl_str (pv 3) po_none (po_some (pv 5))) (pe_ix ix_str pe_str (pe_op op_mod (pe_op op_fdiv (pv 1) pe_int) pe_int) (fun _ _ => rfl))) (pe_slice sl_str (pv 3) (po_some (pv 5)) po_none))))
    pss_nil)
    (pss_one (ps_ret (pv 3))))))))))), ?_⟩
  refine ⟨_, rfl, _, _, rfl, _, _, rfl, rfl, ?_⟩
  obtain ⟨hm0, hm1⟩ := mixed_nn c 1
  generalize mixed c 1 = m at hm0 hm1 ⊢
  -- if m % 4 == 0
  refine ⟨_, rfl, _, _, rfl, rfl, by simp, rfl, _, rfl, ite2 (fun _ => ?_) (fun _ => ?_)⟩
  · refine ⟨by simp [sizeLine_eq], fun p1 n1 => ⟨by simp [sizeLine_eq], fun p2 n2 => fun p3 n3 => ⟨by simp [sizeLine_eq], fun p4 n4 => ⟨by simp [sizeLine_eq], fun p5 n5 => ⟨_, rfl, _, _, rfl, rfl, ⟨by decide, by decide⟩, _, _, rfl, rfl, by simp, ?_⟩⟩⟩⟩⟩
    obtain ⟨v, hv, ha⟩ := at_in (xs := [V.non, .bl true, .bl false, .str "", .str "red", .ref p1, .ref p2, .ref p3, .str "1", .ref p4]) (i := m / 4 % 10) (n := 10) rfl (by omega) (by omega)
    refine ⟨_, _, _, v, rfl, rfl, .inl (.inl upd_same), ha, ?_⟩
    have s4 := same_upd (o := HO.lst [V.str "red"]) n4
    have s5 := same_upd (o := HO.lst [V.non, .bl true, .bl false, .str "", .str "red", .ref p1, .ref p2, .ref p3, .str "1", .ref p4]) n5
    have s3 := same_upd (o := HO.dK []) n3
    have s2 := same_upd (o := HO.tup [V.int 1]) n2
    refine q v _ ((((same_upd n1).trans s2).trans s3).trans (s4.trans s5)) ?_
    simp only [List.mem_cons, List.not_mem_nil, or_false] at hv
    rcases hv with rfl | rfl | rfl | rfl | rfl | rfl | rfl | rfl | rfl | rfl
    · exact trivial
    · exact trivial
    · exact trivial
    · exact ⟨by decide, by decide +kernel⟩
    · exact ⟨by decide +kernel, by decide +kernel⟩
    · exact .inl ⟨_, ((s2.trans s3).trans (s4.trans s5)) _ _ upd_same⟩
    · exact .inr (.inl ⟨_, (s3.trans (s4.trans s5)) _ _ upd_same⟩)
    · exact .inr (.inr ⟨_, (s4.trans s5) _ _ upd_same⟩)
    · exact ⟨by decide +kernel, by decide +kernel⟩
    · exact .inl ⟨_, s5 _ _ upd_same⟩
  -- if m % 4 == 1
  refine ⟨_, rfl, _, _, rfl, rfl, by simp, rfl, _, rfl, ite2 (fun _ => ?_) (fun _ => ?_)⟩
  · refine ⟨_, _, rfl, rfl, ⟨by decide, by decide, by decide⟩, by simp [sizeLine_eq], fun p np => ⟨_, rfl, _, _, rfl, rfl, ⟨by decide, by decide⟩, _, _, rfl, rfl, by simp, ?_⟩⟩
    obtain ⟨v, hv, ha⟩ := at_in (xs := [V.int 0, .int 1, .int 100, .int 6000, .int 999999, .int (10 ^ (9 : Int).toNat)]) (i := m / 4 % 6) (n := 6) rfl (by omega) (by omega)
    obtain ⟨z, rfl⟩ : ∃ z, v = .int z := by
      simp only [List.mem_cons, List.not_mem_nil, or_false] at hv
      rcases hv with rfl | rfl | rfl | rfl | rfl | rfl <;> exact ⟨_, rfl⟩
    refine ⟨_, _, _, _, rfl, rfl, .inl (.inl upd_same), ha, _, rfl, _, _, rfl, rfl, ⟨by decide, by decide⟩, _, _, rfl, rfl, by simp, _, _, rfl, rfl, _, _, rfl, rfl, ?_⟩
    exact q _ _ (same_upd np) trivial
  -- if m % 4 == 2
  refine ⟨_, rfl, _, _, rfl, rfl, by simp, rfl, _, rfl, ite2 (fun _ => ?_) (fun _ => ?_)⟩
  · refine ⟨_, rfl, _, _, rfl, rfl, ⟨by decide, by decide, by decide⟩, _, _, rfl, rfl, by show (0 : Int) < 10 ^ _; decide, _, rfl, by simp [sizeLine_eq], fun p np => ⟨_, rfl, _, _, rfl, rfl, ⟨by decide, by decide⟩, _, _, rfl, rfl, by simp, ?_⟩⟩
    obtain ⟨v, hv, ha⟩ := at_in (xs := [V.int 1, .int (-1)]) (i := m / 4 % 2) (n := 2) rfl (by omega) (by omega)
    obtain ⟨z, rfl, hz⟩ : ∃ z, v = .int z ∧ (z = 1 ∨ z = -1) := by
      simp only [List.mem_cons, List.not_mem_nil, or_false] at hv
      rcases hv with rfl | rfl <;> exact ⟨_, rfl, by simp⟩
    refine ⟨_, _, _, _, rfl, rfl, .inl (.inl upd_same), ha, _, _, rfl, rfl, .inr (by rcases hz with rfl | rfl <;> decide), ?_⟩
    exact q _ _ (same_upd np) trivial
  -- a text
  refine ⟨⟨_, rfl⟩, _, rfl, _, _, rfl, rfl, ⟨by decide, by decide⟩, _, _, rfl, rfl, by simp, _, rfl, by show _ ≤ m / 4 % 11; omega, by show m / 4 % 11 < _; omega, fun D nD => ?_⟩
  have hn : (m / 4 % 11).toNat ≤ 10 := by omega
  refine lc_rel (walk_rng (lo := 0) (n := (m / 4 % 11).toNat)) nD yes (fun _ y _ => ∃ ch, y = V.str ⟨#[ch]⟩ ∧ ch < 1114112) (fun _ _ _ _ _ h => h) ?_ ?_ (fun _ _ => trivial) (fun x _ H _ Q' k => tt_yes x k) ?_ ?_
  · rw [rng, List.length_map, List.length_range, sizeLine_eq]; omega
  · exact fun _ => rfl
  · intro v hv _ H' s1 Q' k
    obtain ⟨j, _, rfl⟩ := List.mem_map.mp hv
    refine ⟨_, rfl, _, rfl, _, rfl, _, _, rfl, rfl, _, _, rfl, _, _, rfl, rfl, _, _, rfl, rfl, by simp, ?_⟩
    obtain ⟨h0, h1⟩ := mixed_nn c (10 + (0 + (j : Int)))
    obtain ⟨ch, hm, ha⟩ := at_in (xs := (Str.ofString "abcdefghijklmnopqrstuvwxyz").cps.toList) (i := mixed c (10 + (0 + (j : Int))) % 26) (n := 26) (by decide +kernel) (by omega) (by omega)
    exact ⟨_, _, _, rfl, rfl, by rw [sizeLine_eq]; decide +kernel, ha, k _ _ (Same.refl _) ⟨ch, rfl, okS_iff.mp (show PyData.strOk (Str.ofString "abcdefghijklmnopqrstuvwxyz") = true by decide +kernel) ch hm⟩⟩
  · intro H1 ys s1 hD hp
    rw [filter_yes] at hp
    obtain ⟨zs, rfl, hz⟩ : ∃ zs : List Str, ys = zs.map V.str ∧ ∀ z ∈ zs, z.length = 1 ∧ PyData.strOk z = true := by
      clear hD
      generalize rng 0 (m / 4 % 11).toNat = l at hp
      induction hp with
      | nil => exact ⟨[], rfl, fun z h => by cases h⟩
      | cons a _ ih =>
        obtain ⟨ch, rfl, hch⟩ := a
        obtain ⟨zs, rfl, h⟩ := ih
        refine ⟨⟨#[ch]⟩ :: zs, rfl, fun z hz => ?_⟩
        rcases List.mem_cons.mp hz with rfl | hz
        · exact ⟨rfl, okS_one hch⟩
        · exact h z hz
    have hl : zs.length ≤ 10 := by
      have := paired_len hp
      rw [rng, List.length_map, List.length_range, List.length_map] at this
      omega
    have hs : (zs.map (·.length)).sum = zs.length := by
      clear hD hp hl
      induction zs with
      | nil => rfl
      | cons z r ih =>
        rw [List.map_cons, List.sum_cons, (hz z List.mem_cons_self).1, ih fun y hy => hz y (List.mem_cons_of_mem _ hy), List.length_cons]
        omega
    have e0 : (Str.ofString "").length = 0 := by decide
    refine ⟨_, _, zs, rfl, rfl, .inl (.inl (.inl hD)), by rw [hs, e0]; omega, ?_⟩
    have hw : (Txt.join (Str.ofString "") zs).length ≤ 10 := by rw [len_join, hs, e0]; omega
    have hok : PyData.strOk (Txt.join (Str.ofString "") zs) = true := okS_join (by decide +kernel) fun z h => (hz z h).2
    generalize Txt.join (Str.ofString "") zs = word at hw hok ⊢
    have hwl : word.length ≤ sizeLine := by rw [sizeLine_eq]; omega
    -- spot
    refine ⟨_, rfl, _, _, rfl, rfl, ⟨by decide, by decide⟩, _, rfl, _, rfl, hwl, _, _, rfl, rfl, _, _, rfl, rfl, by show (0 : Int) < _ + 1; omega, ?_⟩
    have hc : ∀ lo hi, (cutS word lo hi).length ≤ 10 := fun lo hi => Nat.le_trans (cutS_length word lo hi) hw
    refine ⟨_, rfl, _, _, rfl, rfl, ⟨by decide, by decide⟩, _, _, rfl, rfl, by simp, rfl, _, rfl, ite2 (fun _ => ?_) (fun _ => ?_)⟩
    · obtain ⟨ch, hm, ha⟩ := at_in (xs := (Str.ofString "A1 _.z-\n").cps.toList) (i := m / 84 % 8) (n := 8) (by decide +kernel) (by omega) (by omega)
      have el : ∀ ch : Nat, (⟨#[ch]⟩ : Str).length = 1 := fun _ => rfl
      refine ⟨_, rfl, _, rfl, _, rfl, _, rfl, hwl, _, rfl, _, _, rfl, rfl, ⟨by decide, by decide⟩, _, _, rfl, rfl, by simp, _, _, _, rfl, rfl, by rw [sizeLine_eq]; decide +kernel, ha, _, _, rfl, rfl, by rw [el, sizeLine_eq]; exact Nat.le_trans (Nat.add_le_add_right (hc _ _) 1) (by decide), _, rfl, _, rfl, _, rfl, _, rfl, hwl, _, _, rfl, rfl, by rw [Str.length_append, el, sizeLine_eq]; exact Nat.le_trans (Nat.add_le_add (Nat.add_le_add_right (hc _ _) 1) (hc _ _)) (by decide), ?_⟩
      refine q _ _ s1 ⟨?_, okS_append (okS_append (okS_cut hok _ _) (okS_one (okS_iff.mp (show PyData.strOk (Str.ofString "A1 _.z-\n") = true by decide +kernel) ch hm))) (okS_cut hok _ _)⟩
      show (_ ++ _ ++ _ : Str).length ≤ _
      rw [Str.length_append, Str.length_append, el]
      exact Nat.le_trans (Nat.add_le_add (Nat.add_le_add_right (hc _ _) 1) (hc _ _)) (by decide)
    · exact ⟨_, rfl, q _ _ s1 ⟨by omega, hok⟩⟩
def spDue : Sp := sp1 fun x H Q _ => Pl H x ∧ ∀ p H', Same H H' → H p = none → H' p = some (.lst (dueV x)) → Q (.ref p) H'
theorem sc__law_told : FnScope ["_law_thing_here"] ["_law_thing_here"] (defScope s__law_told) := ⟨rfl, rfl, rfl, by decide +kernel, rfl, by decide +kernel, by decide +kernel⟩
theorem d__law_told (T : Txt K mg) : Def P w K mg base 3 "_law_told" ["_law_thing_here"] (spDue) := by
  have d_is_cue := d_is_cue (P := P) (w := w) (base := base) T
  have d_is_level := d_is_level (P := P) (w := w) (base := base) T
  have d_is_fade := d_is_fade (P := P) (w := w) (base := base) T
  have d_is_moment := d_is_moment (P := P) (w := w) (base := base) T
  have d_is_lamp := d_is_lamp (P := P) (w := w) (base := base) T
  refine mkDef T.d__law_told T.g__law_told sc__law_told (fun _ _ _ _ _ _ us hl => match us, hl with | [_], _ => rfl) len1 (BodyN.up fun cdv A outer s H vs Q E hr h => ?_)
  obtain ⟨x, rfl, hx, q⟩ := h
  have hu := hu_of hr
  refine ⟨_, (pss_one (ps_ret (pe_lst (pa_cons (pe_fn d_is_cue (hr.mono (by decide)) (by rfl) passL (pa_cons (pv 0) pa_nil)) (pa_cons (pe_fn d_is_level (hr.mono (by decide)) (by rfl) passL (pa_cons (pv 0) pa_nil)) (pa_cons (pe_fn d_is_fade (hr.mono (by decide)) (by rfl) passL (pa_cons (pv 0) pa_nil)) (pa_cons (pe_fn d_is_moment (hr.mono (by decide)) (by rfl) passL (pa_cons (pv 0) pa_nil)) (pa_cons (pe_fn d_is_lamp (hr.mono (by decide)) (by rfl) passL (pa_cons (pv 0) pa_nil)) pa_nil)))))))), ?_⟩
  refine ⟨_, rfl, _, rfl, hx, _, rfl, _, rfl, hx, _, rfl, _, rfl, hx, _, rfl, _, rfl, hx, _, rfl, _, rfl, hx, fun H' s1 => ⟨by simp [sizeLine_eq], fun p np => ?_⟩⟩
  exact q _ _ (sm_new s1 np) (s1.free np) upd_same
theorem sc__law_due : FnScope ["_law_thing_here", "_law_found", "_law_least", "_law_most", "_law_others", "_law_sign"] ["_law_thing_here"] (defScope s__law_due) := ⟨rfl, rfl, rfl, by decide +kernel, rfl, by decide +kernel, by decide +kernel⟩
theorem d__law_due (T : Txt K mg) : Def P w K mg base 2 "_law_due" ["_law_thing_here"] (spDue) := by
  have d__law_whole := d__law_whole (P := P) (w := w) (base := base) T
  refine mkDef T.d__law_due T.g__law_due sc__law_due (fun _ _ _ _ _ _ us hl => match us, hl with | [_], _ => rfl) len1 (BodyN.up fun cdv A outer s H vs Q E hr h => ?_)
  obtain ⟨x, rfl, hx, q⟩ := h
  have hu := hu_of hr
  refine ⟨_, (pss_cons (ps_set (i := 1) sc__law_due.nd rfl (Or.inl rfl) (pe_lst pa_nil))
    (pss_cons (ps_for PassesOwn.never rfl (pi_tup (pe_tup (pa_cons (pe_tup (pa_cons pe_int (pa_cons pe_int pa_nil))) (pa_cons (pe_tup (pa_cons pe_int (pa_cons pe_int pa_nil))) (pa_cons (pe_tup (pa_cons pe_int (pa_cons pe_int pa_nil))) (pa_cons (pe_tup (pa_cons pe_int (pa_cons (pe_op op_pow pe_int pe_int) pa_nil))) pa_nil)))))) (pg_tup rfl (pgs_cons (pg_name (i := 2) sc__law_due.nd rfl (Or.inl rfl)) (pgs_cons (pg_name (i := 3) sc__law_due.nd rfl (Or.inl rfl)) pgs_nil)))
    (pss_one (ps_expr (pe_bm PySem.F.plainAttrs_list PySem.F.slot_list_append PySem.F.type_list_append mt_append (pv 1) (pa_cons (pe_and (pe_fn d__law_whole (hr.mono (by decide)) (by rfl) passL (pa_cons (pv 0) pa_nil)) (pe_one (pe_chain op_le op_le (pv 2) (pv 0) (pv 3)))) pa_nil)))))
    (pss_cons (ps_if (pt_not (pt_val (pe_callB call_isStr (by rfl) T.z_isinstance (by decide +kernel) (pa_cons (pv 0) (pa_cons (pe_bltn (v := .ty "str") rfl T.z_str (by decide +kernel) rfl) pa_nil)))))
    (pss_one (ps_ret (pe_op op_catS (pv 1) (pe_lst (pa_cons pe_bl pa_nil)))))
    pss_nil)
    (pss_cons (ps_setLc (i := 4) (own := [("_law_sign", 5)]) rfl sc__law_due.nd rfl rfl (sw_true rfl rfl rfl (by decide +kernel)) (pi_str (pv 0)) (blkOk_by (own := [("_law_sign", 5)]) (N := ["_law_thing_here", "_law_found", "_law_least", "_law_most", "_law_others", "_law_sign"]) (sc := defScope s__law_due) (by decide +kernel)) (fun _ _ _ _ _ => pg_name (i := 5) sc__law_due.nd rfl (Or.inl rfl)) (fun _ _ _ _ _ => (pts_one (pt_cmpR op_notIn_sign (pv 5) pe_str rfl))) (fun _ _ _ _ _ => (pv 5)))
    (pss_one (ps_ret (pe_op op_catS (pv 1) (pe_lst (pa_cons (pe_and (pe_cmpR (op_eqD hr.units) (pv 4) (pe_lst pa_nil) (nomark _)) (pe_one (pe_chain op_lt op_lt pe_int (pe_callB call_len_str (by rfl) T.z_len (by decide +kernel) (pa_cons (pv 0) pa_nil)) pe_int))) pa_nil))))))))), ?_⟩
  refine ⟨by simp, fun o no => ?_⟩
  -- the four bounds
  refine ⟨by simp [sizeLine_eq], fun p1 n1 => ⟨by simp [sizeLine_eq], fun p2 n2 => ⟨by simp [sizeLine_eq], fun p3 n3 => ⟨_, _, rfl, rfl, ⟨by decide, by decide, by decide⟩, by simp [sizeLine_eq], fun p4 n4 => ⟨by simp [sizeLine_eq], fun pt nt => ?_⟩⟩⟩⟩⟩
  let B : List (Addr × Int × Int) := [(p1, 1, 999999), (p2, 0, 100), (p3, 0, 6000), (p4, 0, 1000000000)]
  let D4 : List V := B.map fun b => .bl (wholeV b.2.1 b.2.2 x)
  generalize e1 : upd H o (.lst []) = H1 at n1 n2 n3 n4 nt ⊢
  generalize e2 : upd H1 p1 (.tup [.int 1, .int 999999]) = H2 at n2 n3 n4 nt ⊢
  generalize e3 : upd H2 p2 (.tup [.int 0, .int 100]) = H3 at n3 n4 nt ⊢
  generalize e4 : upd H3 p3 (.tup [.int 0, .int 6000]) = H4 at n4 nt ⊢
  have s1 : Same H H1 := e1 ▸ same_upd no
  have s2 : Same H1 H2 := e2 ▸ same_upd n1
  have s3 : Same H2 H3 := e3 ▸ same_upd n2
  have s4 : Same H3 H4 := e4 ▸ same_upd n3
  have s5 := same_upd (o := HO.tup [V.int 0, V.int (10 ^ (9 : Int).toNat)]) n4
  have s6 := same_upd (o := HO.tup [V.ref p1, .ref p2, .ref p3, .ref p4]) nt
  generalize e5 : upd H4 p4 (.tup [.int 0, .int (10 ^ (9 : Int).toNat)]) = H5 at nt s5 s6 ⊢
  have a1 : H5 p1 = some (.tup [.int 1, .int 999999]) := s5 _ _ (s4 _ _ (s3 _ _ (by rw [← e2]; exact upd_same)))
  have a2 : H5 p2 = some (.tup [.int 0, .int 100]) := s5 _ _ (s4 _ _ (by rw [← e3]; exact upd_same))
  have a3 : H5 p3 = some (.tup [.int 0, .int 6000]) := s5 _ _ (by rw [← e4]; exact upd_same)
  have a4 : H5 p4 = some (.tup [.int 0, .int 1000000000]) := by rw [← e5]; exact upd_same
  have ao : H5 o = some (.lst []) := s5 _ _ (s4 _ _ (s3 _ _ (s2 _ _ (by rw [← e1]; exact upd_same))))
  have key : ∀ b ∈ B, H5 b.1 = some (.tup [.int b.2.1, .int b.2.2]) := by
    intro b hb
    simp only [B, List.mem_cons, List.not_mem_nil, or_false] at hb
    rcases hb with rfl | rfl | rfl | rfl
    · exact a1
    · exact a2
    · exact a3
    · exact a4
  have s05 : Same H H5 := (((s1.trans s2).trans s3).trans s4).trans s5
  refine ⟨pt, rfl, ⟨_, .inl (.inl upd_same)⟩, for_tup (K := K) (a := pt) (xs := B.map fun b => V.ref b.1) (fun i σ H' => ∃ v2 v3, σ = [some x, some (.ref o), v2, v3, none, none] ∧ Same H H' ∧ NL H5 H' ∧ H' pt = some (.tup (B.map fun b => V.ref b.1)) ∧ H' o = some (.lst (D4.take i)))
    ⟨none, none, rfl, s05.trans s6, Same.nl s6, upd_same, s6 _ _ ao⟩ (fun i σ H' _ ⟨_, _, _, _, _, h, _⟩ => .inl (.inl h)) ?_ ?_⟩
  · rintro i y σ H' hy ⟨v2, v3, rfl, sH, nl, ept, eo⟩
    rw [List.getElem?_map] at hy
    obtain ⟨b, hb, rfl⟩ := Option.map_eq_some_iff.mp hy
    have eb := nl _ _ (fun _ z => by cases z) (key b (List.mem_of_getElem? hb))
    have hx' := Pl.same sH hx
    have hlen : (D4.take i).length < sizeLine := by rw [List.length_take, sizeLine_eq]; exact Nat.lt_of_le_of_lt (Nat.min_le_right _ _) (by simp [D4, B])
    have eD : D4[i]? = some (.bl (wholeV b.2.1 b.2.2 x)) := by simp only [D4, List.getElem?_map, hb, Option.map_some]
    refine ⟨b.1, _, rfl, .inl (.inl eb), rfl, _, _, rfl, _, _, rfl, rfl, ?_⟩
    have fin : ∀ v, v = V.bl (wholeV b.2.1 b.2.2 x) → ∃ v2 v3, [some x, some (.ref o), some (.int b.2.1), some (.int b.2.2), none, none] = [some x, some (V.ref o), v2, v3, none, none] ∧ Same H (upd H' o (.lst (D4.take i ++ [v]))) ∧ NL H5 (upd H' o (.lst (D4.take i ++ [v]))) ∧
        (upd H' o (.lst (D4.take i ++ [v]))) pt = some (.tup (B.map fun b => V.ref b.1)) ∧ (upd H' o (.lst (D4.take i ++ [v]))) o = some (.lst (D4.take (i + 1))) := by
      rintro v rfl
      have n' := nl_upd (l' := D4.take i ++ [.bl (wholeV b.2.1 b.2.2 x)]) eo
      exact ⟨_, _, rfl, sm_mut sH no, fun c u z e => n' c u z (nl c u z e), n' _ _ (fun _ z => by cases z) ept, by rw [upd_same, take_snoc eD]⟩
    refine ⟨_, rfl, .inl ⟨rfl, _, .inl (.inl eo)⟩, _, rfl, _, rfl, hx', _, rfl, ?_⟩
    cases x with
    | int n =>
      refine iteT ⟨_, rfl, _, rfl, _, _, rfl, rfl, _, rfl, ?_⟩
      by_cases h1 : b.2.1 ≤ n
      · rw [if_pos (decide_eq_true h1)]
        exact ⟨_, rfl, _, _, rfl, rfl, _, _, _, rfl, rfl, eo, hlen, fin _ (by simp [wholeV, h1])⟩
      · rw [if_neg (by simpa using h1)]
        exact ⟨_, _, _, rfl, rfl, eo, hlen, fin _ (by simp [wholeV, h1])⟩
    | _ => exact iteF ⟨_, _, _, rfl, rfl, eo, hlen, fin _ rfl⟩
  · rintro σ H' ⟨v2, v3, rfl, sH, nl, ept, eo⟩
    have hx' := Pl.same sH hx
    have e4 : D4.take (B.map fun b => V.ref b.1).length = D4 := rfl
    rw [e4] at eo
    refine ⟨_, rfl, _, rfl, hx', _, rfl, ?_⟩
    cases x with
    | str z =>
      have hs : z.length ≤ sizeLine := Nat.le_trans hx.1 (by rw [sizeLine_eq]; decide)
      refine iteF ⟨_, rfl, z, rfl, fun D nD => ?_⟩
      let f : V → Bool := fun v => match v with | .str y => !(y.cps.toList.all letter) | _ => false
      refine lc_pure (walk_sgn (z := z)) nD f id ?_ ?_ (fun _ _ => trivial) ?_ ?_ ?_
      · rw [sgn, List.length_map, sizeLine_eq]
        have := hx.1
        have : z.cps.toList.length = z.length := by simp [Str.length]
        omega
      · exact fun _ => rfl
      · intro v hv H2 s2 Q' k
        obtain ⟨c, _, rfl⟩ := List.mem_map.mp hv
        refine ⟨_, rfl, _, _, rfl, rfl, _, rfl, ?_⟩
        rw [mem_letters]
        have := k H2 (Same.refl _)
        simpa [f] using this
      · intro v hv _ H2 s2 Q' k
        exact ⟨_, rfl, k H2 (Same.refl _)⟩
      · intro H2 s2 hD
        rw [List.map_id] at hD
        have emp : ((sgn z).filter f).isEmpty = z.cps.toList.all letter := by
          rw [Bool.eq_iff_iff, List.isEmpty_iff, List.filter_eq_nil_iff, List.all_eq_true]
          simp only [sgn, List.mem_map]
          constructor
          · intro h c hc
            have := h _ ⟨c, hc, rfl⟩
            simpa [f] using this
          · rintro h _ ⟨c, hc, rfl⟩
            simpa [f] using h c hc
        have okz : ∀ v ∈ (sgn z).filter f, okV v = true := by
          intro v hv
          obtain ⟨c, hc, rfl⟩ := List.mem_map.mp (List.mem_filter.mp hv).1
          exact okS_one (okS_iff.mp hx.2 c hc)
        refine ⟨_, rfl, _, rfl, by simp, fun p np => ?_⟩
        have dt := dat_lst (K := K) (H := upd H2 p (.lst [])) (.inl (.inl (same_upd np _ _ hD))) okz
        refine eqD_nil dt upd_same (by decide) ⟨_, rfl, ?_⟩
        rw [List.isEmpty_map, emp]
        have s3 : Same H (upd H2 p (.lst [])) := (sH.trans s2).trans (same_upd np)
        have eo3 := same_upd (o := HO.lst []) np _ _ (s2 _ _ eo)
        have fin : ∀ v, v = V.bl (lampV (.str z)) → [v].length ≤ sizeLine ∧ ∀ q1, (upd H2 p (.lst [])) q1 = none → ∃ l b xs zs, V.ref o = .ref l ∧ V.ref q1 = .ref b ∧ SqL K (upd (upd H2 p (.lst [])) q1 (.lst [v])) l xs ∧ SqL K (upd (upd H2 p (.lst [])) q1 (.lst [v])) b zs ∧ xs.length + zs.length ≤ sizeLine ∧
            ∀ q2, (upd (upd H2 p (.lst [])) q1 (.lst [v])) q2 = none → Q (.ref q2) (upd (upd (upd H2 p (.lst [])) q1 (.lst [v])) q2 (.lst (xs ++ zs))) := by
          rintro v rfl
          refine ⟨by simp [sizeLine_eq], fun q1 m1 => ⟨_, _, _, _, rfl, rfl, .inl (.inl (same_upd m1 _ _ eo3)), .inl (.inl upd_same), by simp [sizeLine_eq, D4, B], fun q2 m2 => ?_⟩⟩
          exact q _ _ (sm_new (sm_new s3 m1) m2) ((sm_new s3 m1).free m2) upd_same
        cases eA : z.cps.toList.all letter with
        | false =>
          refine iteF (fin _ ?_)
          simp only [lampV, lampS, eA, Bool.and_false]
        | true =>
          refine iteT ⟨_, rfl, _, rfl, hs, _, _, rfl, rfl, _, rfl, ?_⟩
          by_cases h1 : (0 : Int) < z.length
          · rw [if_pos (decide_eq_true h1)]
            refine ⟨_, _, rfl, rfl, fin _ ?_⟩
            have a : 1 ≤ z.length := by omega
            have b : ((z.length : Int) < 9) = (z.length ≤ 8) := by apply propext; omega
            simp only [lampV, lampS, eA, Bool.and_true, a, b, decide_true, Bool.true_and]
          · rw [if_neg (by simpa using h1)]
            refine fin _ ?_
            have a : ¬ 1 ≤ z.length := by omega
            simp only [lampV, lampS, a, decide_false, Bool.false_and]
    | _ =>
      refine iteT ⟨_, rfl, by simp [sizeLine_eq], fun q1 m1 => ⟨_, _, _, _, rfl, rfl, .inl (.inl (same_upd m1 _ _ eo)), .inl (.inl upd_same), by simp [sizeLine_eq, D4, B], fun q2 m2 => ?_⟩⟩
      exact q _ _ (sm_new (sm_new sH m1) m2) ((sm_new sH m1).free m2) upd_same
theorem sc_law : FnScope ["_law_script", "_law_cell", "_law_thing_here", "_law_found", "_law_one"] ["_law_script"] (defScope s_law) := ⟨rfl, rfl, rfl, by decide +kernel, rfl, by decide +kernel, by decide +kernel⟩
theorem ok_law (T : Txt K mg) {fd : FuncData} (F : FunD K "law" "law" (defArgs s_law) (defBody s_law) (defScope s_law) [] [] (He.ga K "law") fd) : FnOk P w K mg base CX0 4 (He.ga K "law") fd ["_law_script"] (spLaw K) := by
  have d__law_thing := d__law_thing (P := P) (w := w) (base := base) T
  have d__law_told := d__law_told (P := P) (w := w) (base := base) T
  have d__law_due := d__law_due (P := P) (w := w) (base := base) T
  refine F.ok sc_law len1 fun cdv A outer s H vs Q E hr h => ?_
  obtain ⟨_, rfl, a, ns, rfl, hl, hS, q⟩ := h
  have hu := hu_of hr
  refine ⟨_, PSs.nox (pss_cons (ps_for PassesOwn.never rfl (pi_list (pe_op op_catS (pv 0) (pe_slice sl_list (pv 0) po_none (po_some pe_int)))) (pg_name (i := 1) sc_law.nd rfl (Or.inl rfl))
    (pss_cons (ps_set (i := 2) sc_law.nd rfl (Or.inl rfl) (pe_fn d__law_thing (hr.mono (by decide)) (by rfl) passL (pa_cons (pv 1) pa_nil)))
    (pss_cons (ps_set (i := 3) sc_law.nd rfl (Or.inl rfl) (pe_fn d__law_told (hr.mono (by decide)) (by rfl) passL (pa_cons (pv 2) pa_nil)))
    (pss_one (ps_if (PW.pt (pw_or (pt_cmpR (op_neD hr.units) (pv 3) (pe_fn d__law_due (hr.mono (by decide)) (by rfl) passL (pa_cons (pv 2) pa_nil)) (nomark _)) (pw_or1 (pt_cmpR (op_neD hr.units) (pe_lc (own := [("_law_one", 4)]) rfl sc_law.nd (pi_list (pv 3)) (blkOk_by (own := [("_law_one", 4)]) (N := ["_law_script", "_law_cell", "_law_thing_here", "_law_found", "_law_one"]) (sc := defScope s_law) (by decide +kernel)) (fun _ _ _ _ _ => pg_name (i := 4) sc_law.nd rfl (Or.inl rfl)) (fun _ _ _ _ _ => (pts_one (pt_not (pt_val (pe_callB call_isBl (by rfl) T.z_isinstance (by decide +kernel) (pa_cons (pv 4) (pa_cons (pe_bltn (v := .ty "bool") rfl T.z_bool (by decide +kernel) rfl) pa_nil))))))) (fun _ _ _ _ _ => (pv 4))) (pe_lst pa_nil) (nomark _)))))
    (pss_one (ps_ret pe_bl))
    pss_nil)))))
    (pss_one (ps_ret (pe_cmpR (op_eqD hr.units) (pe_fn d__law_told (hr.mono (by decide)) (by rfl) passL (pa_cons pe_str pa_nil)) (pe_lst (pa_cons pe_bl (pa_cons pe_bl (pa_cons pe_bl (pa_cons pe_bl (pa_cons pe_bl pa_nil)))))) (nomark _))))), ?_⟩
  have hlen : (ns.map V.int).length ≤ 63 := by rw [List.length_map]; exact hl
  have hcut := cutV_length (ns.map V.int) none (some 9)
  refine ⟨_, rfl, _, rfl, _, rfl, a, _, rfl, hS, fun p np => ?_⟩
  have s1 := same_upd (o := HO.lst (cutV (ns.map V.int) none (some 9))) np
  refine ⟨_, _, _, _, rfl, rfl, s1.seq hS, .inl (.inl upd_same), by rw [sizeLine_eq]; omega, fun l nl => ?_⟩
  have s2 := s1.trans (same_upd (o := HO.lst (ns.map V.int ++ cutV (ns.map V.int) none (some 9))) nl)
  have hall : ∀ x ∈ ns.map V.int ++ cutV (ns.map V.int) none (some 9), ∃ i, x = V.int i := by
    intro x hx
    have : x ∈ ns.map V.int := by
      rcases List.mem_append.mp hx with h | h
      · exact h
      · exact List.mem_of_mem_drop (List.mem_of_mem_take h)
    obtain ⟨i, _, rfl⟩ := List.mem_map.mp this
    exact ⟨i, rfl⟩
  generalize ns.map V.int ++ cutV (ns.map V.int) none (some 9) = xs at hall s2 ⊢
  generalize e : upd (upd H p (.lst (cutV (ns.map V.int) none (some 9)))) l (.lst xs) = H1 at s2 ⊢
  have el : H1 l = some (.lst xs) := by rw [← e]; exact upd_same
  clear e
  refine ⟨l, rfl, ⟨_, .inl (.inl el)⟩, for_list (K := K) (a := l) (xs := xs) (fun i σ H' => ∃ v1 v2 v3, σ = [some (.ref a), v1, v2, v3, none] ∧ Same H1 H') ⟨none, none, none, rfl, Same.refl _⟩ (fun i σ H' _ ⟨_, _, _, _, h⟩ => .inl (.inl (h _ _ el))) ?_ ?_⟩
  · rintro i x σ H' hx ⟨v1, v2, v3, rfl, sH⟩
    obtain ⟨z, rfl⟩ := hall x (List.mem_of_getElem? hx)
    refine ⟨_, rfl, _, rfl, z, rfl, fun v H2 s2 pv => ?_⟩
    refine ⟨_, rfl, _, rfl, pv, fun f H3 s3 _ ef => ?_⟩
    refine ⟨_, rfl, _, rfl, _, rfl, Pl.same s3 pv, fun g H4 s4 _ eg => ?_⟩
    have df := dat_lst (K := K) (H := H4) (.inl (.inl (s4 _ _ ef))) (due_ok v)
    have dg := dat_lst (K := K) (.inl (.inl eg)) (due_ok v)
    refine neD_same df dg (by decide) ⟨_, rfl, iteF ?_⟩
    refine ⟨_, rfl, f, rfl, ⟨_, .inl (.inl (s4 _ _ ef))⟩, fun D nD => ?_⟩
    refine lc_pure (walk_list (K := K) (a := f) (xs := dueV v)) nD (fun _ => false) id (by simp [dueV, sizeLine_eq]) (fun _ => rfl) (fun H5 s5 => .inl (.inl (s5 _ _ (s4 _ _ ef)))) ?_ ?_ ?_
    · intro y hy H5 s5 Q' k
      have hb : isBl y = true ∧ Pl H5 y := by
        simp only [dueV, List.mem_cons, List.not_mem_nil, or_false] at hy
        rcases hy with rfl | rfl | rfl | rfl | rfl <;> exact ⟨rfl, trivial⟩
      refine ⟨_, rfl, _, rfl, hb.2, _, rfl, ?_⟩
      rw [hb.1]
      exact k H5 (Same.refl _)
    · intro y hy h
      cases h
    · intro H5 s5 hD
      refine ⟨by simp, fun e ne => ?_⟩
      have d1 := dat_lst (K := K) (H := upd H5 e (.lst [])) (.inl (.inl (same_upd ne _ _ hD))) (by simp)
      refine neD_nil d1 upd_same (by decide) ⟨_, rfl, ?_⟩
      have : (List.map dV (List.map id (List.filter (fun _ => false) (dueV v)))).isEmpty = true := by simp
      rw [this]
      refine iteF ⟨_, _, _, rfl, sm_new (((sH.trans s2).trans s3).trans (s4.trans s5)) ne⟩
  · rintro σ H' ⟨v1, v2, v3, rfl, sH⟩
    refine ⟨_, rfl, (⟨by decide +kernel, by decide +kernel⟩ : Pl H' (.str "red")), fun f H3 s3 _ ef => ⟨by simp [sizeLine_eq], fun g ng => ?_⟩⟩
    have ed : dueV (.str "red") = [.bl false, .bl false, .bl false, .bl false, .bl true] := by decide +kernel
    have okd := due_ok (.str "red")
    rw [ed] at ef okd
    exact eqD_same (dat_lst (K := K) (.inl (.inl (same_upd ng _ _ ef))) okd) (dat_lst (K := K) (.inl (.inl upd_same)) okd) (by decide) (q _)
end

end Cue
open PySem PySem.W PySem.Calls PyProof.Rows
set_option maxHeartbeats 0 in
theorem PySem.Challenge.cw_cuehall_k01_kinds_holds : PySem.Challenge.rw_cuehall_k01_kinds.Holds := by
  w_on; o_law
  refine HandSHeadRun.head_any (r := OpenLaw.row PySem.Challenge.rw_cuehall_k01_kinds) (q := view (OpenLaw.row PySem.Challenge.rw_cuehall_k01_kinds).prog [19]) (H := Cue.hk) (ob := Cue.ob) (M := 4000) (loose := Cue.loose) (d := HandSHeadRun.topDef (OpenLaw.row PySem.Challenge.rw_cuehall_k01_kinds).prog 19) (kwd := []) Cue.ob_eq
    (by kernel_rfl) (fun s => by kernel_rfl) Cue.run (by kernel_rfl) (by kernel_rfl) (by kernel_rfl) (by rfl) (by first | assumption | decide +kernel) (by decide +kernel) ⟨rfl, rfl, rfl, rfl, rfl, by decide +kernel⟩ ?hw ?hc
  case hw => w_witness2
  case hc =>
    refine L2.walk_ofE (l := PySem.Challenge.rw_cuehall_k01_kinds) (n := 63) (k := 4) (x := "_law_script") (CX := L2.CX0) rfl (by decide) (by kernel_rfl) ⟨rfl, by decide, by decide⟩ ?F (fun _ _ _ _ z => z)
    intro w mg fa h Y G hmg0
    obtain ⟨K, KX, c⟩ := Y
    have T := Cue.txt_of KX G c
    have hmg : mg ("law" : PySem.Str) = some (.ref fa) := by
      have e : (HandSHeadRun.topDef (OpenLaw.row PySem.Challenge.rw_cuehall_k01_kinds).prog 19).name = ("law" : PySem.Str) := by kernel_rfl
      rw [← e]
      exact hmg0
    obtain ⟨fd, F⟩ := T.d_law
    have e := hmg.symm.trans T.g_law
    cases e
    have b := L2.FunD.bindsA (ps := ["_law_script"]) F fun _ _ _ _ _ _ us hl => match us, hl with | [_], _ => rfl
    exact ⟨K, fd, Cue.spLaw K, KX, fun s v => b s [v] rfl, fun H a ns hl _ hS => ⟨_, rfl, a, ns, rfl, hl, hS, fun _ => rfl⟩, fun base hb hg => Cue.ok_law T F⟩
#print axioms PySem.Challenge.cw_cuehall_k01_kinds_holds

