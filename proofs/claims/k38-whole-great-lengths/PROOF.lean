import PyProof.Rows.All
import Wide.All
import OpenK.AllK
import Wide.FinOn
import HandS.ForMost
import HandS.Codes
import HandS.Conv
import HandS.Defaults
import HandS.MakeKw
import HandS.Style
import HandS.IsInst
import HandS.DictComp
import PyProof.StrBlock2
import PyProof.Draws
import KE.GoesEnum
import PySem.Challenge.RW_joinrounds_k38_whole_great_lengths
import KE.GoesMore
import HandS.Walk
import HandS.Ends
import HandS.HeadEnd
import Lean
import HandS.HeadHook1
import HandS.HeadHook2
import HandS.Head0
import HandS.Head1
import HandS.Head2
set_option Elab.async false
set_option linter.all false
set_option maxRecDepth 100000
set_option maxHeartbeats 4000000
/-! J0: the text by places; what a def, a method, a class gives to its callers; rules of my own: repr of a list of ints, a text times an int, enumerate of a tuple. -/
namespace JR
open PySem PySem.Spec PyProof.Rows L2
/-- the j-th statement of the program's top -/
def topS (i : Nat) : Stmt := PySem.Challenge.pw_joinrounds_k38_whole_great_lengths.main.body.getD i (.Pass ⟨0, 0, 0, 0⟩)

section
variable (P : Program) (w : World) (K : PySem.W.Frag) (mg : Str → Option Value) (base : Heap)
/-- a def of the module as the top leaves it (no defaults) -/
def DefAt (x : Str) (st : Stmt) : Prop := ∃ f fd, FunD K x x (defArgs st) (defBody st) (defScope st) [] [] f fd ∧ mg x = some (.ref f)
/-- a method (no defaults) of the class at C -/
def MetAt (C : Addr) (m q : Str) (st : Stmt) : Prop := ∃ f fd, FunD K m q (defArgs st) (defBody st) (defScope st) [] [] f fd ∧ Meth K C m f
/-- a class's __init__ (with these defaults) -/
def IniAt (x : Str) (C : Addr) (q : Str) (st : Stmt) (dvs : List V) : Prop := ∃ f fd, FunD K "__init__" q (defArgs st) (defBody st) (defScope st) dvs [] f fd ∧ Mk K C f ∧ mg x = some (.ref C)
/-- a def that may be called by its name -/
def Fn (k : Nat) (x : Str) (sp : Sp) : Prop := ∃ f fd ps, FnOk P w K mg base CX0 k f fd ps sp ∧ mg x = some (.ref f) ∧ PySem.W.keepIn K (.ref f) = true ∧ Binds K fd ps []
/-- a method of the class at C -/
def Mt (k : Nat) (C : Addr) (m : Str) (sp : Sp) : Prop := ∃ f fd ps, FnOk P w K mg base CX0 k f fd ps sp ∧ Meth K C m f ∧ Cls K C ∧ Binds K fd ps []
/-- a class that may be made by its name, so many arguments written, dvs behind them -/
def Mr (k : Nat) (x : Str) (C : Addr) (sp : Sp) (dvs : List V) : Prop := ∃ f fd ps ds, FnOk P w K mg base CX0 k f fd ps sp ∧ Mk K C f ∧ mg x = some (.ref C) ∧ Binds K fd ps ds ∧ Vals dvs ds
/-- .. with keywords -/
def Mw (k : Nat) (x : Str) (C : Addr) (sp : Sp) (n : Nat) (ks : List Str) (gV : List V → List V → List V) : Prop :=
  ∃ f fd ps g, FnOk P w K mg base CX0 k f fd ps sp ∧ Mk K C f ∧ mg x = some (.ref C) ∧ KBn K fd ps (n + 1) ks g gV
end
section
variable {P : Program} {w : World} {K : PySem.W.Frag} {mg : Str → Option Value} {base : Heap}
/-- from a def's body to what callers use -/
theorem DefAt.fn {x : Str} {st : Stmt} {N ps : List Str} {k : Nat} {sp : Sp} (D : DefAt K mg x st) (S : FnScope N ps (defScope st))
    (hb : ∀ (kV doc pm : Value) (an : Option Addr) (cdv ct : Value) (us : List Value), us.length = ps.length → bindArgs (PySem.W.fnOf x x (defArgs st) (defBody st) (defScope st) .none kV doc pm an cdv ct) ⟨us, []⟩ = pure (ps.zip us))
    (len : ∀ vs H Q E, sp vs H Q E → vs.length = ps.length)
    (hbody : ∀ (f : Addr) (cdv : Value) (A : Around) (outer : List Env) (s : Shared) (H : Hp) (vs : List V) (Q : VK) (E : XK), Room k (A.deeper (envOfC x (defScope st) s.heap.objs.size f cdv)) → sp vs H Q E →
      ∃ t, PSs (cxOf CX0 P w K mg base N x (defScope st) f cdv A outer s H E).nox (defBody st) t ∧ t { nx := fun _ H' => Q .non H', rt := Q } (start N vs) H) : Fn P w K mg base (k + 1) x sp := by
  obtain ⟨f, fd, F, hm⟩ := D
  refine ⟨f, fd, ps, F.ok S len fun cdv A outer s H vs Q E hr h => ?_, hm, F.kp, F.bindsN hb⟩
  obtain ⟨t, h1, h2⟩ := hbody f cdv A outer s H vs Q E hr h
  exact ⟨t, h1.nox, h2⟩
theorem MetAt.mt {C : Addr} {m q : Str} {st : Stmt} {N ps : List Str} {k : Nat} {sp : Sp} (c : Cls K C) (D : MetAt K C m q st) (S : FnScope N ps (defScope st))
    (hb : ∀ (kV doc pm : Value) (an : Option Addr) (cdv ct : Value) (us : List Value), us.length = ps.length → bindArgs (PySem.W.fnOf m q (defArgs st) (defBody st) (defScope st) .none kV doc pm an cdv ct) ⟨us, []⟩ = pure (ps.zip us))
    (len : ∀ vs H Q E, sp vs H Q E → vs.length = ps.length)
    (hbody : ∀ (f : Addr) (cdv : Value) (A : Around) (outer : List Env) (s : Shared) (H : Hp) (vs : List V) (Q : VK) (E : XK), Room k (A.deeper (envOfC q (defScope st) s.heap.objs.size f cdv)) → sp vs H Q E →
      ∃ t, PSs (cxOf CX0 P w K mg base N q (defScope st) f cdv A outer s H E).nox (defBody st) t ∧ t { nx := fun _ H' => Q .non H', rt := Q } (start N vs) H) : Mt P w K mg base (k + 1) C m sp := by
  obtain ⟨f, fd, F, hm⟩ := D
  refine ⟨f, fd, ps, F.ok S len fun cdv A outer s H vs Q E hr h => ?_, hm, c, F.bindsN hb⟩
  obtain ⟨t, h1, h2⟩ := hbody f cdv A outer s H vs Q E hr h
  exact ⟨t, h1.nox, h2⟩
/-- a promise that nothing can ask is kept -/
theorem fnok_none {k : Nat} {f : Addr} {fd : FuncData} {ps : List Str} {sp : Sp} (no : ∀ vs H Q E, ¬ sp vs H Q E) : FnOk P w K mg base CX0 k f fd ps sp :=
  ⟨fun vs H Q E h => absurd h (no vs H Q E), fun A outer s H args us vs Q E _ _ _ _ h => absurd h (no vs H Q E)⟩
theorem Fn.imp {k : Nat} {x : Str} {sp sp' : Sp} (c : Fn P w K mg base k x sp) (h : ∀ vs H Q E, sp' vs H Q E → sp vs H Q E) : Fn P w K mg base k x sp' := by
  obtain ⟨f, fd, ps, F, r⟩ := c
  exact ⟨f, fd, ps, F.imp h, r⟩
theorem Mt.imp {k : Nat} {C : Addr} {m : Str} {sp sp' : Sp} (c : Mt P w K mg base k C m sp) (h : ∀ vs H Q E, sp' vs H Q E → sp vs H Q E) : Mt P w K mg base k C m sp' := by
  obtain ⟨f, fd, ps, F, r⟩ := c
  exact ⟨f, fd, ps, F.imp h, r⟩
end
section
variable {X : Cx} {k j n : Nat} {C : Addr} {x m : Str} {sp : Sp} {dvs : List V} {p pos apos : Pos} {e o : Expr} {es : List Expr} {kws : List Keyword} {ta : TE} {t tk : TA} {ks : List Str} {gV : List V → List V → List V}
theorem pe_fn (c : Fn X.prog X.w X.K X.mg X.base k x sp) (hr : Room j X.A) (hk : k ≤ j) (hg : Gl X x) (ha : PA X (e :: es) t)
    (hdb : (x == ("__debug__" : Str)) = false := by decide) (he : starEach (e :: es) X.env = (false, eval e X.env) :: starEach es X.env := by rfl) (hpl : (backTo pos (starEach es X.env)).any (·.1) = false := by rfl) :
    PE X (.Call (.Name x p) (e :: es) [] pos) (tCall sp [] E0 t) := by
  obtain ⟨f, fd, ps, F, hm, kp, b⟩ := c
  exact pe_call F (hr.mono hk) hg hm kp b .nil pass0 ha hdb he hpl
theorem pe_met {pl : Sem Bool} (c : Mt X.prog X.w X.K X.mg X.base k C m sp) (hr : Room j X.A) (hk : k ≤ j) (he : PE X o ta) (ha : PA X (e :: es) t)
    (hst : starEach (e :: es) X.env = (false, eval e X.env) :: starEach es X.env := by rfl) (hpl : (backTo pos (starEach es X.env)).any (·.1) = false := by rfl)
    (ht : eval (.Call (.Attribute o m apos) (e :: es) [] pos) X.env = (do
      let ov ← eval o X.env
      standAt apos.atName
      let (f, first) ← holding [ov] (getMethod ov m pl)
      callWith pos f first (backTo pos (starEach (e :: es) X.env)) (backToKw pos (keywordEach [] X.env))) := by rfl) :
    PE X (.Call (.Attribute o m apos) (e :: es) [] pos) (tMeth C m sp [] E0 ta t) := by
  obtain ⟨f, fd, ps, F, hm, cl, b⟩ := c
  exact pe_meth (pl := pl) he cl hm F (hr.mono hk) b .nil pass0 ha hst hpl ht
theorem pe_mkr (c : Mr X.prog X.w X.K X.mg X.base k x C sp dvs) (hr : Room j X.A) (hk : k + 1 ≤ j) (hg : Gl X x) (ha : PA X (e :: es) t)
    (hdb : (x == ("__debug__" : Str)) = false := by decide) (he : starEach (e :: es) X.env = (false, eval e X.env) :: starEach es X.env := by rfl) (hpl : (backTo pos (starEach es X.env)).any (·.1) = false := by rfl) :
    PE X (.Call (.Name x p) (e :: es) [] pos) (tMake C sp dvs E0 t) := by
  obtain ⟨f, fd, ps, ds, F, M, hm, b, d⟩ := c
  exact pe_make M F (hr.mono hk) hg hm b d pass0 ha hdb he hpl
theorem pe_mkn (c : Mw X.prog X.w X.K X.mg X.base k x C sp n ks gV) (hr : Room j X.A) (hk : k + 1 ≤ j) (hg : Gl X x)
    (ha : PA X (e :: es) t) (hkw : PK X kws tk) (hall : (backToKw pos (keywordEach kws X.env)).all (·.1.isSome) = true := by rfl) (hks : (backToKw pos (keywordEach kws X.env)).filterMap (·.1) = ks := by rfl)
    (hdb : (x == ("__debug__" : Str)) = false := by decide) (he : starEach (e :: es) X.env = (false, eval e X.env) :: starEach es X.env := by rfl)
    (hpl : ((backTo pos (starEach (e :: es) X.env)).any (·.1) || (backToKw pos (keywordEach kws X.env)).any (·.1.isNone)) = false := by rfl) :
    PE X (.Call (.Name x p) (e :: es) kws pos) (tMakeN C n ks.length sp gV E0 t tk) := by
  obtain ⟨f, fd, ps, g, F, M, hm, b⟩ := c
  exact pe_makeN M F (hr.mono hk) hg hm b pass0 ha hkw hall hks hdb he hpl
end

/-! ### a text times an int -/
section
variable {X : Cx}
def rMulS : R2 := fun x y H Q => ∃ (z : Str) (n : Int), x = .str z ∧ y = .int n ∧ MulOk z n ∧ Q (.str (Txt.mul z n)) H
theorem op_mulS : OpR X (binaryOp .Mult) rMulS := by
  intro pins s σ H x y v u Q I rx ry h
  obtain ⟨z, n, rfl, rfl, hk, q⟩ := h
  obtain ⟨t, rfl⟩ := rx
  obtain ⟨t', rfl⟩ := ry
  exact SB.mul hk fun t2 k => ⟨.str _, H, I.tok _, ⟨_, rfl⟩, q⟩
end
/-! ### rules with the written part told (for the elements of comprehensions) -/
section
variable {X : Cx}
theorem ixK_list (K : PySem.W.Frag) (h : X.K = K := by rfl) : IxR X (rIxL K) := h ▸ ix_list
theorem ixK_tup (K : PySem.W.Frag) (h : X.K = K := by rfl) : IxR X (rIxT K) := h ▸ ix_tup
theorem slK_list (K : PySem.W.Frag) (h : X.K = K := by rfl) : SlR X (rSlL K) := h ▸ sl_list
theorem lenK_seq (K : PySem.W.Frag) (h : X.K = K := by rfl) : CallR X (.builtin "len") (fun xs H Q => ∃ p ys, xs = [.ref p] ∧ (SqL K H p ys ∨ SqT K H p ys) ∧ Q (.int ys.length) H) := h ▸ call_len_seq
theorem peK_fld (K : PySem.W.Frag) {e : Expr} {f : Str} {pos : Pos} {ta : TE} (he : PE X e ta) (hb : attributeBase e f X.env (eval e X.env) = eval e X.env) (h : X.K = K := by rfl) : PE X (.Attribute e f pos) (tFld K ta f) := h ▸ pe_fld he hb
theorem piK_list (K : PySem.W.Frag) {tg l : Expr} {tl : TE} (hl : PE X l tl) (h : X.K = K := by rfl) : PI X tg l (iList K tl) := h ▸ pi_list hl
theorem piK_tup (K : PySem.W.Frag) {tg l : Expr} {tl : TE} (hl : PE X l tl) (h : X.K = K := by rfl) : PI X tg l (iTup K tl) := h ▸ pi_tup hl
def tJoin (K : PySem.W.Frag) (to te : TE) : TE := tM1 (fun x xs H Q => ∃ a p, ∃ ys : List Str, x = .str a ∧ xs = [.ref p] ∧ (SqL K H p (ys.map V.str) ∨ SqT K H p (ys.map V.str)) ∧ (ys.map (·.length)).sum + ys.length * a.length ≤ 16777216 ∧ Q (.str (Txt.join a ys)) H) to te
theorem peK_join (K : PySem.W.Frag) {o e : Expr} {apos pos : Pos} {to te : TE} (hj : PE X (.Call (.Attribute o "join" apos) [e] [] pos) (tJoin X.K to te)) (h : X.K = K := by rfl) : PE X (.Call (.Attribute o "join" apos) [e] [] pos) (tJoin K to te) := h ▸ hj
end
end JR
/-! J1: enumerate over a tuple; repr of a tracked list of two ints where nothing is being shown. -/
namespace JR
open PySem PySem.Spec PyProof.Rows L2

/-! ### enumerate over a tuple -/
section
open Sem (wp)
open AutoSeq1 (wpAny_loadPart')
/-- the two objects that enumerate(t) makes, and the heap with both -/
abbrev tupIt (l : Addr) : Obj := { cls := .type "tuple_iterator", data := .fields #[.ref l, .int 0 0] }
abbrev enuOb (it : Addr) : Obj := { cls := .type "enumerate", data := .fields #[.none, .bool false, .ref it, rawInt 0, .none, .none] }
abbrev enuHp (h : Heap) (l : Addr) : Heap := (h.push (tupIt l)).push (enuOb h.objs.size)
theorem enuT_new (l : Addr) (items : Array Value) : Meets (Builtin.«enumerate.__new__» ⟨[.type "enumerate", .ref l], []⟩)
    (fun _ R s => s.heap.IsTuple l items ∧ R (.ok (.ret (.ref (s.heap.push (tupIt l)).objs.size))) { s with heap := enuHp s.heap l }) :=
  .of_wp fun _ _ _ R st wish => by
    obtain ⟨heap, gens, dct, toks, os⟩ := st
    obtain ⟨tup, goal⟩ := wish
    obtain ⟨⟨cl, di, da, so⟩, place, isT, k, isS⟩ := id tup
    have isT : cl = .type "tuple" := isT
    have isS : da = .seq items k := isS
    subst isT; subst isS
    have sub := sub_enumerate
    wp_walk using wpAny_loadPart' place
    refine wpAny_stack_any fun frames => wpAny_pure ?_
    split
    · rename_i cls _ _ _ _ _
      cases (cls == Value.type "enumerate") <;> (wp_walk using wpAny_loadPart' place, wpAny_pyIter_tuple tup; exact ⟨_, rfl, goal⟩)
    · wp_walk using wpAny_loadPart' place, wpAny_pyIter_tuple tup; exact ⟨_, rfl, goal⟩
theorem enuHp_old {h : Heap} {l b : Addr} {o : Obj} (at_b : h.get? b = some o) : (enuHp h l).get? b = some o := Heap.get?_push_of_some _ (Heap.get?_push_of_some _ at_b)
theorem enuHp_enu (h : Heap) (l : Addr) : IsEnum (enuHp h l) (h.objs.size + 1) h.objs.size 0 .none := by
  have size : (h.push (tupIt l)).objs.size = h.objs.size + 1 := Heap.size_push ..
  have last := Heap.get?_push_size (h.push (tupIt l)) (o := enuOb h.objs.size) rfl
  rwa [size] at last
theorem enuT_call {prog : Program} {w : World} {A : Around} {E : Value → Shared → Prop} {s : Shared} {l : Addr} {items : Array Value} {Q : Value → Shared → Prop} (tup : s.heap.IsTuple l items) (goal : Q (.ref (s.heap.objs.size + 1)) { s with heap := enuHp s.heap l }) :
    wpAny (model prog w) A (call (.type "enumerate") [.ref l]) Q E s := by
  have size : (s.heap.push (tupIt l)).objs.size = s.heap.objs.size + 1 := Heap.size_push ..
  refine callType_new F.called_enumerate (by decide) (F.typeCall_enumerate_1 _) (F.newCall_enumerate_1 _) (fun ob => F.args_object_init_2 ob _) F.entry_enumerate_new (enuT_new l items) ⟨tup, ?_⟩
  show _ ∧ _
  rw [size]
  exact ⟨⟨_, enuHp_enu s.heap l, rfl⟩, goal⟩
end
/-- the tuple at a as it stands at each turn, each item in a new pair -/
def ItU (K : PySem.W.Frag) (a : Addr) : It :=
  ⟨fun i H => ∃ (xs : List V) (x : V), SqT K H a xs ∧ xs[i]? = some x, fun i H v H' => ∃ T x, v = .ref T ∧ H T = none ∧ H' = upd H T (.tup [.int (i : Nat), x]) ∧ ∀ xs, SqT K H a xs → xs[i]? = some x, fun i H => ∃ xs : List V, SqT K H a xs ∧ xs.length = i⟩
/-- the walker behind i turns: e the enumerate, it its tuple iterator -/
def EnT (a e it : Addr) (i : Nat) (h : Heap) : Prop := (∃ last, IsEnum h e it ((i : Nat) : Int) last) ∧ h.IsTupleIter it a i ∧ e ≠ it
theorem one_of {e it b : Addr} (h : b ∈ [e, it]) : b = e ∨ b = it := by
  rcases h with _ | ⟨_, _ | ⟨_, no⟩⟩
  · exact .inl rfl
  · exact .inr rfl
  · exact nomatch no
theorem not_two {e it b : Addr} (h : b ∉ [e, it]) : b ≠ e ∧ b ≠ it := ⟨fun z => h (z ▸ List.mem_cons_self), fun z => h (z ▸ List.mem_cons_of_mem _ List.mem_cons_self)⟩
theorem EnT.size {a e it : Addr} {i : Nat} {h : Heap} (st : EnT a e it i h) {b : Addr} (hb : b ∈ [e, it]) : b < h.objs.size := by
  obtain ⟨⟨_, enu⟩, ⟨_, tit, _⟩, _⟩ := st
  cases one_of hb with
  | inl z => subst z; exact Heap.lt_size enu
  | inr z => subst z; exact Heap.lt_size tit
section
variable {X : Cx} {pins : List (Addr × Obj)} {s : Shared} {σ : L2.St} {H : Hp} {E : Value → Shared → Prop} {a e it : Addr} {i : Nat}
/-- one turn: the next item of the tuple, in a new pair -/
theorem enuT_item {elts : List Expr} {kk : Nat} {tpos : Pos} (I : Inv X pins σ H s) (calm : X.A.handled = none) (own : ∀ b ∈ [e, it], FpOk X pins H b) (st : EnT a e it i s.heap) (ae : a ≠ e) (ai : a ≠ it) (go : (ItU X.K a).go i H) :
    wpAny (model X.prog X.w) X.A (pyNext (.ref e)) (fun r s1 => ∃ u, r = some u ∧ wpAny (model X.prog X.w) X.A (letOwnedTupleGo (.Tuple elts kk tpos) (.ref e) u)
      (fun _ s2 => ∃ x H', Inv X pins σ H' s2 ∧ RelV x u ∧ (ItU X.K a).yld i H x H' ∧ EnT a e it (i + 1) s2.heap ∧ ∀ b ∈ [e, it], H' b = none) E s1) E s := by
  have inOld := fun b hb => st.size (b := b) hb
  obtain ⟨⟨last, enu⟩, tit, part⟩ := st
  obtain ⟨xs, x, tup, at_x⟩ := go
  obtain ⟨us, vals, place, _⟩ := I.tuple tup
  obtain ⟨u, at_u, rel⟩ := vals.get at_x
  have place : s.heap.IsTuple a us.toArray := place
  have more : i < us.toArray.size := by simpa using (List.getElem?_eq_some_iff.mp at_u).1
  refine wpAny_pyNext_enum_itemD (Draws.tuple (A := X.A.in1) calm it a ai us.toArray) enu ⟨tit, place⟩ more part (by simp [part, ae.symm]) fun v h1 tok at_v enu1 tit1 pair _ stay => ⟨_, rfl, ?_⟩
  have same : v = u := Option.some.inj (at_v.symm.trans (by simpa using at_u))
  subst same
  refine wpAny_letOwnedTupleGo_enum (s := { s with heap := h1, toks := tok + 1 }) enu1 fun h2 enu2 set => ?_
  have pair2 : h2.get? s.heap.objs.size = some { cls := .type "tuple", data := .seq #[.int i tok, v] } := (set.2 _ (Nat.ne_of_gt (inOld e List.mem_cons_self))).trans pair
  have made : ObjOk X.prog X.w (upd H s.heap.objs.size (.tup [.int (i : Nat), x])) h2 s.heap.objs.size (.tup [.int (i : Nat), x]) := ⟨Nat.le_of_ble_eq_true rfl, [.int i tok, v], .cons ⟨tok, rfl⟩ (.cons rel .nil), _, pair2, rfl, _, rfl⟩
  have kept : ∀ b o, b ∉ [e, it] → s.heap.get? b = some o → h2.get? b = some o := fun b o off at_b => by
    rw [set.2 b (not_two off).1]
    exact stay b o (not_two off).1 (not_two off).2 at_b
  refine ⟨.ref s.heap.objs.size, _, I.turnedNew (t' := tok + 1) (ch := [e, it]) kept own (Nat.le_refl _) made, rfl, ⟨_, x, rfl, I.hok.fresh (Nat.le_refl _), rfl, fun ys again => ?_⟩, ⟨⟨v, ?_⟩, tit1.1.at fun o q => (set.2 it part.symm).trans q, part⟩, fun b hb => ?_⟩
  · rw [I.tuple_inj again tup]
    exact at_x
  · rw [show ((i + 1 : Nat) : Int) = (i : Int) + 1 from rfl]
    exact enu2
  · rw [upd_ne (Nat.ne_of_lt (inOld b hb))]
    exact (own b hb).1
/-- no turn more -/
theorem enuT_end (I : Inv X pins σ H s) (calm : X.A.handled = none) (own : ∀ b ∈ [e, it], FpOk X pins H b) (st : EnT a e it i s.heap) (ai : a ≠ it) (stop : (ItU X.K a).stop i H) :
    wpAny (model X.prog X.w) X.A (pyNext (.ref e)) (fun r s1 => r = none ∧ Inv X pins σ H s1) E s := by
  obtain ⟨⟨last, enu⟩, tit, part⟩ := st
  obtain ⟨xs, tup, past⟩ := stop
  obtain ⟨us, vals, place, _⟩ := I.tuple tup
  have place : s.heap.IsTuple a us.toArray := place
  have all : us.toArray.size = i := by simpa [← vals.length] using past
  subst all
  obtain ⟨o1, o2, o3, o4, o5, o6⟩ := own it (List.mem_cons_of_mem _ List.mem_cons_self)
  exact wpAny_pyNext_enum_endD (Draws.tuple (A := X.A.in1) calm it a ai us.toArray) enu ⟨tit, place⟩ fun h1 stay => ⟨rfl, I.turned (t' := s.toks) (fun b o off at_b => stay b o off at_b) o1 o2 o4 o5 o6⟩
end
theorem turn_enumT {P : Program} {w : World} {K : PySem.W.Frag} {elts : List Expr} {kk : Nat} {tpos : Pos} (a e it : Addr) (ai : a ≠ it) (ae : a ≠ e) : Turn P w K (.Tuple elts kk tpos) (ItU K a) [e, it] e (EnT a e it) where
  mem := List.mem_cons_self
  obj := fun i h st b hb => by
    obtain ⟨⟨_, enu⟩, ⟨o, tit, _, flds⟩, _⟩ := st
    cases one_of hb with
    | inl z => subst z; exact ⟨_, enu, fun _ no => nomatch no⟩
    | inr z => subst z; exact ⟨o, tit, fun _ no => by rw [flds] at no; exact nomatch no⟩
  keep := fun i h h' st stay => ⟨st.1.imp fun _ enu => stay e List.mem_cons_self _ enu, st.2.1.at fun o q => stay it (List.mem_cons_of_mem _ List.mem_cons_self) o q, st.2.2⟩
  item := fun X e1 e2 e3 cl i pins s σ H E I own st go => by
    subst e1; subst e2; subst e3
    exact enuT_item I (I.ok.hd cl) own st ae ai go
  done := fun X e1 e2 e3 cl i pins s σ H E I own st stop => by
    subst e1; subst e2; subst e3
    exact enuT_end I (I.ok.hd cl) own st ai stop
  self := fun _ i s Q E st goal => st.1.elim fun _ enu => wpAny_pyIter_enum enu goal
def iEnumT (K : PySem.W.Frag) (ta : TA) : TI := fun σ H R => ta σ H fun vs H1 => ∃ a xs, vs = [.ref a] ∧ SqT K H1 a xs ∧ R (ItU K a) H1
theorem pi_enumT {X : Cx} {e : Expr} {ta : TA} {p pos tpos : Pos} {elts : List Expr} {kk : Nat} (hg : Gl X "enumerate") (hm : X.mg "enumerate" = none) (ha : PA X [e] ta) (hs : starEach [e] X.env = [(false, eval e X.env)] := by rfl) :
    PI X (.Tuple elts kk tpos) (.Call (.Name "enumerate" p) [e] [] pos) (iEnumT X.K ta) where
  run := fun pins s σ H R I wish => by
    refine Call_ (ld_blt I hg hm boot_enumerate (PyProof.Rows.callWith_type1 (thn (ha.run pos pins s σ H _ I wish) fun us s1 got => ?_) hs rfl))
    obtain ⟨vs, H1, I1, rel, a, xs, one, tup, next⟩ := got
    subst one
    obtain ⟨u, rfl, ru⟩ := vals1 rel
    cases ru
    obtain ⟨us, vals, place, _⟩ := I1.tuple tup
    have place : s1.heap.IsTuple a us.toArray := place
    have low : a < s1.heap.objs.size := by
      obtain ⟨_, at_a, _⟩ := id place
      exact Heap.lt_size at_a
    refine enuT_call place (wpAny_pyIter_enum (enuHp_enu s1.heap a) ?_)
    refine ⟨_, [s1.heap.objs.size + 1, s1.heap.objs.size], EnT a (s1.heap.objs.size + 1) s1.heap.objs.size, ItU X.K a, H1, rfl, I1.kept (t' := s1.toks) fun b o at_b => enuHp_old at_b, turn_enumT a _ _ (Nat.ne_of_lt low) (Nat.ne_of_lt (Nat.lt_succ_of_lt low)),
      ⟨⟨.none, enuHp_enu s1.heap a⟩, ⟨_, Heap.get?_push_of_some _ (Heap.get?_push_size _ rfl), rfl, rfl⟩, Nat.succ_ne_self _⟩, fun b hb => ?_, next⟩
    have new : s1.heap.objs.size ≤ b := by
      cases one_of hb with
      | inl z => exact z ▸ Nat.le_succ _
      | inr z => exact z ▸ Nat.le_refl _
    exact I1.fpOk new (I1.hok.fresh new)
/-- the loop over it: a word of the turn, the slots and the heap -/
theorem for_enumT {K : PySem.W.Frag} {a : Addr} {xs : List V} {g : TG} {tb : TS} {σ : L2.St} {H : Hp} {D : Ends} (Pv : Nat → L2.St → Hp → Prop) (h0 : Pv 0 σ H) (hl : ∀ i σ H, i ≤ xs.length → Pv i σ H → SqT K H a xs)
    (hs : ∀ i x T σ H, xs[i]? = some x → Pv i σ H → H T = none → g (.ref T) σ (upd H T (.tup [.int (i : Nat), x])) fun σ' H' => tb { D with nx := Pv (i + 1), bk := D.nx, ct := Pv (i + 1) } σ' H') (hd : ∀ σ H, Pv xs.length σ H → D.nx σ H) :
    ∃ W : Nat → Nat → L2.St → Hp → Prop, (∃ m, W 0 m σ H) ∧ ∀ i m σ H, W i m σ H → ((ItU K a).stop i H ∧ D.nx σ H) ∨ ((ItU K a).go i H ∧ ∃ Nx : L2.St → Hp → Prop, (∀ σ' H', Nx σ' H' → ∃ m', m' < m ∧ W (i + 1) m' σ' H') ∧
      ∀ x H', (ItU K a).yld i H x H' → g x σ H' fun σ' H'' => tb { D with nx := Nx, bk := D.nx, ct := Nx } σ' H'') := by
  refine ⟨fun i left σ H => left + i = xs.length ∧ Pv i σ H, ⟨xs.length, Nat.add_zero _, h0⟩, fun i left σ H ⟨sum, now⟩ => ?_⟩
  have tup := hl i σ H (by omega) now
  match left, sum with
  | 0, sum =>
    have e : i = xs.length := by omega
    exact .inl ⟨⟨xs, tup, e.symm⟩, hd σ H (e ▸ now)⟩
  | left + 1, sum =>
    have e := List.getElem?_eq_getElem (show i < xs.length by omega)
    refine .inr ⟨⟨xs, _, tup, e⟩, Pv (i + 1), fun σ' H' next => ⟨left, Nat.lt_succ_self _, by omega, next⟩, fun v H' given => ?_⟩
    obtain ⟨T, x, rfl, free, rfl, item⟩ := given
    exact hs i x T σ H (item xs tup) now free

/-! ### repr([i, j]) where nothing is under way -/
theorem repr_two {X : Cx} {pins : List (Addr × Obj)} {s : Shared} {σ : L2.St} {H : Hp} {a : Addr} {i j : Int} {Q : Value → Shared → Prop} (I : Inv X pins σ H s) (ha : H a = some (.lst [.int i, .int j])) (hg : X.A.guards = some []) (hu : X.A.units + 64 < cLine)
    (hi : i.natAbs.log2 < 1920) (hj : j.natAbs.log2 < 1920) (h : ∀ u s', Inv X pins σ H s' → Q (.str (PyData.list [.int i, .int j]).shown u) s') : wpAny (model X.prog X.w) X.A (call (.builtin "repr") [.ref a]) Q X.xe s := by
  obtain ⟨z, its, n, r, e⟩ := I.hok a _ ha
  have fits : (PyData.list [.int i, .int j]).shown.length ≤ sizeLine := by
    have b := PyData.shown_le_bulk 1921 (by decide) (PyData.list [.int i, .int j]) (by
      have li := PyProof.Rows.int_text_len_1921 hi
      have lj := PyProof.Rows.int_text_len_1921 hj
      simp only [PyData.leavesShort, PyData.leavesShortAll, PyData.shown_int, Bool.and_true, Bool.and_eq_true, decide_eq_true_eq]
      exact ⟨li, lj⟩)
    have e : (PyData.list [.int i, .int j]).bulk ≤ 100 := by simp only [PyData.bulk, PyData.bulkAll]; omega
    have e2 : (1921 + 2) * (PyData.list [.int i, .int j]).bulk ≤ 1923 * 100 := Nat.mul_le_mul (by decide) e
    have e3 : sizeLine = 16777216 := by decide
    omega
  cases r with
  | cons r1 r2 =>
    cases r2 with
    | cons r2 r3 =>
      cases r3
      obtain ⟨t, rfl⟩ := r1
      obtain ⟨t', rfl⟩ := r2
      have rd : Reads s.heap (.ref a) (.list [.int i, .int j]) [a] := Reads.list e rfl rfl (.cons (.int i t) (.cons (.int j t') .nil))
      refine PySem.repr_of_reads' rd ?_ (fun q => by simp [PyData.hasDict, PyData.hasDictAll] at q) hg ?_ (fun _ _ q => q) (fun h' u tk hk => h u _ (I.kept (t' := tk) hk)) fits
      · simp only [PyData.showable, PyData.showableAll, Bool.and_true, Bool.and_eq_true, decide_eq_true_eq]
        exact ⟨hi, hj⟩
      · have : (PyData.list [.int i, .int j]).depth ≤ 10 := by simp only [PyData.depth, PyData.depthAll]; omega
        omega
end JR
/-! J2: the defs by places, their slots, what the walk asks of the top. Printed by genhead.py. -/
namespace JR
open PySem PySem.Spec PyProof.Rows L2
abbrev s_is_integer : Stmt := topS 12
abbrev N_is_integer : List Str := ["value"]
theorem sc_is_integer : FnScope N_is_integer ["value"] (defScope s_is_integer) := ⟨rfl, rfl, rfl, by decide +kernel, rfl, by decide +kernel, by decide +kernel⟩
abbrev s_is_between : Stmt := topS 13
abbrev N_is_between : List Str := ["value", "least", "most"]
theorem sc_is_between : FnScope N_is_between ["value", "least", "most"] (defScope s_is_between) := ⟨rfl, rfl, rfl, by decide +kernel, rfl, by decide +kernel, by decide +kernel⟩
abbrev s_is_name : Stmt := topS 14
abbrev N_is_name : List Str := ["value", "sign"]
theorem sc_is_name : FnScope N_is_name ["value"] (defScope s_is_name) := ⟨rfl, rfl, rfl, by decide +kernel, rfl, by decide +kernel, by decide +kernel⟩
abbrev s_check_size : Stmt := topS 15
abbrev N_check_size : List Str := ["size", "most"]
theorem sc_check_size : FnScope N_check_size ["size", "most"] (defScope s_check_size) := ⟨rfl, rfl, rfl, by decide +kernel, rfl, by decide +kernel, by decide +kernel⟩
abbrev s_Clause___init__ : Stmt := inClass (topS 26) 0
abbrev N_Clause___init__ : List Str := ["self", "word", "rest", "step", "side", "far", "goal"]
theorem sc_Clause___init__ : FnScope N_Clause___init__ ["self", "word", "rest", "step", "side", "far", "goal"] (defScope s_Clause___init__) := ⟨rfl, rfl, rfl, by decide +kernel, rfl, by decide +kernel, by decide +kernel⟩
abbrev s_digit_of : Stmt := topS 27
abbrev N_digit_of : List Str := ["word"]
theorem sc_digit_of : FnScope N_digit_of ["word"] (defScope s_digit_of) := ⟨rfl, rfl, rfl, by decide +kernel, rfl, by decide +kernel, by decide +kernel⟩
abbrev s_class_of : Stmt := topS 28
abbrev N_class_of : List Str := ["words", "rest", "step"]
theorem sc_class_of : FnScope N_class_of ["words"] (defScope s_class_of) := ⟨rfl, rfl, rfl, by decide +kernel, rfl, by decide +kernel, by decide +kernel⟩
abbrev s_read_call : Stmt := topS 29
abbrev N_read_call : List Str := ["words", "found", "rest", "step"]
theorem sc_read_call : FnScope N_read_call ["words"] (defScope s_read_call) := ⟨rfl, rfl, rfl, by decide +kernel, rfl, by decide +kernel, by decide +kernel⟩
abbrev s_read_clause : Stmt := topS 30
abbrev N_read_clause : List Str := ["text", "words", "found", "rest", "step", "far"]
theorem sc_read_clause : FnScope N_read_clause ["text"] (defScope s_read_clause) := ⟨rfl, rfl, rfl, by decide +kernel, rfl, by decide +kernel, by decide +kernel⟩
abbrev s_meet : Stmt := topS 31
abbrev N_meet : List Str := ["one", "other"]
theorem sc_meet : FnScope N_meet ["one", "other"] (defScope s_meet) := ⟨rfl, rfl, rfl, by decide +kernel, rfl, by decide +kernel, by decide +kernel⟩
abbrev s_read_clauses : Stmt := topS 32
abbrev N_read_clauses : List Str := ["text", "found", "calls", "at", "clause", "part", "other"]
theorem sc_read_clauses : FnScope N_read_clauses ["text"] (defScope s_read_clauses) := ⟨rfl, rfl, rfl, by decide +kernel, rfl, by decide +kernel, by decide +kernel⟩
abbrev s_read_round : Stmt := topS 33
abbrev N_read_round : List Str := ["text", "names", "above", "found", "clause"]
theorem sc_read_round : FnScope N_read_round ["text", "names", "above"] (defScope s_read_round) := ⟨rfl, rfl, rfl, by decide +kernel, rfl, by decide +kernel, by decide +kernel⟩
abbrev s_read_goal : Stmt := topS 35
abbrev N_read_goal : List Str := ["text", "many"]
theorem sc_read_goal : FnScope N_read_goal ["text"] (defScope s_read_goal) := ⟨rfl, rfl, rfl, by decide +kernel, rfl, by decide +kernel, by decide +kernel⟩
abbrev s_is_plan : Stmt := topS 36
abbrev N_is_plan : List Str := ["value", "name", "goal", "base", "rounds", "text"]
theorem sc_is_plan : FnScope N_is_plan ["value"] (defScope s_is_plan) := ⟨rfl, rfl, rfl, by decide +kernel, rfl, by decide +kernel, by decide +kernel⟩
abbrev s_first_invalid : Stmt := topS 37
abbrev N_first_invalid : List Str := ["plans", "names", "index", "plan", "text"]
theorem sc_first_invalid : FnScope N_first_invalid ["plans"] (defScope s_first_invalid) := ⟨rfl, rfl, rfl, by decide +kernel, rfl, by decide +kernel, by decide +kernel⟩
abbrev s_Book___init__ : Stmt := inClass (topS 41) 0
abbrev N_Book___init__ : List Str := ["self", "plans", "index", "plan", "text"]
theorem sc_Book___init__ : FnScope N_Book___init__ ["self", "plans"] (defScope s_Book___init__) := ⟨rfl, rfl, rfl, by decide +kernel, rfl, by decide +kernel, by decide +kernel⟩
abbrev s_Book_plan : Stmt := inClass (topS 41) 4
abbrev N_Book_plan : List Str := ["self", "name", "row"]
theorem sc_Book_plan : FnScope N_Book_plan ["self", "name"] (defScope s_Book_plan) := ⟨rfl, rfl, rfl, by decide +kernel, rfl, by decide +kernel, by decide +kernel⟩
abbrev s_Book_program : Stmt := inClass (topS 41) 5
abbrev N_Book_program : List Str := ["self", "name"]
theorem sc_Book_program : FnScope N_Book_program ["self", "name"] (defScope s_Book_program) := ⟨rfl, rfl, rfl, by decide +kernel, rfl, by decide +kernel, by decide +kernel⟩
abbrev s_Book_goal_of : Stmt := inClass (topS 41) 6
abbrev N_Book_goal_of : List Str := ["self", "name"]
theorem sc_Book_goal_of : FnScope N_Book_goal_of ["self", "name"] (defScope s_Book_goal_of) := ⟨rfl, rfl, rfl, by decide +kernel, rfl, by decide +kernel, by decide +kernel⟩
abbrev s_check_book : Stmt := topS 42
abbrev N_check_book : List Str := ["book"]
theorem sc_check_book : FnScope N_check_book ["book"] (defScope s_check_book) := ⟨rfl, rfl, rfl, by decide +kernel, rfl, by decide +kernel, by decide +kernel⟩
abbrev s_check_plan : Stmt := topS 43
abbrev N_check_plan : List Str := ["book", "name"]
theorem sc_check_plan : FnScope N_check_plan ["book", "name"] (defScope s_check_plan) := ⟨rfl, rfl, rfl, by decide +kernel, rfl, by decide +kernel, by decide +kernel⟩
abbrev s_places_between : Stmt := topS 45
abbrev N_places_between : List Str := ["clause", "least", "end", "first"]
theorem sc_places_between : FnScope N_places_between ["clause", "least", "end"] (defScope s_places_between) := ⟨rfl, rfl, rfl, by decide +kernel, rfl, by decide +kernel, by decide +kernel⟩
abbrev s_deeds_at : Stmt := topS 46
abbrev N_deeds_at : List Str := ["clause", "size"]
theorem sc_deeds_at : FnScope N_deeds_at ["clause", "size"] (defScope s_deeds_at) := ⟨rfl, rfl, rfl, by decide +kernel, rfl, by decide +kernel, by decide +kernel⟩
abbrev s_plain_joins : Stmt := topS 47
abbrev N_plain_joins : List Str := ["goal", "size", "word", "many", "pieces", "place", "count"]
theorem sc_plain_joins : FnScope N_plain_joins ["goal", "size"] (defScope s_plain_joins) := ⟨rfl, rfl, rfl, by decide +kernel, rfl, by decide +kernel, by decide +kernel⟩
abbrev s_Counter___init__ : Stmt := inClass (topS 48) 0
abbrev N_Counter___init__ : List Str := ["self", "book"]
theorem sc_Counter___init__ : FnScope N_Counter___init__ ["self", "book"] (defScope s_Counter___init__) := ⟨rfl, rfl, rfl, by decide +kernel, rfl, by decide +kernel, by decide +kernel⟩
abbrev s_Counter_both : Stmt := inClass (topS 48) 1
abbrev N_Counter_both : List Str := ["self", "name", "size"]
theorem sc_Counter_both : FnScope N_Counter_both ["self", "name", "size"] (defScope s_Counter_both) := ⟨rfl, rfl, rfl, by decide +kernel, rfl, by decide +kernel, by decide +kernel⟩
abbrev s_Counter_found : Stmt := inClass (topS 48) 2
abbrev N_Counter_found : List Str := ["self", "name", "size", "plain", "many", "deep", "clauses", "pairs", "clause", "pair"]
theorem sc_Counter_found : FnScope N_Counter_found ["self", "name", "size"] (defScope s_Counter_found) := ⟨rfl, rfl, rfl, by decide +kernel, rfl, by decide +kernel, by decide +kernel⟩
abbrev s_joins : Stmt := topS 49
abbrev N_joins : List Str := ["book", "name", "size"]
theorem sc_joins : FnScope N_joins ["book", "name", "size"] (defScope s_joins) := ⟨rfl, rfl, rfl, by decide +kernel, rfl, by decide +kernel, by decide +kernel⟩
abbrev s_rounds : Stmt := topS 50
abbrev N_rounds : List Str := ["book", "name", "size"]
theorem sc_rounds : FnScope N_rounds ["book", "name", "size"] (defScope s_rounds) := ⟨rfl, rfl, rfl, by decide +kernel, rfl, by decide +kernel, by decide +kernel⟩
abbrev s__law_cup : Stmt := topS 52
abbrev N__law_cup : List Str := ["_law_cells", "_law_turn", "_law_cell", "_law_mixed", "_law_each"]
theorem sc__law_cup : FnScope N__law_cup ["_law_cells", "_law_turn"] (defScope s__law_cup) := ⟨rfl, rfl, rfl, by decide +kernel, rfl, by decide +kernel, by decide +kernel⟩
abbrev s__law_sip : Stmt := topS 53
abbrev N__law_sip : List Str := ["_law_cup_here", "_law_top", "_law_digit"]
theorem sc__law_sip : FnScope N__law_sip ["_law_cup_here", "_law_top"] (defScope s__law_sip) := ⟨rfl, rfl, rfl, by decide +kernel, rfl, by decide +kernel, by decide +kernel⟩
abbrev s__law_labels : Stmt := topS 54
abbrev N__law_labels : List Str := ["_law_cup_here", "_law_span", "_law_begin", "_law_far", "_law_menu", "_law_k"]
theorem sc__law_labels : FnScope N__law_labels ["_law_cup_here", "_law_span"] (defScope s__law_labels) := ⟨rfl, rfl, rfl, by decide +kernel, rfl, by decide +kernel, by decide +kernel⟩
abbrev s__law_clause : Stmt := topS 55
abbrev N__law_clause : List Str := ["_law_cup_here", "_law_labels_here", "_law_at", "_law_rest", "_law_step", "_law_calls", "_law_word", "_law_side"]
theorem sc__law_clause : FnScope N__law_clause ["_law_cup_here", "_law_labels_here", "_law_at", "_law_rest", "_law_step", "_law_calls"] (defScope s__law_clause) := ⟨rfl, rfl, rfl, by decide +kernel, rfl, by decide +kernel, by decide +kernel⟩
abbrev s__law_round : Stmt := topS 56
abbrev N__law_round : List Str := ["_law_cup_here", "_law_labels_here", "_law_at", "_law_calls", "_law_step", "_law_rest", "_law_many", "_law_k"]
theorem sc__law_round : FnScope N__law_round ["_law_cup_here", "_law_labels_here", "_law_at"] (defScope s__law_round) := ⟨rfl, rfl, rfl, by decide +kernel, rfl, by decide +kernel, by decide +kernel⟩
abbrev s__law_goal : Stmt := topS 57
abbrev N__law_goal : List Str := ["_law_cup_here", "_law_word"]
theorem sc__law_goal : FnScope N__law_goal ["_law_cup_here"] (defScope s__law_goal) := ⟨rfl, rfl, rfl, by decide +kernel, rfl, by decide +kernel, by decide +kernel⟩
abbrev s__law_plan : Stmt := topS 58
abbrev N__law_plan : List Str := ["_law_cup_here", "_law_labels_here", "_law_at", "_law_most", "_law_goal_here", "_law_base", "_law_many", "_law_k"]
theorem sc__law_plan : FnScope N__law_plan ["_law_cup_here", "_law_labels_here", "_law_at", "_law_most"] (defScope s__law_plan) := ⟨rfl, rfl, rfl, by decide +kernel, rfl, by decide +kernel, by decide +kernel⟩
abbrev s__law_good : Stmt := topS 59
abbrev N__law_good : List Str := ["_law_cup_here", "_law_labels_here", "_law_at", "_law_label", "_law_base", "_law_pick", "_law_some"]
theorem sc__law_good : FnScope N__law_good ["_law_cup_here", "_law_labels_here", "_law_at"] (defScope s__law_good) := ⟨rfl, rfl, rfl, by decide +kernel, rfl, by decide +kernel, by decide +kernel⟩
abbrev s__law_sketch : Stmt := topS 60
abbrev N__law_sketch : List Str := ["_law_cup_here", "_law_span", "_law_most", "_law_labels_here", "_law_plans", "_law_at"]
theorem sc__law_sketch : FnScope N__law_sketch ["_law_cup_here", "_law_span", "_law_most"] (defScope s__law_sketch) := ⟨rfl, rfl, rfl, by decide +kernel, rfl, by decide +kernel, by decide +kernel⟩
abbrev s__law_clause_text : Stmt := topS 61
abbrev N__law_clause_text : List Str := ["_law_clause_here", "_law_word", "_law_rest", "_law_step", "_law_side", "_law_far", "_law_label", "_law_spot"]
theorem sc__law_clause_text : FnScope N__law_clause_text ["_law_clause_here"] (defScope s__law_clause_text) := ⟨rfl, rfl, rfl, by decide +kernel, rfl, by decide +kernel, by decide +kernel⟩
abbrev s__law_goal_text : Stmt := topS 62
abbrev N__law_goal_text : List Str := ["_law_goal_here"]
theorem sc__law_goal_text : FnScope N__law_goal_text ["_law_goal_here"] (defScope s__law_goal_text) := ⟨rfl, rfl, rfl, by decide +kernel, rfl, by decide +kernel, by decide +kernel⟩
abbrev s__law_parts : Stmt := topS 63
abbrev N__law_parts : List Str := ["_law_plan_here", "_law_lines", "_law_each", "_law_clause_here"]
theorem sc__law_parts : FnScope N__law_parts ["_law_plan_here"] (defScope s__law_parts) := ⟨rfl, rfl, rfl, by decide +kernel, rfl, by decide +kernel, by decide +kernel⟩
abbrev s__law_vol : Stmt := topS 64
abbrev N__law_vol : List Str := ["_law_sketch_here", "_law_plan_here"]
theorem sc__law_vol : FnScope N__law_vol ["_law_sketch_here"] (defScope s__law_vol) := ⟨rfl, rfl, rfl, by decide +kernel, rfl, by decide +kernel, by decide +kernel⟩
abbrev s__law_due : Stmt := topS 65
abbrev N__law_due : List Str := ["_law_goal_here", "_law_k"]
theorem sc__law_due : FnScope N__law_due ["_law_goal_here", "_law_k"] (defScope s__law_due) := ⟨rfl, rfl, rfl, by decide +kernel, rfl, by decide +kernel, by decide +kernel⟩
abbrev s__law_below : Stmt := topS 66
abbrev N__law_below : List Str := ["_law_rest", "_law_step", "_law_many"]
theorem sc__law_below : FnScope N__law_below ["_law_rest", "_law_step", "_law_many"] (defScope s__law_below) := ⟨rfl, rfl, rfl, by decide +kernel, rfl, by decide +kernel, by decide +kernel⟩
abbrev s__law_plain : Stmt := topS 67
abbrev N__law_plain : List Str := ["_law_goal_here", "_law_many", "_law_spent_here", "_law_k"]
theorem sc__law_plain : FnScope N__law_plain ["_law_goal_here", "_law_many"] (defScope s__law_plain) := ⟨rfl, rfl, rfl, by decide +kernel, rfl, by decide +kernel, by decide +kernel⟩
abbrev s__law_clause_spent : Stmt := topS 68
abbrev N__law_clause_spent : List Str := ["_law_sketch_here", "_law_known", "_law_clause_here", "_law_many", "_law_word", "_law_rest", "_law_step", "_law_side", "_law_far", "_law_label", "_law_inner"]
theorem sc__law_clause_spent : FnScope N__law_clause_spent ["_law_sketch_here", "_law_known", "_law_clause_here", "_law_many"] (defScope s__law_clause_spent) := ⟨rfl, rfl, rfl, by decide +kernel, rfl, by decide +kernel, by decide +kernel⟩
abbrev s__law_spent : Stmt := topS 69
abbrev N__law_spent : List Str := ["_law_sketch_here", "_law_known", "_law_label", "_law_many", "_law_plan_here", "_law_whole", "_law_deep", "_law_each", "_law_parts_here", "_law_clause_here", "_law_part"]
theorem sc__law_spent : FnScope N__law_spent ["_law_sketch_here", "_law_known", "_law_label", "_law_many"] (defScope s__law_spent) := ⟨rfl, rfl, rfl, by decide +kernel, rfl, by decide +kernel, by decide +kernel⟩
abbrev s__law_great : Stmt := topS 70
abbrev N__law_great : List Str := ["_law_cup_here", "_law_pick", "_law_deep", "_law_many", "_law_k"]
theorem sc__law_great : FnScope N__law_great ["_law_cup_here"] (defScope s__law_great) := ⟨rfl, rfl, rfl, by decide +kernel, rfl, by decide +kernel, by decide +kernel⟩
abbrev s__law_right : Stmt := topS 71
abbrev N__law_right : List Str := ["_law_cup_here", "_law_sketch_here", "_law_vol_here", "_law_known", "_law_many", "_law_plan_here", "_law_due_here"]
theorem sc__law_right : FnScope N__law_right ["_law_cup_here"] (defScope s__law_right) := ⟨rfl, rfl, rfl, by decide +kernel, rfl, by decide +kernel, by decide +kernel⟩
abbrev s_law : Stmt := topS 72
abbrev N_law : List Str := ["_law_cells", "_law_turn"]
theorem sc_law : FnScope N_law ["_law_cells"] (defScope s_law) := ⟨rfl, rfl, rfl, by decide +kernel, rfl, by decide +kernel, by decide +kernel⟩
/-- what the top leaves -/
structure Tx (K : PySem.W.Frag) (mg : Str → Option Value) (CC CB CK : Addr) : Prop where
  b_abs : mg "abs" = none
  b_all : mg "all" = none
  b_any : mg "any" = none
  b_bool : mg "bool" = none
  b_divmod : mg "divmod" = none
  b_enumerate : mg "enumerate" = none
  b_int : mg "int" = none
  b_isinstance : mg "isinstance" = none
  b_len : mg "len" = none
  b_max : mg "max" = none
  b_min : mg "min" = none
  b_range : mg "range" = none
  b_repr : mg "repr" = none
  b_str : mg "str" = none
  b_sum : mg "sum" = none
  b_tuple : mg "tuple" = none
  c_LETTERS : ∃ x, mg "LETTERS" = some x ∧ RelV (.str "abcdefghijklmnopqrstuvwxyz") x
  c_DIGITS : ∃ x, mg "DIGITS" = some x ∧ RelV (.str "0123456789") x
  c_MOST_PLANS : ∃ x, mg "MOST_PLANS" = some x ∧ RelV (.int 4) x
  c_MOST_ROUNDS : ∃ x, mg "MOST_ROUNDS" = some x ∧ RelV (.int 5) x
  c_MOST_CLAUSES : ∃ x, mg "MOST_CLAUSES" = some x ∧ RelV (.int 3) x
  c_MOST_CLASSES : ∃ x, mg "MOST_CLASSES" = some x ∧ RelV (.int 3) x
  c_MOST_FAR : ∃ x, mg "MOST_FAR" = some x ∧ RelV (.int 4) x
  c_MOST_LAST : ∃ x, mg "MOST_LAST" = some x ∧ RelV (.int 4) x
  c_MOST_BASE : ∃ x, mg "MOST_BASE" = some x ∧ RelV (.int 4) x
  c_MOST_SIZE : ∃ x, mg "MOST_SIZE" = some x ∧ RelV (.int 1000000000000) x
  c_GAP : ∃ x, mg "GAP" = some x ∧ RelV (.str "; ") x
  g_Clause : mg "Clause" = some (.ref CC)
  l_Clause : Cls K CC
  n_Clause_word : NoAttr K CC "word"
  n_Clause_rest : NoAttr K CC "rest"
  n_Clause_step : NoAttr K CC "step"
  n_Clause_side : NoAttr K CC "side"
  n_Clause_far : NoAttr K CC "far"
  n_Clause_goal : NoAttr K CC "goal"
  g_Book : mg "Book" = some (.ref CB)
  l_Book : Cls K CB
  n_Book_held : NoAttr K CB "held"
  n_Book_parsed : NoAttr K CB "parsed"
  g_Counter : mg "Counter" = some (.ref CK)
  l_Counter : Cls K CK
  n_Counter_shelf : NoAttr K CK "shelf"
  n_Counter_known : NoAttr K CK "known"
  i_Book : C8.InsC K CB
  f_is_integer : DefAt K mg "is_integer" s_is_integer
  f_is_between : DefAt K mg "is_between" s_is_between
  f_is_name : DefAt K mg "is_name" s_is_name
  f_check_size : DefAt K mg "check_size" s_check_size
  k_Clause : IniAt K mg "Clause" CC "Clause.__init__" s_Clause___init__ [.non, .non, .non]
  f_digit_of : DefAt K mg "digit_of" s_digit_of
  f_class_of : DefAt K mg "class_of" s_class_of
  f_read_call : DefAt K mg "read_call" s_read_call
  f_read_clause : DefAt K mg "read_clause" s_read_clause
  f_meet : DefAt K mg "meet" s_meet
  f_read_clauses : DefAt K mg "read_clauses" s_read_clauses
  f_read_round : DefAt K mg "read_round" s_read_round
  f_read_goal : DefAt K mg "read_goal" s_read_goal
  f_is_plan : DefAt K mg "is_plan" s_is_plan
  f_first_invalid : DefAt K mg "first_invalid" s_first_invalid
  k_Book : IniAt K mg "Book" CB "Book.__init__" s_Book___init__ []
  m_Book_plan : MetAt K CB "plan" "Book.plan" s_Book_plan
  m_Book_program : MetAt K CB "program" "Book.program" s_Book_program
  m_Book_goal_of : MetAt K CB "goal_of" "Book.goal_of" s_Book_goal_of
  f_check_book : DefAt K mg "check_book" s_check_book
  f_check_plan : DefAt K mg "check_plan" s_check_plan
  f_places_between : DefAt K mg "places_between" s_places_between
  f_deeds_at : DefAt K mg "deeds_at" s_deeds_at
  f_plain_joins : DefAt K mg "plain_joins" s_plain_joins
  k_Counter : IniAt K mg "Counter" CK "Counter.__init__" s_Counter___init__ []
  m_Counter_both : MetAt K CK "both" "Counter.both" s_Counter_both
  m_Counter_found : MetAt K CK "found" "Counter.found" s_Counter_found
  f_joins : DefAt K mg "joins" s_joins
  f_rounds : DefAt K mg "rounds" s_rounds
  f__law_cup : DefAt K mg "_law_cup" s__law_cup
  f__law_sip : DefAt K mg "_law_sip" s__law_sip
  f__law_labels : DefAt K mg "_law_labels" s__law_labels
  f__law_clause : DefAt K mg "_law_clause" s__law_clause
  f__law_round : DefAt K mg "_law_round" s__law_round
  f__law_goal : DefAt K mg "_law_goal" s__law_goal
  f__law_plan : DefAt K mg "_law_plan" s__law_plan
  f__law_good : DefAt K mg "_law_good" s__law_good
  f__law_sketch : DefAt K mg "_law_sketch" s__law_sketch
  f__law_clause_text : DefAt K mg "_law_clause_text" s__law_clause_text
  f__law_goal_text : DefAt K mg "_law_goal_text" s__law_goal_text
  f__law_parts : DefAt K mg "_law_parts" s__law_parts
  f__law_vol : DefAt K mg "_law_vol" s__law_vol
  f__law_due : DefAt K mg "_law_due" s__law_due
  f__law_below : DefAt K mg "_law_below" s__law_below
  f__law_plain : DefAt K mg "_law_plain" s__law_plain
  f__law_clause_spent : DefAt K mg "_law_clause_spent" s__law_clause_spent
  f__law_spent : DefAt K mg "_law_spent" s__law_spent
  f__law_great : DefAt K mg "_law_great" s__law_great
  f__law_right : DefAt K mg "_law_right" s__law_right
  f_law : DefAt K mg "law" s_law
end JR
/-! JC: promises to callers whose surroundings are told by a condition of one's own (finer rooms for deep recursion; nothing being shown). -/
namespace JR
open PySem PySem.Spec PyProof.Rows L2
/-- a def's promise to the callers around whom Cd holds -/
def FnC (Cd : Around → Prop) (P : Program) (w : World) (K : PySem.W.Frag) (mg : Str → Option Value) (base : Heap) (f : Addr) (fd : FuncData) (ps : List Str) (sp : Sp) : Prop :=
  (∀ vs H Q E, sp vs H Q E → vs.length = ps.length) ∧
  ∀ (A : Around) (outer : List Env) (s : Shared) (H : Hp) (args : Args) (us : List Value) (vs : List V) (Q : VK) (E : XK), Cd A → Env0 P w K mg base A outer s H → BindsTo s fd args (ps.zip us) → Vals vs us → sp vs H Q E →
    codeAny (model P w) A (.call (.ref f) args) (CR CX0 outer P w H s Q E) s
section
variable {Cd : Around → Prop} {P : Program} {w : World} {K : PySem.W.Frag} {mg : Str → Option Value} {base : Heap} {x q : Str} {st : Stmt} {f : Addr} {fd : FuncData} {N ps : List Str} {sp : Sp}
theorem fnC_of (fits : ∀ A, Cd A → A.handled = none ∧ A.depth < recursionLimit) (F : FunD K x q (defArgs st) (defBody st) (defScope st) [] [] f fd) (S : FnScope N ps (defScope st)) (len : ∀ vs H Q E, sp vs H Q E → vs.length = ps.length)
    (hbody : ∀ (cdv : Value) (A : Around) (outer : List Env) (s : Shared) (H : Hp) (vs : List V) (Q : VK) (E : XK), Cd A → sp vs H Q E →
      ∃ t, PSs (cxOf CX0 P w K mg base N q (defScope st) f cdv A outer s H E).nox (defBody st) t ∧ t { nx := fun _ H' => Q .non H', rt := Q } (start N vs) H) : FnC Cd P w K mg base f fd ps sp := by
  obtain ⟨_, _, dV, kV, doc, pm, an, cdv, ct, _, rfl, look, code, _⟩ := F.ex
  refine ⟨len, fun A outer s H args us vs Q E cond env bind rel wish => ?_⟩
  have long := len _ _ _ _ wish
  obtain ⟨calm, deep⟩ := fits A cond
  -- what stands in the base stands in the heap
  have up : ∀ b o, base.get? b = some o → s.heap.get? b = some o := fun b o e => (env.bs b o e).1
  have kin := env.mod.kin.keeps up
  refine codeAny_call_function deep (kin _ _ look) rfl S.co S.gen rfl (PySem.W.codeRec_of kin code) (bind _ _ _ _ (wpAny_newFunctionEnv_cells S.kind (fun y hy => ?_) fun e he s1 made => ?_))
  · have hp := S.par y.1 (List.of_mem_zip (show (y.1, y.2) ∈ ps.zip us from hy)).1
    exact hp.imp id fun c => ⟨c, PySem.W.cellsFrom_some _ _ _ (.inl c)⟩
  · subst he
    obtain ⟨t, ht, hq⟩ := hbody cdv A outer s H vs Q E cond wish
    have inv := inv_start (CX := CX0) (E := E) S calm env long rel made
    refine ⟨(env.mod.nolimit.keeps up).keeps made.toInCall.keep, codeAny_func (wpAny_mono (ht.nox.run [] s1 (start N vs) H _ inv hq) (fun fl s2 done => ?_) fun _ _ no => no)⟩
    match fl, done with
    | .ret u, ⟨v, _, H', J, rv, got⟩ => exact ⟨v, H', J.os, J.bare, J.base, J.hok, rv, got⟩
    | .next, ⟨_, H', J, got⟩ => exact ⟨.non, H', J.os, J.bare, J.base, J.hok, rfl, got⟩
    | .brk, ⟨_, _, _, no⟩ => exact no.elim
    | .cont, ⟨_, _, _, no⟩ => exact no.elim
theorem fnC_none (no : ∀ vs H Q E, ¬ sp vs H Q E) : FnC Cd P w K mg base f fd ps sp :=
  ⟨fun vs H Q E h => absurd h (no vs H Q E), fun A outer s H args us vs Q E _ _ _ _ h => absurd h (no vs H Q E)⟩
/-- to callers by the kit's room -/
theorem FnC.ok {k : Nat} (F : FnC Cd P w K mg base f fd ps sp) (h : ∀ A, Room k A → Cd A) : FnOk P w K mg base CX0 k f fd ps sp :=
  ⟨F.1, fun A outer s H args us vs Q E hr => F.2 A outer s H args us vs Q E (h A hr)⟩
end
section
variable (Cd : Around → Prop) (P : Program) (w : World) (K : PySem.W.Frag) (mg : Str → Option Value) (base : Heap)
def FxC (x : Str) (sp : Sp) : Prop := ∃ f fd ps, FnC Cd P w K mg base f fd ps sp ∧ mg x = some (.ref f) ∧ PySem.W.keepIn K (.ref f) = true ∧ Binds K fd ps []
def MtC (C : Addr) (m : Str) (sp : Sp) : Prop := ∃ f fd ps, FnC Cd P w K mg base f fd ps sp ∧ Meth K C m f ∧ Cls K C ∧ Binds K fd ps []
end
section
variable {Cd : Around → Prop} {P : Program} {w : World} {K : PySem.W.Frag} {mg : Str → Option Value} {base : Heap} {x m q : Str} {C : Addr} {st : Stmt} {N ps : List Str} {sp : Sp}
theorem DefAt.fnC (D : DefAt K mg x st) (fits : ∀ A, Cd A → A.handled = none ∧ A.depth < recursionLimit) (S : FnScope N ps (defScope st))
    (hb : ∀ (kV doc pm : Value) (an : Option Addr) (cdv ct : Value) (us : List Value), us.length = ps.length → bindArgs (PySem.W.fnOf x x (defArgs st) (defBody st) (defScope st) .none kV doc pm an cdv ct) ⟨us, []⟩ = pure (ps.zip us))
    (len : ∀ vs H Q E, sp vs H Q E → vs.length = ps.length)
    (hbody : ∀ (f : Addr) (cdv : Value) (A : Around) (outer : List Env) (s : Shared) (H : Hp) (vs : List V) (Q : VK) (E : XK), Cd A → sp vs H Q E →
      ∃ t, PSs (cxOf CX0 P w K mg base N x (defScope st) f cdv A outer s H E).nox (defBody st) t ∧ t { nx := fun _ H' => Q .non H', rt := Q } (start N vs) H) : FxC Cd P w K mg base x sp := by
  obtain ⟨f, fd, F, hm⟩ := D
  exact ⟨f, fd, ps, fnC_of fits F S len fun cdv A outer s H vs Q E hc h => hbody f cdv A outer s H vs Q E hc h, hm, F.kp, F.bindsN hb⟩
theorem MetAt.mtC (c : Cls K C) (D : MetAt K C m q st) (fits : ∀ A, Cd A → A.handled = none ∧ A.depth < recursionLimit) (S : FnScope N ps (defScope st))
    (hb : ∀ (kV doc pm : Value) (an : Option Addr) (cdv ct : Value) (us : List Value), us.length = ps.length → bindArgs (PySem.W.fnOf m q (defArgs st) (defBody st) (defScope st) .none kV doc pm an cdv ct) ⟨us, []⟩ = pure (ps.zip us))
    (len : ∀ vs H Q E, sp vs H Q E → vs.length = ps.length)
    (hbody : ∀ (f : Addr) (cdv : Value) (A : Around) (outer : List Env) (s : Shared) (H : Hp) (vs : List V) (Q : VK) (E : XK), Cd A → sp vs H Q E →
      ∃ t, PSs (cxOf CX0 P w K mg base N q (defScope st) f cdv A outer s H E).nox (defBody st) t ∧ t { nx := fun _ H' => Q .non H', rt := Q } (start N vs) H) : MtC Cd P w K mg base C m sp := by
  obtain ⟨f, fd, F, hm⟩ := D
  exact ⟨f, fd, ps, fnC_of fits F S len fun cdv A outer s H vs Q E hc h => hbody f cdv A outer s H vs Q E hc h, hm, c, F.bindsN hb⟩
theorem FxC.fn {k : Nat} (c : FxC Cd P w K mg base x sp) (h : ∀ A, Room k A → Cd A) : Fn P w K mg base k x sp := by
  obtain ⟨f, fd, ps, F, r⟩ := c
  exact ⟨f, fd, ps, F.ok h, r⟩
theorem MtC.mt {k : Nat} (c : MtC Cd P w K mg base C m sp) (h : ∀ A, Room k A → Cd A) : Mt P w K mg base k C m sp := by
  obtain ⟨f, fd, ps, F, r⟩ := c
  exact ⟨f, fd, ps, F.ok h, r⟩
end
section
variable {Cd : Around → Prop} {X : Cx} {f C : Addr} {fd : FuncData} {x m : Str} {ps : List Str} {sp : Sp} {p pos apos : Pos} {e o : Expr} {es : List Expr} {ta : TE} {t : TA}
/-- the callee runs here -/
theorem run_C {pins : List (Addr × Obj)} {σ : L2.St} {H : Hp} {s : Shared} {us : List Value} {vs : List V} {Q : VK} (F : FnC Cd X.prog X.w X.K X.mg X.base f fd ps sp) (b : Binds X.K fd ps []) (hc : Cd X.A) (I : Inv X pins σ H s) (rel : Vals vs us) (wish : sp (vs ++ []) H Q E0) :
    wpAny (model X.prog X.w) X.A (call (.ref f) us) (EP X pins σ Q) X.xe s := by
  rw [List.append_nil] at wish
  have lv := F.1 _ _ _ _ wish
  have hb := b s us I.kIn (by rw [List.append_nil, ← rel.length]; exact lv)
  rw [List.append_nil] at hb
  refine wpAny_call (codeAny_mono (F.2 X.A X.stack s H ⟨us, []⟩ us vs Q E0 hc I.env0 hb rel wish) fun r s2 done => ?_)
  match r, done with
  | .ok (.ret u), done => exact I.after done
  | .ok .next, no => exact no.elim
  | .ok .brk, no => exact no.elim
  | .ok .cont, no => exact no.elim
  | .error e, no => exact no.elim
theorem pe_fnC (c : FxC Cd X.prog X.w X.K X.mg X.base x sp) (hc : Cd X.A) (hg : Gl X x) (ha : PA X (e :: es) t)
    (hdb : (x == ("__debug__" : Str)) = false := by decide) (he : starEach (e :: es) X.env = (false, eval e X.env) :: starEach es X.env := by rfl) (hpl : (backTo pos (starEach es X.env)).any (·.1) = false := by rfl) :
    PE X (.Call (.Name x p) (e :: es) [] pos) (tCall sp [] E0 t) := by
  obtain ⟨f, fd, ps, F, hm, kp, b⟩ := c
  refine ⟨fun pins s σ H Q I wish => wpAny_Call_Name_kw (ld_glob I hg hm ?_ hdb)⟩
  exact PySem.W.callWith_K (h₀ := X.base) I.ok.mod.kin kp (thn (ha.run pos pins s σ H _ I wish) fun us s1 ⟨vs, H1, I1, rel, want⟩ => ⟨I1.kIn, run_C F b hc I1 rel want⟩) he hpl
theorem pe_metC {pl : Sem Bool} (c : MtC Cd X.prog X.w X.K X.mg X.base C m sp) (hc : Cd X.A) (he : PE X o ta) (ha : PA X (e :: es) t)
    (hst : starEach (e :: es) X.env = (false, eval e X.env) :: starEach es X.env := by rfl) (hpl : (backTo pos (starEach es X.env)).any (·.1) = false := by rfl)
    (ht : eval (.Call (.Attribute o m apos) (e :: es) [] pos) X.env = (do
      let ov ← eval o X.env
      standAt apos.atName
      let (f, first) ← holding [ov] (getMethod ov m pl)
      callWith pos f first (backTo pos (starEach (e :: es) X.env)) (backToKw pos (keywordEach [] X.env))) := by rfl) :
    PE X (.Call (.Attribute o m apos) (e :: es) [] pos) (tMeth C m sp [] E0 ta t) := by
  obtain ⟨f, fd, ps, F, hm, cl, b⟩ := c
  refine ⟨fun pins s σ H Q I wish => PySem.W.methodCall_KW (pl := pl) (thn (he.run pins s σ H _ I wish) fun u s1 got => ?_) ht⟩
  obtain ⟨x, H1, I1, rx, a, dx, fs, rfl, ea, l, rest⟩ := got
  have eu : u = Value.ref a := rx
  subst eu
  exact getmeth_ok I1 ea cl hm l (PySem.W.callWith_K (first := [.ref a]) (h₀ := X.base) I.ok.mod.kin hm.kp (thn (ha.run pos pins s1 σ H1 _ I1 rest) fun us s2 ⟨vs, H2, I2, rel, want⟩ => ⟨I2.kIn, run_C (us := .ref a :: us) (vs := .ref a :: vs) F b hc I2 (.cons rfl rel) want⟩) hst hpl)
end
/-- room for so many frames more, and a little -/
def RoomD (n : Nat) (A : Around) : Prop := A.handled = none ∧ A.depth + n + 40 < recursionLimit ∧ A.units + 3 * n + 600 < cLine
theorem RoomD.fits {n : Nat} (A : Around) (h : RoomD n A) : A.handled = none ∧ A.depth < recursionLimit := ⟨h.1, by have := h.2.1; omega⟩
theorem RoomD.deeper {n : Nat} {A : Around} (h : RoomD (n + 1) A) (env : Env) : RoomD n (A.deeper env) :=
  ⟨h.1, by have := h.2.1; show A.depth + 1 + n + 40 < _; omega, by have := h.2.2; show A.units + 3 + 3 * n + 600 < _; omega⟩
theorem RoomD.room {n : Nat} {A : Around} (h : RoomD n A) : Room 8 A := ⟨h.1, by have := h.2.1; omega, by have := h.2.2; omega⟩
theorem room_D {n : Nat} (hn : n ≤ 260) (A : Around) (h : Room 100 A) : RoomD n A :=
  ⟨h.hd, by have := h.dp; have e : recursionLimit = 1000 := rfl; omega, by have := h.un; omega⟩
end JR
/-! JF: the part I of the abstract heap that stays for ever, the rest of H that may change at the addresses A; how one goes on (Go); comprehensions and loops by it. -/
namespace JR
open PySem PySem.Spec PyProof.Rows L2

theorem same_new {H : Hp} {p : Addr} (h : H p = none) (o : HO) : Same H (upd H p o) := fun b u q => by rw [upd_ne (ne_of_none q h)]; exact q
theorem same_both {I H : Hp} (s : Same I H) (p : Addr) (o : HO) : Same (upd I p o) (upd H p o) := fun b u q => by
  by_cases e : b = p
  · subst e
    rw [upd_same] at q ⊢
    exact q
  · rw [upd_ne e] at q ⊢
    exact s b u q
/-- what a frame of changes asks: A the addresses that may change, J what holds of the lasting part I and of all H -/
structure Fr (A : Addr → Prop) (J : Hp → Hp → Prop) : Prop where
  sub : ∀ {I H}, J I H → Same I H
  out : ∀ {I H a}, J I H → A a → I a = none ∧ ∃ o, H a = some o
  pure : ∀ {I H I' H'}, J I H → Same I I' → (∀ b, H b ≠ none → I' b = I b) → Same H H' → Same I' H' → J I' H'
  chg : ∀ {I H p o}, J I H → ¬ A p → I p = none → J I (upd H p o)
  lay : ∀ {I H p o}, J I H → ¬ A p → I p = none → H p = some o → J (upd I p o) H
/-- nothing changes -/
def A0 : Addr → Prop := fun _ => False
theorem fr0 : Fr A0 Same where
  sub := fun h => h
  out := fun _ h => h.elim
  pure := fun _ _ _ _ h => h
  chg := fun {I H p o} s _ n b u q => by
    have e : b ≠ p := ne_of_none q n
    rw [upd_ne e]
    exact s b u q
  lay := fun {I H p o} s _ n hp b u q => by
    by_cases e : b = p
    · subst e
      rw [upd_same] at q
      cases q
      exact hp
    · rw [upd_ne e] at q
      exact s b u q
structure Go (A : Addr → Prop) (J : Hp → Hp → Prop) (I H I' H' : Hp) : Prop where
  s : Same I I'
  f : ∀ b, H b ≠ none → I' b = I b
  k : ∀ b o, ¬ A b → H b = some o → H' b = some o
  j : J I' H'
section
variable {A : Addr → Prop} {J : Hp → Hp → Prop} {I H I1 H1 I2 H2 : Hp} {p : Addr} {o : HO}
theorem Go.refl (j : J I H) : Go A J I H I H := ⟨Same.refl _, fun _ _ => rfl, fun _ _ _ h => h, j⟩
theorem Go.trans (F : Fr A J) (j0 : J I H) (a : Go A J I H I1 H1) (b : Go A J I1 H1 I2 H2) : Go A J I H I2 H2 := by
  refine ⟨a.s.trans b.s, fun c h => ?_, fun c o n h => b.k c o n (a.k c o n h), b.j⟩
  have h1 : H1 c ≠ none := by
    by_cases hA : A c
    · obtain ⟨_, o, e⟩ := F.out a.j hA
      rw [e]
      simp
    · cases e : H c with
      | none => exact absurd e h
      | some o => rw [a.k c o hA e]; simp
  rw [b.f c h1, a.f c h]
theorem Go.pure (F : Fr A J) (j : J I H) (h : Go A0 Same I H I1 H1) : Go A J I H I1 H1 :=
  ⟨h.s, h.f, fun b o _ e => h.k b o (fun z => z) e, F.pure j h.s h.f (fun b o e => h.k b o (fun z => z) e) h.j⟩
/-- scalars alone are new -/
theorem Go.same (F : Fr A J) (j : J I H) (h : Same H H1) : Go A J I H I H1 :=
  ⟨Same.refl _, fun _ _ => rfl, fun b o _ e => h b o e, F.pure j (Same.refl _) (fun _ _ => rfl) h ((F.sub j).trans h)⟩
theorem Go.new (F : Fr A J) (j : J I H) (h : H p = none) (o : HO) : Go A J I H (upd I p o) (upd H p o) := by
  have hI : I p = none := (F.sub j).free h
  have hf : ∀ b, H b ≠ none → upd I p o b = I b := fun b hb => by rw [upd_ne]; rintro rfl; exact hb h
  exact ⟨same_new hI o, hf, fun b u _ e => same_new h o b u e, F.pure j (same_new hI o) hf (same_new h o) (same_both (F.sub j) p o)⟩
theorem Go.to (g : Go A J I H I1 H1) {a : Addr} {u : HO} (h : I a = some u) : I1 a = some u := g.s a u h
theorem Fr.nin (F : Fr A J) (j : J I H) (h : H p = none) : ¬ A p := fun z => by
  obtain ⟨_, o, e⟩ := F.out j z
  rw [h] at e
  cases e
/-- an address that was free ahead of a list in the making -/
theorem Go.base (F : Fr A J) (j : J I H) (h : H p = none) (hA : ¬ A p) (g : Go A J I (upd H p o) I1 H1) : I1 p = none := by
  rw [g.f p (by rw [upd_same]; simp)]
  exact (F.sub j).free h
end

/-- an object that was not there may change -/
theorem Go.chg {A : Addr → Prop} {J : Hp → Hp → Prop} {I H I1 H1 : Hp} {p : Addr} {o : HO} (F : Fr A J) (g : Go A J I H I1 H1) (h : H p = none) (hA : ¬ A p) (i : I1 p = none) : Go A J I H I1 (upd H1 p o) :=
  ⟨g.s, g.f, fun b u n e => by rw [upd_ne (ne_of_none e h)]; exact g.k b u n e, F.chg g.j hA i⟩
/-- what was made is done: it lasts -/
theorem Go.fix {A : Addr → Prop} {J : Hp → Hp → Prop} {I H I1 H1 : Hp} {p : Addr} {o : HO} (F : Fr A J) (g : Go A J I H I1 H1) (h : H p = none) (hA : ¬ A p) (i : I1 p = none) (e : H1 p = some o) : Go A J I H (upd I1 p o) H1 :=
  ⟨g.s.trans (same_new i o), fun b n => by rw [upd_ne (by rintro rfl; exact n h)]; exact g.f b n, g.k, F.lay g.j hA i e⟩

/-! ### comprehensions -/
section
variable {A : Addr → Prop} {J : Hp → Hp → Prop} {K : PySem.W.Frag} {I H : Hp} {D : Addr} {g : TG} {te : TE} {σ : L2.St}
/-- what holds of the list at D behind some turns -/
def Lw (A : Addr → Prop) (J : Hp → Hp → Prop) (I H : Hp) (D : Addr) (R : Hp → List V → Prop) (H' : Hp) : Prop :=
  ∃ I' ys, Go A J I H I' H' ∧ I' D = none ∧ H' D = some (.lst ys) ∧ ys.length < 100000 ∧ R I' ys
theorem lw_0 (F : Fr A J) (j : J I H) (hD : H D = none) {R : Hp → List V → Prop} (h : R I []) : Lw A J I H D R (upd H D (.lst [])) :=
  ⟨I, [], (Go.refl j).chg F hD (F.nin j hD) ((F.sub j).free hD), (F.sub j).free hD, upd_same, by decide, h⟩
/-- a turn that gives a value -/
theorem lw_turn (F : Fr A J) (j : J I H) (hD : H D = none) {R R' : Hp → List V → Prop} {H' : Hp} (hw : Lw A J I H D R H')
    (he : ∀ I' ys, Go A J I H I' H' → R I' ys → ys.length < 99999 ∧ ∀ Q : VK, (∀ I'' H'' v, Go A J I' H' I'' H'' → R' I'' (ys ++ [v]) → Q v H'') → te σ H' Q) :
    te σ H' fun y H4 => ∃ acc, H4 D = some (.lst acc) ∧ acc.length < sizeLine ∧ Lw A J I H D R' (upd H4 D (.lst (acc ++ [y]))) := by
  obtain ⟨I', ys, g, iD, hL, hl, hR⟩ := hw
  have nA : ¬ A D := F.nin j hD
  obtain ⟨hl2, he⟩ := he I' ys g hR
  refine he _ fun I'' H'' v g2 hv => ?_
  have h2 : H'' D = some (.lst ys) := g2.k D _ nA hL
  have i2 : I'' D = none := by rw [g2.f D (by rw [hL]; simp)]; exact iD
  refine ⟨ys, h2, Nat.lt_of_lt_of_le hl (by decide), I'', ys ++ [v], (Go.trans F j g g2).chg F hD nA i2, i2, upd_same, ?_, hv⟩
  rw [List.length_append, List.length_singleton]
  omega
/-- a comprehension with a test, over what w walks (nothing is made by the walk itself) -/
theorem lc_goT {Jt : It} {n m : Nat} {G : Hp → Prop} {Y : Nat → Hp → V → Hp → Prop} (w : Walk Jt n G Y) (F : Fr A J) (j : J I H) (hD : H D = none) {tt : TT} {Qd : Hp → Prop} (R : Nat → Hp → List V → Prop) (h0 : R 0 I [])
    (hG : ∀ H', (∀ b o, ¬ A b → H b = some o → H' b = some o) → G H') (hY : ∀ i H x H', Y i H x H' → H' = H)
    (hs : ∀ i x I' H' ys, i < n → Y i H' x H' → Go A J I H I' H' → R i I' ys → ∃ b : Bool, (∀ Q2 : Bool → Hp → Prop, Q2 b H' → tt ((wipe σ [m]).set m (some x)) H' Q2) ∧ (b = false → R (i + 1) I' ys) ∧
      (b = true → ys.length < 99999 ∧ ∀ Q : VK, (∀ I'' H'' v, Go A J I' H' I'' H'' → R (i + 1) I'' (ys ++ [v]) → Q v H'') → te ((wipe σ [m]).set m (some x)) H' Q))
    (hd : ∀ I' H' ys, Go A J I H I' H' → I' D = none → H' D = some (.lst ys) → R n I' ys → Qd H') :
    ∃ W : Nat → Nat → Hp → Prop, (∃ m, W 0 m (upd H D (.lst []))) ∧ ∀ i k H, W i k H →
      (Jt.stop i H ∧ Qd H) ∨ (Jt.go i H ∧ ∃ Nx : Hp → Prop, (∀ H', Nx H' → ∃ m', m' < k ∧ W (i + 1) m' H') ∧ ∀ x H', Jt.yld i H x H' → gName m x (wipe σ [m]) H' fun σ2 H2 => wipe σ2 [m] = wipe σ [m] ∧ tt σ2 H2 fun b H3 =>
        if b = true then te σ2 H3 fun y H4 => ∃ acc, H4 D = some (.lst acc) ∧ acc.length < sizeLine ∧ Nx (upd H4 D (.lst (acc ++ [y]))) else Nx H3) := by
  refine lc_it w (fun i H' => Lw A J I H D (R i) H') (lw_0 F j hD h0) (fun i H' _ hw => ?_) (fun i x H' H2 hi hw hy => ?_) (fun H' hw => ?_)
  · obtain ⟨I', ys, g, _⟩ := hw
    exact hG H' g.k
  · have e := hY _ _ _ _ hy
    subst e
    refine ⟨?_, ?_⟩
    · show (((wipe σ [m]).set m (some x))).set m none = wipe σ [m]
      show ((σ.set m none).set m (some x)).set m none = σ.set m none
      rw [List.set_set, List.set_set]
    · obtain ⟨I', ys, g, iD, hL, hl, hR⟩ := id hw
      obtain ⟨b, ht, hf, he⟩ := hs i x I' H2 ys hi hy g hR
      refine ht _ ?_
      cases b with
      | false =>
        show (if false = true then _ else _)
        rw [if_neg Bool.false_ne_true]
        exact ⟨I', ys, g, iD, hL, hl, hf rfl⟩
      | true =>
        show (if true = true then _ else _)
        rw [if_pos rfl]
        obtain ⟨hl2, he2⟩ := he rfl
        have hw2 : Lw A J I H D (fun I2 ys2 => I2 = I' ∧ ys2 = ys) H2 := ⟨I', ys, g, iD, hL, hl, rfl, rfl⟩
        exact lw_turn F j hD hw2 fun I2 ys2 _ h2 => by
          obtain ⟨e1, e2⟩ := h2
          subst e1 e2
          exact ⟨hl2, he2⟩
  · obtain ⟨I', ys, g, iD, hL, hl, hR⟩ := hw
    exact hd I' H' ys g iD hL hR
/-- .. without a test -/
theorem lc_goY {Jt : It} {n m : Nat} {G : Hp → Prop} {Y : Nat → Hp → V → Hp → Prop} (w : Walk Jt n G Y) (F : Fr A J) (j : J I H) (hD : H D = none) {Qd : Hp → Prop} (R : Nat → Hp → List V → Prop) (h0 : R 0 I [])
    (hG : ∀ H', (∀ b o, ¬ A b → H b = some o → H' b = some o) → G H') (hY : ∀ i H x H', Y i H x H' → H' = H)
    (hs : ∀ i x I' H' ys, i < n → Y i H' x H' → Go A J I H I' H' → R i I' ys → ys.length < 99999 ∧ ∀ Q : VK, (∀ I'' H'' v, Go A J I' H' I'' H'' → R (i + 1) I'' (ys ++ [v]) → Q v H'') → te ((wipe σ [m]).set m (some x)) H' Q)
    (hd : ∀ I' H' ys, Go A J I H I' H' → I' D = none → H' D = some (.lst ys) → R n I' ys → Qd H') :
    ∃ W : Nat → Nat → Hp → Prop, (∃ m, W 0 m (upd H D (.lst []))) ∧ ∀ i k H, W i k H →
      (Jt.stop i H ∧ Qd H) ∨ (Jt.go i H ∧ ∃ Nx : Hp → Prop, (∀ H', Nx H' → ∃ m', m' < k ∧ W (i + 1) m' H') ∧ ∀ x H', Jt.yld i H x H' → gName m x (wipe σ [m]) H' fun σ2 H2 => wipe σ2 [m] = wipe σ [m] ∧ tYes σ2 H2 fun b H3 =>
        if b = true then te σ2 H3 fun y H4 => ∃ acc, H4 D = some (.lst acc) ∧ acc.length < sizeLine ∧ Nx (upd H4 D (.lst (acc ++ [y]))) else Nx H3) :=
  lc_goT w F j hD R h0 hG hY (fun i x I' H' ys hi hy g hR => ⟨true, fun Q2 q => q, fun z => Bool.noConfusion z, fun _ => hs i x I' H' ys hi hy g hR⟩) hd
end
/-- values that the turn tells -/
def Tell (f : Nat → V) : Nat → Hp → List V → Prop := fun i _ ys => ys = (List.range i).map f
theorem tell_0 {f : Nat → V} {I : Hp} : Tell f 0 I [] := rfl
theorem Tell.len {f : Nat → V} {i : Nat} {I : Hp} {ys : List V} (h : Tell f i I ys) : ys.length = i := by rw [h]; simp
theorem Tell.snoc {f : Nat → V} {i : Nat} {I I' : Hp} {ys : List V} (h : Tell f i I ys) {v : V} (e : v = f i) : Tell f (i + 1) I' (ys ++ [v]) := by
  show ys ++ [v] = (List.range (i + 1)).map f
  rw [List.range_succ, List.map_append, h, e]
  rfl
/-! ### one address may change -/
def A1 (p : Addr) : Addr → Prop := fun a => a = p
def J1 (p : Addr) (φ : Hp → HO → Prop) (I H : Hp) : Prop := Same I H ∧ I p = none ∧ ∃ o, H p = some o ∧ φ I o
theorem fr1 {p : Addr} {φ : Hp → HO → Prop} (mono : ∀ I I' o, φ I o → Same I I' → φ I' o) : Fr (A1 p) (J1 p φ) where
  sub := fun j => j.1
  out := fun {I H a} j e => by
    cases (show a = p from e)
    obtain ⟨_, h, o, ho, _⟩ := j
    exact ⟨h, o, ho⟩
  pure := fun {I H I' H'} j s f k s' => by
    obtain ⟨_, h, o, ho, ph⟩ := j
    exact ⟨s', by rw [f p (by rw [ho]; simp)]; exact h, o, k _ _ ho, mono _ _ _ ph s⟩
  chg := fun {I H a u} j n hi => by
    obtain ⟨s, h, o, ho, ph⟩ := j
    refine ⟨fr0.chg s (fun z => z) hi, h, o, ?_, ph⟩
    rw [upd_ne (fun e => n e.symm)]
    exact ho
  lay := fun {I H a u} j n hi ha => by
    obtain ⟨s, h, o, ho, ph⟩ := j
    have hia := fr0.lay s (fun z => z) hi ha
    exact ⟨hia, by rw [upd_ne (fun e => n e.symm)]; exact h, o, ho, mono _ _ _ ph (same_new hi _)⟩
/-- the object at p is written -/
theorem Go.put {p : Addr} {φ : Hp → HO → Prop} {I H I1 H1 : Hp} {o : HO} (g : Go (A1 p) (J1 p φ) I H I1 H1) (h : φ I1 o) : Go (A1 p) (J1 p φ) I H I1 (upd H1 p o) := by
  obtain ⟨s, hp, _⟩ := g.j
  exact ⟨g.s, g.f, fun b u n e => by rw [upd_ne n]; exact g.k b u n e, fr0.chg s (fun z => z) hp, hp, o, upd_same, h⟩
end JR
/-! JD: the data (clauses, plans), their texts, how they lie in the heap. -/
namespace JR
open PySem PySem.Spec PyProof.Rows L2

/-! ### data -/
structure Cl where
  w : Str
  rest : Nat
  step : Nat
  side : Str
  far : Nat
  lab : Str
structure Pl where
  name : Str
  gw : Str
  gk : Nat
  base : Nat
  rds : List (List Cl)
def menu : List Str := ["join", "left", "on", "of", "a1", "a2", "plan", "call", "z9z9z9z9"]
/-- a clause that may stand in the plan with this index -/
structure ClOk (ns : List Str) (i : Nat) (c : Cl) : Prop where
  s1 : 1 ≤ c.step
  s3 : c.step ≤ 3
  r : c.rest < c.step
  kd : (c.w = "call" ∧ c.side = "" ∧ c.far = 0 ∧ c.lab ∈ ns ∧ (c.step = 1 → ns[i + 1]? = some c.lab)) ∨
    ((c.w = "join" ∨ c.w = "take" ∨ c.w = "clear") ∧ (c.side = "left" ∨ c.side = "right") ∧ 1 ≤ c.far ∧ c.far ≤ 4 ∧ c.lab = "")
/-- a round -/
structure RdOk (ns : List Str) (i : Nat) (r : List Cl) : Prop where
  ne : r ≠ []
  l3 : r.length ≤ 3
  ok : ∀ c ∈ r, ClOk ns i c
  calls : (∀ c ∈ r, c.w = "call") ∨ ∀ c ∈ r, c.w ≠ "call"
  apart : ∀ (j k : Nat) (c d : Cl), r[j]? = some c → r[k]? = some d → j < k → d.step = c.step ∧ d.rest ≠ c.rest
structure GoOk (gw : Str) (gk : Nat) : Prop where
  kd : (gw = "all" ∧ gk = 0) ∨ (gw = "before" ∧ gk = 0) ∨ (gw = "last" ∧ 1 ≤ gk ∧ gk ≤ 4)
structure PlOk (ns : List Str) (i : Nat) (p : Pl) : Prop where
  nm : ns[i]? = some p.name
  go : GoOk p.gw p.gk
  b1 : 1 ≤ p.base
  b4 : p.base ≤ 4
  r1 : p.rds ≠ []
  r3 : p.rds.length ≤ 4
  ok : ∀ r ∈ p.rds, RdOk ns i r
structure SkOk (ns : List Str) (sk : List Pl) : Prop where
  n3 : ns.length ≤ 3
  l : sk.length = ns.length
  nd : ns.Nodup
  mn : ∀ n ∈ ns, n ∈ menu
  ok : ∀ (i : Nat) (p : Pl), sk[i]? = some p → PlOk ns i p

/-! ### texts -/
def dg (n : Nat) : List Nat := [48 + n]
def dig (n : Nat) : Str := SX.S (dg n)
def cd (x : Str) : List Nat := x.cps.toList
theorem S_cd (x : Str) : SX.S (cd x) = x := SX.S_tl x
/-- the words of a clause's text -/
def clW (c : Cl) : List (List Nat) :=
  if c.w = "call" then [cd "call", cd c.lab, cd "on", dg c.rest, cd "of", dg c.step]
  else if c.w = "clear" then [cd c.w, dg c.rest, cd "of", dg c.step]
  else [cd c.w, dg c.rest, cd "of", dg c.step, cd c.side, dg c.far]
def clT (c : Cl) : List Nat := TL.joinL [32] (clW c)
def rdT (r : List Cl) : List Nat := TL.joinL [59, 32] (r.map clT)
def goT (gw : Str) (gk : Nat) : Str := if gw = "last" then SX.S (cd "last " ++ dg gk) else gw

/-! ### in the heap -/
def LstAt {α : Type} (R : Hp → V → α → Prop) (I : Hp) (v : V) (xs : List α) : Prop := ∃ a vs, v = .ref a ∧ I a = some (.lst vs) ∧ Paired (R I) vs xs
def ClAt (I : Hp) (v : V) (c : Cl) : Prop := ∃ a, v = .ref a ∧ I a = some (.tup [.str c.w, .int c.rest, .int c.step, .str c.side, .int c.far, .str c.lab])
abbrev RdAt : Hp → V → List Cl → Prop := LstAt ClAt
abbrev RdsAt : Hp → V → List (List Cl) → Prop := LstAt RdAt
def GoAt (I : Hp) (v : V) (gw : Str) (gk : Nat) : Prop := ∃ a, v = .ref a ∧ I a = some (.tup [.str gw, .int gk])
def PlAt (I : Hp) (v : V) (p : Pl) : Prop := ∃ a g r, v = .ref a ∧ I a = some (.lst [.str p.name, g, .int p.base, r]) ∧ GoAt I g p.gw p.gk ∧ RdsAt I r p.rds
abbrev SkAt : Hp → V → List Pl → Prop := LstAt PlAt
/-- the program's clause -/
def sideV (c : Cl) : V := if c.w = "call" ∨ c.w = "clear" then .non else .str c.side
def farV (c : Cl) : V := if c.w = "call" ∨ c.w = "clear" then .non else .int c.far
def goalV (c : Cl) : V := if c.w = "call" then .str c.lab else .non
def flC (w rest step side far goal : V) : List (Str × V) := [("word", w), ("rest", rest), ("step", step), ("side", side), ("far", far), ("goal", goal)]
def clF (c : Cl) : List (Str × V) := flC (.str c.w) (.int c.rest) (.int c.step) (sideV c) (farV c) (goalV c)
section
variable (CC CB CK : Addr)
def ClOb (I : Hp) (v : V) (c : Cl) : Prop := ∃ a dx, v = .ref a ∧ I a = some (.ins CC dx (clF c))
abbrev RdOb : Hp → V → List Cl → Prop := LstAt (ClOb CC)
abbrev RdsOb : Hp → V → List (List Cl) → Prop := LstAt (RdOb CC)
end
/-- a plan as the program takes it -/
def PlanAt (I : Hp) (v : V) (p : Pl) : Prop := ∃ a r, v = .ref a ∧ I a = some (.tup [.str p.name, .str (goT p.gw p.gk), .int p.base, .ref r]) ∧ I r = some (.tup (p.rds.map fun r => V.str (SX.S (rdT r))))
def PlansAt (I : Hp) (v : V) (sk : List Pl) : Prop := ∃ a vs, v = .ref a ∧ I a = some (.tup vs) ∧ Paired (PlanAt I) vs sk
def flB (t d : Addr) : List (Str × V) := [("held", .ref t), ("parsed", .ref d)]
def BookAt (CC CB : Addr) (I : Hp) (v : V) (sk : List Pl) : Prop := ∃ b dx t d kvs, v = .ref b ∧ I b = some (.ins CB dx (flB t d)) ∧ PlansAt I (.ref t) sk ∧ I d = some (.dK kvs) ∧
  ∀ p ∈ sk, ∃ x, valV kvs (Sum.inr p.name : Key) = some x ∧ RdsOb CC I x p.rds
section
variable {I I' : Hp} (s : Same I I')
include s
theorem LstAt.mono {α : Type} {R : Hp → V → α → Prop} (h : ∀ v x, R I v x → R I' v x) {v : V} {xs : List α} (x : LstAt R I v xs) : LstAt R I' v xs := by
  obtain ⟨a, vs, e, e1, p⟩ := x
  exact ⟨a, vs, e, s _ _ e1, p.mono h⟩
theorem ClAt.mono {v : V} {c : Cl} (x : ClAt I v c) : ClAt I' v c := by
  obtain ⟨a, e, e1⟩ := x
  exact ⟨a, e, s _ _ e1⟩
theorem RdAt.mono {v : V} {c : List Cl} (x : RdAt I v c) : RdAt I' v c := LstAt.mono s (fun _ _ => ClAt.mono s) x
theorem RdsAt.mono {v : V} {c : List (List Cl)} (x : RdsAt I v c) : RdsAt I' v c := LstAt.mono s (fun _ _ => RdAt.mono s) x
theorem GoAt.mono {v : V} {gw : Str} {gk : Nat} (x : GoAt I v gw gk) : GoAt I' v gw gk := by
  obtain ⟨a, e, e1⟩ := x
  exact ⟨a, e, s _ _ e1⟩
theorem PlAt.mono {v : V} {p : Pl} (x : PlAt I v p) : PlAt I' v p := by
  obtain ⟨a, g, r, e, e1, h1, h2⟩ := x
  exact ⟨a, g, r, e, s _ _ e1, h1.mono s, RdsAt.mono s h2⟩
theorem SkAt.mono {v : V} {sk : List Pl} (x : SkAt I v sk) : SkAt I' v sk := LstAt.mono s (fun _ _ => PlAt.mono s) x
theorem ClOb.mono {CC : Addr} {v : V} {c : Cl} (x : ClOb CC I v c) : ClOb CC I' v c := by
  obtain ⟨a, d, e, e1⟩ := x
  exact ⟨a, d, e, s _ _ e1⟩
theorem RdOb.mono {CC : Addr} {v : V} {c : List Cl} (x : RdOb CC I v c) : RdOb CC I' v c := LstAt.mono s (fun _ _ => ClOb.mono s) x
theorem RdsOb.mono {CC : Addr} {v : V} {c : List (List Cl)} (x : RdsOb CC I v c) : RdsOb CC I' v c := LstAt.mono s (fun _ _ => RdOb.mono s) x
theorem PlanAt.mono {v : V} {p : Pl} (x : PlanAt I v p) : PlanAt I' v p := by
  obtain ⟨a, r, e, e1, e2⟩ := x
  exact ⟨a, r, e, s _ _ e1, s _ _ e2⟩
theorem PlansAt.mono {v : V} {sk : List Pl} (x : PlansAt I v sk) : PlansAt I' v sk := by
  obtain ⟨a, vs, e, e1, p⟩ := x
  exact ⟨a, vs, e, s _ _ e1, p.mono fun _ _ => PlanAt.mono s⟩
theorem BookAt.mono {CC CB : Addr} {v : V} {sk : List Pl} (x : BookAt CC CB I v sk) : BookAt CC CB I' v sk := by
  obtain ⟨b, dx, t, d, kvs, e, e1, h1, e2, h2⟩ := x
  refine ⟨b, dx, t, d, kvs, e, s _ _ e1, h1.mono s, s _ _ e2, fun p hp => ?_⟩
  obtain ⟨y, hy, q⟩ := h2 p hp
  exact ⟨y, hy, RdsOb.mono s q⟩
end
/-! ### places of two lists side by side -/
theorem paired_at {α β : Type} {F : α → β → Prop} : ∀ {xs : List α} {ys : List β} {i : Nat} {x : α}, Paired F xs ys → xs[i]? = some x → ∃ y, ys[i]? = some y ∧ F x y
  | _, _, i, x, .nil, e => by simp at e
  | _, _, 0, x, .cons h t, e => by
    have e' := Option.some.inj e
    subst e'
    exact ⟨_, rfl, h⟩
  | _, _, i + 1, x, .cons h t, e => paired_at (i := i) t e
theorem paired_at' {α β : Type} {F : α → β → Prop} : ∀ {xs : List α} {ys : List β} {i : Nat} {y : β}, Paired F xs ys → ys[i]? = some y → ∃ x, xs[i]? = some x ∧ F x y
  | _, _, i, y, .nil, e => by simp at e
  | _, _, 0, y, .cons h t, e => by
    have e' := Option.some.inj e
    subst e'
    exact ⟨_, rfl, h⟩
  | _, _, i + 1, y, .cons h t, e => paired_at' (i := i) t e
theorem take_snoc {α : Type} {xs : List α} {i : Nat} {x : α} (h : xs[i]? = some x) : xs.take (i + 1) = xs.take i ++ [x] := by
  rw [List.take_add_one, h]
  rfl
/-! ### the texts read -/
theorem mem_menu {n : Str} (h : n ∈ menu) : n = "join" ∨ n = "left" ∨ n = "on" ∨ n = "of" ∨ n = "a1" ∨ n = "a2" ∨ n = "plan" ∨ n = "call" ∨ n = "z9z9z9z9" := by
  simpa [menu] using h
theorem no_of {n : Str} (h : n ∈ menu) : 32 ∉ cd n ∧ 59 ∉ cd n := by
  rcases mem_menu h with e | e | e | e | e | e | e | e | e <;> subst e <;> exact ⟨by decide +kernel, by decide +kernel⟩
theorem no_dg {n : Nat} (h : n ≤ 9) : 32 ∉ dg n ∧ 59 ∉ dg n := by
  constructor <;> · intro z; simp [dg] at z; omega
end JR
/-! JT: the texts of clauses, rounds, goals: how they are put together and taken apart. -/
namespace JR
open PySem PySem.Spec PyProof.Rows L2
theorem sp_S : (" " : Str) = SX.S [32] := by decide +kernel
theorem gap_S : ("; " : Str) = SX.S [59, 32] := by decide +kernel
theorem lit_no {l : List Nat} (h : (l.all fun c => decide (c ≠ 32 ∧ c ≠ 59)) = true) : 32 ∉ l ∧ 59 ∉ l := by
  rw [List.all_eq_true] at h
  constructor <;> · intro z; have := of_decide_eq_true (h _ z); omega
/-- words of a clause: no blank, no semicolon -/
theorem clW_no {ns : List Str} {i : Nat} {c : Cl} (hn : ∀ n ∈ ns, n ∈ menu) (h : ClOk ns i c) : ∀ p ∈ clW c, 32 ∉ p ∧ 59 ∉ p := by
  have d1 : 32 ∉ dg c.rest ∧ 59 ∉ dg c.rest := no_dg (by have := h.r; have := h.s3; omega)
  have d2 : 32 ∉ dg c.step ∧ 59 ∉ dg c.step := no_dg (by have := h.s3; omega)
  have lo : 32 ∉ cd "of" ∧ 59 ∉ cd "of" := lit_no (by decide +kernel)
  have ln : 32 ∉ cd "on" ∧ 59 ∉ cd "on" := lit_no (by decide +kernel)
  have lc : 32 ∉ cd "call" ∧ 59 ∉ cd "call" := lit_no (by decide +kernel)
  intro p hp
  unfold clW at hp
  rcases h.kd with ⟨e, _, _, hl, _⟩ | ⟨e, hs, f1, f4, _⟩
  · rw [if_pos e] at hp
    simp only [List.mem_cons, List.not_mem_nil, or_false] at hp
    rcases hp with e | e | e | e | e | e <;> subst e <;> first | assumption | exact no_of (hn _ hl)
  · have d3 : 32 ∉ dg c.far ∧ 59 ∉ dg c.far := no_dg (by omega)
    have lw : 32 ∉ cd c.w ∧ 59 ∉ cd c.w := by
      rcases e with e | e | e <;> rw [e] <;> exact lit_no (by decide +kernel)
    have ls : 32 ∉ cd c.side ∧ 59 ∉ cd c.side := by
      rcases hs with e | e <;> rw [e] <;> exact lit_no (by decide +kernel)
    have nc : c.w ≠ "call" := by
      rcases e with e | e | e <;> rw [e] <;> decide +kernel
    rw [if_neg nc] at hp
    split at hp
    · simp only [List.mem_cons, List.not_mem_nil, or_false] at hp
      rcases hp with e | e | e | e <;> subst e <;> assumption
    · simp only [List.mem_cons, List.not_mem_nil, or_false] at hp
      rcases hp with e | e | e | e | e | e <;> subst e <;> assumption
theorem clW_ne (c : Cl) : clW c ≠ [] := by
  unfold clW
  split
  · simp
  · split <;> simp
theorem joinL_no {s : List Nat} {c : Nat} (hs : c ∉ s) : ∀ {l : List (List Nat)}, (∀ p ∈ l, c ∉ p) → c ∉ TL.joinL s l
  | [], _ => by simp [TL.joinL]
  | [x], h => by simpa [TL.joinL] using h x (by simp)
  | x :: y :: r, h => by
    have ih := joinL_no hs (l := y :: r) fun p hp => h p (List.mem_cons_of_mem _ hp)
    have hx := h x (by simp)
    simp only [TL.joinL, List.mem_append, not_or]
    exact ⟨hx, hs, ih⟩
section
variable {ns : List Str} {i : Nat} (hn : ∀ n ∈ ns, n ∈ menu)
include hn
theorem split_cl {c : Cl} (h : ClOk ns i c) : Txt.split (SX.S (clT c)) " " = (clW c).map SX.S := by
  rw [sp_S, SX.split_S (by simp) (by decide)]
  unfold clT
  rw [SX.spl_join (clW_ne c) fun p hp => (clW_no hn h p hp).1]
theorem clT_no {c : Cl} (h : ClOk ns i c) : 59 ∉ clT c := joinL_no (by decide) fun p hp => (clW_no hn h p hp).2
theorem split_rd {r : List Cl} (h : RdOk ns i r) : Txt.split (SX.S (rdT r)) "; " = (r.map clT).map SX.S := by
  rw [gap_S, SX.split_S (by simp) (by decide)]
  unfold rdT
  rw [SX.spl_join (by simpa using h.ne) fun p hp => by
    obtain ⟨c, hc, e⟩ := List.mem_map.mp hp
    subst e
    exact clT_no hn (h.ok c hc)]
end
theorem join_rd (r : List Cl) : Txt.join "; " ((r.map clT).map SX.S) = SX.S (rdT r) := by
  rw [gap_S, SX.join_S]
  rfl
/-! ### lengths -/
theorem joinL_len (s : List Nat) (m : Nat) : ∀ l : List (List Nat), (∀ p ∈ l, p.length ≤ m) → (TL.joinL s l).length ≤ l.length * (m + s.length)
  | [], _ => by simp [TL.joinL]
  | [x], h => by
    have := h x (by simp)
    simp only [TL.joinL, List.length_singleton]
    omega
  | x :: y :: r, h => by
    have ih := joinL_len s m (y :: r) fun p hp => h p (List.mem_cons_of_mem _ hp)
    have hx := h x (by simp)
    simp only [TL.joinL, List.length_append]
    have e : (x :: y :: r).length * (m + s.length) = (y :: r).length * (m + s.length) + (m + s.length) := by
      rw [List.length_cons, Nat.succ_mul]
    omega
theorem menu_len {n : Str} (h : n ∈ menu) : (cd n).length ≤ 8 := by
  rcases mem_menu h with e | e | e | e | e | e | e | e | e <;> subst e <;> decide +kernel
theorem clW_len {ns : List Str} {i : Nat} {c : Cl} (hn : ∀ n ∈ ns, n ∈ menu) (h : ClOk ns i c) : (∀ p ∈ clW c, p.length ≤ 8) ∧ (clW c).length ≤ 6 := by
  have l1 : (cd "of").length ≤ 8 := by decide +kernel
  have l2 : (cd "on").length ≤ 8 := by decide +kernel
  have l3 : (cd "call").length ≤ 8 := by decide +kernel
  have d : ∀ n, (dg n).length ≤ 8 := fun n => by simp [dg]
  unfold clW
  rcases h.kd with ⟨e, _, _, hl, _⟩ | ⟨e, hs, f1, f4, _⟩
  · rw [if_pos e]
    refine ⟨fun p hp => ?_, by simp⟩
    simp only [List.mem_cons, List.not_mem_nil, or_false] at hp
    rcases hp with e | e | e | e | e | e <;> subst e <;> first | assumption | exact d _ | exact menu_len (hn _ hl)
  · have lw : (cd c.w).length ≤ 8 := by
      rcases e with e | e | e <;> rw [e] <;> decide +kernel
    have ls : (cd c.side).length ≤ 8 := by
      rcases hs with e | e <;> rw [e] <;> decide +kernel
    have nc : c.w ≠ "call" := by
      rcases e with e | e | e <;> rw [e] <;> decide +kernel
    rw [if_neg nc]
    split
    · refine ⟨fun p hp => ?_, by simp⟩
      simp only [List.mem_cons, List.not_mem_nil, or_false] at hp
      rcases hp with e | e | e | e <;> subst e <;> first | assumption | exact d _
    · refine ⟨fun p hp => ?_, by simp⟩
      simp only [List.mem_cons, List.not_mem_nil, or_false] at hp
      rcases hp with e | e | e | e | e | e <;> subst e <;> first | assumption | exact d _
theorem clT_len {ns : List Str} {i : Nat} {c : Cl} (hn : ∀ n ∈ ns, n ∈ menu) (h : ClOk ns i c) : (clT c).length ≤ 54 := by
  obtain ⟨h1, h2⟩ := clW_len hn h
  have := joinL_len [32] 8 (clW c) h1
  have e : [32].length = 1 := rfl
  unfold clT
  rw [e] at this
  omega
theorem rdT_len {ns : List Str} {i : Nat} {r : List Cl} (hn : ∀ n ∈ ns, n ∈ menu) (h : RdOk ns i r) : (rdT r).length ≤ 168 := by
  have := joinL_len [59, 32] 54 (r.map clT) fun p hp => by
    obtain ⟨c, hc, e⟩ := List.mem_map.mp hp
    subst e
    exact clT_len hn (h.ok c hc)
  have e : [59, 32].length = 2 := rfl
  have l := h.l3
  rw [e, List.length_map] at this
  unfold rdT
  omega
/-! ### how the law puts them together -/
theorem str_dig {n : Nat} (h : n ≤ 9) : Str.ofString (toString ((n : Nat) : Int)) = dig n := by
  have : n = 0 ∨ n = 1 ∨ n = 2 ∨ n = 3 ∨ n = 4 ∨ n = 5 ∨ n = 6 ∨ n = 7 ∨ n = 8 ∨ n = 9 := by omega
  rcases this with e | e | e | e | e | e | e | e | e | e <;> subst e <;> decide +kernel
theorem cat_S (x y : Str) : x ++ y = SX.S (cd x ++ cd y) := by
  rw [← SX.S_cat, S_cd, S_cd]
theorem cd_S (l : List Nat) : cd (SX.S l) = l := rfl
theorem cd_cat (x y : Str) : cd (x ++ y) = cd x ++ cd y := by rw [cat_S, cd_S]
def spot (c : Cl) : Str := dig c.rest ++ " of " ++ dig c.step
theorem txt_call {c : Cl} (h : c.w = "call") : ("call " : Str) ++ c.lab ++ " on " ++ spot c = SX.S (clT c) := by
  have e1 : cd "call " = cd "call" ++ [32] := by decide +kernel
  have e2 : cd " on " = [32] ++ (cd "on" ++ [32]) := by decide +kernel
  have e3 : cd " of " = [32] ++ (cd "of" ++ [32]) := by decide +kernel
  rw [← S_cd (("call " : Str) ++ c.lab ++ " on " ++ spot c)]
  congr 1
  unfold spot clT clW dig
  rw [if_pos h]
  simp only [cd_cat, cd_S, e1, e2, e3, TL.joinL, List.append_assoc, List.nil_append, List.cons_append]
theorem txt_clear {c : Cl} (h : c.w = "clear") : c.w ++ " " ++ spot c ++ "" = SX.S (clT c) := by
  have e2 : cd " " = [32] := by decide +kernel
  have e3 : cd " of " = [32] ++ (cd "of" ++ [32]) := by decide +kernel
  have e4 : cd "" = [] := by decide +kernel
  have nc : c.w ≠ "call" := by rw [h]; decide +kernel
  rw [← S_cd (c.w ++ " " ++ spot c ++ "")]
  congr 1
  unfold spot clT clW dig
  rw [if_neg nc, if_pos h]
  simp only [cd_cat, cd_S, e2, e3, e4, TL.joinL, List.append_assoc, List.nil_append, List.cons_append, List.append_nil]
theorem txt_other {c : Cl} (h : c.w ≠ "clear") (nc : c.w ≠ "call") : c.w ++ " " ++ spot c ++ (" " ++ c.side ++ " " ++ dig c.far) = SX.S (clT c) := by
  have e2 : cd " " = [32] := by decide +kernel
  have e3 : cd " of " = [32] ++ (cd "of" ++ [32]) := by decide +kernel
  rw [← S_cd (c.w ++ " " ++ spot c ++ (" " ++ c.side ++ " " ++ dig c.far))]
  congr 1
  unfold spot clT clW dig
  rw [if_neg nc, if_neg h]
  simp only [cd_cat, cd_S, e2, e3, TL.joinL, List.append_assoc, List.nil_append, List.cons_append, List.append_nil]
theorem txt_last (k : Nat) : ("last" : Str) ++ (" " ++ dig k) = goT "last" k := by
  have e : cd "last " = cd "last" ++ [32] := by decide +kernel
  have e2 : cd " " = [32] := by decide +kernel
  have h : cd (("last" : Str) ++ (" " ++ dig k)) = cd "last " ++ dg k := by simp only [cd_cat, e, e2, dig, cd_S, List.append_assoc]
  unfold goT
  rw [if_pos rfl, ← h, S_cd]
theorem str_len (x : Str) : x.length = (cd x).length := TL.len_tl x
end JR
/-! J3: kinds, one clause. -/
namespace JR
open PySem PySem.Spec PyProof.Rows L2
section
variable {P : Program} {w : World} {K : PySem.W.Frag} {mg : Str → Option Value} {base : Heap} {CC CB CK : Addr}
theorem iteB {b : Bool} {A B : Prop} (hb : b = true) (h : A) : if b = true then A else B := by
  rw [if_pos hb]
  exact h
theorem iteC {b : Bool} {A B : Prop} (hb : b = false) (h : B) : if b = true then A else B := by
  rw [if_neg (by rw [hb]; decide)]
  exact h
def sp_is_integer : Sp := fun vs H Q _ => ∃ n : Int, vs = [.int n] ∧ Q (.bl true) H
theorem ok_is_integer (T : Tx K mg CC CB CK)  : Fn P w K mg base 1 "is_integer" (sp_is_integer) := by
  refine T.f_is_integer.fn sc_is_integer (fun _ _ _ _ _ _ us hl => match us, hl with | [_], _ => rfl) (fun vs H Q E h => ?_) (fun f cdv A outer s H vs Q E hr h => ?_)
  · obtain ⟨n, rfl, _⟩ := h
    rfl
  · obtain ⟨n, rfl, q⟩ := h
    refine ⟨_, (pss_one (ps_ret (pe_and (pe_callB call_isi (by rfl) T.b_isinstance (by decide +kernel) (pa_cons (pv 0) (pa_cons (pe_bltn (v := .ty "int") (by rfl) T.b_int (by decide +kernel) rfl) pa_nil))) (pe_one (pe_not (pe_callB call_isi (by rfl) T.b_isinstance (by decide +kernel) (pa_cons (pv 0) (pa_cons (pe_bltn (v := .ty "bool") (by rfl) T.b_bool (by decide +kernel) rfl) pa_nil)))))))), ?_⟩
    refine ⟨_, rfl, _, _, _, _, true, rfl, .ty "int", .base (.int n), kit_ty (by decide +kernel), _, rfl, iteT ?_⟩
    refine ⟨_, rfl, _, _, _, _, false, rfl, .ty "bool", .base (.int n), kit_ty (by decide +kernel), _, rfl, q⟩
def sp_is_between : Sp := fun vs H Q _ => ∃ n a b : Int, vs = [.int n, .int a, .int b] ∧ a ≤ n ∧ n ≤ b ∧ Q (.bl true) H
theorem ok_is_between (T : Tx K mg CC CB CK) (c_is_integer : Fn P w K mg base 1 "is_integer" (sp_is_integer)) : Fn P w K mg base 2 "is_between" (sp_is_between) := by
  refine T.f_is_between.fn sc_is_between (fun _ _ _ _ _ _ us hl => match us, hl with | [_, _, _], _ => rfl) (fun vs H Q E h => ?_) (fun f cdv A outer s H vs Q E hr h => ?_)
  · obtain ⟨n, a, b, rfl, _⟩ := h
    rfl
  · obtain ⟨n, a, b, rfl, h1, h2, q⟩ := h
    refine ⟨_, (pss_one (ps_ret (pe_and (pe_fn c_is_integer hr (by decide) (by rfl) (pa_cons (pv 0) pa_nil)) (pe_one (pe_chain op_le op_le (pv 1) (pv 0) (pv 2)))))), ?_⟩
    refine ⟨_, rfl, n, rfl, _, rfl, iteT ?_⟩
    refine ⟨_, rfl, _, rfl, _, _, rfl, rfl, _, rfl, ?_⟩
    rw [decide_eq_true h1]
    refine iteT ⟨_, rfl, _, _, rfl, rfl, ?_⟩
    show Q (.bl (decide (n ≤ b))) H
    rw [decide_eq_true h2]
    exact q
def sp_check_size : Sp := fun vs H Q _ => ∃ n b : Int, vs = [.int n, .int b] ∧ 1 ≤ n ∧ n ≤ b ∧ Q .non H
theorem ok_check_size (T : Tx K mg CC CB CK) (c_is_between : Fn P w K mg base 2 "is_between" (sp_is_between)) : Fn P w K mg base 3 "check_size" (sp_check_size) := by
  refine T.f_check_size.fn sc_check_size (fun _ _ _ _ _ _ us hl => match us, hl with | [_, _], _ => rfl) (fun vs H Q E h => ?_) (fun f cdv A outer s H vs Q E hr h => ?_)
  · obtain ⟨n, b, rfl, _⟩ := h
    rfl
  · obtain ⟨n, b, rfl, h1, h2, q⟩ := h
    refine ⟨_, (pss_one (ps_if (pt_not (pt_val (pe_fn c_is_between hr (by decide) (by rfl) (pa_cons (pv 0) (pa_cons pe_int (pa_cons (pv 1) pa_nil))))))
        (pss_one ps_never)
        pss_nil)), ?_⟩
    exact ⟨_, rfl, _, rfl, n, 1, b, rfl, h1, h2, _, rfl, q⟩
/-! ### names -/
def lets : Str := "abcdefghijklmnopqrstuvwxyz"
def digs : Str := "0123456789"
theorem menu_ok : ∀ n ∈ menu, (decide (0 < n.length) && (decide (n.length < 9) && ((match n.cps.toList with | c :: _ => decide (c ∈ lets.cps.toList) | [] => false) && n.cps.toList.all fun c => decide (c ∈ lets.cps.toList) || decide (c ∈ digs.cps.toList)))) = true := by
  have h : (menu.all fun n => (decide (0 < n.length) && (decide (n.length < 9) && ((match n.cps.toList with | c :: _ => decide (c ∈ lets.cps.toList) | [] => false) && n.cps.toList.all fun c => decide (c ∈ lets.cps.toList) || decide (c ∈ digs.cps.toList))))) = true := by decide +kernel
  exact List.all_eq_true.mp h
def sp_is_name : Sp := fun vs H Q _ => ∃ n : Str, vs = [.str n] ∧ n ∈ menu ∧ ∀ H', Same H H' → Q (.bl true) H'
theorem ok_is_name (T : Tx K mg CC CB CK)  : Fn P w K mg base 1 "is_name" (sp_is_name) := by
  refine T.f_is_name.fn sc_is_name (fun _ _ _ _ _ _ us hl => match us, hl with | [_], _ => rfl) (fun vs H Q E h => ?_) (fun f cdv A outer s H vs Q E hr h => ?_)
  · obtain ⟨n, rfl, _⟩ := h
    rfl
  · obtain ⟨n, rfl, hn, q⟩ := h
    have ok := menu_ok n hn
    rw [Bool.and_eq_true, Bool.and_eq_true, Bool.and_eq_true, decide_eq_true_eq, decide_eq_true_eq] at ok
    obtain ⟨l1, l2, l3, l4⟩ := ok
    have hz : n.length ≤ sizeLine := Nat.le_trans (Nat.le_of_lt l2) (by decide)
    obtain ⟨c, r, hc⟩ : ∃ c r, n.cps.toList = c :: r := by
      cases e : n.cps.toList with
      | nil => rw [e] at l3; cases l3
      | cons c r => exact ⟨c, r, rfl⟩
    rw [hc] at l3
    have l3 : c ∈ lets.cps.toList := of_decide_eq_true l3
    refine ⟨_, (pss_cons (ps_if (PW.pt (pw_or (pt_not (pt_val (pe_callB call_isi (by rfl) T.b_isinstance (by decide +kernel) (pa_cons (pv 0) (pa_cons (pe_bltn (v := .ty "str") (by rfl) T.b_str (by decide +kernel) rfl) pa_nil))))) (pw_or (pt_not (pt_chain op_lt op_lt pe_int (pe_callB call_len_str (by rfl) T.b_len (by decide +kernel) (pa_cons (pv 0) pa_nil)) pe_int)) (pw_or1 (pt_cmpR op_notIn_sign (pe_ix ix_str (pv 0) pe_int (fun _ _ => rfl)) (C8.pe_gc rfl T.c_LETTERS) rfl)))))
        (pss_one (ps_ret pe_bl))
        pss_nil)
      (pss_one (ps_ret (pe_callB (cr_all rfl) (by rfl) T.b_all (by decide +kernel) (pa_cons (pe_lc (own := [("sign", 1)]) (g := gName 1) (tt := tYes) rfl sc_is_name.nd (pi_str (pv 0)) (blkOk_by (own := [("sign", 1)]) (N := N_is_name) (sc := defScope s_is_name) (by decide +kernel))
        (fun _ _ _ _ _ => pg_name (i := 1) sc_is_name.nd rfl (Or.inl rfl)) (fun _ _ _ _ _ => pts_nil)
        (fun _ _ _ _ _ => (pe_or (pe_cmpR op_in_sign (pv 1) (C8.pe_gc rfl T.c_LETTERS) rfl) (pe_one (pe_cmpR op_in_sign (pv 1) (C8.pe_gc rfl T.c_DIGITS) rfl))))) pa_nil))))), ?_⟩
    refine ⟨_, rfl, _, _, _, _, true, rfl, .ty "str", .base (.str n), kit_ty (by decide +kernel), _, rfl, iteC rfl ?_⟩
    refine ⟨_, rfl, n, rfl, hz, _, _, rfl, rfl, _, rfl, ?_⟩
    refine iteB (decide_eq_true (by show (0 : Int) < (n.length : Int); omega)) ⟨_, _, rfl, rfl, _, rfl, iteC ?_ ?_⟩
    · show (!decide ((n.length : Int) < 9)) = false
      rw [decide_eq_true (by omega)]
      rfl
    refine ⟨_, rfl, n, 0, c, rfl, rfl, hz, atI_nat (j := 0) (by rw [hc]; rfl), c, lets, rfl, rfl, _, rfl, iteC ?_ ?_⟩
    · show (!decide (c ∈ lets.cps.toList)) = false
      rw [decide_eq_true l3]
      rfl
    refine ⟨_, rfl, n, rfl, fun D hD => ?_⟩
    have hsz : n.cps.size = n.length := rfl
    refine lc_goY walk_str fr0 (Same.refl H) hD (Tell fun _ => V.bl true) tell_0 (fun _ _ => trivial) (fun _ _ _ _ y => y.1) ?_ ?_
    · rintro i x I' H' ys hi ⟨_, d, hd, rfl⟩ g hR
      refine ⟨by rw [hR.len]; omega, fun Q q => ?_⟩
      have hm : d ∈ n.cps.toList := by
        rw [Array.mem_toList_iff]
        exact Array.mem_of_getElem? hd
      have l5 := List.all_eq_true.mp l4 d hm
      refine ⟨_, rfl, d, lets, rfl, rfl, _, rfl, ?_⟩
      by_cases hl : d ∈ lets.cps.toList
      · refine iteB (decide_eq_true hl) (q I' H' _ (Go.refl g.j) (hR.snoc rfl))
      · refine iteC (decide_eq_false hl) ⟨_, rfl, d, digs, rfl, rfl, ?_⟩
        rw [decide_eq_false hl, Bool.false_or] at l5
        rw [l5]
        exact q I' H' _ (Go.refl g.j) (hR.snoc rfl)
    · intro I' H' ys g iD hL hR
      refine ⟨D, List.replicate n.cps.size true, rfl, SqL.of ?_, ?_⟩
      · rw [hL, hR]
        congr 2
        simp [List.map_const']
      · have e : (List.replicate n.cps.size true).all id = true := by simp
        rw [e]
        exact q H' fun b o hb => g.k b o (fun z => z) hb
/-! ### digits, classes -/
theorem dg_in {n : Nat} (h : n ≤ 9) : (48 + n) ∈ digs.cps.toList := by
  have : n = 0 ∨ n = 1 ∨ n = 2 ∨ n = 3 ∨ n = 4 ∨ n = 5 ∨ n = 6 ∨ n = 7 ∨ n = 8 ∨ n = 9 := by omega
  rcases this with e | e | e | e | e | e | e | e | e | e <;> subst e <;> decide +kernel
theorem dg_int {n : Nat} (h : n ≤ 9) : PySem.intText? (SX.S (dg n)) = some (n : Int) := by
  have : n = 0 ∨ n = 1 ∨ n = 2 ∨ n = 3 ∨ n = 4 ∨ n = 5 ∨ n = 6 ∨ n = 7 ∨ n = 8 ∨ n = 9 := by omega
  rcases this with e | e | e | e | e | e | e | e | e | e <;> subst e <;> decide +kernel
def sp_digit_of : Sp := fun vs H Q _ => ∃ n : Nat, vs = [.str (SX.S (dg n))] ∧ n ≤ 9 ∧ Q (.int n) H
theorem ok_digit_of (T : Tx K mg CC CB CK)  : Fn P w K mg base 1 "digit_of" (sp_digit_of) := by
  refine T.f_digit_of.fn sc_digit_of (fun _ _ _ _ _ _ us hl => match us, hl with | [_], _ => rfl) (fun vs H Q E h => ?_) (fun f cdv A outer s H vs Q E hr h => ?_)
  · obtain ⟨n, rfl, _⟩ := h
    rfl
  · obtain ⟨n, rfl, hn, q⟩ := h
    refine ⟨_, (pss_one (ps_ret (pe_ifExp (PW.pt (pw_and (pt_cmpR op_eq (pe_callB call_len_str (by rfl) T.b_len (by decide +kernel) (pa_cons (pv 0) pa_nil)) pe_int (nomark _)) (pw_and1 (pt_cmpR op_in_sign (pv 0) (C8.pe_gc rfl T.c_DIGITS) rfl)))) (pe_callTy call_int_str (by rfl) T.b_int (by decide +kernel) (pa_cons (pv 0) pa_nil)) pe_non))), ?_⟩
    refine ⟨_, rfl, _, rfl, (by show 1 ≤ sizeLine; decide), rfl, _, rfl, iteB (decide_eq_true rfl) ?_⟩
    refine ⟨_, rfl, 48 + n, digs, rfl, rfl, _, rfl, iteB (decide_eq_true (dg_in hn)) ?_⟩
    exact ⟨_, rfl, _, n, rfl, dg_int hn, (by show 1 ≤ 640; decide), q⟩
def sp_class_of : Sp := fun vs H Q _ => ∃ (I : Hp) (a : Addr) (r s : Nat), vs = [.ref a] ∧ Same I H ∧ H a = some (.lst [.str (SX.S (dg r)), .str (SX.S (cd "of")), .str (SX.S (dg s))]) ∧ 1 ≤ s ∧ s ≤ 3 ∧ r < s ∧
  ∀ I' H' p, Go A0 Same I H I' H' → I' p = some (.tup [.int r, .int s]) → Q (.ref p) H'
theorem ok_class_of (T : Tx K mg CC CB CK) (c_digit_of : Fn P w K mg base 1 "digit_of" (sp_digit_of)) (c_is_between : Fn P w K mg base 2 "is_between" (sp_is_between)) : Fn P w K mg base 3 "class_of" (sp_class_of) := by
  refine T.f_class_of.fn sc_class_of (fun _ _ _ _ _ _ us hl => match us, hl with | [_], _ => rfl) (fun vs H Q E h => ?_) (fun f cdv A outer s H vs Q E hr h => ?_)
  · obtain ⟨I, a, r, s, rfl, _⟩ := h
    rfl
  · obtain ⟨I, a, r, s, rfl, j, ha, s1, s3, hrs, q⟩ := h
    have ix0 : SqL K H a _ := SqL.of ha
    have e1 : V.str (SX.S (cd "of")) = V.str "of" := by rw [S_cd]
    refine ⟨_, (pss_cons (ps_if (PW.pt (pw_or (pt_cmpR op_ne (pe_callB call_len_seq (by rfl) T.b_len (by decide +kernel) (pa_cons (pv 0) pa_nil)) pe_int (nomark _)) (pw_or1 (pt_cmpR op_ne (pe_ix ix_list (pv 0) pe_int (fun _ _ => rfl)) pe_str (nomark _)))))
        (pss_one (ps_ret pe_non))
        pss_nil)
      (pss_cons (ps_par (i := 1) (j := 2) (by rfl) sc_class_of.nd rfl rfl (by decide) rfl rfl (pa_cons (pe_fn c_digit_of hr (by decide) (by rfl) (pa_cons (pe_ix ix_list (pv 0) pe_int (fun _ _ => rfl)) pa_nil)) (pa_cons (pe_fn c_digit_of hr (by decide) (by rfl) (pa_cons (pe_ix ix_list (pv 0) pe_int (fun _ _ => rfl)) pa_nil)) pa_nil)) (by rfl))
      (pss_cons (ps_if (PW.pt (pw_or (pt_not (pt_val (pe_fn c_is_between hr (by decide) (by rfl) (pa_cons (pv 2) (pa_cons pe_int (pa_cons (C8.pe_gc rfl T.c_MOST_CLASSES) pa_nil)))))) (pw_or1 (pt_not (pt_val (pe_fn c_is_between hr (by decide) (by rfl) (pa_cons (pv 1) (pa_cons pe_int (pa_cons (pe_op op_sub (pv 2) pe_int) pa_nil)))))))))
        (pss_one (ps_ret pe_non))
        pss_nil)
      (pss_one (ps_ret (pe_tup (pa_cons (pv 1) (pa_cons (pv 2) pa_nil)))))))), ?_⟩
    refine ⟨_, rfl, a, _, rfl, .inl ix0, rfl, _, rfl, iteC rfl ?_⟩
    refine ⟨_, rfl, a, _, 1, _, rfl, rfl, ix0, atI_nat (j := 1) rfl, rfl, _, rfl, iteC ?_ ?_⟩
    · show (!decide (V.str (SX.S (cd "of")) = V.str "of")) = false
      rw [decide_eq_true e1]
      rfl
    refine ⟨_, rfl, a, _, 0, _, rfl, rfl, ix0, atI_nat (j := 0) rfl, r, rfl, by omega, ?_⟩
    refine ⟨_, rfl, a, _, 2, _, rfl, rfl, ix0, atI_nat (j := 2) rfl, s, rfl, by omega, ?_⟩
    refine ⟨_, _, rfl, ?_⟩
    refine ⟨_, rfl, s, 1, 3, rfl, by omega, by omega, _, rfl, iteC rfl ?_⟩
    refine ⟨_, rfl, _, rfl, _, _, rfl, rfl, r, 0, (s : Int) - 1, rfl, by omega, by omega, _, rfl, iteC rfl ?_⟩
    refine ⟨_, rfl, _, rfl, (by show 2 ≤ sizeLine; decide), fun p hp => ?_⟩
    exact q _ _ p (Go.new fr0 j hp _) upd_same
end
end JR
/-! J4: a clause made, read, met. -/
namespace JR
open PySem PySem.Spec PyProof.Rows L2
section
variable {P : Program} {w : World} {K : PySem.W.Frag} {mg : Str → Option Value} {base : Heap} {CC CB CK : Addr}
def sp_Clause___init__ (CC : Addr) : Sp := fun vs H Q _ => ∃ (p dx : Addr) (w r s d f g : V), vs = [.ref p, w, r, s, d, f, g] ∧ H p = some (.ins CC dx []) ∧ Q .non (upd H p (.ins CC dx (flC w r s d f g)))
theorem ini_Clause (T : Tx K mg CC CB CK) : ∃ f fd, FunD K "__init__" "Clause.__init__" (defArgs s_Clause___init__) (defBody s_Clause___init__) (defScope s_Clause___init__) [.non, .non, .non] [] f fd ∧ Mk K CC f ∧ mg "Clause" = some (.ref CC) ∧
    FnOk P w K mg base CX0 1 f fd ["self", "word", "rest", "step", "side", "far", "goal"] (sp_Clause___init__ CC) := by
  obtain ⟨f, fd, F, M, hm⟩ := T.k_Clause
  refine ⟨f, fd, F, M, hm, F.ok sc_Clause___init__ (fun vs H Q E h => ?_) (fun cdv A outer s H vs Q E hr h => ?_)⟩
  · obtain ⟨p, dx, a, b, c, d, e, g, rfl, _⟩ := h
    rfl
  · obtain ⟨p, dx, a, b, c, d, e, g, rfl, hp, q⟩ := h
    suffices h : ∃ t, PSs (cxOf CX0 P w K mg base N_Clause___init__ "Clause.__init__" (defScope s_Clause___init__) f cdv A outer s H E).nox (defBody s_Clause___init__) t ∧ t { nx := fun _ H' => Q .non H', rt := Q } (start N_Clause___init__ [.ref p, a, b, c, d, e, g]) H by
      obtain ⟨t, h1, h2⟩ := h
      exact ⟨t, h1.nox, h2⟩
    refine ⟨_, (pss_cons (ps_fld (pv 0) (pv 1) rfl)
      (pss_cons (ps_fld (pv 0) (pv 2) rfl)
      (pss_cons (ps_fld (pv 0) (pv 3) rfl)
      (pss_cons (ps_fld (pv 0) (pv 4) rfl)
      (pss_cons (ps_fld (pv 0) (pv 5) rfl)
      (pss_one (ps_fld (pv 0) (pv 6) rfl))))))), ?_⟩
    refine ⟨_, rfl, _, rfl, p, CC, dx, _, rfl, hp, T.l_Clause, T.n_Clause_word, (by show 0 < 1000; decide), ?_⟩
    refine ⟨_, rfl, _, rfl, p, CC, dx, _, rfl, upd_same, T.l_Clause, T.n_Clause_rest, (by show 1 < 1000; decide), ?_⟩
    refine ⟨_, rfl, _, rfl, p, CC, dx, [("word", a), ("rest", b)], rfl, ?_, T.l_Clause, T.n_Clause_step, (by show 2 < 1000; decide), ?_⟩
    · rw [upd_same]
      exact congrArg (fun z => some (HO.ins CC dx z)) (by kernel_rfl)
    refine ⟨_, rfl, _, rfl, p, CC, dx, [("word", a), ("rest", b), ("step", c)], rfl, ?_, T.l_Clause, T.n_Clause_side, (by show 3 < 1000; decide), ?_⟩
    · rw [upd_same]
      exact congrArg (fun z => some (HO.ins CC dx z)) (by kernel_rfl)
    refine ⟨_, rfl, _, rfl, p, CC, dx, [("word", a), ("rest", b), ("step", c), ("side", d)], rfl, ?_, T.l_Clause, T.n_Clause_far, (by show 4 < 1000; decide), ?_⟩
    · rw [upd_same]
      exact congrArg (fun z => some (HO.ins CC dx z)) (by kernel_rfl)
    refine ⟨_, rfl, _, rfl, p, CC, dx, [("word", a), ("rest", b), ("step", c), ("side", d), ("far", e)], rfl, ?_, T.l_Clause, T.n_Clause_goal, (by show 5 < 1000; decide), ?_⟩
    · rw [upd_same]
      exact congrArg (fun z => some (HO.ins CC dx z)) (by kernel_rfl)
    rw [upd_upd, upd_upd, upd_upd, upd_upd, upd_upd]
    have e1 : putF "goal" g [("word", a), ("rest", b), ("step", c), ("side", d), ("far", e)] = flC a b c d e g := by kernel_rfl
    rw [e1]
    exact q
theorem mk_Clause_3 (T : Tx K mg CC CB CK) : Mr P w K mg base 1 "Clause" CC (sp_Clause___init__ CC) [.non, .non, .non] := by
  obtain ⟨f, fd, F, M, hm, G⟩ := ini_Clause (P := P) (w := w) (base := base) T
  obtain ⟨ds, h1, h2⟩ := F.binds1 (ps := ["self", "word", "rest", "step", "side", "far", "goal"]) 4 0 (by simp) (by decide) fun T kV doc pm an cdv ct us its hl hi => match us, hl, its, hi with | [_, _, _, _], _, [_, _, _], _ => ⟨_, rfl, rfl⟩
  exact ⟨f, fd, _, ds, G, M, hm, h2, h1⟩
theorem mk_Clause_5 (T : Tx K mg CC CB CK) : Mr P w K mg base 1 "Clause" CC (sp_Clause___init__ CC) [.non] := by
  obtain ⟨f, fd, F, M, hm, G⟩ := ini_Clause (P := P) (w := w) (base := base) T
  obtain ⟨ds, h1, h2⟩ := F.binds1 (ps := ["self", "word", "rest", "step", "side", "far", "goal"]) 6 2 (by simp) (by decide) fun T kV doc pm an cdv ct us its hl hi => match us, hl, its, hi with | [_, _, _, _, _, _], _, [_, _, _], _ => ⟨_, rfl, rfl⟩
  exact ⟨f, fd, _, ds, G, M, hm, h2, h1⟩
def gKw {α : Type} (vs ds zs : List α) : List α := vs ++ ds.take 2 ++ zs
theorem mk_Clause_kw (T : Tx K mg CC CB CK) : Mw P w K mg base 1 "Clause" CC (sp_Clause___init__ CC) 3 ["goal"] (fun vs zs => gKw vs [.non, .non, .non] zs) := by
  obtain ⟨f, fd, F, M, hm, G⟩ := ini_Clause (P := P) (w := w) (base := base) T
  obtain ⟨its, h⟩ := F.kbindsD (ps := ["self", "word", "rest", "step", "side", "far", "goal"]) 4 ["goal"] gKw (by simp) (fun h1 h2 h3 => (h1.append (h2.take 2)).append h3)
    fun T kV doc pm an cdv ct us its ws hl hi hw => match us, hl, its, hi, ws, hw with | [_, _, _, _], _, [_, _, _], _, [_], _ => ⟨_, rfl, rfl⟩
  exact ⟨f, fd, _, _, G, M, hm, h⟩
theorem go_make {A : Addr → Prop} {J : Hp → Hp → Prop} {I H : Hp} {x dx C : Addr} {fs gs : List (Str × V)} (F : Fr A J) (j : J I H) (hx : H x = none) (hd : H dx = none) (ne : dx ≠ x) :
    Go A J I H (upd (upd I dx (.own x)) x (.ins C dx fs)) (upd (upd (upd H dx (.own x)) x (.ins C dx gs)) x (.ins C dx fs)) := by
  rw [upd_upd]
  have g1 := Go.new F j hd (.own x)
  exact Go.trans F j g1 (Go.new F g1.j (by rw [upd_ne ne.symm]; exact hx) _)
/-! ### a clause read -/
theorem ne_str {a b : Str} (h : ¬ a = b) : (decide (V.str a = V.str b)) = false := decide_eq_false fun e => h (V.str.inj e)
theorem eq_str {a b : Str} (h : a = b) : (decide (V.str a = V.str b)) = true := decide_eq_true (by rw [h])
def sp_read_call (CC : Addr) : Sp := fun vs H Q _ => ∃ (I : Hp) (a : Addr) (c : Cl) (ns : List Str) (i : Nat), vs = [.ref a] ∧ Same I H ∧ H a = some (.lst ((clW c).map fun l => V.str (SX.S l))) ∧ (∀ n ∈ ns, n ∈ menu) ∧ ClOk ns i c ∧ c.w = "call" ∧
  ∀ I' H' v, Go A0 Same I H I' H' → ClOb CC I' v c → Q v H'
theorem ok_read_call (T : Tx K mg CC CB CK) (c_class_of : Fn P w K mg base 3 "class_of" (sp_class_of)) (c_is_name : Fn P w K mg base 1 "is_name" (sp_is_name)) : Fn P w K mg base 4 "read_call" (sp_read_call CC) := by
  refine T.f_read_call.fn sc_read_call (fun _ _ _ _ _ _ us hl => match us, hl with | [_], _ => rfl) (fun vs H Q E h => ?_) (fun f cdv A outer s H vs Q E hr h => ?_)
  · obtain ⟨I, a, c, ns, i, rfl, _⟩ := h
    rfl
  · obtain ⟨I, a, c, ns, i, rfl, j, ha, hn, hc, hw, q⟩ := h
    have c_mkClause_kw : Mw P w K mg base 1 "Clause" CC (sp_Clause___init__ CC) 3 ["goal"] (fun vs zs => gKw vs [.non, .non, .non] zs) := mk_Clause_kw T
    unfold clW at ha
    rw [if_pos hw] at ha
    have ha : H a = some (.lst [.str (SX.S (cd "call")), .str (SX.S (cd c.lab)), .str (SX.S (cd "on")), .str (SX.S (dg c.rest)), .str (SX.S (cd "of")), .str (SX.S (dg c.step))]) := ha
    have hlab : c.lab ∈ menu := by
      rcases hc.kd with ⟨_, _, _, hl, _⟩ | ⟨e, _⟩
      · exact hn _ hl
      · rw [hw] at e
        rcases e with e | e | e <;> exact absurd e (by decide +kernel)
    refine ⟨_, (pss_cons (ps_set (i := 1) sc_read_call.nd rfl (Or.inl rfl) (pe_fn c_class_of hr (by decide) (by rfl) (pa_cons (pe_slice sl_list (pv 0) (po_some pe_int) po_none) pa_nil)))
      (pss_cons (ps_if (PW.pt (pw_or (pt_cmpR op_isN (pv 1) pe_non (nomark _)) (pw_or (pt_cmpR op_ne (pe_ix ix_list (pv 0) pe_int (fun _ _ => rfl)) pe_str (nomark _)) (pw_or1 (pt_not (pt_val (pe_fn c_is_name hr (by decide) (by rfl) (pa_cons (pe_ix ix_list (pv 0) pe_int (fun _ _ => rfl)) pa_nil))))))))
        (pss_one (ps_ret pe_non))
        pss_nil)
      (pss_cons (ps_asg (pv 1) (pg_tup rfl (pgs_cons (pg_name (i := 2) sc_read_call.nd rfl (Or.inl rfl)) (pgs_cons (pg_name (i := 3) sc_read_call.nd rfl (Or.inl rfl)) pgs_nil))))
      (pss_one (ps_ret (pe_mkn c_mkClause_kw hr (by decide) (by rfl) (pa_cons pe_str (pa_cons (pv 2) (pa_cons (pv 3) pa_nil))) (pk_cons (pe_ix ix_list (pv 0) pe_int (fun _ _ => rfl)) pk_nil))))))), ?_⟩
    refine ⟨_, rfl, 3, rfl, a, _, rfl, SqL.of ha, fun p hp => ?_⟩
    have g1 := Go.new fr0 j hp (.lst (cutV [.str (SX.S (cd "call")), .str (SX.S (cd c.lab)), .str (SX.S (cd "on")), .str (SX.S (dg c.rest)), .str (SX.S (cd "of")), .str (SX.S (dg c.step))] (some 3) none))
    refine ⟨_, p, c.rest, c.step, rfl, g1.j, ?_, hc.s1, hc.s3, hc.r, fun I2 H2 t g2 ht => ?_⟩
    · exact upd_same
    have g3 := Go.trans fr0 j g1 g2
    have ha2 : H2 a = some _ := g3.k a _ (fun z => z) ha
    have ht2 : H2 t = some _ := g3.j t _ ht
    refine ⟨_, rfl, rfl, _, rfl, iteC rfl ?_⟩
    refine ⟨_, rfl, a, _, 2, _, rfl, rfl, SqL.of ha2, atI_nat (j := 2) rfl, rfl, _, rfl, iteC ?_ ?_⟩
    · rw [S_cd, eq_str rfl]
      rfl
    refine ⟨_, rfl, a, _, 1, _, rfl, rfl, SqL.of ha2, atI_nat (j := 1) rfl, c.lab, congrArg (fun z => [V.str z]) (S_cd c.lab), hlab, fun H3 s3 => ⟨_, rfl, iteC rfl ?_⟩⟩
    have ht3 := s3 _ _ ht2
    have ha3 := s3 _ _ ha2
    refine ⟨_, rfl, t, [.int c.rest, .int c.step], rfl, SqT.of ht3, rfl, _, [.int c.step], rfl, _, [], rfl, rfl, ?_⟩
    refine ⟨_, rfl, _, rfl, _, rfl, a, _, 1, _, rfl, rfl, SqL.of ha3, atI_nat (j := 1) rfl, rfl, rfl, fun x dx hx hdx ne => ?_⟩
    refine ⟨x, dx, _, _, _, _, _, _, rfl, upd_same, rfl, ?_⟩
    have g4 : Go A0 Same I H I2 H3 := Go.trans fr0 j g3 (Go.same fr0 g3.j s3)
    refine q _ _ _ (Go.trans fr0 j g4 (go_make fr0 g4.j hx hdx ne)) ⟨x, dx, rfl, ?_⟩
    rw [upd_same]
    have e1 : clF c = flC (.str "call") (.int c.rest) (.int c.step) .non .non (.str (SX.S (cd c.lab))) := by
      unfold clF sideV farV goalV
      rw [if_pos (.inl hw), if_pos (.inl hw), if_pos hw, S_cd, hw]
    rw [e1]
def sp_read_clause (CC : Addr) : Sp := fun vs H Q _ => ∃ (I : Hp) (c : Cl) (ns : List Str) (i : Nat), vs = [.str (SX.S (clT c))] ∧ Same I H ∧ (∀ n ∈ ns, n ∈ menu) ∧ ClOk ns i c ∧
  ∀ I' H' v, Go A0 Same I H I' H' → ClOb CC I' v c → Q v H'
theorem ok_read_clause (T : Tx K mg CC CB CK) (c_read_call : Fn P w K mg base 4 "read_call" (sp_read_call CC)) (c_class_of : Fn P w K mg base 3 "class_of" (sp_class_of)) (c_digit_of : Fn P w K mg base 1 "digit_of" (sp_digit_of)) (c_is_between : Fn P w K mg base 2 "is_between" (sp_is_between)) : Fn P w K mg base 5 "read_clause" (sp_read_clause CC) := by
  refine T.f_read_clause.fn sc_read_clause (fun _ _ _ _ _ _ us hl => match us, hl with | [_], _ => rfl) (fun vs H Q E h => ?_) (fun f cdv A outer s H vs Q E hr h => ?_)
  · obtain ⟨I, c, ns, i, rfl, _⟩ := h
    rfl
  · obtain ⟨I, c, ns, i, rfl, j, hn, hc, q⟩ := h
    have c_mkClause_3 : Mr P w K mg base 1 "Clause" CC (sp_Clause___init__ CC) [.non, .non, .non] := mk_Clause_3 T
    have c_mkClause_5 : Mr P w K mg base 1 "Clause" CC (sp_Clause___init__ CC) [.non] := mk_Clause_5 T
    have hlen := clT_len hn hc
    refine ⟨_, (pss_cons (ps_set (i := 1) sc_read_clause.nd rfl (Or.inl rfl) (pe_split (pv 0) pe_str))
      (pss_cons (ps_if (pt_cmpR op_eq (pe_ix ix_list (pv 1) pe_int (fun _ _ => rfl)) pe_str (nomark _))
        (pss_one (ps_ret (pe_fn c_read_call hr (by decide) (by rfl) (pa_cons (pv 1) pa_nil))))
        pss_nil)
      (pss_cons (ps_set (i := 2) sc_read_clause.nd rfl (Or.inl rfl) (pe_fn c_class_of hr (by decide) (by rfl) (pa_cons (pe_slice sl_list (pv 1) (po_some pe_int) (po_some pe_int)) pa_nil)))
      (pss_cons (ps_if (pt_cmpR op_isN (pv 2) pe_non (nomark _))
        (pss_one (ps_ret pe_non))
        pss_nil)
      (pss_cons (ps_asg (pv 2) (pg_tup rfl (pgs_cons (pg_name (i := 3) sc_read_clause.nd rfl (Or.inl rfl)) (pgs_cons (pg_name (i := 4) sc_read_clause.nd rfl (Or.inl rfl)) pgs_nil))))
      (pss_cons (ps_if (pt_cmpR op_eq (pe_ix ix_list (pv 1) pe_int (fun _ _ => rfl)) pe_str (nomark _))
        (pss_one (ps_ret (pe_ifExp (pt_cmpR op_eq (pe_callB call_len_seq (by rfl) T.b_len (by decide +kernel) (pa_cons (pv 1) pa_nil)) pe_int (nomark _)) (pe_mkr c_mkClause_3 hr (by decide) (by rfl) (pa_cons pe_str (pa_cons (pv 3) (pa_cons (pv 4) pa_nil)))) pe_non)))
        pss_nil)
      (pss_cons (ps_if (PW.pt (pw_or (pt_cmpR op_notIn_seq (pe_ix ix_list (pv 1) pe_int (fun _ _ => rfl)) (pe_tup (pa_cons pe_str (pa_cons pe_str pa_nil))) (by rfl)) (pw_or (pt_cmpR op_ne (pe_callB call_len_seq (by rfl) T.b_len (by decide +kernel) (pa_cons (pv 1) pa_nil)) pe_int (nomark _)) (pw_or1 (pt_cmpR op_notIn_seq (pe_ix ix_list (pv 1) pe_int (fun _ _ => rfl)) (pe_tup (pa_cons pe_str (pa_cons pe_str pa_nil))) (by rfl))))))
        (pss_one (ps_ret pe_non))
        pss_nil)
      (pss_cons (ps_set (i := 5) sc_read_clause.nd rfl (Or.inl rfl) (pe_fn c_digit_of hr (by decide) (by rfl) (pa_cons (pe_ix ix_list (pv 1) pe_int (fun _ _ => rfl)) pa_nil)))
      (pss_one (ps_ret (pe_ifExp (pt_val (pe_fn c_is_between hr (by decide) (by rfl) (pa_cons (pv 5) (pa_cons pe_int (pa_cons (C8.pe_gc rfl T.c_MOST_FAR) pa_nil))))) (pe_mkr c_mkClause_5 hr (by decide) (by rfl) (pa_cons (pe_ix ix_list (pv 1) pe_int (fun _ _ => rfl)) (pa_cons (pv 3) (pa_cons (pv 4) (pa_cons (pe_ix ix_list (pv 1) pe_int (fun _ _ => rfl)) (pa_cons (pv 5) pa_nil)))))) pe_non))))))))))), ?_⟩
    refine ⟨_, rfl, ⟨_, rfl⟩, _, _, rfl, rfl, by decide +kernel, ?_, fun p hp => ?_⟩
    · rw [SX.S_len]
      exact Nat.le_trans (Nat.add_le_add_right hlen 2) (by decide)
    have e0 : ((Txt.split (SX.S (clT c)) " ").map V.str) = (clW c).map fun l => V.str (SX.S l) := by
      rw [split_cl hn hc, List.map_map]
      rfl
    rw [e0]
    have g1 := Go.new fr0 j hp (.lst ((clW c).map fun l => V.str (SX.S l)))
    by_cases hw : c.w = "call"
    · have ha : (upd H p (.lst ((clW c).map fun l => V.str (SX.S l)))) p = some (.lst [.str (SX.S (cd "call")), .str (SX.S (cd c.lab)), .str (SX.S (cd "on")), .str (SX.S (dg c.rest)), .str (SX.S (cd "of")), .str (SX.S (dg c.step))]) := by
        rw [upd_same]
        unfold clW
        rw [if_pos hw]
        rfl
      refine ⟨_, rfl, p, _, 0, _, rfl, rfl, SqL.of ha, atI_nat (j := 0) rfl, rfl, _, rfl, iteB ?_ ?_⟩
      · rw [S_cd]
        exact eq_str rfl
      exact ⟨_, rfl, _, p, c, ns, i, rfl, g1.j, upd_same, hn, hc, hw, fun I' H' v g hv => q I' H' v (Go.trans fr0 j g1 g) hv⟩
    obtain ⟨hk, hs, f1, f4, hl⟩ : (c.w = "join" ∨ c.w = "take" ∨ c.w = "clear") ∧ (c.side = "left" ∨ c.side = "right") ∧ 1 ≤ c.far ∧ c.far ≤ 4 ∧ c.lab = "" := by
      rcases hc.kd with ⟨e, _⟩ | h
      · exact absurd e hw
      · exact h
    have hwc : ¬ SX.S (cd c.w) = ("call" : Str) := by rw [S_cd]; exact hw
    -- what stands at the list's first four places, and the others
    obtain ⟨more, ha, hm1, hm2⟩ : ∃ more : List V, (clW c).map (fun l => V.str (SX.S l)) = .str (SX.S (cd c.w)) :: .str (SX.S (dg c.rest)) :: .str (SX.S (cd "of")) :: .str (SX.S (dg c.step)) :: more ∧
        (c.w = "clear" → more = []) ∧ (c.w ≠ "clear" → more = [.str (SX.S (cd c.side)), .str (SX.S (dg c.far))]) := by
      unfold clW
      rw [if_neg hw]
      by_cases hcl : c.w = "clear"
      · rw [if_pos hcl]
        exact ⟨[], rfl, fun _ => rfl, fun z => absurd hcl z⟩
      · rw [if_neg hcl]
        exact ⟨_, rfl, fun z => absurd z hcl, fun _ => rfl⟩
    rw [ha] at g1 ⊢
    refine ⟨_, rfl, p, _, 0, _, rfl, rfl, SqL.of upd_same, atI_nat (j := 0) rfl, rfl, _, rfl, iteC (ne_str hwc) ?_⟩
    have e4 : cutV (V.str (SX.S (cd c.w)) :: .str (SX.S (dg c.rest)) :: .str (SX.S (cd "of")) :: .str (SX.S (dg c.step)) :: more) (some 1) (some 4) = [.str (SX.S (dg c.rest)), .str (SX.S (cd "of")), .str (SX.S (dg c.step))] := by
      by_cases hcl : c.w = "clear"
      · rw [hm1 hcl]
        rfl
      · rw [hm2 hcl]
        rfl
    refine ⟨_, rfl, 1, rfl, 4, rfl, p, _, rfl, SqL.of upd_same, fun p2 hp2 => ?_⟩
    rw [e4]
    have g2 := Go.trans fr0 j g1 (Go.new fr0 g1.j hp2 (.lst [.str (SX.S (dg c.rest)), .str (SX.S (cd "of")), .str (SX.S (dg c.step))]))
    refine ⟨_, p2, c.rest, c.step, rfl, g2.j, upd_same, hc.s1, hc.s3, hc.r, fun I2 H2 t g3 ht => ?_⟩
    have g4 := Go.trans fr0 j g2 g3
    have ht2 : H2 t = some _ := g4.j t _ ht
    have hp3 : H2 p = some (.lst (.str (SX.S (cd c.w)) :: .str (SX.S (dg c.rest)) :: .str (SX.S (cd "of")) :: .str (SX.S (dg c.step)) :: more)) :=
      g3.k p _ (fun z => z) (by rw [upd_ne (by rintro rfl; rw [upd_same] at hp2; cases hp2)]; exact upd_same)
    refine ⟨_, rfl, rfl, _, rfl, iteC rfl ?_⟩
    refine ⟨_, rfl, t, [.int c.rest, .int c.step], rfl, SqT.of ht2, rfl, _, [.int c.step], rfl, _, [], rfl, rfl, ?_⟩
    by_cases hcl : c.w = "clear"
    · rw [hm1 hcl] at hp3
      refine ⟨_, rfl, p, _, 0, _, rfl, rfl, SqL.of hp3, atI_nat (j := 0) rfl, rfl, _, rfl, iteB (by rw [S_cd]; exact eq_str hcl) ?_⟩
      refine ⟨_, rfl, p, _, rfl, .inl (SqL.of hp3), rfl, _, rfl, iteB (decide_eq_true rfl) ?_⟩
      refine ⟨_, rfl, _, rfl, fun x dx hx hdx ne => ⟨x, dx, _, _, _, _, _, _, rfl, upd_same, rfl, ?_⟩⟩
      refine q _ _ _ (Go.trans fr0 j g4 (go_make fr0 g4.j hx hdx ne)) ⟨x, dx, rfl, ?_⟩
      rw [upd_same]
      have e1 : clF c = flC (.str "clear") (.int c.rest) (.int c.step) .non .non .non := by
        unfold clF sideV farV goalV
        rw [if_pos (.inr hcl), if_pos (.inr hcl), if_neg hw, hcl]
      rw [e1]
    · have hjt : c.w = "join" ∨ c.w = "take" := by
        rcases hk with e | e | e
        · exact .inl e
        · exact .inr e
        · exact absurd e hcl
      have hcl' : ¬ SX.S (cd c.w) = ("clear" : Str) := by rw [S_cd]; exact hcl
      rw [hm2 hcl] at hp3
      refine ⟨_, rfl, p, _, 0, _, rfl, rfl, SqL.of hp3, atI_nat (j := 0) rfl, rfl, _, rfl, iteC (ne_str hcl') ?_⟩
      -- one of the two words
      refine ⟨_, rfl, p, _, 0, _, rfl, rfl, SqL.of hp3, atI_nat (j := 0) rfl, (by show 2 ≤ sizeLine; decide), fun t1 n1 => ?_⟩
      have in1 : inV (V.str (SX.S (cd c.w))) [V.str "join", V.str "take"] = true := by
        rw [S_cd]
        rcases hjt with e | e <;> rw [e] <;> decide +kernel
      refine ⟨t1, _, rfl, .inr (SqT.of upd_same), rfl, rfl, _, rfl, iteC (by show (!inV (V.str (SX.S (cd c.w))) [V.str "join", V.str "take"]) = false; rw [in1]; rfl) ?_⟩
      have g5 := Go.trans fr0 j g4 (Go.same fr0 g4.j (same_new n1 (.tup [V.str "join", V.str "take"])))
      have hp4 := (same_new n1 (.tup [V.str "join", V.str "take"])) _ _ hp3
      refine ⟨_, rfl, p, _, rfl, .inl (SqL.of hp4), rfl, _, rfl, iteC rfl ?_⟩
      refine ⟨_, rfl, p, _, 4, _, rfl, rfl, SqL.of hp4, atI_nat (j := 4) rfl, (by show 2 ≤ sizeLine; decide), fun t2 n2 => ?_⟩
      have in2 : inV (V.str (SX.S (cd c.side))) [V.str "left", V.str "right"] = true := by
        rw [S_cd]
        rcases hs with e | e <;> rw [e] <;> decide +kernel
      refine ⟨t2, _, rfl, .inr (SqT.of upd_same), rfl, rfl, _, rfl, iteC (by show (!inV (V.str (SX.S (cd c.side))) [V.str "left", V.str "right"]) = false; rw [in2]; rfl) ?_⟩
      have g6 := Go.trans fr0 j g5 (Go.same fr0 g5.j (same_new n2 (.tup [V.str "left", V.str "right"])))
      have hp5 := (same_new n2 (.tup [V.str "left", V.str "right"])) _ _ hp4
      refine ⟨_, rfl, p, _, 5, _, rfl, rfl, SqL.of hp5, atI_nat (j := 5) rfl, c.far, rfl, by omega, ?_⟩
      refine ⟨_, rfl, c.far, 1, 4, rfl, by omega, by omega, _, rfl, iteB rfl ?_⟩
      refine ⟨_, rfl, p, _, 0, _, rfl, rfl, SqL.of hp5, atI_nat (j := 0) rfl, _, rfl, _, rfl, _, rfl, p, _, 4, _, rfl, rfl, SqL.of hp5, atI_nat (j := 4) rfl, _, rfl, fun x dx hx hdx ne => ?_⟩
      refine ⟨x, dx, _, _, _, _, _, _, rfl, upd_same, rfl, ?_⟩
      refine q _ _ _ (Go.trans fr0 j g6 (go_make fr0 g6.j hx hdx ne)) ⟨x, dx, rfl, ?_⟩
      rw [upd_same]
      have e1 : clF c = flC (.str (SX.S (cd c.w))) (.int c.rest) (.int c.step) (.str (SX.S (cd c.side))) (.int c.far) .non := by
        unfold clF sideV farV goalV
        rw [if_neg (fun z => z.elim hw hcl), if_neg (fun z => z.elim hw hcl), if_neg hw, S_cd, S_cd]
      rw [e1]
/-! ### two clauses -/
theorem fl_word (a b c d e g : V) : (flC a b c d e g).lookup ("word" : Str) = some a := by kernel_rfl
theorem fl_rest (a b c d e g : V) : (flC a b c d e g).lookup ("rest" : Str) = some b := by kernel_rfl
theorem fl_step (a b c d e g : V) : (flC a b c d e g).lookup ("step" : Str) = some c := by kernel_rfl
theorem fl_side (a b c d e g : V) : (flC a b c d e g).lookup ("side" : Str) = some d := by kernel_rfl
theorem fl_far (a b c d e g : V) : (flC a b c d e g).lookup ("far" : Str) = some e := by kernel_rfl
theorem fl_goal (a b c d e g : V) : (flC a b c d e g).lookup ("goal" : Str) = some g := by kernel_rfl
def sp_meet (CC : Addr) : Sp := fun vs H Q _ => ∃ (v u : V) (c d : Cl), vs = [v, u] ∧ ClOb CC H v c ∧ ClOb CC H u d ∧ c.step = d.step ∧ c.rest ≠ d.rest ∧ Q (.bl false) H
theorem ok_meet (T : Tx K mg CC CB CK)  : Fn P w K mg base 1 "meet" (sp_meet CC) := by
  refine T.f_meet.fn sc_meet (fun _ _ _ _ _ _ us hl => match us, hl with | [_, _], _ => rfl) (fun vs H Q E h => ?_) (fun f cdv A outer s H vs Q E hr h => ?_)
  · obtain ⟨v, u, c, d, rfl, _⟩ := h
    rfl
  · obtain ⟨v, u, c, d, rfl, ⟨a, ax, rfl, ha⟩, ⟨b, bx, rfl, hb⟩, es, nr, q⟩ := h
    refine ⟨_, (pss_one (ps_ret (pe_or (pe_cmpR op_ne (pe_fld (pv 0) rfl) (pe_fld (pv 1) rfl) (nomark _)) (pe_one (pe_cmpR op_eq (pe_fld (pv 0) rfl) (pe_fld (pv 1) rfl) (nomark _)))))), ?_⟩
    refine ⟨_, rfl, a, CC, ax, _, _, rfl, ha, T.l_Clause, T.n_Clause_step, fl_step _ _ _ _ _ _, _, rfl, b, CC, bx, _, _, rfl, hb, T.l_Clause, T.n_Clause_step, fl_step _ _ _ _ _ _, rfl, _, rfl, iteC ?_ ?_⟩
    · rw [es, decide_eq_true rfl]
      rfl
    refine ⟨_, rfl, a, CC, ax, _, _, rfl, ha, T.l_Clause, T.n_Clause_rest, fl_rest _ _ _ _ _ _, _, rfl, b, CC, bx, _, _, rfl, hb, T.l_Clause, T.n_Clause_rest, fl_rest _ _ _ _ _ _, rfl, ?_⟩
    have e : decide (V.int (c.rest : Int) = V.int (d.rest : Int)) = false := decide_eq_false fun z => nr (by have := V.int.inj z; omega)
    rw [e]
    exact q
end
end JR
/-! J5: rounds read. -/
namespace JR
open PySem PySem.Spec PyProof.Rows L2
section
variable {P : Program} {w : World} {K : PySem.W.Frag} {mg : Str → Option Value} {base : Heap} {CC CB CK : Addr}
theorem cut_to {xs : List V} {n : Nat} (h : n ≤ xs.length) : cutV xs none (some (n : Int)) = xs.take n := by
  unfold cutV
  rw [show HT.sIx xs.length 0 none = 0 from rfl, HT.sIx_nat, List.drop_zero, Nat.sub_zero, Nat.min_eq_left h]
theorem len_range (n : Nat) (f : Nat → V) : ((List.range n).map f).length = n := by simp
theorem ys_map_get {α : Type} {ys : List α} {f : α → V} {i : Nat} {x : V} (h : (ys.map f)[i]? = some x) : ∃ y, ys[i]? = some y ∧ x = f y := by
  rw [List.getElem?_map] at h
  cases e : ys[i]? with
  | none => rw [e] at h; cases h
  | some y => rw [e] at h; exact ⟨y, rfl, (Option.some.inj h).symm⟩
theorem get_len {α : Type} {xs : List α} {i : Nat} {x : α} (h : xs[i]? = some x) : i < xs.length := (List.getElem?_eq_some_iff.mp h).1
/-- the list of so many False -/
theorem falses (n : Nat) : (List.range n).map (fun _ => V.bl false) = (List.replicate n false).map V.bl := by simp [List.map_const']
theorem any_falses (n : Nat) : (List.replicate n false).any id = false := by simp
def isCall (c : Cl) : Bool := decide (c.w = "call")
def sp_read_clauses (CC : Addr) : Sp := fun vs H Q _ => ∃ (I : Hp) (r : List Cl) (ns : List Str) (i : Nat), vs = [.str (SX.S (rdT r))] ∧ Same I H ∧ (∀ n ∈ ns, n ∈ menu) ∧ RdOk ns i r ∧
  ∀ I' H' v, Go A0 Same I H I' H' → RdOb CC I' v r → Q v H'
theorem ok_read_clauses (T : Tx K mg CC CB CK) (c_read_clause : Fn P w K mg base 5 "read_clause" (sp_read_clause CC)) (c_meet : Fn P w K mg base 1 "meet" (sp_meet CC)) : Fn P w K mg base 6 "read_clauses" (sp_read_clauses CC) := by
  refine T.f_read_clauses.fn sc_read_clauses (fun _ _ _ _ _ _ us hl => match us, hl with | [_], _ => rfl) (fun vs H Q E h => ?_) (fun f cdv A outer s H vs Q E hr h => ?_)
  · obtain ⟨I, r, ns, i, rfl, _⟩ := h
    rfl
  · obtain ⟨I, r, ns, i, rfl, j, hn, hr3, q⟩ := h
    have hlen := rdT_len hn hr3
    refine ⟨_, (pss_cons (ps_if (pt_not (pt_val (pe_callB call_isi (by rfl) T.b_isinstance (by decide +kernel) (pa_cons (pv 0) (pa_cons (pe_bltn (v := .ty "str") (by rfl) T.b_str (by decide +kernel) rfl) pa_nil)))))
        (pss_one (ps_ret pe_non))
        pss_nil)
      (pss_cons (ps_setLc (i := 1) (own := [("part", 5)]) (g := gName 5) (tt := tYes) rfl sc_read_clauses.nd rfl rfl (sw_true rfl rfl rfl (by decide +kernel)) (pi_list (pe_split (pv 0) (C8.pe_gc rfl T.c_GAP))) (blkOk_by (own := [("part", 5)]) (N := N_read_clauses) (sc := defScope s_read_clauses) (by decide +kernel))
        (fun _ _ _ _ _ => pg_name (i := 5) sc_read_clauses.nd rfl (Or.inl rfl)) (fun _ _ _ _ _ => pts_nil)
        (fun _ _ _ _ _ => (pe_fn c_read_clause hr (by decide) (by rfl) (pa_cons (pv 5) pa_nil))))
      (pss_cons (ps_if (PW.pt (pw_or (pt_cmpR op_gt (pe_callB call_len_seq (by rfl) T.b_len (by decide +kernel) (pa_cons (pv 1) pa_nil)) (C8.pe_gc rfl T.c_MOST_CLAUSES) (nomark _)) (pw_or1 (pt_val (pe_callB (cr_any rfl) (by rfl) T.b_any (by decide +kernel) (pa_cons (pe_lc (own := [("clause", 4)]) (g := gName 4) (tt := tYes) rfl sc_read_clauses.nd (pi_list (pv 1)) (blkOk_by (own := [("clause", 4)]) (N := N_read_clauses) (sc := defScope s_read_clauses) (by decide +kernel))
        (fun _ _ _ _ _ => pg_name (i := 4) sc_read_clauses.nd rfl (Or.inl rfl)) (fun _ _ _ _ _ => pts_nil)
        (fun _ _ _ _ _ => (pe_cmpR op_isN (pv 4) pe_non (nomark _)))) pa_nil))))))
        (pss_one (ps_ret pe_non))
        pss_nil)
      (pss_cons (ps_setLc (i := 2) (own := [("clause", 4)]) (g := gName 4) (tt := tTest (tOp rEq (tFld K (tVar 4) "word") (tC (.str "call")))) rfl sc_read_clauses.nd rfl rfl (sw_true rfl rfl rfl (by decide +kernel)) (pi_list (pv 1)) (blkOk_by (own := [("clause", 4)]) (N := N_read_clauses) (sc := defScope s_read_clauses) (by decide +kernel))
        (fun _ _ _ _ _ => pg_name (i := 4) sc_read_clauses.nd rfl (Or.inl rfl)) (fun _ _ _ _ _ => pts_one (pt_cmpR op_eq (peK_fld K (pv 4) rfl) pe_str (nomark _)))
        (fun _ _ _ _ _ => (pv 4)))
      (pss_cons (ps_if (pt_chain op_lt op_lt pe_int (pe_callB call_len_seq (by rfl) T.b_len (by decide +kernel) (pa_cons (pv 2) pa_nil)) (pe_callB call_len_seq (by rfl) T.b_len (by decide +kernel) (pa_cons (pv 1) pa_nil)))
        (pss_one (ps_ret pe_non))
        pss_nil)
      (pss_cons (ps_for PassesOwn.never rfl (pi_enum (by rfl) T.b_enumerate (pa_cons (pv 1) pa_nil)) (pg_tup rfl (pgs_cons (pg_name (i := 3) sc_read_clauses.nd rfl (Or.inl rfl)) (pgs_cons (pg_name (i := 4) sc_read_clauses.nd rfl (Or.inr rfl)) pgs_nil)))
        (pss_one (ps_if (pt_val (pe_callB (cr_any rfl) (by rfl) T.b_any (by decide +kernel) (pa_cons (pe_lc (own := [("other", 6)]) (g := gName 6) (tt := tYes) rfl sc_read_clauses.nd (pi_list (pe_slice sl_list (pv 1) po_none (po_some (pv 3)))) (blkOk_by (own := [("other", 6)]) (N := N_read_clauses) (sc := defScope s_read_clauses) (by decide +kernel))
        (fun _ _ _ _ _ => pg_name (i := 6) sc_read_clauses.nd rfl (Or.inl rfl)) (fun _ _ _ _ _ => pts_nil)
        (fun _ _ _ _ _ => (pe_fn c_meet hr (by decide) (by rfl) (pa_cons (pv 4) (pa_cons (pv 6) pa_nil))))) pa_nil)))
          (pss_one (ps_ret pe_non))
          pss_nil)))
      (pss_one (ps_ret (pv 1))))))))), ?_⟩
    refine ⟨_, rfl, _, _, _, _, true, rfl, .ty "str", .base (.str _), kit_ty (by decide +kernel), _, rfl, iteC rfl ?_⟩
    -- the parts, each read
    refine ⟨_, rfl, ⟨_, rfl⟩, _, _, rfl, rfl, by decide +kernel, ?_, fun p hp => ?_⟩
    · rw [SX.S_len]
      exact Nat.le_trans (Nat.add_le_add_right hlen 2) (by decide)
    rw [show Txt.split (SX.S (rdT r)) "; " = (r.map clT).map SX.S from split_rd hn hr3]
    have hsp := (upd_same (H := H) (a := p) (o := .lst (((r.map clT).map SX.S).map V.str)))
    have g1 := Go.new fr0 j hp (.lst (((r.map clT).map SX.S).map V.str))
    refine ⟨p, rfl, ⟨_, SqL.of hsp⟩, fun D hD => ?_⟩
    have hlp : (((r.map clT).map SX.S).map V.str).length = r.length := by rw [List.length_map, List.length_map, List.length_map]
    refine lc_goY walk_list fr0 g1.j hD (fun i I' ys => Paired (ClOb CC I') ys (r.take i)) .nil (fun H' k => SqL.of (k p _ (fun z => z) hsp)) (fun _ _ _ _ y => y.1) ?_ ?_
    · rintro k x I2 H2 ys hk ⟨_, hx⟩ g2 hR
      obtain ⟨s1, hs1, rfl⟩ := ys_map_get hx
      rw [List.getElem?_map] at hs1
      obtain ⟨l, hl, rfl⟩ : ∃ l, (r.map clT)[k]? = some l ∧ s1 = SX.S l := by
        cases e : (r.map clT)[k]? with
        | none => rw [e] at hs1; cases hs1
        | some l => rw [e] at hs1; exact ⟨l, rfl, (Option.some.inj hs1).symm⟩
      rw [List.getElem?_map] at hl
      obtain ⟨c, hc, rfl⟩ : ∃ c, r[k]? = some c ∧ l = clT c := by
        cases e : r[k]? with
        | none => rw [e] at hl; cases hl
        | some c => rw [e] at hl; exact ⟨c, rfl, (Option.some.inj hl).symm⟩
      have hyl := hR.length
      rw [List.length_take] at hyl
      have hr3l := hr3.l3
      refine ⟨by omega, fun Q2 q2 => ?_⟩
      refine ⟨_, rfl, I2, c, ns, i, rfl, g2.j, hn, hr3.ok c (List.mem_of_getElem? hc), fun I3 H3 v g3 hv => q2 I3 H3 v g3 ?_⟩
      show Paired (ClOb CC I3) (ys ++ [v]) (r.take (k + 1))
      rw [take_snoc hc]
      exact (hR.mono fun _ _ z => z.mono g3.s).snoc hv
    intro I2 H2 ys g2 iD hL hR
    rw [hlp, List.take_length] at hR
    have hyl : ys.length = r.length := hR.length
    have hr1 : r.length ≤ 3 := hr3.l3
    have g3 : Go A0 Same I H (upd I2 D (.lst ys)) H2 := by
      have g := Go.trans fr0 j g1 g2
      exact g.fix fr0 (by
        have := hD
        cases e : H D with
        | none => rfl
        | some o =>
          have := same_new hp (.lst (((r.map clT).map SX.S).map V.str)) D o e
          rw [hD] at this
          cases this) (fun z => z) iD hL
    have hR : Paired (ClOb CC (upd I2 D (.lst ys))) ys r := hR.mono fun _ _ z => z.mono (same_new iD _)
    have hI3 : (upd I2 D (.lst ys)) D = some (.lst ys) := upd_same
    generalize upd I2 D (.lst ys) = I3 at g3 hR hI3
    -- not too many, none missing
    refine ⟨_, rfl, D, ys, rfl, .inl (SqL.of hL), _, _, rfl, rfl, _, rfl, iteC (decide_eq_false (by omega)) ?_⟩
    refine ⟨_, rfl, D, rfl, ⟨_, SqL.of hL⟩, fun D2 hD2 => ?_⟩
    refine lc_goY walk_list fr0 g3.j hD2 (Tell fun _ => V.bl false) tell_0 (fun H' k => SqL.of (k D _ (fun z => z) hL)) (fun _ _ _ _ y => y.1) ?_ ?_
    · rintro k x I4 H4 zs hk ⟨_, hx⟩ g4 hz
      obtain ⟨c, hc, a, dx, rfl, _⟩ := paired_at hR hx
      exact ⟨by rw [hz.len]; omega, fun Q2 q2 => ⟨_, rfl, rfl, q2 I4 H4 _ (Go.refl g4.j) (hz.snoc rfl)⟩⟩
    intro I4 H4 zs g4 iD2 hL2 hz
    refine ⟨D2, List.replicate ys.length false, rfl, SqL.of ?_, _, rfl, iteC (any_falses _) ?_⟩
    · rw [hL2, hz, falses]
    have g5 := Go.trans fr0 j g3 g4
    have hD4 := g4.k D _ (fun z => z) hL
    have hR4 : Paired (ClOb CC I4) ys r := hR.mono fun _ _ z => z.mono g4.s
    -- those that call
    refine ⟨_, rfl, D, rfl, ⟨_, SqL.of hD4⟩, fun D5 hD5 => ?_⟩
    refine lc_goT walk_list fr0 g5.j hD5 (fun i I' zs => zs.length = ((r.take i).filter isCall).length) rfl (fun H' k => SqL.of (k D _ (fun z => z) hD4)) (fun _ _ _ _ y => y.1) ?_ ?_
    · rintro k x I6 H6 zs hk ⟨_, hx⟩ g6 hz
      obtain ⟨c, hc, a, dx, rfl, ha⟩ := paired_at hR4 hx
      have ha6 : H6 a = some _ := g6.j a _ (g6.s _ _ ha)
      have hzl : zs.length ≤ 3 := by
        rw [hz]
        refine Nat.le_trans (List.length_filter_le _ _) ?_
        rw [List.length_take]
        omega
      refine ⟨isCall c, fun Q2 q2 => ⟨_, rfl, a, CC, dx, _, _, rfl, ha6, T.l_Clause, T.n_Clause_word, fl_word _ _ _ _ _ _, rfl, _, rfl, ?_⟩, fun e => ?_, fun e => ⟨by omega, fun Q2 q2 => ⟨_, rfl, q2 I6 H6 _ (Go.refl g6.j) ?_⟩⟩⟩
      · have e : decide (V.str c.w = V.str "call") = isCall c := by
          unfold isCall
          by_cases h : c.w = "call"
          · rw [eq_str h, decide_eq_true h]
          · rw [ne_str h, decide_eq_false h]
        rw [e]
        exact q2
      · rw [take_snoc hc, List.filter_append, List.length_append, ← hz, List.filter_cons, e]
        simp
      · rw [List.length_append, take_snoc hc, List.filter_append, List.length_append, ← hz, List.filter_cons, e]
        simp
    intro I6 H6 zs g6 iD5 hL5 hz
    rw [hyl, List.take_length] at hz
    have g7 := Go.trans fr0 j g5 g6
    have hD6 := g6.k D _ (fun z => z) hD4
    have hR6 : Paired (ClOb CC I6) ys r := hR4.mono fun _ _ z => z.mono g6.s
    have hne : 0 < r.length := List.length_pos_iff.mpr hr3.ne
    -- all or none call
    have hall : 0 < zs.length → ¬ zs.length < ys.length := by
      intro h0
      rcases hr3.calls with h | h
      · have : r.filter isCall = r := List.filter_eq_self.mpr fun c hc => decide_eq_true (h c hc)
        rw [this] at hz
        omega
      · have : r.filter isCall = [] := List.filter_eq_nil_iff.mpr fun c hc => by
          unfold isCall
          rw [decide_eq_false (h c hc)]
          decide
        rw [this, List.length_nil] at hz
        omega
    refine ⟨_, rfl, D5, zs, rfl, .inl (SqL.of hL5), _, _, rfl, rfl, _, rfl, ?_⟩
    -- no two meet
    suffices rest : _ by
      by_cases h0 : 0 < zs.length
      · refine iteB (decide_eq_true (by omega)) ⟨_, rfl, D, ys, rfl, .inl (SqL.of hD6), _, _, rfl, rfl, _, rfl, iteC (decide_eq_false ?_) rest⟩
        have := hall h0
        omega
      · exact iteC (decide_eq_false (by omega)) ⟨_, rfl, iteC rfl rest⟩
    refine ⟨_, rfl, D, ys, rfl, SqL.of hD6, for_it walk_enum (fun (k : Nat) (σ : L2.St) (H' : Hp) => ∃ x y, σ = [some (.str (SX.S (rdT r))), some (.ref D), some (.ref D5), x, y, none, none] ∧ ∃ I', Go A0 Same I H I' H' ∧ Paired (ClOb CC I') ys r ∧ I' D = some (.lst ys))
      ⟨_, _, rfl, I6, g7, hR6, g6.s _ _ (g4.s _ _ hI3)⟩ (fun k σ H' _ ⟨_, _, _, _, g, _, h⟩ => SqL.of (g.j _ _ h)) ?_ ?_⟩
    · rintro k x σ H7 H8 hk ⟨x3, y3, rfl, I7, g8, hR7, hI7⟩ ⟨tu, x4, y4, rfl, nT, rfl, ex, ey⟩
      have hD7 := g8.j _ _ hI7
      have ex : x4 = .int (k : Nat) := (Option.some.inj ex).symm
      subst ex
      have g9 := Go.trans fr0 j g8 (Go.new fr0 g8.j nT (.tup [.int (k : Nat), y4]))
      have hR8 : Paired (ClOb CC (upd I7 tu (.tup [.int (k : Nat), y4]))) ys r := hR7.mono fun _ _ z => z.mono (same_new (g8.j.free nT) _)
      have hD8 := same_new nT (.tup [.int (k : Nat), y4]) D _ hD7
      have hI8 := same_new (g8.j.free nT) (.tup [.int (k : Nat), y4]) D _ hI7
      generalize upd I7 tu (.tup [.int (k : Nat), y4]) = I8 at g9 hR8 hI8
      obtain ⟨c, hc, hcv⟩ := paired_at hR8 ey
      refine ⟨tu, [.int (k : Nat), y4], rfl, SqT.of upd_same, rfl, _, [y4], rfl, _, [], rfl, rfl, ?_⟩
      generalize upd H7 tu (.tup [.int (k : Nat), y4]) = H8 at g9 hD8
      refine ⟨_, rfl, _, rfl, k, rfl, D, ys, rfl, SqL.of hD8, fun p2 hp2 => ?_⟩
      rw [cut_to (Nat.le_of_lt hk)]
      have g10 := Go.new fr0 g9.j hp2 (.lst (ys.take k))
      refine ⟨p2, rfl, ⟨_, SqL.of upd_same⟩, fun D9 hD9 => ?_⟩
      refine lc_goY walk_list fr0 g10.j hD9 (Tell fun _ => V.bl false) tell_0 (fun H' k => SqL.of (k p2 _ (fun z => z) upd_same)) (fun _ _ _ _ y => y.1) ?_ ?_
      · rintro m x I11 H11 us hm ⟨_, hx⟩ g11 hz
        rw [List.length_take] at hm
        have hmk : m < k := by omega
        rw [List.getElem?_take_of_lt hmk] at hx
        obtain ⟨d, hd, hdv⟩ := paired_at hR8 hx
        obtain ⟨es, nr⟩ := hr3.apart m k d c hd hc hmk
        have s11 : Same I8 H11 := (g10.s.trans g11.s).trans g11.j
        refine ⟨by rw [hz.len]; omega, fun Q2 q2 => ⟨_, rfl, _, rfl, _, _, c, d, rfl, hcv.mono s11, hdv.mono s11, es, nr, q2 I11 H11 _ (Go.refl g11.j) (hz.snoc rfl)⟩⟩
      intro I11 H11 us g11 iD9 hL9 hz
      have g12 := Go.trans fr0 j g9 (Go.trans fr0 g9.j g10 g11)
      refine ⟨D9, List.replicate (ys.take k).length false, rfl, SqL.of (by rw [hL9, hz, falses]), _, rfl, iteC (any_falses _) ?_⟩
      exact ⟨_, _, rfl, I11, g12, hR8.mono fun _ _ z => z.mono (g10.s.trans g11.s), g11.s _ _ (g10.s _ _ hI8)⟩
    · rintro σ H7 ⟨x3, y3, rfl, I7, g8, hR7, hI7⟩
      exact ⟨_, rfl, q I7 H7 _ g8 ⟨D, ys, rfl, hI7, hR7⟩⟩
end
end JR
/-! J6: rounds in their place, goals, plans. -/
namespace JR
open PySem PySem.Spec PyProof.Rows L2
section
variable {P : Program} {w : World} {K : PySem.W.Frag} {mg : Str → Option Value} {base : Heap} {CC CB CK : Addr}
theorem inV_str (a : Str) (ns : List Str) : inV (V.str a) (ns.map V.str) = decide (a ∈ ns) := by
  unfold inV
  induction ns with
  | nil => simp
  | cons n r ih =>
    rw [List.map_cons, List.any_cons, ih]
    show ((n == a) || decide (a ∈ r)) = decide (a ∈ n :: r)
    by_cases e : n = a
    · subst e
      simp
    · rw [beq_eq_false_iff_ne.mpr e, Bool.false_or]
      have : a ∈ n :: r ↔ a ∈ r := by
        rw [List.mem_cons]
        exact ⟨fun h => h.resolve_left fun z => e z.symm, Or.inr⟩
      simp only [this]
theorem flat_strs (ns : List Str) : (ns.map V.str).all flatV = true := by
  rw [List.all_map, List.all_eq_true]
  intro _ _
  rfl
def sp_read_round (CC : Addr) : Sp := fun vs H Q _ => ∃ (I : Hp) (r : List Cl) (ns : List Str) (i : Nat) (a b : Addr), vs = [.str (SX.S (rdT r)), .ref a, .ref b] ∧ Same I H ∧ (∀ n ∈ ns, n ∈ menu) ∧ ns.Nodup ∧ RdOk ns i r ∧
  H a = some (.lst (ns.map V.str)) ∧ H b = some (.lst ((ns.take (i + 1)).map V.str)) ∧ ∀ I' H' v, Go A0 Same I H I' H' → RdOb CC I' v r → Q v H'
theorem ok_read_round (T : Tx K mg CC CB CK) (c_read_clauses : Fn P w K mg base 6 "read_clauses" (sp_read_clauses CC)) : Fn P w K mg base 7 "read_round" (sp_read_round CC) := by
  refine T.f_read_round.fn sc_read_round (fun _ _ _ _ _ _ us hl => match us, hl with | [_, _, _], _ => rfl) (fun vs H Q E h => ?_) (fun f cdv A outer s H vs Q E hr h => ?_)
  · obtain ⟨I, r, ns, i, a, b, rfl, _⟩ := h
    rfl
  · obtain ⟨I, r, ns, i, a, b, rfl, j, hn, nd, hr3, ha, hb, q⟩ := h
    refine ⟨_, (pss_cons (ps_set (i := 3) sc_read_round.nd rfl (Or.inl rfl) (pe_fn c_read_clauses hr (by decide) (by rfl) (pa_cons (pv 0) pa_nil)))
      (pss_cons (ps_if (pt_cmpR op_isN (pv 3) pe_non (nomark _))
        (pss_one (ps_ret pe_non))
        pss_nil)
      (pss_cons (ps_for PassesOwn.never rfl (pi_list (pv 3)) (pg_name (i := 4) sc_read_round.nd rfl (Or.inl rfl))
        (pss_one (ps_if (PW.pt (pw_and (pt_cmpR op_eq (pe_fld (pv 4) rfl) pe_str (nomark _)) (pw_and1 (PW.pt (pw_or (pt_cmpR op_notIn_seq (pe_fld (pv 4) rfl) (pv 1) (by rfl)) (pw_or1 (PW.pt (pw_and (pt_cmpR op_eq (pe_fld (pv 4) rfl) pe_int (nomark _)) (pw_and1 (pt_cmpR op_in_seq (pe_fld (pv 4) rfl) (pv 2) (by rfl)))))))))))
          (pss_one (ps_ret pe_non))
          pss_nil)))
      (pss_one (ps_ret (pv 3)))))), ?_⟩
    refine ⟨_, rfl, I, r, ns, i, rfl, j, hn, hr3, fun I1 H1 v g1 ⟨D, ys, ev, hI, hR⟩ => ?_⟩
    subst ev
    have ha1 := g1.k a _ (fun z => z) ha
    have hb1 := g1.k b _ (fun z => z) hb
    refine ⟨_, rfl, rfl, _, rfl, iteC rfl ?_⟩
    refine ⟨_, rfl, D, rfl, ⟨ys, SqL.of (g1.j _ _ hI)⟩, for_list (xs := ys) (fun (k : Nat) (σ : L2.St) (H' : Hp) => ∃ x, σ = [some (.str (SX.S (rdT r))), some (.ref a), some (.ref b), some (.ref D), x] ∧ H' = H1) ⟨_, rfl, rfl⟩ (fun k σ H' _ ⟨_, _, e⟩ => by rw [e]; exact SqL.of (g1.j _ _ hI)) ?_ ?_⟩
    · rintro k y σ H' hy ⟨x, rfl, rfl⟩
      obtain ⟨c, hc, p, dx, rfl, hp⟩ := paired_at hR hy
      have hp1 := g1.j _ _ hp
      have ok := hr3.ok c (List.mem_of_getElem? hc)
      refine ⟨_, rfl, p, CC, dx, _, _, rfl, hp1, T.l_Clause, T.n_Clause_word, fl_word _ _ _ _ _ _, rfl, _, rfl, ?_⟩
      by_cases hw : c.w = "call"
      · obtain ⟨_, hl, h1⟩ : c.far = 0 ∧ c.lab ∈ ns ∧ (c.step = 1 → ns[i + 1]? = some c.lab) := by
          rcases ok.kd with ⟨_, _, h⟩ | ⟨e, _⟩
          · exact h
          · rw [hw] at e
            rcases e with e | e | e <;> exact absurd e (by decide +kernel)
        have eg : goalV c = V.str c.lab := by unfold goalV; rw [if_pos hw]
        refine iteB (eq_str hw) ⟨_, rfl, p, CC, dx, _, _, rfl, hp1, T.l_Clause, T.n_Clause_goal, fl_goal _ _ _ _ _ _, ?_⟩
        rw [eg]
        refine ⟨_, rfl, a, _, rfl, .inl (SqL.of ha1), rfl, flat_strs _, _, rfl, iteC ?_ ?_⟩
        · show (!inV (V.str c.lab) (ns.map V.str)) = false
          rw [inV_str, decide_eq_true hl]
          rfl
        refine ⟨_, rfl, p, CC, dx, _, _, rfl, hp1, T.l_Clause, T.n_Clause_step, fl_step _ _ _ _ _ _, rfl, _, rfl, ?_⟩
        by_cases hs : c.step = 1
        · refine iteB (decide_eq_true (by rw [hs]; rfl)) ⟨_, rfl, p, CC, dx, _, _, rfl, hp1, T.l_Clause, T.n_Clause_goal, fl_goal _ _ _ _ _ _, ?_⟩
          rw [eg]
          refine ⟨_, rfl, b, _, rfl, .inl (SqL.of hb1), rfl, flat_strs _, _, rfl, iteC ?_ ⟨_, rfl, rfl⟩⟩
          show inV (V.str c.lab) ((ns.take (i + 1)).map V.str) = false
          rw [inV_str]
          refine decide_eq_false fun hm => ?_
          obtain ⟨m, hm2⟩ := List.getElem?_of_mem hm
          have hm1 := get_len hm2
          rw [List.length_take] at hm1
          rw [List.getElem?_take_of_lt (by omega)] at hm2
          have h2 := h1 hs
          have : m = i + 1 := nodup_ix nd hm2 h2
          omega
        · exact iteC (decide_eq_false fun z => hs (by have := V.int.inj z; omega)) (iteC rfl ⟨_, rfl, rfl⟩)
      · exact iteC (ne_str hw) (iteC rfl ⟨_, rfl, rfl⟩)
    · rintro σ H' ⟨x, rfl, rfl⟩
      exact ⟨_, rfl, q I1 _ _ g1 ⟨D, ys, rfl, hI, hR⟩⟩
/-! ### goals -/
def gV (gw : Str) (gk : Nat) : V := if gw = "last" then .int gk else .non
def PgAt (I : Hp) (v : V) (gw : Str) (gk : Nat) : Prop := ∃ a, v = .ref a ∧ I a = some (.tup [.str gw, gV gw gk])
def sp_read_goal : Sp := fun vs H Q _ => ∃ (I : Hp) (gw : Str) (gk : Nat), vs = [.str (goT gw gk)] ∧ Same I H ∧ GoOk gw gk ∧ ∀ I' H' v, Go A0 Same I H I' H' → PgAt I' v gw gk → Q v H'
theorem ok_read_goal (T : Tx K mg CC CB CK) (c_digit_of : Fn P w K mg base 1 "digit_of" (sp_digit_of)) (c_is_between : Fn P w K mg base 2 "is_between" (sp_is_between)) : Fn P w K mg base 3 "read_goal" (sp_read_goal) := by
  refine T.f_read_goal.fn sc_read_goal (fun _ _ _ _ _ _ us hl => match us, hl with | [_], _ => rfl) (fun vs H Q E h => ?_) (fun f cdv A outer s H vs Q E hr h => ?_)
  · obtain ⟨I, gw, gk, rfl, _⟩ := h
    rfl
  · obtain ⟨I, gw, gk, rfl, j, ok, q⟩ := h
    refine ⟨_, (pss_cons (ps_if (pt_not (pt_val (pe_callB call_isi (by rfl) T.b_isinstance (by decide +kernel) (pa_cons (pv 0) (pa_cons (pe_bltn (v := .ty "str") (by rfl) T.b_str (by decide +kernel) rfl) pa_nil)))))
        (pss_one (ps_ret pe_non))
        pss_nil)
      (pss_cons (ps_if (pt_cmpR op_in_seq (pv 0) (pe_tup (pa_cons pe_str (pa_cons pe_str pa_nil))) (by rfl))
        (pss_one (ps_ret (pe_tup (pa_cons (pv 0) (pa_cons pe_non pa_nil)))))
        pss_nil)
      (pss_cons (ps_set (i := 1) sc_read_goal.nd rfl (Or.inl rfl) (pe_ifExp (pt_cmpR op_eq (pe_slice sl_str (pv 0) po_none (po_some pe_int)) pe_str (nomark _)) (pe_fn c_digit_of hr (by decide) (by rfl) (pa_cons (pe_slice sl_str (pv 0) (po_some pe_int) po_none) pa_nil)) pe_non))
      (pss_one (ps_ret (pe_ifExp (pt_val (pe_fn c_is_between hr (by decide) (by rfl) (pa_cons (pv 1) (pa_cons pe_int (pa_cons (C8.pe_gc rfl T.c_MOST_LAST) pa_nil))))) (pe_tup (pa_cons pe_str (pa_cons (pv 1) pa_nil))) pe_non)))))), ?_⟩
    refine ⟨_, rfl, _, _, _, _, true, rfl, .ty "str", .base (.str _), kit_ty (by decide +kernel), _, rfl, iteC rfl ?_⟩
    refine ⟨_, rfl, (by show 2 ≤ sizeLine; decide), fun t nt => ?_⟩
    have g1 := Go.same fr0 j (same_new nt (.tup [V.str "all", V.str "before"]))
    refine ⟨t, _, rfl, .inr (SqT.of upd_same), rfl, rfl, _, rfl, ?_⟩
    by_cases hl : gw = "last"
    · subst hl
      obtain ⟨k1, k4⟩ : 1 ≤ gk ∧ gk ≤ 4 := by
        rcases ok.kd with ⟨e, _⟩ | ⟨e, _⟩ | ⟨_, h⟩
        · exact absurd e (by decide +kernel)
        · exact absurd e (by decide +kernel)
        · exact h
      have et : goT "last" gk = SX.S (cd "last " ++ dg gk) := by unfold goT; rw [if_pos rfl]
      rw [et] at *
      have in1 : inV (V.str (SX.S (cd "last " ++ dg gk))) [V.str "all", V.str "before"] = false := by
        have := inV_str (SX.S (cd "last " ++ dg gk)) ["all", "before"]
        rw [show [V.str "all", V.str "before"] = (["all", "before"] : List Str).map V.str from rfl, this]
        refine decide_eq_false fun hm => ?_
        have : (SX.S (cd "last " ++ dg gk)).length = 6 := by rw [SX.S_len]; rfl
        rcases List.mem_cons.mp hm with e | hm
        · rw [e] at this
          exact absurd this (by decide +kernel)
        · rcases List.mem_cons.mp hm with e | hm
          · have e2 : cd (SX.S (cd "last " ++ dg gk)) = cd "before" := by rw [e]
            rw [cd_S] at e2
            have e4 : cd "last " = [108, 97, 115, 116, 32] := by decide +kernel
            have e5 : cd "before" = [98, 101, 102, 111, 114, 101] := by decide +kernel
            rw [e4, e5] at e2
            exact absurd (congrArg List.head? e2) (by simp)
          · cases hm
      refine iteC in1 ?_
      have hz : (SX.S (cd "last " ++ dg gk)).length ≤ sizeLine := by rw [SX.S_len]; show 6 ≤ sizeLine; decide
      refine ⟨_, rfl, 5, rfl, _, rfl, hz, rfl, _, rfl, iteB ?_ ?_⟩
      · refine eq_str ?_
        rw [C8.cutS_slice, SX.to_app (cd "last ") (dg gk) (by decide +kernel), S_cd]
      refine ⟨_, rfl, 5, rfl, _, rfl, hz, gk, ?_, by omega, ?_⟩
      · rw [C8.cutS_slice, SX.from_app (cd "last ") (dg gk) (by decide +kernel)]
        rfl
      refine ⟨_, rfl, gk, 1, 4, rfl, by omega, by omega, _, rfl, iteB rfl ?_⟩
      refine ⟨_, rfl, (by show 2 ≤ sizeLine; decide), fun p hp => ?_⟩
      refine q _ _ _ (Go.trans fr0 j g1 (Go.new fr0 g1.j hp _)) ⟨p, rfl, ?_⟩
      rw [upd_same]
      unfold gV
      rw [if_pos rfl]
    · have et : goT gw gk = gw := by unfold goT; rw [if_neg hl]
      rw [et]
      have hm : gw = "all" ∨ gw = "before" := by
        rcases ok.kd with ⟨e, _⟩ | ⟨e, _⟩ | ⟨e, _⟩
        · exact .inl e
        · exact .inr e
        · exact absurd e hl
      have in1 : inV (V.str gw) [V.str "all", V.str "before"] = true := by
        rcases hm with e | e <;> rw [e] <;> decide +kernel
      refine iteB in1 ⟨_, rfl, (by show 2 ≤ sizeLine; decide), fun p hp => ?_⟩
      refine q _ _ _ (Go.trans fr0 j g1 (Go.new fr0 g1.j hp _)) ⟨p, rfl, ?_⟩
      rw [upd_same]
      unfold gV
      rw [if_neg hl]
/-! ### plans -/
theorem trues (n : Nat) : (List.range n).map (fun _ => V.bl true) = (List.replicate n true).map V.bl := by simp [List.map_const']
theorem all_trues (n : Nat) : (List.replicate n true).all id = true := by simp
def sp_is_plan : Sp := fun vs H Q _ => ∃ (I : Hp) (v : V) (p : Pl) (ns : List Str) (i : Nat), vs = [v] ∧ Same I H ∧ PlanAt I v p ∧ (∀ n ∈ ns, n ∈ menu) ∧ PlOk ns i p ∧ ∀ H', Same H H' → Q (.bl true) H'
theorem ok_is_plan (T : Tx K mg CC CB CK) (c_is_between : Fn P w K mg base 2 "is_between" (sp_is_between)) (c_read_goal : Fn P w K mg base 3 "read_goal" (sp_read_goal)) (c_is_name : Fn P w K mg base 1 "is_name" (sp_is_name)) (c_read_clauses : Fn P w K mg base 6 "read_clauses" (sp_read_clauses CC)) : Fn P w K mg base 7 "is_plan" (sp_is_plan) := by
  refine T.f_is_plan.fn sc_is_plan (fun _ _ _ _ _ _ us hl => match us, hl with | [_], _ => rfl) (fun vs H Q E h => ?_) (fun f cdv A outer s H vs Q E hr h => ?_)
  · obtain ⟨I, v, p, ns, i, rfl, _⟩ := h
    rfl
  · obtain ⟨I, v, p, ns, i, rfl, j, ⟨a, r, rfl, ha, hrr⟩, hn, ok, q⟩ := h
    have ha0 := j _ _ ha
    have hr0 := j _ _ hrr
    refine ⟨_, (pss_cons (ps_if (PW.pt (pw_or (pt_not (pt_val (pe_callB call_isi (by rfl) T.b_isinstance (by decide +kernel) (pa_cons (pv 0) (pa_cons (pe_bltn (v := .ty "tuple") (by rfl) T.b_tuple (by decide +kernel) rfl) pa_nil))))) (pw_or1 (pt_cmpR op_ne (pe_callB call_len_seq (by rfl) T.b_len (by decide +kernel) (pa_cons (pv 0) pa_nil)) pe_int (nomark _)))))
        (pss_one (ps_ret pe_bl))
        pss_nil)
      (pss_cons (ps_asg (pv 0) (pg_tup rfl (pgs_cons (pg_name (i := 1) sc_is_plan.nd rfl (Or.inl rfl)) (pgs_cons (pg_name (i := 2) sc_is_plan.nd rfl (Or.inl rfl)) (pgs_cons (pg_name (i := 3) sc_is_plan.nd rfl (Or.inl rfl)) (pgs_cons (pg_name (i := 4) sc_is_plan.nd rfl (Or.inl rfl)) pgs_nil))))))
      (pss_cons (ps_if (PW.pt (pw_or (pt_not (pt_val (pe_fn c_is_name hr (by decide) (by rfl) (pa_cons (pv 1) pa_nil)))) (pw_or (pt_cmpR op_isN (pe_fn c_read_goal hr (by decide) (by rfl) (pa_cons (pv 2) pa_nil)) pe_non (nomark _)) (pw_or1 (pt_not (pt_val (pe_fn c_is_between hr (by decide) (by rfl) (pa_cons (pv 3) (pa_cons pe_int (pa_cons (C8.pe_gc rfl T.c_MOST_BASE) pa_nil))))))))))
        (pss_one (ps_ret pe_bl))
        pss_nil)
      (pss_cons (ps_if (PW.pt (pw_or (pt_not (pt_val (pe_callB call_isi (by rfl) T.b_isinstance (by decide +kernel) (pa_cons (pv 4) (pa_cons (pe_bltn (v := .ty "tuple") (by rfl) T.b_tuple (by decide +kernel) rfl) pa_nil))))) (pw_or1 (pt_not (pt_chain op_lt op_le pe_int (pe_callB call_len_seq (by rfl) T.b_len (by decide +kernel) (pa_cons (pv 4) pa_nil)) (C8.pe_gc rfl T.c_MOST_ROUNDS))))))
        (pss_one (ps_ret pe_bl))
        pss_nil)
      (pss_one (ps_ret (pe_callB (cr_all rfl) (by rfl) T.b_all (by decide +kernel) (pa_cons (pe_lc (own := [("text", 5)]) (g := gName 5) (tt := tYes) rfl sc_is_plan.nd (pi_tup (pv 4)) (blkOk_by (own := [("text", 5)]) (N := N_is_plan) (sc := defScope s_is_plan) (by decide +kernel))
        (fun _ _ _ _ _ => pg_name (i := 5) sc_is_plan.nd rfl (Or.inl rfl)) (fun _ _ _ _ _ => pts_nil)
        (fun _ _ _ _ _ => (pe_cmpR op_notN (pe_fn c_read_clauses hr (by decide) (by rfl) (pa_cons (pv 5) pa_nil)) pe_non (nomark _)))) pa_nil)))))))), ?_⟩
    refine ⟨_, rfl, _, _, _, _, true, rfl, .ty "tuple", .base (.tup ha0), kit_ty (by decide +kernel), _, rfl, iteC rfl ?_⟩
    refine ⟨_, rfl, a, _, rfl, .inr (SqT.of ha0), rfl, _, rfl, iteC rfl ?_⟩
    refine ⟨_, rfl, a, _, rfl, SqT.of ha0, rfl, _, _, rfl, _, _, rfl, _, _, rfl, _, _, rfl, rfl, ?_⟩
    refine ⟨_, rfl, p.name, rfl, hn _ (List.mem_of_getElem? ok.nm), fun H1 s1 => ⟨_, rfl, iteC rfl ?_⟩⟩
    have g1 := Go.same fr0 j s1
    refine ⟨_, rfl, I, p.gw, p.gk, rfl, g1.j, ok.go, fun I2 H2 v2 g2 ⟨a2, e2, _⟩ => ?_⟩
    subst e2
    have g3 := Go.trans fr0 j g1 g2
    refine ⟨rfl, _, rfl, iteC rfl ?_⟩
    have hb1 := ok.b1
    have hb4 := ok.b4
    refine ⟨_, rfl, p.base, 1, 4, rfl, by omega, by omega, _, rfl, iteC rfl ?_⟩
    have hr2 := g3.j _ _ (g3.s _ _ hrr)
    refine ⟨_, rfl, _, _, _, _, true, rfl, .ty "tuple", .base (.tup hr2), kit_ty (by decide +kernel), _, rfl, iteC rfl ?_⟩
    have hl : (p.rds.map fun r => V.str (SX.S (rdT r))).length = p.rds.length := List.length_map _
    have hr1 : 0 < p.rds.length := List.length_pos_iff.mpr ok.r1
    have hr3 := ok.r3
    refine ⟨_, rfl, r, _, rfl, .inr (SqT.of hr2), _, _, rfl, rfl, _, rfl, iteB (decide_eq_true (by rw [hl]; omega)) ⟨_, _, rfl, rfl, _, rfl, iteC ?_ ?_⟩⟩
    · show (!decide (_ ≤ _)) = false
      rw [hl, decide_eq_true (by omega)]
      rfl
    refine ⟨_, rfl, r, rfl, ⟨_, SqT.of hr2⟩, fun D hD => ?_⟩
    refine lc_goY walk_tup fr0 g3.j hD (Tell fun _ => V.bl true) tell_0 (fun H' k => SqT.of (k r _ (fun z => z) hr2)) (fun _ _ _ _ y => y.1) ?_ ?_
    · rintro k x I4 H4 zs hk ⟨_, hx⟩ g4 hz
      obtain ⟨rd, hrd, rfl⟩ := ys_map_get hx
      refine ⟨by rw [hz.len]; rw [hl] at hk; omega, fun Q2 q2 => ⟨_, rfl, I4, rd, ns, i, rfl, g4.j, hn, ok.ok _ (List.mem_of_getElem? hrd), fun I5 H5 v5 g5 ⟨a5, _, e5, _⟩ => ⟨rfl, ?_⟩⟩⟩
      subst e5
      exact q2 I5 H5 _ g5 (hz.snoc rfl)
    intro I4 H4 zs g4 iD hL hz
    refine ⟨D, List.replicate _ true, rfl, SqL.of (by rw [hL, hz, trues]), ?_⟩
    rw [all_trues]
    exact q H4 fun b o hb => (Go.trans fr0 j g3 g4).k b o (fun z => z) hb
end
end JR
/-! J7: books. -/
namespace JR
open PySem PySem.Spec PyProof.Rows L2
section
variable {P : Program} {w : World} {K : PySem.W.Frag} {mg : Str → Option Value} {base : Heap} {CC CB CK : Addr}
theorem yes_if {σ : L2.St} {H : Hp} {f g : Hp → Prop} (h : f H) : tYes σ H (fun b H3 => if b = true then f H3 else g H3) := by
  show (if true = true then f H else g H)
  rw [if_pos rfl]
  exact h
def sp_first_invalid : Sp := fun vs H Q _ => ∃ (I : Hp) (v : V) (sk : List Pl) (ns : List Str), vs = [v] ∧ Same I H ∧ PlansAt I v sk ∧ SkOk ns sk ∧ ∀ H', Same H H' → Q .non H'
theorem ok_first_invalid (T : Tx K mg CC CB CK) (c_is_plan : Fn P w K mg base 7 "is_plan" (sp_is_plan)) (c_read_round : Fn P w K mg base 7 "read_round" (sp_read_round CC)) : Fn P w K mg base 8 "first_invalid" (sp_first_invalid) := by
  refine T.f_first_invalid.fn sc_first_invalid (fun _ _ _ _ _ _ us hl => match us, hl with | [_], _ => rfl) (fun vs H Q E h => ?_) (fun f cdv A outer s H vs Q E hr h => ?_)
  · obtain ⟨I, v, sk, ns, rfl, _⟩ := h
    rfl
  · obtain ⟨I, v, sk, ns, rfl, j, ⟨a, xs, rfl, ha, hP⟩, ok, q⟩ := h
    have ha0 := j _ _ ha
    have hxl : xs.length = sk.length := hP.length
    have hn3 := ok.n3
    have hsl := ok.l
    refine ⟨_, (pss_cons (ps_set (i := 1) sc_first_invalid.nd rfl (Or.inr rfl) (pe_lst pa_nil))
      (pss_cons (ps_for PassesOwn.never rfl (pi_enumT (by rfl) T.b_enumerate (pa_cons (pv 0) pa_nil)) (pg_tup rfl (pgs_cons (pg_name (i := 2) sc_first_invalid.nd rfl (Or.inr rfl)) (pgs_cons (pg_name (i := 3) sc_first_invalid.nd rfl (Or.inl rfl)) pgs_nil)))
        (pss_cons (ps_if (PW.pt (pw_or (pt_cmpR op_eq (pv 2) (C8.pe_gc rfl T.c_MOST_PLANS) (nomark _)) (pw_or (pt_not (pt_val (pe_fn c_is_plan hr (by decide) (by rfl) (pa_cons (pv 3) pa_nil)))) (pw_or1 (pt_cmpR op_in_seq (pe_ix ix_tup (pv 3) pe_int (fun _ _ => rfl)) (pv 1) (by rfl))))))
          (pss_one (ps_ret (pv 2)))
          pss_nil)
        (pss_one (ps_expr (pe_bm PySem.F.plainAttrs_list PySem.F.slot_list_append PySem.F.type_list_append mt_append (pv 1) (pa_cons (pe_ix ix_tup (pv 3) pe_int (fun _ _ => rfl)) pa_nil))))))
      (pss_cons (ps_for PassesOwn.never rfl (pi_enumT (by rfl) T.b_enumerate (pa_cons (pv 0) pa_nil)) (pg_tup rfl (pgs_cons (pg_name (i := 2) sc_first_invalid.nd rfl (Or.inr rfl)) (pgs_cons (pg_name (i := 3) sc_first_invalid.nd rfl (Or.inl rfl)) pgs_nil)))
        (pss_one (ps_if (pt_val (pe_callB (cr_any rfl) (by rfl) T.b_any (by decide +kernel) (pa_cons (pe_lc (own := [("text", 4)]) (g := gName 4) (tt := tYes) rfl sc_first_invalid.nd (pi_tup (pe_ix ix_tup (pv 3) pe_int (fun _ _ => rfl))) (blkOk_by (own := [("text", 4)]) (N := N_first_invalid) (sc := defScope s_first_invalid) (by decide +kernel))
        (fun _ _ _ _ _ => pg_name (i := 4) sc_first_invalid.nd rfl (Or.inl rfl)) (fun _ _ _ _ _ => pts_nil)
        (fun _ _ _ _ _ => (pe_cmpR op_isN (pe_fn c_read_round hr (by decide) (by rfl) (pa_cons (pv 4) (pa_cons (pv 1) (pa_cons (pe_slice (slK_list K) (pv 1) po_none (po_some (pe_op op_add (pv 2) pe_int))) pa_nil)))) pe_non (nomark _)))) pa_nil)))
          (pss_one (ps_ret (pv 2)))
          pss_nil)))
      (pss_one (ps_ret pe_non))))), ?_⟩
    -- no names yet
    refine ⟨Nat.zero_le _, fun l hl => ?_⟩
    have g0 : Go A0 Same I H I (upd H l (.lst [])) := Go.same fr0 j (same_new hl _)
    have hIl : I l = none := j.free hl
    refine ⟨_, rfl, a, xs, rfl, SqT.of (g0.k _ _ (fun z => z) ha0), for_enumT (xs := xs) (fun (k : Nat) (σ : L2.St) (H' : Hp) => ∃ x y, σ = [some (.ref a), some (.ref l), x, y, none] ∧ Same I H' ∧ Same H H' ∧ H' l = some (.lst ((ns.take k).map V.str)))
      ⟨_, _, rfl, g0.j, same_new hl _, upd_same⟩ (fun k σ H' _ ⟨_, _, _, s, _⟩ => SqT.of (s _ _ ha)) ?_ ?_⟩
    · rintro k y tu σ H1 hy ⟨x2, x3, rfl, s1, sH, hl1⟩ nT
      obtain ⟨p, hp, hpv⟩ := paired_at hP hy
      have pk := ok.ok k p hp
      have hk := get_len hy
      have s2 : Same I (upd H1 tu (.tup [.int (k : Nat), y])) := s1.trans (same_new nT _)
      have hl2 := same_new nT (.tup [.int (k : Nat), y]) l _ hl1
      have sH2 := sH.trans (same_new nT (.tup [.int (k : Nat), y]))
      refine ⟨tu, [.int (k : Nat), y], rfl, SqT.of upd_same, rfl, _, [y], rfl, _, [], rfl, rfl, ?_⟩
      generalize upd H1 tu (.tup [.int (k : Nat), y]) = H2 at s2 hl2 sH2
      refine ⟨_, rfl, rfl, _, rfl, iteC (decide_eq_false fun z => ?_) ?_⟩
      · have := V.int.inj z
        omega
      refine ⟨_, rfl, I, y, p, ns, k, rfl, s2, hpv, ok.mn, pk, fun H3 s3 => ⟨_, rfl, iteC rfl ?_⟩⟩
      obtain ⟨b, r, rfl, hb, hrr⟩ := hpv
      have hb3 := s3 _ _ (s2 _ _ hb)
      have hl3 := s3 _ _ hl2
      refine ⟨_, rfl, b, _, 0, _, rfl, rfl, SqT.of hb3, atI_nat (j := 0) rfl, _, rfl, l, _, rfl, .inl (SqL.of hl3), rfl, flat_strs _, _, rfl, iteC ?_ ?_⟩
      · show inV (V.str p.name) ((ns.take k).map V.str) = false
        rw [inV_str]
        refine decide_eq_false fun hm => ?_
        obtain ⟨m, hm2⟩ := List.getElem?_of_mem hm
        have hm1 := get_len hm2
        rw [List.length_take] at hm1
        rw [List.getElem?_take_of_lt (by omega)] at hm2
        have : m = k := nodup_ix ok.nd hm2 pk.nm
        omega
      refine ⟨_, rfl, .inl ⟨rfl, _, SqL.of hl3⟩, _, rfl, b, _, 0, _, rfl, rfl, SqT.of hb3, atI_nat (j := 0) rfl, l, _, _, rfl, rfl, hl3, ?_, ?_⟩
      · rw [List.length_map, List.length_take]
        exact Nat.lt_of_le_of_lt (Nat.min_le_right _ _) (Nat.lt_of_le_of_lt hn3 (by decide))
      refine ⟨_, _, rfl, fr0.chg (s2.trans s3) (fun z => z) hIl, fun c u e => ?_, ?_⟩
      · rw [upd_ne (ne_of_none e hl)]
        exact (sH2.trans s3) c u e
      · rw [upd_same, take_snoc pk.nm, List.map_append]
        rfl
    rintro σ H1 ⟨x2, x3, rfl, s1, sH, hl1⟩
    rw [hxl, hsl, List.take_length] at hl1
    have ha1 := s1 _ _ ha
    refine ⟨_, rfl, a, xs, rfl, SqT.of ha1, for_enumT (xs := xs) (fun (k : Nat) (σ : L2.St) (H' : Hp) => ∃ x y, σ = [some (.ref a), some (.ref l), x, y, none] ∧ Same I H' ∧ Same H H' ∧ H' l = some (.lst (ns.map V.str)))
      ⟨_, _, rfl, s1, sH, hl1⟩ (fun k σ H' _ ⟨_, _, _, s, _⟩ => SqT.of (s _ _ ha)) ?_ ?_⟩
    · rintro k y tu σ H2 hy ⟨x4, x5, rfl, s2, sH2, hl2⟩ nT
      obtain ⟨p, hp, b, r, rfl, hb, hrr⟩ := paired_at hP hy
      have pk := ok.ok k p hp
      have hk := get_len hy
      have g3 : Go A0 Same I H2 I (upd H2 tu (.tup [.int (k : Nat), .ref b])) := Go.same fr0 s2 (same_new nT _)
      refine ⟨tu, [.int (k : Nat), .ref b], rfl, SqT.of upd_same, rfl, _, [.ref b], rfl, _, [], rfl, rfl, ?_⟩
      generalize upd H2 tu (.tup [.int (k : Nat), .ref b]) = H3 at g3
      have hb3 := g3.j _ _ hb
      have hr3 := g3.j _ _ hrr
      have hl3 := g3.k l _ (fun z => z) hl2
      refine ⟨_, rfl, b, _, 3, _, rfl, rfl, SqT.of hb3, atI_nat (j := 3) rfl, r, rfl, ⟨_, SqT.of hr3⟩, fun D hD => ?_⟩
      have hlr : (p.rds.map fun r => V.str (SX.S (rdT r))).length = p.rds.length := List.length_map _
      have hpr := pk.r3
      refine lc_goY walk_tup fr0 g3.j hD (Tell fun _ => V.bl false) tell_0 (fun H' k => SqT.of (k r _ (fun z => z) hr3)) (fun _ _ _ _ y => y.1) ?_ ?_
      · rintro m x I4 H4 zs hm ⟨_, hx⟩ g4 hz
        obtain ⟨rd, hrd, rfl⟩ := ys_map_get hx
        have hl4 := g4.k l _ (fun z => z) hl3
        refine ⟨by rw [hz.len]; rw [hlr] at hm; omega, fun Q2 q2 => ?_⟩
        have e1 : ((k : Nat) : Int) + 1 = ((k + 1 : Nat) : Int) := by omega
        refine ⟨_, rfl, _, rfl, _, rfl, _, rfl, _, _, rfl, rfl, _, rfl, l, _, rfl, SqL.of hl4, fun b2 nb2 => ?_⟩
        have hkn : k + 1 ≤ (ns.map V.str).length := by rw [List.length_map]; omega
        have g5 := Go.new fr0 g4.j nb2 (.lst (cutV (ns.map V.str) none (some (((k : Nat) : Int) + 1))))
        have e2 : cutV (ns.map V.str) none (some (((k : Nat) : Int) + 1)) = (ns.take (k + 1)).map V.str := by rw [e1, cut_to hkn, List.map_take]
        refine ⟨_, rd, ns, k, l, b2, rfl, g5.j, ok.mn, ok.nd, pk.ok _ (List.mem_of_getElem? hrd), g5.k l _ (fun z => z) hl4, by rw [upd_same, e2], fun I6 H6 v6 g6 ⟨a6, _, e6, _⟩ => ⟨rfl, ?_⟩⟩
        subst e6
        exact q2 I6 H6 _ (Go.trans fr0 g4.j g5 g6) (hz.snoc rfl)
      intro I4 H4 zs g4 iD hL hz
      refine ⟨D, List.replicate _ false, rfl, SqL.of (by rw [hL, hz, falses]), _, rfl, iteC (any_falses _) ?_⟩
      have g5 := Go.trans fr0 s2 g3 g4
      exact ⟨_, _, rfl, s2.trans fun c u e => g5.k c u (fun z => z) e, sH2.trans fun c u e => g5.k c u (fun z => z) e, g4.k l _ (fun z => z) hl3⟩
    · rintro σ H2 ⟨x4, x5, rfl, s2, sH2, hl2⟩
      exact q H2 sH2
/-! ### a book is made -/
def dcScope : Stmt → Scope
  | .Assign _ (.DictComp _ _ _ sc _) _ => sc
  | _ => ⟨.function, [], false, false, []⟩
abbrev oS_Book___init__ : Scope := dcScope ((defBody s_Book___init__).getD 4 (.Pass ⟨0, 0, 0, 0⟩))
def flB1 (t : Addr) : List (Str × V) := [("held", .ref t)]
abbrev Jt (p : Addr) : Hp → Hp → Prop := J1 p fun _ _ => True
theorem frT (p : Addr) : Fr (A1 p) (Jt p) := fr1 fun _ _ _ h _ => h
def sp_Book___init__ (CC CB : Addr) : Sp := fun vs H Q _ => ∃ (I : Hp) (p dx : Addr) (v : V) (sk : List Pl) (ns : List Str), vs = [.ref p, v] ∧ Jt p I H ∧ H p = some (.ins CB dx []) ∧ PlansAt I v sk ∧ SkOk ns sk ∧ sk ≠ [] ∧
  ∀ I' H' t d kvs, Go (A1 p) (Jt p) I H I' H' → v = .ref t → H' p = some (.ins CB dx (flB t d)) → I' d = some (.dK kvs) → (∀ p ∈ sk, ∃ x, valV kvs (Sum.inr p.name : Key) = some x ∧ RdsOb CC I' x p.rds) → Q .non H'
theorem mk_Book (T : Tx K mg CC CB CK) (c_first_invalid : Fn P w K mg base 8 "first_invalid" (sp_first_invalid)) (c_read_clauses : Fn P w K mg base 6 "read_clauses" (sp_read_clauses CC)) : Mr P w K mg base 9 "Book" CB (sp_Book___init__ CC CB) [] := by
  obtain ⟨f, fd, F, M, hm⟩ := T.k_Book
  refine ⟨f, fd, ["self", "plans"], [], F.ok sc_Book___init__ (fun vs H Q E h => ?_) (fun cdv A outer s H vs Q E hr h => ?_), M, hm, F.bindsN (fun _ _ _ _ _ _ us hl => match us, hl with | [_, _], _ => rfl), .nil⟩
  · obtain ⟨I, p, dx, v, sk, ns, rfl, _⟩ := h
    rfl
  · obtain ⟨I, p, dx, v, sk, ns, rfl, j, hp, ⟨t, xs, rfl, ht, hP⟩, ok, ne, q⟩ := h
    suffices h : ∃ tt, PSs (cxOf CX0 P w K mg base N_Book___init__ "Book.__init__" (defScope s_Book___init__) f cdv A outer s H E).nox (defBody s_Book___init__) tt ∧ tt { nx := fun _ H' => Q .non H', rt := Q } (start N_Book___init__ [.ref p, .ref t]) H by
      obtain ⟨t, h1, h2⟩ := h
      exact ⟨t, h1.nox, h2⟩
    have hxl : xs.length = sk.length := hP.length
    have hn3 := ok.n3
    have hsl := ok.l
    have ht0 := j.1 _ _ ht
    refine ⟨_, (pss_cons (ps_if (PW.pt (pw_or (pt_not (pt_val (pe_callB call_isi (by rfl) T.b_isinstance (by decide +kernel) (pa_cons (pv 1) (pa_cons (pe_bltn (v := .ty "tuple") (by rfl) T.b_tuple (by decide +kernel) rfl) pa_nil))))) (pw_or1 (pt_cmpR op_eq (pe_callB call_len_seq (by rfl) T.b_len (by decide +kernel) (pa_cons (pv 1) pa_nil)) pe_int (nomark _)))))
        (pss_one ps_never)
        pss_nil)
      (pss_cons (ps_set (i := 2) sc_Book___init__.nd rfl (Or.inl rfl) (pe_fn c_first_invalid hr (by decide) (by rfl) (pa_cons (pv 1) pa_nil)))
      (pss_cons (ps_if (pt_cmpR op_notN (pv 2) pe_non (nomark _))
        (pss_one ps_never)
        pss_nil)
      (pss_cons (ps_fld (pv 0) (pv 1) rfl)
      (pss_one (ps_fld (pv 0) (pe_dc (own := [("plan", 3)]) (g := gName 3) (tt := tYes) rfl sc_Book___init__.nd (pi_tup (pv 1)) (blkOk_by (own := [("plan", 3)]) (N := N_Book___init__) (sc := defScope s_Book___init__) (by decide +kernel))
        (fun _ _ _ _ _ => pg_name (i := 3) sc_Book___init__.nd rfl (Or.inl rfl)) (fun _ _ _ _ _ => pts_nil)
        (fun _ _ _ _ _ => (pe_ix (ixK_tup K) (pv 3) pe_int (fun _ _ => rfl))) (fun _ _ _ _ _ => (pe_lc (own := [("text", 4)]) (g := gName 4) (tt := tYes) rfl sc_Book___init__.nd (piK_tup K (pe_ix (ixK_tup K) (pv 3) pe_int (fun _ _ => rfl))) (blkOk_by (own := [("text", 4)]) (N := N_Book___init__) (sc := relS oS_Book___init__ (defScope s_Book___init__)) (by decide +kernel))
        (fun _ _ _ _ _ => pg_name (i := 4) sc_Book___init__.nd rfl (Or.inl rfl)) (fun _ _ _ _ _ => pts_nil)
        (fun _ _ _ _ _ => (pe_fn c_read_clauses hr (by decide) (by rfl) (pa_cons (pv 4) pa_nil)))))) rfl)))))), ?_⟩
    refine ⟨_, rfl, _, _, _, _, true, rfl, .ty "tuple", .base (.tup ht0), kit_ty (by decide +kernel), _, rfl, iteC rfl ?_⟩
    refine ⟨_, rfl, t, xs, rfl, .inr (SqT.of ht0), rfl, _, rfl, iteC (decide_eq_false fun z => ?_) ?_⟩
    · have z := V.int.inj z
      have : 0 < sk.length := List.length_pos_iff.mpr ne
      omega
    refine ⟨_, rfl, I, _, sk, ns, rfl, j.1, ⟨t, xs, rfl, ht, hP⟩, ok, fun H1 s1 => ?_⟩
    have g1 := Go.same (frT p) j s1
    have hp1 := s1 _ _ hp
    refine ⟨_, rfl, rfl, _, rfl, iteC rfl ?_⟩
    refine ⟨_, rfl, _, rfl, p, CB, dx, [], rfl, hp1, T.l_Book, T.n_Book_held, (by show 0 < 1000; decide), ?_⟩
    have g2 := g1.put (o := .ins CB dx (flB1 t)) trivial
    have e2 : putF "held" (V.ref t) [] = flB1 t := by kernel_rfl
    rw [e2]
    have hp2 : (upd H1 p (.ins CB dx (flB1 t))) p = _ := upd_same
    generalize upd H1 p (.ins CB dx (flB1 t)) = H2 at g2 hp2
    have j2 : Same I H2 := g2.j.1
    refine ⟨_, rfl, t, rfl, ⟨xs, SqT.of (j2 _ _ ht)⟩, fun D hD => ?_⟩
    refine dc_tup (xs := xs) (fun (i : Nat) (H' : Hp) => ∃ I' kvs, Go A0 Same I H2 I' H' ∧ I' D = none ∧ H' D = some (.dK kvs) ∧ kvs.length ≤ i ∧
      ∀ m q, m < i → sk[m]? = some q → ∃ x, valV kvs (Sum.inr q.name : Key) = some x ∧ RdsOb CC I' x q.rds) ?_ (fun i H' _ ⟨I', _, g, _⟩ => SqT.of (g.j _ _ (g.s _ _ ht))) ?_ ?_
    · exact ⟨I, [], Go.same fr0 j2 (same_new hD _), j2.free hD, upd_same, Nat.le_refl _, fun m q hm => absurd hm (Nat.not_lt_zero _)⟩
    · rintro i x H3 hx ⟨I3, kvs, g3, iD, hL, hl, hks⟩
      obtain ⟨pl, hpl, b, r, rfl, hb, hrr⟩ := paired_at hP hx
      have pk := ok.ok i pl hpl
      have hi := get_len hx
      have hb3 := g3.j _ _ (g3.s _ _ hb)
      have hr3 := g3.j _ _ (g3.s _ _ hrr)
      refine ⟨rfl, ?_⟩
      refine yes_if ?_
      refine ⟨_, rfl, b, _, 0, _, rfl, rfl, SqT.of hb3, atI_nat (j := 0) rfl, ?_⟩
      refine ⟨_, rfl, b, _, 3, _, rfl, rfl, SqT.of hb3, atI_nat (j := 3) rfl, r, rfl, ⟨_, SqT.of hr3⟩, fun D2 hD2 => ?_⟩
      have hlr : (pl.rds.map fun r => V.str (SX.S (rdT r))).length = pl.rds.length := List.length_map _
      have hpr := pk.r3
      refine lc_goY (m := 4) walk_tup fr0 g3.j hD2 (fun k I' ys => Paired (RdOb CC I') ys (pl.rds.take k)) .nil (fun H' k => SqT.of (k r _ (fun z => z) hr3)) (fun _ _ _ _ y => y.1) ?_ ?_
      · rintro m y I4 H4 ys hm ⟨_, hy⟩ g4 hR
        obtain ⟨rd, hrd, rfl⟩ := ys_map_get hy
        have hyl := hR.length
        rw [List.length_take] at hyl
        refine ⟨by omega, fun Q2 q2 => ⟨_, rfl, I4, rd, ns, i, rfl, g4.j, ok.mn, pk.ok _ (List.mem_of_getElem? hrd), fun I5 H5 v5 g5 hv => q2 I5 H5 v5 g5 ?_⟩⟩
        show Paired (RdOb CC I5) (ys ++ [v5]) (pl.rds.take (m + 1))
        rw [take_snoc hrd]
        exact (hR.mono fun _ _ z => RdOb.mono g5.s z).snoc hv
      intro I4 H4 ys g4 iD2 hL2 hR
      rw [hlr, List.take_length] at hR
      have g5 := g4.fix fr0 hD2 (fun z => z) iD2 hL2
      have hDD : D2 ≠ D := fun e => by rw [e, hL] at hD2; cases hD2
      have hL4 : H4 D = some (.dK kvs) := g4.k D _ (fun z => z) hL
      have iD4 : (upd I4 D2 (.lst ys)) D = none := by
        rw [upd_ne hDD.symm, g4.f D (by rw [hL]; simp)]
        exact iD
      have hv : RdsOb CC (upd I4 D2 (.lst ys)) (.ref D2) pl.rds := ⟨D2, ys, rfl, upd_same, hR.mono fun _ _ z => RdOb.mono (same_new iD2 _) z⟩
      have g6 := Go.trans fr0 j2 g3 g5
      refine ⟨kvs, Sum.inr pl.name, rfl, hL4, Nat.lt_of_le_of_lt hl (Nat.lt_of_lt_of_le (by omega : i < 3) (by decide)), upd I4 D2 (.lst ys), _, g6.chg fr0 hD (fun z => z) iD4, iD4, upd_same, Nat.le_trans (length_putK _ _ _) (by omega), fun m q hm hq => ?_⟩
      rw [valV_put]
      by_cases e : (Sum.inr q.name : Key) = Sum.inr pl.name
      · rw [if_pos e]
        have e2 : m = i := nodup_ix ok.nd (ok.ok m q hq).nm (by rw [Sum.inr.inj e]; exact pk.nm)
        subst e2
        rw [hpl] at hq
        cases hq
        exact ⟨_, rfl, hv⟩
      · rw [if_neg e]
        have hmi : m < i := by
          have : m ≠ i := fun z => by
            subst z
            rw [hpl] at hq
            cases hq
            exact e rfl
          omega
        obtain ⟨x, h1, h2⟩ := hks m q hmi hq
        exact ⟨x, h1, RdsOb.mono g5.s h2⟩
    · rintro H3 ⟨I3, kvs, g3, iD, hL, hl, hks⟩
      have hp3 := g3.k p _ (fun z => z) hp2
      have g4 := g3.fix fr0 hD (fun z => z) iD hL
      have g5 := Go.trans (frT p) j g2 (Go.pure (frT p) g2.j g4)
      refine ⟨_, rfl, p, CB, dx, _, rfl, hp3, T.l_Book, T.n_Book_parsed, (by show 1 < 1000; decide), ?_⟩
      have e3 : putF "parsed" (V.ref D) (flB1 t) = flB t D := by kernel_rfl
      rw [e3]
      refine q _ _ t D kvs (g5.put trivial) rfl upd_same upd_same fun pl hpl => ?_
      obtain ⟨m, hm⟩ := List.getElem?_of_mem hpl
      obtain ⟨x, h1, h2⟩ := hks m pl (by have := get_len hm; omega) hm
      exact ⟨x, h1, RdsOb.mono (same_new iD _) h2⟩
end
end JR
/-! JS: what is counted, in plain Lean. -/
namespace JR
open PySem PySem.Spec PyProof.Rows L2

/-- how many places of a class are below n -/
def below (r s n : Int) : Int := if n ≤ r then 0 else 1 + (n - r - 1) / s
/-- the program's count -/
def between (r s lo hi : Int) : Int := if lo + (r - lo) % s ≥ hi then 0 else (hi - (lo + (r - lo) % s) + s - 1) / s
theorem between_0 {r s n : Int} (h0 : 0 ≤ r) (h1 : r < s) : between r s 0 n = below r s n := by
  unfold between below
  have e : (0 : Int) + (r - 0) % s = r := by
    rw [Int.zero_add, Int.sub_zero]
    exact Int.emod_eq_of_lt h0 h1
  rw [e]
  by_cases h : n ≤ r
  · rw [if_pos h, if_pos h]
  · rw [if_neg h, if_neg (by omega)]
    have e2 : n - r + s - 1 = (n - r - 1) + 1 * s := by omega
    rw [e2, Int.add_mul_ediv_right _ _ (by omega : s ≠ 0)]
    omega
theorem between_far {r s d n : Int} (h0 : 0 ≤ r) (h1 : r < s) (s1 : 1 ≤ s) (s3 : s ≤ 3) (d1 : 1 ≤ d) (d4 : d ≤ 4) (hn : 1 ≤ n) : between r s d n = below r s n - below r s (min d n) := by
  have hs : s = 1 ∨ s = 2 ∨ s = 3 := by omega
  have hd : d = 1 ∨ d = 2 ∨ d = 3 ∨ d = 4 := by omega
  rcases hs with e | e | e <;> subst e
  · obtain rfl : r = 0 := by omega
    unfold between below
    split <;> split <;> split <;> omega
  · have hr : r = 0 ∨ r = 1 := by omega
    rcases hr with e | e <;> subst e <;> rcases hd with e | e | e | e <;> subst e <;> unfold between below <;> split <;> split <;> split <;> omega
  · have hr : r = 0 ∨ r = 1 ∨ r = 2 := by omega
    rcases hr with e | e | e <;> subst e <;> rcases hd with e | e | e | e <;> subst e <;> unfold between below <;> split <;> split <;> split <;> omega
theorem below_max {r s n : Int} (h0 : 0 ≤ r) : below r s (max 0 n) = below r s n := by
  unfold below
  by_cases h : n ≤ r
  · rw [if_pos h, if_pos (by omega)]
  · rw [if_neg h, if_neg (by omega), show max 0 n = n by omega]
theorem below_nn {r s n : Int} (h1 : 0 < s) : 0 ≤ below r s n := by
  unfold below
  split
  · exact Int.le_refl 0
  · have := Int.ediv_nonneg (a := n - r - 1) (b := s) (by omega) (by omega)
    omega
theorem below_le {r s n : Int} (h0 : 0 ≤ r) (h1 : 0 < s) (hn : 0 ≤ n) : below r s n ≤ n := by
  unfold below
  split
  · exact hn
  · have := Int.ediv_le_self (a := n - r - 1) s (by omega)
    omega
theorem below_one {n : Int} (h : 0 ≤ n) : below 0 1 n = n := by
  unfold below
  split
  · omega
  · rw [Int.ediv_one]
    omega
theorem below_half {r s n : Int} (h0 : 0 ≤ r) (h2 : 2 ≤ s) (hn : 1 ≤ n) : 2 * (below r s n - 1) ≤ n - 1 := by
  unfold below
  split
  · omega
  · have hq := Int.ediv_nonneg (a := n - r - 1) (b := s) (by omega) (by omega)
    have h3 := Int.ediv_mul_le (n - r - 1) (b := s) (by omega)
    have h4 := Int.mul_le_mul_of_nonneg_left h2 hq
    omega

/-! ### plain rows, clauses, rounds, plans -/
def dueLen (gw : Str) (gk : Nat) (k : Nat) : Int := if gw = "last" then min ((k : Int) + 1) gk else if gw = "all" then (k : Int) + 1 else k
def plainL (gw : Str) (gk : Nat) (n : Int) : List Int := (List.range n.toNat).map fun k => max 0 (dueLen gw gk k - 1)
def mx (l : List Int) : Int := l.foldl max 0
def clJoins (c : Cl) (n : Int) : Int :=
  if c.w = "join" then (if c.side = "left" then below c.rest c.step n - below c.rest c.step (min c.far n) else below c.rest c.step (max 0 (n - c.far))) else 0
abbrev Sf : Type := Str → Int → Int × Int
def clauseS (S : Sf) (c : Cl) (n : Int) : Int × Int :=
  if c.w = "call" then (if below c.rest c.step n = 0 then (0, 0) else S c.lab (below c.rest c.step n)) else (clJoins c n, 1)
def roundS (S : Sf) (r : List Cl) (n : Int) : Int × Int := ((r.map fun c => (clauseS S c n).1).sum, mx (r.map fun c => (clauseS S c n).2))
def roundsS (S : Sf) (rs : List (List Cl)) (n : Int) : Int × Int := ((rs.map fun r => (roundS S r n).1).sum, (rs.map fun r => (roundS S r n).2).sum)
def planP (S : Sf) (p : Pl) (n : Int) : Int × Int := if n ≤ p.base then ((plainL p.gw p.gk n).sum, mx (plainL p.gw p.gk n)) else roundsS S p.rds n
def planS (sk : List Pl) (S : Sf) : Sf := fun nm n => match sk.find? (fun p => decide (p.name = nm)) with
  | none => (0, 0)
  | some p => planP S p n
def spF (sk : List Pl) : Nat → Sf
  | 0 => fun _ _ => (0, 0)
  | d + 1 => planS sk (spF sk d)
/-- joins and rounds -/
def spent (sk : List Pl) : Sf := spF sk 130

/-! ### depth -/
def bl (m : Nat) : Nat := if m = 0 then 0 else m.log2 + 1
theorem bl_half {m k : Nat} (h : 1 ≤ m) (hk : 2 * k ≤ m) : bl k + 1 ≤ bl m := by
  unfold bl
  rw [if_neg (show ¬ m = 0 by omega)]
  by_cases hk0 : k = 0
  · rw [if_pos hk0]
    omega
  · rw [if_neg hk0]
    have h1 : 2 ^ k.log2 ≤ k := Nat.log2_self_le hk0
    have h2 : 2 ^ (k.log2 + 1) ≤ m := by rw [Nat.pow_succ]; omega
    have := (Nat.le_log2 (by omega)).mpr h2
    omega
theorem bl_le {m k : Nat} (h : m < 2 ^ k) : bl m ≤ k := by
  unfold bl
  split
  · omega
  · rename_i hm
    have := (Nat.log2_lt hm).mpr h
    omega
def dep (n : Int) (i : Nat) : Nat := 3 * bl (n - 1).toNat + (2 - i)
theorem find_at {sk : List Pl} {ns : List Str} (ok : SkOk ns sk) {i : Nat} {p : Pl} (h : sk[i]? = some p) : sk.find? (fun q => decide (q.name = p.name)) = some p := by
  obtain ⟨hi, e⟩ := List.getElem?_eq_some_iff.mp h
  have : sk.find? (fun q => decide (q.name = p.name)) = some sk[i] := by
    rw [List.find?_eq_some_iff_getElem]
    refine ⟨by rw [e]; simp, i, hi, rfl, fun j hj => ?_⟩
    have hj2 : sk[j]? = some sk[j] := List.getElem?_eq_getElem (by omega)
    have a := (ok.ok i p h).nm
    have b := (ok.ok j _ hj2).nm
    have : sk[j].name ≠ p.name := fun z => by
      rw [z] at b
      have := nodup_ix ok.nd a b
      omega
    simp [this]
  rw [this, e]
/-- what a clause of a plan asks next -/
theorem clause_next {ns : List Str} {sk : List Pl} (ok : SkOk ns sk) {i : Nat} {c : Cl} (hc : ClOk ns i c) (hw : c.w = "call") {n : Int} (hn : 2 ≤ n) (hm : below c.rest c.step n ≠ 0) :
    ∃ j, ns[j]? = some c.lab ∧ 1 ≤ below c.rest c.step n ∧ below c.rest c.step n ≤ n ∧ dep (below c.rest c.step n) j < dep n i ∧ (c.step = 1 → below c.rest c.step n = n) ∧ (c.step ≠ 1 → bl (below c.rest c.step n - 1).toNat + 1 ≤ bl (n - 1).toNat) := by
  obtain ⟨hl, h1⟩ : c.lab ∈ ns ∧ (c.step = 1 → ns[i + 1]? = some c.lab) := by
    rcases hc.kd with ⟨_, _, _, h1, h2⟩ | ⟨e, _⟩
    · exact ⟨h1, h2⟩
    · rw [hw] at e
      rcases e with e | e | e <;> exact absurd e (by decide +kernel)
  have s1 := hc.s1
  have s3 := hc.s3
  have hr := hc.r
  have nn := below_nn (r := c.rest) (n := n) (s := c.step) (by omega)
  have le := below_le (r := c.rest) (n := n) (s := c.step) (by omega) (by omega) (by omega)
  by_cases hs : c.step = 1
  · have e : below c.rest c.step n = n := by
      have hr0 : c.rest = 0 := by omega
      rw [hs, hr0]
      exact below_one (by omega)
    have hj := h1 hs
    have := get_len' hj
    have n3 := ok.n3
    refine ⟨i + 1, hj, by omega, le, ?_, fun _ => e, fun z => absurd hs z⟩
    rw [e]
    unfold dep
    omega
  · obtain ⟨j, hj⟩ := List.getElem?_of_mem hl
    have hf := below_half (r := c.rest) (s := c.step) (n := n) (by omega) (by omega) (by omega)
    have hb := bl_half (m := (n - 1).toNat) (k := (below c.rest c.step n - 1).toNat) (by omega) (by omega)
    refine ⟨j, hj, by omega, le, ?_, fun z => absurd z hs, fun _ => hb⟩
    unfold dep
    omega
where get_len' {α : Type} {xs : List α} {i : Nat} {x : α} (h : xs[i]? = some x) : i < xs.length := (List.getElem?_eq_some_iff.mp h).1
/-! ### the fuel does not matter -/
theorem roundsS_congr {S S' : Sf} {rs : List (List Cl)} {n : Int} (h : ∀ r ∈ rs, ∀ c ∈ r, clauseS S c n = clauseS S' c n) : roundsS S rs n = roundsS S' rs n := by
  have hr : ∀ r ∈ rs, roundS S r n = roundS S' r n := fun r hr => by
    unfold roundS
    have e1 : (r.map fun c => (clauseS S c n).1) = r.map fun c => (clauseS S' c n).1 := List.map_congr_left fun c hc => by rw [h r hr c hc]
    have e2 : (r.map fun c => (clauseS S c n).2) = r.map fun c => (clauseS S' c n).2 := List.map_congr_left fun c hc => by rw [h r hr c hc]
    rw [e1, e2]
  unfold roundsS
  have e1 : (rs.map fun r => (roundS S r n).1) = rs.map fun r => (roundS S' r n).1 := List.map_congr_left fun r hr' => by rw [hr r hr']
  have e2 : (rs.map fun r => (roundS S r n).2) = rs.map fun r => (roundS S' r n).2 := List.map_congr_left fun r hr' => by rw [hr r hr']
  rw [e1, e2]
theorem spF_fuel {ns : List Str} {sk : List Pl} (ok : SkOk ns sk) : ∀ (d e : Nat) (i : Nat) (p : Pl) (n : Int), sk[i]? = some p → 1 ≤ n → dep n i < d → dep n i < e → spF sk d p.name n = spF sk e p.name n
  | 0, _, _, _, _, _, _, h, _ => absurd h (Nat.not_lt_zero _)
  | _ + 1, 0, _, _, _, _, _, _, h => absurd h (Nat.not_lt_zero _)
  | d + 1, e + 1, i, p, n, hp, hn, hd, he => by
    show planS sk (spF sk d) p.name n = planS sk (spF sk e) p.name n
    unfold planS
    rw [find_at ok hp]
    show planP (spF sk d) p n = planP (spF sk e) p n
    unfold planP
    by_cases hb : n ≤ p.base
    · rw [if_pos hb, if_pos hb]
    · rw [if_neg hb, if_neg hb]
      have pk := ok.ok i p hp
      have hb1 := pk.b1
      refine roundsS_congr fun r hr c hc => ?_
      unfold clauseS
      by_cases hw : c.w = "call"
      · rw [if_pos hw, if_pos hw]
        by_cases hm : below c.rest c.step n = 0
        · rw [if_pos hm, if_pos hm]
        · rw [if_neg hm, if_neg hm]
          obtain ⟨j, hj, m1, _, hd2, _⟩ := clause_next ok ((pk.ok r hr).ok c hc) hw (n := n) (by omega) hm
          have hjl : j < sk.length := by rw [ok.l]; exact (List.getElem?_eq_some_iff.mp hj).1
          have hq : sk[j]? = some sk[j] := List.getElem?_eq_getElem hjl
          have e1 := (ok.ok j _ hq).nm
          rw [hj] at e1
          rw [Option.some.inj e1]
          exact spF_fuel ok d e j _ _ hq m1 (by omega) (by omega)
      · rw [if_neg hw, if_neg hw]
theorem dep_le {n : Int} (i : Nat) (h : n ≤ 2 ^ 40) : dep n i ≤ 122 := by
  have := bl_le (m := (n - 1).toNat) (k := 40) (by omega)
  unfold dep
  omega
/-- the equation -/
theorem spent_eq {ns : List Str} {sk : List Pl} (ok : SkOk ns sk) {i : Nat} {p : Pl} {n : Int} (hp : sk[i]? = some p) (hn : 1 ≤ n) (h40 : n ≤ 2 ^ 40) : spent sk p.name n = planP (spent sk) p n := by
  have h := dep_le i h40
  have e := spF_fuel ok 131 130 i p n hp hn (by omega) (by omega)
  have e2 : spF sk 131 p.name n = planS sk (spF sk 130) p.name n := rfl
  unfold spent
  rw [← e, e2]
  unfold planS
  rw [find_at ok hp]
/-! ### greatest values, bounds -/
theorem foldl_max (l : List Int) : ∀ a : Int, a ≤ l.foldl max a ∧ (∀ y ∈ l, y ≤ l.foldl max a) ∧ (l.foldl max a = a ∨ l.foldl max a ∈ l) := by
  induction l with
  | nil => exact fun a => ⟨Int.le_refl _, fun y h => by simp at h, .inl rfl⟩
  | cons x r ih =>
    intro a
    obtain ⟨h1, h2, h3⟩ := ih (max a x)
    refine ⟨by show a ≤ r.foldl max (max a x); omega, fun y hy => ?_, ?_⟩
    · rcases List.mem_cons.mp hy with e | e
      · subst e
        show y ≤ r.foldl max (max a y)
        omega
      · exact h2 y e
    · show r.foldl max (max a x) = a ∨ r.foldl max (max a x) ∈ x :: r
      rcases h3 with e | e
      · rw [e]
        by_cases hx : a ≤ x
        · right
          rw [show max a x = x by omega]
          exact List.mem_cons_self
        · left
          omega
      · exact .inr (List.mem_cons_of_mem _ e)
theorem mx_is {l : List Int} {m : Int} (h : m ∈ l) (hm : ∀ y ∈ l, y ≤ m) (nn : ∀ y ∈ l, 0 ≤ y) : m = mx l := by
  obtain ⟨h1, h2, h3⟩ := foldl_max l 0
  have a := h2 m h
  have b := nn m h
  unfold mx
  rcases h3 with e | e
  · omega
  · have := hm _ e
    omega
theorem mx_nn (l : List Int) : 0 ≤ mx l := (foldl_max l 0).1
theorem mx_le {l : List Int} {b : Int} (hb : 0 ≤ b) (h : ∀ y ∈ l, y ≤ b) : mx l ≤ b := by
  rcases (foldl_max l 0).2.2 with e | e
  · unfold mx
    omega
  · exact h _ e
theorem mx_ones {l : List Int} (ne : l ≠ []) (h : ∀ y ∈ l, y = 1) : mx l = 1 := by
  cases l with
  | nil => exact absurd rfl ne
  | cons x r =>
    have e := h x List.mem_cons_self
    subst e
    exact (mx_is List.mem_cons_self (fun y hy => by rw [h y hy]; exact Int.le_refl 1) (fun y hy => by rw [h y hy]; decide)).symm
theorem sum_nn {l : List Int} (h : ∀ y ∈ l, 0 ≤ y) : 0 ≤ l.sum := by
  induction l with
  | nil => simp
  | cons x r ih =>
    rw [List.sum_cons]
    have := h x List.mem_cons_self
    have := ih fun y hy => h y (List.mem_cons_of_mem _ hy)
    omega
theorem sum_le {l : List Int} {b : Int} (h : ∀ y ∈ l, y ≤ b) : l.sum ≤ (l.length : Int) * b := by
  induction l with
  | nil => simp
  | cons x r ih =>
    rw [List.sum_cons, List.length_cons]
    have h1 := h x List.mem_cons_self
    have h2 := ih fun y hy => h y (List.mem_cons_of_mem _ hy)
    have e : ((r.length + 1 : Nat) : Int) * b = (r.length : Int) * b + b := by
      rw [show ((r.length + 1 : Nat) : Int) = (r.length : Int) + 1 by omega, Int.add_mul, Int.one_mul]
    omega
theorem clJoins_bd {ns : List Str} {i : Nat} {c : Cl} (hc : ClOk ns i c) {n : Int} (hn : 1 ≤ n) : 0 ≤ clJoins c n ∧ clJoins c n ≤ n := by
  have s1 := hc.s1
  have s3 := hc.s3
  have hr := hc.r
  unfold clJoins
  split
  · rename_i hw
    obtain ⟨f1, f4⟩ : 1 ≤ c.far ∧ c.far ≤ 4 := by
      rcases hc.kd with ⟨e, _⟩ | ⟨_, _, h1, h2, _⟩
      · rw [hw] at e
        exact absurd e (by decide +kernel)
      · exact ⟨h1, h2⟩
    split
    · have e := between_far (r := c.rest) (s := c.step) (d := c.far) (n := n) (by omega) (by omega) (by omega) (by omega) (by omega) (by omega) hn
      have h1 := below_le (r := c.rest) (s := c.step) (n := n) (by omega) (by omega) (by omega)
      have h2 := below_nn (r := c.rest) (s := c.step) (n := min c.far n) (by omega)
      refine ⟨?_, by omega⟩
      rw [← e]
      unfold between
      split
      · exact Int.le_refl 0
      · exact Int.ediv_nonneg (by omega) (by omega)
    · have h1 := below_le (r := c.rest) (s := c.step) (n := max 0 (n - c.far)) (by omega) (by omega) (by omega)
      have h2 := below_nn (r := c.rest) (s := c.step) (n := max 0 (n - c.far)) (by omega)
      omega
  · omega
theorem plainL_bd {gw : Str} {gk : Nat} {n : Int} (hn : n ≤ 4) : (∀ y ∈ plainL gw gk n, 0 ≤ y ∧ y ≤ 4) ∧ (plainL gw gk n).length = n.toNat := by
  refine ⟨fun y hy => ?_, by simp [plainL]⟩
  unfold plainL at hy
  obtain ⟨k, hk, e⟩ := List.mem_map.mp hy
  rw [List.mem_range] at hk
  subst e
  have : dueLen gw gk k ≤ (k : Int) + 1 := by
    unfold dueLen
    split
    · omega
    · split <;> omega
  omega
theorem ten_pos (d : Nat) : (1 : Int) ≤ 20 ^ d := by
  induction d with
  | zero => decide
  | succ d ih =>
    rw [Int.pow_succ]
    omega
/-- the values stay within these -/
theorem spF_bd {ns : List Str} {sk : List Pl} (ok : SkOk ns sk) : ∀ (d : Nat) (i : Nat) (p : Pl) (n : Int), sk[i]? = some p → 1 ≤ n → n ≤ 2 ^ 40 →
    (0 ≤ (spF sk d p.name n).1 ∧ (spF sk d p.name n).1 ≤ 20 ^ d * 10 ^ 13) ∧ (0 ≤ (spF sk d p.name n).2 ∧ (spF sk d p.name n).2 ≤ 20 ^ d * 10 ^ 13)
  | 0, _, _, _, _, _, _ => by
    have e : (0 : Int) ≤ 20 ^ 0 * 10 ^ 13 := by decide
    exact ⟨⟨Int.le_refl 0, e⟩, Int.le_refl 0, e⟩
  | d + 1, i, p, n, hp, hn, h40 => by
    have big : (10 : Int) ^ 13 ≤ 20 ^ d * 10 ^ 13 := by
      have : (1 : Int) ≤ 20 ^ d := ten_pos d
      have := Int.mul_le_mul_of_nonneg_right this (show (0 : Int) ≤ 10 ^ 13 by decide)
      omega
    have e10 : (20 : Int) ^ (d + 1) * 10 ^ 13 = 20 * (20 ^ d * 10 ^ 13) := by
      rw [Int.pow_succ, Int.mul_comm (20 ^ d) 20, Int.mul_assoc]
    have e13 : (10 : Int) ^ 13 = 10000000000000 := by decide
    show (0 ≤ (planS sk (spF sk d) p.name n).1 ∧ (planS sk (spF sk d) p.name n).1 ≤ _) ∧ (0 ≤ (planS sk (spF sk d) p.name n).2 ∧ (planS sk (spF sk d) p.name n).2 ≤ _)
    unfold planS
    rw [find_at ok hp]
    show (0 ≤ (planP (spF sk d) p n).1 ∧ (planP (spF sk d) p n).1 ≤ _) ∧ (0 ≤ (planP (spF sk d) p n).2 ∧ (planP (spF sk d) p n).2 ≤ _)
    rw [e10]
    generalize hB : (20 : Int) ^ d * 10 ^ 13 = B at big
    have pk := ok.ok i p hp
    unfold planP
    by_cases hb : n ≤ p.base
    · rw [if_pos hb]
      have hb4 := pk.b4
      obtain ⟨h1, h2⟩ := plainL_bd (gw := p.gw) (gk := p.gk) (n := n) (by omega)
      have h3 := sum_nn fun y hy => (h1 y hy).1
      have h4 := sum_le fun y hy => (h1 y hy).2
      have h5 := mx_le (b := 4) (by decide) fun y hy => (h1 y hy).2
      have h6 := mx_nn (plainL p.gw p.gk n)
      refine ⟨⟨h3, ?_⟩, h6, ?_⟩ <;> · show _ ≤ _; omega
    · rw [if_neg hb]
      have hb1 := pk.b1
      have hcl : ∀ r ∈ p.rds, ∀ c ∈ r, (0 ≤ (clauseS (spF sk d) c n).1 ∧ (clauseS (spF sk d) c n).1 ≤ B) ∧ (0 ≤ (clauseS (spF sk d) c n).2 ∧ (clauseS (spF sk d) c n).2 ≤ B) := fun r hr c hc => by
        unfold clauseS
        by_cases hw : c.w = "call"
        · rw [if_pos hw]
          by_cases hm : below c.rest c.step n = 0
          · rw [if_pos hm]
            exact ⟨⟨Int.le_refl 0, by show (0 : Int) ≤ B; omega⟩, Int.le_refl 0, by show (0 : Int) ≤ B; omega⟩
          · rw [if_neg hm]
            obtain ⟨j, hj, m1, hle, _⟩ := clause_next ok ((pk.ok r hr).ok c hc) hw (n := n) (by omega) hm
            have hjl : j < sk.length := by rw [ok.l]; exact (List.getElem?_eq_some_iff.mp hj).1
            have hq : sk[j]? = some sk[j] := List.getElem?_eq_getElem hjl
            have e1 := (ok.ok j _ hq).nm
            rw [hj] at e1
            rw [Option.some.inj e1]
            have := spF_bd ok d j _ _ hq m1 (by omega)
            rw [hB] at this
            exact this
        · rw [if_neg hw]
          have := clJoins_bd ((pk.ok r hr).ok c hc) hn
          refine ⟨⟨this.1, ?_⟩, by show (0 : Int) ≤ 1; decide, ?_⟩
          · show clJoins c n ≤ B
            omega
          · show (1 : Int) ≤ B
            omega
      have hrd : ∀ r ∈ p.rds, (0 ≤ (roundS (spF sk d) r n).1 ∧ (roundS (spF sk d) r n).1 ≤ 3 * B) ∧ (0 ≤ (roundS (spF sk d) r n).2 ∧ (roundS (spF sk d) r n).2 ≤ B) := fun r hr => by
        have l3 := (pk.ok r hr).l3
        have h1 : ∀ y ∈ r.map (fun c => (clauseS (spF sk d) c n).1), 0 ≤ y ∧ y ≤ B := fun y hy => by
          obtain ⟨c, hc, e⟩ := List.mem_map.mp hy
          subst e
          exact (hcl r hr c hc).1
        have h2 : ∀ y ∈ r.map (fun c => (clauseS (spF sk d) c n).2), 0 ≤ y ∧ y ≤ B := fun y hy => by
          obtain ⟨c, hc, e⟩ := List.mem_map.mp hy
          subst e
          exact (hcl r hr c hc).2
        have a := sum_nn fun y hy => (h1 y hy).1
        have b := sum_le fun y hy => (h1 y hy).2
        rw [List.length_map] at b
        have l3' : (r.length : Int) ≤ 3 := by omega
        have := Int.mul_le_mul_of_nonneg_right l3' (show (0 : Int) ≤ B by omega)
        exact ⟨⟨a, by show (r.map fun c => (clauseS (spF sk d) c n).1).sum ≤ 3 * B; omega⟩, mx_nn _, mx_le (by omega) fun y hy => (h2 y hy).2⟩
      have l3 := pk.r3
      have h1 : ∀ y ∈ p.rds.map (fun r => (roundS (spF sk d) r n).1), 0 ≤ y ∧ y ≤ 3 * B := fun y hy => by
        obtain ⟨c, hc, e⟩ := List.mem_map.mp hy
        subst e
        exact (hrd c hc).1
      have h2 : ∀ y ∈ p.rds.map (fun r => (roundS (spF sk d) r n).2), 0 ≤ y ∧ y ≤ B := fun y hy => by
        obtain ⟨c, hc, e⟩ := List.mem_map.mp hy
        subst e
        exact (hrd c hc).2
      have a1 := sum_nn fun y hy => (h1 y hy).1
      have b1 := sum_le fun y hy => (h1 y hy).2
      have a2 := sum_nn fun y hy => (h2 y hy).1
      have b2 := sum_le fun y hy => (h2 y hy).2
      rw [List.length_map] at b1 b2
      have l3' : (p.rds.length : Int) ≤ 4 := by omega
      have c1 := Int.mul_le_mul_of_nonneg_right l3' (show (0 : Int) ≤ 3 * B by omega)
      have c2 := Int.mul_le_mul_of_nonneg_right l3' (show (0 : Int) ≤ B by omega)
      refine ⟨⟨a1, ?_⟩, a2, ?_⟩
      · show (p.rds.map fun r => (roundS (spF sk d) r n).1).sum ≤ 20 * B
        omega
      · show (p.rds.map fun r => (roundS (spF sk d) r n).2).sum ≤ 20 * B
        omega
theorem spent_bd {ns : List Str} {sk : List Pl} (ok : SkOk ns sk) {i : Nat} {p : Pl} {n : Int} (hp : sk[i]? = some p) (hn : 1 ≤ n) (h40 : n ≤ 2 ^ 40) :
    0 ≤ (spent sk p.name n).1 ∧ 0 ≤ (spent sk p.name n).2 ∧ (spent sk p.name n).1.natAbs.log2 < 1920 ∧ (spent sk p.name n).2.natAbs.log2 < 1920 := by
  have key : ∀ x : Int, 0 ≤ x → x ≤ 20 ^ 130 * 10 ^ 13 → x.natAbs.log2 < 1920 := fun x h0 h1 => by
    by_cases hx : x.natAbs = 0
    · rw [hx]
      decide
    · refine (Nat.log2_lt hx).mpr ?_
      have h2 : x.natAbs ≤ 20 ^ 130 * 10 ^ 13 := by
        have e : (20 : Int) ^ 130 * 10 ^ 13 = ((20 ^ 130 * 10 ^ 13 : Nat) : Int) := by decide +kernel
        rw [e] at h1
        omega
      exact Nat.lt_of_le_of_lt h2 (by decide +kernel)
  obtain ⟨⟨a, b⟩, c, d⟩ := spF_bd ok 130 i p n hp hn h40
  exact ⟨a, c, key _ a b, key _ c d⟩
end JR
/-! JK: what is kept of lesser lengths: which lengths come up, the dict of them, its frame. -/
namespace JR
open PySem PySem.Spec PyProof.Rows L2
/-- the lengths that come up from N -/
def Rch (N n : Int) : Prop := 1 ≤ n ∧ ∃ a b : Nat, a + b + bl (n - 1).toNat ≤ 40 ∧ N - 2 ^ a * 3 ^ b < n * (2 ^ a * 3 ^ b) ∧ n * (2 ^ a * 3 ^ b) < N + 2 ^ a * 3 ^ b
def RchL (Ns : List Int) (n : Int) : Prop := ∃ N ∈ Ns, Rch N n
theorem rch_0 {N : Int} (h : 1 ≤ N) (h40 : N ≤ 2 ^ 40) : Rch N N := by
  refine ⟨h, 0, 0, ?_, ?_, ?_⟩
  · have := bl_le (m := (N - 1).toNat) (k := 40) (by omega)
    omega
  · show N - 1 * 1 < N * (1 * 1)
    omega
  · show N * (1 * 1) < N + 1 * 1
    omega
theorem pow_pos_i (c : Int) (hc : 1 ≤ c) (a : Nat) : 1 ≤ c ^ a := by
  induction a with
  | zero =>
    rw [Int.pow_zero]
    exact Int.le_refl 1
  | succ a ih =>
    rw [Int.pow_succ]
    have := Int.mul_le_mul_of_nonneg_right ih (show (0 : Int) ≤ c by omega)
    omega
theorem m_pos (a b : Nat) : (1 : Int) ≤ 2 ^ a * 3 ^ b := by
  have h1 := pow_pos_i 2 (by decide) a
  have h2 := pow_pos_i 3 (by decide) b
  have := Int.mul_le_mul_of_nonneg_right h1 (show (0 : Int) ≤ 3 ^ b by omega)
  omega
theorem below_near {r s n : Int} (h0 : 0 ≤ r) (hr : r < s) (hs : s = 2 ∨ s = 3) (hn : 1 ≤ n) : n - s < s * below r s n ∧ s * below r s n < n + s := by
  unfold below
  rcases hs with e | e <;> subst e <;> split <;> omega
theorem rch_step {N n r s : Int} (h0 : 0 ≤ r) (hr : r < s) (hs : s = 2 ∨ s = 3) (h : Rch N n) (hb : bl (below r s n - 1).toNat + 1 ≤ bl (n - 1).toNat) (h1 : 1 ≤ below r s n) : Rch N (below r s n) := by
  obtain ⟨n1, a, b, hl, x1, x2⟩ := h
  obtain ⟨y1, y2⟩ := below_near h0 hr hs n1
  have hm := m_pos a b
  refine ⟨h1, ?_⟩
  generalize below r s n = q at *
  have e : ∀ m : Int, q * (s * m) = (s * q) * m := fun m => by rw [← Int.mul_assoc, Int.mul_comm q s]
  have key : ∀ m : Int, 1 ≤ m → N - m < n * m → n * m < N + m → N - s * m < q * (s * m) ∧ q * (s * m) < N + s * m := fun m hm x1 x2 => by
    rw [e]
    have z1 := Int.mul_le_mul_of_nonneg_right (show n - s + 1 ≤ s * q by omega) (show (0 : Int) ≤ m by omega)
    have z2 := Int.mul_le_mul_of_nonneg_right (show s * q ≤ n + s - 1 by omega) (show (0 : Int) ≤ m by omega)
    rw [Int.add_mul, Int.sub_mul, Int.one_mul] at z1
    rw [Int.sub_mul, Int.add_mul, Int.one_mul] at z2
    omega
  obtain ⟨k1, k2⟩ := key _ hm x1 x2
  rcases hs with es | es
  · subst es
    have e2 : (2 : Int) ^ (a + 1) * 3 ^ b = 2 * (2 ^ a * 3 ^ b) := by rw [Int.pow_succ, Int.mul_comm (2 ^ a) 2, Int.mul_assoc]
    exact ⟨a + 1, b, by omega, by rw [e2]; exact k1, by rw [e2]; exact k2⟩
  · subst es
    have e3 : (2 : Int) ^ a * 3 ^ (b + 1) = 3 * (2 ^ a * 3 ^ b) := by rw [Int.pow_succ, ← Int.mul_assoc, Int.mul_comm]
    exact ⟨a, b + 1, by omega, by rw [e3]; exact k1, by rw [e3]; exact k2⟩
/-- what a call clause asks is a length that comes up -/
theorem rch_call {Ns : List Int} {c : Cl} {n : Int} (s1 : 1 ≤ c.step) (s3 : c.step ≤ 3) (hr : c.rest < c.step) (h : RchL Ns n) (m1 : 1 ≤ below c.rest c.step n) (e1 : c.step = 1 → below c.rest c.step n = n)
    (e2 : c.step ≠ 1 → bl (below c.rest c.step n - 1).toNat + 1 ≤ bl (n - 1).toNat) : RchL Ns (below c.rest c.step n) := by
  obtain ⟨N, hN, h⟩ := h
  refine ⟨N, hN, ?_⟩
  by_cases hs : c.step = 1
  · rw [e1 hs]
    exact h
  · exact rch_step (by omega) (by omega) (by omega) h (e2 hs) m1
/-- there are not many -/
def rchs (N : Int) : List Int := (List.range 41).flatMap fun a => (List.range 41).flatMap fun b => [N / (2 ^ a * 3 ^ b), N / (2 ^ a * 3 ^ b) + 1]
theorem rch_in {N n : Int} (h : Rch N n) : n ∈ rchs N := by
  obtain ⟨_, a, b, hl, x1, x2⟩ := h
  have hm := m_pos a b
  refine List.mem_flatMap.mpr ⟨a, List.mem_range.mpr (by omega), List.mem_flatMap.mpr ⟨b, List.mem_range.mpr (by omega), ?_⟩⟩
  generalize (2 : Int) ^ a * 3 ^ b = m at *
  have d1 := Int.ediv_mul_le N (b := m) (by omega)
  have d2 := Int.lt_ediv_add_one_mul_self N (show 0 < m by omega)
  generalize N / m = q at *
  have h1 : n ≤ q + 1 := by
    refine Int.le_of_lt_add_one (Int.lt_of_mul_lt_mul_right (a := m) ?_ (by omega))
    rw [Int.add_mul, Int.one_mul] at d2
    rw [Int.add_mul, Int.add_mul, Int.one_mul]
    omega
  have h2 : q ≤ n := by
    refine Int.le_of_lt_add_one (Int.lt_of_mul_lt_mul_right (a := m) ?_ (by omega))
    rw [Int.add_mul, Int.one_mul]
    omega
  rw [List.mem_cons, List.mem_singleton]
  omega
theorem len_flat {α β : Type} (f : α → List β) (k : Nat) : ∀ l : List α, (∀ x ∈ l, (f x).length = k) → (l.flatMap f).length = l.length * k
  | [], _ => by simp
  | x :: r, h => by
    rw [List.flatMap_cons, List.length_append, h x List.mem_cons_self, len_flat f k r fun y hy => h y (List.mem_cons_of_mem _ hy), List.length_cons, Nat.succ_mul, Nat.add_comm]
theorem rchs_len (N : Int) : (rchs N).length = 3362 := by
  unfold rchs
  rw [len_flat _ 82 _ fun a _ => by rw [len_flat _ 2 _ fun b _ => rfl, List.length_range], List.length_range]
/-- the keys -/
abbrev ky (nm : Str) (n : Int) : List Key := [Sum.inr nm, Sum.inl n]
def keysOf (ns : List Str) (Ns : List Int) : List (List Key) := ns.flatMap fun nm => Ns.flatMap fun N => (rchs N).map (ky nm)
theorem keys_len (ns : List Str) (Ns : List Int) : (keysOf ns Ns).length = ns.length * (Ns.length * 3362) := by
  unfold keysOf
  rw [len_flat _ (Ns.length * 3362) _ fun nm _ => len_flat _ 3362 _ fun N _ => by rw [List.length_map, rchs_len]]
theorem ky_in {ns : List Str} {Ns : List Int} {nm : Str} {n : Int} (h : nm ∈ ns) (hr : RchL Ns n) : ky nm n ∈ keysOf ns Ns := by
  obtain ⟨N, hN, h2⟩ := hr
  exact List.mem_flatMap.mpr ⟨nm, h, List.mem_flatMap.mpr ⟨N, hN, List.mem_map.mpr ⟨n, rch_in h2, rfl⟩⟩⟩
theorem nodup_len {α : Type} [DecidableEq α] : ∀ {l m : List α}, l.Nodup → (∀ x ∈ l, x ∈ m) → l.length ≤ m.length
  | [], _, _, _ => Nat.zero_le _
  | x :: r, m, nd, h => by
    have hx := h x List.mem_cons_self
    obtain ⟨n1, n2⟩ := List.nodup_cons.mp nd
    have := nodup_len (l := r) (m := m.erase x) n2 fun y hy => (List.mem_erase_of_ne fun e => n1 (by rw [← e]; exact hy)).mpr (h y (List.mem_cons_of_mem _ hy))
    rw [List.length_erase_of_mem hx] at this
    have : 0 < m.length := List.length_pos_of_mem hx
    rw [List.length_cons]
    omega
/-! ### the dict -/
def PrAt (I : Hp) (v : V) (x : Int × Int) : Prop := ∃ t, v = .ref t ∧ I t = some (.tup [.int x.1, .int x.2])
theorem PrAt.mono {I I' : Hp} (s : Same I I') {v : V} {x : Int × Int} (h : PrAt I v x) : PrAt I' v x := by
  obtain ⟨t, e, h⟩ := h
  exact ⟨t, e, s _ _ h⟩
structure Kn (sk : List Pl) (ns : List Str) (Ns : List Int) (I : Hp) (kvs : List (List Key × V)) : Prop where
  nd : (kvs.map (·.1)).Nodup
  ok : ∀ e ∈ kvs, ∃ nm n, e.1 = ky nm n ∧ nm ∈ ns ∧ RchL Ns n ∧ PrAt I e.2 (spent sk nm n)
theorem kn_0 {sk : List Pl} {ns : List Str} {Ns : List Int} {I : Hp} : Kn sk ns Ns I [] := ⟨List.nodup_nil, fun e h => by simp at h⟩
theorem Kn.mono {sk : List Pl} {ns : List Str} {Ns : List Int} {I I' : Hp} {kvs : List (List Key × V)} (h : Kn sk ns Ns I kvs) (s : Same I I') : Kn sk ns Ns I' kvs :=
  ⟨h.nd, fun e he => by
    obtain ⟨nm, n, a, b, c, d⟩ := h.ok e he
    exact ⟨nm, n, a, b, c, d.mono s⟩⟩
theorem val_mem {κ : Type} [DecidableEq κ] {kvs : List (κ × V)} {k : κ} {v : V} (h : valV kvs k = some v) : (k, v) ∈ kvs := by
  unfold valV at h
  obtain ⟨p, hp, e⟩ := Option.map_eq_some_iff.mp h
  have h1 := List.find?_some hp
  have h2 := List.mem_of_find?_eq_some hp
  have : p.1 = k := of_decide_eq_true h1
  subst this
  subst e
  exact h2
theorem Kn.get {sk : List Pl} {ns : List Str} {Ns : List Int} {I : Hp} {kvs : List (List Key × V)} (h : Kn sk ns Ns I kvs) {nm : Str} {n : Int} {v : V} (e : valV kvs (ky nm n) = some v) : PrAt I v (spent sk nm n) := by
  obtain ⟨nm', n', a, _, _, d⟩ := h.ok _ (val_mem e)
  have e1 : ky nm n = ky nm' n' := a
  injection e1 with e2 e3
  injection e3 with e4 _
  cases e2
  cases e4
  exact d
theorem Kn.len {sk : List Pl} {ns : List Str} {Ns : List Int} {I : Hp} {kvs : List (List Key × V)} (h : Kn sk ns Ns I kvs) (h3 : ns.length ≤ 3) (hN : Ns.length ≤ 2) : kvs.length < sizeLine := by
  have := nodup_len h.nd (m := keysOf ns Ns) fun x hx => by
    obtain ⟨e, he, rfl⟩ := List.mem_map.mp hx
    obtain ⟨nm, n, a, b, c, _⟩ := h.ok e he
    rw [a]
    exact ky_in b c
  rw [List.length_map, keys_len] at this
  have h1 : ns.length * (Ns.length * 3362) ≤ 3 * (2 * 3362) := Nat.mul_le_mul h3 (Nat.mul_le_mul_right _ hN)
  exact Nat.lt_of_le_of_lt (Nat.le_trans this h1) (by decide)
theorem Kn.put {sk : List Pl} {ns : List Str} {Ns : List Int} {I : Hp} {kvs : List (List Key × V)} (h : Kn sk ns Ns I kvs) {nm : Str} {n : Int} {v : V} (hm : nm ∈ ns) (hr : RchL Ns n) (hv : PrAt I v (spent sk nm n)) : Kn sk ns Ns I (putK kvs (ky nm n) v) := by
  unfold putK
  by_cases hk : (kvs.any fun kv => decide (kv.1 = ky nm n)) = true
  · rw [if_pos hk]
    refine ⟨?_, fun e he => ?_⟩
    · rw [List.map_map]
      have : (kvs.map ((fun x : List Key × V => x.1) ∘ fun kv => if kv.1 = ky nm n then (kv.1, v) else kv)) = kvs.map (·.1) := List.map_congr_left fun e _ => by
        show (if e.1 = ky nm n then (e.1, v) else e).1 = e.1
        split <;> rfl
      rw [this]
      exact h.nd
    · obtain ⟨e0, he0, rfl⟩ := List.mem_map.mp he
      by_cases e : e0.1 = ky nm n
      · rw [if_pos e]
        exact ⟨nm, n, e, hm, hr, hv⟩
      · rw [if_neg e]
        exact h.ok e0 he0
  · rw [if_neg hk]
    refine ⟨?_, fun e he => ?_⟩
    · rw [List.map_append]
      refine List.nodup_append.mpr ⟨h.nd, by simp, fun a ha b hb => ?_⟩
      rw [List.map_singleton, List.mem_singleton] at hb
      subst hb
      rintro rfl
      obtain ⟨e, he, ee⟩ := List.mem_map.mp ha
      exact hk (List.any_eq_true.mpr ⟨e, he, decide_eq_true ee⟩)
    · rcases List.mem_append.mp he with he | he
      · exact h.ok e he
      · rw [List.mem_singleton] at he
        subst he
        exact ⟨nm, n, rfl, hm, hr, hv⟩
def KnO (sk : List Pl) (ns : List Str) (Ns : List Int) (I : Hp) (o : HO) : Prop := ∃ kvs, o = .dT kvs ∧ Kn sk ns Ns I kvs
abbrev Jk (d : Addr) (sk : List Pl) (ns : List Str) (Ns : List Int) : Hp → Hp → Prop := J1 d (KnO sk ns Ns)
theorem frK (d : Addr) (sk : List Pl) (ns : List Str) (Ns : List Int) : Fr (A1 d) (Jk d sk ns Ns) := fr1 fun I I' o h s => by
  obtain ⟨kvs, e, k⟩ := h
  exact ⟨kvs, e, k.mono s⟩
theorem Jk.kv {d : Addr} {sk : List Pl} {ns : List Str} {Ns : List Int} {I H : Hp} (j : Jk d sk ns Ns I H) : ∃ kvs, H d = some (.dT kvs) ∧ Kn sk ns Ns I kvs := by
  obtain ⟨_, _, o, ho, kvs, e, k⟩ := j
  subst e
  exact ⟨kvs, ho, k⟩
end JR
/-! J8: what a book tells; places; plain rows. -/
namespace JR
open PySem PySem.Spec PyProof.Rows L2
section
variable {P : Program} {w : World} {K : PySem.W.Frag} {mg : Str → Option Value} {base : Heap} {CC CB CK : Addr}
theorem fl_held (t d : Addr) : (flB t d).lookup ("held" : Str) = some (.ref t) := by kernel_rfl
theorem fl_parsed (t d : Addr) : (flB t d).lookup ("parsed" : Str) = some (.ref d) := by kernel_rfl
theorem fl_bplan (t d : Addr) : (flB t d).lookup ("plan" : Str) = none := by kernel_rfl
theorem fl_bprogram (t d : Addr) : (flB t d).lookup ("program" : Str) = none := by kernel_rfl
theorem fl_bgoal_of (t d : Addr) : (flB t d).lookup ("goal_of" : Str) = none := by kernel_rfl
def sp_Book_plan (CC CB : Addr) : Sp := fun vs H Q _ => ∃ (I : Hp) (v : V) (sk : List Pl) (ns : List Str) (i : Nat) (p : Pl), vs = [v, .str p.name] ∧ Same I H ∧ BookAt CC CB I v sk ∧ SkOk ns sk ∧ sk[i]? = some p ∧ ∀ x, PlanAt I x p → Q x H
theorem ok_Book_plan (T : Tx K mg CC CB CK)  : Mt P w K mg base 1 CB "plan" (sp_Book_plan CC CB) := by
  refine MetAt.mt T.l_Book T.m_Book_plan sc_Book_plan (fun _ _ _ _ _ _ us hl => match us, hl with | [_, _], _ => rfl) (fun vs H Q E h => ?_) (fun f cdv A outer s H vs Q E hr h => ?_)
  · obtain ⟨I, v, sk, ns, i, p, rfl, _⟩ := h
    rfl
  · obtain ⟨I, v, sk, ns, i, p, rfl, j, ⟨b, dx, t, d, kvs, rfl, hb, ⟨t', xs, et, ht, hP⟩, hd, hk⟩, ok, hp, q⟩ := h
    cases et
    have hb0 := j _ _ hb
    have ht0 := j _ _ ht
    have hxl : xs.length = sk.length := hP.length
    have pk := ok.ok i p hp
    refine ⟨_, (pss_cons (ps_for PassesOwn.never rfl (pi_tup (pe_fld (pv 0) rfl)) (pg_name (i := 2) sc_Book_plan.nd rfl (Or.inl rfl))
        (pss_one (ps_if (PW.pt (pw_and (pt_val (pe_callB call_isi (by rfl) T.b_isinstance (by decide +kernel) (pa_cons (pv 1) (pa_cons (pe_bltn (v := .ty "str") (by rfl) T.b_str (by decide +kernel) rfl) pa_nil)))) (pw_and1 (pt_cmpR op_eq (pe_ix ix_tup (pv 2) pe_int (fun _ _ => rfl)) (pv 1) (nomark _)))))
          (pss_one (ps_ret (pv 2)))
          pss_nil)))
      (pss_one ps_never)), ?_⟩
    refine ⟨_, rfl, b, CB, dx, _, _, rfl, hb0, T.l_Book, T.n_Book_held, fl_held _ _, t, rfl, ⟨xs, SqT.of ht0⟩, for_tup (xs := xs) (fun (k : Nat) (σ : L2.St) (H' : Hp) => k ≤ i ∧ ∃ x, σ = [some (.ref b), some (.str p.name), x] ∧ H' = H) ⟨Nat.zero_le _, _, rfl, rfl⟩
      (fun k σ H' _ ⟨_, _, _, e⟩ => by rw [e]; exact SqT.of ht0) ?_ ?_⟩
    · rintro k y σ H' hy ⟨hki, x, rfl, rfl⟩
      obtain ⟨r, hr2, a, rr, rfl, ha, hrr⟩ := paired_at hP hy
      refine ⟨_, rfl, _, _, _, _, true, rfl, .ty "str", .base (.str _), kit_ty (by decide +kernel), _, rfl, ?_⟩
      refine iteB rfl ⟨_, rfl, a, _, 0, _, rfl, rfl, SqT.of (j _ _ ha), atI_nat (j := 0) rfl, _, rfl, rfl, _, rfl, ?_⟩
      by_cases e : r.name = p.name
      · have : k = i := nodup_ix ok.nd (by rw [← e]; exact (ok.ok k r hr2).nm) pk.nm
        subst this
        rw [hp] at hr2
        cases hr2
        exact iteB (eq_str rfl) ⟨_, rfl, q _ ⟨a, rr, rfl, ha, hrr⟩⟩
      · have : k ≠ i := fun z => by
          subst z
          rw [hp] at hr2
          cases hr2
          exact e rfl
        exact iteC (ne_str e) ⟨by omega, _, rfl, rfl⟩
    · rintro σ H' ⟨hki, _⟩
      have := get_len hp
      omega
def sp_Book_program (CC CB : Addr) : Sp := fun vs H Q _ => ∃ (I : Hp) (v : V) (sk : List Pl) (p : Pl), vs = [v, .str p.name] ∧ Same I H ∧ BookAt CC CB I v sk ∧ p ∈ sk ∧ ∀ x, RdsOb CC I x p.rds → Q x H
theorem ok_Book_program (T : Tx K mg CC CB CK)  : Mt P w K mg base 1 CB "program" (sp_Book_program CC CB) := by
  refine MetAt.mt T.l_Book T.m_Book_program sc_Book_program (fun _ _ _ _ _ _ us hl => match us, hl with | [_, _], _ => rfl) (fun vs H Q E h => ?_) (fun f cdv A outer s H vs Q E hr h => ?_)
  · obtain ⟨I, v, sk, p, rfl, _⟩ := h
    rfl
  · obtain ⟨I, v, sk, p, rfl, j, ⟨b, dx, t, d, kvs, rfl, hb, _, hd, hk⟩, hp, q⟩ := h
    have hu := hu_of hr
    refine ⟨_, (pss_one (ps_ret (pe_dget hu (pe_fld (pv 0) rfl) (pv 1) (fun _ _ => rfl)))), ?_⟩
    obtain ⟨x, hx, hr2⟩ := hk p hp
    have g := DGet.k (k := (Sum.inr p.name : Key)) (j _ _ hd)
    rw [hx] at g
    exact ⟨_, rfl, b, CB, dx, _, _, rfl, j _ _ hb, T.l_Book, T.n_Book_parsed, fl_parsed _ _, _, rfl, d, x, rfl, g, q x hr2⟩
def sp_Book_goal_of (CC CB : Addr) : Sp := fun vs H Q _ => ∃ (I : Hp) (v : V) (sk : List Pl) (ns : List Str) (i : Nat) (p : Pl), vs = [v, .str p.name] ∧ Same I H ∧ BookAt CC CB I v sk ∧ SkOk ns sk ∧ sk[i]? = some p ∧
  ∀ I' H' x, Go A0 Same I H I' H' → PgAt I' x p.gw p.gk → Q x H'
theorem ok_Book_goal_of (T : Tx K mg CC CB CK) (c_read_goal : Fn P w K mg base 3 "read_goal" (sp_read_goal)) (c_Book_plan : Mt P w K mg base 1 CB "plan" (sp_Book_plan CC CB)) : Mt P w K mg base 4 CB "goal_of" (sp_Book_goal_of CC CB) := by
  refine MetAt.mt T.l_Book T.m_Book_goal_of sc_Book_goal_of (fun _ _ _ _ _ _ us hl => match us, hl with | [_, _], _ => rfl) (fun vs H Q E h => ?_) (fun f cdv A outer s H vs Q E hr h => ?_)
  · obtain ⟨I, v, sk, ns, i, p, rfl, _⟩ := h
    rfl
  · obtain ⟨I, v, sk, ns, i, p, rfl, j, hb, ok, hp, q⟩ := h
    refine ⟨_, (pss_one (ps_ret (pe_fn c_read_goal hr (by decide) (by rfl) (pa_cons (pe_ix ix_tup (pe_met c_Book_plan hr (by decide) (pv 0) (pa_cons (pv 1) pa_nil)) pe_int (fun _ _ => rfl)) pa_nil)))), ?_⟩
    obtain ⟨b, dx, t, d, kvs, rfl, hb1, h2⟩ := id hb
    refine ⟨_, rfl, b, dx, _, rfl, j _ _ hb1, fl_bplan _ _, _, rfl, I, _, sk, ns, i, p, rfl, j, hb, ok, hp, fun x ⟨a, r, ex, ha, _⟩ => ?_⟩
    subst ex
    exact ⟨a, _, 1, _, rfl, rfl, SqT.of (j _ _ ha), atI_nat (j := 1) rfl, I, p.gw, p.gk, rfl, j, (ok.ok i p hp).go, q⟩
def sp_check_book (CC CB : Addr) : Sp := fun vs H Q _ => ∃ b dx fs, vs = [.ref b] ∧ H b = some (.ins CB dx fs) ∧ Q .non H
theorem ok_check_book (T : Tx K mg CC CB CK)  : Fn P w K mg base 1 "check_book" (sp_check_book CC CB) := by
  refine T.f_check_book.fn sc_check_book (fun _ _ _ _ _ _ us hl => match us, hl with | [_], _ => rfl) (fun vs H Q E h => ?_) (fun f cdv A outer s H vs Q E hr h => ?_)
  · obtain ⟨b, dx, fs, rfl, _⟩ := h
    rfl
  · obtain ⟨b, dx, fs, rfl, hb, q⟩ := h
    refine ⟨_, (pss_one (ps_if (pt_not (pt_val (pe_callB (C8.call_isC T.i_Book) (by rfl) T.b_isinstance (by decide +kernel) (pa_cons (pv 0) (pa_cons (pe_glob (v := .ref CB) rfl T.g_Book rfl) pa_nil)))))
        (pss_one ps_never)
        pss_nil)), ?_⟩
    exact ⟨_, rfl, b, dx, fs, rfl, hb, _, rfl, iteC rfl q⟩
def sp_check_plan (CC CB : Addr) : Sp := fun vs H Q _ => ∃ (I : Hp) (v : V) (sk : List Pl) (ns : List Str) (i : Nat) (p : Pl), vs = [v, .str p.name] ∧ Same I H ∧ BookAt CC CB I v sk ∧ SkOk ns sk ∧ sk[i]? = some p ∧ Q .non H
theorem ok_check_plan (T : Tx K mg CC CB CK) (c_Book_plan : Mt P w K mg base 1 CB "plan" (sp_Book_plan CC CB)) : Fn P w K mg base 2 "check_plan" (sp_check_plan CC CB) := by
  refine T.f_check_plan.fn sc_check_plan (fun _ _ _ _ _ _ us hl => match us, hl with | [_, _], _ => rfl) (fun vs H Q E h => ?_) (fun f cdv A outer s H vs Q E hr h => ?_)
  · obtain ⟨I, v, sk, ns, i, p, rfl, _⟩ := h
    rfl
  · obtain ⟨I, v, sk, ns, i, p, rfl, j, hb, ok, hp, q⟩ := h
    refine ⟨_, (pss_one (ps_expr (pe_met c_Book_plan hr (by decide) (pv 0) (pa_cons (pv 1) pa_nil)))), ?_⟩
    obtain ⟨b, dx, t, d, kvs, rfl, hb1, h2⟩ := id hb
    exact ⟨_, rfl, b, dx, _, rfl, j _ _ hb1, fl_bplan _ _, _, rfl, I, _, sk, ns, i, p, rfl, j, hb, ok, hp, fun x _ => q⟩
/-! ### places -/
def sp_places_between (CC : Addr) : Sp := fun vs H Q _ => ∃ (v : V) (c : Cl) (lo hi : Int), vs = [v, .int lo, .int hi] ∧ ClOb CC H v c ∧ 1 ≤ c.step ∧ c.step ≤ 3 ∧ Q (.int (between c.rest c.step lo hi)) H
theorem ok_places_between (T : Tx K mg CC CB CK)  : Fn P w K mg base 1 "places_between" (sp_places_between CC) := by
  refine T.f_places_between.fn sc_places_between (fun _ _ _ _ _ _ us hl => match us, hl with | [_, _, _], _ => rfl) (fun vs H Q E h => ?_) (fun f cdv A outer s H vs Q E hr h => ?_)
  · obtain ⟨v, c, lo, hi, rfl, _⟩ := h
    rfl
  · obtain ⟨v, c, lo, hi, rfl, ⟨a, dx, rfl, ha⟩, s1, s3, q⟩ := h
    refine ⟨_, (pss_cons (ps_set (i := 3) sc_places_between.nd rfl (Or.inl rfl) (pe_op op_add (pv 1) (pe_op op_mod (pe_callTy call_int1 (by rfl) T.b_int (by decide +kernel) (pa_cons (pe_op op_sub (pe_fld (pv 0) rfl) (pv 1)) pa_nil)) (pe_fld (pv 0) rfl))))
      (pss_one (ps_ret (pe_ifExp (pt_cmpR op_ge (pv 3) (pv 2) (nomark _)) pe_int (pe_op op_fdiv (pe_op op_sub (pe_op op_add (pe_op op_sub (pv 2) (pv 3)) (pe_fld (pv 0) rfl)) pe_int) (pe_fld (pv 0) rfl)))))), ?_⟩
    refine ⟨_, rfl, _, rfl, a, CC, dx, _, _, rfl, ha, T.l_Clause, T.n_Clause_rest, fl_rest _ _ _ _ _ _, _, rfl, _, _, rfl, rfl, .inl ⟨_, rfl, ?_⟩⟩
    refine ⟨_, rfl, a, CC, dx, _, _, rfl, ha, T.l_Clause, T.n_Clause_step, fl_step _ _ _ _ _ _, _, _, rfl, rfl, by show (0 : Int) < c.step; omega, _, _, rfl, rfl, ?_⟩
    refine ⟨_, rfl, _, rfl, _, _, rfl, rfl, _, rfl, ?_⟩
    unfold between at q
    by_cases h : lo + (c.rest - lo) % c.step ≥ hi
    · rw [if_pos h] at q
      exact iteB (decide_eq_true h) q
    · rw [if_neg h] at q
      refine iteC (decide_eq_false h) ⟨_, rfl, _, rfl, _, _, rfl, rfl, _, rfl, a, CC, dx, _, _, rfl, ha, T.l_Clause, T.n_Clause_step, fl_step _ _ _ _ _ _, _, _, rfl, rfl, _, _, rfl, rfl, _, rfl, a, CC, dx, _, _, rfl, ha, T.l_Clause, T.n_Clause_step, fl_step _ _ _ _ _ _, _, _, rfl, rfl, ⟨by show (0 : Int) < c.step; omega, by show (c.step : Int) < 1073741824; omega⟩, q⟩
def sp_deeds_at (CC : Addr) : Sp := fun vs H Q _ => ∃ (v : V) (c : Cl) (ns : List Str) (i : Nat) (n : Int), vs = [v, .int n] ∧ ClOb CC H v c ∧ ClOk ns i c ∧ c.w = "join" ∧ 1 ≤ n ∧ Q (.int (clJoins c n)) H
theorem ok_deeds_at (T : Tx K mg CC CB CK) (c_places_between : Fn P w K mg base 1 "places_between" (sp_places_between CC)) : Fn P w K mg base 2 "deeds_at" (sp_deeds_at CC) := by
  refine T.f_deeds_at.fn sc_deeds_at (fun _ _ _ _ _ _ us hl => match us, hl with | [_, _], _ => rfl) (fun vs H Q E h => ?_) (fun f cdv A outer s H vs Q E hr h => ?_)
  · obtain ⟨v, c, ns, i, n, rfl, _⟩ := h
    rfl
  · obtain ⟨v, c, ns, i, n, rfl, ho, ok, hw, hn, q⟩ := h
    obtain ⟨a, dx, rfl, ha⟩ := id ho
    refine ⟨_, (pss_cons (ps_if (pt_cmpR op_eq (pe_fld (pv 0) rfl) pe_str (nomark _))
        (pss_one (ps_ret (pe_fn c_places_between hr (by decide) (by rfl) (pa_cons (pv 0) (pa_cons (pe_fld (pv 0) rfl) (pa_cons (pv 1) pa_nil))))))
        pss_nil)
      (pss_one (ps_ret (pe_fn c_places_between hr (by decide) (by rfl) (pa_cons (pv 0) (pa_cons pe_int (pa_cons (pe_op op_sub (pv 1) (pe_fld (pv 0) rfl)) pa_nil))))))), ?_⟩
    obtain ⟨hs, f1, f4⟩ : (c.side = "left" ∨ c.side = "right") ∧ 1 ≤ c.far ∧ c.far ≤ 4 := by
      rcases ok.kd with ⟨e, _⟩ | ⟨_, h1, h2, h3, _⟩
      · rw [hw] at e
        exact absurd e (by decide +kernel)
      · exact ⟨h1, h2, h3⟩
    have hk : ¬ (c.w = "call" ∨ c.w = "clear") := by
      rw [hw]
      decide +kernel
    have es : sideV c = .str c.side := if_neg hk
    have ef : farV c = .int c.far := if_neg hk
    have s1 := ok.s1
    have s3 := ok.s3
    have r := ok.r
    unfold clJoins at q
    rw [if_pos hw] at q
    refine ⟨_, rfl, a, CC, dx, _, _, rfl, ha, T.l_Clause, T.n_Clause_side, fl_side _ _ _ _ _ _, ?_⟩
    rw [es]
    refine ⟨rfl, _, rfl, ?_⟩
    by_cases hl : c.side = "left"
    · rw [if_pos hl, ← between_far (by omega) (by omega) (by omega) (by omega) (by omega) (by omega) hn] at q
      refine iteB (eq_str hl) ⟨_, rfl, _, rfl, a, CC, dx, _, _, rfl, ha, T.l_Clause, T.n_Clause_far, fl_far _ _ _ _ _ _, _, rfl, _, c, c.far, n, ?_, ho, s1, s3, q⟩
      rw [ef]
      rfl
    · rw [if_neg hl, below_max (by omega), ← between_0 (by omega) (by omega)] at q
      refine iteC (ne_str hl) ⟨_, rfl, _, rfl, _, rfl, a, CC, dx, _, _, rfl, ha, T.l_Clause, T.n_Clause_far, fl_far _ _ _ _ _ _, _, c.far, rfl, ef, _, c, 0, _, rfl, ho, s1, s3, q⟩
def sp_plain_joins : Sp := fun vs H Q _ => ∃ (I : Hp) (g : V) (gw : Str) (gk : Nat) (n : Int), vs = [g, .int n] ∧ Same I H ∧ PgAt I g gw gk ∧ GoOk gw gk ∧ 1 ≤ n ∧ n ≤ 4 ∧ ∀ I' H' l, Go A0 Same I H I' H' → H' l = some (.lst ((plainL gw gk n).map V.int)) → Q (.ref l) H'
theorem ok_plain_joins (T : Tx K mg CC CB CK)  : Fn P w K mg base 1 "plain_joins" (sp_plain_joins) := by
  refine T.f_plain_joins.fn sc_plain_joins (fun _ _ _ _ _ _ us hl => match us, hl with | [_, _], _ => rfl) (fun vs H Q E h => ?_) (fun f cdv A outer s H vs Q E hr h => ?_)
  · obtain ⟨I, g, gw, gk, n, rfl, _⟩ := h
    rfl
  · obtain ⟨I, g, gw, gk, n, rfl, j, ⟨a, rfl, ha⟩, ok, n1, n4, q⟩ := h
    refine ⟨_, (pss_cons (ps_asg (pv 0) (pg_tup rfl (pgs_cons (pg_name (i := 2) sc_plain_joins.nd rfl (Or.inr rfl)) (pgs_cons (pg_name (i := 3) sc_plain_joins.nd rfl (Or.inr rfl)) pgs_nil))))
      (pss_cons (ps_setLc (i := 4) (own := [("place", 5)]) (g := gName 5) (tt := tYes) rfl sc_plain_joins.nd rfl rfl (sw_true rfl rfl rfl (by decide +kernel)) (pi_range1 (by rfl) T.b_range (pa_cons (pv 1) pa_nil)) (blkOk_by (own := [("place", 5)]) (N := N_plain_joins) (sc := defScope s_plain_joins) (by decide +kernel))
        (fun _ _ _ _ _ => pg_name (i := 5) sc_plain_joins.nd rfl (Or.inl rfl)) (fun _ _ _ _ _ => pts_nil)
        (fun _ _ _ _ _ => (pe_ifExp (pt_cmpR op_eq (pv 2) pe_str (nomark _)) (pv 5) (pe_op op_add (pv 5) pe_int))))
      (pss_one (ps_ret (pe_lc (own := [("count", 6)]) (g := gName 6) (tt := tYes) rfl sc_plain_joins.nd (pi_list (pv 4)) (blkOk_by (own := [("count", 6)]) (N := N_plain_joins) (sc := defScope s_plain_joins) (by decide +kernel))
        (fun _ _ _ _ _ => pg_name (i := 6) sc_plain_joins.nd rfl (Or.inl rfl)) (fun _ _ _ _ _ => pts_nil)
        (fun _ _ _ _ _ => (pe_callB (call_max2 rfl) (by rfl) T.b_max (by decide +kernel) (pa_cons pe_int (pa_cons (pe_op op_sub (pe_ifExp (pt_cmpR op_eq (pv 2) pe_str (nomark _)) (pe_callB (call_min2 rfl) (by rfl) T.b_min (by decide +kernel) (pa_cons (pv 6) (pa_cons (pv 3) pa_nil))) (pv 6)) pe_int) pa_nil))))))))), ?_⟩
    have hgw : gw = "all" ∨ gw = "before" ∨ gw = "last" := by
      rcases ok.kd with ⟨h, _⟩ | ⟨h, _⟩ | ⟨h, _⟩
      · exact .inl h
      · exact .inr (.inl h)
      · exact .inr (.inr h)
    refine ⟨_, rfl, a, _, rfl, SqT.of (j _ _ ha), rfl, _, _, rfl, _, _, rfl, rfl, ?_⟩
    refine ⟨_, rfl, n, rfl, by omega, by omega, fun D hD => ?_⟩
    refine lc_goY walk_range fr0 j hD (Tell fun k => V.int (if gw = "before" then (k : Int) else k + 1)) tell_0 (fun H' k => trivial) (fun _ _ _ _ y => y.1) ?_ ?_
    · rintro k x I4 H4 zs hk ⟨_, hx⟩ g4 hz
      refine ⟨by rw [hz.len]; omega, fun Q2 q2 => ?_⟩
      subst hx
      rcases hgw with e | e | e
      · subst e
        refine ⟨_, rfl, rfl, _, rfl, iteC (ne_str (by decide +kernel)) ⟨_, rfl, _, _, rfl, rfl, q2 I4 H4 _ (Go.refl g4.j) (hz.snoc ?_)⟩⟩
        show V.int (0 + (k : Int) + 1) = V.int (if _ then _ else _)
        rw [if_neg (by decide +kernel)]
        congr 1
        omega
      · subst e
        refine ⟨_, rfl, rfl, _, rfl, iteB (eq_str rfl) ⟨_, rfl, q2 I4 H4 _ (Go.refl g4.j) (hz.snoc ?_)⟩⟩
        show V.int (0 + (k : Int)) = V.int (if _ then _ else _)
        rw [if_pos rfl]
        congr 1
        omega
      · subst e
        refine ⟨_, rfl, rfl, _, rfl, iteC (ne_str (by decide +kernel)) ⟨_, rfl, _, _, rfl, rfl, q2 I4 H4 _ (Go.refl g4.j) (hz.snoc ?_)⟩⟩
        show V.int (0 + (k : Int) + 1) = V.int (if _ then _ else _)
        rw [if_neg (by decide +kernel)]
        congr 1
        omega
    intro I4 H4 zs g4 iD hL hz
    refine ⟨_, rfl, D, rfl, ⟨_, SqL.of hL⟩, fun D2 hD2 => ?_⟩
    have hzl := hz.len
    refine lc_goY (m := 6) walk_list fr0 g4.j hD2 (Tell fun k => V.int (max 0 (dueLen gw gk k - 1))) tell_0 (fun H' k => SqL.of (k D _ (fun z => z) hL)) (fun _ _ _ _ y => y.1) ?_ ?_
    · rintro k x I5 H5 ws hk ⟨_, hx⟩ g5 hw
      refine ⟨by rw [hw.len]; omega, fun Q2 q2 => ?_⟩
      rw [hz, List.getElem?_map, List.getElem?_range (by omega)] at hx
      have hx := (Option.some.inj hx).symm
      subst hx
      have fin : ∀ d : Int, d = dueLen gw gk k → Q2 (V.int (if d - 1 > 0 then d - 1 else 0)) H5 := fun d hd => q2 I5 H5 _ (Go.refl g5.j) (hw.snoc (by
        rw [← hd]
        congr 1
        by_cases h : d - 1 > 0
        · rw [if_pos h]
          omega
        · rw [if_neg h]
          omega))
      rcases hgw with e | e | e
      · subst e
        refine ⟨_, rfl, rfl, _, rfl, iteC (ne_str (by decide +kernel)) ⟨_, rfl, _, _, rfl, rfl, _, _, rfl, fin _ ?_⟩⟩
        show (if _ then _ else _) = dueLen _ _ _
        unfold dueLen
        rw [if_neg (by decide +kernel), if_neg (by decide +kernel), if_pos rfl]
      · subst e
        refine ⟨_, rfl, rfl, _, rfl, iteC (ne_str (by decide +kernel)) ⟨_, rfl, _, _, rfl, rfl, _, _, rfl, fin _ ?_⟩⟩
        show (if _ then _ else _) = dueLen _ _ _
        unfold dueLen
        rw [if_pos rfl, if_neg (by decide +kernel), if_neg (by decide +kernel)]
      · subst e
        refine ⟨_, rfl, rfl, _, rfl, iteB (eq_str rfl) ⟨_, rfl, _, rfl, _, gk, rfl, _, _, rfl, rfl, _, _, rfl, fin _ ?_⟩⟩
        show (if (gk : Int) < (if _ then _ else _) then _ else (if _ then _ else _)) = dueLen _ _ _
        unfold dueLen
        rw [if_pos rfl, if_neg (show ¬ ("last" : Str) = "before" by decide +kernel)]
        by_cases h : (gk : Int) < (k : Int) + 1
        · rw [if_pos h]
          omega
        · rw [if_neg h]
          omega
    intro I5 H5 ws g5 iD2 hL2 hw
    refine q I5 H5 D2 (Go.trans fr0 j g4 g5) ?_
    rw [hL2, hw, hzl]
    unfold plainL
    rw [List.map_map]
    rfl
end
end JR
/-! J9: the program's count. -/
namespace JR
open PySem PySem.Spec PyProof.Rows L2
section
variable {P : Program} {w : World} {K : PySem.W.Frag} {mg : Str → Option Value} {base : Heap} {CC CB CK : Addr}
theorem two_le {x y : V} : [x, y].length ≤ sizeLine := by
  show 2 ≤ sizeLine
  decide
def flK (b : V) (d : Addr) : List (Str × V) := [("shelf", b), ("known", .ref d)]
theorem fl_shelf (b : V) (d : Addr) : (flK b d).lookup ("shelf" : Str) = some b := by kernel_rfl
theorem fl_known (b : V) (d : Addr) : (flK b d).lookup ("known" : Str) = some (.ref d) := by kernel_rfl
theorem fl_both (b : V) (d : Addr) : (flK b d).lookup ("both" : Str) = none := by kernel_rfl
theorem fl_found (b : V) (d : Addr) : (flK b d).lookup ("found" : Str) = none := by kernel_rfl
def CtAt (CK : Addr) (I : Hp) (c d : Addr) (bk : V) : Prop := ∃ dx, I c = some (.ins CK dx (flK bk d))
theorem CtAt.mono {I I' : Hp} (s : Same I I') {CK c d : Addr} {bk : V} (h : CtAt CK I c d bk) : CtAt CK I' c d bk := by
  obtain ⟨dx, h⟩ := h
  exact ⟨dx, s _ _ h⟩
def spent0 (sk : List Pl) (nm : Str) (n : Int) : Int × Int := if n = 0 then (0, 0) else spent sk nm n
/-- what may be asked at this depth -/
def AskOk (sk : List Pl) (Ns : List Int) (D : Nat) (i : Nat) (p : Pl) (n : Int) : Prop := sk[i]? = some p ∧ 1 ≤ n ∧ n ≤ 2 ^ 40 ∧ RchL Ns n ∧ dep n i < D
def sp_Counter_both (CC CB CK : Addr) (D : Nat) : Sp := fun vs H Q _ => ∃ (I : Hp) (c d : Addr) (bk : V) (sk : List Pl) (ns : List Str) (Ns : List Int) (nm : Str) (n : Int), vs = [.ref c, .str nm, .int n] ∧ Jk d sk ns Ns I H ∧ CtAt CK I c d bk ∧ BookAt CC CB I bk sk ∧ SkOk ns sk ∧ Ns.length ≤ 2 ∧
  (n = 0 ∨ ∃ i p, p.name = nm ∧ AskOk sk Ns D i p n) ∧ ∀ I' H' v, Go (A1 d) (Jk d sk ns Ns) I H I' H' → PrAt I' v (spent0 sk nm n) → Q v H'
def sp_Counter_found (CC CB CK : Addr) (D : Nat) : Sp := fun vs H Q _ => ∃ (I : Hp) (c d : Addr) (bk : V) (sk : List Pl) (ns : List Str) (Ns : List Int) (i : Nat) (p : Pl) (n : Int), vs = [.ref c, .str p.name, .int n] ∧ Jk d sk ns Ns I H ∧ CtAt CK I c d bk ∧ BookAt CC CB I bk sk ∧ SkOk ns sk ∧ Ns.length ≤ 2 ∧
  AskOk sk Ns D i p n ∧ ∀ I' H' v, Go (A1 d) (Jk d sk ns Ns) I H I' H' → PrAt I' v (spent sk p.name n) → Q v H'
theorem both_of (T : Tx K mg CC CB CK) {D : Nat} (c_Counter_found : MtC (RoomD (2 * D)) P w K mg base CK "found" (sp_Counter_found CC CB CK D)) : MtC (RoomD (2 * D + 1)) P w K mg base CK "both" (sp_Counter_both CC CB CK D) := by
  refine MetAt.mtC T.l_Counter T.m_Counter_both RoomD.fits sc_Counter_both (fun _ _ _ _ _ _ us hl => match us, hl with | [_, _, _], _ => rfl) (fun vs H Q E h => ?_) (fun f cdv A outer s H vs Q E hrd0 h => ?_)
  · obtain ⟨I, c, d, bk, sk, ns, Ns, nm, n, rfl, _⟩ := h
    rfl
  · obtain ⟨I, c, d, bk, sk, ns, Ns, nm, n, rfl, j, hc, hb, ok, hN, ask, q⟩ := h
    have hrd := hrd0.deeper (envOfC "Counter.both" (defScope s_Counter_both) s.heap.objs.size f cdv)
    have hr := hrd.room
    have hu := hu_of hr
    have F := frK d sk ns Ns
    obtain ⟨dx, hcI⟩ := id hc
    have hc0 := j.1 _ _ hcI
    refine ⟨_, (pss_cons (ps_if (pt_cmpR op_eq (pv 2) pe_int (nomark _))
        (pss_one (ps_ret (pe_tup (pa_cons pe_int (pa_cons pe_int pa_nil)))))
        pss_nil)
      (pss_cons (ps_if (pt_cmp (pc_dnotin hu (pe_tup (pa_cons (pv 1) (pa_cons (pv 2) pa_nil))) (pe_fld (pv 0) rfl)))
        (pss_one (ps_dput hu (pe_fld (pv 0) rfl) (pe_tup (pa_cons (pv 1) (pa_cons (pv 2) pa_nil))) (pe_metC c_Counter_found hrd (pv 0) (pa_cons (pv 1) (pa_cons (pv 2) pa_nil))) rfl))
        pss_nil)
      (pss_one (ps_ret (pe_dget hu (pe_fld (pv 0) rfl) (pe_tup (pa_cons (pv 1) (pa_cons (pv 2) pa_nil))) (fun _ _ => rfl)))))), ?_⟩
    refine ⟨_, rfl, rfl, _, rfl, ?_⟩
    rcases ask with e | ⟨i, p, e, ask⟩
    · subst e
      refine iteB (decide_eq_true rfl) ⟨by decide, fun t ht => ?_⟩
      refine q _ _ _ (Go.new F j ht _) ⟨t, rfl, ?_⟩
      rw [upd_same]
      rfl
    · subst e
      have n0 : ¬ n = 0 := by have := ask.2.1; omega
      have es : spent0 sk p.name n = spent sk p.name n := if_neg n0
      rw [es] at q
      refine iteC (decide_eq_false fun z => n0 (V.int.inj z)) ?_
      have pin : p.name ∈ ns := List.mem_of_getElem? (ok.ok i p ask.1).nm
      -- the rest, once it is known
      suffices rest : ∀ I1 H1, Go (A1 d) (Jk d sk ns Ns) I H I1 H1 → (∃ kvs v, H1 d = some (.dT kvs) ∧ valV kvs (ky p.name n) = some v) → tDGet (tFld K (tVar 0) "known") (tTup (tCons (tVar 1) (tCons (tVar 2) tNil))) (L2.start N_Counter_both [.ref c, .str p.name, .int n]) H1 Q by
        refine ⟨_, rfl, _, rfl, two_le, fun t ht => ?_⟩
        have g1 := Go.new F j ht (.tup [.str p.name, .int n])
        have ht1 : (upd H t (.tup [.str p.name, .int n])) t = some (.tup ((ky p.name n).map kV)) := upd_same
        generalize upd H t (.tup [.str p.name, .int n]) = H1 at *
        generalize upd I t (.tup [.str p.name, .int n]) = I1 at *
        obtain ⟨kvs, hd1, kn⟩ := g1.j.kv
        have hc1 := g1.j.1 _ _ (g1.s _ _ hcI)
        refine ⟨_, rfl, c, CK, dx, _, _, rfl, hc1, T.l_Counter, T.n_Counter_known, fl_known _ _, d, _, rfl, DGet.t hd1 ht1, _, rfl, ?_⟩
        cases e : valV kvs (ky p.name n) with
        | some v =>
          exact iteC rfl (rest I1 H1 g1 ⟨kvs, v, hd1, e⟩)
        | none =>
          refine iteB rfl ⟨_, rfl, c, dx, _, rfl, hc1, fl_found _ _, _, rfl, _, rfl, I1, c, d, bk, sk, ns, Ns, i, p, n, rfl, g1.j, hc.mono g1.s, hb.mono g1.s, ok, hN, ask, fun I2 H2 v g2 hv => ?_⟩
          have g3 := Go.trans F j g1 g2
          have hc2 := g3.j.1 _ _ (g3.s _ _ hcI)
          refine ⟨_, rfl, c, CK, dx, _, _, rfl, hc2, T.l_Counter, T.n_Counter_known, fl_known _ _, _, rfl, _, rfl, two_le, fun t2 ht2 => ?_⟩
          have g4 := Go.trans F j g3 (Go.new F g3.j ht2 (.tup [.str p.name, .int n]))
          have hv2 := hv.mono (same_new (g3.j.1.free ht2) (.tup [.str p.name, .int n]))
          have hT2 : (upd H2 t2 (.tup [.str p.name, .int n])) t2 = some (.tup ((ky p.name n).map kV)) := upd_same
          generalize upd H2 t2 (.tup [.str p.name, .int n]) = H3 at *
          generalize upd I2 t2 (.tup [.str p.name, .int n]) = I3 at *
          obtain ⟨kvs3, hd3, kn3⟩ := g4.j.kv
          refine ⟨d, _, rfl, DPut.t hd3 hT2 (kn3.len ok.n3 hN), rest _ _ (g4.put ⟨_, rfl, kn3.put pin ask.2.2.2.1 hv2⟩) ⟨_, v, upd_same, ?_⟩⟩
          rw [valV_put, if_pos rfl]
      rintro I1 H1 g1 ⟨kvs, v, hd1, hv⟩
      have hc1 := g1.j.1 _ _ (g1.s _ _ hcI)
      refine ⟨_, rfl, c, CK, dx, _, _, rfl, hc1, T.l_Counter, T.n_Counter_known, fl_known _ _, _, rfl, _, rfl, two_le, fun t ht => ?_⟩
      have g2 := Go.trans F j g1 (Go.new F g1.j ht (.tup [.str p.name, .int n]))
      have hdt : d ≠ t := fun e => by rw [← e, hd1] at ht; cases ht
      have hd2 : (upd H1 t (.tup [.str p.name, .int n])) d = some (.dT kvs) := by rw [upd_ne hdt]; exact hd1
      have gt := DGet.t (k := ky p.name n) hd2 (upd_same (H := H1) (a := t) (o := .tup [.str p.name, .int n]))
      rw [hv] at gt
      refine ⟨d, v, rfl, gt, q _ _ v g2 ?_⟩
      obtain ⟨kvs', hd', kn⟩ := g2.j.kv
      rw [hd2] at hd'
      cases hd'
      exact kn.get hv
theorem roundsS_snoc (S : Sf) (rs : List (List Cl)) (r : List Cl) (n : Int) : roundsS S (rs ++ [r]) n = ((roundsS S rs n).1 + (roundS S r n).1, (roundsS S rs n).2 + (roundS S r n).2) := by
  unfold roundsS
  rw [List.map_append, List.map_append, List.sum_append, List.sum_append, List.map_singleton, List.map_singleton, List.sum_singleton, List.sum_singleton]
def isJoin (c : Cl) : Bool := decide (c.w = "join")
theorem sum_filter {l : List Cl} (n : Int) : ((l.filter isJoin).map fun c => clJoins c n).sum = (l.map fun c => clJoins c n).sum := by
  induction l with
  | nil => rfl
  | cons c r ih =>
    rw [List.map_cons, List.sum_cons, ← ih]
    by_cases h : c.w = "join"
    · rw [List.filter_cons_of_pos (by simpa [isJoin] using h), List.map_cons, List.sum_cons]
    · rw [List.filter_cons_of_neg (by simpa [isJoin] using h)]
      have : clJoins c n = 0 := if_neg h
      omega
theorem clauseS_nn {ns : List Str} {sk : List Pl} (ok : SkOk ns sk) {i : Nat} {p : Pl} (pk : PlOk ns i p) {k : Nat} {r : List Cl} (hr : p.rds[k]? = some r) {c : Cl} (hc : c ∈ r) {n : Int} (n1 : 1 ≤ n) (n2 : 2 ≤ n) (h40 : n ≤ 2 ^ 40) : 0 ≤ (clauseS (spent sk) c n).2 := by
  unfold clauseS
  by_cases hw : c.w = "call"
  · rw [if_pos hw]
    by_cases hm : below c.rest c.step n = 0
    · rw [if_pos hm]
      exact Int.le_refl 0
    · rw [if_neg hm]
      obtain ⟨j, hj, m1, mn, _⟩ := clause_next ok ((pk.ok r (List.mem_of_getElem? hr)).ok c hc) hw n2 hm
      have hjl : j < sk.length := by rw [ok.l]; exact get_len hj
      have hq : sk[j]? = some sk[j] := List.getElem?_eq_getElem hjl
      have enm := (ok.ok j _ hq).nm
      rw [hj] at enm
      rw [Option.some.inj enm]
      exact (spent_bd ok hq m1 (by omega)).2.1
  · rw [if_neg hw]
    show (0 : Int) ≤ 1
    decide
/-- one side of each pair -/
theorem lc_pairs {A : Addr → Prop} {J : Hp → Hp → Prop} {I H : Hp} {D l : Addr} {ys : List V} {Ps : List (Int × Int)} {m : Nat} {te : TE} {σ : L2.St} (F : Fr A J) (j : J I H) (hD : H D = none) (hl : H l = some (.lst ys)) (nl : ¬ A l) (hP : Paired (PrAt I) ys Ps) (h9 : Ps.length < 99999)
    (f : Int × Int → Int) (hte : ∀ (H' : Hp) (t : Addr) (x : Int × Int) (Q2 : VK), H' t = some (.tup [.int x.1, .int x.2]) → Q2 (.int (f x)) H' → te ((wipe σ [m]).set m (some (.ref t))) H' Q2) {Qd : Hp → Prop}
    (hd : ∀ I' H', Go A J I H I' H' → I' D = none → H' D = some (.lst ((Ps.map f).map V.int)) → Qd H') :
    ∃ W : Nat → Nat → Hp → Prop, (∃ m, W 0 m (upd H D (.lst []))) ∧ ∀ i k H, W i k H →
      ((Itl K l).stop i H ∧ Qd H) ∨ ((Itl K l).go i H ∧ ∃ Nx : Hp → Prop, (∀ H', Nx H' → ∃ m', m' < k ∧ W (i + 1) m' H') ∧ ∀ x H', (Itl K l).yld i H x H' → gName m x (wipe σ [m]) H' fun σ2 H2 => wipe σ2 [m] = wipe σ [m] ∧ tYes σ2 H2 fun b H3 =>
        if b = true then te σ2 H3 fun y H4 => ∃ acc, H4 D = some (.lst acc) ∧ acc.length < sizeLine ∧ Nx (upd H4 D (.lst (acc ++ [y]))) else Nx H3) := by
  have hpl : ys.length = Ps.length := hP.length
  refine lc_goY walk_list F j hD (fun k _ zs => zs = ((Ps.take k).map f).map V.int) rfl (fun H' k => SqL.of (k l _ nl hl)) (fun _ _ _ _ y => y.1) ?_ ?_
  · rintro k x I4 H4 zs hk ⟨_, hx⟩ g4 hz
    obtain ⟨pr, hpr, t, rfl, ht⟩ := paired_at hP hx
    subst hz
    refine ⟨by simp; omega, fun Q2 q2 => hte H4 t pr Q2 (F.sub g4.j _ _ (g4.s _ _ ht)) (q2 I4 H4 _ (Go.refl g4.j) ?_)⟩
    rw [take_snoc hpr, List.map_append, List.map_append]
    rfl
  · intro I4 H4 zs g4 iD hL hz
    rw [hpl, List.take_length] at hz
    subst hz
    exact hd I4 H4 g4 iD hL
theorem found_of (T : Tx K mg CC CB CK) {D : Nat} (c_Book_plan : Mt P w K mg base 1 CB "plan" (sp_Book_plan CC CB)) (c_plain_joins : Fn P w K mg base 1 "plain_joins" (sp_plain_joins)) (c_Book_goal_of : Mt P w K mg base 4 CB "goal_of" (sp_Book_goal_of CC CB)) (c_Book_program : Mt P w K mg base 1 CB "program" (sp_Book_program CC CB)) (c_places_between : Fn P w K mg base 1 "places_between" (sp_places_between CC)) (c_deeds_at : Fn P w K mg base 2 "deeds_at" (sp_deeds_at CC))
    (c_Counter_both : MtC (RoomD (2 * D + 1)) P w K mg base CK "both" (sp_Counter_both CC CB CK D)) : MtC (RoomD (2 * D + 1 + 1)) P w K mg base CK "found" (sp_Counter_found CC CB CK (D + 1)) := by
  refine MetAt.mtC T.l_Counter T.m_Counter_found RoomD.fits sc_Counter_found (fun _ _ _ _ _ _ us hl => match us, hl with | [_, _, _], _ => rfl) (fun vs H Q E h => ?_) (fun f cdv A outer s H vs Q E hrd0 h => ?_)
  · obtain ⟨I, c, d, bk, sk, ns, Ns, i, p, n, rfl, _⟩ := h
    rfl
  · obtain ⟨I, c, d, bk, sk, ns, Ns, i, p, n, rfl, j, hc, hb, ok, hN, ⟨hp, n1, n40, hrch, hdep⟩, q⟩ := h
    have hrd := hrd0.deeper (envOfC "Counter.found" (defScope s_Counter_found) s.heap.objs.size f cdv)
    have hr := hrd.room
    have F := frK d sk ns Ns
    obtain ⟨dx, hcI⟩ := id hc
    have hc0 := j.1 _ _ hcI
    obtain ⟨b, dxb, bt, bd, bkv, rfl, hbI, hb2⟩ := id hb
    have hb0 := j.1 _ _ hbI
    have pk := ok.ok i p hp
    have b4 := pk.b4
    have b1 := pk.b1
    have es := spent_eq ok hp n1 n40
    unfold planP at es
    refine ⟨_, (pss_cons (ps_if (pt_cmpR op_le (pv 2) (pe_ix ix_tup (pe_met c_Book_plan hr (by omega) (pe_fld (pv 0) rfl) (pa_cons (pv 1) pa_nil)) pe_int (fun _ _ => rfl)) (nomark _))
        (pss_cons (ps_set (i := 3) sc_Counter_found.nd rfl (Or.inl rfl) (pe_fn c_plain_joins hr (by omega) (by rfl) (pa_cons (pe_met c_Book_goal_of hr (by omega) (pe_fld (pv 0) rfl) (pa_cons (pv 1) pa_nil)) (pa_cons (pv 2) pa_nil))))
        (pss_one (ps_ret (pe_tup (pa_cons (pe_callB (cr_sum rfl) (by rfl) T.b_sum (by decide +kernel) (pa_cons (pv 3) pa_nil)) (pa_cons (pe_callB (cr_max rfl) (by rfl) T.b_max (by decide +kernel) (pa_cons (pv 3) pa_nil)) pa_nil))))))
        pss_nil)
      (pss_cons (ps_asg (pe_tup (pa_cons pe_int (pa_cons pe_int pa_nil))) (pg_tup rfl (pgs_cons (pg_name (i := 4) sc_Counter_found.nd rfl (Or.inl rfl)) (pgs_cons (pg_name (i := 5) sc_Counter_found.nd rfl (Or.inl rfl)) pgs_nil))))
      (pss_cons (ps_for PassesOwn.never rfl (pi_list (pe_met c_Book_program hr (by omega) (pe_fld (pv 0) rfl) (pa_cons (pv 1) pa_nil))) (pg_name (i := 6) sc_Counter_found.nd rfl (Or.inl rfl))
        (pss_one (ps_if (pt_cmpR op_eq (pe_fld (pe_ix ix_list (pv 6) pe_int (fun _ _ => rfl)) rfl) pe_str (nomark _))
          (pss_cons (ps_setLc (i := 7) (own := [("clause", 8)]) (g := gName 8) (tt := tYes) rfl sc_Counter_found.nd rfl rfl (sw_true rfl rfl rfl (by decide +kernel)) (pi_list (pv 6)) (blkOk_by (own := [("clause", 8)]) (N := N_Counter_found) (sc := defScope s_Counter_found) (by decide +kernel))
        (fun _ _ _ _ _ => pg_name (i := 8) sc_Counter_found.nd rfl (Or.inl rfl)) (fun _ _ _ _ _ => pts_nil)
        (fun _ _ _ _ _ => (pe_metC c_Counter_both hrd (pv 0) (pa_cons (peK_fld K (pv 8) rfl) (pa_cons (pe_fn c_places_between hr (by omega) (by rfl) (pa_cons (pv 8) (pa_cons pe_int (pa_cons (pv 2) pa_nil)))) pa_nil)))))
          (pss_cons (ps_aug (i := 4) sc_Counter_found.nd rfl (Or.inl rfl) (pe_callB (cr_sum rfl) (by rfl) T.b_sum (by decide +kernel) (pa_cons (pe_lc (own := [("pair", 9)]) (g := gName 9) (tt := tYes) rfl sc_Counter_found.nd (pi_list (pv 7)) (blkOk_by (own := [("pair", 9)]) (N := N_Counter_found) (sc := defScope s_Counter_found) (by decide +kernel))
        (fun _ _ _ _ _ => pg_name (i := 9) sc_Counter_found.nd rfl (Or.inl rfl)) (fun _ _ _ _ _ => pts_nil)
        (fun _ _ _ _ _ => (pe_ix (ixK_tup K) (pv 9) pe_int (fun _ _ => rfl)))) pa_nil)) ip_add)
          (pss_one (ps_aug (i := 5) sc_Counter_found.nd rfl (Or.inl rfl) (pe_callB (cr_max rfl) (by rfl) T.b_max (by decide +kernel) (pa_cons (pe_lc (own := [("pair", 9)]) (g := gName 9) (tt := tYes) rfl sc_Counter_found.nd (pi_list (pv 7)) (blkOk_by (own := [("pair", 9)]) (N := N_Counter_found) (sc := defScope s_Counter_found) (by decide +kernel))
        (fun _ _ _ _ _ => pg_name (i := 9) sc_Counter_found.nd rfl (Or.inl rfl)) (fun _ _ _ _ _ => pts_nil)
        (fun _ _ _ _ _ => (pe_ix (ixK_tup K) (pv 9) pe_int (fun _ _ => rfl)))) pa_nil)) ip_add))))
          (pss_cons (ps_aug (i := 4) sc_Counter_found.nd rfl (Or.inl rfl) (pe_callB (cr_sum rfl) (by rfl) T.b_sum (by decide +kernel) (pa_cons (pe_lc (own := [("clause", 8)]) (g := gName 8) (tt := tTest (tOp rEq (tFld K (tVar 8) "word") (tC (.str "join")))) rfl sc_Counter_found.nd (pi_list (pv 6)) (blkOk_by (own := [("clause", 8)]) (N := N_Counter_found) (sc := defScope s_Counter_found) (by decide +kernel))
        (fun _ _ _ _ _ => pg_name (i := 8) sc_Counter_found.nd rfl (Or.inl rfl)) (fun _ _ _ _ _ => pts_one (pt_cmpR op_eq (peK_fld K (pv 8) rfl) pe_str (nomark _)))
        (fun _ _ _ _ _ => (pe_fn c_deeds_at hr (by omega) (by rfl) (pa_cons (pv 8) (pa_cons (pv 2) pa_nil))))) pa_nil)) ip_add)
          (pss_one (ps_aug (i := 5) sc_Counter_found.nd rfl (Or.inl rfl) pe_int ip_add))))))
      (pss_one (ps_ret (pe_tup (pa_cons (pv 4) (pa_cons (pv 5) pa_nil)))))))), ?_⟩
    refine ⟨_, rfl, _, rfl, c, CK, dx, _, _, rfl, hc0, T.l_Counter, T.n_Counter_shelf, fl_shelf _ _, b, dxb, _, rfl, hb0, fl_bplan _ _, _, rfl, I, _, sk, ns, i, p, rfl, j.1, hb, ok, hp, fun x ⟨a, r, ex, ha, hr3⟩ => ?_⟩
    subst ex
    refine ⟨a, _, 2, _, rfl, rfl, SqT.of (j.1 _ _ ha), atI_nat (j := 2) rfl, _, _, rfl, rfl, _, rfl, ?_⟩
    by_cases hle : n ≤ p.base
    · rw [if_pos hle] at es
      refine iteB (decide_eq_true hle) ⟨_, rfl, c, CK, dx, _, _, rfl, hc0, T.l_Counter, T.n_Counter_shelf, fl_shelf _ _, b, dxb, _, rfl, hb0, fl_bgoal_of _ _, _, rfl, I, _, sk, ns, i, p, rfl, j.1, hb, ok, hp, fun I2 H2 x g2 hx => ?_⟩
      refine ⟨_, rfl, I2, x, p.gw, p.gk, n, rfl, g2.j, hx, pk.go, n1, by omega, fun I3 H3 l g3 hl => ?_⟩
      obtain ⟨pb, pln⟩ := plainL_bd (gw := p.gw) (gk := p.gk) (n := n) (by omega)
      refine ⟨_, rfl, l, _, rfl, SqL.of hl, _, rfl, l, _, rfl, SqL.of hl, by rw [pln]; omega, fun m hm hmax => ⟨two_le, fun t ht => ?_⟩⟩
      have g4 := Go.pure F j (Go.trans fr0 j.1 g2 g3)
      refine q _ _ _ (Go.trans F j g4 (Go.new F g4.j ht _)) ⟨t, rfl, ?_⟩
      rw [upd_same, es, ← mx_is hm hmax fun y hy => (pb y hy).1]
    rw [if_neg hle] at es
    refine iteC (decide_eq_false hle) ⟨two_le, fun t0 ht0 => ?_⟩
    have g0 := Go.new F j ht0 (.tup [.int 0, .int 0])
    have ht0' : (upd H t0 (.tup [.int 0, .int 0])) t0 = _ := upd_same
    generalize upd H t0 (.tup [.int 0, .int 0]) = H1 at *
    generalize upd I t0 (.tup [.int 0, .int 0]) = I1 at *
    refine ⟨t0, [.int 0, .int 0], rfl, SqT.of ht0', rfl, _, _, rfl, _, [], rfl, rfl, ?_⟩
    have hc1 := g0.j.1 _ _ (g0.s _ _ hcI)
    have hb1 := g0.j.1 _ _ (g0.s _ _ hbI)
    refine ⟨_, rfl, c, CK, dx, _, _, rfl, hc1, T.l_Counter, T.n_Counter_shelf, fl_shelf _ _, b, dxb, _, rfl, hb1, fl_bprogram _ _, _, rfl, I1, _, sk, p, rfl, g0.j.1, hb.mono g0.s, List.mem_of_getElem? hp, fun x ⟨a2, vs, ex, ha2, hP⟩ => ?_⟩
    subst ex
    have hvl : vs.length = p.rds.length := hP.length
    refine ⟨a2, rfl, ⟨vs, SqL.of (g0.j.1 _ _ ha2)⟩, for_list (xs := vs) (fun (k : Nat) (σ : L2.St) (H' : Hp) => ∃ I' x6 x7, Go (A1 d) (Jk d sk ns Ns) I1 H1 I' H' ∧
      σ = [some (.ref c), some (.str p.name), some (.int n), none, some (.int (roundsS (spent sk) (p.rds.take k) n).1), some (.int (roundsS (spent sk) (p.rds.take k) n).2), x6, x7, none, none])
      ⟨I1, _, _, Go.refl g0.j, rfl⟩ (fun k σ H' _ ⟨I', _, _, g, _⟩ => SqL.of (g.j.1 _ _ (g.s _ _ ha2))) ?_ ?_⟩
    · rintro k y σ H2 hy ⟨I2, x6, x7, g2, rfl⟩
      obtain ⟨r, hrk, rl, cs, rfl, hrl, hcP⟩ := paired_at hP hy
      have rok := pk.ok r (List.mem_of_getElem? hrk)
      have hrl2 := g2.j.1 _ _ (g2.s _ _ hrl)
      have hcl : cs.length = r.length := hcP.length
      have hr0 : 0 < r.length := List.length_pos_iff.mpr rok.ne
      obtain ⟨v0, hv0⟩ : ∃ v0, cs[0]? = some v0 := ⟨cs[0], List.getElem?_eq_getElem (by omega)⟩
      obtain ⟨c0, hc0r, a0, dx0, rfl, ha0⟩ := paired_at hcP hv0
      have ha02 := g2.j.1 _ _ (g2.s _ _ ha0)
      have hm0 := List.mem_of_getElem? hc0r
      rw [take_snoc hrk, roundsS_snoc]
      refine ⟨_, rfl, rl, cs, 0, _, rfl, rfl, SqL.of hrl2, atI_nat (j := 0) hv0, a0, CC, dx0, _, _, rfl, ha02, T.l_Clause, T.n_Clause_word, fl_word _ _ _ _ _ _, rfl, _, rfl, ?_⟩
      rcases rok.calls with hall | hall
      · have nl : ¬ A1 d rl := fun e => by
          have e1 := g0.j.2.1
          rw [← show rl = d from e, hrl] at e1
          cases e1
        have r3 := rok.l3
        refine iteB (eq_str (hall c0 hm0)) ⟨_, rfl, rl, rfl, ⟨_, SqL.of hrl2⟩, fun D2 hD2 => ?_⟩
        refine lc_goY (m := 8) walk_list F g2.j hD2 (fun k I' ys => Paired (PrAt I') ys ((r.take k).map fun c => clauseS (spent sk) c n)) .nil (fun H' k => SqL.of (k rl _ nl hrl2)) (fun _ _ _ _ y => y.1) ?_ ?_
        · rintro m x I4 H4 zs hm ⟨_, hx⟩ g4 hz
          obtain ⟨cl, hcm, ca, dxc, rfl, hca⟩ := paired_at hcP hx
          have g5 := Go.trans F g0.j g2 g4
          have hca4 := g5.j.1 _ _ (g5.s _ _ hca)
          have hcw := hall cl (List.mem_of_getElem? hcm)
          have cok := rok.ok cl (List.mem_of_getElem? hcm)
          have s1 := cok.s1
          have s3 := cok.s3
          have hrs := cok.r
          have hzl := hz.length
          rw [List.length_map, List.length_take] at hzl
          have g6 := Go.trans F j g0 g5
          refine ⟨by omega, fun Q2 q2 => ?_⟩
          have egv : goalV cl = .str cl.lab := if_pos hcw
          refine ⟨_, rfl, c, dx, _, rfl, g6.j.1 _ _ (g6.s _ _ hcI), fl_both _ _, _, rfl, ca, CC, dxc, _, _, rfl, hca4, T.l_Clause, T.n_Clause_goal, fl_goal _ _ _ _ _ _, _, rfl, _, rfl, _, cl, 0, n, rfl, ⟨ca, dxc, rfl, hca4⟩, s1, s3, ?_⟩
          refine ⟨I4, c, d, .ref b, sk, ns, Ns, cl.lab, _, by rw [egv]; rfl, g6.j, hc.mono g6.s, hb.mono g6.s, ok, hN, ?_, fun I5 H5 v g7 hv => q2 I5 H5 v g7 ?_⟩
          · rw [between_0 (by omega) (by omega)]
            by_cases hm0 : below cl.rest cl.step n = 0
            · exact .inl hm0
            · obtain ⟨jj, hj, m1, mn, hd2, e1, e2⟩ := clause_next ok cok hcw (n := n) (by omega) hm0
              have hjl : jj < sk.length := by rw [ok.l]; exact get_len hj
              have hq : sk[jj]? = some sk[jj] := List.getElem?_eq_getElem hjl
              have enm := (ok.ok jj _ hq).nm
              rw [hj] at enm
              exact .inr ⟨jj, _, (Option.some.inj enm).symm, hq, m1, by omega, rch_call s1 s3 hrs hrch m1 e1 e2, by omega⟩
          · rw [between_0 (by omega) (by omega)] at hv
            rw [take_snoc hcm, List.map_append]
            refine (hz.mono fun _ _ z => z.mono g7.s).snoc ?_
            show PrAt I5 v (clauseS (spent sk) cl n)
            unfold clauseS
            rw [if_pos hcw]
            exact hv
        intro I4 H4 ys g4 iD2 hL2 hR
        rw [hcl, List.take_length] at hR
        have nA2 := F.nin g2.j hD2
        have g5 := Go.fix F g4 hD2 nA2 iD2 hL2
        have hR2 := hR.mono fun _ _ z => PrAt.mono (same_new iD2 (.lst ys)) z
        generalize upd I4 D2 (.lst ys) = I5 at g5 hR2
        generalize hPs : r.map (fun c => clauseS (spent sk) c n) = Ps at hR2
        have hpl : Ps.length = r.length := by rw [← hPs, List.length_map]
        have es1 : (roundS (spent sk) r n).1 = (Ps.map (·.1)).sum := by
          rw [← hPs, List.map_map]
          rfl
        have es2 : (roundS (spent sk) r n).2 = mx (Ps.map (·.2)) := by
          rw [← hPs, List.map_map]
          rfl
        have nn2 : ∀ y ∈ Ps.map (·.2), 0 ≤ y := fun y hy => by
          rw [← hPs, List.map_map] at hy
          obtain ⟨cl, hcl2, e⟩ := List.mem_map.mp hy
          subst e
          exact clauseS_nn ok pk hrk hcl2 n1 (by omega) n40
        refine ⟨_, rfl, _, rfl, D2, rfl, ⟨_, SqL.of hL2⟩, fun D3 hD3 => ?_⟩
        refine lc_pairs (m := 9) F g5.j hD3 hL2 nA2 hR2 (by omega) (·.1) (fun H' t x Q2 ht h => ⟨_, rfl, t, _, 0, _, rfl, rfl, SqT.of ht, atI_nat (j := 0) rfl, h⟩) fun I6 H6 g6 iD3 hL3 => ?_
        refine ⟨D3, _, rfl, SqL.of hL3, _, _, rfl, rfl, ?_⟩
        have hL26 := g6.k D2 _ nA2 hL2
        refine ⟨_, rfl, _, rfl, D2, rfl, ⟨_, SqL.of hL26⟩, fun D4 hD4 => ?_⟩
        refine lc_pairs (m := 9) F g6.j hD4 hL26 nA2 (hR2.mono fun _ _ z => z.mono g6.s) (by omega) (·.2) (fun H' t x Q2 ht h => ⟨_, rfl, t, _, 1, _, rfl, rfl, SqT.of ht, atI_nat (j := 1) rfl, h⟩) fun I7 H7 g7 iD4 hL4 => ?_
        refine ⟨D4, _, rfl, SqL.of hL4, by rw [List.length_map, hpl]; exact hr0, fun mm hmm hmax => ⟨_, _, rfl, rfl, ?_⟩⟩
        refine ⟨I7, some (.ref rl), some (.ref D2), Go.trans F g0.j g2 (Go.trans F g2.j g5 (Go.trans F g5.j g6 g7)), ?_⟩
        rw [es1, es2, ← mx_is hmm hmax nn2]
        rfl
      · have nl : ¬ A1 d rl := fun e => by
          have e1 := g0.j.2.1
          rw [← show rl = d from e, hrl] at e1
          cases e1
        have r3 := rok.l3
        have es1 : (roundS (spent sk) r n).1 = ((r.filter isJoin).map fun c => clJoins c n).sum := by
          rw [sum_filter]
          show (r.map fun c => (clauseS (spent sk) c n).1).sum = _
          rw [List.map_congr_left (g := fun c => clJoins c n) fun c hc => by
            unfold clauseS
            rw [if_neg (hall c hc)]]
        have es2 : (roundS (spent sk) r n).2 = 1 := mx_ones (by simpa using rok.ne) fun y hy => by
          obtain ⟨cl, hcl2, e⟩ := List.mem_map.mp hy
          subst e
          unfold clauseS
          rw [if_neg (hall cl hcl2)]
        refine iteC (ne_str (hall c0 hm0)) ⟨_, rfl, _, rfl, rl, rfl, ⟨_, SqL.of hrl2⟩, fun D2 hD2 => ?_⟩
        refine lc_goT (m := 8) walk_list F g2.j hD2 (fun i I' zs => zs = (((r.take i).filter isJoin).map fun c => clJoins c n).map V.int) rfl (fun H' k => SqL.of (k rl _ nl hrl2)) (fun _ _ _ _ y => y.1) ?_ ?_
        · rintro m x I4 H4 zs hm ⟨_, hx⟩ g4 hz
          obtain ⟨cl, hcm, ca, dxc, rfl, hca⟩ := paired_at hcP hx
          have g5 := Go.trans F g0.j g2 g4
          have hca4 := g5.j.1 _ _ (g5.s _ _ hca)
          have cok := rok.ok cl (List.mem_of_getElem? hcm)
          have hzl : zs.length ≤ 3 := by
            rw [hz, List.length_map, List.length_map]
            refine Nat.le_trans (List.length_filter_le _ _) ?_
            rw [List.length_take]
            omega
          refine ⟨isJoin cl, fun Q2 q2 => ⟨_, rfl, ca, CC, dxc, _, _, rfl, hca4, T.l_Clause, T.n_Clause_word, fl_word _ _ _ _ _ _, rfl, _, rfl, ?_⟩, fun e => ?_, fun e => ⟨by omega, fun Q2 q2 => ⟨_, rfl, _, rfl, _, cl, ns, i, n, rfl, ⟨ca, dxc, rfl, hca4⟩, cok, of_decide_eq_true e, n1, q2 I4 H4 _ (Go.refl g4.j) ?_⟩⟩⟩
          · have e : decide (V.str cl.w = V.str "join") = isJoin cl := by
              unfold isJoin
              by_cases h : cl.w = "join"
              · rw [eq_str h, decide_eq_true h]
              · rw [ne_str h, decide_eq_false h]
            rw [e]
            exact q2
          · rw [take_snoc hcm, List.filter_append, List.filter_cons, e, hz]
            simp
          · rw [take_snoc hcm, List.filter_append, List.filter_cons, e, hz]
            simp
        intro I4 H4 zs g4 iD2 hL2 hz
        rw [hcl, List.take_length] at hz
        subst hz
        refine ⟨D2, _, rfl, SqL.of hL2, _, _, rfl, rfl, ?_⟩
        refine ⟨_, rfl, _, _, rfl, rfl, I4, some (.ref rl), x7, Go.trans F g0.j g2 g4, ?_⟩
        rw [es1, es2]
        rfl
    · rintro σ H2 ⟨I2, x6, x7, g2, rfl⟩
      rw [hvl, List.take_length, ← es]
      refine ⟨_, rfl, _, rfl, two_le, fun t ht => ?_⟩
      refine q _ _ _ (Go.trans F j g0 (Go.trans F g0.j g2 (Go.new F g2.j ht _))) ⟨t, rfl, upd_same⟩
end
end JR
/-! J10: joins and rounds. -/
namespace JR
open PySem PySem.Spec PyProof.Rows L2
section
variable {P : Program} {w : World} {K : PySem.W.Frag} {mg : Str → Option Value} {base : Heap} {CC CB CK : Addr}
theorem found_0 (T : Tx K mg CC CB CK) : MtC (RoomD 0) P w K mg base CK "found" (sp_Counter_found CC CB CK 0) := by
  obtain ⟨f, fd, F, hm⟩ := T.m_Counter_found
  refine ⟨f, fd, ["self", "name", "size"], fnC_none fun vs H Q E h => ?_, hm, T.l_Counter, F.bindsN (fun _ _ _ _ _ _ us hl => match us, hl with | [_, _, _], _ => rfl)⟩
  obtain ⟨I, c, d, bk, sk, ns, Ns, i, p, n, rfl, j, hc, hb, ok, hN, ⟨_, _, _, _, hd⟩, q⟩ := h
  exact absurd hd (Nat.not_lt_zero _)
theorem found_all (T : Tx K mg CC CB CK) (c_Book_plan : Mt P w K mg base 1 CB "plan" (sp_Book_plan CC CB)) (c_plain_joins : Fn P w K mg base 1 "plain_joins" (sp_plain_joins)) (c_Book_goal_of : Mt P w K mg base 4 CB "goal_of" (sp_Book_goal_of CC CB)) (c_Book_program : Mt P w K mg base 1 CB "program" (sp_Book_program CC CB)) (c_places_between : Fn P w K mg base 1 "places_between" (sp_places_between CC)) (c_deeds_at : Fn P w K mg base 2 "deeds_at" (sp_deeds_at CC)) :
    ∀ D : Nat, MtC (RoomD (2 * D)) P w K mg base CK "found" (sp_Counter_found CC CB CK D)
  | 0 => found_0 T
  | D + 1 => found_of T c_Book_plan c_plain_joins c_Book_goal_of c_Book_program c_places_between c_deeds_at (both_of T (found_all T c_Book_plan c_plain_joins c_Book_goal_of c_Book_program c_places_between c_deeds_at D))
theorem ok_Counter_both (T : Tx K mg CC CB CK) (c_Book_plan : Mt P w K mg base 1 CB "plan" (sp_Book_plan CC CB)) (c_plain_joins : Fn P w K mg base 1 "plain_joins" (sp_plain_joins)) (c_Book_goal_of : Mt P w K mg base 4 CB "goal_of" (sp_Book_goal_of CC CB)) (c_Book_program : Mt P w K mg base 1 CB "program" (sp_Book_program CC CB)) (c_places_between : Fn P w K mg base 1 "places_between" (sp_places_between CC)) (c_deeds_at : Fn P w K mg base 2 "deeds_at" (sp_deeds_at CC)) : Mt P w K mg base 100 CK "both" (sp_Counter_both CC CB CK 123) :=
  (both_of (D := 123) T (found_all T c_Book_plan c_plain_joins c_Book_goal_of c_Book_program c_places_between c_deeds_at 123)).mt (room_D (by decide))
def flK1 (b : V) : List (Str × V) := [("shelf", b)]
theorem one_lt (v : V) : (flK1 v).length < 1000 := by
  show 1 < 1000
  decide
def sp_Counter___init__ (CK : Addr) : Sp := fun vs H Q _ => ∃ (p dx : Addr) (v : V), vs = [.ref p, v] ∧ H p = some (.ins CK dx []) ∧
  ∀ d, H d = none → Q .non (upd (upd (upd H p (.ins CK dx (flK1 v))) d (.dT [])) p (.ins CK dx (flK v d)))
theorem mk_Counter (T : Tx K mg CC CB CK) : Mr P w K mg base 1 "Counter" CK (sp_Counter___init__ CK) [] := by
  obtain ⟨f, fd, F, M, hm⟩ := T.k_Counter
  refine ⟨f, fd, ["self", "book"], [], F.ok sc_Counter___init__ (fun vs H Q E h => ?_) (fun cdv A outer s H vs Q E hr h => ?_), M, hm, F.bindsN (fun _ _ _ _ _ _ us hl => match us, hl with | [_, _], _ => rfl), .nil⟩
  · obtain ⟨p, dx, v, rfl, _⟩ := h
    rfl
  · obtain ⟨p, dx, v, rfl, hp, q⟩ := h
    suffices h : ∃ tt, PSs (cxOf CX0 P w K mg base N_Counter___init__ "Counter.__init__" (defScope s_Counter___init__) f cdv A outer s H E).nox (defBody s_Counter___init__) tt ∧ tt { nx := fun _ H' => Q .non H', rt := Q } (start N_Counter___init__ [.ref p, v]) H by
      obtain ⟨t, h1, h2⟩ := h
      exact ⟨t, h1.nox, h2⟩
    refine ⟨_, (pss_cons (ps_fld (pv 0) (pv 1) rfl)
      (pss_one (ps_fld (pv 0) pe_dnewT rfl))), ?_⟩
    refine ⟨_, rfl, _, rfl, p, CK, dx, [], rfl, hp, T.l_Counter, T.n_Counter_shelf, (by show 0 < 1000; decide), ?_⟩
    have e1 : putF "shelf" v [] = flK1 v := by kernel_rfl
    rw [e1]
    intro d hd
    have hpd : p ≠ d := fun e => by rw [← e, upd_same] at hd; cases hd
    refine ⟨_, rfl, p, CK, dx, flK1 v, rfl, ?_, T.l_Counter, T.n_Counter_known, one_lt _, ?_⟩
    · rw [upd_ne hpd, upd_same]
    have e2 : putF "known" (V.ref d) (flK1 v) = flK v d := by kernel_rfl
    rw [e2]
    rw [upd_ne hpd.symm] at hd
    exact q d hd
theorem counter_made {I H : Hp} {x dx d : Addr} {b : V} {sk : List Pl} {ns : List Str} {Ns : List Int} (j : Same I H) (hx : H x = none) (hdx : H dx = none) (ne : dx ≠ x) (hd : (upd (upd H dx (.own x)) x (.ins CK dx [])) d = none) :
    Jk d sk ns Ns (upd I x (.ins CK dx (flK b d))) (upd (upd (upd (upd (upd H dx (.own x)) x (.ins CK dx [])) x (.ins CK dx (flK1 b))) d (.dT [])) x (.ins CK dx (flK b d))) ∧
    ∀ a u, H a = some u → (upd (upd (upd (upd (upd H dx (.own x)) x (.ins CK dx [])) x (.ins CK dx (flK1 b))) d (.dT [])) x (.ins CK dx (flK b d))) a = some u ∧ ¬ A1 d a := by
  have dx1 : d ≠ x := fun e => by rw [e, upd_same] at hd; cases hd
  rw [upd_ne dx1] at hd
  have dx2 : d ≠ dx := fun e => by rw [e, upd_same] at hd; cases hd
  rw [upd_ne dx2] at hd
  have hs : ∀ a u, H a = some u → (upd (upd (upd (upd (upd H dx (.own x)) x (.ins CK dx [])) x (.ins CK dx (flK1 b))) d (.dT [])) x (.ins CK dx (flK b d))) a = some u ∧ ¬ A1 d a := fun a u e => by
    have a1 : a ≠ x := ne_of_none e hx
    have a2 : a ≠ dx := ne_of_none e hdx
    have a3 : a ≠ d := ne_of_none e hd
    rw [upd_ne a1, upd_ne a3, upd_ne a1, upd_ne a1, upd_ne a2]
    exact ⟨e, a3⟩
  refine ⟨⟨fun a u e => ?_, ?_, .dT [], ?_, [], rfl, kn_0⟩, hs⟩
  · by_cases h : a = x
    · subst h
      rw [upd_same] at e ⊢
      exact e
    · rw [upd_ne h] at e
      exact (hs a u (j _ _ e)).1
  · rw [upd_ne dx1]
    exact j.free hd
  · rw [upd_ne dx1, upd_same]
def sp_joins (CC CB : Addr) : Sp := fun vs H Q _ => ∃ (I : Hp) (bk : V) (sk : List Pl) (ns : List Str) (i : Nat) (p : Pl) (n : Int), vs = [bk, .str p.name, .int n] ∧ Same I H ∧ BookAt CC CB I bk sk ∧ SkOk ns sk ∧ sk[i]? = some p ∧ 1 ≤ n ∧ n ≤ 1000000000000 ∧
  ∀ H', Same H H' → Q (.int (spent sk p.name n).1) H'
def sp_rounds (CC CB : Addr) : Sp := fun vs H Q _ => ∃ (I : Hp) (bk : V) (sk : List Pl) (ns : List Str) (i : Nat) (p : Pl) (n : Int), vs = [bk, .str p.name, .int n] ∧ Same I H ∧ BookAt CC CB I bk sk ∧ SkOk ns sk ∧ sk[i]? = some p ∧ 1 ≤ n ∧ n ≤ 1000000000000 ∧
  ∀ H', Same H H' → Q (.int (spent sk p.name n).2) H'
theorem ok_joins (T : Tx K mg CC CB CK) (c_check_book : Fn P w K mg base 1 "check_book" (sp_check_book CC CB)) (c_check_plan : Fn P w K mg base 2 "check_plan" (sp_check_plan CC CB)) (c_check_size : Fn P w K mg base 3 "check_size" (sp_check_size)) (c_Counter_both : Mt P w K mg base 100 CK "both" (sp_Counter_both CC CB CK 123)) (c_mkCounter : Mr P w K mg base 1 "Counter" CK (sp_Counter___init__ CK) []) : Fn P w K mg base 101 "joins" (sp_joins CC CB) := by
  refine T.f_joins.fn sc_joins (fun _ _ _ _ _ _ us hl => match us, hl with | [_, _, _], _ => rfl) (fun vs H Q E h => ?_) (fun f cdv A outer s H vs Q E hr h => ?_)
  · obtain ⟨I, bk, sk, ns, i, p, n, rfl, _⟩ := h
    rfl
  · obtain ⟨I, bk, sk, ns, i, p, n, rfl, j, hb, ok, hp, n1, nm, q⟩ := h
    obtain ⟨b, dxb, bt, bd, bkv, rfl, hbI, hb2⟩ := id hb
    refine ⟨_, (pss_cons (ps_expr (pe_fn c_check_book hr (by decide) (by rfl) (pa_cons (pv 0) pa_nil)))
      (pss_cons (ps_expr (pe_fn c_check_plan hr (by decide) (by rfl) (pa_cons (pv 0) (pa_cons (pv 1) pa_nil))))
      (pss_cons (ps_expr (pe_fn c_check_size hr (by decide) (by rfl) (pa_cons (pv 2) (pa_cons (C8.pe_gc rfl T.c_MOST_SIZE) pa_nil))))
      (pss_one (ps_ret (pe_ix ix_tup (pe_met c_Counter_both hr (by decide) (pe_mkr c_mkCounter hr (by decide) (by rfl) (pa_cons (pv 0) pa_nil)) (pa_cons (pv 1) (pa_cons (pv 2) pa_nil))) pe_int (fun _ _ => rfl))))))), ?_⟩
    have hb0 := j _ _ hbI
    refine ⟨_, rfl, b, dxb, _, rfl, hb0, _, rfl, _, rfl, I, _, sk, ns, i, p, rfl, j, hb, ok, hp, _, rfl, n, 1000000000000, rfl, n1, nm, ?_⟩
    refine ⟨_, rfl, fun x dx hx hdx ne => ⟨x, dx, _, rfl, upd_same, fun d hd => ⟨rfl, ?_⟩⟩⟩
    obtain ⟨j3, hs3⟩ := counter_made (CK := CK) (b := .ref b) (sk := sk) (ns := ns) (Ns := [n]) j hx hdx ne hd
    refine ⟨x, dx, _, rfl, upd_same, fl_both _ _, _, rfl, _, rfl, _, x, d, _, sk, ns, [n], p.name, n, rfl, j3, ⟨dx, upd_same⟩, hb.mono (same_new (j.free hx) _), ok, (by show 1 ≤ 2; decide), .inr ⟨i, p, rfl, hp, n1, by omega, ⟨n, List.mem_singleton.mpr rfl, rch_0 n1 (by omega)⟩, ?_⟩, fun I4 H4 v g ⟨t, ev, ht⟩ => ?_⟩
    · have := dep_le (n := n) i (by omega)
      omega
    · subst ev
      rw [show spent0 sk p.name n = spent sk p.name n from if_neg (by omega)] at ht
      exact ⟨t, _, 0, _, rfl, rfl, SqT.of (g.j.1 _ _ ht), atI_nat (j := 0) rfl, q H4 fun a u e => g.k a u (fun z => hs3 a u e |>.2 z) (hs3 a u e).1⟩
theorem ok_rounds (T : Tx K mg CC CB CK) (c_check_book : Fn P w K mg base 1 "check_book" (sp_check_book CC CB)) (c_check_plan : Fn P w K mg base 2 "check_plan" (sp_check_plan CC CB)) (c_check_size : Fn P w K mg base 3 "check_size" (sp_check_size)) (c_Counter_both : Mt P w K mg base 100 CK "both" (sp_Counter_both CC CB CK 123)) (c_mkCounter : Mr P w K mg base 1 "Counter" CK (sp_Counter___init__ CK) []) : Fn P w K mg base 101 "rounds" (sp_rounds CC CB) := by
  refine T.f_rounds.fn sc_rounds (fun _ _ _ _ _ _ us hl => match us, hl with | [_, _, _], _ => rfl) (fun vs H Q E h => ?_) (fun f cdv A outer s H vs Q E hr h => ?_)
  · obtain ⟨I, bk, sk, ns, i, p, n, rfl, _⟩ := h
    rfl
  · obtain ⟨I, bk, sk, ns, i, p, n, rfl, j, hb, ok, hp, n1, nm, q⟩ := h
    obtain ⟨b, dxb, bt, bd, bkv, rfl, hbI, hb2⟩ := id hb
    refine ⟨_, (pss_cons (ps_expr (pe_fn c_check_book hr (by decide) (by rfl) (pa_cons (pv 0) pa_nil)))
      (pss_cons (ps_expr (pe_fn c_check_plan hr (by decide) (by rfl) (pa_cons (pv 0) (pa_cons (pv 1) pa_nil))))
      (pss_cons (ps_expr (pe_fn c_check_size hr (by decide) (by rfl) (pa_cons (pv 2) (pa_cons (C8.pe_gc rfl T.c_MOST_SIZE) pa_nil))))
      (pss_one (ps_ret (pe_ix ix_tup (pe_met c_Counter_both hr (by decide) (pe_mkr c_mkCounter hr (by decide) (by rfl) (pa_cons (pv 0) pa_nil)) (pa_cons (pv 1) (pa_cons (pv 2) pa_nil))) pe_int (fun _ _ => rfl))))))), ?_⟩
    have hb0 := j _ _ hbI
    refine ⟨_, rfl, b, dxb, _, rfl, hb0, _, rfl, _, rfl, I, _, sk, ns, i, p, rfl, j, hb, ok, hp, _, rfl, n, 1000000000000, rfl, n1, nm, ?_⟩
    refine ⟨_, rfl, fun x dx hx hdx ne => ⟨x, dx, _, rfl, upd_same, fun d hd => ⟨rfl, ?_⟩⟩⟩
    obtain ⟨j3, hs3⟩ := counter_made (CK := CK) (b := .ref b) (sk := sk) (ns := ns) (Ns := [n]) j hx hdx ne hd
    refine ⟨x, dx, _, rfl, upd_same, fl_both _ _, _, rfl, _, rfl, _, x, d, _, sk, ns, [n], p.name, n, rfl, j3, ⟨dx, upd_same⟩, hb.mono (same_new (j.free hx) _), ok, (by show 1 ≤ 2; decide), .inr ⟨i, p, rfl, hp, n1, by omega, ⟨n, List.mem_singleton.mpr rfl, rch_0 n1 (by omega)⟩, ?_⟩, fun I4 H4 v g ⟨t, ev, ht⟩ => ?_⟩
    · have := dep_le (n := n) i (by omega)
      omega
    · subst ev
      rw [show spent0 sk p.name n = spent sk p.name n from if_neg (by omega)] at ht
      exact ⟨t, _, 1, _, rfl, rfl, SqT.of (g.j.1 _ _ ht), atI_nat (j := 1) rfl, q H4 fun a u e => g.k a u (fun z => hs3 a u e |>.2 z) (hs3 a u e).1⟩
end
end JR
/-! J11: the law's texts, its book. -/
namespace JR
open PySem PySem.Spec PyProof.Rows L2
section
variable {P : Program} {w : World} {K : PySem.W.Frag} {mg : Str → Option Value} {base : Heap} {CC CB CK : Addr}
theorem len_cat (x y : Str) : (x ++ y).length = x.length + y.length := by rw [str_len, cd_cat, List.length_append, ← str_len, ← str_len]
theorem len_dig (n : Nat) : (dig n).length = 1 := rfl
theorem len_lit {x : Str} {k : Nat} (h : (cd x).length ≤ k) : x.length ≤ k := by rw [str_len]; exact h
theorem cat_nil (x : Str) : x ++ "" = x := by
  rw [cat_S, show cd "" = [] by decide +kernel, List.append_nil, S_cd]
theorem cl_lens {ns : List Str} {i : Nat} {c : Cl} (hn : ∀ n ∈ ns, n ∈ menu) (h : ClOk ns i c) : c.w.length ≤ 8 ∧ c.side.length ≤ 8 ∧ c.lab.length ≤ 8 ∧ c.far ≤ 4 := by
  have e0 : ("" : Str).length ≤ 8 := by decide +kernel
  rcases h.kd with ⟨e, e1, e2, e3, _⟩ | ⟨e, hs, _, h2, e3⟩
  · rw [e, e1, e2]
    exact ⟨by decide +kernel, e0, len_lit (menu_len (hn _ e3)), by decide⟩
  · rw [e3]
    refine ⟨?_, ?_, e0, h2⟩
    · rcases e with e | e | e <;> rw [e] <;> decide +kernel
    · rcases hs with e | e <;> rw [e] <;> decide +kernel
theorem le_line {n : Nat} (h : n ≤ 100) : n ≤ sizeLine := Nat.le_trans h (by decide)
theorem small_log {n : Nat} (h : n ≤ 9) : ((n : Nat) : Int).natAbs.log2 < 1920 := by
  have : n = 0 ∨ n = 1 ∨ n = 2 ∨ n = 3 ∨ n = 4 ∨ n = 5 ∨ n = 6 ∨ n = 7 ∨ n = 8 ∨ n = 9 := by omega
  rcases this with e | e | e | e | e | e | e | e | e | e <;> subst e <;> decide +kernel
def sp__law_clause_text : Sp := fun vs H Q _ => ∃ (v : V) (c : Cl) (ns : List Str) (i : Nat), vs = [v] ∧ ClAt H v c ∧ (∀ n ∈ ns, n ∈ menu) ∧ ClOk ns i c ∧ Q (.str (SX.S (clT c))) H
theorem ok__law_clause_text (T : Tx K mg CC CB CK)  : Fn P w K mg base 1 "_law_clause_text" (sp__law_clause_text) := by
  refine T.f__law_clause_text.fn sc__law_clause_text (fun _ _ _ _ _ _ us hl => match us, hl with | [_], _ => rfl) (fun vs H Q E h => ?_) (fun f cdv A outer s H vs Q E hr h => ?_)
  · obtain ⟨v, c, ns, i, rfl, _⟩ := h
    rfl
  · obtain ⟨v, c, ns, i, rfl, ⟨a, rfl, ha⟩, hn, ok, q⟩ := h
    obtain ⟨l1, l2, l3, l4⟩ := cl_lens hn ok
    have s3 := ok.s3
    have hr9 := ok.r
    have hlo : (" of " : Str).length = 4 := by decide +kernel
    have hlc : ("call " : Str).length = 5 := by decide +kernel
    have hln : (" on " : Str).length = 4 := by decide +kernel
    have hls : (" " : Str).length = 1 := by decide +kernel
    have hl0 : ("" : Str).length = 0 := by decide +kernel
    have hsp : (spot c).length = 6 := by
      unfold spot
      rw [len_cat, len_cat, hlo]
      rfl
    refine ⟨_, (pss_cons (ps_asg (pv 0) (pg_tup rfl (pgs_cons (pg_name (i := 1) sc__law_clause_text.nd rfl (Or.inl rfl)) (pgs_cons (pg_name (i := 2) sc__law_clause_text.nd rfl (Or.inl rfl)) (pgs_cons (pg_name (i := 3) sc__law_clause_text.nd rfl (Or.inl rfl)) (pgs_cons (pg_name (i := 4) sc__law_clause_text.nd rfl (Or.inl rfl)) (pgs_cons (pg_name (i := 5) sc__law_clause_text.nd rfl (Or.inl rfl)) (pgs_cons (pg_name (i := 6) sc__law_clause_text.nd rfl (Or.inl rfl)) pgs_nil))))))))
      (pss_cons (ps_set (i := 7) sc__law_clause_text.nd rfl (Or.inl rfl) (pe_op op_add_str (pe_op op_add_str (pe_callTy call_str_int (by rfl) T.b_str (by decide +kernel) (pa_cons (pv 2) pa_nil)) pe_str) (pe_callTy call_str_int (by rfl) T.b_str (by decide +kernel) (pa_cons (pv 3) pa_nil))))
      (pss_cons (ps_if (pt_cmpR op_eq (pv 1) pe_str (nomark _))
        (pss_one (ps_ret (pe_op op_add_str (pe_op op_add_str (pe_op op_add_str pe_str (pv 6)) pe_str) (pv 7))))
        pss_nil)
      (pss_one (ps_ret (pe_op op_add_str (pe_op op_add_str (pe_op op_add_str (pv 1) pe_str) (pv 7)) (pe_ifExp (pt_cmpR op_eq (pv 1) pe_str (nomark _)) pe_str (pe_op op_add_str (pe_op op_add_str (pe_op op_add_str pe_str (pv 4)) pe_str) (pe_callTy call_str_int (by rfl) T.b_str (by decide +kernel) (pa_cons (pv 5) pa_nil)))))))))), ?_⟩
    refine ⟨_, rfl, a, _, rfl, SqT.of ha, rfl, _, _, rfl, _, _, rfl, _, _, rfl, _, _, rfl, _, _, rfl, _, _, rfl, rfl, ?_⟩
    refine ⟨_, rfl, _, rfl, small_log (by omega), ?_⟩
    rw [str_dig (by omega)]
    refine ⟨_, _, rfl, rfl, le_line (by rw [len_dig, hlo]; omega), ?_⟩
    refine ⟨_, rfl, _, rfl, small_log (by omega), ?_⟩
    rw [str_dig (by omega)]
    refine ⟨_, _, rfl, rfl, le_line (by rw [len_cat, len_dig, len_dig, hlo]; omega), ?_⟩
    rw [show dig c.rest ++ " of " ++ dig c.step = spot c from rfl]
    refine ⟨_, rfl, rfl, _, rfl, ?_⟩
    by_cases hw : c.w = "call"
    · refine iteB (eq_str hw) ⟨_, rfl, _, _, rfl, rfl, le_line (by rw [hlc]; omega), _, _, rfl, rfl, le_line (by rw [len_cat, hlc, hln]; omega), _, rfl, _, _, rfl, rfl, le_line (by rw [len_cat, len_cat, hlc, hln, hsp]; omega), ?_⟩
      rw [txt_call hw]
      exact q
    · refine iteC (ne_str hw) ⟨_, rfl, _, _, rfl, rfl, le_line (by rw [hls]; omega), _, rfl, _, _, rfl, rfl, le_line (by rw [len_cat, hls, hsp]; omega), _, rfl, rfl, _, rfl, ?_⟩
      by_cases hc : c.w = "clear"
      · refine iteB (eq_str hc) ⟨_, _, rfl, rfl, le_line (by rw [len_cat, len_cat, hls, hsp, hl0]; omega), ?_⟩
        rw [txt_clear hc]
        exact q
      · refine iteC (ne_str hc) ⟨_, rfl, _, _, rfl, rfl, le_line (by rw [hls]; omega), _, _, rfl, rfl, le_line (by rw [len_cat, hls]; omega), _, rfl, _, rfl, small_log (by omega), ?_⟩
        rw [str_dig (by omega)]
        refine ⟨_, _, rfl, rfl, le_line (by rw [len_cat, len_cat, hls, len_dig]; omega), _, _, rfl, rfl, le_line (by rw [len_cat, len_cat, len_cat, len_cat, len_cat, hls, hsp, len_dig]; omega), ?_⟩
        rw [txt_other hc hw]
        exact q
def sp__law_goal_text : Sp := fun vs H Q _ => ∃ (v : V) (gw : Str) (gk : Nat), vs = [v] ∧ GoAt H v gw gk ∧ GoOk gw gk ∧ Q (.str (goT gw gk)) H
theorem ok__law_goal_text (T : Tx K mg CC CB CK)  : Fn P w K mg base 1 "_law_goal_text" (sp__law_goal_text) := by
  refine T.f__law_goal_text.fn sc__law_goal_text (fun _ _ _ _ _ _ us hl => match us, hl with | [_], _ => rfl) (fun vs H Q E h => ?_) (fun f cdv A outer s H vs Q E hr h => ?_)
  · obtain ⟨v, gw, gk, rfl, _⟩ := h
    rfl
  · obtain ⟨v, gw, gk, rfl, ⟨a, rfl, ha⟩, ok, q⟩ := h
    have hls : (" " : Str).length = 1 := by decide +kernel
    have hl0 : ("" : Str).length = 0 := by decide +kernel
    refine ⟨_, (pss_one (ps_ret (pe_op op_add_str (pe_ix ix_tup (pv 0) pe_int (fun _ _ => rfl)) (pe_ifExp (pt_cmpR op_eq (pe_ix ix_tup (pv 0) pe_int (fun _ _ => rfl)) pe_str (nomark _)) (pe_op op_add_str pe_str (pe_callTy call_str_int (by rfl) T.b_str (by decide +kernel) (pa_cons (pe_ix ix_tup (pv 0) pe_int (fun _ _ => rfl)) pa_nil))) pe_str)))), ?_⟩
    refine ⟨_, rfl, a, _, 0, _, rfl, rfl, SqT.of ha, atI_nat (j := 0) rfl, _, rfl, a, _, 0, _, rfl, rfl, SqT.of ha, atI_nat (j := 0) rfl, rfl, _, rfl, ?_⟩
    by_cases hl : gw = "last"
    · subst hl
      have k4 : gk ≤ 4 := by
        rcases ok.kd with ⟨e, _⟩ | ⟨e, _⟩ | ⟨_, _, h⟩
        · exact absurd e (by decide +kernel)
        · exact absurd e (by decide +kernel)
        · exact h
      refine iteB (eq_str rfl) ⟨_, rfl, a, _, 1, _, rfl, rfl, SqT.of ha, atI_nat (j := 1) rfl, _, rfl, small_log (by omega), ?_⟩
      rw [str_dig (by omega)]
      refine ⟨_, _, rfl, rfl, le_line (by rw [hls, len_dig]; omega), _, _, rfl, rfl, le_line (by rw [len_cat, hls, len_dig]; decide +kernel), ?_⟩
      rw [txt_last]
      exact q
    · have e : goT gw gk = gw := if_neg hl
      have l8 : gw.length ≤ 8 := by
        rcases ok.kd with ⟨e, _⟩ | ⟨e, _⟩ | ⟨e, _⟩ <;> rw [e] <;> decide +kernel
      refine iteC (ne_str hl) ⟨_, _, rfl, rfl, le_line (by rw [hl0]; omega), ?_⟩
      rw [cat_nil, ← e]
      exact q
theorem sumN_le {b : Nat} : ∀ {l : List Nat}, (∀ y ∈ l, y ≤ b) → l.sum ≤ l.length * b
  | [], _ => by simp
  | x :: r, h => by
    rw [List.sum_cons, List.length_cons, Nat.succ_mul]
    have h1 := h x List.mem_cons_self
    have h2 := sumN_le (l := r) fun y hy => h y (List.mem_cons_of_mem _ hy)
    omega
def tcScope : Stmt → Scope
  | .Assign _ (.Call _ [.ListComp _ _ sc _] _ _) _ => sc
  | _ => ⟨.function, [], false, false, []⟩
abbrev oS__law_parts : Scope := tcScope ((defBody s__law_parts).getD 0 (.Pass ⟨0, 0, 0, 0⟩))
def sp__law_parts : Sp := fun vs H Q _ => ∃ (I : Hp) (v : V) (p : Pl) (ns : List Str) (i : Nat), vs = [v] ∧ Same I H ∧ PlAt I v p ∧ (∀ n ∈ ns, n ∈ menu) ∧ PlOk ns i p ∧ ∀ I' H' x, Go A0 Same I H I' H' → PlanAt I' x p → Q x H'
theorem ok__law_parts (T : Tx K mg CC CB CK) (c__law_clause_text : Fn P w K mg base 1 "_law_clause_text" (sp__law_clause_text)) (c__law_goal_text : Fn P w K mg base 1 "_law_goal_text" (sp__law_goal_text)) : Fn P w K mg base 2 "_law_parts" (sp__law_parts) := by
  refine T.f__law_parts.fn sc__law_parts (fun _ _ _ _ _ _ us hl => match us, hl with | [_], _ => rfl) (fun vs H Q E h => ?_) (fun f cdv A outer s H vs Q E hr h => ?_)
  · obtain ⟨I, v, p, ns, i, rfl, _⟩ := h
    rfl
  · obtain ⟨I, v, p, ns, i, rfl, j, ⟨a, g, r, rfl, ha, hg, r1, rv, er, hr1, hrP⟩, hn, ok, q⟩ := h
    subst er
    have ha0 := j _ _ ha
    have hr0 := j _ _ hr1
    have hvl : rv.length = p.rds.length := hrP.length
    have r3 := ok.r3
    refine ⟨_, (pss_cons (ps_set (i := 1) sc__law_parts.nd rfl (Or.inl rfl) (pe_callTy call_tuple_of (by rfl) T.b_tuple (by decide +kernel) (pa_cons (pe_lc (own := [("_law_each", 2)]) (g := gName 2) (tt := tYes) rfl sc__law_parts.nd (pi_list (pe_ix ix_list (pv 0) pe_int (fun _ _ => rfl))) (blkOk_by (own := [("_law_each", 2)]) (N := N__law_parts) (sc := defScope s__law_parts) (by decide +kernel))
        (fun _ _ _ _ _ => pg_name (i := 2) sc__law_parts.nd rfl (Or.inl rfl)) (fun _ _ _ _ _ => pts_nil)
        (fun _ _ _ _ _ => (peK_join K (pe_join pe_str (pe_lc (own := [("_law_clause_here", 3)]) (g := gName 3) (tt := tYes) rfl sc__law_parts.nd (piK_list K (pv 2)) (blkOk_by (own := [("_law_clause_here", 3)]) (N := N__law_parts) (sc := relS oS__law_parts (defScope s__law_parts)) (by decide +kernel))
        (fun _ _ _ _ _ => pg_name (i := 3) sc__law_parts.nd rfl (Or.inl rfl)) (fun _ _ _ _ _ => pts_nil)
        (fun _ _ _ _ _ => (pe_fn c__law_clause_text hr (by decide) (by rfl) (pa_cons (pv 3) pa_nil)))))))) pa_nil)))
      (pss_one (ps_ret (pe_tup (pa_cons (pe_ix ix_list (pv 0) pe_int (fun _ _ => rfl)) (pa_cons (pe_fn c__law_goal_text hr (by decide) (by rfl) (pa_cons (pe_ix ix_list (pv 0) pe_int (fun _ _ => rfl)) pa_nil)) (pa_cons (pe_ix ix_list (pv 0) pe_int (fun _ _ => rfl)) (pa_cons (pv 1) pa_nil)))))))), ?_⟩
    refine ⟨_, rfl, a, _, 3, _, rfl, rfl, SqL.of ha0, atI_nat (j := 3) rfl, r1, rfl, ⟨rv, SqL.of hr0⟩, fun D hD => ?_⟩
    refine lc_goY (m := 2) walk_list fr0 j hD (fun k I' ys => ys = (p.rds.take k).map fun r => V.str (SX.S (rdT r))) rfl (fun H' k => SqL.of (k r1 _ (fun z => z) hr0)) (fun _ _ _ _ y => y.1) ?_ ?_
    · rintro k x I4 H4 zs hk ⟨_, hx⟩ g4 hz
      obtain ⟨rd, hrd, b, cv, rfl, hb, hcP⟩ := paired_at hrP hx
      have hb4 := g4.j _ _ (g4.s _ _ hb)
      have rok := ok.ok rd (List.mem_of_getElem? hrd)
      have l3 := rok.l3
      have hcl : cv.length = rd.length := hcP.length
      refine ⟨by rw [hz, List.length_map, List.length_take]; omega, fun Q2 q2 => ?_⟩
      refine ⟨⟨_, rfl⟩, _, rfl, b, rfl, ⟨cv, SqL.of hb4⟩, fun D2 hD2 => ?_⟩
      refine lc_goY (m := 3) walk_list fr0 g4.j hD2 (fun k I' ys => ys = ((rd.take k).map fun c => SX.S (clT c)).map V.str) rfl (fun H' k => SqL.of (k b _ (fun z => z) hb4)) (fun _ _ _ _ y => y.1) ?_ ?_
      · rintro m y I5 H5 ws hm ⟨_, hy⟩ g5 hw
        obtain ⟨c, hc, hca⟩ := paired_at hcP hy
        refine ⟨by rw [hw, List.length_map, List.length_map, List.length_take]; omega, fun Q3 q3 => ⟨_, rfl, y, c, ns, i, rfl, (hca.mono g4.s).mono g5.s |>.mono g5.j, hn, rok.ok c (List.mem_of_getElem? hc), q3 I5 H5 _ (Go.refl g5.j) ?_⟩⟩
        rw [hw, take_snoc hc, List.map_append, List.map_append]
        rfl
      intro I5 H5 ws g5 iD2 hL2 hw
      rw [hcl, List.take_length] at hw
      subst hw
      refine ⟨_, D2, _, rfl, rfl, .inl (SqL.of hL2), ?_, ?_⟩
      · have h1 := sumN_le (b := 54) (l := (rd.map fun c => SX.S (clT c)).map (·.length)) fun y hy => by
          rw [List.map_map] at hy
          obtain ⟨c, hc, e⟩ := List.mem_map.mp hy
          subst e
          show (SX.S (clT c)).length ≤ 54
          rw [SX.S_len]
          exact clT_len hn (rok.ok c hc)
        rw [List.length_map, List.length_map] at h1
        have h2 : ("; " : Str).length = 2 := by decide +kernel
        rw [h2, List.length_map]
        omega
      · rw [show Txt.join "; " (rd.map fun c => SX.S (clT c)) = SX.S (rdT rd) by rw [← join_rd, List.map_map]; rfl]
        refine q2 I5 H5 _ g5 ?_
        rw [hz, take_snoc hrd, List.map_append]
        rfl
    intro I4 H4 zs g4 iD hL hz
    rw [hvl, List.take_length] at hz
    subst hz
    refine ⟨D, _, rfl, .inl ⟨SqL.of hL, fun l hl => ?_⟩⟩
    have g5 := Go.trans fr0 j g4 (Go.new fr0 g4.j hl (.tup (p.rds.map fun r => V.str (SX.S (rdT r)))))
    have hl5 : (upd I4 l (.tup (p.rds.map fun r => V.str (SX.S (rdT r))))) l = _ := upd_same
    generalize upd H4 l (.tup (p.rds.map fun r => V.str (SX.S (rdT r)))) = H5 at *
    generalize upd I4 l (.tup (p.rds.map fun r => V.str (SX.S (rdT r)))) = I5 at *
    have ha5 := g5.j _ _ (g5.s _ _ ha)
    refine ⟨_, rfl, a, _, 0, _, rfl, rfl, SqL.of ha5, atI_nat (j := 0) rfl, _, rfl, a, _, 1, _, rfl, rfl, SqL.of ha5, atI_nat (j := 1) rfl, g, p.gw, p.gk, rfl, (hg.mono g5.s).mono g5.j, ok.go, ?_⟩
    refine ⟨_, rfl, a, _, 2, _, rfl, rfl, SqL.of ha5, atI_nat (j := 2) rfl, _, rfl, ?_, fun t ht => ?_⟩
    · show 4 ≤ sizeLine
      decide
    exact q _ _ _ (Go.trans fr0 j g5 (Go.new fr0 g5.j ht _)) ⟨t, l, rfl, upd_same, same_new (g5.j.free ht) _ _ _ hl5⟩
def sp__law_vol (CC CB : Addr) : Sp := fun vs H Q _ => ∃ (I : Hp) (v : V) (sk : List Pl) (ns : List Str), vs = [v] ∧ Same I H ∧ SkAt I v sk ∧ SkOk ns sk ∧ sk ≠ [] ∧ ∀ I' H' x, Go A0 Same I H I' H' → BookAt CC CB I' x sk → Q x H'
theorem ok__law_vol (T : Tx K mg CC CB CK) (c__law_parts : Fn P w K mg base 2 "_law_parts" (sp__law_parts)) (c_mkBook : Mr P w K mg base 9 "Book" CB (sp_Book___init__ CC CB) []) : Fn P w K mg base 11 "_law_vol" (sp__law_vol CC CB) := by
  refine T.f__law_vol.fn sc__law_vol (fun _ _ _ _ _ _ us hl => match us, hl with | [_], _ => rfl) (fun vs H Q E h => ?_) (fun f cdv A outer s H vs Q E hr h => ?_)
  · obtain ⟨I, v, sk, ns, rfl, _⟩ := h
    rfl
  · obtain ⟨I, v, sk, ns, rfl, j, ⟨a, pvs, rfl, ha, hP⟩, ok, ne, q⟩ := h
    have ha0 := j _ _ ha
    have hvl : pvs.length = sk.length := hP.length
    have n3 := ok.n3
    have hsl := ok.l
    refine ⟨_, (pss_one (ps_ret (pe_mkr c_mkBook hr (by decide) (by rfl) (pa_cons (pe_callTy call_tuple_of (by rfl) T.b_tuple (by decide +kernel) (pa_cons (pe_lc (own := [("_law_plan_here", 1)]) (g := gName 1) (tt := tYes) rfl sc__law_vol.nd (pi_list (pv 0)) (blkOk_by (own := [("_law_plan_here", 1)]) (N := N__law_vol) (sc := defScope s__law_vol) (by decide +kernel))
        (fun _ _ _ _ _ => pg_name (i := 1) sc__law_vol.nd rfl (Or.inl rfl)) (fun _ _ _ _ _ => pts_nil)
        (fun _ _ _ _ _ => (pe_fn c__law_parts hr (by decide) (by rfl) (pa_cons (pv 1) pa_nil)))) pa_nil)) pa_nil)))), ?_⟩
    refine ⟨_, rfl, a, rfl, ⟨pvs, SqL.of ha0⟩, fun D hD => ?_⟩
    refine lc_goY (m := 1) walk_list fr0 j hD (fun k I' ys => Paired (PlanAt I') ys (sk.take k)) .nil (fun H' k => SqL.of (k a _ (fun z => z) ha0)) (fun _ _ _ _ y => y.1) ?_ ?_
    · rintro k x I4 H4 zs hk ⟨_, hx⟩ g4 hz
      obtain ⟨p, hp, hpv⟩ := paired_at hP hx
      have hzl := hz.length
      rw [List.length_take] at hzl
      refine ⟨by omega, fun Q2 q2 => ⟨_, rfl, I4, x, p, ns, k, rfl, g4.j, hpv.mono g4.s, ok.mn, ok.ok k p hp, fun I5 H5 v5 g5 h5 => q2 I5 H5 v5 g5 ?_⟩⟩
      show Paired (PlanAt I5) (zs ++ [v5]) (sk.take (k + 1))
      rw [take_snoc hp]
      exact (hz.mono fun _ _ z => z.mono g5.s).snoc h5
    intro I4 H4 zs g4 iD hL hz
    rw [hvl, List.take_length] at hz
    refine ⟨D, _, rfl, .inl ⟨SqL.of hL, fun l hl => ?_⟩⟩
    have g5 := Go.trans fr0 j g4 (Go.new fr0 g4.j hl (.tup zs))
    have hl5 : (upd I4 l (.tup zs)) l = _ := upd_same
    have hz5 : Paired (PlanAt (upd I4 l (.tup zs))) zs sk := hz.mono fun _ _ z => PlanAt.mono (same_new (g4.j.free hl) _) z
    generalize upd H4 l (.tup zs) = H5 at *
    generalize upd I4 l (.tup zs) = I5 at *
    intro x dx hx hdx nx
    have nA : I5 x = none := g5.j.free hx
    have sx : ∀ b u, b ≠ x → H5 b = some u → (upd (upd H5 dx (.own x)) x (.ins CB dx [])) b = some u := fun b u hb e => by rw [upd_ne hb, upd_ne (ne_of_none e hdx)]; exact e
    refine ⟨I5, x, dx, .ref l, sk, ns, rfl, ⟨fun b u e => sx b u (ne_of_none e nA) (g5.j _ _ e), nA, _, upd_same, trivial⟩, upd_same, ⟨l, zs, rfl, hl5, hz5⟩, ok, ne, fun I6 H6 t d kvs g6 et hx6 hd6 hk6 => ⟨rfl, ?_⟩⟩
    cases et
    have iX : I6 x = none := g6.j.2.1
    have s6 : Same I6 (upd I6 x (.ins CB dx (flB l d))) := same_new iX _
    refine q (upd I6 x (.ins CB dx (flB l d))) H6 _ ⟨(g5.s.trans g6.s).trans s6, fun b hb => ?_, fun b u nb e => ?_, fun b u e => ?_⟩ ⟨x, dx, l, d, kvs, rfl, upd_same, PlansAt.mono (g6.s.trans s6) ⟨l, zs, rfl, hl5, hz5⟩, s6 _ _ hd6, fun p hp => ?_⟩
    · have h5 : ∃ u, H5 b = some u := by
        cases e : H b with
        | none => exact absurd e hb
        | some u => exact ⟨u, g5.k b u (fun z => z) e⟩
      obtain ⟨u, h5⟩ := h5
      have bx : b ≠ x := ne_of_none h5 hx
      rw [upd_ne bx, g6.f b (by rw [sx b u bx h5]; simp), g5.f b hb]
    · have h5 := g5.k b u (fun z => z) e
      have bx : b ≠ x := ne_of_none h5 hx
      exact g6.k b u bx (sx b u bx h5)
    · by_cases bx : b = x
      · subst bx
        rw [upd_same] at e
        cases e
        exact hx6
      · rw [upd_ne bx] at e
        exact g6.j.1 _ _ e
    · obtain ⟨y, h1, h2⟩ := hk6 p hp
      exact ⟨y, h1, RdsOb.mono s6 h2⟩
end
end JR
/-! J12: the law's own count. -/
namespace JR
open PySem PySem.Spec PyProof.Rows L2
section
variable {P : Program} {w : World} {K : PySem.W.Frag} {mg : Str → Option Value} {base : Heap} {CC CB CK : Addr}
def sp__law_due : Sp := fun vs H Q _ => ∃ (g : V) (gw : Str) (gk k : Nat), vs = [g, .int k] ∧ GoAt H g gw gk ∧ GoOk gw gk ∧ k ≤ 3 ∧ ∀ t xs, H t = none → (xs.length : Int) = dueLen gw gk k → Q (.ref t) (upd H t (.tup xs))
theorem go_kd {gw : Str} {gk : Nat} (ok : GoOk gw gk) : gw = "all" ∨ gw = "before" ∨ (gw = "last" ∧ 1 ≤ gk ∧ gk ≤ 4) := by
  rcases ok.kd with ⟨h, _⟩ | ⟨h, _⟩ | h
  · exact .inl h
  · exact .inr (.inl h)
  · exact .inr (.inr h)
theorem ok__law_due (T : Tx K mg CC CB CK)  : Fn P w K mg base 1 "_law_due" (sp__law_due) := by
  refine T.f__law_due.fn sc__law_due (fun _ _ _ _ _ _ us hl => match us, hl with | [_, _], _ => rfl) (fun vs H Q E h => ?_) (fun f cdv A outer s H vs Q E hr h => ?_)
  · obtain ⟨g, gw, gk, k, rfl, _⟩ := h
    rfl
  · obtain ⟨g, gw, gk, k, rfl, ⟨a, rfl, ha⟩, ok, k3, q⟩ := h
    refine ⟨_, (pss_cons (ps_if (pt_cmpR op_eq (pe_ix ix_tup (pv 0) pe_int (fun _ _ => rfl)) pe_str (nomark _))
        (pss_one (ps_ret (pe_tupRg rfl (by rfl) T.b_tuple (prg_2 (by rfl) T.b_range (pe_callB (call_max2 rfl) (by rfl) T.b_max (by decide +kernel) (pa_cons pe_int (pa_cons (pe_op op_sub (pe_op op_add (pv 1) pe_int) (pe_ix ix_tup (pv 0) pe_int (fun _ _ => rfl))) pa_nil))) (pe_op op_add (pv 1) pe_int)))))
        pss_nil)
      (pss_one (ps_ret (pe_tupRg rfl (by rfl) T.b_tuple (prg_1 (by rfl) T.b_range (pe_ifExp (pt_cmpR op_eq (pe_ix ix_tup (pv 0) pe_int (fun _ _ => rfl)) pe_str (nomark _)) (pe_op op_add (pv 1) pe_int) (pv 1))))))), ?_⟩
    refine ⟨_, rfl, a, _, 0, _, rfl, rfl, SqT.of ha, atI_nat (j := 0) rfl, rfl, _, rfl, ?_⟩
    rcases go_kd ok with e | e | ⟨e, k1, k4⟩
    · subst e
      refine iteC (ne_str (by decide +kernel)) ⟨_, rfl, a, _, 0, _, rfl, rfl, SqT.of ha, atI_nat (j := 0) rfl, rfl, _, rfl, iteB (eq_str rfl) ⟨_, rfl, _, _, rfl, rfl, _, rfl, ?_, fun t ht => q t _ ht ?_⟩⟩
      · exact RgOk.of_le (by omega) (by omega) (by omega) (by omega)
      · unfold dueLen
        rw [rgV_length, if_neg (by decide +kernel), if_pos rfl]
        omega
    · subst e
      refine iteC (ne_str (by decide +kernel)) ⟨_, rfl, a, _, 0, _, rfl, rfl, SqT.of ha, atI_nat (j := 0) rfl, rfl, _, rfl, iteC (ne_str (by decide +kernel)) ⟨_, rfl, _, rfl, ?_, fun t ht => q t _ ht ?_⟩⟩
      · exact RgOk.of_le (by omega) (by omega) (by omega) (by omega)
      · unfold dueLen
        rw [rgV_length, if_neg (by decide +kernel), if_neg (by decide +kernel)]
        omega
    · subst e
      refine iteB (eq_str rfl) ⟨_, rfl, _, _, rfl, rfl, _, rfl, a, _, 1, _, rfl, rfl, SqT.of ha, atI_nat (j := 1) rfl, _, _, rfl, rfl, _, _, rfl, _, rfl, _, _, rfl, rfl, _, _, rfl, rfl, ?_, fun t ht => q t _ ht ?_⟩
      · by_cases h : (k : Int) + 1 - gk > 0
        · rw [if_pos h]
          exact RgOk.of_le (by omega) (by omega) (by omega) (by omega)
        · rw [if_neg h]
          exact RgOk.of_le (by omega) (by omega) (by omega) (by omega)
      · unfold dueLen
        rw [rgV_length, if_pos rfl]
        by_cases h : (k : Int) + 1 - gk > 0
        · rw [if_pos h]
          omega
        · rw [if_neg h]
          omega
def sp__law_below : Sp := fun vs H Q _ => ∃ (r s n : Int), vs = [.int r, .int s, .int n] ∧ 1 ≤ s ∧ s ≤ 3 ∧ Q (.int (below r s n)) H
theorem ok__law_below (T : Tx K mg CC CB CK)  : Fn P w K mg base 1 "_law_below" (sp__law_below) := by
  refine T.f__law_below.fn sc__law_below (fun _ _ _ _ _ _ us hl => match us, hl with | [_, _, _], _ => rfl) (fun vs H Q E h => ?_) (fun f cdv A outer s H vs Q E hr h => ?_)
  · obtain ⟨r, s, n, rfl, _⟩ := h
    rfl
  · obtain ⟨r, sv, n, rfl, s1, s3, q⟩ := h
    refine ⟨_, (pss_one (ps_ret (pe_ifExp (pt_cmpR op_le (pv 2) (pv 0) (nomark _)) pe_int (pe_op op_add pe_int (pe_op op_fdiv (pe_op op_sub (pe_op op_sub (pv 2) (pv 0)) pe_int) (pv 1)))))), ?_⟩
    refine ⟨_, rfl, _, rfl, _, _, rfl, rfl, _, rfl, ?_⟩
    unfold below at q
    by_cases h : n ≤ r
    · rw [if_pos h] at q
      exact iteB (decide_eq_true h) q
    · rw [if_neg h] at q
      exact iteC (decide_eq_false h) ⟨_, rfl, _, rfl, _, _, rfl, rfl, _, _, rfl, rfl, _, rfl, _, _, rfl, rfl, ⟨by show 0 < sv; omega, by show sv < 1073741824; omega⟩, _, _, rfl, rfl, q⟩
def sp__law_plain : Sp := fun vs H Q _ => ∃ (I : Hp) (g : V) (gw : Str) (gk : Nat) (n : Int), vs = [g, .int n] ∧ Same I H ∧ GoAt I g gw gk ∧ GoOk gw gk ∧ 1 ≤ n ∧ n ≤ 4 ∧ ∀ I' H' v, Go A0 Same I H I' H' → PrAt I' v ((plainL gw gk n).sum, mx (plainL gw gk n)) → Q v H'
theorem ok__law_plain (T : Tx K mg CC CB CK) (c__law_due : Fn P w K mg base 1 "_law_due" (sp__law_due)) : Fn P w K mg base 2 "_law_plain" (sp__law_plain) := by
  refine T.f__law_plain.fn sc__law_plain (fun _ _ _ _ _ _ us hl => match us, hl with | [_, _], _ => rfl) (fun vs H Q E h => ?_) (fun f cdv A outer s H vs Q E hr h => ?_)
  · obtain ⟨I, g, gw, gk, n, rfl, _⟩ := h
    rfl
  · obtain ⟨I, g, gw, gk, n, rfl, j, hg, ok, n1, n4, q⟩ := h
    refine ⟨_, (pss_cons (ps_setLc (i := 2) (own := [("_law_k", 3)]) (g := gName 3) (tt := tYes) rfl sc__law_plain.nd rfl rfl (sw_true rfl rfl rfl (by decide +kernel)) (pi_range1 (by rfl) T.b_range (pa_cons (pv 1) pa_nil)) (blkOk_by (own := [("_law_k", 3)]) (N := N__law_plain) (sc := defScope s__law_plain) (by decide +kernel))
        (fun _ _ _ _ _ => pg_name (i := 3) sc__law_plain.nd rfl (Or.inl rfl)) (fun _ _ _ _ _ => pts_nil)
        (fun _ _ _ _ _ => (pe_callB (call_max2 rfl) (by rfl) T.b_max (by decide +kernel) (pa_cons pe_int (pa_cons (pe_op op_sub (pe_callB (lenK_seq K) (by rfl) T.b_len (by decide +kernel) (pa_cons (pe_fn c__law_due hr (by decide) (by rfl) (pa_cons (pv 0) (pa_cons (pv 3) pa_nil))) pa_nil)) pe_int) pa_nil)))))
      (pss_one (ps_ret (pe_tup (pa_cons (pe_callB (cr_sum rfl) (by rfl) T.b_sum (by decide +kernel) (pa_cons (pv 2) pa_nil)) (pa_cons (pe_callB (cr_max rfl) (by rfl) T.b_max (by decide +kernel) (pa_cons (pv 2) pa_nil)) pa_nil)))))), ?_⟩
    refine ⟨_, rfl, n, rfl, by omega, by omega, fun D hD => ?_⟩
    refine lc_goY (m := 3) walk_range fr0 j hD (Tell fun k => V.int (max 0 (dueLen gw gk k - 1))) tell_0 (fun H' k => trivial) (fun _ _ _ _ y => y.1) ?_ ?_
    · rintro k x I4 H4 zs hk ⟨_, hx⟩ g4 hz
      subst hx
      refine ⟨by rw [hz.len]; omega, fun Q2 q2 => ?_⟩
      refine ⟨_, rfl, _, rfl, g, gw, gk, k, by show [g, V.int (0 + (k : Int))] = _; rw [show (0 : Int) + (k : Int) = k by omega], (hg.mono g4.s).mono g4.j, ok, by omega, fun t xs ht hxs => ?_⟩
      have g5 := Go.new fr0 g4.j ht (.tup xs)
      refine ⟨t, xs, rfl, .inr (SqT.of upd_same), _, _, rfl, rfl, _, _, rfl, q2 _ _ _ g5 (hz.snoc ?_)⟩
      rw [hxs]
      congr 1
      by_cases h : dueLen gw gk k - 1 > 0
      · rw [if_pos h]
        omega
      · rw [if_neg h]
        omega
    intro I4 H4 zs g4 iD hL hz
    have hzl : zs = (plainL gw gk n).map V.int := by
      rw [hz]
      unfold plainL
      rw [List.map_map]
      rfl
    subst hzl
    obtain ⟨pb, pln⟩ := plainL_bd (gw := gw) (gk := gk) (n := n) n4
    refine ⟨_, rfl, D, _, rfl, SqL.of hL, _, rfl, D, _, rfl, SqL.of hL, by rw [pln]; omega, fun m hm hmax => ⟨two_le, fun t ht => ?_⟩⟩
    refine q _ _ _ (Go.trans fr0 j g4 (Go.new fr0 g4.j ht _)) ⟨t, rfl, ?_⟩
    rw [upd_same, ← mx_is hm hmax fun y hy => (pb y hy).1]
/-! ### with what is known -/
def sp__law_spent (D : Nat) : Sp := fun vs H Q _ => ∃ (I : Hp) (sv : V) (d : Addr) (sk : List Pl) (ns : List Str) (Ns : List Int) (i : Nat) (p : Pl) (n : Int), vs = [sv, .ref d, .str p.name, .int n] ∧ Jk d sk ns Ns I H ∧ SkAt I sv sk ∧ SkOk ns sk ∧ Ns.length ≤ 2 ∧
  AskOk sk Ns D i p n ∧ ∀ I' H' v, Go (A1 d) (Jk d sk ns Ns) I H I' H' → PrAt I' v (spent sk p.name n) → Q v H'
def sp__law_clause_spent (D : Nat) : Sp := fun vs H Q _ => ∃ (I : Hp) (sv cv : V) (d : Addr) (sk : List Pl) (ns : List Str) (Ns : List Int) (i : Nat) (c : Cl) (n : Int), vs = [sv, .ref d, cv, .int n] ∧ Jk d sk ns Ns I H ∧ SkAt I sv sk ∧ SkOk ns sk ∧ Ns.length ≤ 2 ∧
  ClAt I cv c ∧ ClOk ns i c ∧ 2 ≤ n ∧ n ≤ 2 ^ 40 ∧ RchL Ns n ∧ dep n i ≤ D ∧ ∀ I' H' v, Go (A1 d) (Jk d sk ns Ns) I H I' H' → PrAt I' v (clauseS (spent sk) c n) → Q v H'
theorem lclause_of (T : Tx K mg CC CB CK) {D : Nat} (c__law_below : Fn P w K mg base 1 "_law_below" (sp__law_below)) (c__law_spent : FxC (RoomD (2 * D)) P w K mg base "_law_spent" (sp__law_spent D)) : FxC (RoomD (2 * D + 1)) P w K mg base "_law_clause_spent" (sp__law_clause_spent D) := by
  refine T.f__law_clause_spent.fnC RoomD.fits sc__law_clause_spent (fun _ _ _ _ _ _ us hl => match us, hl with | [_, _, _, _], _ => rfl) (fun vs H Q E h => ?_) (fun f cdv A outer s H vs Q E hrd0 h => ?_)
  · obtain ⟨I, sv, cv, d, sk, ns, Ns, i, c, n, rfl, _⟩ := h
    rfl
  · obtain ⟨I, sv, cv, d, sk, ns, Ns, i, c, n, rfl, j, hs, ok, hN, ⟨a, rfl, ha⟩, cok, n2, n40, hrch, hdep, q⟩ := h
    have hrd := hrd0.deeper (envOfC "_law_clause_spent" (defScope s__law_clause_spent) s.heap.objs.size f cdv)
    have hr := hrd.room
    have F := frK d sk ns Ns
    have s1 := cok.s1
    have s3 := cok.s3
    have hrs := cok.r
    refine ⟨_, (pss_cons (ps_asg (pv 2) (pg_tup rfl (pgs_cons (pg_name (i := 4) sc__law_clause_spent.nd rfl (Or.inl rfl)) (pgs_cons (pg_name (i := 5) sc__law_clause_spent.nd rfl (Or.inl rfl)) (pgs_cons (pg_name (i := 6) sc__law_clause_spent.nd rfl (Or.inl rfl)) (pgs_cons (pg_name (i := 7) sc__law_clause_spent.nd rfl (Or.inl rfl)) (pgs_cons (pg_name (i := 8) sc__law_clause_spent.nd rfl (Or.inl rfl)) (pgs_cons (pg_name (i := 9) sc__law_clause_spent.nd rfl (Or.inl rfl)) pgs_nil))))))))
      (pss_cons (ps_if (pt_cmpR op_eq (pv 4) pe_str (nomark _))
        (pss_cons (ps_set (i := 10) sc__law_clause_spent.nd rfl (Or.inl rfl) (pe_fn c__law_below hr (by omega) (by rfl) (pa_cons (pv 5) (pa_cons (pv 6) (pa_cons (pv 3) pa_nil)))))
        (pss_one (ps_ret (pe_ifExp (pt_cmpR op_eq (pv 10) pe_int (nomark _)) (pe_tup (pa_cons pe_int (pa_cons pe_int pa_nil))) (pe_fnC c__law_spent hrd (by rfl) (pa_cons (pv 0) (pa_cons (pv 1) (pa_cons (pv 9) (pa_cons (pv 10) pa_nil)))))))))
        pss_nil)
      (pss_cons (ps_if (pt_cmpR op_ne (pv 4) pe_str (nomark _))
        (pss_one (ps_ret (pe_tup (pa_cons pe_int (pa_cons pe_int pa_nil)))))
        pss_nil)
      (pss_cons (ps_if (pt_cmpR op_eq (pv 7) pe_str (nomark _))
        (pss_one (ps_ret (pe_tup (pa_cons (pe_op op_sub (pe_fn c__law_below hr (by omega) (by rfl) (pa_cons (pv 5) (pa_cons (pv 6) (pa_cons (pv 3) pa_nil)))) (pe_fn c__law_below hr (by omega) (by rfl) (pa_cons (pv 5) (pa_cons (pv 6) (pa_cons (pe_callB (call_min2 rfl) (by rfl) T.b_min (by decide +kernel) (pa_cons (pv 8) (pa_cons (pv 3) pa_nil))) pa_nil))))) (pa_cons pe_int pa_nil)))))
        pss_nil)
      (pss_one (ps_ret (pe_tup (pa_cons (pe_fn c__law_below hr (by omega) (by rfl) (pa_cons (pv 5) (pa_cons (pv 6) (pa_cons (pe_callB (call_max2 rfl) (by rfl) T.b_max (by decide +kernel) (pa_cons pe_int (pa_cons (pe_op op_sub (pv 3) (pv 8)) pa_nil))) pa_nil)))) (pa_cons pe_int pa_nil))))))))), ?_⟩
    refine ⟨_, rfl, a, _, rfl, SqT.of (j.1 _ _ ha), rfl, _, _, rfl, _, _, rfl, _, _, rfl, _, _, rfl, _, _, rfl, _, _, rfl, rfl, ?_⟩
    refine ⟨_, rfl, rfl, _, rfl, ?_⟩
    unfold clauseS at q
    by_cases hw : c.w = "call"
    · rw [if_pos hw] at q
      refine iteB (eq_str hw) ⟨_, rfl, _, rfl, _, rfl, c.rest, c.step, n, rfl, by omega, by omega, ?_⟩
      refine ⟨_, rfl, rfl, _, rfl, ?_⟩
      by_cases hm : below c.rest c.step n = 0
      · rw [if_pos hm] at q
        refine iteB (decide_eq_true (by rw [hm])) ⟨two_le, fun t ht => q _ _ _ (Go.new F j ht _) ⟨t, rfl, upd_same⟩⟩
      · rw [if_neg hm] at q
        obtain ⟨jj, hj, m1, mn, hd2, e1, e2⟩ := clause_next ok cok hw n2 hm
        have hjl : jj < sk.length := by rw [ok.l]; exact get_len hj
        have hq : sk[jj]? = some sk[jj] := List.getElem?_eq_getElem hjl
        have enm := (ok.ok jj _ hq).nm
        rw [hj] at enm
        have enm := Option.some.inj enm
        refine iteC (decide_eq_false fun z => hm (V.int.inj z)) ⟨_, rfl, _, rfl, _, rfl, _, rfl, I, sv, d, sk, ns, Ns, jj, sk[jj], _, by rw [← enm]; rfl, j, hs, ok, hN, ⟨hq, m1, by omega, rch_call s1 s3 hrs hrch m1 e1 e2, by omega⟩, fun I' H' v g hv => q I' H' v g ?_⟩
        rw [enm]
        exact hv
    · rw [if_neg hw] at q
      refine iteC (ne_str hw) ⟨_, rfl, rfl, _, rfl, ?_⟩
      unfold clJoins at q
      by_cases hj : c.w = "join"
      · rw [if_pos hj] at q
        obtain ⟨hsd, f1, f4⟩ : (c.side = "left" ∨ c.side = "right") ∧ 1 ≤ c.far ∧ c.far ≤ 4 := by
          rcases cok.kd with ⟨e, _⟩ | ⟨_, h1, h2, h3, _⟩
          · exact absurd e hw
          · exact ⟨h1, h2, h3⟩
        refine iteC ?_ ⟨_, rfl, rfl, _, rfl, ?_⟩
        · show (!decide (V.str c.w = V.str "join")) = false
          rw [eq_str hj]
          rfl
        by_cases hl : c.side = "left"
        · rw [if_pos hl] at q
          refine iteB (eq_str hl) ⟨_, rfl, _, rfl, _, rfl, c.rest, c.step, n, rfl, by omega, by omega, ?_⟩
          refine ⟨_, rfl, _, rfl, _, rfl, _, rfl, _, _, rfl, c.rest, c.step, _, rfl, by omega, by omega, _, _, rfl, rfl, two_le, fun t ht => q _ _ _ (Go.new F j ht _) ⟨t, rfl, ?_⟩⟩
          rw [upd_same]
          show some (HO.tup [V.int (_ - below _ _ (if n < (c.far : Int) then n else c.far)), V.int 1]) = some (HO.tup [V.int _, V.int 1])
          rw [show (if n < (c.far : Int) then n else (c.far : Int)) = min (c.far : Int) n by split <;> omega]
        · rw [if_neg hl] at q
          refine iteC (ne_str hl) ⟨_, rfl, _, rfl, _, rfl, _, rfl, _, _, rfl, rfl, _, _, rfl, c.rest, c.step, _, rfl, by omega, by omega, two_le, fun t ht => q _ _ _ (Go.new F j ht _) ⟨t, rfl, ?_⟩⟩
          rw [upd_same]
          show some (HO.tup [V.int (below _ _ (if n - (c.far : Int) > 0 then n - c.far else 0)), V.int 1]) = some (HO.tup [V.int _, V.int 1])
          rw [show (if n - (c.far : Int) > 0 then n - (c.far : Int) else 0) = max 0 (n - (c.far : Int)) by split <;> omega]
      · rw [if_neg hj] at q
        refine iteB ?_ ⟨two_le, fun t ht => q _ _ _ (Go.new F j ht _) ⟨t, rfl, upd_same⟩⟩
        show (!decide (V.str c.w = V.str "join")) = true
        rw [ne_str hj]
        rfl
end
end JR
/-! J13: the law's own count of a plan. -/
namespace JR
open PySem PySem.Spec PyProof.Rows L2
section
variable {P : Program} {w : World} {K : PySem.W.Frag} {mg : Str → Option Value} {base : Heap} {CC CB CK : Addr}
theorem nil_or_one {i k : Nat} {x y : V} {zs : List V} (h1 : k ≤ i → zs = []) (h2 : i < k → zs = [x]) : zs.length ≤ 1 := by
  by_cases h : k ≤ i
  · rw [h1 h]
    decide
  · rw [h2 (by omega)]
    exact Nat.le_refl 1
theorem lspent_of (T : Tx K mg CC CB CK) {D : Nat} (c__law_plain : Fn P w K mg base 2 "_law_plain" (sp__law_plain)) (c__law_clause_spent : FxC (RoomD (2 * D + 1)) P w K mg base "_law_clause_spent" (sp__law_clause_spent D)) : FxC (RoomD (2 * D + 1 + 1)) P w K mg base "_law_spent" (sp__law_spent (D + 1)) := by
  refine T.f__law_spent.fnC RoomD.fits sc__law_spent (fun _ _ _ _ _ _ us hl => match us, hl with | [_, _, _, _], _ => rfl) (fun vs H Q E h => ?_) (fun f cdv A outer s H vs Q E hrd0 h => ?_)
  · obtain ⟨I, sv, d, sk, ns, Ns, i, p, n, rfl, _⟩ := h
    rfl
  · obtain ⟨I, sv, d, sk, ns, Ns, i, p, n, rfl, j, hs, ok, hN, ⟨hp, n1, n40, hrch, hdep⟩, q⟩ := h
    have hrd := hrd0.deeper (envOfC "_law_spent" (defScope s__law_spent) s.heap.objs.size f cdv)
    have hr := hrd.room
    have hu := hu_of hr
    have F := frK d sk ns Ns
    obtain ⟨sa, svs, rfl, hsI, hsP⟩ := id hs
    have hs0 := j.1 _ _ hsI
    have pk := ok.ok i p hp
    have b4 := pk.b4
    have b1 := pk.b1
    have r3' := pk.r3
    have pin : p.name ∈ ns := List.mem_of_getElem? pk.nm
    have hsl : svs.length = sk.length := hsP.length
    have hskl := ok.l
    have n3 := ok.n3
    have hi := get_len hp
    have es := spent_eq ok hp n1 n40
    unfold planP at es
    obtain ⟨pvv, hpv, pa, gv, rv, rfl, hpa, hg, hrds⟩ := paired_at' hsP hp
    have nd : ∀ {b : Addr} {u : HO}, I b = some u → ¬ A1 d b := fun {b u} h e => by
      have e1 := j.2.1
      rw [← show b = d from e, h] at e1
      cases e1
    refine ⟨_, (pss_cons (ps_set (i := 4) sc__law_spent.nd rfl (Or.inl rfl) (pe_ix ix_list (pe_lc (own := [("_law_plan_here", 4)]) (g := gName 4) (tt := tTest (tOp rEq (tOp (rIxL K) (tVar 4) (tC (.int 0))) (tVar 2))) rfl sc__law_spent.nd (pi_list (pv 0)) (blkOk_by (own := [("_law_plan_here", 4)]) (N := N__law_spent) (sc := defScope s__law_spent) (by decide +kernel))
        (fun _ _ _ _ _ => pg_name (i := 4) sc__law_spent.nd rfl (Or.inl rfl)) (fun _ _ _ _ _ => pts_one (pt_cmpR op_eq (pe_ix (ixK_list K) (pv 4) pe_int (fun _ _ => rfl)) (pv 2) (nomark _)))
        (fun _ _ _ _ _ => (pv 4))) pe_int (fun _ _ => rfl)))
      (pss_cons (ps_if (pt_cmpR op_le (pv 3) (pe_ix ix_list (pv 4) pe_int (fun _ _ => rfl)) (nomark _))
        (pss_one (ps_ret (pe_fn c__law_plain hr (by omega) (by rfl) (pa_cons (pe_ix ix_list (pv 4) pe_int (fun _ _ => rfl)) (pa_cons (pv 3) pa_nil)))))
        pss_nil)
      (pss_cons (ps_if (pt_cmp (pc_dnotin hu (pe_tup (pa_cons (pv 2) (pa_cons (pv 3) pa_nil))) (pv 1)))
        (pss_cons (ps_asg (pe_tup (pa_cons pe_int (pa_cons pe_int pa_nil))) (pg_tup rfl (pgs_cons (pg_name (i := 5) sc__law_spent.nd rfl (Or.inl rfl)) (pgs_cons (pg_name (i := 6) sc__law_spent.nd rfl (Or.inl rfl)) pgs_nil))))
        (pss_cons (ps_for PassesOwn.never rfl (pi_list (pe_ix ix_list (pv 4) pe_int (fun _ _ => rfl))) (pg_name (i := 7) sc__law_spent.nd rfl (Or.inl rfl))
          (pss_cons (ps_setLc (i := 8) (own := [("_law_clause_here", 9)]) (g := gName 9) (tt := tYes) rfl sc__law_spent.nd rfl rfl (sw_true rfl rfl rfl (by decide +kernel)) (pi_list (pv 7)) (blkOk_by (own := [("_law_clause_here", 9)]) (N := N__law_spent) (sc := defScope s__law_spent) (by decide +kernel))
        (fun _ _ _ _ _ => pg_name (i := 9) sc__law_spent.nd rfl (Or.inl rfl)) (fun _ _ _ _ _ => pts_nil)
        (fun _ _ _ _ _ => (pe_fnC c__law_clause_spent hrd (by rfl) (pa_cons (pv 0) (pa_cons (pv 1) (pa_cons (pv 9) (pa_cons (pv 3) pa_nil)))))))
          (pss_cons (ps_set (i := 5) sc__law_spent.nd rfl (Or.inl rfl) (pe_op op_add (pv 5) (pe_callB (cr_sum rfl) (by rfl) T.b_sum (by decide +kernel) (pa_cons (pe_lc (own := [("_law_part", 10)]) (g := gName 10) (tt := tYes) rfl sc__law_spent.nd (pi_list (pv 8)) (blkOk_by (own := [("_law_part", 10)]) (N := N__law_spent) (sc := defScope s__law_spent) (by decide +kernel))
        (fun _ _ _ _ _ => pg_name (i := 10) sc__law_spent.nd rfl (Or.inl rfl)) (fun _ _ _ _ _ => pts_nil)
        (fun _ _ _ _ _ => (pe_ix (ixK_tup K) (pv 10) pe_int (fun _ _ => rfl)))) pa_nil))))
          (pss_one (ps_set (i := 6) sc__law_spent.nd rfl (Or.inl rfl) (pe_op op_add (pv 6) (pe_callB (cr_max rfl) (by rfl) T.b_max (by decide +kernel) (pa_cons (pe_lc (own := [("_law_part", 10)]) (g := gName 10) (tt := tYes) rfl sc__law_spent.nd (pi_list (pv 8)) (blkOk_by (own := [("_law_part", 10)]) (N := N__law_spent) (sc := defScope s__law_spent) (by decide +kernel))
        (fun _ _ _ _ _ => pg_name (i := 10) sc__law_spent.nd rfl (Or.inl rfl)) (fun _ _ _ _ _ => pts_nil)
        (fun _ _ _ _ _ => (pe_ix (ixK_tup K) (pv 10) pe_int (fun _ _ => rfl)))) pa_nil))))))))
        (pss_one (ps_dput hu (pv 1) (pe_tup (pa_cons (pv 2) (pa_cons (pv 3) pa_nil))) (pe_tup (pa_cons (pv 5) (pa_cons (pv 6) pa_nil))) rfl))))
        pss_nil)
      (pss_one (ps_ret (pe_dget hu (pv 1) (pe_tup (pa_cons (pv 2) (pa_cons (pv 3) pa_nil))) (fun _ _ => rfl))))))), ?_⟩
    refine ⟨_, rfl, sa, rfl, ⟨svs, SqL.of hs0⟩, fun D0 hD0 => ?_⟩
    refine lc_goT (m := 4) walk_list F j hD0 (fun k I' zs => (k ≤ i → zs = []) ∧ (i < k → zs = [.ref pa])) ⟨fun _ => rfl, fun h => absurd h (Nat.not_lt_zero _)⟩ (fun H' k => SqL.of (k sa _ (nd hsI) hs0)) (fun _ _ _ _ y => y.1) ?_ ?_
    · rintro k x I4 H4 zs hk ⟨_, hx⟩ g4 ⟨hz1, hz2⟩
      obtain ⟨pl, hpl, b, bg, br, rfl, hb, hbg, hbr⟩ := paired_at hsP hx
      have hb4 := g4.j.1 _ _ (g4.s _ _ hb)
      have zl := nil_or_one (x := .ref pa) (y := .non) hz1 hz2
      refine ⟨decide (pl.name = p.name), fun Q2 q2 => ⟨_, rfl, b, _, 0, _, rfl, rfl, SqL.of hb4, atI_nat (j := 0) rfl, _, rfl, rfl, _, rfl, ?_⟩, fun e => ?_, fun e => ⟨by omega, fun Q2 q2 => ⟨_, rfl, q2 I4 H4 _ (Go.refl g4.j) ?_⟩⟩⟩
      · by_cases h : pl.name = p.name
        · rw [eq_str h]
          rw [decide_eq_true h] at q2
          exact q2
        · rw [ne_str h]
          rw [decide_eq_false h] at q2
          exact q2
      · have h : ¬ pl.name = p.name := of_decide_eq_false e
        have hne : k ≠ i := fun z => by
          subst z
          rw [hp] at hpl
          cases hpl
          exact h rfl
        exact ⟨fun h => hz1 (by omega), fun h => hz2 (by omega)⟩
      · have h : pl.name = p.name := of_decide_eq_true e
        have : k = i := nodup_ix ok.nd (by rw [← h]; exact (ok.ok k pl hpl).nm) pk.nm
        subst this
        rw [hpv] at hx
        cases hx
        rw [hz1 (Nat.le_refl _)]
        exact ⟨fun h => by omega, fun _ => rfl⟩
    intro I1 H1 zs g1 iD1 hL1 ⟨_, hz⟩
    have hz := hz (by omega)
    subst hz
    refine ⟨D0, _, 0, _, rfl, rfl, SqL.of hL1, atI_nat (j := 0) rfl, ?_⟩
    have hpa1 := g1.j.1 _ _ (g1.s _ _ hpa)
    refine ⟨_, rfl, _, rfl, pa, _, 2, _, rfl, rfl, SqL.of hpa1, atI_nat (j := 2) rfl, _, _, rfl, rfl, _, rfl, ?_⟩
    by_cases hle : n ≤ p.base
    · rw [if_pos hle] at es
      refine iteB (decide_eq_true hle) ⟨_, rfl, pa, _, 1, _, rfl, rfl, SqL.of hpa1, atI_nat (j := 1) rfl, _, rfl, I1, gv, p.gw, p.gk, n, rfl, g1.j.1, hg.mono g1.s, pk.go, n1, by omega, fun I2 H2 v g2 hv => ?_⟩
      refine q I2 H2 v (Go.trans F j g1 (Go.pure F g1.j g2)) ?_
      rw [es]
      exact hv
    rw [if_neg hle] at es
    -- the rest, once it is known
    suffices rest : ∀ I1 H1 σ x5 x6 x7 x8, Go (A1 d) (Jk d sk ns Ns) I H I1 H1 → (∃ kvs v, H1 d = some (.dT kvs) ∧ valV kvs (ky p.name n) = some v) → σ = [some (.ref sa), some (.ref d), some (.str p.name), some (.int n), some (.ref pa), x5, x6, x7, x8, none, none] →
        tDGet (tVar 1) (tTup (tCons (tVar 2) (tCons (tVar 3) tNil))) σ H1 Q by
      refine iteC (decide_eq_false hle) ⟨_, rfl, _, rfl, two_le, fun t ht => ?_⟩
      have g2 := Go.trans F j g1 (Go.new F g1.j ht (.tup [.str p.name, .int n]))
      have ht2 : (upd H1 t (.tup [.str p.name, .int n])) t = some (.tup ((ky p.name n).map kV)) := upd_same
      generalize upd H1 t (.tup [.str p.name, .int n]) = H2 at *
      generalize upd I1 t (.tup [.str p.name, .int n]) = I2 at *
      obtain ⟨kvs, hd2, kn⟩ := g2.j.kv
      refine ⟨_, rfl, d, _, rfl, DGet.t hd2 ht2, _, rfl, ?_⟩
      cases e : valV kvs (ky p.name n) with
      | some v =>
        exact iteC rfl (rest I2 H2 _ _ _ _ _ g2 ⟨kvs, v, hd2, e⟩ rfl)
      | none =>
        refine iteB rfl ⟨two_le, fun t0 ht0 => ?_⟩
        have g3 := Go.trans F j g2 (Go.new F g2.j ht0 (.tup [.int 0, .int 0]))
        have ht3 : (upd H2 t0 (.tup [.int 0, .int 0])) t0 = _ := upd_same
        generalize upd H2 t0 (.tup [.int 0, .int 0]) = H3 at *
        generalize upd I2 t0 (.tup [.int 0, .int 0]) = I3 at *
        refine ⟨t0, [.int 0, .int 0], rfl, SqT.of ht3, rfl, _, _, rfl, _, [], rfl, rfl, ?_⟩
        have hpa3 := g3.j.1 _ _ (g3.s _ _ hpa)
        obtain ⟨a2, vs, er, ha2, hP⟩ := hrds
        subst er
        have hvl : vs.length = p.rds.length := hP.length
        have ha23 := g3.j.1 _ _ (g3.s _ _ ha2)
        refine ⟨_, rfl, pa, _, 3, _, rfl, rfl, SqL.of hpa3, atI_nat (j := 3) rfl, a2, rfl, ⟨vs, SqL.of ha23⟩, for_list (xs := vs) (fun (k : Nat) (σ : L2.St) (H' : Hp) => ∃ I' x7 x8, Go (A1 d) (Jk d sk ns Ns) I H I' H' ∧
          σ = [some (.ref sa), some (.ref d), some (.str p.name), some (.int n), some (.ref pa), some (.int (roundsS (spent sk) (p.rds.take k) n).1), some (.int (roundsS (spent sk) (p.rds.take k) n).2), x7, x8, none, none])
          ⟨I3, _, _, g3, rfl⟩ (fun k σ H' _ ⟨I', _, _, g, _⟩ => SqL.of (g.j.1 _ _ (g.s _ _ ha2))) ?_ ?_⟩
        · rintro k y σ H4 hy ⟨I4, x7, x8, g4, rfl⟩
          obtain ⟨r, hrk, rl, cs, rfl, hrl, hcP⟩ := paired_at hP hy
          have rok := pk.ok r (List.mem_of_getElem? hrk)
          have hrl4 := g4.j.1 _ _ (g4.s _ _ hrl)
          have hcl : cs.length = r.length := hcP.length
          have hr0 : 0 < r.length := List.length_pos_iff.mpr rok.ne
          have r3 := rok.l3
          have nl := nd hrl
          rw [take_snoc hrk, roundsS_snoc]
          refine ⟨_, rfl, rl, rfl, ⟨_, SqL.of hrl4⟩, fun D2 hD2 => ?_⟩
          refine lc_goY (m := 9) walk_list F g4.j hD2 (fun k I' ys => Paired (PrAt I') ys ((r.take k).map fun c => clauseS (spent sk) c n)) .nil (fun H' k => SqL.of (k rl _ nl hrl4)) (fun _ _ _ _ y => y.1) ?_ ?_
          · rintro m x I5 H5 zs hm ⟨_, hx⟩ g5 hz
            obtain ⟨cl, hcm, hca⟩ := paired_at hcP hx
            have g6 := Go.trans F j g4 g5
            have cok := rok.ok cl (List.mem_of_getElem? hcm)
            have hzl := hz.length
            rw [List.length_map, List.length_take] at hzl
            refine ⟨by omega, fun Q2 q2 => ?_⟩
            refine ⟨_, rfl, _, rfl, _, rfl, _, rfl, I5, _, x, d, sk, ns, Ns, i, cl, n, rfl, g6.j, hs.mono g6.s, ok, hN, hca.mono g6.s, cok, by omega, n40, hrch, by omega, fun I6 H6 v g7 hv => q2 I6 H6 v g7 ?_⟩
            rw [take_snoc hcm, List.map_append]
            exact (hz.mono fun _ _ z => z.mono g7.s).snoc hv
          intro I5 H5 ys g5 iD2 hL2 hR
          rw [hcl, List.take_length] at hR
          have nA2 := F.nin g4.j hD2
          have g6 := Go.fix F g5 hD2 nA2 iD2 hL2
          have hR2 := hR.mono fun _ _ z => PrAt.mono (same_new iD2 (.lst ys)) z
          generalize upd I5 D2 (.lst ys) = I6 at g6 hR2
          generalize hPs : r.map (fun c => clauseS (spent sk) c n) = Ps at hR2
          have hpl : Ps.length = r.length := by rw [← hPs, List.length_map]
          have es1 : (roundS (spent sk) r n).1 = (Ps.map (·.1)).sum := by
            rw [← hPs, List.map_map]
            rfl
          have es2 : (roundS (spent sk) r n).2 = mx (Ps.map (·.2)) := by
            rw [← hPs, List.map_map]
            rfl
          have nn2 : ∀ y ∈ Ps.map (·.2), 0 ≤ y := fun y hy => by
            rw [← hPs, List.map_map] at hy
            obtain ⟨cl, hcl2, e⟩ := List.mem_map.mp hy
            subst e
            exact clauseS_nn ok pk hrk hcl2 n1 (by omega) n40
          refine ⟨_, rfl, _, rfl, D2, rfl, ⟨_, SqL.of hL2⟩, fun D3 hD3 => ?_⟩
          refine lc_pairs (m := 10) F g6.j hD3 hL2 nA2 hR2 (by omega) (·.1) (fun H' t x Q2 ht h => ⟨_, rfl, t, _, 0, _, rfl, rfl, SqT.of ht, atI_nat (j := 0) rfl, h⟩) fun I7 H7 g7 iD3 hL3 => ?_
          refine ⟨D3, _, rfl, SqL.of hL3, _, _, rfl, rfl, ?_⟩
          have hL27 := g7.k D2 _ nA2 hL2
          refine ⟨_, rfl, _, rfl, D2, rfl, ⟨_, SqL.of hL27⟩, fun D4 hD4 => ?_⟩
          refine lc_pairs (m := 10) F g7.j hD4 hL27 nA2 (hR2.mono fun _ _ z => z.mono g7.s) (by omega) (·.2) (fun H' t x Q2 ht h => ⟨_, rfl, t, _, 1, _, rfl, rfl, SqT.of ht, atI_nat (j := 1) rfl, h⟩) fun I8 H8 g8 iD4 hL4 => ?_
          refine ⟨D4, _, rfl, SqL.of hL4, by rw [List.length_map, hpl]; exact hr0, fun mm hmm hmax => ⟨_, _, rfl, rfl, ?_⟩⟩
          refine ⟨I8, some (.ref rl), some (.ref D2), Go.trans F j g4 (Go.trans F g4.j g6 (Go.trans F g6.j g7 g8)), ?_⟩
          rw [es1, es2, ← mx_is hmm hmax nn2]
          rfl
        · rintro σ H4 ⟨I4, x7, x8, g4, rfl⟩
          rw [hvl, List.take_length, ← es]
          refine ⟨_, rfl, _, rfl, two_le, fun t5 ht5 => ?_⟩
          have g5 := Go.trans F j g4 (Go.new F g4.j ht5 (.tup [.int (spent sk p.name n).1, .int (spent sk p.name n).2]))
          have hpr : PrAt (upd I4 t5 (.tup [.int (spent sk p.name n).1, .int (spent sk p.name n).2])) (.ref t5) (spent sk p.name n) := ⟨t5, rfl, upd_same⟩
          generalize upd H4 t5 (.tup [.int (spent sk p.name n).1, .int (spent sk p.name n).2]) = H5 at *
          generalize upd I4 t5 (.tup [.int (spent sk p.name n).1, .int (spent sk p.name n).2]) = I5 at *
          refine ⟨_, rfl, _, rfl, _, rfl, two_le, fun t6 ht6 => ?_⟩
          have g6 := Go.trans F j g5 (Go.new F g5.j ht6 (.tup [.str p.name, .int n]))
          have hpr6 := hpr.mono (same_new (g5.j.1.free ht6) (.tup [.str p.name, .int n]))
          have hT6 : (upd H5 t6 (.tup [.str p.name, .int n])) t6 = some (.tup ((ky p.name n).map kV)) := upd_same
          generalize upd H5 t6 (.tup [.str p.name, .int n]) = H6 at *
          generalize upd I5 t6 (.tup [.str p.name, .int n]) = I6 at *
          obtain ⟨kvs6, hd6, kn6⟩ := g6.j.kv
          refine ⟨d, _, rfl, DPut.t hd6 hT6 (kn6.len ok.n3 hN), rest _ _ _ _ _ _ _ (g6.put ⟨_, rfl, kn6.put pin hrch hpr6⟩) ⟨_, .ref t5, upd_same, ?_⟩ rfl⟩
          rw [valV_put, if_pos rfl]
    rintro I1 H1 σ x5 x6 x7 x8 g1 ⟨kvs, v, hd1, hv⟩ rfl
    refine ⟨_, rfl, _, rfl, _, rfl, two_le, fun t ht => ?_⟩
    have g2 := Go.trans F j g1 (Go.new F g1.j ht (.tup [.str p.name, .int n]))
    have hdt : d ≠ t := fun e => by rw [← e, hd1] at ht; cases ht
    have hd2 : (upd H1 t (.tup [.str p.name, .int n])) d = some (.dT kvs) := by rw [upd_ne hdt]; exact hd1
    have gt := DGet.t (k := ky p.name n) hd2 (upd_same (H := H1) (a := t) (o := .tup [.str p.name, .int n]))
    rw [hv] at gt
    refine ⟨d, v, rfl, gt, q _ _ v g2 ?_⟩
    obtain ⟨kvs', hd', kn⟩ := g2.j.kv
    rw [hd2] at hd'
    cases hd'
    exact kn.get hv
theorem lspent_0 (T : Tx K mg CC CB CK) : FxC (RoomD 0) P w K mg base "_law_spent" (sp__law_spent 0) := by
  obtain ⟨f, fd, F, hm⟩ := T.f__law_spent
  refine ⟨f, fd, ["_law_sketch_here", "_law_known", "_law_label", "_law_many"], fnC_none fun vs H Q E h => ?_, hm, F.kp, F.bindsN (fun _ _ _ _ _ _ us hl => match us, hl with | [_, _, _, _], _ => rfl)⟩
  obtain ⟨I, sv, d, sk, ns, Ns, i, p, n, rfl, j, hs, ok, hN, ⟨_, _, _, _, hd⟩, q⟩ := h
  exact absurd hd (Nat.not_lt_zero _)
theorem lspent_all (T : Tx K mg CC CB CK) (c__law_below : Fn P w K mg base 1 "_law_below" (sp__law_below)) (c__law_plain : Fn P w K mg base 2 "_law_plain" (sp__law_plain)) : ∀ D : Nat, FxC (RoomD (2 * D)) P w K mg base "_law_spent" (sp__law_spent D)
  | 0 => lspent_0 T
  | D + 1 => lspent_of T c__law_plain (lclause_of T c__law_below (lspent_all T c__law_below c__law_plain D))
theorem ok__law_spent (T : Tx K mg CC CB CK) (c__law_below : Fn P w K mg base 1 "_law_below" (sp__law_below)) (c__law_plain : Fn P w K mg base 2 "_law_plain" (sp__law_plain)) : Fn P w K mg base 100 "_law_spent" (sp__law_spent 123) := (lspent_all T c__law_below c__law_plain 123).fn (room_D (by decide))
end
end JR
/-! J14: the cup, what is drawn from it. -/
namespace JR
open PySem PySem.Spec PyProof.Rows L2
def CupO (_ : Hp) (o : HO) : Prop := ∃ x y z : Int, o = .lst [.int x, .int y, .int z]
abbrev Jc (c : Addr) : Hp → Hp → Prop := J1 c CupO
theorem frC (c : Addr) : Fr (A1 c) (Jc c) := fr1 fun _ _ _ h _ => h
theorem Jc.at {c : Addr} {I H : Hp} (j : Jc c I H) : ∃ x y z : Int, H c = some (.lst [.int x, .int y, .int z]) := by
  obtain ⟨_, _, o, ho, x, y, z, e⟩ := j
  subst e
  exact ⟨x, y, z, ho⟩
/-- from a frame back to nothing changed -/
theorem Go.out {A : Addr → Prop} {J : Hp → Hp → Prop} {I H I1 H1 I2 H2 : Hp} (F : Fr A J) (a : Go A0 Same I H I1 H1) (nA : ∀ b, A b → H b = none) (b : Go A J I1 H1 I2 H2) : Go A0 Same I H I2 H2 := by
  refine ⟨a.s.trans b.s, fun c h => ?_, fun c o _ h => ?_, F.sub b.j⟩
  · have h1 : H1 c ≠ none := by
      cases e : H c with
      | none => exact absurd e h
      | some o => rw [a.k c o (fun z => z) e]; simp
    rw [b.f c h1, a.f c h]
  · refine b.k c o (fun z => ?_) (a.k c o (fun z => z) h)
    rw [nA c z] at h
    cases h
/-- what is free now was free -/
theorem Go.new_free {I H I1 H1 : Hp} {p : Addr} (g : Go A0 Same I H I1 H1) (h : H1 p = none) : H p = none := by
  cases e : H p with
  | none => rfl
  | some o =>
    rw [g.k p o (fun z => z) e] at h
    cases h
section
variable {P : Program} {w : World} {K : PySem.W.Frag} {mg : Str → Option Value} {base : Heap} {CC CB CK : Addr}
def sp__law_cup (K : PySem.W.Frag) : Sp := fun vs H Q _ => ∃ (I : Hp) (a : Addr) (xs : List Int) (k : Nat), vs = [.ref a, .int k] ∧ Same I H ∧ SqL K H a (xs.map V.int) ∧ xs.length ≤ 100 ∧
  ∀ I' H' c x y z, Go A0 Same I H I' H' → H c = none → I' c = none → H' c = some (.lst [.int x, .int y, .int z]) → Q (.ref c) H'
theorem ok__law_cup (T : Tx K mg CC CB CK)  : Fn P w K mg base 1 "_law_cup" (sp__law_cup K) := by
  refine T.f__law_cup.fn sc__law_cup (fun _ _ _ _ _ _ us hl => match us, hl with | [_, _], _ => rfl) (fun vs H Q E h => ?_) (fun f cdv A outer s H vs Q E hr h => ?_)
  · obtain ⟨I, a, xs, k, rfl, _⟩ := h
    rfl
  · obtain ⟨I, a, xs, k, rfl, j, ha0, hx, q⟩ := h
    refine ⟨_, (pss_cons (ps_set (i := 2) sc__law_cup.nd rfl (Or.inl rfl) (pe_ifExp (pt_cmpR op_lt (pv 1) (pe_callB call_len_seq (by rfl) T.b_len (by decide +kernel) (pa_cons (pv 0) pa_nil)) (nomark _)) (pe_ix ix_list (pv 0) (pv 1) (fun _ _ => rfl)) (pe_op op_add (pv 1) pe_int)))
      (pss_cons (ps_set (i := 3) sc__law_cup.nd rfl (Or.inl rfl) (pe_op op_add pe_int (pe_op op_mul pe_int (pv 1))))
      (pss_cons (ps_for PassesOwn.never rfl (pi_list (pe_op op_cat (pe_slice sl_list (pv 0) po_none (po_some pe_int)) (pe_lst (pa_cons (pv 2) pa_nil)))) (pg_name (i := 4) sc__law_cup.nd rfl (Or.inl rfl))
        (pss_one (ps_set (i := 3) sc__law_cup.nd rfl (Or.inl rfl) (pe_op op_mod (pe_callTy call_int1 (by rfl) T.b_int (by decide +kernel) (pa_cons (pe_op op_add (pe_op op_mul (pv 3) pe_int) (pv 4)) pa_nil)) pe_int))))
      (pss_one (ps_ret (pe_lst (pa_cons (pe_ifExp (PW.pt (pw_or (pt_cmpR op_lt (pv 2) pe_int (nomark _)) (pw_or1 (pt_cmpR op_ge (pv 2) (pe_op op_pow pe_int pe_int) (nomark _))))) (pe_callB call_abs (by rfl) T.b_abs (by decide +kernel) (pa_cons (pv 2) pa_nil)) pe_int) (pa_cons (pv 3) (pa_cons pe_int pa_nil))))))))), ?_⟩
    suffices rest : ∀ m : Int, _ by
      by_cases hlt : k < xs.length
      · obtain ⟨m, hm⟩ : ∃ m, xs[k]? = some m := ⟨_, List.getElem?_eq_getElem hlt⟩
        have hmv : (xs.map V.int)[k]? = some (.int m) := by rw [List.getElem?_map, hm]; rfl
        exact ⟨_, rfl, _, rfl, a, _, rfl, .inl (ha0), _, _, rfl, rfl, _, rfl, iteB (decide_eq_true (by rw [List.length_map]; omega)) ⟨_, rfl, _, rfl, a, _, k, _, rfl, rfl, ha0, atI_nat hmv, rest m⟩⟩
      · exact ⟨_, rfl, _, rfl, a, _, rfl, .inl (ha0), _, _, rfl, rfl, _, rfl, iteC (decide_eq_false (by rw [List.length_map]; omega)) ⟨_, rfl, _, _, rfl, rfl, rest ((k : Int) + 2)⟩⟩
    intro m
    refine ⟨_, rfl, _, _, rfl, rfl, .inl (by constructor <;> decide), _, _, rfl, rfl, ?_⟩
    refine ⟨_, rfl, _, rfl, a, _, rfl, ha0, fun b hb => ?_⟩
    have hcut : ∀ y ∈ cutV (xs.map V.int) none (some 4), ∃ e, y = V.int e := fun y hy => by
      unfold cutV at hy
      obtain ⟨e, _, h⟩ := List.mem_map.mp (List.mem_of_mem_drop (List.mem_of_mem_take hy))
      exact ⟨e, h.symm⟩
    have hcl : (cutV (xs.map V.int) none (some 4)).length ≤ 100 := by
      unfold cutV
      rw [List.length_take, List.length_drop, List.length_map]
      omega
    generalize cutV (xs.map V.int) none (some 4) = cs at hcut hcl
    have g1 := Go.new fr0 j hb (.lst cs)
    have hb1 : (upd H b (.lst cs)) b = _ := upd_same
    generalize upd H b (.lst cs) = H1 at *
    generalize upd I b (.lst cs) = I1 at *
    refine ⟨_, rfl, (by show 1 ≤ sizeLine; decide), fun e he => ?_⟩
    have g2 := Go.trans fr0 j g1 (Go.new fr0 g1.j he (.lst [.int m]))
    have hb2 : (upd H1 e (.lst [.int m])) b = _ := same_new he _ _ _ hb1
    have he2 : (upd H1 e (.lst [.int m])) e = _ := upd_same
    generalize upd H1 e (.lst [.int m]) = H2 at *
    generalize upd I1 e (.lst [.int m]) = I2 at *
    refine ⟨b, e, cs, _, rfl, rfl, hb2, he2, Nat.le_trans (Nat.add_le_add hcl (Nat.le_refl 1)) (by decide), fun r hr3 => ?_⟩
    have g3 := Go.trans fr0 j g2 (Go.new fr0 g2.j hr3 (.lst (cs ++ [.int m])))
    have hr4 : (upd H2 r (.lst (cs ++ [.int m]))) r = _ := upd_same
    generalize upd H2 r (.lst (cs ++ [.int m])) = H3 at *
    generalize upd I2 r (.lst (cs ++ [.int m])) = I3 at *
    refine ⟨r, rfl, ⟨_, SqL.of hr4⟩, for_list (xs := cs ++ [.int m]) (fun (_ : Nat) (σ : L2.St) (H' : Hp) => H' = H3 ∧ ∃ u x, σ = [some (.ref a), some (.int k), some (.int m), some (.int u), x]) ⟨rfl, _, _, rfl⟩ (fun _ _ _ _ e => by rw [e.1]; exact SqL.of hr4) ?_ ?_⟩
    · rintro i y σ H' hy ⟨rfl, u, x, rfl⟩
      have hm := List.mem_of_getElem? hy
      obtain ⟨v, rfl⟩ : ∃ v, y = V.int v := by
        rcases List.mem_append.mp hm with h | h
        · exact hcut y h
        · exact ⟨m, List.mem_singleton.mp h⟩
      exact ⟨_, rfl, _, _, rfl, rfl, .inr (by constructor <;> decide), _, rfl, _, _, rfl, rfl, .inl ⟨_, rfl, _, _, rfl, rfl, by show (0 : Int) < 2147483477; decide, rfl, _, _, rfl⟩⟩
    · rintro σ H' ⟨rfl, u, x, rfl⟩
      suffices fin : ∀ e : Int, _ by
        by_cases h0 : m < 0
        · refine ⟨_, rfl, _, _, rfl, rfl, _, rfl, iteB (decide_eq_true h0) ⟨_, rfl, m, rfl, ?_⟩⟩
          generalize (if m < 0 then -m else m) = e1
          exact fin e1
        · refine ⟨_, rfl, _, _, rfl, rfl, _, rfl, iteC (decide_eq_false h0) ⟨_, rfl, _, _, rfl, rfl, ⟨by decide, by decide, by decide⟩, _, _, rfl, rfl, _, rfl, ?_⟩⟩
          by_cases h1 : m ≥ 10 ^ 18
          · exact iteB (decide_eq_true h1) ⟨_, rfl, m, rfl, fin (if m < 0 then -m else m)⟩
          · exact iteC (decide_eq_false h1) (fin 0)
      intro e
      refine ⟨_, rfl, (by show 3 ≤ sizeLine; decide), fun c hc => ?_⟩
      exact q I3 _ c e u 0 (g3.chg fr0 (g3.new_free hc) (fun z => z) (g3.j.free hc)) (g3.new_free hc) (g3.j.free hc) upd_same
def sp__law_sip : Sp := fun vs H Q _ => ∃ (I : Hp) (c : Addr) (n : Int), vs = [.ref c, .int n] ∧ Jc c I H ∧ 0 < n ∧ n < 1073741824 ∧ ∀ I' H' r, Go (A1 c) (Jc c) I H I' H' → 0 ≤ r → r < n → Q (.int r) H'
theorem ok__law_sip (T : Tx K mg CC CB CK)  : Fn P w K mg base 1 "_law_sip" (sp__law_sip) := by
  refine T.f__law_sip.fn sc__law_sip (fun _ _ _ _ _ _ us hl => match us, hl with | [_, _], _ => rfl) (fun vs H Q E h => ?_) (fun f cdv A outer s H vs Q E hr h => ?_)
  · obtain ⟨I, c, n, rfl, _⟩ := h
    rfl
  · obtain ⟨I, c, n, rfl, j, n0, n1, q⟩ := h
    have F := frC c
    obtain ⟨x, y, z, hc⟩ := j.at
    refine ⟨_, (pss_cons (ps_asg (pe_op op_add (pe_ix ix_list (pv 0) pe_int (fun _ _ => rfl)) pe_int) (pg_sub (pv 0) pe_int set_list))
      (pss_cons (ps_if (pt_cmpR op_gt (pe_ix ix_list (pv 0) pe_int (fun _ _ => rfl)) pe_int (nomark _))
        (pss_cons (ps_asg (pe_callB call_divmod (by rfl) T.b_divmod (by decide +kernel) (pa_cons (pe_ix ix_list (pv 0) pe_int (fun _ _ => rfl)) (pa_cons (pv 1) pa_nil))) (pg_tup rfl (pgs_cons (pg_sub (pv 0) pe_int set_list) (pgs_cons (pg_name (i := 2) sc__law_sip.nd rfl (Or.inl rfl)) pgs_nil))))
        (pss_one (ps_ret (pv 2))))
        pss_nil)
      (pss_cons (ps_asg (pe_op op_mod (pe_callTy call_int1 (by rfl) T.b_int (by decide +kernel) (pa_cons (pe_op op_add (pe_op op_mul (pe_ix ix_list (pv 0) pe_int (fun _ _ => rfl)) pe_int) (pe_op op_mul pe_int (pe_ix ix_list (pv 0) pe_int (fun _ _ => rfl)))) pa_nil)) pe_int) (pg_sub (pv 0) pe_int set_list))
      (pss_one (ps_ret (pe_op op_mod (pe_callTy call_int1 (by rfl) T.b_int (by decide +kernel) (pa_cons (pe_op op_fdiv (pe_ix ix_list (pv 0) pe_int (fun _ _ => rfl)) pe_int) pa_nil)) (pv 1))))))), ?_⟩
    refine ⟨_, rfl, c, _, 2, _, rfl, rfl, SqL.of hc, atI_nat (j := 2) rfl, _, _, rfl, rfl, _, rfl, c, _, 2, 2, rfl, rfl, hc, rfl, ?_⟩
    generalize hH : upd H c _ = H1
    have g1 : Go (A1 c) (Jc c) I H I H1 := by
      rw [← hH]
      exact (Go.refl j).put ⟨_, _, _, rfl⟩
    have hc1 : H1 c = some (.lst [.int x, .int y, .int (z + 1)]) := by
      rw [← hH]
      exact upd_same
    refine ⟨_, rfl, c, [.int x, .int y, .int (z + 1)], 0, _, rfl, rfl, SqL.of hc1, atI_nat (j := 0) rfl, _, _, rfl, rfl, _, rfl, ?_⟩
    by_cases hx : 0 < x
    · refine iteB (decide_eq_true hx) ⟨_, rfl, c, _, 0, _, rfl, rfl, SqL.of hc1, atI_nat (j := 0) rfl, _, rfl, x, n, rfl, ⟨n0, n1⟩, fun p hp => ?_⟩
      have g2 := Go.trans F j g1 (Go.new F g1.j hp (.tup [.int (x / n), .int (x % n)]))
      have hpc : c ≠ p := ne_of_none hc1 hp
      have hc2 : (upd H1 p (.tup [.int (x / n), .int (x % n)])) c = some (.lst [.int x, .int y, .int (z + 1)]) := by rw [upd_ne hpc]; exact hc1
      refine ⟨p, [.int (x / n), .int (x % n)], rfl, SqT.of upd_same, rfl, _, _, rfl, _, rfl, c, _, 0, 0, rfl, rfl, hc2, rfl, _, [], rfl, rfl, ?_⟩
      exact ⟨_, rfl, q _ _ _ (g2.put ⟨_, _, _, rfl⟩) (Int.emod_nonneg _ (by omega)) (Int.emod_lt_of_pos _ n0)⟩
    · refine iteC (decide_eq_false hx) ?_
      refine ⟨_, rfl, c, _, 1, _, rfl, rfl, SqL.of hc1, atI_nat (j := 1) rfl, _, _, rfl, rfl, .inr (by decide), ?_⟩
      refine ⟨_, rfl, c, _, 2, _, rfl, rfl, SqL.of hc1, atI_nat (j := 2) rfl, _, _, rfl, rfl, .inl (by decide), _, _, rfl, rfl, .inl ⟨_, rfl, _, _, rfl, rfl, by show (0 : Int) < 2147483477; decide, _, rfl, c, _, 1, 1, rfl, rfl, hc1, rfl, ?_⟩⟩
      refine ⟨_, rfl, c, _, 1, _, rfl, rfl, SqL.of upd_same, atI_nat (j := 1) rfl, _, _, rfl, rfl, by constructor <;> decide, .inl ⟨_, rfl, _, rfl, _, _, rfl, rfl, n0, ?_⟩⟩
      exact q _ _ _ (g1.put ⟨_, _, _, rfl⟩) (Int.emod_nonneg _ (by omega)) (Int.emod_lt_of_pos _ n0)
end
end JR
/-! J15: labels, clauses, rounds, goals drawn. -/
namespace JR
open PySem PySem.Spec PyProof.Rows L2
theorem pick {xs : List V} {m : Int} (h0 : 0 ≤ m) (h1 : m < xs.length) : ∃ v, v ∈ xs ∧ atI xs m = some v := by
  obtain ⟨k, rfl⟩ := Int.eq_ofNat_of_zero_le h0
  have hk : k < xs.length := by omega
  exact ⟨xs[k], List.getElem_mem hk, atI_nat (List.getElem?_eq_getElem hk)⟩
def labs (b f k : Nat) : List Str := (List.range k).map fun j => menu.getD ((b + f * j) % 9) ""
theorem labs_ok : ∀ b < 9, ∀ f ∈ [1, 2, 4, 5], ∀ k < 4, (decide (labs b f k).Nodup && (labs b f k).all fun n => decide (n ∈ menu)) = true := by decide +kernel
section
variable {P : Program} {w : World} {K : PySem.W.Frag} {mg : Str → Option Value} {base : Heap} {CC CB CK : Addr}
def sp__law_labels : Sp := fun vs H Q _ => ∃ (I : Hp) (c : Addr) (k : Nat), vs = [.ref c, .int k] ∧ Jc c I H ∧ k ≤ 3 ∧
  ∀ (I' H' : Hp) (a : Addr) (ns : List Str), Go (A1 c) (Jc c) I H I' H' → I' a = some (.lst (ns.map V.str)) → ns.length = k → ns.Nodup → (∀ n ∈ ns, n ∈ menu) → Q (.ref a) H'
theorem ok__law_labels (T : Tx K mg CC CB CK) (c__law_sip : Fn P w K mg base 1 "_law_sip" (sp__law_sip)) : Fn P w K mg base 2 "_law_labels" (sp__law_labels) := by
  refine T.f__law_labels.fn sc__law_labels (fun _ _ _ _ _ _ us hl => match us, hl with | [_, _], _ => rfl) (fun vs H Q E h => ?_) (fun f cdv A outer s H vs Q E hr h => ?_)
  · obtain ⟨I, c, k, rfl, _⟩ := h
    rfl
  · obtain ⟨I, c, k, rfl, j, hk, q⟩ := h
    have F := frC c
    refine ⟨_, (pss_cons (ps_asg (pe_tup (pa_cons (pe_fn c__law_sip hr (by decide) (by rfl) (pa_cons (pv 0) (pa_cons pe_int pa_nil))) (pa_cons (pe_ix ix_list (pe_lst (pa_cons pe_int (pa_cons pe_int (pa_cons pe_int (pa_cons pe_int pa_nil))))) (pe_fn c__law_sip hr (by decide) (by rfl) (pa_cons (pv 0) (pa_cons pe_int pa_nil))) (fun _ _ => rfl)) pa_nil))) (pg_tup rfl (pgs_cons (pg_name (i := 2) sc__law_labels.nd rfl (Or.inr rfl)) (pgs_cons (pg_name (i := 3) sc__law_labels.nd rfl (Or.inr rfl)) pgs_nil))))
      (pss_cons (ps_set (i := 4) sc__law_labels.nd rfl (Or.inr rfl) (pe_lst (pa_cons pe_str (pa_cons pe_str (pa_cons pe_str (pa_cons pe_str (pa_cons pe_str (pa_cons pe_str (pa_cons pe_str (pa_cons pe_str (pa_cons pe_str pa_nil)))))))))))
      (pss_one (ps_ret (pe_lc (own := [("_law_k", 5)]) (g := gName 5) (tt := tYes) rfl sc__law_labels.nd (pi_range1 (by rfl) T.b_range (pa_cons (pv 1) pa_nil)) (blkOk_by (own := [("_law_k", 5)]) (N := N__law_labels) (sc := defScope s__law_labels) (by decide +kernel))
        (fun _ _ _ _ _ => pg_name (i := 5) sc__law_labels.nd rfl (Or.inl rfl)) (fun _ _ _ _ _ => pts_nil)
        (fun _ _ _ _ _ => (pe_ix (ixK_list K) (pv 4) (pe_op op_mod (pe_callTy call_int1 (by rfl) T.b_int (by decide +kernel) (pa_cons (pe_op op_add (pv 2) (pe_op op_mul (pv 3) (pv 5))) pa_nil)) pe_int) (fun _ _ => rfl)))))))), ?_⟩
    refine ⟨_, rfl, I, c, 9, rfl, j, by decide, by decide, fun I1 H1 r1 g1 r10 r11 => ⟨(by show 4 ≤ sizeLine; decide), fun b hb => ⟨_, rfl, ?_⟩⟩⟩
    have g2 := Go.trans F j g1 (Go.new F g1.j hb (.lst [.int 1, .int 2, .int 4, .int 5]))
    have hb2 : (upd I1 b (.lst [.int 1, .int 2, .int 4, .int 5])) b = _ := upd_same
    generalize upd H1 b (.lst [.int 1, .int 2, .int 4, .int 5]) = H2 at *
    generalize upd I1 b (.lst [.int 1, .int 2, .int 4, .int 5]) = I2 at *
    refine ⟨I2, c, 4, rfl, g2.j, by decide, by decide, fun I3 H3 r2 g3 r20 r21 => ?_⟩
    obtain ⟨v, hv, hv2⟩ := pick (xs := [.int 1, .int 2, .int 4, .int 5]) r20 r21
    obtain ⟨f, hf, rfl⟩ : ∃ f : Nat, f ∈ [1, 2, 4, 5] ∧ v = .int f := by
      simp only [List.mem_cons, List.not_mem_nil, or_false] at hv
      rcases hv with e | e | e | e <;> subst e
      · exact ⟨1, by decide, rfl⟩
      · exact ⟨2, by decide, rfl⟩
      · exact ⟨4, by decide, rfl⟩
      · exact ⟨5, by decide, rfl⟩
    obtain ⟨bg, rfl⟩ := Int.eq_ofNat_of_zero_le r10
    have g4 := Go.trans F j g2 g3
    refine ⟨b, _, r2, _, rfl, rfl, SqL.of (g3.j.1 _ _ (g3.s _ _ hb2)), hv2, two_le, fun t ht => ?_⟩
    have g5 := Go.trans F j g4 (Go.new F g4.j ht (.tup [.int bg, .int f]))
    refine ⟨t, [.int bg, .int f], rfl, SqT.of upd_same, rfl, _, _, rfl, _, [], rfl, rfl, ?_⟩
    generalize upd H3 t (.tup [.int bg, .int f]) = H5 at *
    generalize upd I3 t (.tup [.int bg, .int f]) = I5 at *
    refine ⟨(by show 9 ≤ sizeLine; decide), fun mb hmb => ?_⟩
    have g6 := Go.trans F j g5 (Go.new F g5.j hmb (.lst (menu.map V.str)))
    have hm6 : (upd I5 mb (.lst (menu.map V.str))) mb = _ := upd_same
    rw [show (HO.lst [V.str "join", V.str "left", V.str "on", V.str "of", V.str "a1", V.str "a2", V.str "plan", V.str "call", V.str "z9z9z9z9"]) = HO.lst (menu.map V.str) from rfl]
    generalize upd H5 mb (.lst (menu.map V.str)) = H6 at *
    generalize upd I5 mb (.lst (menu.map V.str)) = I6 at *
    refine ⟨_, rfl, k, rfl, by omega, by omega, fun D hD => ?_⟩
    refine lc_goY (m := 5) walk_range F g6.j hD (fun i I' ys => ys = (labs bg f i).map V.str) rfl (fun H' k => trivial) (fun _ _ _ _ y => y.1) ?_ ?_
    · rintro i x I7 H7 zs hi ⟨_, hx⟩ g7 hz
      subst hx
      refine ⟨by rw [hz, List.length_map, labs, List.length_map, List.length_range]; omega, fun Q2 q2 => ?_⟩
      have hm7 := g7.j.1 _ _ (g7.s _ _ hm6)
      have hlt : (bg + f * i) % 9 < 9 := Nat.mod_lt _ (by decide)
      refine ⟨_, rfl, _, rfl, _, rfl, _, rfl, _, _, rfl, rfl, .inr ⟨by show -(2 ^ 64) < (0 : Int) + i; omega, by show (0 : Int) + i < 2 ^ 64; omega⟩, _, _, rfl, rfl, .inl ⟨_, rfl, _, _, rfl, rfl, by show (0 : Int) < 9; decide, mb, _, _, .str (menu.getD ((bg + f * i) % 9) ""), rfl, rfl, SqL.of hm7, ?_, q2 I7 H7 _ (Go.refl g7.j) ?_⟩⟩
      · have e : ((bg : Int) + f * (0 + (i : Int))) % 9 = (((bg + f * i) % 9 : Nat) : Int) := by
          rw [Int.zero_add]
          omega
        rw [e]
        refine atI_nat ?_
        rw [List.getElem?_map, List.getElem?_eq_getElem (show (bg + f * i) % 9 < menu.length from hlt)]
        show some (V.str menu[(bg + f * i) % 9]) = some (V.str (menu.getD ((bg + f * i) % 9) ""))
        rw [List.getD_eq_getElem?_getD, List.getElem?_eq_getElem (show (bg + f * i) % 9 < menu.length from hlt)]
        rfl
      · rw [hz]
        unfold labs
        rw [List.range_succ, List.map_append, List.map_append]
        rfl
    intro I7 H7 zs g7 iD hL hz
    subst hz
    have ok := labs_ok bg (by omega) f hf k (by omega)
    rw [Bool.and_eq_true, decide_eq_true_eq, List.all_eq_true] at ok
    exact q _ _ D (labs bg f k) (Go.trans F j g6 (Go.fix F g7 hD (F.nin g6.j hD) iD hL)) upd_same (by simp [labs]) ok.1 fun n hn => of_decide_eq_true (ok.2 n hn)
def sp__law_clause : Sp := fun vs H Q _ => ∃ (I : Hp) (c l : Addr) (ns : List Str) (i r s : Nat) (b : Bool), vs = [.ref c, .ref l, .int i, .int r, .int s, .bl b] ∧ Jc c I H ∧ I l = some (.lst (ns.map V.str)) ∧ i < ns.length ∧ ns.length ≤ 3 ∧ r < s ∧ s ≤ 3 ∧
  (b = true → s = 1 → i + 1 < ns.length) ∧ ∀ (I' H' : Hp) (v : V) (cl : Cl), Go (A1 c) (Jc c) I H I' H' → ClAt I' v cl → ClOk ns i cl → cl.rest = r → cl.step = s → (b = true → cl.w = "call") → (b = false → cl.w ≠ "call") → Q v H'
theorem pick_str {xs : List Str} {m : Int} (h0 : 0 ≤ m) (h1 : m < xs.length) : ∃ s, s ∈ xs ∧ atI (xs.map V.str) m = some (.str s) := by
  obtain ⟨v, hv, h⟩ := pick (xs := xs.map V.str) h0 (by rw [List.length_map]; exact h1)
  obtain ⟨s, hs, rfl⟩ := List.mem_map.mp hv
  exact ⟨s, hs, h⟩
theorem pick_nat {xs : List Nat} {m : Int} (h0 : 0 ≤ m) (h1 : m < xs.length) : ∃ s, s ∈ xs ∧ atI (xs.map fun n => V.int (n : Nat)) m = some (.int (s : Nat)) := by
  obtain ⟨v, hv, h⟩ := pick (xs := xs.map fun n => V.int (n : Nat)) h0 (by rw [List.length_map]; exact h1)
  obtain ⟨s, hs, rfl⟩ := List.mem_map.mp hv
  exact ⟨s, hs, h⟩
def sides : List Str := ["left", "left", "right"]
def words : List Str := ["join", "join", "join", "take", "clear"]
def fars : List Nat := [1, 1, 2, 2, 3, 4]
theorem ok__law_clause (T : Tx K mg CC CB CK) (c__law_sip : Fn P w K mg base 1 "_law_sip" (sp__law_sip)) : Fn P w K mg base 2 "_law_clause" (sp__law_clause) := by
  refine T.f__law_clause.fn sc__law_clause (fun _ _ _ _ _ _ us hl => match us, hl with | [_, _, _, _, _, _], _ => rfl) (fun vs H Q E h => ?_) (fun f cdv A outer s H vs Q E hr h => ?_)
  · obtain ⟨I, c, l, ns, i, r, s, b, rfl, _⟩ := h
    rfl
  · obtain ⟨I, c, l, ns, i, r, sv, b, rfl, j, hl, hi, hn3, hr3, s3, hb1, q⟩ := h
    have F := frC c
    refine ⟨_, (pss_cons (ps_par (i := 6) (j := 7) (by rfl) sc__law_clause.nd rfl rfl (by decide) rfl rfl (pa_cons (pe_fn c__law_sip hr (by decide) (by rfl) (pa_cons (pv 0) (pa_cons pe_int pa_nil))) (pa_cons (pe_ix ix_list (pe_lst (pa_cons pe_str (pa_cons pe_str (pa_cons pe_str pa_nil)))) (pe_fn c__law_sip hr (by decide) (by rfl) (pa_cons (pv 0) (pa_cons pe_int pa_nil))) (fun _ _ => rfl)) pa_nil)) (by rfl))
      (pss_cons (ps_if (pt_val (pv 5))
        (pss_one (ps_ret (pe_tup (pa_cons pe_str (pa_cons (pv 3) (pa_cons (pv 4) (pa_cons pe_str (pa_cons pe_int (pa_cons (pe_ix ix_list (pv 1) (pe_ifExp (pt_cmpR op_gt (pv 4) pe_int (nomark _)) (pe_fn c__law_sip hr (by decide) (by rfl) (pa_cons (pv 0) (pa_cons (pe_callB call_len_seq (by rfl) T.b_len (by decide +kernel) (pa_cons (pv 1) pa_nil)) pa_nil))) (pe_op op_add (pv 2) pe_int)) (fun _ _ => rfl)) pa_nil)))))))))
        pss_nil)
      (pss_cons (ps_set (i := 6) sc__law_clause.nd rfl (Or.inl rfl) (pe_ix ix_list (pe_lst (pa_cons pe_str (pa_cons pe_str (pa_cons pe_str (pa_cons pe_str (pa_cons pe_str pa_nil)))))) (pv 6) (fun _ _ => rfl)))
      (pss_one (ps_ret (pe_tup (pa_cons (pv 6) (pa_cons (pv 3) (pa_cons (pv 4) (pa_cons (pv 7) (pa_cons (pe_ix ix_list (pe_lst (pa_cons pe_int (pa_cons pe_int (pa_cons pe_int (pa_cons pe_int (pa_cons pe_int (pa_cons pe_int pa_nil))))))) (pe_fn c__law_sip hr (by decide) (by rfl) (pa_cons (pv 0) (pa_cons pe_int pa_nil))) (fun _ _ => rfl)) (pa_cons pe_str pa_nil)))))))))))), ?_⟩
    refine ⟨_, rfl, I, c, 5, rfl, j, by decide, by decide, fun I1 H1 r1 g1 r10 r11 => ⟨(by show 3 ≤ sizeLine; decide), fun m hm => ⟨_, rfl, ?_⟩⟩⟩
    have g2 := Go.trans F j g1 (Go.new F g1.j hm (.lst (sides.map V.str)))
    have hm2 : (upd I1 m (.lst (sides.map V.str))) m = _ := upd_same
    rw [show (HO.lst [V.str "left", V.str "left", V.str "right"]) = HO.lst (sides.map V.str) from rfl]
    generalize upd H1 m (.lst (sides.map V.str)) = H2 at *
    generalize upd I1 m (.lst (sides.map V.str)) = I2 at *
    refine ⟨I2, c, 3, rfl, g2.j, by decide, by decide, fun I3 H3 r2 g3 r20 r21 => ?_⟩
    obtain ⟨sd, hsd, hsd2⟩ := pick_str (xs := sides) r20 r21
    have g4 := Go.trans F j g2 g3
    refine ⟨m, _, r2, _, rfl, rfl, SqL.of (g3.j.1 _ _ (g3.s _ _ hm2)), hsd2, _, _, rfl, ?_⟩
    have hl4 := g4.j.1 _ _ (g4.s _ _ hl)
    refine ⟨_, rfl, _, rfl, ?_⟩
    have six : ∀ {a b c d e f : V}, [a, b, c, d, e, f].length ≤ sizeLine := fun {a b c d e f} => by
      show 6 ≤ sizeLine
      decide
    cases b with
    | true =>
      have fin : ∀ I5 H5 lab, Go (A1 c) (Jc c) I H I5 H5 → lab ∈ ns → (sv = 1 → ns[i + 1]? = some lab) → ∀ t, H5 t = none → Q (.ref t) (upd H5 t (.tup [.str "call", .int r, .int sv, .str "", .int 0, .str lab])) := fun I5 H5 lab g5 hlab h1 t ht =>
        q _ _ _ ⟨"call", r, sv, "", 0, lab⟩ (Go.trans F j g5 (Go.new F g5.j ht _)) ⟨t, rfl, upd_same⟩ ⟨by show 1 ≤ sv; omega, s3, hr3, .inl ⟨rfl, rfl, rfl, hlab, h1⟩⟩ rfl rfl (fun _ => rfl) (fun e => Bool.noConfusion e)
      refine iteB rfl ⟨_, rfl, _, rfl, _, rfl, _, rfl, _, _, rfl, rfl, _, rfl, ?_⟩
      by_cases hs : (sv : Int) > 1
      · refine iteB (decide_eq_true hs) ⟨_, rfl, _, rfl, l, _, rfl, .inl (SqL.of hl4), I3, c, _, rfl, g4.j, by rw [List.length_map]; omega, by rw [List.length_map]; omega, fun I5 H5 r3 g5 r30 r31 => ?_⟩
        rw [List.length_map] at r31
        obtain ⟨lab, hlab, hlab2⟩ := pick_str r30 r31
        exact ⟨l, _, r3, _, rfl, rfl, SqL.of (g5.j.1 _ _ (g5.s _ _ (g4.s _ _ hl))), hlab2, six, fin I5 H5 lab (Go.trans F j g4 g5) hlab (fun e => by omega)⟩
      · have h1 := hb1 rfl (by omega)
        obtain ⟨lab, hlab⟩ : ∃ lab, ns[i + 1]? = some lab := ⟨_, List.getElem?_eq_getElem h1⟩
        have hat : atI (ns.map V.str) ((i : Int) + 1) = some (.str lab) := by
          rw [show (i : Int) + 1 = ((i + 1 : Nat) : Int) by omega]
          refine atI_nat ?_
          rw [List.getElem?_map, hlab]
          rfl
        exact iteC (decide_eq_false hs) ⟨_, rfl, _, _, rfl, rfl, l, _, _, _, rfl, rfl, SqL.of hl4, hat, six, fin I3 H3 lab g4 (List.mem_of_getElem? hlab) (fun _ => hlab)⟩
    | false =>
      refine iteC rfl ⟨(by show 5 ≤ sizeLine; decide), fun wb hwb => ⟨_, rfl, ?_⟩⟩
      obtain ⟨wd, hwd, hwd2⟩ := pick_str (xs := words) r10 r11
      have g5 := Go.trans F j g4 (Go.new F g4.j hwb (.lst (words.map V.str)))
      have hwb2 : (upd H3 wb (.lst (words.map V.str))) wb = _ := upd_same
      rw [show (HO.lst [V.str "join", V.str "join", V.str "join", V.str "take", V.str "clear"]) = HO.lst (words.map V.str) from rfl]
      generalize upd H3 wb (.lst (words.map V.str)) = H5 at *
      generalize upd I3 wb (.lst (words.map V.str)) = I5 at *
      refine ⟨wb, _, r1, _, rfl, rfl, SqL.of hwb2, hwd2, _, rfl, _, rfl, _, rfl, _, rfl, (by show 6 ≤ sizeLine; decide), fun fb hfb => ?_⟩
      have g6 := Go.trans F j g5 (Go.new F g5.j hfb (.lst (fars.map fun n => V.int (n : Nat))))
      have hfb2 : (upd I5 fb (.lst (fars.map fun n => V.int (n : Nat)))) fb = _ := upd_same
      rw [show (HO.lst [V.int 1, V.int 1, V.int 2, V.int 2, V.int 3, V.int 4]) = HO.lst (fars.map fun n => V.int (n : Nat)) from rfl]
      generalize upd H5 fb (.lst (fars.map fun n => V.int (n : Nat))) = H6 at *
      generalize upd I5 fb (.lst (fars.map fun n => V.int (n : Nat))) = I6 at *
      refine ⟨_, rfl, I6, c, 6, rfl, g6.j, by decide, by decide, fun I7 H7 r3 g7 r30 r31 => ?_⟩
      obtain ⟨fr, hfr, hfr2⟩ := pick_nat (xs := fars) r30 r31
      refine ⟨fb, _, r3, _, rfl, rfl, SqL.of (g7.j.1 _ _ (g7.s _ _ hfb2)), hfr2, six, fun t ht => ?_⟩
      have g8 := Go.trans F j g6 g7
      have hw : wd = "join" ∨ wd = "take" ∨ wd = "clear" := by
        simp only [words, List.mem_cons, List.not_mem_nil, or_false] at hwd
        rcases hwd with e | e | e | e | e
        · exact .inl e
        · exact .inl e
        · exact .inl e
        · exact .inr (.inl e)
        · exact .inr (.inr e)
      have hs : sd = "left" ∨ sd = "right" := by
        simp only [sides, List.mem_cons, List.not_mem_nil, or_false] at hsd
        rcases hsd with e | e | e
        · exact .inl e
        · exact .inl e
        · exact .inr e
      have hf : 1 ≤ fr ∧ fr ≤ 4 := by
        simp only [fars, List.mem_cons, List.not_mem_nil, or_false] at hfr
        omega
      exact q _ _ _ ⟨wd, r, sv, sd, fr, ""⟩ (Go.trans F j g8 (Go.new F g8.j ht _)) ⟨t, rfl, upd_same⟩ ⟨by show 1 ≤ sv; omega, s3, hr3, .inr ⟨hw, hs, hf.1, hf.2, rfl⟩⟩ rfl rfl (fun e => Bool.noConfusion e) (fun _ => by
        show wd ≠ "call"
        rcases hw with e | e | e <;> rw [e] <;> decide +kernel)
end
end JR
/-! J16: rounds, goals, plans drawn. -/
namespace JR
open PySem PySem.Spec PyProof.Rows L2
section
variable {P : Program} {w : World} {K : PySem.W.Frag} {mg : Str → Option Value} {base : Heap} {CC CB CK : Addr}
def steps : List Nat := [1, 1, 2, 2, 2, 3]
theorem two_mod {r s : Nat} (hs : s ≤ 3) (hr : r < s) {j k : Nat} (hj : j < k) (hk : k < s) : (r + j) % s ≠ (r + k) % s := by
  have h : s = 1 ∨ s = 2 ∨ s = 3 := by omega
  rcases h with e | e | e <;> subst e <;> omega
def sp__law_round : Sp := fun vs H Q _ => ∃ (I : Hp) (c l : Addr) (ns : List Str) (i : Nat), vs = [.ref c, .ref l, .int i] ∧ Jc c I H ∧ I l = some (.lst (ns.map V.str)) ∧ i < ns.length ∧ ns.length ≤ 3 ∧
  ∀ (I' H' : Hp) (v : V) (r : List Cl), Go (A1 c) (Jc c) I H I' H' → RdAt I' v r → RdOk ns i r → Q v H'
theorem ok__law_round (T : Tx K mg CC CB CK) (c__law_sip : Fn P w K mg base 1 "_law_sip" (sp__law_sip)) (c__law_clause : Fn P w K mg base 2 "_law_clause" (sp__law_clause)) : Fn P w K mg base 3 "_law_round" (sp__law_round) := by
  refine T.f__law_round.fn sc__law_round (fun _ _ _ _ _ _ us hl => match us, hl with | [_, _, _], _ => rfl) (fun vs H Q E h => ?_) (fun f cdv A outer s H vs Q E hr h => ?_)
  · obtain ⟨I, c, l, ns, i, rfl, _⟩ := h
    rfl
  · obtain ⟨I, c, l, ns, i, rfl, j, hl, hi, hn3, q⟩ := h
    have F := frC c
    refine ⟨_, (pss_cons (ps_asg (pe_tup (pa_cons (pe_cmpR op_eq (pe_fn c__law_sip hr (by decide) (by rfl) (pa_cons (pv 0) (pa_cons pe_int pa_nil))) pe_int (nomark _)) (pa_cons (pe_ix ix_list (pe_lst (pa_cons pe_int (pa_cons pe_int (pa_cons pe_int (pa_cons pe_int (pa_cons pe_int (pa_cons pe_int pa_nil))))))) (pe_fn c__law_sip hr (by decide) (by rfl) (pa_cons (pv 0) (pa_cons pe_int pa_nil))) (fun _ _ => rfl)) pa_nil))) (pg_tup rfl (pgs_cons (pg_name (i := 3) sc__law_round.nd rfl (Or.inr rfl)) (pgs_cons (pg_name (i := 4) sc__law_round.nd rfl (Or.inr rfl)) pgs_nil))))
      (pss_cons (ps_asg (pe_tup (pa_cons (pe_fn c__law_sip hr (by decide) (by rfl) (pa_cons (pv 0) (pa_cons (pv 4) pa_nil))) (pa_cons (pe_op op_add pe_int (pe_fn c__law_sip hr (by decide) (by rfl) (pa_cons (pv 0) (pa_cons pe_int pa_nil)))) pa_nil))) (pg_tup rfl (pgs_cons (pg_name (i := 5) sc__law_round.nd rfl (Or.inr rfl)) (pgs_cons (pg_name (i := 6) sc__law_round.nd rfl (Or.inl rfl)) pgs_nil))))
      (pss_cons (ps_if (PW.pt (pw_and (pt_val (pv 3)) (pw_and (pt_cmpR op_eq (pv 4) pe_int (nomark _)) (pw_and1 (pt_cmpR op_ge (pe_op op_add (pv 2) pe_int) (pe_callB call_len_seq (by rfl) T.b_len (by decide +kernel) (pa_cons (pv 1) pa_nil)) (nomark _))))))
        (pss_one (ps_set (i := 4) sc__law_round.nd rfl (Or.inr rfl) pe_int))
        pss_nil)
      (pss_cons (ps_set (i := 6) sc__law_round.nd rfl (Or.inl rfl) (pe_callB (call_min2 rfl) (by rfl) T.b_min (by decide +kernel) (pa_cons (pv 6) (pa_cons (pv 4) pa_nil))))
      (pss_one (ps_ret (pe_lc (own := [("_law_k", 7)]) (g := gName 7) (tt := tYes) rfl sc__law_round.nd (pi_range1 (by rfl) T.b_range (pa_cons (pv 6) pa_nil)) (blkOk_by (own := [("_law_k", 7)]) (N := N__law_round) (sc := defScope s__law_round) (by decide +kernel))
        (fun _ _ _ _ _ => pg_name (i := 7) sc__law_round.nd rfl (Or.inl rfl)) (fun _ _ _ _ _ => pts_nil)
        (fun _ _ _ _ _ => (pe_fn c__law_clause hr (by decide) (by rfl) (pa_cons (pv 0) (pa_cons (pv 1) (pa_cons (pv 2) (pa_cons (pe_op op_mod (pe_callTy call_int1 (by rfl) T.b_int (by decide +kernel) (pa_cons (pe_op op_add (pv 5) (pv 7)) pa_nil)) (pv 4)) (pa_cons (pv 4) (pa_cons (pv 3) pa_nil))))))))))))))), ?_⟩
    refine ⟨_, rfl, I, c, 4, rfl, j, by decide, by decide, fun I1 H1 r1 g1 r10 r11 => ?_⟩
    refine ⟨rfl, (by show 6 ≤ sizeLine; decide), fun m hm => ⟨_, rfl, ?_⟩⟩
    have g2 := Go.trans F j g1 (Go.new F g1.j hm (.lst (steps.map fun n => V.int (n : Nat))))
    have hm2 : (upd I1 m (.lst (steps.map fun n => V.int (n : Nat)))) m = _ := upd_same
    rw [show (HO.lst [V.int 1, V.int 1, V.int 2, V.int 2, V.int 2, V.int 3]) = HO.lst (steps.map fun n => V.int (n : Nat)) from rfl]
    generalize upd H1 m (.lst (steps.map fun n => V.int (n : Nat))) = H2 at *
    generalize upd I1 m (.lst (steps.map fun n => V.int (n : Nat))) = I2 at *
    refine ⟨I2, c, 6, rfl, g2.j, by decide, by decide, fun I3 H3 r2 g3 r20 r21 => ?_⟩
    obtain ⟨sv, hsv, hsv2⟩ := pick_nat (xs := steps) r20 r21
    have hs : 1 ≤ sv ∧ sv ≤ 3 := by
      simp only [steps, List.mem_cons, List.not_mem_nil, or_false] at hsv
      omega
    have g4 := Go.trans F j g2 g3
    refine ⟨m, _, r2, _, rfl, rfl, SqL.of (g3.j.1 _ _ (g3.s _ _ hm2)), hsv2, two_le, fun t ht => ?_⟩
    generalize hb : decide (V.int r1 = V.int 0) = b
    have g5 := Go.trans F j g4 (Go.new F g4.j ht (.tup [.bl b, .int sv]))
    refine ⟨t, [.bl b, .int sv], rfl, SqT.of upd_same, rfl, _, _, rfl, _, [], rfl, rfl, ?_⟩
    generalize upd H3 t (.tup [.bl b, .int sv]) = H5 at *
    generalize upd I3 t (.tup [.bl b, .int sv]) = I5 at *
    refine ⟨_, rfl, _, rfl, I5, c, sv, rfl, g5.j, by omega, by omega, fun I6 H6 r3 g6 r30 r31 => ⟨_, rfl, I6, c, 3, rfl, g6.j, by decide, by decide, fun I7 H7 r4 g7 r40 r41 => ⟨_, _, rfl, rfl, two_le, fun t2 ht2 => ?_⟩⟩⟩
    have g8 := Go.trans F j g5 (Go.trans F g5.j g6 g7)
    have g9 := Go.trans F j g8 (Go.new F g8.j ht2 (.tup [.int r3, .int (1 + r4)]))
    refine ⟨t2, [.int r3, .int (1 + r4)], rfl, SqT.of upd_same, rfl, _, _, rfl, _, [], rfl, rfl, ?_⟩
    generalize upd H7 t2 (.tup [.int r3, .int (1 + r4)]) = H9 at *
    generalize upd I7 t2 (.tup [.int r3, .int (1 + r4)]) = I9 at *
    have hl9 := g9.j.1 _ _ (g9.s _ _ hl)
    obtain ⟨rs, rfl⟩ := Int.eq_ofNat_of_zero_le r30
    suffices rest : ∀ s' : Nat, 1 ≤ s' → s' ≤ 3 → rs < s' → (b = true → s' = 1 → i + 1 < ns.length) →
        (tSeq (tAsg (tCB (fun xs H Q => ∃ i j, xs = [V.int i, V.int j] ∧ Q (V.int (if j < i then j else i)) H) (tCons (tVar 6) (tCons (tVar 4) tNil))) (gName 6)) (tRet (tLc (iRng1 (tCons (tVar 6) tNil)) (gName 7) tYes (tCall sp__law_clause [] E0 (tCons (tVar 0) (tCons (tVar 1) (tCons (tVar 2) (tCons (tOp (rI (fun x j => 0 < j) fun i j => V.int (i % j)) (tCB (fun xs H Q => (∃ i, xs = [V.int i] ∧ Q (V.int i) H) ∨ ∃ k, xs = [V.bl k] ∧ Q (V.int (if k = true then 1 else 0)) H) (tCons (tOp (rI0 fun i j => V.int (i + j)) (tVar 5) (tVar 7)) tNil)) (tVar 4)) (tCons (tVar 4) (tCons (tVar 3) tNil))))))) [7])))
          { nx := fun x H' => Q V.non H', rt := Q } [some (.ref c), some (.ref l), some (.int i), some (.bl b), some (.int s'), some (.int rs), some (.int (1 + r4)), none] H9 by
      refine ⟨_, rfl, b, rfl, ?_⟩
      cases hbb : b with
      | false =>
        subst hbb
        exact iteC rfl (iteC rfl (rest sv hs.1 hs.2 (by omega) fun e => Bool.noConfusion e))
      | true =>
        subst hbb
        refine iteB rfl ⟨_, rfl, rfl, _, rfl, ?_⟩
        by_cases h1 : sv = 1
        · refine iteB (decide_eq_true (by rw [h1]; rfl)) ⟨_, rfl, _, _, rfl, rfl, _, rfl, l, _, rfl, .inl (SqL.of hl9), _, _, rfl, rfl, _, rfl, ?_⟩
          by_cases h2 : (i : Int) + 1 ≥ ((ns.map V.str).length : Nat)
          · exact iteB (decide_eq_true h2) (rest 2 (by decide) (by decide) (by omega) (fun _ e => by omega))
          · rw [List.length_map] at h2
            refine iteC (decide_eq_false (by rw [List.length_map]; exact h2)) (rest sv hs.1 hs.2 (by omega) fun _ _ => by omega)
        · exact iteC (decide_eq_false fun z => h1 (by have := V.int.inj z; omega)) (iteC rfl (rest sv hs.1 hs.2 (by omega) fun _ e => absurd e h1))
    intro s' s1 s3 hrs hbs
    obtain ⟨m4, rfl⟩ := Int.eq_ofNat_of_zero_le r40
    refine ⟨_, rfl, _, rfl, _, _, rfl, ?_⟩
    obtain ⟨mm, hmm, hmm2⟩ : ∃ mm : Nat, (if (s' : Int) < 1 + (m4 : Int) then (s' : Int) else 1 + (m4 : Int)) = (mm : Int) ∧ (1 ≤ mm ∧ mm ≤ s' ∧ mm ≤ 3) := by
      by_cases h : (s' : Int) < 1 + (m4 : Int)
      · rw [if_pos h]
        exact ⟨s', rfl, by omega, by omega, by omega⟩
      · rw [if_neg h]
        exact ⟨1 + m4, by omega, by omega, by omega, by omega⟩
    rw [hmm]
    refine ⟨_, rfl, mm, rfl, by omega, by omega, fun D hD => ?_⟩
    refine lc_goY (m := 7) walk_range F g9.j hD (fun k I' ys => ∃ rd : List Cl, Paired (ClAt I') ys rd ∧ rd.length = k ∧ ∀ (m : Nat) (cl : Cl), rd[m]? = some cl → ClOk ns i cl ∧ cl.rest = (rs + m) % s' ∧ cl.step = s' ∧ (b = true → cl.w = "call") ∧ (b = false → cl.w ≠ "call"))
      ⟨[], .nil, rfl, fun m cl h => by simp at h⟩ (fun H' k => trivial) (fun _ _ _ _ y => y.1) ?_ ?_
    · rintro k x I4 H4 zs hk ⟨_, hx⟩ g10 ⟨rd, hP, hrl, hrd⟩
      subst hx
      have hzl := hP.length
      refine ⟨by omega, fun Q2 q2 => ?_⟩
      have em : ((rs : Int) + (0 + (k : Int))) % (s' : Int) = (((rs + k) % s' : Nat) : Int) := by
        rw [Int.zero_add, Int.natCast_emod, Int.natCast_add]
      refine ⟨_, rfl, _, rfl, _, rfl, _, rfl, _, rfl, _, _, rfl, rfl, .inl ⟨_, rfl, _, rfl, _, _, rfl, rfl, by show (0 : Int) < s'; omega, _, rfl, _, rfl, I4, c, l, ns, i, (rs + k) % s', s', b, ?_, g10.j, g10.s _ _ (g9.s _ _ hl), hi, hn3, Nat.mod_lt _ (by omega), s3, hbs, fun I5 H5 v cl g11 hv ok hr2 hs2 h1 h2 => q2 I5 H5 v g11 ⟨rd ++ [cl], (hP.mono fun _ _ z => z.mono g11.s).snoc hv, by rw [List.length_append, hrl]; rfl, fun m cl2 hm => ?_⟩⟩⟩
      · show [V.ref c, V.ref l, V.int i, V.int (((rs : Int) + (0 + (k : Int))) % (s' : Int)), V.int s', V.bl b] = _
        rw [em]
      · by_cases hmk : m < rd.length
        · rw [List.getElem?_append_left hmk] at hm
          exact hrd m cl2 hm
        · have e : m = rd.length := by
            have := get_len hm
            rw [List.length_append, List.length_singleton] at this
            omega
          subst e
          rw [List.getElem?_append_right (Nat.le_refl _), Nat.sub_self] at hm
          cases hm
          rw [hrl]
          exact ⟨ok, hr2, hs2, h1, h2⟩
    intro I4 H4 zs g10 iD hL ⟨rd, hP, hrl, hrd⟩
    have hrl : rd.length = mm := by omega
    refine q _ _ _ rd (Go.trans F j g9 (Go.fix F g10 hD (F.nin g9.j hD) iD hL)) ⟨D, zs, rfl, upd_same, hP.mono fun _ _ z => z.mono (same_new iD _)⟩ ?_
    have hmem : ∀ cl ∈ rd, ∃ m, rd[m]? = some cl := fun cl h => List.getElem?_of_mem h
    refine ⟨fun e => ?_, by omega, fun cl h => ?_, ?_, fun jj kk cl dl h1 h2 hlt => ?_⟩
    · rw [e] at hrl
      simp at hrl
      omega
    · obtain ⟨m, hm⟩ := hmem cl h
      exact (hrd m cl hm).1
    · cases hbb : b with
      | true =>
        exact .inl fun cl h => by
          obtain ⟨m, hm⟩ := hmem cl h
          exact (hrd m cl hm).2.2.2.1 hbb
      | false =>
        exact .inr fun cl h => by
          obtain ⟨m, hm⟩ := hmem cl h
          exact (hrd m cl hm).2.2.2.2 hbb
    · obtain ⟨_, a2, a3, _⟩ := hrd jj cl h1
      obtain ⟨_, b2, b3, _⟩ := hrd kk dl h2
      have := get_len h2
      refine ⟨by omega, fun e => ?_⟩
      exact two_mod s3 hrs hlt (by omega) (by omega)
def sp__law_goal : Sp := fun vs H Q _ => ∃ (I : Hp) (c : Addr), vs = [.ref c] ∧ Jc c I H ∧ ∀ (I' H' : Hp) (v : V) (gw : Str) (gk : Nat), Go (A1 c) (Jc c) I H I' H' → GoAt I' v gw gk → GoOk gw gk → Q v H'
def goals : List Str := ["all", "all", "before", "last"]
theorem ok__law_goal (T : Tx K mg CC CB CK) (c__law_sip : Fn P w K mg base 1 "_law_sip" (sp__law_sip)) : Fn P w K mg base 2 "_law_goal" (sp__law_goal) := by
  refine T.f__law_goal.fn sc__law_goal (fun _ _ _ _ _ _ us hl => match us, hl with | [_], _ => rfl) (fun vs H Q E h => ?_) (fun f cdv A outer s H vs Q E hr h => ?_)
  · obtain ⟨I, c, rfl, _⟩ := h
    rfl
  · obtain ⟨I, c, rfl, j, q⟩ := h
    have F := frC c
    refine ⟨_, (pss_cons (ps_set (i := 1) sc__law_goal.nd rfl (Or.inl rfl) (pe_ix ix_list (pe_lst (pa_cons pe_str (pa_cons pe_str (pa_cons pe_str (pa_cons pe_str pa_nil))))) (pe_fn c__law_sip hr (by decide) (by rfl) (pa_cons (pv 0) (pa_cons pe_int pa_nil))) (fun _ _ => rfl)))
      (pss_one (ps_ret (pe_tup (pa_cons (pv 1) (pa_cons (pe_ifExp (pt_cmpR op_eq (pv 1) pe_str (nomark _)) (pe_op op_add pe_int (pe_fn c__law_sip hr (by decide) (by rfl) (pa_cons (pv 0) (pa_cons pe_int pa_nil)))) pe_int) pa_nil)))))), ?_⟩
    refine ⟨(by show 4 ≤ sizeLine; decide), fun m hm => ⟨_, rfl, ?_⟩⟩
    have g2 := Go.new F j hm (.lst (goals.map V.str))
    have hm2 : (upd I m (.lst (goals.map V.str))) m = _ := upd_same
    rw [show (HO.lst [V.str "all", V.str "all", V.str "before", V.str "last"]) = HO.lst (goals.map V.str) from rfl]
    generalize upd H m (.lst (goals.map V.str)) = H2 at *
    generalize upd I m (.lst (goals.map V.str)) = I2 at *
    refine ⟨I2, c, 4, rfl, g2.j, by decide, by decide, fun I3 H3 r2 g3 r20 r21 => ?_⟩
    obtain ⟨gw, hgw, hgw2⟩ := pick_str (xs := goals) r20 r21
    have g4 := Go.trans F j g2 g3
    refine ⟨m, _, r2, _, rfl, rfl, SqL.of (g3.j.1 _ _ (g3.s _ _ hm2)), hgw2, _, rfl, _, rfl, rfl, _, rfl, ?_⟩
    by_cases hlw : gw = "last"
    · subst hlw
      refine iteB (eq_str rfl) ⟨_, rfl, I3, c, 4, rfl, g4.j, by decide, by decide, fun I5 H5 r3 g5 r30 r31 => ⟨_, _, rfl, rfl, two_le, fun t ht => ?_⟩⟩
      obtain ⟨k, rfl⟩ := Int.eq_ofNat_of_zero_le r30
      have g6 := Go.trans F j g4 g5
      refine q _ _ _ "last" (k + 1) (Go.trans F j g6 (Go.new F g6.j ht _)) ⟨t, rfl, ?_⟩ ⟨.inr (.inr ⟨rfl, by omega, by omega⟩)⟩
      rw [upd_same, show ((k + 1 : Nat) : Int) = 1 + k by omega]
    · refine iteC (ne_str hlw) ⟨two_le, fun t ht => ?_⟩
      have hk : gw = "all" ∨ gw = "before" := by
        simp only [goals, List.mem_cons, List.not_mem_nil, or_false] at hgw
        rcases hgw with e | e | e | e
        · exact .inl e
        · exact .inl e
        · exact .inr e
        · exact absurd e hlw
      exact q _ _ _ gw 0 (Go.trans F j g4 (Go.new F g4.j ht _)) ⟨t, rfl, upd_same⟩ ⟨hk.elim (fun e => .inl ⟨e, rfl⟩) fun e => .inr (.inl ⟨e, rfl⟩)⟩
end
end JR
/-! J17: plans, sketches, lengths drawn. -/
namespace JR
open PySem PySem.Spec PyProof.Rows L2
/-- a new object -/
theorem nw {A : Addr → Prop} {J : Hp → Hp → Prop} {I H I1 H1 : Hp} {p : Addr} (F : Fr A J) (j : J I H) (g : Go A J I H I1 H1) (h : H1 p = none) (o : HO) : ∃ I2, Go A J I H I2 (upd H1 p o) ∧ I2 p = some o ∧ Same I1 I2 :=
  ⟨upd I1 p o, Go.trans F j g (Go.new F g.j h o), upd_same, same_new ((F.sub g.j).free h) o⟩
section
variable {P : Program} {w : World} {K : PySem.W.Frag} {mg : Str → Option Value} {base : Heap} {CC CB CK : Addr}
def sp__law_plan : Sp := fun vs H Q _ => ∃ (I : Hp) (c l : Addr) (ns : List Str) (i : Nat), vs = [.ref c, .ref l, .int i, .int 3] ∧ Jc c I H ∧ I l = some (.lst (ns.map V.str)) ∧ i < ns.length ∧ ns.length ≤ 3 ∧
  ∀ (I' H' : Hp) (v : V) (p : Pl), Go (A1 c) (Jc c) I H I' H' → PlAt I' v p → PlOk ns i p → Q v H'
theorem ok__law_plan (T : Tx K mg CC CB CK) (c__law_sip : Fn P w K mg base 1 "_law_sip" (sp__law_sip)) (c__law_goal : Fn P w K mg base 2 "_law_goal" (sp__law_goal)) (c__law_round : Fn P w K mg base 3 "_law_round" (sp__law_round)) : Fn P w K mg base 4 "_law_plan" (sp__law_plan) := by
  refine T.f__law_plan.fn sc__law_plan (fun _ _ _ _ _ _ us hl => match us, hl with | [_, _, _, _], _ => rfl) (fun vs H Q E h => ?_) (fun f cdv A outer s H vs Q E hr h => ?_)
  · obtain ⟨I, c, l, ns, i, rfl, _⟩ := h
    rfl
  · obtain ⟨I, c, l, ns, i, rfl, j, hl, hi, hn3, q⟩ := h
    have F := frC c
    obtain ⟨nm, hnm⟩ : ∃ nm, ns[i]? = some nm := ⟨_, List.getElem?_eq_getElem hi⟩
    have hnv : (ns.map V.str)[i]? = some (.str nm) := by
      rw [List.getElem?_map, hnm]
      rfl
    refine ⟨_, (pss_cons (ps_par3 (i := 4) (j := 5) (l := 6) (by rfl) sc__law_plan.nd rfl rfl rfl (by decide) (by decide) (by decide) rfl rfl rfl (pa_cons (pe_fn c__law_goal hr (by decide) (by rfl) (pa_cons (pv 0) pa_nil)) (pa_cons (pe_op op_add pe_int (pe_fn c__law_sip hr (by decide) (by rfl) (pa_cons (pv 0) (pa_cons pe_int pa_nil)))) (pa_cons (pe_op op_add pe_int (pe_fn c__law_sip hr (by decide) (by rfl) (pa_cons (pv 0) (pa_cons (pv 3) pa_nil)))) pa_nil))) (by rfl))
      (pss_one (ps_ret (pe_lst (pa_cons (pe_ix ix_list (pv 1) (pv 2) (fun _ _ => rfl)) (pa_cons (pv 4) (pa_cons (pv 5) (pa_cons (pe_lc (own := [("_law_k", 7)]) (g := gName 7) (tt := tYes) rfl sc__law_plan.nd (pi_range1 (by rfl) T.b_range (pa_cons (pv 6) pa_nil)) (blkOk_by (own := [("_law_k", 7)]) (N := N__law_plan) (sc := defScope s__law_plan) (by decide +kernel))
        (fun _ _ _ _ _ => pg_name (i := 7) sc__law_plan.nd rfl (Or.inl rfl)) (fun _ _ _ _ _ => pts_nil)
        (fun _ _ _ _ _ => (pe_fn c__law_round hr (by decide) (by rfl) (pa_cons (pv 0) (pa_cons (pv 1) (pa_cons (pv 2) pa_nil)))))) pa_nil)))))))), ?_⟩
    refine ⟨_, rfl, I, c, rfl, j, fun I1 H1 v1 gw gk g1 hg gok => ⟨_, rfl, I1, c, 4, rfl, g1.j, by decide, by decide, fun I2 H2 r2 g2 r20 r21 => ⟨_, _, rfl, rfl, _, rfl, _, rfl, I2, c, 3, rfl, g2.j, by decide, by decide, fun I3 H3 r3 g3 r30 r31 => ⟨_, _, rfl, rfl, _, _, _, rfl, ?_⟩⟩⟩⟩
    obtain ⟨m2, rfl⟩ := Int.eq_ofNat_of_zero_le r20
    obtain ⟨m3, rfl⟩ := Int.eq_ofNat_of_zero_le r30
    have g4 := Go.trans F j g1 (Go.trans F g1.j g2 g3)
    have hg4 := (hg.mono g2.s).mono g3.s
    have hl4 := g4.j.1 _ _ (g4.s _ _ hl)
    refine ⟨_, rfl, _, rfl, l, _, _, _, rfl, rfl, SqL.of hl4, atI_nat hnv, _, rfl, _, rfl, _, rfl, _, rfl, by omega, by omega, fun D hD => ?_⟩
    refine lc_goY (m := 7) walk_range F g4.j hD (fun k I' ys => ∃ rds : List (List Cl), Paired (RdAt I') ys rds ∧ rds.length = k ∧ ∀ r ∈ rds, RdOk ns i r) ⟨[], .nil, rfl, fun r h => by simp at h⟩ (fun H' k => trivial) (fun _ _ _ _ y => y.1) ?_ ?_
    · rintro k x I5 H5 zs hk ⟨_, hx⟩ g5 ⟨rds, hP, hrl, hrd⟩
      have hzl := hP.length
      refine ⟨by omega, fun Q2 q2 => ⟨_, rfl, _, rfl, _, rfl, I5, c, l, ns, i, rfl, g5.j, g5.s _ _ (g4.s _ _ hl), hi, hn3, fun I6 H6 v r g6 hv ok => q2 I6 H6 v g6 ⟨rds ++ [r], (hP.mono fun _ _ z => RdAt.mono g6.s z).snoc hv, by rw [List.length_append, hrl]; rfl, fun r' h => ?_⟩⟩⟩
      rcases List.mem_append.mp h with h | h
      · exact hrd r' h
      · rw [List.mem_singleton.mp h]
        exact ok
    intro I5 H5 zs g5 iD hL ⟨rds, hP, hrl, hrd⟩
    have g6 := Go.trans F j g4 (Go.fix F g5 hD (F.nin g4.j hD) iD hL)
    have hr6 : RdsAt (upd I5 D (.lst zs)) (.ref D) rds := ⟨D, zs, rfl, upd_same, hP.mono fun _ _ z => RdAt.mono (same_new iD _) z⟩
    have hg6 := (hg4.mono g5.s).mono (same_new iD (.lst zs))
    generalize upd I5 D (.lst zs) = I6 at *
    refine ⟨(by show 4 ≤ sizeLine; decide), fun a ha => ?_⟩
    obtain ⟨I7, g7, h7, s7⟩ := nw F j g6 ha (.lst [.str nm, v1, .int (1 + m2), .ref D])
    refine q _ _ _ ⟨nm, gw, gk, 1 + m2, rds⟩ g7 ⟨a, v1, .ref D, rfl, ?_, hg6.mono s7, RdsAt.mono s7 hr6⟩ ⟨hnm, gok, by show 1 ≤ 1 + m2; omega, by show 1 + m2 ≤ 4; omega, fun e => ?_, by show rds.length ≤ 4; omega, hrd⟩
    · rw [h7, show ((1 + m2 : Nat) : Int) = 1 + m2 by omega]
    · rw [show rds = [] from e] at hrl
      simp at hrl
      omega
def sp__law_great : Sp := fun vs H Q _ => ∃ (I : Hp) (c : Addr), vs = [.ref c] ∧ Jc c I H ∧ ∀ (I' H' : Hp) (n : Int), Go (A1 c) (Jc c) I H I' H' → 1 ≤ n → n ≤ 1000000000000 → Q (.int n) H'
theorem sevens {m : Nat} (h : m ≤ 9) : ∃ n : Int, PySem.intText? (Txt.mul "7" (2 + m : Int)) = some n ∧ 1 ≤ n ∧ n ≤ 77777777777 ∧ (Txt.mul "7" (2 + m : Int)).length ≤ 640 := by
  have : m = 0 ∨ m = 1 ∨ m = 2 ∨ m = 3 ∨ m = 4 ∨ m = 5 ∨ m = 6 ∨ m = 7 ∨ m = 8 ∨ m = 9 := by omega
  rcases this with e | e | e | e | e | e | e | e | e | e <;> subst e
  · exact ⟨77, by decide +kernel, by decide, by decide, by decide +kernel⟩
  · exact ⟨777, by decide +kernel, by decide, by decide, by decide +kernel⟩
  · exact ⟨7777, by decide +kernel, by decide, by decide, by decide +kernel⟩
  · exact ⟨77777, by decide +kernel, by decide, by decide, by decide +kernel⟩
  · exact ⟨777777, by decide +kernel, by decide, by decide, by decide +kernel⟩
  · exact ⟨7777777, by decide +kernel, by decide, by decide, by decide +kernel⟩
  · exact ⟨77777777, by decide +kernel, by decide, by decide, by decide +kernel⟩
  · exact ⟨777777777, by decide +kernel, by decide, by decide, by decide +kernel⟩
  · exact ⟨7777777777, by decide +kernel, by decide, by decide, by decide +kernel⟩
  · exact ⟨77777777777, by decide +kernel, by decide, by decide, by decide +kernel⟩
theorem pw_bd {b d : Nat} (hb : b ≤ 3) (b1 : 1 ≤ b) (hd : d ≤ 25) : 1 ≤ b ^ d ∧ b ^ d ≤ 847288609443 := by
  have h1 : b ^ d ≤ 3 ^ d := Nat.pow_le_pow_left hb d
  have h2 : 3 ^ d ≤ 3 ^ 25 := Nat.pow_le_pow_right (by decide) hd
  have h3 : (3 : Nat) ^ 25 = 847288609443 := by decide
  have h4 : 0 < b ^ d := Nat.pow_pos b1
  omega
theorem ok__law_great (T : Tx K mg CC CB CK) (c__law_sip : Fn P w K mg base 1 "_law_sip" (sp__law_sip)) : Fn P w K mg base 2 "_law_great" (sp__law_great) := by
  refine T.f__law_great.fn sc__law_great (fun _ _ _ _ _ _ us hl => match us, hl with | [_], _ => rfl) (fun vs H Q E h => ?_) (fun f cdv A outer s H vs Q E hr h => ?_)
  · obtain ⟨I, c, rfl, _⟩ := h
    rfl
  · obtain ⟨I, c, rfl, j, q⟩ := h
    have F := frC c
    refine ⟨_, (pss_cons (ps_par (i := 1) (j := 2) (by rfl) sc__law_great.nd rfl rfl (by decide) rfl rfl (pa_cons (pe_fn c__law_sip hr (by decide) (by rfl) (pa_cons (pv 0) (pa_cons pe_int pa_nil))) (pa_cons (pe_op op_add pe_int (pe_fn c__law_sip hr (by decide) (by rfl) (pa_cons (pv 0) (pa_cons pe_int pa_nil)))) pa_nil)) (by rfl))
      (pss_cons (ps_if (pt_cmpR op_eq (pv 1) pe_int (nomark _))
        (pss_one (ps_ret (pe_op op_add (pe_callTy call_int_str (by rfl) T.b_int (by decide +kernel) (pa_cons (pe_op op_mulS pe_str (pe_op op_add pe_int (pe_fn c__law_sip hr (by decide) (by rfl) (pa_cons (pv 0) (pa_cons pe_int pa_nil))))) pa_nil)) (pe_fn c__law_sip hr (by decide) (by rfl) (pa_cons (pv 0) (pa_cons pe_int pa_nil))))))
        pss_nil)
      (pss_cons (ps_set (i := 3) sc__law_great.nd rfl (Or.inl rfl) pe_int)
      (pss_cons (ps_for PassesOwn.never rfl (pi_range1 (by rfl) T.b_range (pa_cons (pv 2) pa_nil)) (pg_name (i := 4) sc__law_great.nd rfl (Or.inl rfl))
        (pss_one (ps_set (i := 3) sc__law_great.nd rfl (Or.inl rfl) (pe_op op_mul (pv 3) (pe_op op_add (pv 1) pe_int)))))
      (pss_one (ps_ret (pe_op op_add (pv 3) (pe_fn c__law_sip hr (by decide) (by rfl) (pa_cons (pv 0) (pa_cons pe_int pa_nil)))))))))), ?_⟩
    refine ⟨_, rfl, I, c, 3, rfl, j, by decide, by decide, fun I1 H1 r1 g1 r10 r11 => ⟨_, rfl, I1, c, 25, rfl, g1.j, by decide, by decide, fun I2 H2 r2 g2 r20 r21 => ⟨_, _, rfl, rfl, _, _, rfl, ?_⟩⟩⟩
    obtain ⟨m1, rfl⟩ := Int.eq_ofNat_of_zero_le r10
    obtain ⟨m2, rfl⟩ := Int.eq_ofNat_of_zero_le r20
    have g3 := Go.trans F j g1 g2
    refine ⟨_, rfl, rfl, _, rfl, ?_⟩
    by_cases h0 : m1 = 0
    · subst h0
      refine iteB (decide_eq_true rfl) ⟨_, rfl, I2, c, 10, rfl, g3.j, by decide, by decide, fun I4 H4 r4 g4 r40 r41 => ⟨_, _, rfl, rfl, _, _, rfl, rfl, mulOk_of 1 11 (by decide +kernel) (by omega) (by omega) (by decide) (by decide), ?_⟩⟩
      obtain ⟨m4, rfl⟩ := Int.eq_ofNat_of_zero_le r40
      obtain ⟨n, hn, n1, n2, hln⟩ := sevens (m := m4) (by omega)
      refine ⟨_, n, rfl, hn, hln, _, rfl, I4, c, 1000, rfl, g4.j, by decide, by decide, fun I5 H5 r5 g5 r50 r51 => ⟨_, _, rfl, rfl, q _ _ _ (Go.trans F j g3 (Go.trans F g3.j g4 g5)) ?_ ?_⟩⟩
      · show 1 ≤ n + r5
        omega
      · show n + r5 ≤ 1000000000000
        omega
    · refine iteC (decide_eq_false fun z => h0 (by have := V.int.inj z; omega)) ?_
      refine ⟨_, rfl, _, rfl, by omega, by omega, for_it walk_range (fun (k : Nat) (σ : L2.St) (H' : Hp) => H' = H2 ∧ ∃ x, σ = [some (.ref c), some (.int m1), some (.int (1 + m2)), some (.int (((m1 + 1) ^ k : Nat) : Int)), x]) ⟨rfl, _, rfl⟩ (fun _ _ _ _ _ => trivial) ?_ ?_⟩
      · rintro k y σ H3 H4 hk ⟨rfl, x, rfl⟩ ⟨rfl, hy⟩
        refine ⟨_, rfl, _, rfl, _, _, rfl, rfl, _, _, rfl, rfl, .inr ⟨by show -(2 ^ 64) < (m1 : Int) + 1; omega, by show (m1 : Int) + 1 < 2 ^ 64; omega⟩, rfl, some y, ?_⟩
        rw [Nat.pow_succ, Int.natCast_mul]
        rfl
      · rintro σ H' ⟨rfl, x, rfl⟩
        obtain ⟨p1, p2⟩ := pw_bd (b := m1 + 1) (d := (1 + (m2 : Int)).toNat) (by omega) (by omega) (by omega)
        refine ⟨_, rfl, _, rfl, I2, c, 3, rfl, g3.j, by decide, by decide, fun I5 H5 r5 g5 r50 r51 => ⟨_, _, rfl, rfl, q _ _ _ (Go.trans F j g3 g5) ?_ ?_⟩⟩
        · show 1 ≤ (((m1 + 1) ^ (1 + (m2 : Int)).toNat : Nat) : Int) + r5
          omega
        · show (((m1 + 1) ^ (1 + (m2 : Int)).toNat : Nat) : Int) + r5 ≤ 1000000000000
          omega
end
end JR
/-! J18: the plans known to be right, sketches. -/
namespace JR
open PySem PySem.Spec PyProof.Rows L2
theorem lit6 {xs : List V} (h : Nat.ble xs.length 20 = true := by rfl) : xs.length ≤ sizeLine := Nat.le_trans (Nat.le_of_ble_eq_true h) (by decide)
def clj (r s f : Nat) : Cl := ⟨"join", r, s, "left", f, ""⟩
def clc (r s : Nat) (l : Str) : Cl := ⟨"call", r, s, "", 0, l⟩
theorem clj_ok {ns : List Str} {i r s f : Nat} (s1 : 1 ≤ s) (s3 : s ≤ 3) (hr : r < s) (f1 : 1 ≤ f) (f4 : f ≤ 4) : ClOk ns i (clj r s f) := ⟨s1, s3, hr, .inr ⟨.inl rfl, .inl rfl, f1, f4, rfl⟩⟩
theorem clc_ok {ns : List Str} {i r s : Nat} {l : Str} (h : l ∈ ns) (s2 : 2 ≤ s) (s3 : s ≤ 3) (hr : r < s) : ClOk ns i (clc r s l) := ⟨by show 1 ≤ s; omega, s3, hr, .inl ⟨rfl, rfl, rfl, h, fun e => by have e : s = 1 := e; omega⟩⟩
theorem rd_one {ns : List Str} {i : Nat} {c : Cl} (h : ClOk ns i c) : RdOk ns i [c] := by
  refine ⟨fun e => (by cases e), by show 1 ≤ 3; decide, fun d hd => ?_, ?_, fun jj k a b h1 h2 hlt => ?_⟩
  · rw [List.mem_singleton] at hd
    subst hd
    exact h
  · by_cases e : c.w = "call"
    · exact .inl fun d hd => by rw [List.mem_singleton.mp hd]; exact e
    · exact .inr fun d hd => by rw [List.mem_singleton.mp hd]; exact e
  · have := get_len h2
    rw [List.length_singleton] at this
    omega
theorem rd_two {ns : List Str} {i : Nat} {c d : Cl} (h1 : ClOk ns i c) (h2 : ClOk ns i d) (e : d.step = c.step) (e2 : d.rest ≠ c.rest) (w1 : c.w ≠ "call") (w2 : d.w ≠ "call") : RdOk ns i [c, d] := by
  have hm : ∀ x ∈ [c, d], x = c ∨ x = d := fun x hx => by
    simpa using hx
  refine ⟨fun e => (by cases e), by show 2 ≤ 3; decide, fun x hx => ?_, .inr fun x hx => ?_, fun jj k a b ha hb hlt => ?_⟩
  · rcases hm x hx with e | e <;> subst e <;> assumption
  · rcases hm x hx with e | e <;> subst e <;> assumption
  · have := get_len hb
    have hk : k = 1 := by
      have : k < 2 := this
      omega
    have hj : jj = 0 := by omega
    subst hk hj
    cases ha
    cases hb
    exact ⟨e, e2⟩
section
variable {P : Program} {w : World} {K : PySem.W.Frag} {mg : Str → Option Value} {base : Heap} {CC CB CK : Addr}
def sp__law_good : Sp := fun vs H Q _ => ∃ (I : Hp) (c l : Addr) (ns : List Str) (i : Nat), vs = [.ref c, .ref l, .int i] ∧ Jc c I H ∧ I l = some (.lst (ns.map V.str)) ∧ i < ns.length ∧
  ∀ (I' H' : Hp) (v : V) (p : Pl), Go (A1 c) (Jc c) I H I' H' → PlAt I' v p → PlOk ns i p → Q v H'
theorem ok__law_good (T : Tx K mg CC CB CK) (c__law_sip : Fn P w K mg base 1 "_law_sip" (sp__law_sip)) : Fn P w K mg base 2 "_law_good" (sp__law_good) := by
  refine T.f__law_good.fn sc__law_good (fun _ _ _ _ _ _ us hl => match us, hl with | [_, _, _], _ => rfl) (fun vs H Q E h => ?_) (fun f cdv A outer s H vs Q E hr h => ?_)
  · obtain ⟨I, c, l, ns, i, rfl, _⟩ := h
    rfl
  · obtain ⟨I, c, l, ns, i, rfl, j, hl, hi, q⟩ := h
    have F := frC c
    obtain ⟨nm, hnm⟩ : ∃ nm, ns[i]? = some nm := ⟨_, List.getElem?_eq_getElem hi⟩
    have hnv : (ns.map V.str)[i]? = some (.str nm) := by
      rw [List.getElem?_map, hnm]
      rfl
    refine ⟨_, (pss_cons (ps_par3 (i := 3) (j := 4) (l := 5) (by rfl) sc__law_good.nd rfl rfl rfl (by decide) (by decide) (by decide) rfl rfl rfl (pa_cons (pe_ix ix_list (pv 1) (pv 2) (fun _ _ => rfl)) (pa_cons (pe_op op_add pe_int (pe_fn c__law_sip hr (by decide) (by rfl) (pa_cons (pv 0) (pa_cons pe_int pa_nil)))) (pa_cons (pe_fn c__law_sip hr (by decide) (by rfl) (pa_cons (pv 0) (pa_cons pe_int pa_nil))) pa_nil))) (by rfl))
      (pss_cons (ps_if (pt_cmpR op_eq (pv 5) pe_int (nomark _))
        (pss_one (ps_ret (pe_lst (pa_cons (pv 3) (pa_cons (pe_tup (pa_cons pe_str (pa_cons pe_int pa_nil))) (pa_cons (pv 4) (pa_cons (pe_lst (pa_cons (pe_lst (pa_cons (pe_tup (pa_cons pe_str (pa_cons pe_int (pa_cons pe_int (pa_cons pe_str (pa_cons pe_int (pa_cons pe_str pa_nil))))))) pa_nil)) pa_nil)) pa_nil)))))))
        pss_nil)
      (pss_cons (ps_if (pt_cmpR op_eq (pv 5) pe_int (nomark _))
        (pss_one (ps_ret (pe_lst (pa_cons (pv 3) (pa_cons (pe_tup (pa_cons pe_str (pa_cons pe_int pa_nil))) (pa_cons (pv 4) (pa_cons (pe_lst (pa_cons (pe_lst (pa_cons (pe_tup (pa_cons pe_str (pa_cons pe_int (pa_cons pe_int (pa_cons pe_str (pa_cons pe_int (pa_cons pe_str pa_nil))))))) pa_nil)) (pa_cons (pe_lst (pa_cons (pe_tup (pa_cons pe_str (pa_cons pe_int (pa_cons pe_int (pa_cons pe_str (pa_cons pe_int (pa_cons pe_str pa_nil))))))) pa_nil)) pa_nil))) pa_nil)))))))
        pss_nil)
      (pss_cons (ps_if (pt_cmpR op_eq (pv 5) pe_int (nomark _))
        (pss_cons (ps_set (i := 6) sc__law_good.nd rfl (Or.inl rfl) (pe_lst (pa_cons (pe_lst (pa_cons (pe_tup (pa_cons pe_str (pa_cons pe_int (pa_cons pe_int (pa_cons pe_str (pa_cons pe_int (pa_cons pe_str pa_nil))))))) pa_nil)) (pa_cons (pe_lst (pa_cons (pe_tup (pa_cons pe_str (pa_cons pe_int (pa_cons pe_int (pa_cons pe_str (pa_cons pe_int (pa_cons (pv 3) pa_nil))))))) pa_nil)) pa_nil))))
        (pss_one (ps_ret (pe_lst (pa_cons (pv 3) (pa_cons (pe_tup (pa_cons pe_str (pa_cons pe_int pa_nil))) (pa_cons (pv 4) (pa_cons (pe_op op_cat (pv 6) (pe_lst (pa_cons (pe_lst (pa_cons (pe_tup (pa_cons pe_str (pa_cons pe_int (pa_cons pe_int (pa_cons pe_str (pa_cons pe_int (pa_cons pe_str pa_nil))))))) pa_nil)) pa_nil))) pa_nil))))))))
        pss_nil)
      (pss_cons (ps_set (i := 6) sc__law_good.nd rfl (Or.inl rfl) (pe_lst (pa_cons (pe_lst (pa_cons (pe_tup (pa_cons pe_str (pa_cons pe_int (pa_cons pe_int (pa_cons pe_str (pa_cons pe_int (pa_cons pe_str pa_nil))))))) pa_nil)) (pa_cons (pe_lst (pa_cons (pe_tup (pa_cons pe_str (pa_cons pe_int (pa_cons pe_int (pa_cons pe_str (pa_cons pe_int (pa_cons pe_str pa_nil))))))) pa_nil)) (pa_cons (pe_lst (pa_cons (pe_tup (pa_cons pe_str (pa_cons pe_int (pa_cons pe_int (pa_cons pe_str (pa_cons pe_int (pa_cons (pv 3) pa_nil))))))) pa_nil)) pa_nil)))))
      (pss_one (ps_ret (pe_lst (pa_cons (pv 3) (pa_cons (pe_tup (pa_cons pe_str (pa_cons pe_int pa_nil))) (pa_cons (pv 4) (pa_cons (pe_op op_cat (pv 6) (pe_lst (pa_cons (pe_lst (pa_cons (pe_tup (pa_cons pe_str (pa_cons pe_int (pa_cons pe_int (pa_cons pe_str (pa_cons pe_int (pa_cons pe_str pa_nil))))))) (pa_cons (pe_tup (pa_cons pe_str (pa_cons pe_int (pa_cons pe_int (pa_cons pe_str (pa_cons pe_int (pa_cons pe_str pa_nil))))))) pa_nil))) pa_nil))) pa_nil)))))))))))), ?_⟩
    refine ⟨_, rfl, _, rfl, l, _, _, _, rfl, rfl, SqL.of (j.1 _ _ hl), atI_nat hnv, _, rfl, I, c, 3, rfl, j, by decide, by decide, fun I1 H1 r2 g1 r20 r21 => ⟨_, _, rfl, rfl, _, rfl, I1, c, 4, rfl, g1.j, by decide, by decide, fun I4 H4 r3 g3 r30 r31 => ⟨_, _, _, rfl, ?_⟩⟩⟩
    obtain ⟨m2, rfl⟩ := Int.eq_ofNat_of_zero_le r20
    obtain ⟨m3, rfl⟩ := Int.eq_ofNat_of_zero_le r30
    have g4 := Go.trans F j g1 g3
    refine ⟨_, rfl, rfl, _, rfl, ?_⟩
    by_cases h0 : m3 = 0
    · subst h0
      refine iteB (decide_eq_true rfl) ?_
      refine ⟨_, rfl, lit6, fun gg u_gg => ?_⟩
      obtain ⟨I_gg, g_gg, h_gg, s_gg⟩ := nw F j g4 u_gg (.tup [.str "last", .int 2])
      refine ⟨_, rfl, lit6, fun c1 u_c1 => ?_⟩
      obtain ⟨I_c1, g_c1, h_c1, s_c1⟩ := nw F j g_gg u_c1 (.tup [.str "join", .int 0, .int 1, .str "left", .int 1, .str ""])
      refine ⟨lit6, fun l1 u_l1 => ?_⟩
      obtain ⟨I_l1, g_l1, h_l1, s_l1⟩ := nw F j g_c1 u_l1 (.lst [.ref c1])
      refine ⟨lit6, fun rs u_rs => ?_⟩
      obtain ⟨I_rs, g_rs, h_rs, s_rs⟩ := nw F j g_l1 u_rs (.lst [.ref l1])
      refine ⟨lit6, fun aa u_aa => ?_⟩
      obtain ⟨I_aa, g_aa, h_aa, s_aa⟩ := nw F j g_rs u_aa (.lst [.str nm, .ref gg, .int (1 + m2), .ref rs])
      have e_gg := (s_aa _ _ (s_rs _ _ (s_l1 _ _ (s_c1 _ _ h_gg))))
      have e_c1 := (s_aa _ _ (s_rs _ _ (s_l1 _ _ h_c1)))
      have e_l1 := (s_aa _ _ (s_rs _ _ h_l1))
      have e_rs := (s_aa _ _ h_rs)
      have e_aa := h_aa
      refine q _ _ _ ⟨nm, "last", 2, 1 + m2, [[clj 0 1 1]]⟩ g_aa ⟨aa, .ref gg, .ref rs, rfl, ?_, ⟨gg, rfl, e_gg⟩, ⟨rs, _, rfl, e_rs, .cons ⟨l1, _, rfl, e_l1, .cons ⟨c1, rfl, e_c1⟩ (.nil)⟩ (.nil)⟩⟩ ⟨hnm, ⟨.inr (.inr ⟨rfl, by show 1 ≤ 2; decide, by show 2 ≤ 4; decide⟩)⟩, by show 1 ≤ 1 + m2; omega, by show 1 + m2 ≤ 4; omega, fun e => (by cases e), (by show 1 ≤ 4; decide), fun r hr => ?_⟩
      · rw [e_aa, show ((1 + m2 : Nat) : Int) = 1 + m2 by omega]
      · simp only [List.mem_cons, List.not_mem_nil, or_false] at hr
        subst hr
        exact rd_one (clj_ok (by decide) (by decide) (by decide) (by decide) (by decide))
    refine iteC (decide_eq_false fun z => h0 (by have := V.int.inj z; omega)) ⟨_, rfl, rfl, _, rfl, ?_⟩
    by_cases h1 : m3 = 1
    · subst h1
      refine iteB (decide_eq_true rfl) ?_
      refine ⟨_, rfl, lit6, fun gg u_gg => ?_⟩
      obtain ⟨I_gg, g_gg, h_gg, s_gg⟩ := nw F j g4 u_gg (.tup [.str "last", .int 4])
      refine ⟨_, rfl, lit6, fun c1 u_c1 => ?_⟩
      obtain ⟨I_c1, g_c1, h_c1, s_c1⟩ := nw F j g_gg u_c1 (.tup [.str "join", .int 0, .int 1, .str "left", .int 1, .str ""])
      refine ⟨lit6, fun l1 u_l1 => ?_⟩
      obtain ⟨I_l1, g_l1, h_l1, s_l1⟩ := nw F j g_c1 u_l1 (.lst [.ref c1])
      refine ⟨lit6, fun c2 u_c2 => ?_⟩
      obtain ⟨I_c2, g_c2, h_c2, s_c2⟩ := nw F j g_l1 u_c2 (.tup [.str "join", .int 0, .int 1, .str "left", .int 2, .str ""])
      refine ⟨lit6, fun l2 u_l2 => ?_⟩
      obtain ⟨I_l2, g_l2, h_l2, s_l2⟩ := nw F j g_c2 u_l2 (.lst [.ref c2])
      refine ⟨lit6, fun rs u_rs => ?_⟩
      obtain ⟨I_rs, g_rs, h_rs, s_rs⟩ := nw F j g_l2 u_rs (.lst [.ref l1, .ref l2])
      refine ⟨lit6, fun aa u_aa => ?_⟩
      obtain ⟨I_aa, g_aa, h_aa, s_aa⟩ := nw F j g_rs u_aa (.lst [.str nm, .ref gg, .int (1 + m2), .ref rs])
      have e_gg := (s_aa _ _ (s_rs _ _ (s_l2 _ _ (s_c2 _ _ (s_l1 _ _ (s_c1 _ _ h_gg))))))
      have e_c1 := (s_aa _ _ (s_rs _ _ (s_l2 _ _ (s_c2 _ _ (s_l1 _ _ h_c1)))))
      have e_l1 := (s_aa _ _ (s_rs _ _ (s_l2 _ _ (s_c2 _ _ h_l1))))
      have e_c2 := (s_aa _ _ (s_rs _ _ (s_l2 _ _ h_c2)))
      have e_l2 := (s_aa _ _ (s_rs _ _ h_l2))
      have e_rs := (s_aa _ _ h_rs)
      have e_aa := h_aa
      refine q _ _ _ ⟨nm, "last", 4, 1 + m2, [[clj 0 1 1], [clj 0 1 2]]⟩ g_aa ⟨aa, .ref gg, .ref rs, rfl, ?_, ⟨gg, rfl, e_gg⟩, ⟨rs, _, rfl, e_rs, .cons ⟨l1, _, rfl, e_l1, .cons ⟨c1, rfl, e_c1⟩ (.nil)⟩ (.cons ⟨l2, _, rfl, e_l2, .cons ⟨c2, rfl, e_c2⟩ (.nil)⟩ (.nil))⟩⟩ ⟨hnm, ⟨.inr (.inr ⟨rfl, by show 1 ≤ 4; decide, by show 4 ≤ 4; decide⟩)⟩, by show 1 ≤ 1 + m2; omega, by show 1 + m2 ≤ 4; omega, fun e => (by cases e), (by show 2 ≤ 4; decide), fun r hr => ?_⟩
      · rw [e_aa, show ((1 + m2 : Nat) : Int) = 1 + m2 by omega]
      · simp only [List.mem_cons, List.not_mem_nil, or_false] at hr
        rcases hr with e | e
        · subst e
          exact rd_one (clj_ok (by decide) (by decide) (by decide) (by decide) (by decide))
        · subst e
          exact rd_one (clj_ok (by decide) (by decide) (by decide) (by decide) (by decide))
    refine iteC (decide_eq_false fun z => h1 (by have := V.int.inj z; omega)) ⟨_, rfl, rfl, _, rfl, ?_⟩
    by_cases h2 : m3 = 2
    · subst h2
      refine iteB (decide_eq_true rfl) ?_
      refine ⟨lit6, fun c1 u_c1 => ?_⟩
      obtain ⟨I_c1, g_c1, h_c1, s_c1⟩ := nw F j g4 u_c1 (.tup [.str "join", .int 1, .int 2, .str "left", .int 1, .str ""])
      refine ⟨lit6, fun l1 u_l1 => ?_⟩
      obtain ⟨I_l1, g_l1, h_l1, s_l1⟩ := nw F j g_c1 u_l1 (.lst [.ref c1])
      refine ⟨_, rfl, lit6, fun c2 u_c2 => ?_⟩
      obtain ⟨I_c2, g_c2, h_c2, s_c2⟩ := nw F j g_l1 u_c2 (.tup [.str "call", .int 1, .int 2, .str "", .int 0, .str nm])
      refine ⟨lit6, fun l2 u_l2 => ?_⟩
      obtain ⟨I_l2, g_l2, h_l2, s_l2⟩ := nw F j g_c2 u_l2 (.lst [.ref c2])
      refine ⟨lit6, fun sm u_sm => ?_⟩
      obtain ⟨I_sm, g_sm, h_sm, s_sm⟩ := nw F j g_l2 u_sm (.lst [.ref l1, .ref l2])
      refine ⟨_, rfl, lit6, fun gg u_gg => ?_⟩
      obtain ⟨I_gg, g_gg, h_gg, s_gg⟩ := nw F j g_sm u_gg (.tup [.str "all", .int 0])
      refine ⟨_, rfl, _, rfl, lit6, fun c3 u_c3 => ?_⟩
      obtain ⟨I_c3, g_c3, h_c3, s_c3⟩ := nw F j g_gg u_c3 (.tup [.str "join", .int 0, .int 2, .str "left", .int 1, .str ""])
      refine ⟨lit6, fun l3 u_l3 => ?_⟩
      obtain ⟨I_l3, g_l3, h_l3, s_l3⟩ := nw F j g_c3 u_l3 (.lst [.ref c3])
      refine ⟨lit6, fun xx u_xx => ?_⟩
      obtain ⟨I_xx, g_xx, h_xx, s_xx⟩ := nw F j g_l3 u_xx (.lst [.ref l3])
      have k_sm := F.sub g_xx.j _ _ (s_xx _ _ (s_l3 _ _ (s_c3 _ _ (s_gg _ _ h_sm))))
      have k_xx := F.sub g_xx.j _ _ h_xx
      refine ⟨sm, xx, _, _, rfl, rfl, k_sm, k_xx, Nat.le_trans (Nat.le_of_ble_eq_true (show Nat.ble _ 20 = true from rfl)) (by decide), fun rs u_rs => ?_⟩
      obtain ⟨I_rs, g_rs, h_rs, s_rs⟩ := nw F j g_xx u_rs (.lst ([.ref l1, .ref l2] ++ [.ref l3]))
      refine ⟨lit6, fun aa u_aa => ?_⟩
      obtain ⟨I_aa, g_aa, h_aa, s_aa⟩ := nw F j g_rs u_aa (.lst [.str nm, .ref gg, .int (1 + m2), .ref rs])
      have e_c1 := (s_aa _ _ (s_rs _ _ (s_xx _ _ (s_l3 _ _ (s_c3 _ _ (s_gg _ _ (s_sm _ _ (s_l2 _ _ (s_c2 _ _ (s_l1 _ _ h_c1))))))))))
      have e_l1 := (s_aa _ _ (s_rs _ _ (s_xx _ _ (s_l3 _ _ (s_c3 _ _ (s_gg _ _ (s_sm _ _ (s_l2 _ _ (s_c2 _ _ h_l1)))))))))
      have e_c2 := (s_aa _ _ (s_rs _ _ (s_xx _ _ (s_l3 _ _ (s_c3 _ _ (s_gg _ _ (s_sm _ _ (s_l2 _ _ h_c2))))))))
      have e_l2 := (s_aa _ _ (s_rs _ _ (s_xx _ _ (s_l3 _ _ (s_c3 _ _ (s_gg _ _ (s_sm _ _ h_l2)))))))
      have e_sm := (s_aa _ _ (s_rs _ _ (s_xx _ _ (s_l3 _ _ (s_c3 _ _ (s_gg _ _ h_sm))))))
      have e_gg := (s_aa _ _ (s_rs _ _ (s_xx _ _ (s_l3 _ _ (s_c3 _ _ h_gg)))))
      have e_c3 := (s_aa _ _ (s_rs _ _ (s_xx _ _ (s_l3 _ _ h_c3))))
      have e_l3 := (s_aa _ _ (s_rs _ _ (s_xx _ _ h_l3)))
      have e_xx := (s_aa _ _ (s_rs _ _ h_xx))
      have e_rs := (s_aa _ _ h_rs)
      have e_aa := h_aa
      refine q _ _ _ ⟨nm, "all", 0, 1 + m2, [[clj 1 2 1], [clc 1 2 nm], [clj 0 2 1]]⟩ g_aa ⟨aa, .ref gg, .ref rs, rfl, ?_, ⟨gg, rfl, e_gg⟩, ⟨rs, _, rfl, e_rs, .cons ⟨l1, _, rfl, e_l1, .cons ⟨c1, rfl, e_c1⟩ (.nil)⟩ (.cons ⟨l2, _, rfl, e_l2, .cons ⟨c2, rfl, e_c2⟩ (.nil)⟩ (.cons ⟨l3, _, rfl, e_l3, .cons ⟨c3, rfl, e_c3⟩ (.nil)⟩ (.nil)))⟩⟩ ⟨hnm, ⟨.inl ⟨rfl, rfl⟩⟩, by show 1 ≤ 1 + m2; omega, by show 1 + m2 ≤ 4; omega, fun e => (by cases e), (by show 3 ≤ 4; decide), fun r hr => ?_⟩
      · rw [e_aa, show ((1 + m2 : Nat) : Int) = 1 + m2 by omega]
      · simp only [List.mem_cons, List.not_mem_nil, or_false] at hr
        rcases hr with e | e | e
        · subst e
          exact rd_one (clj_ok (by decide) (by decide) (by decide) (by decide) (by decide))
        · subst e
          exact rd_one (clc_ok (List.mem_of_getElem? hnm) (by decide) (by decide) (by decide))
        · subst e
          exact rd_one (clj_ok (by decide) (by decide) (by decide) (by decide) (by decide))
    refine iteC (decide_eq_false fun z => h2 (by have := V.int.inj z; omega)) ?_
    · have h3 : True := trivial
      refine ⟨lit6, fun c1 u_c1 => ?_⟩
      obtain ⟨I_c1, g_c1, h_c1, s_c1⟩ := nw F j g4 u_c1 (.tup [.str "join", .int 1, .int 3, .str "left", .int 1, .str ""])
      refine ⟨lit6, fun l1 u_l1 => ?_⟩
      obtain ⟨I_l1, g_l1, h_l1, s_l1⟩ := nw F j g_c1 u_l1 (.lst [.ref c1])
      refine ⟨lit6, fun c2 u_c2 => ?_⟩
      obtain ⟨I_c2, g_c2, h_c2, s_c2⟩ := nw F j g_l1 u_c2 (.tup [.str "join", .int 2, .int 3, .str "left", .int 1, .str ""])
      refine ⟨lit6, fun l2 u_l2 => ?_⟩
      obtain ⟨I_l2, g_l2, h_l2, s_l2⟩ := nw F j g_c2 u_l2 (.lst [.ref c2])
      refine ⟨_, rfl, lit6, fun c3 u_c3 => ?_⟩
      obtain ⟨I_c3, g_c3, h_c3, s_c3⟩ := nw F j g_l2 u_c3 (.tup [.str "call", .int 2, .int 3, .str "", .int 0, .str nm])
      refine ⟨lit6, fun l3 u_l3 => ?_⟩
      obtain ⟨I_l3, g_l3, h_l3, s_l3⟩ := nw F j g_c3 u_l3 (.lst [.ref c3])
      refine ⟨lit6, fun sm u_sm => ?_⟩
      obtain ⟨I_sm, g_sm, h_sm, s_sm⟩ := nw F j g_l3 u_sm (.lst [.ref l1, .ref l2, .ref l3])
      refine ⟨_, rfl, lit6, fun gg u_gg => ?_⟩
      obtain ⟨I_gg, g_gg, h_gg, s_gg⟩ := nw F j g_sm u_gg (.tup [.str "all", .int 0])
      refine ⟨_, rfl, _, rfl, lit6, fun c4 u_c4 => ?_⟩
      obtain ⟨I_c4, g_c4, h_c4, s_c4⟩ := nw F j g_gg u_c4 (.tup [.str "join", .int 0, .int 3, .str "left", .int 1, .str ""])
      refine ⟨lit6, fun c5 u_c5 => ?_⟩
      obtain ⟨I_c5, g_c5, h_c5, s_c5⟩ := nw F j g_c4 u_c5 (.tup [.str "join", .int 1, .int 3, .str "left", .int 2, .str ""])
      refine ⟨lit6, fun l4 u_l4 => ?_⟩
      obtain ⟨I_l4, g_l4, h_l4, s_l4⟩ := nw F j g_c5 u_l4 (.lst [.ref c4, .ref c5])
      refine ⟨lit6, fun xx u_xx => ?_⟩
      obtain ⟨I_xx, g_xx, h_xx, s_xx⟩ := nw F j g_l4 u_xx (.lst [.ref l4])
      have k_sm := F.sub g_xx.j _ _ (s_xx _ _ (s_l4 _ _ (s_c5 _ _ (s_c4 _ _ (s_gg _ _ h_sm)))))
      have k_xx := F.sub g_xx.j _ _ h_xx
      refine ⟨sm, xx, _, _, rfl, rfl, k_sm, k_xx, Nat.le_trans (Nat.le_of_ble_eq_true (show Nat.ble _ 20 = true from rfl)) (by decide), fun rs u_rs => ?_⟩
      obtain ⟨I_rs, g_rs, h_rs, s_rs⟩ := nw F j g_xx u_rs (.lst ([.ref l1, .ref l2, .ref l3] ++ [.ref l4]))
      refine ⟨lit6, fun aa u_aa => ?_⟩
      obtain ⟨I_aa, g_aa, h_aa, s_aa⟩ := nw F j g_rs u_aa (.lst [.str nm, .ref gg, .int (1 + m2), .ref rs])
      have e_c1 := (s_aa _ _ (s_rs _ _ (s_xx _ _ (s_l4 _ _ (s_c5 _ _ (s_c4 _ _ (s_gg _ _ (s_sm _ _ (s_l3 _ _ (s_c3 _ _ (s_l2 _ _ (s_c2 _ _ (s_l1 _ _ h_c1)))))))))))))
      have e_l1 := (s_aa _ _ (s_rs _ _ (s_xx _ _ (s_l4 _ _ (s_c5 _ _ (s_c4 _ _ (s_gg _ _ (s_sm _ _ (s_l3 _ _ (s_c3 _ _ (s_l2 _ _ (s_c2 _ _ h_l1))))))))))))
      have e_c2 := (s_aa _ _ (s_rs _ _ (s_xx _ _ (s_l4 _ _ (s_c5 _ _ (s_c4 _ _ (s_gg _ _ (s_sm _ _ (s_l3 _ _ (s_c3 _ _ (s_l2 _ _ h_c2)))))))))))
      have e_l2 := (s_aa _ _ (s_rs _ _ (s_xx _ _ (s_l4 _ _ (s_c5 _ _ (s_c4 _ _ (s_gg _ _ (s_sm _ _ (s_l3 _ _ (s_c3 _ _ h_l2))))))))))
      have e_c3 := (s_aa _ _ (s_rs _ _ (s_xx _ _ (s_l4 _ _ (s_c5 _ _ (s_c4 _ _ (s_gg _ _ (s_sm _ _ (s_l3 _ _ h_c3)))))))))
      have e_l3 := (s_aa _ _ (s_rs _ _ (s_xx _ _ (s_l4 _ _ (s_c5 _ _ (s_c4 _ _ (s_gg _ _ (s_sm _ _ h_l3))))))))
      have e_sm := (s_aa _ _ (s_rs _ _ (s_xx _ _ (s_l4 _ _ (s_c5 _ _ (s_c4 _ _ (s_gg _ _ h_sm)))))))
      have e_gg := (s_aa _ _ (s_rs _ _ (s_xx _ _ (s_l4 _ _ (s_c5 _ _ (s_c4 _ _ h_gg))))))
      have e_c4 := (s_aa _ _ (s_rs _ _ (s_xx _ _ (s_l4 _ _ (s_c5 _ _ h_c4)))))
      have e_c5 := (s_aa _ _ (s_rs _ _ (s_xx _ _ (s_l4 _ _ h_c5))))
      have e_l4 := (s_aa _ _ (s_rs _ _ (s_xx _ _ h_l4)))
      have e_xx := (s_aa _ _ (s_rs _ _ h_xx))
      have e_rs := (s_aa _ _ h_rs)
      have e_aa := h_aa
      refine q _ _ _ ⟨nm, "all", 0, 1 + m2, [[clj 1 3 1], [clj 2 3 1], [clc 2 3 nm], [clj 0 3 1, clj 1 3 2]]⟩ g_aa ⟨aa, .ref gg, .ref rs, rfl, ?_, ⟨gg, rfl, e_gg⟩, ⟨rs, _, rfl, e_rs, .cons ⟨l1, _, rfl, e_l1, .cons ⟨c1, rfl, e_c1⟩ (.nil)⟩ (.cons ⟨l2, _, rfl, e_l2, .cons ⟨c2, rfl, e_c2⟩ (.nil)⟩ (.cons ⟨l3, _, rfl, e_l3, .cons ⟨c3, rfl, e_c3⟩ (.nil)⟩ (.cons ⟨l4, _, rfl, e_l4, .cons ⟨c4, rfl, e_c4⟩ (.cons ⟨c5, rfl, e_c5⟩ (.nil))⟩ (.nil))))⟩⟩ ⟨hnm, ⟨.inl ⟨rfl, rfl⟩⟩, by show 1 ≤ 1 + m2; omega, by show 1 + m2 ≤ 4; omega, fun e => (by cases e), (by show 4 ≤ 4; decide), fun r hr => ?_⟩
      · rw [e_aa, show ((1 + m2 : Nat) : Int) = 1 + m2 by omega]
      · simp only [List.mem_cons, List.not_mem_nil, or_false] at hr
        rcases hr with e | e | e | e
        · subst e
          exact rd_one (clj_ok (by decide) (by decide) (by decide) (by decide) (by decide))
        · subst e
          exact rd_one (clj_ok (by decide) (by decide) (by decide) (by decide) (by decide))
        · subst e
          exact rd_one (clc_ok (List.mem_of_getElem? hnm) (by decide) (by decide) (by decide))
        · subst e
          exact rd_two (clj_ok (by decide) (by decide) (by decide) (by decide) (by decide)) (clj_ok (by decide) (by decide) (by decide) (by decide) (by decide)) rfl (by decide) (by decide +kernel) (by decide +kernel)
def sp__law_sketch : Sp := fun vs H Q _ => ∃ (I : Hp) (c : Addr) (k : Nat), vs = [.ref c, .int k, .int 3] ∧ Jc c I H ∧ 1 ≤ k ∧ k ≤ 3 ∧
  ∀ (I' H' : Hp) (v : V) (sk : List Pl) (ns : List Str), Go (A1 c) (Jc c) I H I' H' → SkAt I' v sk → SkOk ns sk → sk ≠ [] → Q v H'
theorem ok__law_sketch (T : Tx K mg CC CB CK) (c__law_labels : Fn P w K mg base 2 "_law_labels" (sp__law_labels)) (c__law_sip : Fn P w K mg base 1 "_law_sip" (sp__law_sip)) (c__law_good : Fn P w K mg base 2 "_law_good" (sp__law_good)) (c__law_plan : Fn P w K mg base 4 "_law_plan" (sp__law_plan)) : Fn P w K mg base 5 "_law_sketch" (sp__law_sketch) := by
  refine T.f__law_sketch.fn sc__law_sketch (fun _ _ _ _ _ _ us hl => match us, hl with | [_, _, _], _ => rfl) (fun vs H Q E h => ?_) (fun f cdv A outer s H vs Q E hr h => ?_)
  · obtain ⟨I, c, k, rfl, _⟩ := h
    rfl
  · obtain ⟨I, c, k, rfl, j, k1, k3, q⟩ := h
    have F := frC c
    refine ⟨_, (pss_cons (ps_par (i := 3) (j := 4) (by rfl) sc__law_sketch.nd rfl rfl (by decide) rfl rfl (pa_cons (pe_fn c__law_labels hr (by decide) (by rfl) (pa_cons (pv 0) (pa_cons (pv 1) pa_nil))) (pa_cons (pe_lst pa_nil) pa_nil)) (by rfl))
      (pss_cons (ps_for PassesOwn.never rfl (pi_range1 (by rfl) T.b_range (pa_cons (pv 1) pa_nil)) (pg_name (i := 5) sc__law_sketch.nd rfl (Or.inl rfl))
        (pss_one (ps_expr (pe_bm PySem.F.plainAttrs_list PySem.F.slot_list_append PySem.F.type_list_append mt_append (pv 4) (pa_cons (pe_ifExp (pt_cmpR op_eq (pe_fn c__law_sip hr (by decide) (by rfl) (pa_cons (pv 0) (pa_cons pe_int pa_nil))) pe_int (nomark _)) (pe_fn c__law_good hr (by decide) (by rfl) (pa_cons (pv 0) (pa_cons (pv 3) (pa_cons (pv 5) pa_nil)))) (pe_fn c__law_plan hr (by decide) (by rfl) (pa_cons (pv 0) (pa_cons (pv 3) (pa_cons (pv 5) (pa_cons (pv 2) pa_nil)))))) pa_nil)))))
      (pss_one (ps_ret (pv 4))))), ?_⟩
    refine ⟨_, rfl, _, rfl, I, c, k, rfl, j, k3, fun I1 H1 l ns g1 hl hln hnd hmn => ⟨lit6, fun D hD => ⟨_, _, rfl, ?_⟩⟩⟩
    have nA := F.nin g1.j hD
    refine ⟨_, rfl, k, rfl, by omega, by omega, for_it walk_range (fun (i : Nat) (σ : L2.St) (H' : Hp) => ∃ I' x ys pls, Go (A1 c) (Jc c) I1 H1 I' H' ∧ I' D = none ∧ H' D = some (.lst ys) ∧ Paired (PlAt I') ys pls ∧ pls.length = i ∧ (∀ m p, pls[m]? = some p → PlOk ns m p) ∧
      σ = [some (.ref c), some (.int k), some (.int 3), some (.ref l), some (.ref D), x])
      ⟨I1, _, [], [], (Go.refl g1.j).chg F hD nA (g1.j.1.free hD), g1.j.1.free hD, upd_same, .nil, rfl, fun m p h => by simp at h, rfl⟩ (fun _ _ _ _ _ => trivial) ?_ ?_⟩
    · rintro i x σ H2 H3 hi ⟨I2, x5, ys, pls, g2, iD, hL, hP, hpl, hok, rfl⟩ ⟨rfl, rfl⟩
      have hyl := hP.length
      have hil : i < ns.length := by omega
      have hl2 := g2.s _ _ hl
      have put : ∀ (I4 H4 : Hp) (v : V) (p : Pl), Go (A1 c) (Jc c) I2 H3 I4 H4 → PlAt I4 v p → PlOk ns i p →
          ∃ (l9 : Addr) (xs : List V) (y : V), V.ref D = .ref l9 ∧ [v] = [y] ∧ H4 l9 = some (.lst xs) ∧ xs.length < sizeLine ∧
            (fun H5 => ∃ I' x ys pls, Go (A1 c) (Jc c) I1 H1 I' H5 ∧ I' D = none ∧ H5 D = some (.lst ys) ∧ Paired (PlAt I') ys pls ∧ pls.length = i + 1 ∧ (∀ m p, pls[m]? = some p → PlOk ns m p) ∧
              [some (V.ref c), some (.int k), some (.int 3), some (.ref l), some (.ref D), some (.int (0 + (i : Int)))] = [some (V.ref c), some (.int k), some (.int 3), some (.ref l), some (.ref D), x]) (upd H4 l9 (.lst (xs ++ [y]))) := fun I4 H4 v p g4 hv ok => by
        have hL4 := g4.k D _ nA hL
        have iD4 : I4 D = none := by
          rw [g4.f D (by rw [hL]; simp)]
          exact iD
        refine ⟨D, ys, v, rfl, rfl, hL4, Nat.lt_of_lt_of_le (by omega : ys.length < 4) (by decide), I4, _, ys ++ [v], pls ++ [p], (Go.trans F g1.j g2 g4).chg F hD nA iD4, iD4, upd_same, (hP.mono fun _ _ z => PlAt.mono g4.s z).snoc hv, by rw [List.length_append, hpl]; rfl, fun m p2 hm => ?_, rfl⟩
        by_cases hmk : m < pls.length
        · rw [List.getElem?_append_left hmk] at hm
          exact hok m p2 hm
        · have e : m = pls.length := by
            have := get_len hm
            rw [List.length_append, List.length_singleton] at this
            omega
          subst e
          rw [List.getElem?_append_right (Nat.le_refl _), Nat.sub_self] at hm
          cases hm
          rw [hpl]
          exact ok
      have e0 : V.int (0 + (i : Int)) = V.int i := by rw [Int.zero_add]
      refine ⟨_, rfl, .inl ⟨rfl, _, SqL.of hL⟩, _, rfl, I2, c, 2, rfl, g2.j, by decide, by decide, fun I4 H4 r g4 r0 r1 => ⟨rfl, _, rfl, ?_⟩⟩
      have hl4 := g4.s _ _ hl2
      by_cases hr0 : V.int r = V.int 0
      · refine iteB (decide_eq_true hr0) ⟨_, rfl, _, rfl, _, rfl, I4, c, l, ns, i, ?_, g4.j, hl4, hil, fun I5 H5 v p g5 hv ok => put I5 H5 v p (Go.trans F g2.j g4 g5) hv ok⟩
        show [V.ref c, V.ref l, V.int (0 + (i : Int))] = _
        rw [e0]
      · refine iteC (decide_eq_false hr0) ⟨_, rfl, _, rfl, _, rfl, _, rfl, I4, c, l, ns, i, ?_, g4.j, hl4, hil, by omega, fun I5 H5 v p g5 hv ok => put I5 H5 v p (Go.trans F g2.j g4 g5) hv ok⟩
        show [V.ref c, V.ref l, V.int (0 + (i : Int)), V.int 3] = _
        rw [e0]
    · rintro σ H2 ⟨I2, x5, ys, pls, g2, iD, hL, hP, hpl, hok, rfl⟩
      refine ⟨_, rfl, q _ _ _ pls ns (Go.trans F j g1 (Go.fix F g2 hD nA iD hL)) ⟨D, ys, rfl, upd_same, hP.mono fun _ _ z => PlAt.mono (same_new iD _) z⟩ ⟨by omega, by omega, hnd, hmn, hok⟩ fun e => ?_⟩
      rw [e] at hpl
      simp at hpl
      omega
end
end JR
/-! J19: promises that hold where nothing is being shown (repr asks that); one turn of the law, the law. -/
namespace JR
open PySem PySem.Spec PyProof.Rows L2
/-- nothing is being shown, and room -/
abbrev CdG (k : Nat) : Around → Prop := fun A => A.guards = some [] ∧ Room k A
theorem CdG.fits {k : Nat} (A : Around) (h : CdG k A) : A.handled = none ∧ A.depth < recursionLimit := ⟨h.2.hd, h.2.depth⟩
section
variable {X : Cx}
/-- the text of a list of two ints -/
def shw (i j : Int) : Str := (PyData.list [.int i, .int j]).shown
theorem call_reprL (hg : X.A.guards = some []) (hu : X.A.units + 64 < cLine) : CallR X (.builtin "repr") (fun xs H Q => ∃ a i j, xs = [.ref a] ∧ H a = some (.lst [.int i, .int j]) ∧ i.natAbs.log2 < 1920 ∧ j.natAbs.log2 < 1920 ∧ Q (.str (shw i j)) H) := by
  intro pins s σ H xs us Q I rel h
  obtain ⟨a, i, j, rfl, ha, hi, hj, q⟩ := h
  obtain ⟨u, rfl, ru⟩ := vals1 rel
  cases ru
  exact repr_two I ha hg hu hi hj fun u s' I' => ⟨.str (shw i j), H, I', ⟨_, rfl⟩, q⟩
end
section
variable {P : Program} {w : World} {K : PySem.W.Frag} {mg : Str → Option Value} {base : Heap} {CC CB CK : Addr}
def sp__law_right : Sp := fun vs H Q _ => ∃ (I : Hp) (c : Addr), vs = [.ref c] ∧ Jc c I H ∧ ∀ (I' H' : Hp), Go (A1 c) (Jt c) I H I' H' → Q (.bl true) H'
theorem ok__law_right (T : Tx K mg CC CB CK) (c__law_sketch : Fn P w K mg base 5 "_law_sketch" (sp__law_sketch)) (c__law_sip : Fn P w K mg base 1 "_law_sip" (sp__law_sip)) (c__law_vol : Fn P w K mg base 11 "_law_vol" (sp__law_vol CC CB)) (c__law_great : Fn P w K mg base 2 "_law_great" (sp__law_great)) (c__law_spent : Fn P w K mg base 100 "_law_spent" (sp__law_spent 123)) (c_rounds : Fn P w K mg base 101 "rounds" (sp_rounds CC CB)) (c_joins : Fn P w K mg base 101 "joins" (sp_joins CC CB)) :
    FxC (CdG 102) P w K mg base "_law_right" sp__law_right := by
  refine T.f__law_right.fnC CdG.fits sc__law_right (fun _ _ _ _ _ _ us hl => match us, hl with | [_], _ => rfl) (fun vs H Q E h => ?_) (fun f cdv A outer s H vs Q E ⟨hgd, hr0⟩ h => ?_)
  · obtain ⟨I, c, rfl, _⟩ := h
    rfl
  · obtain ⟨I, c, rfl, j, q⟩ := h
    have F := frC c
    have hr := hr0.deeper (envOfC "_law_right" (defScope s__law_right) s.heap.objs.size f cdv)
    refine ⟨_, (pss_cons (ps_set (i := 1) sc__law_right.nd rfl (Or.inl rfl) (pe_fn c__law_sketch hr (by decide) (by rfl) (pa_cons (pv 0) (pa_cons (pe_op op_add pe_int (pe_fn c__law_sip hr (by decide) (by rfl) (pa_cons (pv 0) (pa_cons pe_int pa_nil)))) (pa_cons pe_int pa_nil)))))
      (pss_cons (ps_par (i := 2) (j := 3) (by rfl) sc__law_right.nd rfl rfl (by decide) rfl rfl (pa_cons (pe_fn c__law_vol hr (by decide) (by rfl) (pa_cons (pv 1) pa_nil)) (pa_cons pe_dnewT pa_nil)) (by rfl))
      (pss_cons (ps_for PassesOwn.never rfl (pi_list (pe_lst (pa_cons (pe_fn c__law_great hr (by decide) (by rfl) (pa_cons (pv 0) pa_nil)) (pa_cons (pe_fn c__law_great hr (by decide) (by rfl) (pa_cons (pv 0) pa_nil)) pa_nil)))) (pg_name (i := 4) sc__law_right.nd rfl (Or.inl rfl))
        (pss_one (ps_for PassesOwn.never rfl (pi_list (pv 1)) (pg_name (i := 5) sc__law_right.nd rfl (Or.inl rfl))
          (pss_cons (ps_set (i := 6) sc__law_right.nd rfl (Or.inl rfl) (pe_fn c__law_spent hr (by decide) (by rfl) (pa_cons (pv 1) (pa_cons (pv 3) (pa_cons (pe_ix ix_list (pv 5) pe_int (fun _ _ => rfl)) (pa_cons (pv 4) pa_nil))))))
          (pss_one (ps_if (pt_cmpR op_ne (pe_callB (call_reprL hgd hr.units) (by rfl) T.b_repr (by decide +kernel) (pa_cons (pe_lst (pa_cons (pe_fn c_joins hr (by decide) (by rfl) (pa_cons (pv 2) (pa_cons (pe_ix ix_list (pv 5) pe_int (fun _ _ => rfl)) (pa_cons (pv 4) pa_nil)))) (pa_cons (pe_fn c_rounds hr (by decide) (by rfl) (pa_cons (pv 2) (pa_cons (pe_ix ix_list (pv 5) pe_int (fun _ _ => rfl)) (pa_cons (pv 4) pa_nil)))) pa_nil))) pa_nil)) (pe_callB (call_reprL hgd hr.units) (by rfl) T.b_repr (by decide +kernel) (pa_cons (pe_lst (pa_cons (pe_ix ix_tup (pv 6) pe_int (fun _ _ => rfl)) (pa_cons (pe_ix ix_tup (pv 6) pe_int (fun _ _ => rfl)) pa_nil))) pa_nil)) (nomark _))
            (pss_one (ps_ret pe_bl))
            pss_nil))))))
      (pss_one (ps_ret pe_bl))))), ?_⟩
    refine ⟨_, rfl, _, rfl, I, c, 3, rfl, j, by decide, by decide, fun I0 H0 r g0 r0 r1 => ⟨_, _, rfl, rfl, ?_⟩⟩
    obtain ⟨k, rfl⟩ := Int.eq_ofNat_of_zero_le r0
    refine ⟨I0, c, 1 + k, ?_, g0.j, by omega, by omega, fun I1 H1 v sk ns g1 hsk ok ne => ?_⟩
    · show [V.ref c, V.int (1 + (k : Int)), V.int 3] = _
      rw [show ((1 + k : Nat) : Int) = 1 + k by omega]
    have g2 := Go.trans F j g0 g1
    refine ⟨_, rfl, I1, v, sk, ns, rfl, g2.j.1, hsk, ok, ne, fun I2 H2 bk gv hbk => ?_⟩
    have g3 := Go.trans F j g2 (Go.pure F g2.j gv)
    have hsk3 := SkAt.mono gv.s hsk
    intro d hd
    -- d is new
    have dA : ¬ A1 c d := F.nin g3.j hd
    have hdH : H d = none := by
      cases e : H d with
      | none => rfl
      | some o =>
        rw [g3.k d o dA e] at hd
        cases hd
    have dI : I2 d = none := g3.j.1.free hd
    have g4 : Go (A1 c) (Jc c) I H I2 (upd H2 d (.dT [])) := g3.chg F hdH dA dI
    have hd4 : (upd H2 d (.dT [])) d = some (.dT []) := upd_same
    generalize upd H2 d (.dT []) = H4 at *
    refine ⟨_, _, rfl, ?_⟩
    refine ⟨_, rfl, I2, c, rfl, g4.j, fun I5 H5 n1 g5 n10 n11 => ⟨_, rfl, I5, c, rfl, g5.j, fun I6 H6 n2 g6 n20 n21 => ⟨two_le, fun L hL => ?_⟩⟩⟩
    have g7 := Go.trans F g4.j g5 (Go.trans F g5.j g6 (Go.new F g6.j hL (.lst [.int n1, .int n2])))
    have hL7 : (upd I6 L (.lst [.int n1, .int n2])) L = _ := upd_same
    generalize upd H6 L (.lst [.int n1, .int n2]) = H7 at *
    generalize upd I6 L (.lst [.int n1, .int n2]) = I7 at *
    have hd7 := g7.k d _ dA hd4
    have dI7 : I7 d = none := by
      rw [g7.f d (by rw [hd4]; simp)]
      exact dI
    have g8 := Go.trans F j g4 g7
    have j7 : Jk d sk ns [n1, n2] I7 H7 := ⟨g8.j.1, dI7, _, hd7, [], rfl, kn_0⟩
    have Fk := frK d sk ns [n1, n2]
    have hsk7 := SkAt.mono g7.s hsk3
    have hbk7 := hbk.mono g7.s
    obtain ⟨sa, svs, rfl, hsa, hsP⟩ := id hsk7
    have hsl : svs.length = sk.length := hsP.length
    have nA : ∀ {b : Addr} {u : HO}, I7 b = some u → ¬ A1 d b := fun {b u} h e => by
      rw [show b = d from e, dI7] at h
      cases h
    have goOn : ∀ I9 H9, Go (A1 d) (Jk d sk ns [n1, n2]) I7 H7 I9 H9 → Go (A1 c) (Jt c) I H I9 H9 := fun I9 H9 g => by
      refine ⟨g8.s.trans g.s, fun b hb => ?_, fun b o nb e => g.k b o (fun z => ?_) (g8.k b o nb e), g.j.1, ?_, ?_⟩
      · have hb7 : H7 b ≠ none := by
          cases e : H b with
          | none => exact absurd e hb
          | some o =>
            by_cases hbc : A1 c b
            · obtain ⟨_, o, ho⟩ := F.out g8.j hbc
              rw [ho]
              simp
            · rw [g8.k b o hbc e]
              simp
        rw [g.f b hb7, g8.f b hb]
      · rw [show b = d from z] at e
        rw [hdH] at e
        cases e
      · obtain ⟨x, y, z, hc⟩ := Jc.at g8.j
        rw [g.f c (by rw [hc]; simp)]
        exact g8.j.2.1
      · obtain ⟨x, y, z, hc⟩ := Jc.at g8.j
        exact ⟨_, g.k c _ (fun z => by rw [show c = d from z] at dA; exact dA rfl) hc, trivial⟩
    refine ⟨L, rfl, ⟨_, SqL.of (j7.1 _ _ hL7)⟩, for_list (xs := [.int n1, .int n2]) (fun (_ : Nat) (σ : L2.St) (H' : Hp) => ∃ I' x4 x5 x6, Go (A1 d) (Jk d sk ns [n1, n2]) I7 H7 I' H' ∧ σ = [some (.ref c), some (.ref sa), some bk, some (.ref d), x4, x5, x6])
      ⟨I7, _, _, _, Go.refl j7, rfl⟩ (fun _ _ _ _ ⟨_, _, _, _, g, _⟩ => SqL.of (g.j.1 _ _ (g.s _ _ hL7))) ?_ ?_⟩
    · rintro i y σ H8 hy ⟨I8, x4, x5, x6, g9, rfl⟩
      obtain ⟨n, rfl, hn1, hnm, hnN⟩ : ∃ n, y = V.int n ∧ 1 ≤ n ∧ n ≤ 1000000000000 ∧ n ∈ [n1, n2] := by
        have hm := List.mem_of_getElem? hy
        simp only [List.mem_cons, List.not_mem_nil, or_false] at hm
        rcases hm with e | e
        · exact ⟨n1, e, n10, n11, by simp⟩
        · exact ⟨n2, e, n20, n21, by simp⟩
      have hrch : RchL [n1, n2] n := ⟨n, hnN, rch_0 hn1 (by omega)⟩
      refine ⟨_, rfl, sa, rfl, ⟨svs, SqL.of (g9.j.1 _ _ (g9.s _ _ hsa))⟩, for_list (xs := svs) (fun (_ : Nat) (σ : L2.St) (H' : Hp) => ∃ I' x5 x6, Go (A1 d) (Jk d sk ns [n1, n2]) I7 H7 I' H' ∧ σ = [some (.ref c), some (.ref sa), some bk, some (.ref d), some (.int n), x5, x6])
        ⟨I8, _, _, g9, rfl⟩ (fun _ _ _ _ ⟨_, _, _, g, _⟩ => SqL.of (g.j.1 _ _ (g.s _ _ hsa))) ?_ ?_⟩
      · rintro m y σ H9 hy ⟨I9, x5, x6, g10, rfl⟩
        obtain ⟨p, hp, pa, gv, rv, rfl, hpa, hg, hrds⟩ := paired_at hsP hy
        have hpa9 := g10.j.1 _ _ (g10.s _ _ hpa)
        refine ⟨_, rfl, _, rfl, _, rfl, pa, _, 0, _, rfl, rfl, SqL.of hpa9, atI_nat (j := 0) rfl, _, rfl, I9, _, d, sk, ns, [n1, n2], m, p, n, rfl, g10.j, SkAt.mono g10.s hsk7, ok, (by show 2 ≤ 2; decide), ⟨hp, hn1, by omega, hrch, ?_⟩, fun I10 H10 v g11 ⟨t, ev, ht⟩ => ?_⟩
        · have := dep_le (n := n) m (by omega)
          omega
        subst ev
        have g12 := Go.trans Fk j7 g10 g11
        obtain ⟨b1, b2, b3, b4⟩ := spent_bd ok hp hn1 (by omega)
        have hpa10 := g12.j.1 _ _ (g12.s _ _ hpa)
        refine ⟨_, rfl, _, rfl, pa, _, 0, _, rfl, rfl, SqL.of hpa10, atI_nat (j := 0) rfl, _, rfl, I10, bk, sk, ns, m, p, n, rfl, g12.j.1, hbk7.mono g12.s, ok, hp, hn1, hnm, fun H11 s11 => ?_⟩
        have g13 := Go.trans Fk j7 g12 (Go.same Fk g12.j s11)
        have hpa11 := g13.j.1 _ _ (g13.s _ _ hpa)
        refine ⟨_, rfl, _, rfl, pa, _, 0, _, rfl, rfl, SqL.of hpa11, atI_nat (j := 0) rfl, _, rfl, I10, bk, sk, ns, m, p, n, rfl, g13.j.1, hbk7.mono g13.s, ok, hp, hn1, hnm, fun H12 s12 => ⟨two_le, fun l1 hl1 => ?_⟩⟩
        have g14 := Go.trans Fk j7 g13 (Go.same Fk g13.j s12)
        have g15 := Go.trans Fk j7 g14 (Go.new Fk g14.j hl1 (.lst [.int (spent sk p.name n).1, .int (spent sk p.name n).2]))
        have ht15 := same_new (g14.j.1.free hl1) (.lst [.int (spent sk p.name n).1, .int (spent sk p.name n).2]) _ _ ht
        refine ⟨l1, _, _, rfl, upd_same, b3, b4, ?_⟩
        generalize upd H12 l1 (.lst [.int (spent sk p.name n).1, .int (spent sk p.name n).2]) = H13 at *
        generalize upd I10 l1 (.lst [.int (spent sk p.name n).1, .int (spent sk p.name n).2]) = I13 at *
        have ht13 := g15.j.1 _ _ ht15
        refine ⟨_, rfl, t, _, 0, _, rfl, rfl, SqT.of ht13, atI_nat (j := 0) rfl, _, rfl, t, _, 1, _, rfl, rfl, SqT.of ht13, atI_nat (j := 1) rfl, two_le, fun l2 hl2 => ⟨l2, _, _, rfl, upd_same, b3, b4, rfl, _, rfl, iteC ?_ ?_⟩⟩
        · show (!decide (V.str _ = V.str _)) = false
          rw [decide_eq_true rfl]
          rfl
        · have g16 := Go.trans Fk j7 g15 (Go.new Fk g15.j hl2 (.lst [.int (spent sk p.name n).1, .int (spent sk p.name n).2]))
          exact ⟨_, some (.ref pa), some (.ref t), g16, rfl⟩
      · rintro σ H9 ⟨I9, x5, x6, g10, rfl⟩
        exact ⟨I9, _, _, _, g10, rfl⟩
    · rintro σ H8 ⟨I8, x4, x5, x6, g9, rfl⟩
      exact q I8 H8 (goOn I8 H8 g9)
theorem sq_keep {H H' : Hp} {a : Addr} {xs : List V} (e : ∀ b o, H b = some o → H' b = some o) (h : SqL K H a xs) : SqL K H' a xs := by
  rcases h with (h | ⟨o, h⟩) | h
  · exact .inl (.inl (e _ _ h))
  · exact .inl (.inr ⟨o, e _ _ h⟩)
  · exact .inr h
def sp_law (K : PySem.W.Frag) : Sp := fun vs H Q _ => ∃ (a : Addr) (xs : List Int), vs = [.ref a] ∧ SqL K H a (xs.map V.int) ∧ xs.length ≤ 100 ∧ ∀ H', Q (.bl true) H'
theorem law_G (T : Tx K mg CC CB CK) {f : Addr} {fd : FuncData} (F : FunD K "law" "law" (defArgs s_law) (defBody s_law) (defScope s_law) [] [] f fd) (c__law_right : FxC (CdG 102) P w K mg base "_law_right" sp__law_right) (c__law_cup : Fn P w K mg base 1 "_law_cup" (sp__law_cup K)) : FnC (CdG 103) P w K mg base f fd ["_law_cells"] (sp_law K) := by
  refine fnC_of CdG.fits F sc_law (fun vs H Q E h => ?_) (fun cdv A outer s H vs Q E ⟨hgd, hr0⟩ h => ?_)
  · obtain ⟨a, xs, rfl, _⟩ := h
    rfl
  · obtain ⟨a, xs, rfl, hq, hx, q⟩ := h
    have hr := hr0.deeper (envOfC "law" (defScope s_law) s.heap.objs.size f cdv)
    refine ⟨_, (pss_one (ps_ret (pe_callB (cr_all rfl) (by rfl) T.b_all (by decide +kernel) (pa_cons (pe_lc (own := [("_law_turn", 1)]) (g := gName 1) (tt := tYes) rfl sc_law.nd (pi_range1 (by rfl) T.b_range (pa_cons (pe_callB (call_max2 rfl) (by rfl) T.b_max (by decide +kernel) (pa_cons pe_int (pa_cons (pe_callB (call_min2 rfl) (by rfl) T.b_min (by decide +kernel) (pa_cons (pe_callB call_len_seq (by rfl) T.b_len (by decide +kernel) (pa_cons (pv 0) pa_nil)) (pa_cons pe_int pa_nil))) pa_nil))) pa_nil)) (blkOk_by (own := [("_law_turn", 1)]) (N := N_law) (sc := defScope s_law) (by decide +kernel))
        (fun _ _ _ _ _ => pg_name (i := 1) sc_law.nd rfl (Or.inl rfl)) (fun _ _ _ _ _ => pts_nil)
        (fun _ _ _ _ _ => (pe_fnC c__law_right ⟨hgd, hr⟩ (by rfl) (pa_cons (pe_fn c__law_cup hr (by decide) (by rfl) (pa_cons (pv 0) (pa_cons (pv 1) pa_nil))) pa_nil)))) pa_nil)))), ?_⟩
    refine ⟨_, rfl, a, _, rfl, .inl hq, _, _, rfl, _, _, rfl, ?_⟩
    obtain ⟨n, hn, hn4⟩ : ∃ n : Nat, (if (if (4 : Int) < ((xs.map V.int).length : Nat) then (4 : Int) else ((xs.map V.int).length : Nat)) > 2 then (if (4 : Int) < ((xs.map V.int).length : Nat) then (4 : Int) else ((xs.map V.int).length : Nat)) else 2) = (n : Int) ∧ n ≤ 4 := by
      generalize (xs.map V.int).length = l
      by_cases h1 : (4 : Int) < (l : Int)
      · rw [if_pos h1]
        exact ⟨4, rfl, by decide⟩
      · rw [if_neg h1]
        by_cases h2 : (l : Int) > 2
        · rw [if_pos h2]
          exact ⟨l, rfl, by omega⟩
        · rw [if_neg h2]
          exact ⟨2, rfl, by decide⟩
    refine ⟨n, congrArg (fun z => [V.int z]) hn, by omega, by omega, fun D hD => ?_⟩
    refine lc_goY (m := 1) walk_range fr0 (Same.refl H) hD (Tell fun _ => V.bl true) tell_0 (fun H' k => trivial) (fun _ _ _ _ y => y.1) ?_ ?_
    · rintro i x I4 H4 zs hi ⟨_, hx2⟩ g4 hz
      subst hx2
      refine ⟨by rw [hz.len]; omega, fun Q2 q2 => ⟨_, rfl, _, rfl, I4, a, xs, i, ?_, g4.j, sq_keep (fun b o e => g4.k b o (fun z => z) e) hq, hx, fun I5 H5 c u v z g5 hc1 hc2 hc3 => ?_⟩⟩
      · show [V.ref a, V.int (0 + (i : Int))] = _
        rw [Int.zero_add]
      · exact ⟨I5, c, rfl, ⟨g5.j, hc2, _, hc3, _, _, _, rfl⟩, fun I6 H6 g6 => q2 I6 H6 _ (Go.out (frT c) g5 (fun b e => by rw [show b = c from e]; exact hc1) g6) (hz.snoc rfl)⟩
    intro I4 H4 zs g4 iD hL hz
    refine ⟨D, List.replicate _ true, rfl, SqL.of (by rw [hL, hz, trues]), ?_⟩
    rw [all_trues]
    exact q H4
end
end JR
/-! J20: from the law's promise (kept where nothing is being shown) to the row's claim. -/
namespace JR
open PySem PySem.Spec PyProof.Rows L2
/-- the script as it was given -/
def scrO (vs : List Value) : Obj := { cls := .type "list", data := .seq vs.toArray }
/-- the abstract heap at the law's start: the script alone, where it is no object of the module's -/
def scr (K : PySem.W.Frag) (vs : List Value) (ns : List Int) (a : Addr) : Hp := fun b => if b = a ∧ K.lookup a = none then some (.frz (scrO vs) (.lst (ns.map V.int))) else none
theorem scr_some {K : PySem.W.Frag} {vs : List Value} {ns : List Int} {a b : Addr} {u : HO} (h : scr K vs ns a b = some u) : b = a ∧ K.lookup a = none ∧ u = .frz (scrO vs) (.lst (ns.map V.int)) := by
  unfold scr at h
  by_cases c : b = a ∧ K.lookup a = none
  · rw [if_pos c] at h
    exact ⟨c.1, c.2, (Option.some.inj h).symm⟩
  · rw [if_neg c] at h
    cases h
theorem scr_off {K : PySem.W.Frag} {vs : List Value} {ns : List Int} {a b : Addr} (no : b = a → K.lookup a = none → False) : scr K vs ns a b = none := by
  cases h : scr K vs ns a b with
  | none => rfl
  | some u =>
    obtain ⟨e1, e2, _⟩ := scr_some h
    exact (no e1 e2).elim
theorem ints_vals : ∀ {vs : List Value} {ns : List Int}, IntsAre vs ns → Vals (ns.map V.int) vs
  | _, _, .nil => .nil
  | _, _, .cons _ t r => .cons ⟨t, rfl⟩ (ints_vals r)
theorem runG {P : Program} {w : World} {K : PySem.W.Frag} {mg mb : Str → Option Value} {k : Nat} {fa a : Addr} {fd : FuncData} {x : Str} {s : Shared} {vs : List Value} {ns : List Int} (kin : K.In s.heap) (gl : s.heap.Ns mainGlobals mg) (bl : s.heap.Ns builtinsNs mb)
    (bb : ∀ y : Str, y ≠ "__name__" → mb y = bootBuiltins y) (lim : s.heap.NoLimit) (gens : s.gens = #[]) (ha : s.heap.get? a = some (scrO vs)) (whole : IntsAre vs ns) (short : ns.length ≤ 63) (room : Room k callerA)
    (F : ∀ base : Heap, K.In base → base.Ns mainGlobals mg → FnC (CdG k) P w K mg base fa fd [x] (sp_law K)) (bind : ∀ (s : Shared) (u : Value), BindsTo s fd ⟨[u], []⟩ [(x, u)]) :
    codeAny (model P w) callerA (.call (.ref fa) ⟨[.ref a], []⟩) (fun r s' => r = .ok (.ret (.bool true)) ∧ OldK s.heap s'.heap ∧ s'.os = s.os ∧ AllBare s'.gens) s := by
  have vals := ints_vals whole
  have long := whole.length
  have small : (ns.map V.int).length ≤ sizeLine := by
    rw [List.length_map]
    exact Nat.le_trans short (by decide)
  -- the heap with the script hidden
  have seen : ∀ {b : Addr} {o : Obj}, s.heap.get? b = some o → scr K vs ns a b = none → (hidT s.heap (scr K vs ns a)).get? b = some o := fun e n => hidT_get e n
  have names : ∀ {b : Addr} {m : Str → Option Value}, s.heap.Ns b m → (hidT s.heap (scr K vs ns a)).Ns b m := fun {b m} h => by
    obtain ⟨o, es, ep, e, d, r⟩ := h
    refine ⟨o, es, ep, seen e (scr_off fun eb _ => ?_), d, r⟩
    subst eb
    rw [ha] at e
    cases e
    cases (show Data.seq vs.toArray _ = Data.dict es ep from d)
  have kin2 : K.In (hidT s.heap (scr K vs ns a)) := fun b o e => seen (kin b o e) (scr_off fun eb n => by
    subst eb
    rw [n] at e
    cases e)
  have lim2 : (hidT s.heap (scr K vs ns a)).NoLimit := by
    obtain ⟨mc, h1, h2⟩ := lim
    exact ⟨mc, names h1, h2⟩
  have given : HOk P w (scr K vs ns a) s.heap := fun b u h => by
    obtain ⟨rfl, _, rfl⟩ := scr_some h
    exact ⟨ha, small, vs, _, vals, ha⟩
  have start : Env0 P w K mg (hidT s.heap (scr K vs ns a)) callerA [] s (scr K vs ns a) :=
    ⟨rfl, ⟨kin2, names gl, ⟨mb, names bl, bb⟩, lim2⟩, fun b o e => of_hidT e, Nat.le_of_eq (hidT_size _ _), trivial, fun b hb => by simp [frs] at hb, given, .of_eq gens⟩
  have list : SqL K (scr K vs ns a) a (ns.map V.int) := by
    cases e : K.lookup a with
    | none => exact .inl (.inr ⟨scrO vs, if_pos ⟨rfl, e⟩⟩)
    | some o =>
      have e2 := kin a o e
      rw [ha] at e2
      cases e2
      refine .inr ⟨_, vs.toArray, _, e, rfl, rfl, rfl, ?_, vals⟩
      rw [List.size_toArray, long]
      exact Nat.le_trans short (by decide)
  refine codeAny_mono ((F _ kin2 (names gl)).2 callerA [] s _ ⟨[.ref a], []⟩ [.ref a] [.ref a] (fun v _ => v = .bl true) E0 ⟨rfl, room⟩ start (bind s (.ref a)) (.cons rfl .nil) ⟨a, ns, rfl, list, Nat.le_trans short (by decide), fun _ => rfl⟩) fun r s' done => ?_
  match r, done with
  | .error _, no => exact no.elim
  | .ok .next, no => exact no.elim
  | .ok .brk, no => exact no.elim
  | .ok .cont, no => exact no.elim
  | .ok (.ret u), ⟨v, H', os, bare, un, hok', rel, yes⟩ =>
    have yes : v = .bl true := yes
    subst yes
    have eu : u = Value.bool true := rel
    subst eu
    refine ⟨rfl, OldK.of_keep fun b o e => ?_, os, bare⟩
    cases h : scr K vs ns a b with
    | none => exact un.keep b o e h (by simp [frs]) (by simp)
    | some z =>
      obtain ⟨eb, _, ez⟩ := scr_some h
      subst ez
      have now := (hok' b _ (un.frzs b _ _ h)).1
      rw [eb, ha] at e
      cases e
      exact now
/-- a law's end -/
theorem walkG {l : PySem.W.OpenLaw} {k : Nat} {q : Program} {loose : List Str} {XP : (Str → Option Value) → Heap → Prop} {YP : World → Heap → Prop} {d : DefRec} {x : Str} (most : l.most = some 63) (plain : d.params.defaults = []) (room : Room k callerA)
    (F : ∀ (w : World) (mg : Str → Option Value) (fa : Addr) (h : Heap), YP w h → h.Ns mainGlobals mg → mg d.name = some (.ref fa) →
      ∃ (K : PySem.W.Frag) (fd : FuncData), K.In h ∧ (∀ (s : Shared) (u : Value), BindsTo s fd ⟨[u], []⟩ [(x, u)]) ∧ ∀ base : Heap, K.In base → base.Ns mainGlobals mg → FnC (CdG k) l.prog w K mg base fa fd [x] (sp_law K)) :
    PySem.W.WalkO q loose XP YP l.row.toRowW d [] (fun f vs => PySem.call f vs) := by
  refine Att.attach_call most plain fun w s₀ s₁ mg mb fa o pm cd doc a vs ns G Y ho hd hcd hmg hobj hints hlen hg => ?_
  obtain ⟨K, fd, kin, bind, run⟩ := F w mg fa _ Y G.T.g hmg
  exact runG kin G.T.g G.T.b G.T.builtins G.T.nolimit hg hobj hints hlen room run bind
end JR
set_option maxHeartbeats 0
/-! JH: the head. Printed by genhead.py. -/
namespace JR
open PySem PySem.Spec PyProof.Rows L2
/-! ### what the head tells -/
def d_is_integer : He.DefD := ⟨("is_integer", none), "is_integer", "is_integer", defArgs s_is_integer, defBody s_is_integer, defScope s_is_integer, [], []⟩
def d_is_between : He.DefD := ⟨("is_between", none), "is_between", "is_between", defArgs s_is_between, defBody s_is_between, defScope s_is_between, [], []⟩
def d_is_name : He.DefD := ⟨("is_name", none), "is_name", "is_name", defArgs s_is_name, defBody s_is_name, defScope s_is_name, [], []⟩
def d_check_size : He.DefD := ⟨("check_size", none), "check_size", "check_size", defArgs s_check_size, defBody s_check_size, defScope s_check_size, [], []⟩
def d_Clause___init__ : He.DefD := ⟨("Clause", some "__init__"), "__init__", "Clause.__init__", defArgs s_Clause___init__, defBody s_Clause___init__, defScope s_Clause___init__, [.non, .non, .non], []⟩
def d_digit_of : He.DefD := ⟨("digit_of", none), "digit_of", "digit_of", defArgs s_digit_of, defBody s_digit_of, defScope s_digit_of, [], []⟩
def d_class_of : He.DefD := ⟨("class_of", none), "class_of", "class_of", defArgs s_class_of, defBody s_class_of, defScope s_class_of, [], []⟩
def d_read_call : He.DefD := ⟨("read_call", none), "read_call", "read_call", defArgs s_read_call, defBody s_read_call, defScope s_read_call, [], []⟩
def d_read_clause : He.DefD := ⟨("read_clause", none), "read_clause", "read_clause", defArgs s_read_clause, defBody s_read_clause, defScope s_read_clause, [], []⟩
def d_meet : He.DefD := ⟨("meet", none), "meet", "meet", defArgs s_meet, defBody s_meet, defScope s_meet, [], []⟩
def d_read_clauses : He.DefD := ⟨("read_clauses", none), "read_clauses", "read_clauses", defArgs s_read_clauses, defBody s_read_clauses, defScope s_read_clauses, [], []⟩
def d_read_round : He.DefD := ⟨("read_round", none), "read_round", "read_round", defArgs s_read_round, defBody s_read_round, defScope s_read_round, [], []⟩
def d_read_goal : He.DefD := ⟨("read_goal", none), "read_goal", "read_goal", defArgs s_read_goal, defBody s_read_goal, defScope s_read_goal, [], []⟩
def d_is_plan : He.DefD := ⟨("is_plan", none), "is_plan", "is_plan", defArgs s_is_plan, defBody s_is_plan, defScope s_is_plan, [], []⟩
def d_first_invalid : He.DefD := ⟨("first_invalid", none), "first_invalid", "first_invalid", defArgs s_first_invalid, defBody s_first_invalid, defScope s_first_invalid, [], []⟩
def d_Book___init__ : He.DefD := ⟨("Book", some "__init__"), "__init__", "Book.__init__", defArgs s_Book___init__, defBody s_Book___init__, defScope s_Book___init__, [], []⟩
def d_Book_plan : He.DefD := ⟨("Book", some "plan"), "plan", "Book.plan", defArgs s_Book_plan, defBody s_Book_plan, defScope s_Book_plan, [], []⟩
def d_Book_program : He.DefD := ⟨("Book", some "program"), "program", "Book.program", defArgs s_Book_program, defBody s_Book_program, defScope s_Book_program, [], []⟩
def d_Book_goal_of : He.DefD := ⟨("Book", some "goal_of"), "goal_of", "Book.goal_of", defArgs s_Book_goal_of, defBody s_Book_goal_of, defScope s_Book_goal_of, [], []⟩
def d_check_book : He.DefD := ⟨("check_book", none), "check_book", "check_book", defArgs s_check_book, defBody s_check_book, defScope s_check_book, [], []⟩
def d_check_plan : He.DefD := ⟨("check_plan", none), "check_plan", "check_plan", defArgs s_check_plan, defBody s_check_plan, defScope s_check_plan, [], []⟩
def d_places_between : He.DefD := ⟨("places_between", none), "places_between", "places_between", defArgs s_places_between, defBody s_places_between, defScope s_places_between, [], []⟩
def d_deeds_at : He.DefD := ⟨("deeds_at", none), "deeds_at", "deeds_at", defArgs s_deeds_at, defBody s_deeds_at, defScope s_deeds_at, [], []⟩
def d_plain_joins : He.DefD := ⟨("plain_joins", none), "plain_joins", "plain_joins", defArgs s_plain_joins, defBody s_plain_joins, defScope s_plain_joins, [], []⟩
def d_Counter___init__ : He.DefD := ⟨("Counter", some "__init__"), "__init__", "Counter.__init__", defArgs s_Counter___init__, defBody s_Counter___init__, defScope s_Counter___init__, [], []⟩
def d_Counter_both : He.DefD := ⟨("Counter", some "both"), "both", "Counter.both", defArgs s_Counter_both, defBody s_Counter_both, defScope s_Counter_both, [], []⟩
def d_Counter_found : He.DefD := ⟨("Counter", some "found"), "found", "Counter.found", defArgs s_Counter_found, defBody s_Counter_found, defScope s_Counter_found, [], []⟩
def d_joins : He.DefD := ⟨("joins", none), "joins", "joins", defArgs s_joins, defBody s_joins, defScope s_joins, [], []⟩
def d_rounds : He.DefD := ⟨("rounds", none), "rounds", "rounds", defArgs s_rounds, defBody s_rounds, defScope s_rounds, [], []⟩
def d__law_cup : He.DefD := ⟨("_law_cup", none), "_law_cup", "_law_cup", defArgs s__law_cup, defBody s__law_cup, defScope s__law_cup, [], []⟩
def d__law_sip : He.DefD := ⟨("_law_sip", none), "_law_sip", "_law_sip", defArgs s__law_sip, defBody s__law_sip, defScope s__law_sip, [], []⟩
def d__law_labels : He.DefD := ⟨("_law_labels", none), "_law_labels", "_law_labels", defArgs s__law_labels, defBody s__law_labels, defScope s__law_labels, [], []⟩
def d__law_clause : He.DefD := ⟨("_law_clause", none), "_law_clause", "_law_clause", defArgs s__law_clause, defBody s__law_clause, defScope s__law_clause, [], []⟩
def d__law_round : He.DefD := ⟨("_law_round", none), "_law_round", "_law_round", defArgs s__law_round, defBody s__law_round, defScope s__law_round, [], []⟩
def d__law_goal : He.DefD := ⟨("_law_goal", none), "_law_goal", "_law_goal", defArgs s__law_goal, defBody s__law_goal, defScope s__law_goal, [], []⟩
def d__law_plan : He.DefD := ⟨("_law_plan", none), "_law_plan", "_law_plan", defArgs s__law_plan, defBody s__law_plan, defScope s__law_plan, [], []⟩
def d__law_good : He.DefD := ⟨("_law_good", none), "_law_good", "_law_good", defArgs s__law_good, defBody s__law_good, defScope s__law_good, [], []⟩
def d__law_sketch : He.DefD := ⟨("_law_sketch", none), "_law_sketch", "_law_sketch", defArgs s__law_sketch, defBody s__law_sketch, defScope s__law_sketch, [], []⟩
def d__law_clause_text : He.DefD := ⟨("_law_clause_text", none), "_law_clause_text", "_law_clause_text", defArgs s__law_clause_text, defBody s__law_clause_text, defScope s__law_clause_text, [], []⟩
def d__law_goal_text : He.DefD := ⟨("_law_goal_text", none), "_law_goal_text", "_law_goal_text", defArgs s__law_goal_text, defBody s__law_goal_text, defScope s__law_goal_text, [], []⟩
def d__law_parts : He.DefD := ⟨("_law_parts", none), "_law_parts", "_law_parts", defArgs s__law_parts, defBody s__law_parts, defScope s__law_parts, [], []⟩
def d__law_vol : He.DefD := ⟨("_law_vol", none), "_law_vol", "_law_vol", defArgs s__law_vol, defBody s__law_vol, defScope s__law_vol, [], []⟩
def d__law_due : He.DefD := ⟨("_law_due", none), "_law_due", "_law_due", defArgs s__law_due, defBody s__law_due, defScope s__law_due, [], []⟩
def d__law_below : He.DefD := ⟨("_law_below", none), "_law_below", "_law_below", defArgs s__law_below, defBody s__law_below, defScope s__law_below, [], []⟩
def d__law_plain : He.DefD := ⟨("_law_plain", none), "_law_plain", "_law_plain", defArgs s__law_plain, defBody s__law_plain, defScope s__law_plain, [], []⟩
def d__law_clause_spent : He.DefD := ⟨("_law_clause_spent", none), "_law_clause_spent", "_law_clause_spent", defArgs s__law_clause_spent, defBody s__law_clause_spent, defScope s__law_clause_spent, [], []⟩
def d__law_spent : He.DefD := ⟨("_law_spent", none), "_law_spent", "_law_spent", defArgs s__law_spent, defBody s__law_spent, defScope s__law_spent, [], []⟩
def d__law_great : He.DefD := ⟨("_law_great", none), "_law_great", "_law_great", defArgs s__law_great, defBody s__law_great, defScope s__law_great, [], []⟩
def d__law_right : He.DefD := ⟨("_law_right", none), "_law_right", "_law_right", defArgs s__law_right, defBody s__law_right, defScope s__law_right, [], []⟩
def d_law : He.DefD := ⟨("law", none), "law", "law", defArgs s_law, defBody s_law, defScope s_law, [], []⟩
def fn : List He.DefD := [d_is_integer, d_is_between, d_is_name, d_check_size, d_Clause___init__, d_digit_of, d_class_of, d_read_call, d_read_clause, d_meet, d_read_clauses, d_read_round, d_read_goal, d_is_plan, d_first_invalid, d_Book___init__, d_Book_plan, d_Book_program, d_Book_goal_of, d_check_book, d_check_plan, d_places_between, d_deeds_at, d_plain_joins, d_Counter___init__, d_Counter_both, d_Counter_found, d_joins, d_rounds, d__law_cup, d__law_sip, d__law_labels, d__law_clause, d__law_round, d__law_goal, d__law_plan, d__law_good, d__law_sketch, d__law_clause_text, d__law_goal_text, d__law_parts, d__law_vol, d__law_due, d__law_below, d__law_plain, d__law_clause_spent, d__law_spent, d__law_great, d__law_right, d_law]
def fa : List He.Fa := [.free "abs",
  .free "all",
  .free "any",
  .free "bool",
  .free "divmod",
  .free "enumerate",
  .free "int",
  .free "isinstance",
  .free "len",
  .free "max",
  .free "min",
  .free "range",
  .free "repr",
  .free "str",
  .free "sum",
  .free "tuple",
  .str "LETTERS" "abcdefghijklmnopqrstuvwxyz",
  .str "DIGITS" "0123456789",
  .int "MOST_PLANS" 4,
  .int "MOST_ROUNDS" 5,
  .int "MOST_CLAUSES" 3,
  .int "MOST_CLASSES" 3,
  .int "MOST_FAR" 4,
  .int "MOST_LAST" 4,
  .int "MOST_BASE" 4,
  .int "MOST_SIZE" 1000000000000,
  .str "GAP" "; ",
  .glo "Clause",
  .cls "Clause",
  .noat "Clause" "word",
  .noat "Clause" "rest",
  .noat "Clause" "step",
  .noat "Clause" "side",
  .noat "Clause" "far",
  .noat "Clause" "goal",
  .glo "Book",
  .cls "Book",
  .noat "Book" "held",
  .noat "Book" "parsed",
  .glo "Counter",
  .cls "Counter",
  .noat "Counter" "shelf",
  .noat "Counter" "known",
  .glo "is_integer",
  .glo "is_between",
  .glo "is_name",
  .glo "check_size",
  .mkr "Clause",
  .glo "digit_of",
  .glo "class_of",
  .glo "read_call",
  .glo "read_clause",
  .glo "meet",
  .glo "read_clauses",
  .glo "read_round",
  .glo "read_goal",
  .glo "is_plan",
  .glo "first_invalid",
  .mkr "Book",
  .meth "Book" "plan",
  .meth "Book" "program",
  .meth "Book" "goal_of",
  .glo "check_book",
  .glo "check_plan",
  .glo "places_between",
  .glo "deeds_at",
  .glo "plain_joins",
  .mkr "Counter",
  .meth "Counter" "both",
  .meth "Counter" "found",
  .glo "joins",
  .glo "rounds",
  .glo "_law_cup",
  .glo "_law_sip",
  .glo "_law_labels",
  .glo "_law_clause",
  .glo "_law_round",
  .glo "_law_goal",
  .glo "_law_plan",
  .glo "_law_good",
  .glo "_law_sketch",
  .glo "_law_clause_text",
  .glo "_law_goal_text",
  .glo "_law_parts",
  .glo "_law_vol",
  .glo "_law_due",
  .glo "_law_below",
  .glo "_law_plain",
  .glo "_law_clause_spent",
  .glo "_law_spent",
  .glo "_law_great",
  .glo "_law_right",
  .glo "law"]
/-- what isinstance(book, Book) asks -/
def ex (K : PySem.W.Frag) : Bool :=
  decide (PySem.W.findIn K (.ref (He.ga K "Book")) "__class__" = some (some (.builtin "object.__class__"))) &&
  (decide (PySem.W.specialIn K (.builtin "object.__class__") "__get__" = some (some (.builtin "getset_descriptor.__get__"))) &&
  (decide (PySem.W.takesIn K (.builtin "object.__class__") = some true) &&
  (decide (PySem.W.mroIn K (He.ga K "Book") (.type "object") = some true) && decide (PySem.W.kitOne K (.ref (He.ga K "Book")) (.ref (He.ga K "Book")) = some true))))
theorem insc_of {K : PySem.W.Frag} (c : (He.Fa.cls "Book").ok K = true) (h : ex K = true) : C8.InsC K (He.ga K "Book") := by
  obtain ⟨h1, h⟩ := He.ba h
  obtain ⟨h2, h⟩ := He.ba h
  obtain ⟨h3, h⟩ := He.ba h
  obtain ⟨h4, h5⟩ := He.ba h
  exact ⟨He.cls_ok c, of_decide_eq_true h1, of_decide_eq_true h2, of_decide_eq_true h3, of_decide_eq_true h4, of_decide_eq_true h5⟩
abbrev R : PySem.W.OpenRow := PySem.W.OpenLaw.row PySem.Challenge.rw_joinrounds_k38_whole_great_lengths
abbrev AlJ : Type := He.AlD × Bool
def obsK (K : PySem.W.Frag) : AlJ := (He.obsD fa fn K, ex K)
def obsJ (g : Addr → Option Obj) : AlJ := obsK (He.frG g (He.asD g 4))
def hk : PySem.W.Hook where
  α := AlJ
  obs := fun s => obsJ s.heap.get?
  val := fun _ => (He.valD fn, true)
  says := fun _ h => ∃ K : PySem.W.Frag, K.In h ∧ obsK K = (He.valD fn, true)
  of := fun _ _ e => ⟨_, He.frG_in, e⟩
  keeps := fun _ _ _ ⟨K, hK, c⟩ k => ⟨K, PySem.W.Frag.In.keeps hK k, c⟩
def ob (s : PySem.W.SharedT) : AlJ := obsJ (HandSHeadRun.getT s)
theorem ob_eq (s : PySem.W.SharedT) : ob s = hk.obs s.abs := by
  have e : HandSHeadRun.getT s = s.abs.heap.get? := funext (HandSHeadRun.getT_eq s)
  show obsJ (HandSHeadRun.getT s) = obsJ s.abs.heap.get?
  rw [e]
def names0 : List Str := ["_wall", "NotRight", "InvalidText", "InvalidCount", "NotABook", "InvalidPlans", "NotThere", "UnknownPlan", "LETTERS", "DIGITS", "is_integer", "is_between", "is_name", "check_size", "MOST_PLANS"]
def names1 : List Str := ["MOST_ROUNDS", "MOST_CLAUSES", "MOST_CLASSES", "MOST_FAR", "MOST_LAST", "MOST_BASE", "MOST_SIZE", "GAP", "Clause", "digit_of", "class_of", "read_call", "read_clause", "meet", "read_clauses"]
def names2 : List Str := ["read_round", "read_goal", "is_plan", "first_invalid", "read_head", "read_plans", "text_of", "Book", "check_book", "check_plan", "places_between", "deeds_at", "plain_joins", "Counter", "joins"]
def names3 : List Str := ["rounds", "_law_cup", "_law_sip", "_law_labels", "_law_clause", "_law_round", "_law_goal", "_law_plan", "_law_good", "_law_sketch", "_law_clause_text", "_law_goal_text", "_law_parts", "_law_vol", "_law_due"]
def names4 : List Str := ["_law_below", "_law_plain", "_law_clause_spent", "_law_spent", "_law_great", "_law_right"]
def names : List Str := names0 ++ names1 ++ names2 ++ names3 ++ names4
theorem run (w : World) : HandSHeadRun.RunEq R (PySem.W.view R.prog [72]) hk ob 6000 names w := by
  intro os
  kernel_rfl
theorem tx_of {K : PySem.W.Frag} {h : Heap} {mg : Str → Option Value} (X : K.In h) (G : h.Ns mainGlobals mg) (c : obsK K = (He.valD fn, true)) : Tx K mg (He.ga K "Clause") (He.ga K "Book") (He.ga K "Counter") := by
  have c1 : He.SaysD fa fn K := congrArg (fun z : AlJ => z.1) c
  have c2 : ex K = true := congrArg (fun z : AlJ => z.2) c
  exact {
    b_abs := He.free_ok X G (c1.fact 0 rfl)
    b_all := He.free_ok X G (c1.fact 1 rfl)
    b_any := He.free_ok X G (c1.fact 2 rfl)
    b_bool := He.free_ok X G (c1.fact 3 rfl)
    b_divmod := He.free_ok X G (c1.fact 4 rfl)
    b_enumerate := He.free_ok X G (c1.fact 5 rfl)
    b_int := He.free_ok X G (c1.fact 6 rfl)
    b_isinstance := He.free_ok X G (c1.fact 7 rfl)
    b_len := He.free_ok X G (c1.fact 8 rfl)
    b_max := He.free_ok X G (c1.fact 9 rfl)
    b_min := He.free_ok X G (c1.fact 10 rfl)
    b_range := He.free_ok X G (c1.fact 11 rfl)
    b_repr := He.free_ok X G (c1.fact 12 rfl)
    b_str := He.free_ok X G (c1.fact 13 rfl)
    b_sum := He.free_ok X G (c1.fact 14 rfl)
    b_tuple := He.free_ok X G (c1.fact 15 rfl)
    c_LETTERS := let ⟨t, e⟩ := He.str_ok X G (c1.fact 16 rfl); ⟨_, e, t, rfl⟩
    c_DIGITS := let ⟨t, e⟩ := He.str_ok X G (c1.fact 17 rfl); ⟨_, e, t, rfl⟩
    c_MOST_PLANS := let ⟨t, e⟩ := He.int_ok X G (c1.fact 18 rfl); ⟨_, e, t, rfl⟩
    c_MOST_ROUNDS := let ⟨t, e⟩ := He.int_ok X G (c1.fact 19 rfl); ⟨_, e, t, rfl⟩
    c_MOST_CLAUSES := let ⟨t, e⟩ := He.int_ok X G (c1.fact 20 rfl); ⟨_, e, t, rfl⟩
    c_MOST_CLASSES := let ⟨t, e⟩ := He.int_ok X G (c1.fact 21 rfl); ⟨_, e, t, rfl⟩
    c_MOST_FAR := let ⟨t, e⟩ := He.int_ok X G (c1.fact 22 rfl); ⟨_, e, t, rfl⟩
    c_MOST_LAST := let ⟨t, e⟩ := He.int_ok X G (c1.fact 23 rfl); ⟨_, e, t, rfl⟩
    c_MOST_BASE := let ⟨t, e⟩ := He.int_ok X G (c1.fact 24 rfl); ⟨_, e, t, rfl⟩
    c_MOST_SIZE := let ⟨t, e⟩ := He.int_ok X G (c1.fact 25 rfl); ⟨_, e, t, rfl⟩
    c_GAP := let ⟨t, e⟩ := He.str_ok X G (c1.fact 26 rfl); ⟨_, e, t, rfl⟩
    g_Clause := He.glo_ok X G (c1.fact 27 rfl)
    l_Clause := He.cls_ok (c1.fact 28 rfl)
    n_Clause_word := He.noat_ok (c1.fact 29 rfl)
    n_Clause_rest := He.noat_ok (c1.fact 30 rfl)
    n_Clause_step := He.noat_ok (c1.fact 31 rfl)
    n_Clause_side := He.noat_ok (c1.fact 32 rfl)
    n_Clause_far := He.noat_ok (c1.fact 33 rfl)
    n_Clause_goal := He.noat_ok (c1.fact 34 rfl)
    g_Book := He.glo_ok X G (c1.fact 35 rfl)
    l_Book := He.cls_ok (c1.fact 36 rfl)
    n_Book_held := He.noat_ok (c1.fact 37 rfl)
    n_Book_parsed := He.noat_ok (c1.fact 38 rfl)
    g_Counter := He.glo_ok X G (c1.fact 39 rfl)
    l_Counter := He.cls_ok (c1.fact 40 rfl)
    n_Counter_shelf := He.noat_ok (c1.fact 41 rfl)
    n_Counter_known := He.noat_ok (c1.fact 42 rfl)
    i_Book := insc_of (c1.fact 36 rfl) c2
    f_is_integer := (let ⟨fd, F⟩ := c1.def_ 0 rfl; ⟨_, fd, F, He.glo_ok X G (c1.fact 43 rfl)⟩)
    f_is_between := (let ⟨fd, F⟩ := c1.def_ 1 rfl; ⟨_, fd, F, He.glo_ok X G (c1.fact 44 rfl)⟩)
    f_is_name := (let ⟨fd, F⟩ := c1.def_ 2 rfl; ⟨_, fd, F, He.glo_ok X G (c1.fact 45 rfl)⟩)
    f_check_size := (let ⟨fd, F⟩ := c1.def_ 3 rfl; ⟨_, fd, F, He.glo_ok X G (c1.fact 46 rfl)⟩)
    k_Clause := (let ⟨fd, F⟩ := c1.def_ 4 rfl; ⟨_, fd, F, He.mkr_ok (c1.fact 47 rfl), He.glo_ok X G (c1.fact 27 rfl)⟩)
    f_digit_of := (let ⟨fd, F⟩ := c1.def_ 5 rfl; ⟨_, fd, F, He.glo_ok X G (c1.fact 48 rfl)⟩)
    f_class_of := (let ⟨fd, F⟩ := c1.def_ 6 rfl; ⟨_, fd, F, He.glo_ok X G (c1.fact 49 rfl)⟩)
    f_read_call := (let ⟨fd, F⟩ := c1.def_ 7 rfl; ⟨_, fd, F, He.glo_ok X G (c1.fact 50 rfl)⟩)
    f_read_clause := (let ⟨fd, F⟩ := c1.def_ 8 rfl; ⟨_, fd, F, He.glo_ok X G (c1.fact 51 rfl)⟩)
    f_meet := (let ⟨fd, F⟩ := c1.def_ 9 rfl; ⟨_, fd, F, He.glo_ok X G (c1.fact 52 rfl)⟩)
    f_read_clauses := (let ⟨fd, F⟩ := c1.def_ 10 rfl; ⟨_, fd, F, He.glo_ok X G (c1.fact 53 rfl)⟩)
    f_read_round := (let ⟨fd, F⟩ := c1.def_ 11 rfl; ⟨_, fd, F, He.glo_ok X G (c1.fact 54 rfl)⟩)
    f_read_goal := (let ⟨fd, F⟩ := c1.def_ 12 rfl; ⟨_, fd, F, He.glo_ok X G (c1.fact 55 rfl)⟩)
    f_is_plan := (let ⟨fd, F⟩ := c1.def_ 13 rfl; ⟨_, fd, F, He.glo_ok X G (c1.fact 56 rfl)⟩)
    f_first_invalid := (let ⟨fd, F⟩ := c1.def_ 14 rfl; ⟨_, fd, F, He.glo_ok X G (c1.fact 57 rfl)⟩)
    k_Book := (let ⟨fd, F⟩ := c1.def_ 15 rfl; ⟨_, fd, F, He.mkr_ok (c1.fact 58 rfl), He.glo_ok X G (c1.fact 35 rfl)⟩)
    m_Book_plan := (let ⟨fd, F⟩ := c1.def_ 16 rfl; ⟨_, fd, F, He.meth_ok (c1.fact 59 rfl)⟩)
    m_Book_program := (let ⟨fd, F⟩ := c1.def_ 17 rfl; ⟨_, fd, F, He.meth_ok (c1.fact 60 rfl)⟩)
    m_Book_goal_of := (let ⟨fd, F⟩ := c1.def_ 18 rfl; ⟨_, fd, F, He.meth_ok (c1.fact 61 rfl)⟩)
    f_check_book := (let ⟨fd, F⟩ := c1.def_ 19 rfl; ⟨_, fd, F, He.glo_ok X G (c1.fact 62 rfl)⟩)
    f_check_plan := (let ⟨fd, F⟩ := c1.def_ 20 rfl; ⟨_, fd, F, He.glo_ok X G (c1.fact 63 rfl)⟩)
    f_places_between := (let ⟨fd, F⟩ := c1.def_ 21 rfl; ⟨_, fd, F, He.glo_ok X G (c1.fact 64 rfl)⟩)
    f_deeds_at := (let ⟨fd, F⟩ := c1.def_ 22 rfl; ⟨_, fd, F, He.glo_ok X G (c1.fact 65 rfl)⟩)
    f_plain_joins := (let ⟨fd, F⟩ := c1.def_ 23 rfl; ⟨_, fd, F, He.glo_ok X G (c1.fact 66 rfl)⟩)
    k_Counter := (let ⟨fd, F⟩ := c1.def_ 24 rfl; ⟨_, fd, F, He.mkr_ok (c1.fact 67 rfl), He.glo_ok X G (c1.fact 39 rfl)⟩)
    m_Counter_both := (let ⟨fd, F⟩ := c1.def_ 25 rfl; ⟨_, fd, F, He.meth_ok (c1.fact 68 rfl)⟩)
    m_Counter_found := (let ⟨fd, F⟩ := c1.def_ 26 rfl; ⟨_, fd, F, He.meth_ok (c1.fact 69 rfl)⟩)
    f_joins := (let ⟨fd, F⟩ := c1.def_ 27 rfl; ⟨_, fd, F, He.glo_ok X G (c1.fact 70 rfl)⟩)
    f_rounds := (let ⟨fd, F⟩ := c1.def_ 28 rfl; ⟨_, fd, F, He.glo_ok X G (c1.fact 71 rfl)⟩)
    f__law_cup := (let ⟨fd, F⟩ := c1.def_ 29 rfl; ⟨_, fd, F, He.glo_ok X G (c1.fact 72 rfl)⟩)
    f__law_sip := (let ⟨fd, F⟩ := c1.def_ 30 rfl; ⟨_, fd, F, He.glo_ok X G (c1.fact 73 rfl)⟩)
    f__law_labels := (let ⟨fd, F⟩ := c1.def_ 31 rfl; ⟨_, fd, F, He.glo_ok X G (c1.fact 74 rfl)⟩)
    f__law_clause := (let ⟨fd, F⟩ := c1.def_ 32 rfl; ⟨_, fd, F, He.glo_ok X G (c1.fact 75 rfl)⟩)
    f__law_round := (let ⟨fd, F⟩ := c1.def_ 33 rfl; ⟨_, fd, F, He.glo_ok X G (c1.fact 76 rfl)⟩)
    f__law_goal := (let ⟨fd, F⟩ := c1.def_ 34 rfl; ⟨_, fd, F, He.glo_ok X G (c1.fact 77 rfl)⟩)
    f__law_plan := (let ⟨fd, F⟩ := c1.def_ 35 rfl; ⟨_, fd, F, He.glo_ok X G (c1.fact 78 rfl)⟩)
    f__law_good := (let ⟨fd, F⟩ := c1.def_ 36 rfl; ⟨_, fd, F, He.glo_ok X G (c1.fact 79 rfl)⟩)
    f__law_sketch := (let ⟨fd, F⟩ := c1.def_ 37 rfl; ⟨_, fd, F, He.glo_ok X G (c1.fact 80 rfl)⟩)
    f__law_clause_text := (let ⟨fd, F⟩ := c1.def_ 38 rfl; ⟨_, fd, F, He.glo_ok X G (c1.fact 81 rfl)⟩)
    f__law_goal_text := (let ⟨fd, F⟩ := c1.def_ 39 rfl; ⟨_, fd, F, He.glo_ok X G (c1.fact 82 rfl)⟩)
    f__law_parts := (let ⟨fd, F⟩ := c1.def_ 40 rfl; ⟨_, fd, F, He.glo_ok X G (c1.fact 83 rfl)⟩)
    f__law_vol := (let ⟨fd, F⟩ := c1.def_ 41 rfl; ⟨_, fd, F, He.glo_ok X G (c1.fact 84 rfl)⟩)
    f__law_due := (let ⟨fd, F⟩ := c1.def_ 42 rfl; ⟨_, fd, F, He.glo_ok X G (c1.fact 85 rfl)⟩)
    f__law_below := (let ⟨fd, F⟩ := c1.def_ 43 rfl; ⟨_, fd, F, He.glo_ok X G (c1.fact 86 rfl)⟩)
    f__law_plain := (let ⟨fd, F⟩ := c1.def_ 44 rfl; ⟨_, fd, F, He.glo_ok X G (c1.fact 87 rfl)⟩)
    f__law_clause_spent := (let ⟨fd, F⟩ := c1.def_ 45 rfl; ⟨_, fd, F, He.glo_ok X G (c1.fact 88 rfl)⟩)
    f__law_spent := (let ⟨fd, F⟩ := c1.def_ 46 rfl; ⟨_, fd, F, He.glo_ok X G (c1.fact 89 rfl)⟩)
    f__law_great := (let ⟨fd, F⟩ := c1.def_ 47 rfl; ⟨_, fd, F, He.glo_ok X G (c1.fact 90 rfl)⟩)
    f__law_right := (let ⟨fd, F⟩ := c1.def_ 48 rfl; ⟨_, fd, F, He.glo_ok X G (c1.fact 91 rfl)⟩)
    f_law := (let ⟨fd, F⟩ := c1.def_ 49 rfl; ⟨_, fd, F, He.glo_ok X G (c1.fact 92 rfl)⟩) }
end JR
/-! J21: all of it put together: the claim. The list of steps is printed by wire (in NOTES.md). -/
namespace JR
open PySem PySem.Spec PyProof.Rows L2
theorem law_all {P : Program} {w : World} {K : PySem.W.Frag} {mg : Str → Option Value} {base : Heap} {CC CB CK : Addr} (T : Tx K mg CC CB CK) {f : Addr} {fd : FuncData} (F : FunD K "law" "law" (defArgs s_law) (defBody s_law) (defScope s_law) [] [] f fd) : FnC (CdG 103) P w K mg base f fd ["_law_cells"] (sp_law K) := by
  have c_is_integer := ok_is_integer (P := P) (w := w) (base := base) T 
  have c_is_between := ok_is_between (P := P) (w := w) (base := base) T c_is_integer
  have c_check_size := ok_check_size (P := P) (w := w) (base := base) T c_is_between
  have c_is_name := ok_is_name (P := P) (w := w) (base := base) T 
  have c_digit_of := ok_digit_of (P := P) (w := w) (base := base) T 
  have c_class_of := ok_class_of (P := P) (w := w) (base := base) T c_digit_of c_is_between
  have c_read_call := ok_read_call (P := P) (w := w) (base := base) T c_class_of c_is_name
  have c_read_clause := ok_read_clause (P := P) (w := w) (base := base) T c_read_call c_class_of c_digit_of c_is_between
  have c_meet := ok_meet (P := P) (w := w) (base := base) T 
  have c_read_clauses := ok_read_clauses (P := P) (w := w) (base := base) T c_read_clause c_meet
  have c_read_round := ok_read_round (P := P) (w := w) (base := base) T c_read_clauses
  have c_read_goal := ok_read_goal (P := P) (w := w) (base := base) T c_digit_of c_is_between
  have c_is_plan := ok_is_plan (P := P) (w := w) (base := base) T c_is_between c_read_goal c_is_name c_read_clauses
  have c_first_invalid := ok_first_invalid (P := P) (w := w) (base := base) T c_is_plan c_read_round
  have c_mkBook := mk_Book (P := P) (w := w) (base := base) T c_first_invalid c_read_clauses
  have c_Book_plan := ok_Book_plan (P := P) (w := w) (base := base) T 
  have c_Book_program := ok_Book_program (P := P) (w := w) (base := base) T 
  have c_Book_goal_of := ok_Book_goal_of (P := P) (w := w) (base := base) T c_read_goal c_Book_plan
  have c_check_book := ok_check_book (P := P) (w := w) (base := base) T 
  have c_check_plan := ok_check_plan (P := P) (w := w) (base := base) T c_Book_plan
  have c_places_between := ok_places_between (P := P) (w := w) (base := base) T 
  have c_deeds_at := ok_deeds_at (P := P) (w := w) (base := base) T c_places_between
  have c_plain_joins := ok_plain_joins (P := P) (w := w) (base := base) T 
  have c_Counter_both := ok_Counter_both (P := P) (w := w) (base := base) T c_Book_plan c_plain_joins c_Book_goal_of c_Book_program c_places_between c_deeds_at
  have c_mkCounter := mk_Counter (P := P) (w := w) (base := base) T 
  have c_joins := ok_joins (P := P) (w := w) (base := base) T c_check_book c_check_plan c_check_size c_Counter_both c_mkCounter
  have c_rounds := ok_rounds (P := P) (w := w) (base := base) T c_check_book c_check_plan c_check_size c_Counter_both c_mkCounter
  have c__law_clause_text := ok__law_clause_text (P := P) (w := w) (base := base) T 
  have c__law_goal_text := ok__law_goal_text (P := P) (w := w) (base := base) T 
  have c__law_parts := ok__law_parts (P := P) (w := w) (base := base) T c__law_clause_text c__law_goal_text
  have c__law_vol := ok__law_vol (P := P) (w := w) (base := base) T c__law_parts c_mkBook
  have c__law_due := ok__law_due (P := P) (w := w) (base := base) T 
  have c__law_below := ok__law_below (P := P) (w := w) (base := base) T 
  have c__law_plain := ok__law_plain (P := P) (w := w) (base := base) T c__law_due
  have c__law_spent := ok__law_spent (P := P) (w := w) (base := base) T c__law_below c__law_plain
  have c__law_cup := ok__law_cup (P := P) (w := w) (base := base) T 
  have c__law_sip := ok__law_sip (P := P) (w := w) (base := base) T 
  have c__law_labels := ok__law_labels (P := P) (w := w) (base := base) T c__law_sip
  have c__law_clause := ok__law_clause (P := P) (w := w) (base := base) T c__law_sip
  have c__law_round := ok__law_round (P := P) (w := w) (base := base) T c__law_sip c__law_clause
  have c__law_goal := ok__law_goal (P := P) (w := w) (base := base) T c__law_sip
  have c__law_plan := ok__law_plan (P := P) (w := w) (base := base) T c__law_sip c__law_goal c__law_round
  have c__law_great := ok__law_great (P := P) (w := w) (base := base) T c__law_sip
  have c__law_good := ok__law_good (P := P) (w := w) (base := base) T c__law_sip
  have c__law_sketch := ok__law_sketch (P := P) (w := w) (base := base) T c__law_labels c__law_sip c__law_good c__law_plan
  have c__law_right := ok__law_right (P := P) (w := w) (base := base) T c__law_sketch c__law_sip c__law_vol c__law_great c__law_spent c_rounds c_joins
  exact law_G T F c__law_right c__law_cup
theorem law_facts {P : Program} {w : World} {K : PySem.W.Frag} {h : Heap} {mg : Str → Option Value} {f : Addr} (X : K.In h) (G : h.Ns mainGlobals mg) (hfa : mg ("law" : Str) = some (.ref f)) (c : obsK K = (He.valD fn, true)) :
    ∃ fd : FuncData, (∀ (s : Shared) (v : Value), BindsTo s fd ⟨[v], []⟩ [("_law_cells", v)]) ∧ ∀ base : Heap, K.In base → base.Ns mainGlobals mg → FnC (CdG 103) P w K mg base f fd ["_law_cells"] (sp_law K) := by
  have T := tx_of X G c
  obtain ⟨f', fd, F, hm⟩ := T.f_law
  have e := hfa.symm.trans hm
  cases e
  have b := FunD.bindsA (ps := ["_law_cells"]) F fun _ _ _ _ _ _ us hl => match us, hl with | [_], _ => rfl
  exact ⟨fd, fun s v => b s [v] rfl, fun base _ _ => law_all T F⟩
end JR
open PySem PySem.W PySem.Calls PyProof.Rows
theorem PySem.Challenge.cw_joinrounds_k38_whole_great_lengths_holds : PySem.Challenge.rw_joinrounds_k38_whole_great_lengths.Holds := by
  w_on; o_law
  refine HandSHeadRun.head_any (r := OpenLaw.row PySem.Challenge.rw_joinrounds_k38_whole_great_lengths) (q := view (OpenLaw.row PySem.Challenge.rw_joinrounds_k38_whole_great_lengths).prog [72]) (H := JR.hk) (ob := JR.ob) (M := 6000) (loose := JR.names) (d := HandSHeadRun.topDef (OpenLaw.row PySem.Challenge.rw_joinrounds_k38_whole_great_lengths).prog 72) (kwd := []) JR.ob_eq
    (by kernel_rfl) (fun s => by kernel_rfl) JR.run (by kernel_rfl) (by kernel_rfl) (by kernel_rfl) (by rfl) (by first | assumption | decide +kernel) (by decide +kernel) ⟨rfl, rfl, rfl, rfl, rfl, by decide +kernel⟩ ?hw ?hc
  case hw => w_witness2
  case hc =>
    refine JR.walkG (l := PySem.Challenge.rw_joinrounds_k38_whole_great_lengths) (k := 103) (x := "_law_cells") rfl (by kernel_rfl) ⟨rfl, by decide, by decide⟩ ?F
    intro w mg fa h Y G hmg0
    obtain ⟨K, KX, c⟩ := Y
    have hmg : mg ("law" : PySem.Str) = some (.ref fa) := by
      have e : (HandSHeadRun.topDef (OpenLaw.row PySem.Challenge.rw_joinrounds_k38_whole_great_lengths).prog 72).name = ("law" : PySem.Str) := by kernel_rfl
      rw [← e]
      exact hmg0
    obtain ⟨fd, hb, hF⟩ := JR.law_facts (P := (PySem.Challenge.rw_joinrounds_k38_whole_great_lengths).prog) (w := w) KX G hmg c
    exact ⟨K, fd, KX, hb, hF⟩
