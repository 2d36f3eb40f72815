import PyProof.Rows.All
import Wide.All
import OpenK.AllK
import Wide.FinOn
import HandS.ForMost
import HandS.ForExc
import HandS.More
import HandS.Star
import HandS.Codes
import HandS.IsInst
import HandS.Walk
import HandS.Zip
import HandS.Style
import HandS.TupAny
import PyProof.ReprRoads
import PyProof.Rows.ReprR
import KE.SortKeyHeap
import PyProof.InstNe
import KE.DataMinMax
import KE.KRevSl
import HandS.ExcInit
import KE.KExcInit
import PyProof.Rows.FactsExc_KeyError
import PyProof.ExcBaseAll.LookupError
import PyProof.ExcBaseAll.OverflowError
import PyProof.ExcBaseAll.ValueError
import KE.KExcIs
import KE.KTryMore
import HandS.TryMany
import HandS.TryOnly
import HandS.ExcIs
import HandS.ExcField
import HandS.Lambda
import KE.KDflt
import KE.KSortKey
import PyProof.Rows.CallKw2
import HandS.SortKw
import KE.KEqDict
import HandS.DictEq
import HandS.HeadHook1
import HandS.HeadHook4
import KE.KStateDown
import HandS.Head0
import HandS.Head1
import HandS.Head2
import HandS.HeadEnd
import Wide.Once
import Lean
import HandS.WordsDict
import PyProof.ReprText
import PyProof.ReprLen
import HandS.HeadWalk
import HandS.EndBits
import PySem.Challenge.RW_curtainsteps_k28_whole_shelves
set_option Elab.async false
set_option linter.all false
set_option maxRecDepth 100000
set_option maxHeartbeats 4000000
namespace K28
section
open PySem Spec PyProof.Rows L2
/-! ### the text by places -/
def top (i : Nat) : Stmt := PySem.Challenge.pw_curtainsteps_k28_whole_shelves.main.body.getD i (.Pass ⟨0, 0, 0, 0⟩)
/-! ### a def of the top, called -/
def HasFn (K : PySem.W.Frag) (mg : Str → Option Value) (x : Str) (st : Stmt) : Prop := ∃ f fd, Fun K x x st f fd ∧ mg x = some (.ref f)
def CalR (P : Program) (w : World) (K : PySem.W.Frag) (mg : Str → Option Value) (base : Heap) (k : Nat) (x : Str) (sp : Sp) : Prop :=
  ∃ f, FnR P w K mg base (L2.CX P w) k f sp ∧ mg x = some (.ref f) ∧ PySem.W.keepIn K (.ref f) = true
/-- the wish of a def about what leaves it -/
theorem px {P : Program} {w : World} {K : PySem.W.Frag} {mg : Str → Option Value} {base : Heap} {N : List Str} {qual : Str} {scope : Scope} {f : Addr} {cd : Value} {A : Around} {outer : List Env} {s : Shared} {H : Hp} {E : XK} :
    Passes (L2.CX P w) (cxOf (L2.CX P w) P w K mg base N qual scope f cd A outer s H E) E := passes_call (takes_of rfl rfl rfl rfl) (fun _ _ _ _ h => h)
section
variable {P : Program} {w : World} {K : PySem.W.Frag} {mg : Str → Option Value} {base : Heap}
theorem HasFn.ok {x : Str} {st : Stmt} {N ps : List Str} {k : Nat} {sp : Sp} (h : HasFn K mg x st) (S : FnScope N ps (defScope st)) (len : ∀ vs H Q E, sp vs H Q E → vs.length = ps.length)
    (hb : ∀ (kV doc pm : Value) (an : Option Addr) (cdv ct : Value) (us : List Value), us.length = ps.length → bindArgs (PySem.W.fnOf x x (defArgs st) (defBody st) (defScope st) .none kV doc pm an cdv ct) ⟨us, []⟩ = pure (ps.zip us))
    (hbody : ∀ (f : Addr) (cdv : Value) (A : Around) (outer : List Env) (s : Shared) (H : Hp) (vs : List V) (Q : VK) (E : XK), Room k (A.deeper (envOfC x (defScope st) s.heap.objs.size f cdv)) → sp vs H Q E →
      ∃ t, PSs (cxOf (L2.CX P w) P w K mg base N x (defScope st) f cdv A outer s H E) (defBody st) t ∧ t { nx := fun _ H' => Q .non H', rt := Q } (start N vs) H) : CalR P w K mg base (k + 1) x sp := by
  obtain ⟨f, fd, F, hm⟩ := h
  have G : FnOk P w K mg base (L2.CX P w) (k + 1) f fd ps sp := F.okX S len fun cdv A outer s H vs Q E hr hs => hbody f cdv A outer s H vs Q E hr hs
  have R := G.raw (F.binds hb) .nil
  refine ⟨f, R.imp fun vs H Q E q => ?_, hm, F.kp⟩
  rw [List.append_nil]
  exact q
theorem CalR.mono {j k : Nat} {x : Str} {sp : Sp} (h : CalR P w K mg base j x sp) (hk : j ≤ k) : CalR P w K mg base k x sp := by
  obtain ⟨f, F, a, b⟩ := h
  exact ⟨f, F.mono hk, a, b⟩
theorem CalR.imp {k : Nat} {x : Str} {sp sp' : Sp} (h : CalR P w K mg base k x sp) (hi : ∀ vs H Q E, sp' vs H Q E → sp vs H Q E) : CalR P w K mg base k x sp' := by
  obtain ⟨f, F, a, b⟩ := h
  exact ⟨f, F.imp hi, a, b⟩
end
/-- f(e, ..) -/
def tCl (sp : Sp) (E : XK) (t : TA) : TE := fun σ H Q => t σ H fun vs H1 => sp vs H1 Q E
section
variable {X : Cx} {E : XK} {k j : Nat} {sp : Sp} {x : Str} {p pos : Pos} {e : Expr} {es : List Expr} {t : TA}
theorem pe_cr (c : CalR X.prog X.w X.K X.mg X.base k x sp) (hr : Room j X.A) (hx : Passes (L2.CX X.prog X.w) X E) (ha : PA X (e :: es) t) (hk : k ≤ j := by decide) (hg : Gl X x := by rfl)
    (hdb : (x == ("__debug__" : Str)) = false := by decide) (he : starEach (e :: es) X.env = (false, eval e X.env) :: starEach es X.env := by rfl) (hpl : (backTo pos (starEach es X.env)).any (·.1) = false := by rfl) :
    PE X (.Call (.Name x p) (e :: es) [] pos) (tCl sp E t) := by
  obtain ⟨f, F, hm, hkp⟩ := c
  refine ⟨fun pins s σ H Q I h => ?_⟩
  refine wpAny_Call_Name_kw (ld_glob I hg hm ?_ hdb)
  refine PySem.W.callWith_K (h₀ := X.base) I.ok.mod.kin hkp (thn (ha.run pos pins s σ H _ I h) fun us s1 ⟨vs, H1, I1, r, q⟩ => ⟨I1.kIn, ?_⟩) he hpl
  refine wpAny_call (codeAny_mono (F.mono hk X.A X.stack s1 H1 us vs Q E hr I1.env0 r q) fun r s' hq => ?_)
  cases r with
  | error e => exact hx pins σ H1 s1 e s' I1 hq
  | ok fl =>
    cases fl with
    | ret u => exact I1.after hq
    | next => exact False.elim hq
    | brk => exact False.elim hq
    | cont => exact False.elim hq
end
/-! ### the facts of the top -/
structure Glob (mg : Str → Option Value) (x : Str) (v : V) : Prop where
  at_ : ∃ u, mg x = some u ∧ RelV v u
/-- a module's constant -/
theorem pe_k {X : Cx} {x : Str} {v : V} {pos : Pos} (h : Glob X.mg x v) (hg : Gl X x := by rfl) (hd : (x == ("__debug__" : Str)) = false := by decide) : PE X (.Name x pos) (tC v) := by
  obtain ⟨u, hm, r⟩ := h.at_
  exact pe_glob hg hm r hd
/-- a built-in class as a value -/
theorem pe_ty {X : Cx} {x : Str} (n : String) {pos : Pos} (hm : X.mg x = none) (hv : bootBuiltins x = some (.type n)) (hg : Gl X x := by rfl) (hn : x ≠ "__name__" := by decide) (hd : (x == ("__debug__" : Str)) = false := by decide) : PE X (.Name x pos) (tC (.ty n)) :=
  pe_bltn hg hm hv rfl hn hd
/-! ### readings, one step at a time -/
section
variable {D : Ends} {σ : L2.St} {H : Hp} {t u : TS} {te ta tb tc : TE} {i : Nat} {v x y : V} {Q : VK} {c d : TT} {R : Bool → Hp → Prop} {sp : Sp} {E : XK} {tl : TA} {r : R2} {K : PySem.W.Frag}
theorem r_seq (h : t { D with nx := u D } σ H) : tSeq t u D σ H := h
theorem r_next (h : D.nx σ H) : tNext D σ H := h
theorem r_asg {g : TG} (h : te σ H fun x H1 => g x σ H1 D.nx) : tAsg te g D σ H := h
theorem r_gname {Q : L2.St → Hp → Prop} (h : Q (σ.set i (some v)) H) : gName i v σ H Q := h
theorem r_ret (h : te σ H D.rt) : tRet te D σ H := h
theorem r_drop (h : te σ H fun _ H1 => D.nx σ H1) : tDrop te D σ H := h
theorem r_ifs (h : c σ H fun b H1 => if b = true then t D σ H1 else u D σ H1) : tIfS c t u D σ H := h
theorem r_var (e : σ[i]? = some (some v)) (h : Q v H) : tVar i σ H Q := ⟨v, e, h⟩
theorem r_c (h : Q v H) : tC v σ H Q := h
theorem r_op (h : ta σ H fun x H1 => tb σ H1 fun y H2 => r x y H2 Q) : tOp r ta tb σ H Q := h
theorem r_un {ru : V → Hp → VK → Prop} (h : ta σ H fun x H1 => ru x H1 Q) : tUn ru ta σ H Q := h
theorem r_nil {Q : List V → Hp → Prop} (h : Q [] H) : tNil σ H Q := h
theorem r_cons {Q : List V → Hp → Prop} (h : ta σ H fun x H1 => tl σ H1 fun xs H2 => Q (x :: xs) H2) : tCons ta tl σ H Q := h
theorem r_tup (h : tl σ H fun xs H1 => xs.length ≤ sizeLine ∧ ∀ p, H1 p = none → Q (.ref p) (upd H1 p (.tup xs))) : tTup tl σ H Q := h
theorem r_lst (h : tl σ H fun xs H1 => xs.length ≤ sizeLine ∧ ∀ p, H1 p = none → Q (.ref p) (upd H1 p (.lst xs))) : tLst tl σ H Q := h
theorem r_test (h : te σ H fun x H' => ∃ k, x = .bl k ∧ R k H') : tTest te σ H R := h
theorem r_tb (h : te σ H fun x H' => ∃ k, x = .bl k ∧ R k H') : tB te σ H R := h
theorem r_and (h : c σ H fun b H1 => if b = true then d σ H1 R else R false H1) : tAnd c d σ H R := h
theorem r_or (h : c σ H fun b H1 => if b = true then R true H1 else d σ H1 R) : tOr c d σ H R := h
theorem r_not (h : c σ H fun b H1 => R (!b) H1) : tNot c σ H R := h
theorem r_andV (h : ta σ H fun x H1 => ∃ b, x = .bl b ∧ if b = true then tb σ H1 Q else Q (.bl false) H1) : tAndV ta tb σ H Q := h
theorem r_orV (h : ta σ H fun x H1 => ∃ b, x = .bl b ∧ if b = true then Q (.bl true) H1 else tb σ H1 Q) : tOrV ta tb σ H Q := h
theorem r_notV (h : ta σ H fun x H1 => ∃ b, x = .bl b ∧ Q (.bl (!b)) H1) : tNotV ta σ H Q := h
theorem r_if (h : c σ H fun b H1 => if b = true then ta σ H1 Q else tb σ H1 Q) : tIf c ta tb σ H Q := h
theorem r_chain {r r' : R2} (h : ta σ H fun x H1 => tb σ H1 fun y H2 => r x y H2 fun z H3 => ∃ k, z = .bl k ∧ (if k = true then tc σ H3 fun w' H4 => r' y w' H4 Q else Q (.bl false) H3)) : tChain r r' ta tb tc σ H Q := h
theorem r_cl (h : tl σ H fun vs H1 => sp vs H1 Q E) : tCl sp E tl σ H Q := h
theorem r_cb {rc : List V → Hp → VK → Prop} (h : tl σ H fun vs H1 => rc vs H1 Q) : tCB rc tl σ H Q := h
theorem r_bl {b : Bool} {R : Bool → Prop} (h : R b) : ∃ k, V.bl b = .bl k ∧ R k := ⟨b, rfl, h⟩
theorem r_I0 {g : Int → Int → V} {a b : Int} (h : Q (g a b) H) : rI0 g (.int a) (.int b) H Q := ⟨a, b, rfl, rfl, h⟩
theorem r_I {C : Int → Int → Prop} {g : Int → Int → V} {a b : Int} (hc : C a b) (h : Q (g a b) H) : rI C g (.int a) (.int b) H Q := ⟨a, b, rfl, rfl, hc, h⟩
theorem r_eq (hs : scal x y = true) (h : Q (.bl (decide (x = y))) H) : rEq x y H Q := ⟨hs, h⟩
theorem r_ne (hs : scal x y = true) (h : Q (.bl (!decide (x = y))) H) : rNe x y H Q := ⟨hs, h⟩
theorem r_isi {c : V} {tt uu : Value} {b : Bool} (k : ClsV c uu) (ty : TyX K H x tt) (e : PySem.W.kitOne K tt uu = some b) (h : Q (.bl b) H) : rIsi K [x, c] H Q := ⟨x, c, tt, uu, b, rfl, k, ty, e, h⟩
end
theorem ite_t {A B : Prop} {p : Prop} [Decidable p] (hp : p) (h : A) : if decide p = true then A else B := by
  rw [decide_eq_true hp]
  exact iteT h
theorem ite_f {A B : Prop} {p : Prop} [Decidable p] (hp : ¬ p) (h : B) : if decide p = true then A else B := by
  rw [decide_eq_false hp]
  exact iteF h
theorem ite_b {A B : Prop} {b : Bool} (h1 : b = true → A) (h2 : b = false → B) : if b = true then A else B := by
  cases b with
  | true => exact iteT (h1 rfl)
  | false => exact iteF (h2 rfl)
end
section
open PySem Spec PyProof.Rows L2
/-! ### repr of data -/
mutual
inductive Dx (K : PySem.W.Frag) (H : Hp) : V → PyData → Prop
  | non : Dx K H .non .none
  | bl (b : Bool) : Dx K H (.bl b) (.bool b)
  | int (i : Int) : Dx K H (.int i) (.int i)
  | str (x : Str) : Dx K H (.str x) (.str x)
  | lst {a : Addr} {xs : List V} {ds : List PyData} : SqL K H a xs → DxAll K H xs ds → Dx K H (.ref a) (.list ds)
  | tup {a : Addr} {xs : List V} {ds : List PyData} : SqT K H a xs → DxAll K H xs ds → Dx K H (.ref a) (.tuple ds)
  | dct {a : Addr} : H a = some (.dK []) → Dx K H (.ref a) (.dict [])
inductive DxAll (K : PySem.W.Frag) (H : Hp) : List V → List PyData → Prop
  | nil : DxAll K H [] []
  | cons {v : V} {vs : List V} {d : PyData} {ds : List PyData} : Dx K H v d → DxAll K H vs ds → DxAll K H (v :: vs) (d :: ds)
end
section
variable {X : Cx} {pins : List (Addr × Obj)} {σ : L2.St} {H : Hp} {s : Shared}
mutual
theorem Dx.reads (I : Inv X pins σ H s) (hs : ∃ o, X.K.lookup sysModules = some o ∧ o.cls = .type "dict") : ∀ (d : PyData) (v : V) (u : Value), Dx X.K H v d → RelV v u → ∃ as, Reads s.heap u d as ∧ sysModules ∉ as
  | .none, _, _, h, r => by
    cases h
    cases r
    exact ⟨_, Reads.none, by simp⟩
  | .bool b, _, _, h, r => by
    cases h
    cases r
    exact ⟨_, Reads.bool b, by simp⟩
  | .int i, _, _, h, r => by
    cases h
    obtain ⟨t, rfl⟩ := r
    exact ⟨_, Reads.int i t, by simp⟩
  | .str x, _, _, h, r => by
    cases h
    obtain ⟨t, rfl⟩ := r
    exact ⟨_, Reads.str x t, by simp⟩
  | .list ds, _, _, h, r => by
    cases h with
    | lst hl ha =>
      cases r
      obtain ⟨its, rv, ⟨o, n, ho, hc, _, hd⟩, _⟩ := I.list hl
      obtain ⟨as, hr, hn⟩ := Dx.readsAll I hs ds _ its ha rv
      refine ⟨_, Reads.list ho hc hd hr, fun z => ?_⟩
      rcases List.mem_cons.mp z with e | z
      · obtain ⟨o1, e1, c1⟩ := hs
        have e2 := I.kIn _ _ e1
        rw [e, ho] at e2
        rw [← Option.some.inj e2, hc] at c1
        exact absurd c1 (by decide +kernel)
      · exact hn z
  | .tuple ds, _, _, h, r => by
    cases h with
    | tup hl ha =>
      cases r
      obtain ⟨its, rv, ⟨o, ho, hc, n, hd⟩, _⟩ := I.tuple hl
      obtain ⟨as, hr, hn⟩ := Dx.readsAll I hs ds _ its ha rv
      exact ⟨_, Reads.tuple ho hc hd hr, hn⟩
  | .dict [], _, _, h, r => by
    cases h with
    | @dct a hl =>
      cases r
      obtain ⟨_, hsm, vs, kv, o, es, ep, ho, hx, hd, hr⟩ := (show ObjOk X.prog X.w H s.heap _ (.dK []) from I.hok _ _ hl)
      cases kv
      obtain ⟨_, hp, _⟩ := hr
      have e0 : es.toList = [] := List.length_eq_zero_iff.mp (by simpa using hp.length)
      refine ⟨_, Reads.dict ho hx.1 hd (by rw [e0]; exact ReadsAll.nil) (by rw [e0]; exact ReadsAll.nil), fun z => ?_⟩
      have e : sysModules = a := by simpa using z
      rw [← e] at hsm
      exact absurd hsm (by simp)
  | .dict (_ :: _), _, _, h, _ => by cases h
theorem Dx.readsAll (I : Inv X pins σ H s) (hs : ∃ o, X.K.lookup sysModules = some o ∧ o.cls = .type "dict") : ∀ (ds : List PyData) (vs : List V) (us : List Value), DxAll X.K H vs ds → Vals vs us → ∃ as, ReadsAll s.heap us ds as ∧ sysModules ∉ as
  | [], _, _, h, r => by
    cases h
    cases r
    exact ⟨_, ReadsAll.nil, by simp⟩
  | d :: ds, _, _, h, r => by
    cases h with
    | cons h1 h2 =>
      cases r with
      | cons r1 r2 =>
        obtain ⟨as, q1, n1⟩ := Dx.reads I hs d _ _ h1 r1
        obtain ⟨bs, q2, n2⟩ := Dx.readsAll I hs ds _ _ h2 r2
        exact ⟨_, ReadsAll.cons q1 q2, fun z => (List.mem_append.mp z).elim n1 n2⟩
end
end
def rRepr (K : PySem.W.Frag) : List V → Hp → VK → Prop := fun xs H Q => ∃ (a : Addr) (d : PyData), xs = [.ref a] ∧ Dx K H (.ref a) d ∧ d.depth ≤ 64 ∧ d.showable = true ∧ d.shown.length ≤ sizeLine ∧ Q (.str d.shown) H
section
variable {X : Cx}
theorem call_repr (hg : X.A.guards = some []) (hu : X.A.units + 70 < cLine) (hs : ∃ o, X.K.lookup sysModules = some o ∧ o.cls = .type "dict") : CallR X (.builtin "repr") (rRepr X.K) := by
  intro pins s σ H xs us Q I r h
  obtain ⟨a, d, rfl, hd, hz, hw, hl, q⟩ := h
  cases r with
  | cons rx rr =>
    cases rr
    obtain ⟨as, hr, hn⟩ := Dx.reads I hs d _ _ hd rx
    cases rx
    refine repr_of_reads' hr hw (fun _ => hn) hg (by omega) (fun _ _ e => e) (fun h' u tk hk => ?_) hl
    exact ⟨.str d.shown, H, I.kept hk, ⟨_, rfl⟩, q⟩
end
/-! ### get of a written dict with text keys -/
def KGet (K : PySem.W.Frag) (d : Addr) (z : Str) (o : Option V) : Prop := ∃ r, PySem.W.nsIn K d z = some r ∧ RelO o r
def tKGet1 (K : PySem.W.Frag) (d : Addr) (td ty : TE) : TE := fun σ H Q => td σ H fun x H1 => x = .ref d ∧ ty σ H1 fun y H2 => ∃ (z : Str) (o : Option V), y = .str z ∧ KGet K d z o ∧ Q (o.getD .non) H2
def tKGet2 (K : PySem.W.Frag) (d : Addr) (td ty tx : TE) : TE := fun σ H Q => td σ H fun x H1 => x = .ref d ∧ ty σ H1 fun y H2 => tx σ H2 fun t H3 => ∃ (z : Str) (o : Option V), y = .str z ∧ KGet K d z o ∧ Q (o.getD t) H3
section
variable {X : Cx} {o e f : Expr} {apos cpos : Pos} {td ty tx : TE} {d : Addr} {es : Array DictEntry} {n : Nat} {pins : List (Addr × Obj)} {σ : L2.St} {H : Hp} {s : Shared}
theorem kd_nodict (D : KDict X.K X.w d es n) (I : Inv X pins σ H s) : ∀ b, Value.ref d = .ref b → ∃ ob, s.heap.get? b = some ob ∧ ob.dict = none := fun b q => by
  cases q
  exact ⟨_, I.kIn _ _ D.at_, rfl⟩
theorem relO_getD {o : Option V} {r : Option Value} {v : V} {u : Value} (h : RelO o r) (hv : RelV v u) : RelV (o.getD v) (r.getD u) := by
  cases o with
  | none => cases r with
    | none => exact hv
    | some _ => exact h.elim
  | some _ => cases r with
    | none => exact h.elim
    | some _ => exact h
theorem pe_kget1 (D : KDict X.K X.w d es n) (ho : PE X o td) (he : PE X e ty) (m : M1 X o "get" apos e cpos) : PE X (.Call (.Attribute o "get" apos) [e] [] cpos) (tKGet1 X.K d td ty) := by
  refine ⟨fun pins s σ H Q I h => ?_⟩
  refine wpAny_Call_method m.base m.few m.line PySem.F.plainAttrs_dict PySem.F.slot_dict_get PySem.F.type_dict_get (thn (ho.run pins s σ H _ I h) fun u s1 ⟨x, H1, I1, rx, ex, q1⟩ => ?_)
  subst ex
  obtain rfl : u = Value.ref d := rx
  refine ⟨kd_type D I1, kd_nodict D I1, ?_⟩
  rw [m.trees]
  refine Calls.callWith_builtin rfl (Calls.evalArgs_plain (Calls.spliced_cons (thn (he.run pins s1 σ H1 _ I1 q1) fun iv s2 ⟨y, H2, I2, ry, z, ov, ey, ⟨r, e1, e2⟩, q2⟩ => Calls.spliced_nil ?_)))
  subst ey
  obtain ⟨t, rfl⟩ := ry
  refine call_meetsIn PySem.F.slot_dict_get (kd_type D I2) PySem.F.entry_dict_get (PySem.F.args_dict_get_2 _ _) (meets_dict_get (strKind X.prog X.w) d (PySem.strKind_is X.prog X.w z t) D.low) ⟨_, PySem.W.mapOf_K (prog := X.prog) I2.kIn D.at_ D.lit, ?_⟩
  rw [PySem.W.find_K D.at_ e1]
  exact ⟨_, H2, I2.tok _, relO_getD (v := .non) e2 rfl, q2⟩
theorem pe_kget2 (D : KDict X.K X.w d es n) (ho : PE X o td) (he : PE X e ty) (hf : PE X f tx) (m : M2 X o "get" apos e f cpos) : PE X (.Call (.Attribute o "get" apos) [e, f] [] cpos) (tKGet2 X.K d td ty tx) := by
  refine ⟨fun pins s σ H Q I h => ?_⟩
  refine wpAny_Call_method m.base m.few m.line PySem.F.plainAttrs_dict PySem.F.slot_dict_get PySem.F.type_dict_get (thn (ho.run pins s σ H _ I h) fun u s1 ⟨x, H1, I1, rx, ex, q1⟩ => ?_)
  subst ex
  obtain rfl : u = Value.ref d := rx
  refine ⟨kd_type D I1, kd_nodict D I1, ?_⟩
  rw [m.trees]
  refine Calls.callWith_builtin rfl (Calls.evalArgs_plain (Calls.spliced_cons (thn (he.run pins s1 σ H1 _ I1 q1) fun iv s2 ⟨y, H2, I2, ry, q2⟩ =>
    Calls.spliced_cons (thn (hf.run pins s2 σ H2 _ I2 q2) fun fv s3 ⟨tt, H3, I3, rz, z, ov, ey, ⟨r, e1, e2⟩, q3⟩ => Calls.spliced_nil ?_))))
  subst ey
  obtain ⟨t, rfl⟩ := ry
  refine call_meetsIn PySem.F.slot_dict_get (kd_type D I3) PySem.F.entry_dict_get (PySem.F.args_dict_get_3 _ _ _) (meets_dict_get_default (strKind X.prog X.w) d (PySem.strKind_is X.prog X.w z t) D.low fv) ⟨_, PySem.W.mapOf_K (prog := X.prog) I3.kIn D.at_ D.lit, ?_⟩
  rw [PySem.W.find_K D.at_ e1]
  exact ⟨_, H3, I3.tok _, relO_getD e2 rz, q3⟩
end
end
section
open PySem Spec PyProof.Rows L2
/-! ### own special methods of a tracked instance -/
section
variable {X : Cx} {C g : Addr} {n : Nat} {sp : Sp} {E : XK}
theorem inst_of {pins : List (Addr × Obj)} {σ : L2.St} {H : Hp} {s : Shared} {a dx : Addr} {fs : List (Str × V)} (I : Inv X pins σ H s) (h : H a = some (.ins C dx fs)) : ∃ ox od, PySem.W.InstAt s.heap a ox C (some od) := by
  obtain ⟨mA, O, _⟩ := ins_get I.hok h
  obtain ⟨od, J, _⟩ := O.look
  exact ⟨_, od, J⟩
theorem run_below {pins : List (Addr × Obj)} {σ : L2.St} {H : Hp} {s : Shared} {A : Around} {Q : VK} {us : List Value} {ws : List V} (F : FnR X.prog X.w X.K X.mg X.base (L2.CX X.prog X.w) n g sp) (hr : Room n A) (e0 : Env0 X.prog X.w X.K X.mg X.base A X.stack s H)
    (hx : Passes (L2.CX X.prog X.w) X E) (I : Inv X pins σ H s) (r : Vals ws us) (h : sp ws H Q E) : wpAny (model X.prog X.w) A (call (.ref g) us) (EP X pins σ Q) X.xe s := by
  refine wpAny_call (codeAny_mono (F A X.stack s H us ws Q E hr e0 r h) fun r s' hq => ?_)
  cases r with
  | error e => exact hx pins σ H s e s' I hq
  | ok fl =>
    cases fl with
    | ret u => exact I.after hq
    | next => exact False.elim hq
    | brk => exact False.elim hq
    | cont => exact False.elim hq
/-- what the class says of a special method at g -/
structure SpM (K : PySem.W.Frag) (C : Addr) (m : Str) (g : Addr) : Prop where
  at_ : PySem.W.findIn K (.ref C) m = some (some (.ref g))
  fn : PySem.W.isFn K (.ref g) = true
/-- x == y by the own __eq__ (y's class is not below C) -/
def rEqOwn (K : PySem.W.Frag) (C : Addr) (sp : Sp) (E : XK) : R2 := fun x y H Q => ∃ a dx fs t, x = .ref a ∧ H a = some (.ins C dx fs) ∧ TyX K H y t ∧ PySem.W.notFirst K C t = true ∧ sp [x, y] H (fun z H' => ∃ b, z = .bl b ∧ Q (.bl b) H') E
theorem op_eqOwn (m : SpM X.K C "__eq__" g) (F : FnR X.prog X.w X.K X.mg X.base (L2.CX X.prog X.w) n g sp) (hr : Room n X.A) (hx : Passes (L2.CX X.prog X.w) X E) : OpR X (compareOp .Eq) (rEqOwn X.K C sp E) := by
  intro pins s σ H x y v u Q I rx ry h
  obtain ⟨a, dx, fs, t, rfl, ha, ht, hn, q⟩ := h
  cases (show v = Value.ref a from rx)
  obtain ⟨ox, od, J⟩ := inst_of I ha
  obtain ⟨P, Z, p, _⟩ := kit_of I ry ht
  obtain ⟨mm, hF⟩ := I.fr
  show wpAny _ _ (richCompare .Eq (.ref a) u) _ _ _
  refine PySem.W.cmp_K (op := .Eq) (tb := t) hr.units0 hF I.ok.mod.kin J (Z.ty _ _ I.kIn p) hn m.at_ m.fn ?_
  refine wpAny_mono (run_below (ws := [.ref a, y]) F hr I.env0 hx I (.cons rfl (.cons ry .nil)) q) (fun w s' z => ?_) fun _ _ x => x
  obtain ⟨z', H', I', rz, b, ez, qz⟩ := z
  subst ez
  cases rz
  exact ⟨.bl b, H', I', rfl, qz⟩
/-- len(x) -/
def rLenOwn (C : Addr) (sp : Sp) (E : XK) : List V → Hp → VK → Prop := fun xs H Q => ∃ a dx fs, xs = [.ref a] ∧ H a = some (.ins C dx fs) ∧ sp [.ref a] H (fun z H' => ∃ k : Int, z = .int k ∧ 0 ≤ k ∧ k < 2 ^ 63 ∧ Q (.int k) H') E
theorem call_lenOwn (m : SpM X.K C "__len__" g) (F : FnR X.prog X.w X.K X.mg X.base (L2.CX X.prog X.w) n g sp) (hr : Room (n + 1) X.A) (hx : Passes (L2.CX X.prog X.w) X E) : CallR X (.builtin "len") (rLenOwn C sp E) := by
  intro pins s σ H xs us Q I r h
  obtain ⟨a, dx, fs, rfl, ha, q⟩ := h
  obtain ⟨u, rfl, ru⟩ := r.one
  cases (show u = Value.ref a from ru)
  obtain ⟨ox, od, J⟩ := inst_of I ha
  obtain ⟨mm, hF⟩ := I.fr
  refine PySem.W.len_K hF I.ok.mod.kin J m.at_ m.fn ?_
  refine wpAny_mono (run_below (ws := [.ref a]) F hr.in1 I.env0.in1 hx I (.cons rfl .nil) q) (fun w s' z => ?_) fun _ _ x => x
  obtain ⟨z', H', I', rz, k, ez, h0, h1, qz⟩ := z
  subst ez
  obtain ⟨t, e⟩ := (show ∃ t, w = Value.int k t from rz)
  subst e
  exact ⟨⟨h0, h1⟩, .int k, H', I'.tok _, ⟨_, rfl⟩, qz⟩
/-- v in x, v not in x -/
def rInOwn (neg : Bool) (C : Addr) (sp : Sp) (E : XK) : R2 := fun v x H Q => ∃ a dx fs, x = .ref a ∧ H a = some (.ins C dx fs) ∧ sp [.ref a, v] H (fun z H' => ∃ b, z = .bl b ∧ Q (.bl (if neg then !b else b)) H') E
theorem op_inOwn (m : SpM X.K C "__contains__" g) (F : FnR X.prog X.w X.K X.mg X.base (L2.CX X.prog X.w) n g sp) (hr : Room n X.A) (hx : Passes (L2.CX X.prog X.w) X E) : OpR X (compareOp .In) (rInOwn false C sp E) := by
  intro pins s σ H y x u v Q I ry rx h
  obtain ⟨a, dx, fs, rfl, ha, q⟩ := h
  cases (show v = Value.ref a from rx)
  obtain ⟨ox, od, J⟩ := inst_of I ha
  obtain ⟨mm, hF⟩ := I.fr
  refine PySem.W.in_K hF I.ok.mod.kin J m.at_ m.fn ?_
  refine wpAny_mono (run_below (ws := [.ref a, y]) F hr I.env0 hx I (.cons rfl (.cons ry .nil)) q) (fun w s' z => ?_) fun _ _ x => x
  obtain ⟨z', H', I', rz, b, ez, qz⟩ := z
  subst ez
  cases rz
  exact wpAny_truthy_bool ⟨.bl b, H', I', rfl, qz⟩
theorem op_notInOwn (m : SpM X.K C "__contains__" g) (F : FnR X.prog X.w X.K X.mg X.base (L2.CX X.prog X.w) n g sp) (hr : Room n X.A) (hx : Passes (L2.CX X.prog X.w) X E) : OpR X (compareOp .NotIn) (rInOwn true C sp E) := by
  intro pins s σ H y x u v Q I ry rx h
  obtain ⟨a, dx, fs, rfl, ha, q⟩ := h
  cases (show v = Value.ref a from rx)
  obtain ⟨ox, od, J⟩ := inst_of I ha
  obtain ⟨mm, hF⟩ := I.fr
  refine PySem.W.notIn_K hF I.ok.mod.kin J m.at_ m.fn ?_
  refine wpAny_mono (run_below (ws := [.ref a, y]) F hr I.env0 hx I (.cons rfl (.cons ry .nil)) q) (fun w s' z => ?_) fun _ _ x => x
  obtain ⟨z', H', I', rz, b, ez, qz⟩ := z
  subst ez
  cases rz
  exact wpAny_truthy_bool ⟨.bl (!b), H', I', rfl, qz⟩
end
/-! ### x != y where only __eq__ is one's own -/
section
open Builtin
variable {prog : Program} {w : World} {A : Around} {E : Value → Shared → Prop} {s : Shared} {K : PySem.W.Frag} {x C f : Addr} {ox : Obj} {od : Option Obj} {b tb : Value}
theorem ifBoundB {M : Model} {name : Str} {id : String} {args : List Value} {Q : Option Value → Shared → Prop} (X : K.In s.heap) (I : PySem.W.InstAt s.heap x ox C od) (hs : PySem.W.findIn K (.ref C) name = some (some (.builtin id)))
    (hb : ∀ self, bindSpecial (.builtin id) self = pure (.builtin id, [self])) (h : wpAny M A (call (.builtin id) (.ref x :: args)) (fun v => Q (some v)) E s) : wpAny M A (callSpecialIfBound? (.ref x) name args) Q E s := by
  simp only [callSpecialIfBound?, bindSpecialIfBound?]
  refine wpAny_holding (wpAny_bind (wpAny_bind (wpAny_bind (I.type.here ((PySem.W.looks_findIn X hs).here ?_)))))
  dsimp only
  rw [hb]
  refine wpAny_bind (wpAny_askSetting (wpAny_ite ?_))
  have fin : wpAny M A (call (.builtin id) ([.ref x] ++ args) >>= fun v => pure (some v)) Q E s := wpAny_bind (wpAny_mono h (fun v s' h' => wpAny_pure h') fun _ _ h' => h')
  split
  · exact wpAny_bind (wpAny_pure (wpAny_pure (by exact fin)))
  · exact wpAny_tryCatch (wpAny_bind (wpAny_pure (wpAny_pure (by exact fin))))
theorem ne_body (X : K.In s.heap) (I : PySem.W.InstAt s.heap x ox C od) (hs : PySem.W.findIn K (.ref C) "__eq__" = some (some (.ref f))) (hf : PySem.W.isFn K (.ref f) = true) (hu : A.units < cLine) {Q : Fin → Shared → Prop}
    (hcall : wpAny (model prog w) A (call (.ref f) [.ref x, b]) (fun v s' => ∃ k, v = .bool k ∧ Q (.done (.ret (.bool (!k)))) s') E s) :
    wpAny (model prog w) A (Builtin.«object.__ne__» ⟨[.ref x, b], []⟩) Q E s := by
  unfold Builtin.«object.__ne__»
  repeat (first
    | with_reducible refine wpAny_cRoomFor hu ?_
    | (refine wpAny_bind (m := callSpecialIfBound? (.ref x) (Str.ofString "__eq__") [b])
        (PySem.W.ifBound_K X I hs hf (wpAny_mono hcall (fun r s' hr => by
          obtain ⟨k, rfl, hq⟩ := hr
          repeat (first | exact hq | exact wpAny_pure hq | exact wpAny_truthy_bool hq | (refine wpAny_bind (m := truthy (.bool _)) (wpAny_truthy_bool ?_)) | wp_step)) fun _ _ e => e)))
    | wp_step)
theorem ne_own {Q : Value → Shared → Prop} (X : K.In s.heap) (I : PySem.W.InstAt s.heap x ox C od) (hn : PySem.W.findIn K (.ref C) "__ne__" = some (some (.builtin "object.__ne__"))) (hm : PySem.W.mroIn K C (.type "object") = some true)
    (hs : PySem.W.findIn K (.ref C) "__eq__" = some (some (.ref f))) (hf : PySem.W.isFn K (.ref f) = true) (ht : PySem.W.Looks (model prog w) s.heap (typeOf b) tb) (hq : PySem.W.notFirst K C tb = true) (hu : A.units + 1 < cLine)
    (hcall : wpAny (model prog w) A.in1 (call (.ref f) [.ref x, b]) (fun v s' => ∃ k, v = .bool k ∧ Q (.bool (!k)) s') E s) :
    wpAny (model prog w) A (richCompare .NotEq (.ref x) b) Q E s := by
  have FB := PySem.F.cmp_object
  have one : wpAny (model prog w) A (tryCompare (.ref x) "__ne__" b) (fun r s' => ∃ v, r = some v ∧ Q v s') E s := by
    unfold tryCompare
    refine wpAny_bind (ifBoundB X I hn FB.ne.bind (wpAny_call (codeAny_call_builtin FB.ne.plain F.cmpEntry_ne ?_)))
    obtain ⟨hp, g, d, tk, os⟩ := s
    refine @PySem.W.check_slot (model prog w) _ _ ⟨hp, g, d, tk, os⟩ "object.__ne__" "object" "__ne__" (.ref x) [b] [] _ F.cmpKind_ne F.cmpSplit_ne (I.type.andThen (PySem.W.looks_mroIn X hm)) (F.cmpArgs_ne _ _) ?_
    refine ne_body (A := A.in1) X I hs hf hu (wpAny_mono hcall (fun v s' hv => ?_) fun _ _ e => e)
    obtain ⟨k, rfl, hq⟩ := hv
    first | exact ⟨k, rfl, wpAny_pure ⟨_, rfl, hq⟩⟩ | exact ⟨k, rfl, wpAny_pure (wpAny_pure ⟨_, rfl, hq⟩)⟩ | exact ⟨k, rfl, ⟨_, rfl, hq⟩⟩
  unfold richCompare
  simp only [oneThing_ref]
  refine wpAny_holding (wpAny_bind (wpAny_cRoomFor (by omega) ?_))
  rw [cmpInfo_NotEq]
  dsimp only
  refine wpAny_bind (I.type.here (wpAny_bind (ht.here ?_)))
  split
  · rename_i q
    have e : PySem.W.subIn K tb (.ref C) = some false := by
      rcases Bool.or_eq_true_iff.mp hq with e | e
      · rw [beq_iff_eq.mp e] at q; simp at q
      · exact beq_iff_eq.mp e
    refine wpAny_bind ((PySem.W.looks_subIn X e).here ?_)
    simp only [Bool.false_eq_true, if_false]
    refine wpAny_bind (wpAny_mono one (fun r s' z => ?_) fun _ _ e => e)
    obtain ⟨v, rfl, hq⟩ := z
    exact wpAny_pure hq
  · refine wpAny_bind (wpAny_pure ?_)
    simp only [Bool.false_eq_true, if_false]
    refine wpAny_bind (wpAny_mono one (fun r s' z => ?_) fun _ _ e => e)
    obtain ⟨v, rfl, hq⟩ := z
    exact wpAny_pure hq
end
section
variable {X : Cx} {C g : Addr} {n : Nat} {sp : Sp} {E : XK}
def rNeOwn (K : PySem.W.Frag) (C : Addr) (sp : Sp) (E : XK) : R2 := fun x y H Q => ∃ a dx fs t, x = .ref a ∧ H a = some (.ins C dx fs) ∧ TyX K H y t ∧ PySem.W.notFirst K C t = true ∧ sp [x, y] H (fun z H' => ∃ b, z = .bl b ∧ Q (.bl (!b)) H') E
theorem op_neOwn (m : SpM X.K C "__eq__" g) (hne : PySem.W.findIn X.K (.ref C) "__ne__" = some (some (.builtin "object.__ne__"))) (hm : PySem.W.mroIn X.K C (.type "object") = some true)
    (F : FnR X.prog X.w X.K X.mg X.base (L2.CX X.prog X.w) n g sp) (hr : Room (n + 1) X.A) (hx : Passes (L2.CX X.prog X.w) X E) : OpR X (compareOp .NotEq) (rNeOwn X.K C sp E) := by
  intro pins s σ H x y v u Q I rx ry h
  obtain ⟨a, dx, fs, t, rfl, ha, ht, hn, q⟩ := h
  cases (show v = Value.ref a from rx)
  obtain ⟨ox, od, J⟩ := inst_of I ha
  obtain ⟨P, Z, p, _⟩ := kit_of I ry ht
  show wpAny _ _ (richCompare .NotEq (.ref a) u) _ _ _
  refine ne_own I.kIn J hne hm m.at_ m.fn (Z.ty _ _ I.kIn p) hn (by have := hr.units; omega) ?_
  refine wpAny_mono (run_below (ws := [.ref a, y]) F hr.in1 I.env0.in1 hx I (.cons rfl (.cons ry .nil)) q) (fun w s' z => ?_) fun _ _ x => x
  obtain ⟨z', H', I', rz, b, ez, qz⟩ := z
  subst ez
  cases rz
  exact ⟨b, rfl, .bl (!b), H', I', rfl, qz⟩
end
end
section
open PySem Spec PyProof.Rows L2
/-! ### t[::-1] of a tuple -/
section
variable {prog : Program} {w : World} {A : Around} {E : Value → Shared → Prop} {s : Shared}
theorem rev_applied {sl : Addr} {tk : Tok} {n : Nat} {Q : Int × Int × Nat → Shared → Prop} (hs : s.heap.IsSliceOf sl .none .none (.int (-1) tk))
    (h : Q ((n : Int) - 1, -1, n) s) : wpAny (model prog w) A (Builtin.Slice.sliceApplied (.ref sl) (pure (n : Int))) Q E s := by
  obtain ⟨os, hos, hcs, hds⟩ := id hs
  unfold Builtin.Slice.sliceApplied Builtin.Slice.sliceFields
  refine wpAny_bind (wpAny_bind (wpAny_field hos hds (x := .none) rfl (wpAny_bind (wpAny_field hos hds (x := .none) rfl (wpAny_bind (wpAny_field hos hds (x := .int (-1) tk) rfl (wpAny_pure ?_)))))))
  refine wpAny_bind (slicePart_int ?_)
  show wpAny _ _ (if ((-1 : Int) == 0) = true then _ else _) _ _ s
  rw [if_neg (by decide)]
  refine wpAny_bind (slicePart_none (wpAny_bind (slicePart_none (wpAny_bind (wpAny_pure ?_)))))
  show wpAny _ _ (match Builtin.Slice.sliceAdjust none none (-1) (n : Int) with | (lo, hi) => pure (lo, (-1 : Int), Builtin.Slice.slicePlaces lo hi (-1))) _ _ s
  have e1 : Builtin.Slice.sliceAdjust none none (-1) (n : Int) = ((n : Int) - 1, -1) := by
    unfold Builtin.Slice.sliceAdjust
    simp
  have e2 : Builtin.Slice.slicePlaces ((n : Int) - 1) (-1) (-1) = n := by
    unfold Builtin.Slice.slicePlaces
    have h1 : ¬ (-1 : Int) > 0 := by omega
    simp only [h1, if_false]
    by_cases hn : (n : Int) - 1 > -1
    · rw [if_pos hn]
      have : -(-1 : Int) = 1 := by omega
      rw [this, Int.ediv_one]
      omega
    · rw [if_neg hn]
      omega
  rw [e1]
  show wpAny _ _ (pure ((n : Int) - 1, (-1 : Int), Builtin.Slice.slicePlaces ((n : Int) - 1) (-1) (-1))) _ _ s
  rw [e2]
  exact wpAny_pure h
theorem rev_pick (xs : Array Value) : ((List.range xs.size).filterMap fun (k : Nat) => xs[(((xs.size : Int) - 1) + (k : Int) * (-1)).toNat]?).toArray = xs.toList.reverse.toArray := by
  have e : (List.range xs.size).filterMap (fun (k : Nat) => xs[(((xs.size : Int) - 1) + (k : Int) * (-1)).toNat]?) = xs.toList.reverse := by
    have e1 : (List.range xs.size).filterMap (fun (k : Nat) => xs[(((xs.size : Int) - 1) + (k : Int) * (-1)).toNat]?) = (List.range xs.size).filterMap (fun k => xs[xs.size - 1 - k]?) :=
      congrArg (fun f => (List.range xs.size).filterMap f) (funext fun k => by
        have : (((xs.size : Int) - 1) + (k : Int) * (-1)).toNat = xs.size - 1 - k := by omega
        rw [this])
    rw [e1]
    have e2 : (List.range xs.size).filterMap (fun k => xs[xs.size - 1 - k]?) = ((List.range xs.size).map fun k => xs.size - 1 - k).filterMap (xs[·]?) := by
      rw [List.filterMap_map]
      rfl
    rw [e2, PySem.W.krv_range, List.filterMap_reverse, PySem.W.krv_all]
  rw [e]
theorem getItem_tup_rev {t sl : Addr} {items : Array Value} {tk : Tok} {Q : Value → Shared → Prop} (ht : IsTup s.heap t items) (hs : s.heap.IsSliceOf sl .none .none (.int (-1) tk))
    (h : Q (.ref s.heap.objs.size) { s with heap := s.heap.push { cls := .type "tuple", data := .seq items.toList.reverse.toArray } }) (hsz : items.size ≤ sizeLine) : wpAny (model prog w) A (getItem (.ref t) (.ref sl)) Q E s := by
  have htake : sizeOk (.seq items.toList.reverse.toArray) := by
    show items.toList.reverse.toArray.size ≤ sizeLine
    rw [List.size_toArray, List.length_reverse, Array.length_toList]
    exact hsz
  obtain ⟨os, hos, hcs, hds⟩ := id hs
  have hTs : s.TypeIs (.ref sl) "slice" := ⟨os, hos, hcs⟩
  unfold getItem
  try with_reducible refine wpAny_holding ?_
  first | refine wpAny_bind (wpAny_pure ?_) | skip
  refine wpAny_bind (wpAny_sequenceKey ht.typeIs (by decide) ?_)
  refine wpAny_bind (wpAny_callSpecial?_slot (name := Str.ofString "__getitem__") ht.typeIs PyProof.Rows.slot_tuple_getitem
    (wpAny_call_entry PyProof.Rows.slot_tuple_getitem ht.typeIs entry_tuple_getitem ?_ (args_tuple_getitem _ _)))
  show wpAny _ _ (Builtin.Tuple.tupleItemsOf (.ref t) >>= _) _ _ s
  refine wpAny_bind (PyProof.Rows.tupleItemsOf_ ht ?_)
  refine wpAny_bind (wpAny_typeOf hTs ?_)
  rw [if_pos (by decide)]
  refine wpAny_bind (rev_applied hs ?_)
  have hno : ¬ ((((items.size : Int) - 1) == 0 && (-1 : Int) == 1 && items.size == items.size) = true) := by
    intro q
    rw [Bool.and_eq_true, Bool.and_eq_true] at q
    exact absurd q.1.2 (by decide)
  show wpAny _ _ (if (((items.size : Int) - 1) == 0 && (-1 : Int) == 1 && items.size == items.size) = true then _ else _) _ _ s
  rw [if_neg hno, rev_pick]
  first
    | exact wpAny_bind (m := Builtin.Tuple.tupleExact _) (wpAny_newObj_type (wpAny_pure ⟨_, rfl, wpAny_pure h⟩) htake)
    | exact wpAny_bind (m := Builtin.Tuple.tupleExact _) (wpAny_newObj_type (wpAny_bind (wpAny_pure (wpAny_pure ⟨_, rfl, wpAny_pure h⟩))) htake)
    | exact wpAny_bind (wpAny_bind (m := Builtin.Tuple.tupleExact _) (wpAny_newObj_type (wpAny_pure (wpAny_pure ⟨_, rfl, wpAny_pure h⟩)) htake))
    | exact wpAny_bind (wpAny_bind (m := Builtin.Tuple.tupleExact _) (wpAny_newObj_type (wpAny_pure ⟨_, rfl, wpAny_pure h⟩) htake))
end
section
variable {X : Cx}
def tRevT (K : PySem.W.Frag) (te : TE) : TE := fun σ H Q => te σ H fun x H1 => ∃ a xs, x = .ref a ∧ SqT K H1 a xs ∧ ∀ p, H1 p = none → Q (.ref p) (upd H1 p (.tup xs.reverse))
theorem pe_revT {e : Expr} {te : TE} {k : Nat} {p1 p2 p3 pos : Pos} (he : PE X e te) : PE X (.Subscript e (.Slice none none (some (.UnaryOp .USub (.Constant (.int 1) k p1) p2)) p3) pos) (tRevT X.K te) := by
  refine ⟨fun pins s σ H Q I h => ?_⟩
  refine Subscript_ (thn (he.run pins s σ H _ I h) fun v s1 ⟨x, H1, I1, r1, q1⟩ => ?_)
  obtain ⟨a, xs, ex, hx, q⟩ := q1
  subst ex
  cases r1
  have hst : PO X (some (.UnaryOp .USub (.Constant (.int 1) k p1) p2)) (tPart (tUn (rU fun i => .int (-i)) (tC (.int 1)))) := po_some (pe_un un_neg pe_int)
  refine wpAny_Slice (thn (po_none.run pins s1 σ H1 (fun o H2 => o = none ∧ H2 = H1) I1 ⟨rfl, rfl⟩) fun vl s2 ⟨l, H2, I2, pl, el, e2⟩ => ?_)
  subst el e2
  refine thn (po_none.run pins s2 σ H2 (fun o H3 => o = none ∧ H3 = H2) I2 ⟨rfl, rfl⟩) fun vu s3 ⟨u, H3, I3, pu, eu, e3⟩ => ?_
  subst eu e3
  refine thn (hst.run pins s3 σ H3 (fun o H4 => o = some (-1) ∧ H4 = H3) I3 ⟨1, rfl, -1, rfl, rfl, rfl⟩) fun vs s4 ⟨o, H4, I4, ps, eo, e4⟩ => ?_
  subst eo e4
  cases pl
  cases pu
  cases ps with
  | int _ tk =>
  have I5 : Inv X pins σ H4 { s4 with heap := s4.heap.push { cls := .type "slice", data := .fields #[.none, .none, .int (-1) tk] } } := I4.kept (t' := s4.toks) fun b ob q => Heap.get?_push_of_some _ q
  obtain ⟨its, r, ht, hz⟩ := I5.tuple hx
  have hlen := r.length
  show wpAny (model X.prog X.w) X.A (subscriptTail e (.Slice none none (some (.UnaryOp .USub (.Constant (.int 1) k p1) p2)) p3) (.ref a) (.ref s4.heap.objs.size)) (EP X pins σ Q) X.xe { s4 with heap := s4.heap.push { cls := .type "slice", data := .fields #[.none, .none, .int (-1) tk] } }
  refine tail_any (ops := [.ref a, .ref s4.heap.objs.size]) ht.typeIs PyProof.Rows.slot_tuple_getitem.lookup ?_ (by with_unfolding_all rfl)
  refine getItem_tup_rev ht (Heap.IsSliceOf.new _ .none .none (.int (-1) tk)) ?_ (by rw [List.size_toArray]; omega)
  refine ⟨.ref _, _, I5.laid (t' := s4.toks) (o := .tup xs.reverse) (fun b ob q => Heap.get?_push_of_some _ q) (Nat.le_refl _) ?_, rfl, q _ (I5.hok.fresh (Nat.le_refl _))⟩
  exact ⟨by rw [List.length_reverse]; exact hz, _, r.reverse, IsTup.new _ _⟩
end
/-! ### min, max of a tuple of ints -/
theorem alike_ints : ∀ (ns ms : List Int), ∀ x ∈ ns.map PyData.int, ∀ y ∈ ms.map PyData.int, PySem.W.alike x y = true := by
  intro ns ms x hx y hy
  obtain ⟨i, _, rfl⟩ := List.mem_map.mp hx
  obtain ⟨j, _, rfl⟩ := List.mem_map.mp hy
  simp [PySem.W.alike]
theorem reads_ints {h : Heap} : ∀ {ns : List Int} {us : List Value}, Vals (ns.map V.int) us → ReadsAll h us (ns.map PyData.int) []
  | [], _, r => by
    cases r
    exact .nil
  | n :: ns, _, r => by
    cases r with
    | cons r1 r2 =>
      obtain ⟨t, rfl⟩ := r1
      exact ReadsAll.cons (.int n t) (reads_ints r2)
theorem depth_ints : ∀ ns : List Int, PyData.depthAll (ns.map PyData.int) ≤ 1
  | [] => by simp [PyData.depthAll]
  | n :: ns => by
    have := depth_ints ns
    simp only [List.map_cons, PyData.depthAll, PyData.depth]
    omega
def rMinT (K : PySem.W.Frag) : List V → Hp → VK → Prop := fun vs H Q => ∃ (a : Addr) (n : Int) (ns : List Int), vs = [V.ref a] ∧ SqT K H a ((n :: ns).map V.int) ∧ Q (.int (ns.foldl min n)) H
def rMaxT (K : PySem.W.Frag) : List V → Hp → VK → Prop := fun vs H Q => ∃ (a : Addr) (n : Int) (ns : List Int), vs = [V.ref a] ∧ SqT K H a ((n :: ns).map V.int) ∧ Q (.int (ns.foldl max n)) H
section
variable {X : Cx}
theorem cr_minT (hc : X.calm = true) (hu : X.A.units + 64 < cLine) : CallR X (.builtin "min") (rMinT X.K) := by
  intro pins s σ H vs us Q I r h
  obtain ⟨a, n, ns, rfl, hs, q⟩ := h
  obtain ⟨its, rv, hl, _⟩ := I.tuple hs
  rw [Vals.ref1 r]
  have hr : ReadsAll s.heap its.toArray.toList (PyData.int n :: ns.map PyData.int) [] := reads_ints (ns := n :: ns) rv
  have hd := depth_ints (n :: ns)
  obtain ⟨o, ho, hc', nn, hd'⟩ := hl
  refine PySem.W.min_tuple_data (I.ok.hd hc) ⟨o, ho, hc', nn, hd'⟩ hr ⟨alike_ints (n :: ns) (n :: ns), fun x hx e => ?_⟩ (by simp only [List.map_cons] at hd; omega) fun i v h' tk bs _ hv hk => ?_
  · subst e
    simp at hx
  · rw [PySem.W.minD_ints] at hv
    cases hv
    exact ⟨.int _, H, I.kept hk, ⟨_, rfl⟩, q⟩
theorem cr_maxT (hc : X.calm = true) (hu : X.A.units + 64 < cLine) : CallR X (.builtin "max") (rMaxT X.K) := by
  intro pins s σ H vs us Q I r h
  obtain ⟨a, n, ns, rfl, hs, q⟩ := h
  obtain ⟨its, rv, hl, _⟩ := I.tuple hs
  rw [Vals.ref1 r]
  have hr : ReadsAll s.heap its.toArray.toList (PyData.int n :: ns.map PyData.int) [] := reads_ints (ns := n :: ns) rv
  have hd := depth_ints (n :: ns)
  obtain ⟨o, ho, hc', nn, hd'⟩ := hl
  refine PySem.W.max_tuple_data (I.ok.hd hc) ⟨o, ho, hc', nn, hd'⟩ hr ⟨alike_ints (n :: ns) (n :: ns), fun x hx e => ?_⟩ (by simp only [List.map_cons] at hd; omega) fun i v h' tk bs _ hv hk => ?_
  · subst e
    simp at hx
  · rw [PySem.W.maxD_ints] at hv
    cases hv
    exact ⟨.int _, H, I.kept hk, ⟨_, rfl⟩, q⟩
end
/-! ### zip of two tuples -/
section
variable {K : PySem.W.Frag} {a b : Addr} {xs ys : List V}
theorem walk_zipT {n : Nat} (hn : n = min xs.length ys.length) : Walk (RZ.ItzT K a b) n (fun H => SqT K H a xs ∧ SqT K H b ys) (YPair (fun i => xs[i]?) (fun i => ys[i]?)) := by
  subst hn
  refine ⟨fun i _ hi q => ?_, fun _ q => ⟨xs, ys, q.1, q.2, by omega⟩, fun i H v H' _ q y => ?_⟩
  · have h1 : i < xs.length := by omega
    have h2 : i < ys.length := by omega
    exact ⟨xs, ys, xs[i], ys[i], q.1, q.2, by simp [h1], by simp [h2]⟩
  · obtain ⟨T, x, z, h1, h2, h3, h4, h5⟩ := y
    exact ⟨T, x, z, h1, h2, h3, h4 xs q.1, h5 ys q.2⟩
end
end
section
open PySem Spec PyProof.Rows L2
/-! ### own exception classes over ValueError, KeyError, OverflowError: made, stored into -/
/-- own classes, then the tail tl -/
def refsT (tl : List Value) : List Value → Bool
  | .ref _ :: r => refsT tl r
  | l => decide (l = tl)
theorem refsT_cases (tl : List Value) : ∀ l : List Value, refsT tl l = true → (∃ c r, l = .ref c :: r ∧ refsT tl r = true) ∨ l = tl := fun l e => by
  unfold refsT at e
  split at e
  · rename_i c r
    exact .inl ⟨c, r, rfl, e⟩
  · exact .inr (of_decide_eq_true e)
theorem refsT_pass {tl : List Value} (self : Value) (hp : refuseLoop self "__setattr__" tl = pure ()) : ∀ l : List Value, refsT tl l = true → refuseLoop self "__setattr__" l = pure () := by
  intro l
  induction l with
  | nil => intro e; rcases refsT_cases tl [] e with ⟨c, r, q, _⟩ | q
           · cases q
           · rw [q]; exact hp
  | cons a r ih =>
    intro e
    rcases refsT_cases tl (a :: r) e with ⟨c, r', q, h⟩ | q
    · obtain ⟨q1, q2⟩ := List.cons.inj q
      subst q1 q2
      rw [refuseLoop_ref, ih h]
    · rw [q]; exact hp
theorem refsT_has {tl : List Value} (X : String) : ∀ l : List Value, refsT tl l = true → l.contains (.type X) = tl.contains (.type X) := by
  intro l
  induction l with
  | nil => intro e; rcases refsT_cases tl [] e with ⟨c, r, q, _⟩ | q
           · cases q
           · rw [q]
  | cons a r ih =>
    intro e
    rcases refsT_cases tl (a :: r) e with ⟨c, r', q, h⟩ | q
    · obtain ⟨q1, q2⟩ := List.cons.inj q
      subst q1 q2
      rw [List.contains_cons, ih h]; rfl
    · rw [q]
def tlVE : List Value := [.type "ValueError", .type "Exception", .type "BaseException", .type "object"]
def tlKE : List Value := [.type "KeyError", .type "LookupError", .type "Exception", .type "BaseException", .type "object"]
def tlOE : List Value := [.type "OverflowError", .type "ArithmeticError", .type "Exception", .type "BaseException", .type "object"]
/-- what the making leans on -/
structure NewG (tl : List Value) (newId : String) : Prop where
  nw : ∃ B initId bmB, ExcBaseFacts B newId initId bmB ∧ tl.contains (.type B) = true
  nA : tl.contains (.type "AttributeError") = false
  nN : tl.contains (.type "NameError") = false
  ob : tl.contains (.type "object") = true
  ps : ∀ self : Value, refuseLoop self "__setattr__" tl = pure ()
theorem newVE : NewG tlVE "ValueError.__new__" := ⟨⟨_, _, _, F.excBase_ValueError, by decide +kernel⟩, by decide +kernel, by decide +kernel, by decide +kernel, F.store_ValueError.passes⟩
theorem newOE : NewG tlOE "OverflowError.__new__" := ⟨⟨_, _, _, F.excBase_OverflowError, by decide +kernel⟩, by decide +kernel, by decide +kernel, by decide +kernel, F.store_OverflowError.passes⟩
theorem newKE : NewG tlKE "LookupError.__new__" := ⟨⟨_, _, _, F.excBase_LookupError, by decide +kernel⟩, by decide +kernel, by decide +kernel, by decide +kernel, fun self => by kernel_rfl⟩
/-- what the built-in __init__ leans on -/
structure InitG (tl : List Value) (initId : String) : Prop where
  it : ∃ B, tl.contains (.type B) = true ∧ (B != "*") = true ∧ builtinKind initId = some .slot ∧ splitId initId = some (B, "__init__") ∧ Manifest.signature? initId = some ⟨.positional, "*", B, .self, [⟨"args", .varPos, false⟩]⟩ ∧ Slot B "__init__" initId ∧ entryFor table initId = some Builtin.«BaseException.__init__»
theorem initVE : InitG tlVE "ValueError.__init__" := ⟨⟨_, by decide +kernel, F.excBase_ValueError.noStar, F.excBase_ValueError.initKind, F.excBase_ValueError.initSplit, F.excBase_ValueError.initRow, F.excBase_ValueError.init, F.excBase_ValueError.initEntry⟩⟩
theorem initOE : InitG tlOE "OverflowError.__init__" := ⟨⟨_, by decide +kernel, F.excBase_OverflowError.noStar, F.excBase_OverflowError.initKind, F.excBase_OverflowError.initSplit, F.excBase_OverflowError.initRow, F.excBase_OverflowError.init, F.excBase_OverflowError.initEntry⟩⟩
theorem initKE : InitG tlKE "KeyError.__init__" := ⟨⟨_, by decide +kernel, excClass_KeyError.notStar, excClass_KeyError.initKind, excClass_KeyError.initSplit, by kernel_rfl, excClass_KeyError.init, excClass_KeyError.initEntry⟩⟩
section
open Builtin Builtin.ObjectAttr
variable {M : Model} {prog : Program} {w : World} {A : Around} {E : Value → Shared → Prop} {R : Result → Shared → Prop} {hp : Heap} {gs : Array GenState} {dr : Drawn} {tk : Nat} {os : OsState}
variable {nm qn : Str} {C nsA : Addr} {bs bm bmB : List Value} {hdct : Bool} {sn : List Str} {sub : List Value} {ab : Bool} {col : Option Bool} {dd : Option Addr} {k0 k1 k2 k3 k5 : Option Value} {B newId initId : String}
theorem g_check_new (F : ExcBaseFacts B newId initId bmB) (hb : bm.contains (.type B) = true) {rest : List Value} {Q : Unit → Shared → Prop} (kC : hp.get? C = some (excClassObj nm qn C nsA bs bm hdct sn sub ab col dd k0 k1 k2 k3 k5 newId)) (hq : Q () ⟨hp, gs, dr, tk, os⟩) :
    wpAny M A (checkBuiltinCall newId ⟨.ref C :: rest, []⟩) Q E ⟨hp, gs, dr, tk, os⟩ := by
  have kB : (Value.ref C :: bm).contains (.type B) = true := by rw [List.contains_cons, hb, Bool.or_true]
  have kS := F.noStar
  simp only [F.newKind, F.newSplit, F.newRow, checkBuiltinCall]
  repeat (first | refine wpAny_loadPart_at kC ?_ | (refine wpAny_isSubtype_exc kC ?_; rw [kB]) | refine wpAny_staticBase_exc kC ?_ | refine wpAny_madeBy_exc kC ?_ | simp only [bne_self_eq_false, Bool.false_eq_true, if_false] | wp_step)
  exact hq
theorem g_new (F : ExcBaseFacts B newId initId bmB) (hb : bm.contains (.type B) = true) (hA : bm.contains (.type "AttributeError") = false) (hN : bm.contains (.type "NameError") = false) {rest : List Value} (kC : hp.get? C = some (excClassObj nm qn C nsA bs bm hdct sn sub ab col dd k0 k1 k2 k3 k5 newId))
    (hq : R (.ok (.ret (.ref (hp.objs.size + 1)))) ⟨(hp.push (W.kdv_tup rest)).push (HandSPX.excO C hp.objs.size), gs, dr, tk, os⟩) (hl : rest.length ≤ sizeLine) :
    codeAny (model prog w) A (.builtin newId ⟨.ref C :: rest, []⟩) R ⟨hp, gs, dr, tk, os⟩ := by
  have kE := F.ends
  have kB : (Value.ref C :: bm).contains (.type B) = true := by rw [List.contains_cons, hb, Bool.or_true]
  have kA : (Value.ref C :: bm).contains (.type "AttributeError") = false := by rw [List.contains_cons, hA]; rfl
  have kN : (Value.ref C :: bm).contains (.type "NameError") = false := by rw [List.contains_cons, hN]; rfl
  refine codeAny_builtinAt F.entry ?_
  unfold Builtin.«BaseException.__new__»
  refine PySem.wpAt_bind ?_
  show PySem.wpAt _ _ _ (stack >>= _) _ _ _
  refine PySem.wpAt_bind (PySem.wpAt_stack fun p below => PySem.wpAt_of_wpAny ?_)
  wp_walk
  refine PySem.wpAt_of_wpAny ?_
  rw [F.owner]
  repeat (first | with_reducible refine wpAny_madeHere_exc F.canon kC ?_ | with_reducible refine wpAny_loadPart_at kC ?_ | (with_reducible refine wpAny_isSubtype_exc kC ?_; first | rw [kB] | rw [kA] | rw [kN]) | wp_step)
  show R _ _
  rw [Heap.size_push]
  exact hq
theorem g_tcall (F : ExcBaseFacts B newId initId bmB) (hb : bm.contains (.type B) = true) (hA : bm.contains (.type "AttributeError") = false) (hN : bm.contains (.type "NameError") = false) {rest : List Value} {fI : Addr} {Q : Fin → Shared → Prop}
    (kC : hp.get? C = some (excClassObj nm qn C nsA bs bm hdct sn sub ab col dd k0 k1 k2 k3 k5 newId)) (hi : W.Looks (model prog w) hp (typeLookup (.ref C) "__init__") (some (.ref fI)))
    (hbd : ∀ self, W.Looks (model prog w) hp (bindSpecial (.ref fI) self) (.ref fI, [self])) (hl : rest.length ≤ sizeLine)
    (hq : codeAny (model prog w) A (.call (.ref fI) ⟨.ref (hp.objs.size + 1) :: rest, []⟩)
      (fun r s' => match r with | .ok (.ret v) => v = .none ∧ Q (.done (.ret (.ref (hp.objs.size + 1)))) s' | .ok _ => False | .error e => E e s') ⟨(hp.push (W.kdv_tup rest)).push (HandSPX.excO C hp.objs.size), gs, dr, tk, os⟩) :
    wpAny (model prog w) A (Builtin.«type.__call__» ⟨.ref C :: rest, []⟩) Q E ⟨hp, gs, dr, tk, os⟩ := by
  repeat (first | with_reducible refine wpAny_loadPart_at kC ?_ | with_reducible refine wpAny_madeBy_exc kC ?_ | wp_step)
  refine codeAny_call_builtin_code (Code.quiet_builtin _ F.quiet) (g_check_new F hb kC ?_)
  refine g_new F hb hA hN kC ?_ hl
  show wpAny _ _ _ _ _ _
  have kk : ∀ b o, hp.get? b = some o → ((hp.push (W.kdv_tup rest)).push (HandSPX.excO C hp.objs.size)).get? b = some o := fun b o e => Heap.get?_push_of_some _ (Heap.get?_push_of_some _ e)
  have kC1 := kk _ _ kC
  have kget : ((hp.push (W.kdv_tup rest)).push (HandSPX.excO C hp.objs.size)).get? (hp.objs.size + 1) = some (HandSPX.excO C hp.objs.size) := by heap_get
  have kCC : (Value.ref C :: bm).contains (.ref C) = true := by simp
  have i1 := hi.keeps kk
  have b1 := (hbd (.ref (hp.objs.size + 1))).keeps kk
  unfold isInstance
  repeat (first | with_reducible refine wpAny_loadPart_at kget ?_ | (with_reducible refine wpAny_isSubtype_exc kC1 ?_; rw [kCC]) | wp_step)
  show wpAny _ _ (typeLookup (.ref C) _) _ _ _
  refine i1.at ?_
  refine wpAny_holding (wpAny_bind (b1.at ?_))
  refine wpAny_bind (wpAny_call (codeAny_mono hq fun r s' z => ?_))
  rcases r with e | (v | _ | _ | _) <;> first | exact z | exact z.elim | skip
  obtain ⟨rfl, z⟩ := z
  first
    | exact wpAny_pure (wpAny_pure z)
    | (wp_walk; exact z)
theorem g_call (F : ExcBaseFacts B newId initId bmB) (hb : bm.contains (.type B) = true) (hA : bm.contains (.type "AttributeError") = false) (hN : bm.contains (.type "NameError") = false) {rest : List Value} {fI : Addr}
    (kC : hp.get? C = some (excClassObj nm qn C nsA bs bm hdct sn sub ab col dd k0 k1 k2 k3 k5 newId)) (hi : W.Looks (model prog w) hp (typeLookup (.ref C) "__init__") (some (.ref fI)))
    (hbd : ∀ self, W.Looks (model prog w) hp (bindSpecial (.ref fI) self) (.ref fI, [self])) (hl : rest.length ≤ sizeLine)
    (hq : codeAny (model prog w) (A.under (.builtin "type.__call__" ⟨.ref C :: rest, []⟩)) (.call (.ref fI) ⟨.ref (hp.objs.size + 1) :: rest, []⟩) (W.InitBack (hp.objs.size + 1) R) ⟨(hp.push (W.kdv_tup rest)).push (HandSPX.excO C hp.objs.size), gs, dr, tk, os⟩) :
    codeAny (model prog w) A (.call (.ref C) ⟨rest, []⟩) R ⟨hp, gs, dr, tk, os⟩ := by
  have f1 := tc_lookup
  have f2 := tc_bind (.ref C)
  have kTy : (⟨hp, gs, dr, tk, os⟩ : Shared).TypeIs (.ref C) "type" := ⟨_, kC, rfl⟩
  refine codeAny_of_tree ?_
  show wpAny _ _ (callAny (.ref C) _) _ _ _
  repeat (any_goals (first | assumption | with_reducible refine wpAny_loadPart_at kC ?_ | wp_step))
  refine ⟨rfl, ?_⟩
  refine codeAny_call_builtin_at (Code.quiet_builtin _ (by decide +kernel)) entry_typeCall (wpAny_check_type_call_sub kC (g_tcall F hb hA hN kC hi hbd hl ?_))
  refine codeAny_mono hq fun r s' z => ?_
  rcases r with e | (v | _ | _ | _) <;> exact z
/-- the built-in __init__: the args are laid anew -/
theorem g_init {tl : List Value} (T : InitG tl initId) (ht : refsT tl bm = true) {e t0 : Addr} {rest : List Value} (kC : hp.get? C = some (excClassObj nm qn C nsA bs bm hdct sn sub ab col dd k0 k1 k2 k3 k5 newId)) (he : hp.get? e = some (HandSPX.excO C t0)) (hl : rest.length ≤ sizeLine)
    (hq : ∀ h' t1, (∀ b o, b ≠ e → hp.get? b = some o → h'.get? b = some o) → h'.get? e = some (HandSPX.excO C t1) → R (.ok (.ret .none)) ⟨h', gs, dr, tk, os⟩) :
    codeAny (model prog w) A (.call (.builtin initId) ⟨.ref e :: rest, []⟩) R ⟨hp, gs, dr, tk, os⟩ := by
  obtain ⟨B, cB, nS, iK, iS, iR, iP, iE⟩ := T.it
  have kB : (Value.ref C :: bm).contains (.type B) = true := by rw [List.contains_cons, refsT_has B bm ht, cB, Bool.or_true]
  have chk : ∀ {Q : Unit → Shared → Prop} {E : Value → Shared → Prop} {A : Around}, Q () ⟨hp, gs, dr, tk, os⟩ → wpAny (model prog w) A (checkBuiltinCall initId ⟨.ref e :: rest, []⟩) Q E ⟨hp, gs, dr, tk, os⟩ := by
    intro Q E A hq
    simp only [iK, iS, iR, checkBuiltinCall]
    repeat (first | (with_reducible refine wpAny_loadPart_at he ?_; rw [show (HandSPX.excO C t0).cls = .ref C from rfl]) | with_reducible refine wpAny_loadPart_at kC ?_ | (with_reducible refine wpAny_isSubtype_exc kC ?_; rw [kB]) | wp_step)
    refine wpAny_onRaise ?_
    rw [show ∀ (a b : String) (n : Nat), Bind.check ⟨.positional, "*", B, .self, [⟨"args", .varPos, false⟩]⟩ a b n (List.map (fun x => x.fst) ({ pos := Value.ref e :: rest } : Args).kw) = pure () from
      fun a b n => check_star_args _ _ _ _ _ _]
    exact wpAny_pure hq
  refine codeAny_call_builtin iP.plain iE (chk ?_)
  wp_walk
  refine hq _ hp.objs.size (fun b o hb ho => ?_) ?_
  · rw [Heap.get?_update_other _ _ (Ne.symm hb)]
    exact Heap.get?_push_of_some _ ho
  · rw [Heap.get?_update_self _ (Heap.get?_push_of_some _ he) rfl]
    rfl
/-- self.name = v on an exception without a dict as yet -/
theorem g_osa {K : W.Frag} {name : Str} {tn : Tok} {v : Value} {x : Addr} {fv : Array Value} {cd : ClassData}
    (X : K.In hp) (hx : hp.get? x = some { cls := .ref C, data := .fields fv }) (hcd : W.clsIn K C = some cd) (hps : ∀ self : Value, refuseLoop self "__setattr__" cd.mro = pure ()) (hob : cd.mro.contains (.type "object") = true) (hne : cd.mro.isEmpty = false) (hh : cd.hasDict = true) (ha : W.findIn K (.ref C) name = some none)
    (hq : ∀ h' tk' dx, (∀ b o, b ≠ x → hp.get? b = some o → h'.get? b = some o) → hp.objs.size ≤ dx → dx ≠ x → h'.get? x = some { cls := .ref C, dict := some dx, data := .fields fv } →
      h'.Ns1 dx (fun y => if y = name then some v else none) → R (.ok (.ret .none)) ⟨h', gs, dr, tk', os⟩) :
    codeAny (model prog w) A (.call (.builtin "object.__setattr__") ⟨[.ref x, .str name tn, v], []⟩) R ⟨hp, gs, dr, tk, os⟩ := by
  have I : W.InstAt hp x { cls := .ref C, data := .fields fv } C none := ⟨hx, rfl, rfl, trivial⟩
  have kxs : x ≠ hp.objs.size := Nat.ne_of_lt (Heap.lt_size hx)
  have kS := F.store_object
  have sub : W.Looks (model prog w) hp (isInstance (.ref x) (.type "object")) true := I.type.andThen (W.looks_mroIn X (by unfold W.mroIn; rw [hcd, Option.bind_some, if_neg (by rw [hne]; decide), hob]))
  refine codeAny_call_builtin kS.slot.plain kS.entry (@W.check_slot (model prog w) _ _ ⟨hp, gs, dr, tk, os⟩ "object.__setattr__" "object" "__setattr__" (.ref x) [.str name tn, v] [] _ kS.kind kS.split sub (kS.args (.ref x) (.str name tn) v) ?_)
  have hmr : W.Looks (model prog w) hp (mroOf (.ref C)) cd.mro := (W.looks_clsIn X hcd).andThen .now
  have kL3 : W.Looks (model prog w) hp (storeTaker? none) none := .now
  have hcls : W.Looks (model prog w) hp (classData C) cd := W.looks_clsIn X hcd
  rw [W.osa_eq, refuse_eq]
  refine wpAny_bind (wpAny_bind (I.type.at (wpAny_bind (hmr.at ?_))))
  rw [hps]
  refine wpAny_pure (wpAny_bind (I.type.at (wpAny_bind ((W.looks_findIn X ha).at (wpAny_bind (kL3.at ?_))))))
  show wpAny _ _ (storeInOwnDict (.ref x) (.ref C) (.str name tn) name v false) _ _ _
  obtain ⟨nm, bs, mro, ns, qn, hd, sn, sb, ab, col, del⟩ := cd
  dsimp only at hh
  subst hh
  unfold storeInOwnDict ownDictForStores
  repeat (first | with_reducible refine HandSPX.store_in_new ?_ ?_ | with_reducible refine wpAny_loadPart_at hx ?_ | with_reducible refine hcls.at ?_ | wp_step)
  · exact ⟨_, #[], _, (Heap.get?_update_ne _ _ _ _ kxs.symm).trans (Heap.get?_push_at rfl rfl), rfl, fun e he => absurd he (by simp), fun _ => rfl⟩
  · intro h' tk' hn' hs
    have hx1 : (hp.push { cls := .type "dict", data := .dict #[] }).get? x = some { cls := .ref C, data := .fields fv } := Heap.get?_push_of_some _ hx
    refine hq h' tk' hp.objs.size (fun b o hb ho => ?_) (Nat.le_refl _) kxs.symm ?_ hn'
    · exact (hs.2 b (Nat.ne_of_lt (Heap.lt_size ho))).trans ((Heap.get?_update_ne _ _ _ _ hb).trans (Heap.get?_push_of_some _ ho))
    · exact (hs.2 x kxs).trans (Heap.get?_update_self _ hx1 rfl)
end
/-- what the written part says of the class -/
structure ExG (K : PySem.W.Frag) (C : Addr) (tl : List Value) (newId : String) : Prop where
  cls : ∃ nm q N bs bm sn sub ab col dd k0 k1 k2 k3 k5, K.lookup C = some (excClassObj nm q C N bs bm true sn sub ab col dd k0 k1 k2 k3 k5 newId) ∧ refsT tl bm = true
  sa : PySem.W.findIn K (.ref C) "__setattr__" = some (some (.builtin "object.__setattr__"))
  exC : PySem.W.subIn K (.ref C) (.type "BaseException") = some true
  tyC : PySem.W.typeIn K (.ref C) = some (.type "type")
  kC : PySem.W.keepIn K (.ref C) = true
  ne : NewG tl newId
section
variable {X : Cx} {pins : List (Addr × Obj)} {σ : L2.St} {H : Hp} {s : Shared} {a C dx : Addr} {f : Str} {y : V} {u : Value} {fs : List (Str × V)} {Q : Unit → Shared → Prop} {E : Value → Shared → Prop} {A : Around} {tl : List Value} {newId initId : String}
/-- self.f = y -/
theorem gst_new (T : ExG X.K C tl newId) (I : Inv X pins σ H s) (e : H a = some (exo a C none)) (hno : PySem.W.findIn X.K (.ref C) f = some none) (ry : RelV y u)
    (h : ∀ dx s', H dx = none → dx ≠ a → Inv X pins σ (upd (upd H dx (exd dx [(f, y)])) a (exo a C (some dx))) s' → Q () s') : wpAny (model X.prog X.w) A (setAttr (.ref a) f u) Q E s := by
  obtain ⟨nm, q, N, bs, bm, sn, sub, ab, col, dd, k0, k1, k2, k3, k5, hC, hbm⟩ := T.cls
  have hcl : PySem.W.clsIn X.K C = some { name := nm, bases := bs, mro := .ref C :: bm, ns := N, qualname := q, hasDict := true, slotNames := sn, subclasses := sub, abstract := ab, collection := col, hasDel := false } := by unfold PySem.W.clsIn; rw [hC] <;> rfl
  obtain ⟨t1, ho⟩ := exo_at I.hok e
  obtain ⟨hp, g, d, t, os⟩ := s
  have hps : ∀ self : Value, refuseLoop self "__setattr__" (.ref C :: bm) = pure () := fun self => refsT_pass self (T.ne.ps self) (.ref C :: bm) hbm
  have hob : (Value.ref C :: bm).contains (.type "object") = true := (refsT_has "object" (.ref C :: bm) hbm).trans T.ne.ob
  refine PySem.W.set_plain I.kIn (ox := { cls := .ref C, dict := none, data := .fields #[.ref t1, .none, .none, .none, .bool false, .none] }) (od := none) ⟨ho, rfl, rfl, trivial⟩ T.sa ?_
  refine g_osa I.kIn ho hcl hps hob rfl rfl hno (fun h' tk' dx k dn dne hx hn => ?_)
  have hnd : H dx = none := I.hok.fresh dn
  have nd : ∀ {b : Addr} {o : Obj}, hp.get? b = some o → b ≠ dx := fun {b o} q => Nat.ne_of_lt (Nat.lt_of_lt_of_le (Heap.lt_size q) dn)
  have na : ∀ {b : Addr}, H b = none → b ≠ a := fun {b} n z => by
    rw [z, e] at n
    cases n
  have U1 : Un X.fs [] H (upd (upd H dx (exd dx [(f, y)])) a (exo a C (some dx))) hp h' :=
    ⟨fun b o q n _ _ => k b o (na n) q, fun b o q n _ _ => ⟨o.slots, k b o (na n) q⟩, fun b o q n _ => by rw [upd_ne (na n), upd_ne (nd q)]; exact n,
      fun b o q _ => by
        by_cases hb : b = a
        · exact ⟨_, by rw [hb]; exact hx⟩
        · exact ⟨o, k b o hb q⟩,
      fun b xs q => by rw [upd_ne (at_ne e q exo_tup), upd_ne (ne_of_none q hnd)]; exact q, fun b o v q => by rw [upd_ne (at_ne e q exo_frz), upd_ne (ne_of_none q hnd)]; exact q,
      fun b ps q => ⟨#[], by rw [upd_ne (at_ne e q exo_tbl), upd_ne (ne_of_none q hnd), q]; simp⟩⟩
  refine h dx _ hnd dne (I.un (t' := tk') U1 fun b o q => ?_)
  by_cases hb : b = a
  · rw [hb, upd_same] at q
    cases q
    rw [hb]
    exact exo_ok hx
  · rw [upd_ne hb] at q
    by_cases hd : b = dx
    · rw [hd, upd_same] at q
      cases q
      rw [hd]
      exact exd_ok hn (relO_put (fs := []) ry fun g => True.intro)
    · rw [upd_ne hd] at q
      exact (I.hok b o q).stay (fun c v hc z => k c v (by
          rcases hc with hc | hc
          · rw [hc]; exact hb
          · exact at_ne e hc exo_own) z)
        (fun c hc => by rw [upd_ne (at_ne e hc exo_own), upd_ne (ne_of_none hc hnd)]; exact hc) (fun c xs hc => by rw [upd_ne (at_ne e hc exo_tup), upd_ne (ne_of_none hc hnd)]; exact hc)
theorem ginit_ok {us : List Value} {Q : Value → Shared → Prop} (T : ExG X.K C tl newId) (TI : InitG tl initId) (I : Inv X pins σ H s) (e : H a = some (exo a C none)) (hl : us.length ≤ sizeLine) (h : ∀ s', Inv X pins σ H s' → Q .none s') :
    wpAny (model X.prog X.w) A (call (.builtin initId) (.ref a :: us)) Q E s := by
  obtain ⟨nm, q, N, bs, bm, sn, sub, ab, col, dd, k0, k1, k2, k3, k5, hC, hbm⟩ := T.cls
  obtain ⟨t1, ho⟩ := exo_at I.hok e
  obtain ⟨hp, g, d, t, os⟩ := s
  refine wpAny_call (g_init TI hbm (I.kIn _ _ hC) ho hl fun h' t2 k hx => ?_)
  have J := I.write (t' := t) (x := a) (e := a) (o := exo a C none) (by rw [e]; exact True.intro) (.inl rfl) k ⟨_, hx⟩ (exo_ok hx)
  have eu : upd H a (exo a C none) = H := by
    funext b
    by_cases hb : b = a
    · rw [hb, upd_same, e]
    · rw [upd_ne hb]
  rw [eu] at J
  exact h _ J
end
/-- B.__init__(self, ..): the readings -/
def tGI (K : PySem.W.Frag) (tl : List Value) (ta : TA) : TE := fun σ H Q => ta σ H fun vs H1 => ∃ (a C : Addr) (n : String) (ws : List V), vs = .ref a :: ws ∧ ws.length ≤ 1000 ∧ ExG K C tl n ∧ H1 a = some (exo a C none) ∧ Q .non H1
/-- self.f = e -/
def tGst (K : PySem.W.Frag) (f : Str) (to te : TE) : TS := fun D σ H => te σ H fun y H1 => to σ H1 fun x H2 => ∃ (a C : Addr) (tl : List Value) (n : String), x = .ref a ∧ ExG K C tl n ∧ PySem.W.findIn K (.ref C) f = some none ∧
  H2 a = some (exo a C none) ∧ ∀ dx, H2 dx = none → dx ≠ a → D.nx σ (upd (upd H2 dx (exd dx [(f, y)])) a (exo a C (some dx)))
section
variable {X : Cx} {o e : Expr} {es : List Expr} {to te : TE} {ta : TA} {f : Str} {p p' p1 p2 pos : Pos} {tl : List Value} {initId : String}
theorem gi_core {s1 : Shared} {pins : List (Addr × Obj)} {σ : L2.St} {H : Hp} {Q : VK} (TI : InitG tl initId) (ha : PA X (e :: es) ta) (I : Inv X pins σ H s1) (h : tGI X.K tl ta σ H Q)
    (he : starEach (e :: es) X.env = (false, eval e X.env) :: starEach es X.env) (hpl : (backTo pos (starEach (e :: es) X.env)).any (·.1) = false) (hpl2 : (backTo pos (starEach es X.env)).any (·.1) = false) :
    wpAny (model X.prog X.w) X.A (callWith pos (Value.builtin initId) [] (backTo pos (starEach (e :: es) X.env)) []) (EP X pins σ Q) X.xe s1 := by
  refine PyProof.Rows.callWith_method1 (thn (ha.run pos pins _ σ H _ I h) fun us s1 ⟨vs, H1, I1, r1, a, C, n, ws, ev, hl, T, ea, q⟩ => ?_) he hpl2
  subst ev
  cases r1 with
  | @cons _ u0 _ ur ra rw' =>
    obtain rfl : u0 = Value.ref a := ra
    have hlen : ur.length ≤ sizeLine := by
      rw [← Paired.length rw', sizeLine_eq]
      omega
    exact ginit_ok T TI I1 ea hlen fun s' J => ⟨.non, H1, J, rfl, q⟩
theorem pe_ginitB {pl : Sem Bool} {B : Str} {TB : String} (TI : InitG tl initId) (hg : Gl X B) (hm : X.mg B = none) (bt : bootBuiltins B = some (.type TB)) (ty : typeOf (.type TB) = pure (.type "type")) (hst : Manifest.isStub TB = false)
    (vV : PySem.W.findCls X.K (.type TB) (.type "type") "__init__" = some (.val (.builtin initId))) (hh : PySem.W.handedIn (Value.builtin initId) = true) (ha : PA X (e :: es) ta) (hn : B ≠ "__name__" := by decide) (hd : (B == ("__debug__" : Str)) = false := by decide)
    (hc : eval (.Call (.Attribute (.Name B p1) "__init__" p2) (e :: es) [] pos) X.env = (do
      let ov ← eval (.Name B p1) X.env
      standAt p2.atName
      let (f, first) ← holding [ov] (getMethod ov "__init__" pl)
      callWith pos f first (backTo pos (starEach (e :: es) X.env)) (backToKw pos (keywordEach [] X.env))) := by rfl)
    (he : starEach (e :: es) X.env = (false, eval e X.env) :: starEach es X.env := by rfl) (hpl : (backTo pos (starEach es X.env)).any (·.1) = false := by rfl) (hpl0 : (backTo pos (starEach (e :: es) X.env)).any (·.1) = false := by rfl) :
    PE X (.Call (.Attribute (.Name B p1) "__init__" p2) (e :: es) [] pos) (tGI X.K tl ta) := by
  refine ⟨fun pins s σ H Q I h => ?_⟩
  refine PySem.W.methodCall_KW (ld_blt I hg hm bt ?_ hn hd) hc
  obtain ⟨m, fr⟩ := I.fr
  refine PySem.W.method_type fr I.ok.mod.kin ty hst vV hh ?_
  exact gi_core TI ha (I.tok _) h he hpl0 hpl
theorem pe_ginitC {pl : Sem Bool} {B : Str} {CB : Addr} (TI : InitG tl initId) (hg : Gl X B) (hm : X.mg B = some (.ref CB)) (hr : PySem.W.readsIn X.K CB (.type "type") = true) (hsp : PySem.W.specialIn X.K (.ref CB) "__getattribute__" = some (some (.builtin "type.__getattribute__")))
    (vV : PySem.W.findCls X.K (.ref CB) (.type "type") "__init__" = some (.val (.builtin initId))) (hh : PySem.W.handedIn (Value.builtin initId) = true) (ha : PA X (e :: es) ta) (hd : (B == ("__debug__" : Str)) = false := by decide)
    (hc : eval (.Call (.Attribute (.Name B p1) "__init__" p2) (e :: es) [] pos) X.env = (do
      let ov ← eval (.Name B p1) X.env
      standAt p2.atName
      let (f, first) ← holding [ov] (getMethod ov "__init__" pl)
      callWith pos f first (backTo pos (starEach (e :: es) X.env)) (backToKw pos (keywordEach [] X.env))) := by rfl)
    (he : starEach (e :: es) X.env = (false, eval e X.env) :: starEach es X.env := by rfl) (hpl : (backTo pos (starEach es X.env)).any (·.1) = false := by rfl) (hpl0 : (backTo pos (starEach (e :: es) X.env)).any (·.1) = false := by rfl) :
    PE X (.Call (.Attribute (.Name B p1) "__init__" p2) (e :: es) [] pos) (tGI X.K tl ta) := by
  refine ⟨fun pins s σ H Q I h => ?_⟩
  refine PySem.W.methodCall_KW (ld_glob I hg hm ?_ hd) hc
  refine PySem.W.method_cls I.kIn hsp (PySem.W.cls_value I.kIn hr vV hh ?_)
  exact gi_core TI ha (I.tok _) h he hpl0 hpl
theorem ps_gst (ho : PE X o to) (he : PE X e te) (hs : swapsWith e (some (.Attribute o f p')) pos.line X.env = pure false := by rfl) : PS X (.Assign [.Attribute o f p'] e pos) (tGst X.K f to te) := by
  refine ⟨fun pins s σ H D I h => ?_⟩
  refine plainObj_wpAny_Assign_Attribute (thn (he.run pins s σ H _ I h) fun v s1 ⟨y, H1, I1, r1, q1⟩ => thn (ho.run pins s1 σ H1 _ I1 q1) fun u s2 ⟨x, H2, I2, r2, a, C, tl, n, ex, T, hno, ea, q⟩ => ?_) hs
  subst ex
  obtain rfl : u = Value.ref a := r2
  exact gst_new T I2 ea hno r1 fun dx s' n ne J => ⟨σ, _, J, q dx n ne⟩
/-- C(e, ..), C's own __init__ keeping sp -/
theorem pmk_g {x : Str} {C fI : Addr} {k : Nat} {sp : Sp} {newId : String} (T : ExG X.K C tl newId) (iC : PySem.W.findIn X.K (.ref C) "__init__" = some (some (.ref fI))) (tI : PySem.W.typeIn X.K (.ref fI) = some (.type "function"))
    (F1 : FnR X.prog X.w X.K X.mg X.base (L2.CX X.prog X.w) k fI sp) (hr : Room (k + 1) X.A) (hx : Passes (L2.CX X.prog X.w) X (fun _ _ _ => False)) (hg : Gl X x) (hm : X.mg x = some (.ref C)) (ha : PA X (e :: es) ta)
    (hdb : (x == ("__debug__" : Str)) = false := by decide) (he : starEach (e :: es) X.env = (false, eval e X.env) :: starEach es X.env := by rfl) (hpl : (backTo pos (starEach es X.env)).any (·.1) = false := by rfl) :
    PMk X (.Call (.Name x p) (e :: es) [] pos) (tMkO C sp [] ta) := by
  intro pins s σ H Q I h
  obtain ⟨nm, q, N, bs, bm, sn, sub, ab, col, dd, k0, k1, k2, k3, k5, hC, hbm⟩ := T.cls
  obtain ⟨B, iB, bmB, FB, cB⟩ := T.ne.nw
  refine wpAny_Call_Name_kw (ld_glob I hg hm ?_ hdb)
  refine PySem.W.callWith_K (h₀ := X.base) I.ok.mod.kin T.kC (thn (ha.run pos pins s σ H _ I h) fun us s1 ⟨vs, H1, I1, r1, hz, q1⟩ => ⟨I1.kIn, ?_⟩) he hpl
  show wpAny _ _ (call (.ref C) us) _ _ _
  obtain ⟨hp, g, dr, tk, os⟩ := s1
  have hsz : hp.objs.size ≤ hp.objs.size + 1 := Nat.le_succ _
  have hn : H1 (hp.objs.size + 1) = none := I1.hok.fresh hsz
  have hq := q1 (hp.objs.size + 1) hn
  have kk : ∀ b o, hp.get? b = some o → ((hp.push (PySem.W.kdv_tup us)).push (PySem.HandSPX.excO C hp.objs.size)).get? b = some o := fun b o e => Heap.get?_push_of_some _ (Heap.get?_push_of_some _ e)
  have hget : ((hp.push (PySem.W.kdv_tup us)).push (PySem.HandSPX.excO C hp.objs.size)).get? (hp.objs.size + 1) = some (PySem.HandSPX.excO C hp.objs.size) := by heap_get
  have I2 : Inv X pins σ (upd H1 (hp.objs.size + 1) (exo (hp.objs.size + 1) C none)) ⟨(hp.push (PySem.W.kdv_tup us)).push (PySem.HandSPX.excO C hp.objs.size), g, dr, tk, os⟩ :=
    I1.laid (t' := tk) (a := hp.objs.size + 1) (o := exo (hp.objs.size + 1) C none) (h' := (hp.push (PySem.W.kdv_tup us)).push (PySem.HandSPX.excO C hp.objs.size)) kk hsz (exo_ok hget)
  have r2 : Vals (V.ref (hp.objs.size + 1) :: (vs ++ [])) (Value.ref (hp.objs.size + 1) :: us) := .cons rfl (by rw [List.append_nil]; exact r1)
  have hus : us.length ≤ sizeLine := by
    rw [← Paired.length r1, sizeLine_eq]
    omega
  refine wpAny_call (g_call FB (by rw [refsT_has _ bm hbm]; exact cB) (by rw [refsT_has _ bm hbm]; exact T.ne.nA) (by rw [refsT_has _ bm hbm]; exact T.ne.nN) (I1.kIn _ _ hC) (PySem.W.looks_findIn I1.kIn iC) (fun self => PySem.W.bind_fn I1.kIn self tI) hus
    (codeAny_mono (F1 _ X.stack _ _ (Value.ref (hp.objs.size + 1) :: us) _ _ (fun _ _ _ => False) (hr.make C us []) (I2.env0.make C us []) r2 hq) fun r s' hq' => ?_))
  cases r with
  | error er => exact hx pins σ _ _ er s' I2 hq'
  | ok fl =>
    cases fl with
    | ret u =>
      obtain ⟨v, H2, os2, bare2, un2, hok2, rv, ev, d, fs, ea, ed, hd1, q2⟩ := hq'
      subst ev
      obtain ⟨h2, g2, d2, t2, os'⟩ := s'
      exact ⟨rv, mk_end (raises_own T.exC T.tyC) I1 hsz kk un2 hok2 os2 bare2 ea ed hd1 q2⟩
    | next => exact False.elim hq'
    | brk => exact False.elim hq'
    | cont => exact False.elim hq'
end
end
section
open PySem Spec PyProof.Rows L2
/-! ### a held exception: caught by name from a tuple of classes, kept in a name -/
section
variable {M : Model} {A : Around} {E : Value → Shared → Prop} {s : Shared} {β : Type}
theorem loop_yield {f : Value → β → Sem (ForInStep β)} {b : β} {Q : β → Shared → Prop} : ∀ cs : List Value, (∀ c ∈ cs, ∀ Q' : ForInStep β → Shared → Prop, Q' (.yield b) s → wpAny M A (f c b) Q' E s) → Q b s → wpAny M A (forIn cs b f) Q E s
  | [], _, h => by
    rw [List.forIn_nil]
    exact wpAny_pure h
  | c :: cs, hf, h => by
    rw [List.forIn_cons]
    exact wpAny_bind (hf c List.mem_cons_self _ (loop_yield cs (fun c' hc => hf c' (List.mem_cons_of_mem _ hc)) h))
theorem loop_find {f : Value → β → Sem (ForInStep β)} {r0 r1 : β} {Q : β → Shared → Prop} : ∀ (cs : List Value) (bs : List Bool), Paired (fun c v => ∀ Q' : ForInStep β → Shared → Prop, Q' (if v = true then .done r1 else .yield r0) s → wpAny M A (f c r0) Q' E s) cs bs →
    Q (if bs.any id = true then r1 else r0) s → wpAny M A (forIn cs r0 f) Q E s
  | _, _, .nil, h => by
    rw [List.forIn_nil]
    exact wpAny_pure h
  | _, _, @Paired.cons _ _ _ c v cs bs hf r, h => by
    rw [List.forIn_cons]
    refine wpAny_bind (hf _ ?_)
    cases v with
    | true => exact wpAny_pure h
    | false => exact loop_find cs bs r h
end
section
variable {M : Model} {K : PySem.W.Frag}
theorem exm_list {cls : Value} : ∀ {cs : List Value} {b : Bool}, PySem.W.exmAny K cls cs = some b → ∃ bs, Paired (fun c v => PySem.W.exmOne K cls c = some v) cs bs ∧ b = bs.any id
  | [], b, h => by
    have h2 : some false = some b := h
    cases h2
    exact ⟨[], .nil, rfl⟩
  | c :: cs, b, h => by
    obtain ⟨b1, d1, h1, h2, h3⟩ := PySem.W.exmAny_cons h
    obtain ⟨bs, p, e⟩ := exm_list h2
    exact ⟨b1 :: bs, .cons h1 p, by rw [h3, e]; rfl⟩
theorem paired_mem {α β : Type} {F : α → β → Prop} : ∀ {l : List α} {r : List β}, Paired F l r → ∀ c ∈ l, ∃ v, F c v
  | _, _, .nil, _, h => nomatch h
  | _, _, .cons h r, c, hc => by
    rcases List.mem_cons.mp hc with e | e
    · rw [e]; exact ⟨_, h⟩
    · exact paired_mem r c e
theorem exm_many {cs : List Value} {cls : Value} {tp e : Addr} {b : Bool} {h : Heap} {o : Obj} {n : Nat} (X : K.In h) (LT : PySem.W.Looks M h (typeOf (.ref e)) cls) (hp : h.get? tp = some o) (ho : o.cls = .type "tuple") (hd : o.data = .seq cs.toArray n) (hx : PySem.W.exmAny K cls cs = some b) :
    PySem.W.Looks M h (excMatches (.ref e) (.ref tp)) b := by
  obtain ⟨bs, pr, eb⟩ := exm_list hx
  intro A Q E s k₀ q
  obtain ⟨hh, g, d, tk, os⟩ := s
  have k : ∀ b o, h.get? b = some o → hh.get? b = some o := k₀
  have LT1 := LT.keeps k
  have hp1 := k _ _ hp
  unfold excMatches
  refine wpAny_bind (wpAny_isInstance ⟨o, hp1, ho⟩ isSubtype_tuple_tuple ?_)
  dsimp only
  rw [if_pos rfl]
  first
    | refine wpAny_bind (wpAny_seqItems hp1 hd ?_)
    | refine wpAny_bind (wpAny_bind (wpAny_seqItems hp1 hd (wpAny_pure ?_)))
  dsimp only [Option.getD_some, Option.getD]
  refine wpAny_bind (wpAny_pure ?_)
  try rw [List.toList_toArray]
  refine wpAny_bind ?_
  refine loop_yield cs (fun c hc Q' hq => ?_) ?_
  · obtain ⟨v, hv⟩ := paired_mem pr c hc
    have e1 := (PySem.W.exm_cls (M := M) X hv).1.keeps k
    refine wpAny_bind (e1.at ?_)
    first
      | exact wpAny_pure hq
      | (simp only [Bool.not_true, Bool.false_eq_true, if_false]; exact wpAny_pure hq)
  · refine wpAny_bind (LT1.at ?_)
    refine wpAny_bind ?_
    refine loop_find (r1 := (some true, ())) cs bs (Paired.mapP pr fun c v hv Q' hq => ?_) ?_
    · have e2 := (PySem.W.exm_cls (M := M) X hv).2.keeps k
      refine wpAny_bind (e2.at ?_)
      cases v with
      | true => exact wpAny_pure hq
      | false => exact wpAny_pure hq
    · rw [eb] at q
      generalize bs.any id = bb at q ⊢
      cases bb with
      | true => exact wpAny_pure q
      | false => exact wpAny_pure q
end
/-- the exception at a, of the class cls, its dict d: known, not in flight -/
def xhd (a : Addr) (cls : Value) (d : Option Addr) : HO := .ext fun h => ∃ oe vs, h.get? a = some oe ∧ Zc cls d oe ∧ oe.data = .fields vs
theorem xhd_ok {P : Program} {w : World} {H : Hp} {h : Heap} {a : Addr} {cls : Value} {d : Option Addr} {oe : Obj} {vs : Array Value} (e : h.get? a = some oe) (z : Zc cls d oe) (hv : oe.data = .fields vs) : ObjOk P w H h a (xhd a cls d) :=
  ⟨⟨oe, vs, e, z, hv⟩, ⟨_, e⟩, fun h1 h2 ⟨o, v, q1, q2, q3⟩ k => ⟨o, v, k _ q1, q2, q3⟩⟩
theorem xhd_at {P : Program} {w : World} {H : Hp} {h : Heap} {a : Addr} {cls : Value} {d : Option Addr} (hok : HOk P w H h) (e : H a = some (xhd a cls d)) : ∃ oe vs, h.get? a = some oe ∧ Zc cls d oe ∧ oe.data = .fields vs := by
  have x : ObjOk P w H h a (.ext fun h => ∃ oe vs, h.get? a = some oe ∧ Zc cls d oe ∧ oe.data = .fields vs) := hok a _ e
  exact x.1
theorem xhd_own {e x : Addr} {c : Value} {d : Option Addr} : xhd e c d ≠ .own x := fun z => by
  have z' : HO.ext _ = HO.own x := z
  cases z'
/-- names of own classes -/
inductive NmOk (X : Cx) : List Expr → List Value → Prop
  | nil : NmOk X [] []
  | cons {x : Str} {c : Value} {p : Pos} {es : List Expr} {cs : List Value} (hg : Gl X x) (hm : X.mg x = some c) (hd : (x == ("__debug__" : Str)) = false) (r : NmOk X es cs) : NmOk X (.Name x p :: es) (c :: cs)
theorem nm_run {X : Cx} {pins : List (Addr × Obj)} {σ : L2.St} {H : Hp} {s : Shared} {E : Value → Shared → Prop} {pos : Pos} (I : Inv X pins σ H s) : ∀ {es : List Expr} {cs : List Value}, NmOk X es cs → ∀ {Q : List Value → Shared → Prop}, Q cs s →
    wpAny (model X.prog X.w) X.A (spliced (backTo pos (starEach es X.env))) Q E s
  | _, _, .nil, Q, h => Calls.spliced_nil h
  | _, _, .cons (x := x) (p := p) (es := es) hg hm hd r, Q, h => by
    show wpAny _ _ (spliced ((false, eval (.Name x p) X.env) :: backTo pos (starEach es X.env))) _ _ s
    exact Calls.spliced_cons (ld_glob I hg hm (nm_run I r h) hd)
theorem NmOk.suite {X : Cx} {es : List Expr} {cs : List Value} (h : NmOk X es cs) (a : Addr) (pn : List (Addr × Obj)) : NmOk (X.suite a pn) es cs := by
  induction h with
  | nil => exact .nil
  | cons hg hm hd r ih => exact .cons hg hm hd ih
theorem flyZ_keeps {B h h' : Heap} {l : List Env} {a : Addr} {Z : Obj → Prop} (f : HandSPX.FlyingZ B l a Z h) (k : ∀ b o, h.get? b = some o → h'.get? b = some o) : HandSPX.FlyingZ B l a Z h' := by
  obtain ⟨f1, f2, f3, oe, vs, T, oT, ts, g1, g2, g3, g4, g5, g6, g7, g8, g9⟩ := f
  exact ⟨fun b o e => k b o (f1 b o e), f2, f3.of_keeps fun b o e _ => ⟨o, k b o e, rfl⟩, oe, vs, T, oT, ts, k _ _ g1, g2, g3, g4, g5, g6, k _ _ g7, g8, g9⟩
/-- what 'except (C, ..) as n: z = n' wishes -/
def wHeld (K : PySem.W.Frag) (cs : List Value) (i j m : Nat) (D : Ends) : WX := fun cls d σ H =>
  PySem.W.exmAny K cls cs = some true ∧ ∀ a, σ.length = m → H a = none → D.nx (((σ.set i (some (.ref a))).set j (some (.ref a))).set i none) (upd H a (xhd a cls d))
section
variable {X : Cx} {n z : Str} {cs : List Value} {i j kk : Nat} {names : List Expr} {body : List Stmt} {np zp ap pos pos' tpo : Pos} {tb : WX → TS}
/-- a pinned exception is tracked from now on -/
theorem inv_hold {pins : List (Addr × Obj)} {σ : L2.St} {H : Hp} {s : Shared} {a : Addr} {oe : Obj} {cls : Value} {d : Option Addr} {vs : Array Value} (I : Inv X pins σ H s) (n0 : X.s_0.heap.get? a = none) (hx : a ∉ X.ex) (na : H a = none) (nL : a ≠ X.env.locals) (nC : ∀ x c, X.env.cells.lookup x = some c → c ≠ a)
    (np : ∀ p ∈ X.pn ++ pins, p.1 ≠ a) (e : s.heap.get? a = some oe) (zc : Zc cls d oe) (hv : oe.data = .fields vs) : Inv X pins σ (upd H a (xhd a cls d)) s := by
  have nb : ∀ b o, X.s_0.heap.get? b = some o → b ≠ a := fun b o e z => by
    rw [z, n0] at e
    cases e
  refine ⟨I.ok, I.os, I.bare, ⟨fun b o e n hb hx => I.base.keep b o e n hb hx, fun b o e n hb hx => I.base.slot b o e n hb hx, fun b o e n hx => by rw [upd_ne (nb b o e)]; exact I.base.free b o e n hx, fun b o e hx => I.base.there b o e hx,
      fun b xs e => ?_, fun b o u e => ?_, fun b ps e => ?_⟩, I.loc, I.cell, by rw [upd_ne (Ne.symm nL)]; exact I.free, fun x c e => by rw [upd_ne (nC x c e)]; exact I.freeC x c e, fun p hp => ?_, fun b o q => ?_, I.len⟩
  · have h2 := I.base.tups b xs e
    rw [upd_ne (ne_of_none h2 na)]; exact h2
  · have h2 := I.base.frzs b o u e
    rw [upd_ne (ne_of_none h2 na)]; exact h2
  · obtain ⟨more, h2⟩ := I.base.tbls b ps e
    exact ⟨more, by rw [upd_ne (ne_of_none h2 na)]; exact h2⟩
  · obtain ⟨h1, h2, h3, h4, h5⟩ := I.pin p hp
    exact ⟨h1, by rw [upd_ne (np p hp)]; exact h2, h3, h4, h5⟩
  · by_cases hb : b = a
    · rw [hb, upd_same] at q
      cases q
      rw [hb]
      exact xhd_ok e zc hv
    · rw [upd_ne hb] at q
      exact (I.hok b o q).stay (fun c v _ r => r) (fun c r => by rw [upd_ne (ne_of_none r na)]; exact r) fun c xs r => by rw [upd_ne (ne_of_none r na)]; exact r
theorem ps_try_held (hs : X.stack = X.env :: X.outer) (hf : X.env.frame = some X.env.locals) (hex : X.ex = []) (hN : X.N.Nodup) (hi : X.N[i]? = some n) (hln : X.env.kindOf n = some .local) (hj : X.N[j]? = some z) (hlz : X.env.kindOf z = some .local) (hij : i ≠ j) (hc : NmOk X names cs) (hlen : cs.length ≤ sizeLine)
    (hb : ∀ (W : WX) (pn : List (Addr × Obj)) (xe : Value → Shared → Prop), Takes (X.tr pn xe) W → PassesOwn (model X.prog X.w) X.A X.env xe → PSs (X.tr pn xe) body (tb W))
    (hd : (n == ("__debug__" : Str)) = false := by decide) (hcd : (n == ("__classdict__" : Str)) = false := by decide)
    (hsw : swapsWith (.Name n np) (some (.Name z zp)) ap.line X.env = pure false := by rfl) :
    PS X (.Try body [.ExceptHandler (some (.Tuple names kk tpo)) (some n) [.Assign [.Name z zp] (.Name n np) ap] pos'] [] [] pos) (fun D σ H => tb (wHeld X.K cs i j X.N.length D) D σ H) := by
  refine ⟨fun pins s σ H D I h => ?_⟩
  have ok := I.ok
  have hfr : X.A.frames = some (X.env :: X.outer) := by rw [ok.frames, hs]
  have hloc : Loc X.env.scope n := .inl hln
  have hlocz : Loc X.env.scope z := .inl hlz
  refine wpAny_Try_except ?_
  refine wpAny_mono ((hb (wHeld X.K cs i j X.N.length D) (X.pn ++ pins) (fun e s₁ => wpAny (model X.prog X.w) X.A (noteFrame e X.env) (fun _ s₂ => wpAny (model X.prog X.w) X.A (setFlight e none) (fun _ s₃ =>
    wpAny (model X.prog X.w) X.A (handleBy e X.env [.ExceptHandler (some (.Tuple names kk tpo)) (some n) [.Assign [.Name z zp] (.Name n np) ap] pos']) (SP X pins D) X.xe s₃) X.xe s₂) X.xe s₁) (fun u s' xx => ?_) PassesOwn.looking).run [] s σ H D (I.toTry _) h) (fun f s1 hsp => ?_) (fun e s1 he => he)
  · obtain ⟨a, B, sI, pins', σ', H', cls, d, rfl, J', nb, up, sky, na, os, ag, hb1, hyes⟩ := xx
    have J : Inv X pins σ' H' sI := J'.ofTry ok
    have sky' : Sky B (X.env :: X.outer) a (Zc cls d) X.env.locals s'.heap := by rw [← hs]; exact sky
    show wpAny (model X.prog X.w) X.A (noteFrame (.ref a) X.env) _ _ _
    refine Sky.land Zc.steady hfr hf sky' fun h3 fl3 up3 => ?_
    have J3 : Inv X pins σ' H' { s' with heap := h3 } := J.landed nb fl3.1 (up.trans up3) os ag
    obtain ⟨oe3, vs3, he3, hz3, hd3⟩ := fl3.there
    have notFr : ∀ {h : Heap} {o : Obj} {vs : Array Value}, h.FunFrames B (X.env :: X.outer) → h.get? a = some o → o.data = .fields vs → a ∉ frs (X.env :: X.outer) := fun {h o vs} ff e dd hm => by
      obtain ⟨_, o', e', hnf⟩ := ff.mem hm
      rw [e] at e'; cases e'
      exact hnf _ dd
    have nfr := notFr fl3.2.2.1 he3 hd3
    have nL : a ≠ X.env.locals := fun z => nfr (List.mem_filterMap.mpr ⟨X.env, List.mem_cons_self, by rw [hf, z]⟩)
    have nF : a ∉ X.fs := fun hm => by
      obtain ⟨e, he, q⟩ := List.mem_filterMap.mp hm
      exact nfr (List.mem_filterMap.mpr ⟨e, List.mem_cons_of_mem _ he, q⟩)
    have nI : sI.heap.get? a = none := by
      cases q : sI.heap.get? a with
      | none => rfl
      | some o =>
        have z := nb a o q (by rw [hs]; exact nfr)
        rw [fl3.2.1] at z
        cases z
    have hxa : a ∉ X.ex := by rw [hex]; exact fun z => nomatch z
    have n0 : X.s_0.heap.get? a = none := by
      cases q : X.s_0.heap.get? a with
      | none => rfl
      | some o =>
        obtain ⟨o', z⟩ := J.base.there a o q hxa
        rw [nI] at z
        cases z
    have nC : ∀ x c, X.env.cells.lookup x = some c → c ≠ a := fun x c e q => by
      obtain ⟨v, o, ho, _⟩ := J.cell x c e
      rw [q, nI] at ho
      cases ho
    have nP : ∀ p ∈ X.pn ++ pins, p.1 ≠ a := fun p hp q => by
      obtain ⟨h1, _⟩ := J.pin p hp
      rw [q, nI] at h1
      cases h1
    have S3 := J3.suite he3 hd3 na nL nF
    refine wpAny_handleBy_cons (codeAny_handlers_test ?_) (by intro q; cases q)
    have nmS := hc.suite a ((a, oe3) :: (X.pn ++ pins))
    refine Tuple_ (nm_run S3 nmS ?_)
    refine wpAny_newObj_type ?_ (by show cs.toArray.size ≤ sizeLine; rw [List.size_toArray]; exact hlen)
    have kp : ∀ b o, h3.get? b = some o → (h3.push { cls := .type "tuple", data := .seq cs.toArray }).get? b = some o := fun b o e => Heap.get?_push_of_some _ e
    have J3' : Inv X pins σ' H' { s' with heap := h3.push { cls := .type "tuple", data := .seq cs.toArray } } := J3.kept (t' := s'.toks) kp
    have fl3' := flyZ_keeps fl3 kp
    have LT : PySem.W.Looks (model X.prog X.w) (h3.push { cls := .type "tuple", data := .seq cs.toArray }) (typeOf (.ref a)) cls := fun A Q E s k q => wpAny_typeOf_ref (k _ _ (kp _ _ he3)) (by rw [hz3.1]; exact q)
    have LM := exm_many (M := model X.prog X.w) J3'.kIn LT (Heap.get?_push_size _ rfl) rfl rfl hb1
    refine LM.here ?_
    refine codeAny_handlers_suite_as ?_
    refine HandSPX.lands_againZ fl3' fun h4 fl4 up4 => ?_
    have up34 : sI.heap.UpToSlots h4 := ((up.trans up3).trans (Heap.UpToSlots.of_keeps kp)).trans up4
    have J4 : Inv X pins σ' H' { s' with heap := h4 } := J.landed nb fl4.1 up34 os ag
    obtain ⟨oe4, vs4, he4, hz4, hd4⟩ := fl4.there
    have S4 := J4.suite he4 hd4 na nL nF
    refine store_ok (X := X.suite a ((a, oe4) :: (X.pn ++ pins))) (v := .ref a) S4 hN hi hloc rfl (fun s5 S5 => ?_) (.inr hln)
    have hiσ : i < σ'.length := by rw [J4.len]; exact (List.getElem?_eq_some_iff.mp hi).1
    have suiteP : PSs (X.suite a ((a, oe4) :: (X.pn ++ pins))) [.Assign [.Name z zp] (.Name n np) ap] (tSeq (tAsg (tVar i) (gName j)) tNext) := pss_cons (ps_asg (pe_var hi (.inl hln) hd hcd) (pg_name hN hj hlocz (.inr hlz)) hsw) pss_nil
    refine wpAny_mono (suiteP.run [] s5 _ H' { nx := fun σ6 H6 => H6 = H' ∧ σ6 = (σ'.set i (some (.ref a))).set j (some (.ref a)), rt := fun _ _ => False } S5 ⟨.ref a, by rw [List.getElem?_set_self hiσ], rfl, rfl⟩) (fun f s6 hsp => ?_) (fun _ _ z => False.elim z)
    cases f with
    | next =>
      obtain ⟨σ6, H6, S6, e6, e7⟩ := hsp
      subst e6 e7
      refine gone_ok (X := X.suite a ((a, oe4) :: (X.pn ++ pins))) S6 hN hi hln fun s7 S7 => ?_
      obtain ⟨g1, _⟩ := S7.pin (a, oe4) (List.mem_append_left _ List.mem_cons_self)
      have J7 := S7.unsuite ok
      exact ⟨_, _, inv_hold J7 n0 hxa na nL nC nP g1 hz4 hd4, hyes a J.len na⟩
    | brk => obtain ⟨_, _, _, q⟩ := hsp; exact q.elim
    | cont => obtain ⟨_, _, _, q⟩ := hsp; exact q.elim
    | ret u => obtain ⟨_, _, _, _, _, q⟩ := hsp; exact q.elim
  · cases f with
    | next =>
      obtain ⟨σ', H', J', q⟩ := hsp
      exact wpAny_execs_nil ⟨σ', H', J'.ofTry ok, q⟩
    | brk =>
      obtain ⟨σ', H', J', q⟩ := hsp
      exact ⟨σ', H', J'.ofTry ok, q⟩
    | cont =>
      obtain ⟨σ', H', J', q⟩ := hsp
      exact ⟨σ', H', J'.ofTry ok, q⟩
    | ret u =>
      obtain ⟨v, σ', H', J', r, q⟩ := hsp
      exact ⟨v, σ', H', J'.ofTry ok, r, q⟩
end
/-- isinstance of a held exception -/
def rIsH (K : PySem.W.Frag) : List V → Hp → VK → Prop := fun xs H Q => ∃ (a C dd : Addr) (fs : List (Str × V)) (c : V) (cv : Value) (b : Bool), xs = [.ref a, c] ∧ H a = some (xhd a (.ref C) (some dd)) ∧ H dd = some (.xd fs) ∧ ExcC K C ∧ ClsV c cv ∧ PySem.W.kitOne K (.ref C) cv = some b ∧ Q (.bl b) H
theorem held_inst {X : Cx} {pins : List (Addr × Obj)} {σ : L2.St} {H : Hp} {s : Shared} {a C dd : Addr} {fs : List (Str × V)} (I : Inv X pins σ H s) (ha : H a = some (xhd a (.ref C) (some dd))) (hd : H dd = some (.xd fs)) :
    ∃ oe od mA, PySem.W.InstAt s.heap a oe C (some od) ∧ s.heap.Ns1 dd mA ∧ s.heap.get? dd = some od ∧ ∀ f, RelO (fs.lookup f) (mA f) := by
  obtain ⟨oe, vs, he, hz, hv⟩ := xhd_at I.hok ha
  have hx : ObjOk X.prog X.w H s.heap dd (.xd fs) := I.hok dd _ hd
  obtain ⟨mA, hns, hr⟩ := hx
  obtain ⟨od, es, ep, ho, hl⟩ := id hns
  exact ⟨oe, od, mA, ⟨he, hz.1, by unfold PySem.W.notCls; rw [hv] <;> rfl, by rw [hz.2]; exact ho⟩, hns, ho, hr⟩
theorem call_isH {X : Cx} : CallR X (.builtin "isinstance") (rIsH X.K) := by
  intro pins s σ H xs us Q I r h
  obtain ⟨a, C, dd, fs, c, cv, b, rfl, ha, hd, EC, k, e, q⟩ := h
  obtain ⟨u1, u2, rfl, r1, r2⟩ := vals2 r
  obtain rfl : u1 = Value.ref a := r1
  have e2 := k.eq r2
  subst e2
  obtain ⟨oe, od, mA, J, _⟩ := held_inst I ha hd
  have hcl : (PySem.W.clsIn X.K C).isSome = true := by
    obtain ⟨cd, hc, _⟩ := PySem.W.any_some EC.hd
    rw [hc]; rfl
  exact PySem.W.kia_one (PySem.W.kitx_exc (ox := oe) (od := some od) hcl EC.hg EC.hk EC.hs EC.ha EC.hn EC.ht EC.hm) I.kIn J e (fun z => nomatch z) fun tk => ⟨.bl b, H, I.tok tk, rfl, q⟩
/-- its field -/
def tXh (K : PySem.W.Frag) (f : Str) (te : TE) : TE := fun σ H Q => te σ H fun x H1 => ∃ (a C dd : Addr) (fs : List (Str × V)) (v : V), x = .ref a ∧ H1 a = some (xhd a (.ref C) (some dd)) ∧ H1 dd = some (.xd fs) ∧ XfC K C ∧ PySem.W.findIn K (.ref C) f = some none ∧ fs.lookup f = some v ∧ Q v H1
theorem pe_xh {X : Cx} {e : Expr} {te : TE} {pos : Pos} {n : Str} (he : PE X e te) (hb : attributeBase e n X.env (eval e X.env) = eval e X.env := by rfl) : PE X (.Attribute e n pos) (tXh X.K n te) := by
  refine ⟨fun pins s σ H Q I h => ?_⟩
  refine attr_of hb (thn (he.run pins s σ H _ I h) fun u s1 hh => ?_)
  obtain ⟨x, H1, I1, rx, a, C, dd, fs, v, ex, ha, hd, T, hno, l, q⟩ := hh
  subst ex
  obtain rfl : u = Value.ref a := rx
  obtain ⟨oe, od, mA, J, hns, ho, hr⟩ := held_inst I1 ha hd
  obtain ⟨u, hu, ru⟩ := RelO.some_of (v := v) (o := mA n) (by rw [← l]; exact hr n)
  obtain ⟨od2, ho2, hl⟩ := lookIn_ns hns
  rw [ho] at ho2
  cases ho2
  exact HandSPX.exc_get I1.kIn J T.ga T.gg T.exC (PySem.W.findObj_own T.hdC hno rfl (by rw [hl, hu])) (handed_of ru) ⟨v, H1, I1.tok _, ru, q⟩
end
section
open PySem Spec PyProof.Rows L2
/-! ### a lambda with one default: lambda x=0: body -/
open LamX
section
variable {X : Cx} {pins : List (Addr × Obj)} {σ : L2.St} {H HZ : Hp} {s s1 : Shared}
/-- the function object: T the tuple of its defaults -/
abbrev lamD (q : Str) (params : Arguments) (body : Expr) (scope : Scope) (cl : List (Str × Addr)) (T : Addr) (doc pm : Value) (c' : Addr) (ctv : Value) : Obj := PySem.W.kdv_obj "<lambda>" q params (.expr body) scope cl (.ref T) doc pm c' ctv
theorem lam_makeD {TT : List (Addr × Str)} {c P : Addr} {params : Arguments} {body : Expr} {scope : Scope} {pos p0 : Pos} {i0 : Int} {k0 : Nat} {Q : Value → Shared → Prop} (I : Inv X pins σ H s) (TB : TabB X.base X.mg c P) (hcode : X.env.code = .ref c)
    (hm : (P, X.env.qual ++ "<lambda>") ∈ TT) (hu : ∀ p ∈ TT, p.1 = P → p.2 = X.env.qual ++ "<lambda>") (hT : Tabs TT H) (hd : params.defaults = [.Constant (.int i0) k0 p0]) (hkd : params.kw_defaults = []) (hfree : ∀ y ∈ scope.names, y.2 = .free → ∃ c, X.env.cells.lookup y.1 = some c)
    (h : ∀ (f c' T : Addr) (tk : Tok) (doc pm ctv : Value) (H1 : Hp) (s' : Shared), Inv X pins σ H1 s' → ExtN H H1 → Tabs TT H1 →
      s'.heap.get? f = some (lamD (X.env.qual ++ "<lambda>") params body scope (cloFrom X.env.cells scope.names []) T doc pm c' ctv) → s'.heap.get? T = some (PySem.W.kdv_tup [.int i0 tk]) → H1 f = none → H1 T = none → f ∉ frs X.stack → T ∉ frs X.stack → H1 c' = some (CodeO c' (X.env.qual ++ "<lambda>")) → Q (.ref f) s') :
    wpAny (model X.prog X.w) X.A (eval (.Lambda params body scope pos) X.env) Q X.xe s := by
  refine PySem.W.kdv_lam (by rw [hd]; rfl) hkd ?_
  rw [hd]
  refine PySem.W.kdv_all1 (thn ((pe_int (X := X)).run pins s σ H (fun v H1 => v = .int i0 ∧ H1 = H) I ⟨rfl, rfl⟩) fun u s1 ⟨v, H1, I1, r1, ev, eH⟩ => PySem.W.kdv_all0 ?_)
  subst ev eH
  obtain ⟨tk, rfl⟩ := r1
  rw [makeFunction_eq]
  simp only [List.zip_nil_right, List.filterMap_nil, List.isEmpty_nil, List.isEmpty_cons, Bool.false_eq_true, if_true, if_false, pure_bind]
  refine wpAny_bind (wpAny_newTextTuple ?_)
  have kT : ∀ b o, s1.heap.get? b = some o → (s1.heap.push (PySem.W.kdv_tup [.int i0 tk])).get? b = some o := fun b o e => Heap.get?_push_of_some _ e
  have I2 : Inv X pins σ H1 { s1 with heap := s1.heap.push (PySem.W.kdv_tup [.int i0 tk]) } := I1.kept (t' := s1.toks) kT
  have hTT : (s1.heap.push (PySem.W.kdv_tup [.int i0 tk])).get? s1.heap.objs.size = some (PySem.W.kdv_tup [.int i0 tk]) := Heap.get?_push_size _ rfl
  have nT : H1 s1.heap.objs.size = none := I1.hok.fresh (Nat.le_refl _)
  obtain ⟨ps, hP, ht, ha⟩ := hT _ hm
  have bP : (s1.heap.push (PySem.W.kdv_tup [.int i0 tk])).BuiltinsAt X.mg P := TB.bm.keeps I2.bk
  have hP' : (s1.heap.push (PySem.W.kdv_tup [.int i0 tk])).get? P = some { cls := .none, data := .fields ps } := I2.hok P _ hP
  have nofr : ∀ f, s1.heap.objs.size ≤ f → f ∉ frs X.stack := fun f hf z => by
    rcases List.mem_cons.mp (I1.stkSub _ z) with e | e
    · have h1 := I1.lt
      rw [← e] at h1
      exact Nat.lt_irrefl _ (Nat.lt_of_lt_of_le h1 hf)
    · exact I1.nofs hf e
  have hPT : s1.heap.objs.size ≠ P := fun e => by
    rw [← e, hTT] at hP'
    cases hP'
  cases hc : codeAmong pos ps.toList with
  | none =>
    refine PySem.W.kdv_makeTail (mg := X.mg) (c := c) (P := P) (ps := ps) (closure_ok hfree) I1.ok.glob (I1.mod.glob.keeps I2.bk) hcode (TB.code.keeps I2.bk) hP' ht hc TB.gP bP fun c' ctv doc h' tk' hx hge hlt hrec htb => ?_
    obtain ⟨c2, oc, vs, t, e2, hoc, hdt, hv⟩ := hrec
    cases e2
    have hsz : s1.heap.objs.size ≤ h'.objs.size := Nat.le_trans (Nat.le_trans (by rw [Heap.size_push]; omega) hge) (Nat.le_of_lt hlt)
    have nC : H1 c' = none := I2.hok.fresh hge
    have I3 := inv_table (t' := tk') (more := #[rawInt pos.line, rawInt pos.col, .ref c']) (h' := h'.push (PySem.W.kdv_obj "<lambda>" (X.env.qual ++ "<lambda>") params (.expr body) scope (cloFrom X.env.cells scope.names []) (.ref s1.heap.objs.size) doc ((X.mg "__name__").getD .none) c' ctv)) I2 hP
      (fun b o hb e => Heap.get?_push_of_some _ (hx b o hb e)) (Heap.get?_push_of_some _ htb) hge ⟨oc, vs, t, Heap.get?_push_of_some _ hoc, hdt, hv⟩
    have hE : ExtN H1 (upd (upd H1 P (.tbl (ps ++ #[rawInt pos.line, rawInt pos.col, .ref c']))) c' (CodeO c' (X.env.qual ++ "<lambda>"))) := fun b o e n => by
      rw [upd_ne (ne_of_none e nC), upd_ne (fun z => n ps (Option.some.inj (e.symm.trans (by rw [z]; exact hP))))]
      exact e
    have eL : (ps ++ #[rawInt pos.line, rawInt pos.col, .ref c']).toList = ps.toList ++ [rawInt pos.line, rawInt pos.col, .ref c'] := by simp
    have nTc : s1.heap.objs.size ≠ c' := fun e => by
      have := hge
      rw [Heap.size_push, ← e] at this
      omega
    refine h h'.objs.size c' s1.heap.objs.size tk doc ((X.mg "__name__").getD .none) ctv _ _ I3 hE (fun p hp => ?_) (Heap.get?_push_size _ rfl) (Heap.get?_push_of_some _ (hx _ _ hPT hTT)) ?_ (by rw [upd_ne nTc, upd_ne hPT]; exact nT) (nofr _ hsz) (nofr _ (Nat.le_refl _)) upd_same
    · by_cases hb : p.1 = P
      · rw [hu p hp hb, hb]
        refine ⟨_, by rw [upd_ne (ne_of_none hP nC), upd_same], by rw [eL]; exact PySem.TriplesOk_snoc _ _ _ _ ht, fun p' cv hcv => ?_⟩
        rw [eL] at hcv
        rcases among_app _ ht hcv with z | z
        · obtain ⟨c0, e1, e2⟩ := ha p' cv z
          exact ⟨c0, e1, hE _ _ e2 codeO_ne⟩
        · exact ⟨c', z, upd_same⟩
      · obtain ⟨ps', a1, a2, a3⟩ := hT p hp
        refine ⟨ps', by rw [upd_ne (ne_of_none a1 nC), upd_ne hb]; exact a1, a2, fun p' cv hcv => ?_⟩
        obtain ⟨c0, e1, e2⟩ := a3 p' cv hcv
        exact ⟨c0, e1, hE _ _ e2 codeO_ne⟩
    · have n1 : h'.objs.size ≠ c' := Nat.ne_of_gt hlt
      have n2 : h'.objs.size ≠ P := Nat.ne_of_gt (Nat.lt_of_lt_of_le (Nat.lt_of_lt_of_le (Heap.lt_size hP') hge) (Nat.le_of_lt hlt))
      rw [upd_ne n1, upd_ne n2]
      exact I1.hok.fresh hsz
  | some cv =>
    obtain ⟨c', e, hco⟩ := ha pos cv hc
    subst e
    refine PySem.W.kdv_makeTailHit (mg := X.mg) (c := c) (P := P) (ps := ps) (closure_ok hfree) I1.ok.glob (I1.mod.glob.keeps I2.bk) hcode (TB.code.keeps I2.bk) hP' ht hc bP fun ctv doc h' tk' hx hsz => ?_
    have hsz1 : s1.heap.objs.size ≤ h'.objs.size := Nat.le_trans (by rw [Heap.size_push]; omega) hsz
    have I3 : Inv X pins σ H1 { s1 with heap := h'.push (PySem.W.kdv_obj "<lambda>" (X.env.qual ++ "<lambda>") params (.expr body) scope (cloFrom X.env.cells scope.names []) (.ref s1.heap.objs.size) doc ((X.mg "__name__").getD .none) c' ctv), toks := tk' } := I1.kept fun b o e => Heap.get?_push_of_some _ (hx b o (kT b o e))
    exact h h'.objs.size c' s1.heap.objs.size tk doc ((X.mg "__name__").getD .none) ctv H1 _ I3 (ExtN.refl H1) hT (Heap.get?_push_size _ rfl) (Heap.get?_push_of_some _ (hx _ _ hTT)) (I1.hok.fresh hsz1) nT (nofr _ hsz1) (nofr _ (Nat.le_refl _)) hco
end
/-- one parameter x of its own, no cells -/
structure LamP (sc scope : Scope) (x : Str) : Prop where
  kind : scope.kind = .function
  co : scope.isCoroutine = false
  gen : scope.isGenerator = false
  own : ∀ y ∈ scope.names, (y.2 = .local → y.1 = x) ∧ y.2 ≠ .cell
  par : scope.names.lookup x = some .local
  free : ∀ y ∈ scope.names, y.2 = .free → sc.names.lookup y.1 = some .cell ∨ sc.names.lookup y.1 = some .free
def lamPB (sc scope : Scope) (x : Str) : Bool :=
  decide (scope.kind = .function) && !scope.isCoroutine && !scope.isGenerator && (scope.names.all fun y => (!decide (y.2 = .local) || decide (y.1 = x)) && !decide (y.2 = .cell) && (!decide (y.2 = .free) || decide (sc.names.lookup y.1 = some .cell) || decide (sc.names.lookup y.1 = some .free))) && decide (scope.names.lookup x = some .local)
theorem lamP_by {sc scope : Scope} {x : Str} (h : lamPB sc scope x = true) : LamP sc scope x := by
  unfold lamPB at h
  simp only [Bool.and_eq_true, Bool.or_eq_true, Bool.not_eq_true', decide_eq_true_eq, decide_eq_false_iff_not, List.all_eq_true] at h
  obtain ⟨⟨⟨⟨h1, h2⟩, h3⟩, h4⟩, h5⟩ := h
  refine ⟨h1, h2, h3, fun y hy => ⟨fun e => ?_, (h4 y hy).1.2⟩, h5, fun y hy e => ?_⟩
  · rcases (h4 y hy).1.1 with z | z
    · exact absurd e z
    · exact z
  · rcases (h4 y hy).2 with (z | z) | z
    · exact absurd e z
    · exact .inl z
    · exact .inr z
theorem LamP.has {X : Cx} {scope : Scope} {x : Str} (L : LamP X.env.scope scope x) (ok : X.Ok) : ∀ y ∈ scope.names, y.2 = .free → ∃ c, X.env.cells.lookup y.1 = some c := fun y hy e => by
  rcases L.free y hy e with k | k
  · exact ok.has _ (.inl k)
  · exact ok.has _ (.inr k)
section
variable {X : Cx} {pins : List (Addr × Obj)} {σ : L2.St} {H HZ : Hp} {s s1 : Shared}
theorem lam_startD {A : Around} {outer : List Env} {E : XK} {scope : Scope} {f c' : Addr} {h₁ : Heap} {tk : Nat} {x : Str} {m₀ : Str → Option Value} (I : Inv X pins σ H s) (L : LamP X.env.scope scope x) (hxN : x ∉ X.N) (e0 : Env0 X.prog X.w X.K X.mg X.base A outer s1 HZ) (hd : A.handled = none)
    (un : Un (frs X.stack) [] H HZ s.heap s1.heap) (hns : h₁.Ns s1.heap.objs.size m₀) (kp : ∀ b o, s1.heap.get? b = some o → h₁.get? b = some o) :
    Inv (lamCx X A outer s1 HZ E scope f c') [] σ HZ { s1 with heap := h₁, toks := tk } := by
  have hfree := L.has I.ok
  have cm : ∀ {y c}, (cloFrom X.env.cells scope.names []).lookup y = some c → X.env.cells.lookup y = some c := fun {y c} e => by
    rcases cloFrom_mem (PySem.mem_of_lookup e) with hm | ⟨h1, h2⟩
    · cases hm
    · obtain ⟨c1, hc⟩ := hfree _ h1 rfl
      have hc' : X.env.cells.lookup y = some c1 := hc
      have e2 : c = c1 := by
        rw [h2, hc'] <;> rfl
      rw [e2]
      exact hc'
  have look : ∀ {y}, scope.names.lookup y = some .free → ∃ c, (cloFrom X.env.cells scope.names []).lookup y = some c := fun {y} hl => by
    have hy : (y, NameKind.free) ∈ scope.names := PySem.mem_of_lookup hl
    exact mem_lookup (cloFrom_has (cells := X.env.cells) (acc := []) hy)
  have cellK : ∀ {c : Addr} {v : Option Value}, H c = none → s.heap.IsCell c v → h₁.IsCell c v := fun {c v} n ⟨o, ho, hd⟩ => by
    obtain ⟨sl, q⟩ := un.any ho n (by simp)
    exact ⟨_, kp _ _ q, hd⟩
  have noA : ∀ b : Addr, b ∉ (lamCx X A outer s1 HZ E scope f c').ex := fun b z => absurd (show b ∈ ([] : List Addr) from z) (by simp)
  refine ⟨⟨e0.mod, L.kind, rfl, rfl, Nat.le_refl _, fun y z c e1 e2 => I.ok.inj y z c (cm e1) (cm e2), fun y hy => ?_, fun y c z _ => ?_, fun _ => hd, Around.frames_deeper e0.frames, .inr ⟨rfl, rfl⟩, fun b z => absurd z (noA b), e0.bs, e0.bsz, fun b _ _ => noA b,
      fun b z => absurd z (noA b), e0.funs, e0.frf⟩,
    rfl, e0.bare, Un.kept kp, ⟨_, hns, fun i y v e1 e2 e3 => ?_⟩, fun y c e => ?_, e0.hok.fresh (Nat.le_refl _), fun y c e => ?_, fun q hq => absurd (show q ∈ ([] : List (Addr × Obj)) ++ [] from hq) (by simp), e0.hok.kept kp, I.len⟩
  · have hy : scope.names.lookup y = some .cell ∨ scope.names.lookup y = some .free := hy
    rcases hy with hy | hy
    · exact absurd rfl (L.own _ (PySem.mem_of_lookup hy)).2
    · exact look hy
  · have z : false = true := z
    cases z
  · have e3 : Vis scope y := e3
    rcases e3 with k | k | k
    · have ey : y = x := (L.own _ (PySem.mem_of_lookup k)).1 rfl
      exact absurd (List.mem_of_getElem? (show X.N[i]? = some y from e1)) (by rw [ey]; exact hxN)
    · exact absurd rfl (L.own _ (PySem.mem_of_lookup k)).2
    · obtain ⟨m, hn, hl⟩ := I.loc
      have hvis : Vis X.env.scope y := (L.free _ (PySem.mem_of_lookup k) rfl).elim (fun k => .inr (.inl k)) (fun k => .inr (.inr k))
      obtain ⟨w', r, q⟩ := hl i y v e1 e2 hvis
      obtain ⟨c2, h2⟩ := look k
      refine ⟨w', r, .inr ⟨.inr k, c2, h2, ?_⟩⟩
      have c1 := cm h2
      rcases q with ⟨k', _⟩ | ⟨_, c3, e', z⟩
      · have k' : X.env.scope.names.lookup y = some .local := k'
        rcases L.free _ (PySem.mem_of_lookup k) rfl with k2 | k2 <;> rw [show X.env.scope.names.lookup y = _ from k2] at k' <;> cases k'
      · rw [c1] at e'
        cases e'
        exact cellK (I.freeC y _ c1) z
  · obtain ⟨w', z⟩ := I.cell y c (cm e)
    exact ⟨w', cellK (I.freeC y c (cm e)) z⟩
  · obtain ⟨v, o, ho, hd⟩ := I.cell y c (cm e)
    exact un.free c o ho (I.freeC y c (cm e)) (by simp)
theorem pe_actD {CXg : CXT} {Eg : XK} {Ng : List Str} {qg : Str} {sg : Scope} {g f c' T : Addr} {cdg doc pm ctv : Value} {params : Arguments} {body : Expr} {scope : Scope} {k i : Nat} {a x : Str} {pn : List (Addr × Obj)} {xe : Value → Shared → Prop} {W : WX} {E : XK} {tb : TE} {p1 p2 : Pos} {i0 : Int} {tk0 : Tok}
    (I : Inv X pins σ H s) (L : LamP X.env.scope scope x) (hxN : x ∉ X.N) (hf : s.heap.get? f = some (lamD (X.env.qual ++ "<lambda>") params body scope (cloFrom X.env.cells scope.names []) T doc pm c' ctv)) (hTo : s.heap.get? T = some (PySem.W.kdv_tup [.int i0 tk0])) (hfn : H f = none) (hTn : H T = none) (hfr : f ∉ frs X.stack) (hTr : T ∉ frs X.stack)
    (hbind : ∃ kk, bindArgs (PySem.W.kdv_fn "<lambda>" (X.env.qual ++ "<lambda>") params (.expr body) scope (cloFrom X.env.cells scope.names []) (.ref T) doc pm (.ref c') ctv) ⟨[], []⟩ = seqItems? (.ref T) >>= kk ∧ kk (some #[.int i0 tk0]) = pure [(x, .int i0 tk0)])
    (tk : Takes ((cxOf CXg X.prog X.w X.K X.mg X.base Ng qg sg g cdg X.A X.stack s H Eg).tr pn xe) W) (hW : ∀ cls d σ' H', E cls d H' → W cls d σ' H') (hr : Room (k + 1) (X.A.deeper (envOfC qg sg s.heap.objs.size g cdg)))
    (hbody : ∀ (A : Around) (outer : List Env) (s : Shared) (H : Hp), Room k (A.deeper (lamEnv X scope s.heap.objs.size f c')) → PE (lamCx X A outer s H E scope f c') body tb)
    (hN : Ng[i]? = some a) (hv : Vis sg a) (hd : (a == ("__debug__" : Str)) = false := by decide) (hcd : (a == ("__classdict__" : Str)) = false := by decide) :
    PE ((cxOf CXg X.prog X.w X.K X.mg X.base Ng qg sg g cdg X.A X.stack s H Eg).tr pn xe) (.Call (.Name a p1) [] [] p2)
      (fun σZ HZ Q => σZ[i]? = some (some (.ref f)) ∧ HZ c' = some (CodeO c' (X.env.qual ++ "<lambda>")) ∧ tb σ HZ Q) := by
  refine ⟨fun pinsZ sZ σZ HZ Q IZ h => ?_⟩
  obtain ⟨hs, hc, ht⟩ := h
  refine wpAny_Call_Name_kw (thn ((pe_var (pos := p1) (i := i) hN hv hd hcd).run pinsZ sZ σZ HZ (fun v H1 => v = .ref f ∧ H1 = HZ) IZ ⟨.ref f, hs, rfl, rfl⟩) fun u s1 ⟨v, H1, I1, r1, q1⟩ => ?_)
  obtain ⟨ev, eH⟩ := q1
  subst ev
  rw [eH] at I1
  obtain rfl : u = Value.ref f := r1
  have of1 : s1.heap.get? f = some (lamD (X.env.qual ++ "<lambda>") params body scope (cloFrom X.env.cells scope.names []) T doc pm c' ctv) := I1.base.keep f _ hf hfn hfr (fun z => nomatch (show f ∈ ([] : List Addr) from z))
  have oT1 : s1.heap.get? T = some (PySem.W.kdv_tup [.int i0 tk0]) := I1.base.keep T _ hTo hTn hTr (fun z => nomatch (show T ∈ ([] : List Addr) from z))
  refine PySem.W.callWith_F0 ⟨_, _, _, _, of1⟩ ?_
  have un : Un (frs X.stack) [] H HZ s.heap s1.heap := I1.base
  obtain ⟨⟨oc, vs, t, hoc, hdc, hvc⟩, _, _⟩ := I1.hok c' _ hc
  have rc : codeAny (model X.prog X.w) (X.A.deeper (envOfC qg sg s.heap.objs.size g cdg)) (.call (.ref f) ⟨[], []⟩) (CR (L2.CX X.prog X.w) (envOfC qg sg s.heap.objs.size g cdg :: X.stack) X.prog X.w HZ s1 Q E) s1 := by
    refine PySem.W.kla_callFunE hr.depth of1 rfl L.co L.gen rfl ⟨c', oc, vs, t, rfl, hoc, hdc, hvc⟩ ?_
    obtain ⟨kk, hb1, hb2⟩ := hbind
    refine BindsTo.of_defaults (T := T) rfl oT1 rfl hb1 hb2 _ _ _ _ ?_
    refine wpAny_newFunctionEnv (fun y hy => (L.own y hy).2) (fun y hy => ?_) (fun h₁ hns hsb => ⟨I1.nolimit.fresh _ hsb, ?_⟩) L.kind
    · have e : y = (x, .int i0 tk0) := by simpa using hy
      rw [e]
      exact L.par
    show codeAny _ _ (.expr body (lamEnv X scope s1.heap.objs.size f c')) _ _
    have kp : ∀ b o, s1.heap.get? b = some o → h₁.get? b = some o := fun b o e => hsb.extBut b o (Nat.ne_of_lt (Heap.lt_size e)) (Heap.get?_push_of_some _ e)
    have J := lam_startD (E := E) (f := f) (c' := c') (tk := s1.toks + [(x, Value.int i0 tk0)].length) I L hxN I1.env0 hr.hd un hns kp
    refine PySem.W.kla_codeExpr (wpAny_mono ((hbody _ _ s1 HZ (hr.deeper _)).run [] _ _ HZ Q J ht) (fun v s' hq => ?_) fun e s' hq => hq)
    obtain ⟨w', H', J', rv, q⟩ := hq
    exact ⟨w', H', J'.os, J'.bare, J'.base, J'.hok, rv, q⟩
  have hx : Passes (L2.CX X.prog X.w) ((cxOf CXg X.prog X.w X.K X.mg X.base Ng qg sg g cdg X.A X.stack s H Eg).tr pn xe) E := passes_call tk hW
  refine wpAny_call (codeAny_mono rc fun r s' hq => ?_)
  cases r with
  | error e => exact hx pinsZ σZ HZ s1 e s' I1 hq
  | ok fl =>
    cases fl with
    | ret u => exact I1.after hq
    | next => exact False.elim hq
    | brk => exact False.elim hq
    | cont => exact False.elim hq
end
section
variable {X : Cx}
/-- g(lambda x=0: body) -/
theorem pe_lamcallD {T : List (Addr × Str)} {TT : (XK → Hp → VK → Prop) → Hp → VK → Prop} {x a z : Str} {g c P : Addr} {k k0 : Nat} {pg : Arguments} {bg : List Stmt} {sg : Scope} {dV kV doc pm cdv ct oc : Value} {an od : Option Addr} {osl : Array (Option Value)} {Ng : List Str}
    {params : Arguments} {body : Expr} {scope : Scope} {t : XK → TE} {p p0 lpos pos : Pos} {i0 : Int} (hg : Gl X x) (hm : X.mg x = some (.ref g)) (hk : PySem.W.keepIn X.K (.ref g) = true)
    (lk : X.K.lookup g = some ⟨oc, od, .func (PySem.W.fnOf x x pg bg sg dV kV doc pm an cdv ct), osl⟩) (hcg : PySem.W.codeIn X.K cdv x = true) (hb : L2.Binds X.K (PySem.W.fnOf x x pg bg sg dV kV doc pm an cdv ct) [a] []) (Sg : FnScope Ng [a] sg) (hNg : Ng[0]? = some a) (hva : Vis sg a)
    (hG : GivesTo X Ng x sg g cdv bg a (X.env.qual ++ "<lambda>") TT)
    (TB : TabB X.base X.mg c P) (hcode : X.env.code = .ref c) (hmT : (P, X.env.qual ++ "<lambda>") ∈ T) (hu : ∀ p ∈ T, p.1 = P → p.2 = X.env.qual ++ "<lambda>") (hr : Room (k + 2) X.A) (L : LamP X.env.scope scope z) (hzN : z ∉ X.N) (hdef : params.defaults = [.Constant (.int i0) k0 p0]) (hkd : params.kw_defaults = [])
    (hbind : ∀ (q : Str) (cl : List (Str × Addr)) (T : Addr) (doc pm cv ctv : Value) (tk0 : Tok), ∃ kk, bindArgs (PySem.W.kdv_fn "<lambda>" q params (.expr body) scope cl (.ref T) doc pm cv ctv) ⟨[], []⟩ = seqItems? (.ref T) >>= kk ∧ kk (some #[.int i0 tk0]) = pure [(z, .int i0 tk0)])
    (hbody : ∀ (A : Around) (outer : List Env) (s : Shared) (H : Hp) (E : XK) (f c' : Addr), Room k (A.deeper (lamEnv X scope s.heap.objs.size f c')) → PE (lamCx X A outer s H E scope f c') body (t E))
    (hdb : (x == ("__debug__" : Str)) = false := by decide) (hd : (a == ("__debug__" : Str)) = false := by decide) (hcd : (a == ("__classdict__" : Str)) = false := by decide) :
    PE X (.Call (.Name x p) [.Lambda params body scope lpos] [] pos) (tLam T TT t) := by
  refine ⟨fun pins s σ H Q I h => ?_⟩
  obtain ⟨hT, h⟩ := h
  refine wpAny_Call_Name_kw (ld_glob I hg hm ?_ hdb)
  refine PySem.W.callWith_K (h₀ := X.base) I.ok.mod.kin hk ?_ (by rfl) (by rfl)
  show wpAny _ _ (spliced ((false, eval (.Lambda params body scope lpos) X.env) :: backTo pos (starEach [] X.env))) _ _ s
  refine Calls.spliced_cons (lam_makeD I TB hcode hmT hu hT hdef hkd (L.has I.ok) fun f c' T0 tk0 doc0 pm' ctv H1 s' I1 eN T1 hf hTo hfn hTn hfr hTr hco => ?_)
  refine Calls.spliced_nil ⟨I1.kIn, ?_⟩
  have rc : codeAny (model X.prog X.w) X.A (.call (.ref g) ⟨[.ref f], []⟩) (CR C8.CX0 X.stack X.prog X.w H1 s' Q C8.E0) s' := by
    refine run_ofS (N := Ng) (ps := [a]) (us := [.ref f]) (vs := [.ref f]) lk hcg Sg hr I1.env0 (hb s' [.ref f] I1.kIn rfl) (.cons rfl .nil) rfl fun hr' => ?_
    obtain ⟨t', ht', hq'⟩ := hG f c' s' H1 Q (fun E H' Q' => t E σ H' Q') (fun W pn xe E p1 p2 tk hW => pe_actD (i := 0) I1 L hzN hf hTo hfn hTn hfr hTr (hbind _ _ _ _ _ _ _ _) tk hW hr' (fun A outer s H hr2 => hbody A outer s H E f c' hr2) hNg hva hd hcd) hco (h H1 eN T1)
    exact ⟨t', ht'.nox, hq'⟩
  refine wpAny_call (codeAny_mono rc fun r s2 hq => ?_)
  cases r with
  | error e => exact (show False from hq).elim
  | ok fl =>
    cases fl with
    | ret u => exact I1.after hq
    | next => exact False.elim hq
    | brk => exact False.elim hq
    | cont => exact False.elim hq
end
end
section
open PySem Spec PyProof.Rows L2
/-! ### sorted(xs, key=lambda x: ( *x, i)), xs a list of tuples of ints -/
open LamX
theorem dataLt_tups (xs ys : List PyData) : PySem.W.dataLt (.tuple xs) (.tuple ys) = PySem.W.rowLt xs ys := by
  first
    | rfl
    | exact PySem.W.dataLt_tuple xs ys
theorem dataLe_tups {β : Type} (x : β → List Int) : PySem.W.dataLe false (fun b => .tuple ((x b).map .int)) = fun p q => decide (x p ≤ x q) := by
  funext p q
  show (!PySem.W.dataLt (.tuple ((x q).map .int)) (.tuple ((x p).map .int))) = _
  rw [dataLt_tups, PySem.W.dataLt_ints]
  by_cases h : x q < x p
  · have h2 : ¬ x p ≤ x q := fun r => List.not_lt.mpr r h
    simp [h, h2]
  · have h2 : x p ≤ x q := List.not_lt.mp h
    simp [h, h2]
section
variable {prog : Program} {w : World} {A : Around} {E : Value → Shared → Prop}
theorem star_raw {s : Shared} {a : Addr} {its : List Value} {Q : List Value → Shared → Prop} (h : IsTup s.heap a its.toArray) (hz : its.length ≤ sizeLine) (hQ : ∀ h' : Heap, (∀ b o, s.heap.get? b = some o → h'.get? b = some o) → Q its { s with heap := h' }) : PySem.W.StarOf (model prog w) A E (.ref a) Q s := by
  obtain ⟨o, ho, hc, n, hd⟩ := h
  have hT : s.TypeIs (.ref a) "tuple" := ⟨o, ho, hc⟩
  have zz : wpAny (model prog w) A (collect (.ref a)) Q E s := by
    refine wpAny_collect_seq a (.inr rfl) ho hc hd (fun h' hk => ?_) (by rw [List.size_toArray]; exact hz)
    rw [show its.toArray.toList = its from by simp]
    exact hQ h' hk
  unfold PySem.W.StarOf notIterableAtAll
  exact wpAny_bind (wpAny_specialOf hT PySem.F.slot_tuple_iter.lookup (wpAny_pure ⟨rfl, zz⟩))
theorem reads_intsL {h : Heap} : ∀ {ns : List Int} {us : List Value}, Vals (ns.map V.int) us → ReadsAll h us (ns.map PyData.int) []
  | [], _, r => by
    cases r
    exact .nil
  | n :: ns, _, r => by
    cases r with
    | cons r1 r2 =>
      obtain ⟨t, rfl⟩ := r1
      exact ReadsAll.cons (.int n t) (reads_intsL r2)
theorem key_eval {env : Env} {s : Shared} {x : Str} {a : Addr} {its : List Value} {ns : List Int} {m : Str → Option Value} {p1 p2 p3 p4 : Pos} {k1 k2 : Nat} {i : Int} (hkd : env.scope.kind = .function) (hx : env.kindOf x = some .local) (hn : s.heap.Ns env.locals m) (hm : m x = some (.ref a))
    (h : IsTup s.heap a its.toArray) (rv : Vals (ns.map V.int) its) (hz : ns.length ≤ 100) (hd : (x == ("__debug__" : Str)) = false) :
    wpAny (model prog w) A (eval (.Tuple [.Starred (.Name x p1) p2, .Constant (.int i) k1 p3] k2 p4) env) (PySem.W.KeyPure (.tuple ((ns ++ [i]).map .int)) s) E s := by
  have hl := rv.length
  rw [List.length_map] at hl
  refine Tuple_ (PySem.W.items_star (wpAny_Name (wpAny_loadName_local hkd hx hn hm ?_) hd))
  refine star_raw h (by rw [← hl, sizeLine_eq]; omega) fun h1 kk1 => ?_
  show wpAny _ _ (spliced [(false, eval (.Constant (.int i) k1 p3) env)]) _ _ _
  refine Calls.spliced_cons (wpAny_Constant_int (Calls.spliced_nil ?_))
  refine wpAny_newTuple ?_ (by rw [List.length_append, ← hl, sizeLine_eq]; simp; omega)
  refine ⟨_, _, rfl, fun b o e => Heap.get?_push_of_some _ (kk1 b o e), ?_⟩
  have rr : Vals ((ns ++ [i]).map V.int) (its ++ [.int i s.toks]) := by
    rw [List.map_append]
    exact rv.append (.cons ⟨_, rfl⟩ .nil)
  refine Reads.tuple (Heap.get?_push_size _ rfl) rfl rfl ?_
  exact reads_intsL rr
end
theorem rd_extN {H H' : Hp} {a : Addr} {u : HO} (h : Rd H a u) (e : ExtN H H') (n : ∀ ps, u ≠ .tbl ps) : Rd H' a u := by
  rcases h with h | ⟨o, h⟩
  · exact .inl (e _ _ h n)
  · exact .inr ⟨o, e _ _ h fun ps z => by cases z⟩
theorem sqT_extN {K : PySem.W.Frag} {H H' : Hp} {a : Addr} {xs : List V} (h : SqT K H a xs) (e : ExtN H H') : SqT K H' a xs := by
  rcases h with h | h
  · exact .inl (rd_extN h e fun ps z => by cases z)
  · exact .inr h
theorem sqL_extN {K : PySem.W.Frag} {H H' : Hp} {a : Addr} {xs : List V} (h : SqL K H a xs) (e : ExtN H H') : SqL K H' a xs := by
  rcases h with h | h
  · exact .inl (rd_extN h e fun ps z => by cases z)
  · exact .inr h
/-- the reading -/
def tKSort (K : PySem.W.Frag) (i : Int) (T : List (Addr × Str)) (te : TE) : TE := fun σ H Q => te σ H fun x H1 => Tabs T H1 ∧ ∃ (l : Addr) (bs : List (Addr × List Int)), x = .ref l ∧ SqL K H1 l (bs.map fun b => V.ref b.1) ∧ (∀ b ∈ bs, SqT K H1 b.1 (b.2.map .int)) ∧ bs.length ≤ 1000 ∧ (∀ b ∈ bs, b.2.length ≤ 100) ∧
  ∀ H2, ExtN H1 H2 → Tabs T H2 → ∀ p, H2 p = none → Q (.ref p) (upd H2 p (.lst ((bs.mergeSort fun b c => decide (b.2 ++ [i] ≤ c.2 ++ [i])).map fun b => V.ref b.1)))
section
variable {X : Cx}
theorem pe_ksort {T : List (Addr × Str)} {c P : Addr} {k k1 k2 : Nat} {params : Arguments} {scope : Scope} {x : Str} {e : Expr} {te : TE} {i : Int} {p p1 p2 p3 p4 lpos kp pos : Pos} (hg : Gl X "sorted") (hm : X.mg "sorted" = none) (he : PE X e te)
    (TB : TabB X.base X.mg c P) (hcode : X.env.code = .ref c) (hmT : (P, X.env.qual ++ "<lambda>") ∈ T) (hu : ∀ p ∈ T, p.1 = P → p.2 = X.env.qual ++ "<lambda>") (hr : Room (k + 2) X.A) (hrd : X.A.depth + 4 < recursionLimit) (hru : X.A.units + 20 < cLine)
    (hsk : scope.kind = .function) (hco : scope.isCoroutine = false) (hgen : scope.isGenerator = false) (hcell : ∀ y ∈ scope.names, y.2 ≠ .cell) (hfree : ∀ y ∈ scope.names, y.2 ≠ .free) (hpar : scope.names.lookup x = some .local) (hdef : defaultsOf params X.env = ([], []))
    (hbind : ∀ (q : Str) (cl : List (Str × Addr)) (pm cv ctv v : Value), bindArgs (PySem.W.kla_fn "<lambda>" q params (.Tuple [.Starred (.Name x p1) p2, .Constant (.int i) k1 p3] k2 p4) scope cl pm cv ctv) ⟨[v], []⟩ = pure [(x, v)])
    (hd : (x == ("__debug__" : Str)) = false := by decide) (hpl : (backTo pos (starEach [e] X.env)).any (·.1) = false := by rfl) (hst : backTo pos (starEach [e] X.env) = (false, eval e X.env) :: backTo pos (starEach [] X.env) := by rfl) :
    PE X (.Call (.Name "sorted" p) [e] [⟨some "key", .Lambda params (.Tuple [.Starred (.Name x p1) p2, .Constant (.int i) k1 p3] k2 p4) scope lpos, kp⟩] pos) (tKSort X.K i T te) := by
  refine ⟨fun pins s σ H Q I h => ?_⟩
  refine wpAny_Call_Name_kw (ld_blt I hg hm (show bootBuiltins "sorted" = some (.builtin "sorted") from by rfl) ?_ (by decide) (by decide))
  refine PyProof.Rows.callWith_kw ?_ hst hpl (by rfl) (by rfl)
  rw [hst]
  refine Calls.spliced_cons (thn (he.run pins s σ H _ I h) fun u s1 ⟨v, H1, I1, r1, q1⟩ => Calls.spliced_nil ?_)
  obtain ⟨hT, l, bs, ev, hl, hbs, hbl, hb100, q⟩ := q1
  subst ev
  obtain rfl : u = Value.ref l := r1
  show wpAny _ _ (evalAll ((do let v ← eval (.Lambda params (.Tuple [.Starred (.Name x p1) p2, .Constant (.int i) k1 p3] k2 p4) scope lpos) X.env; standAt pos; pure v) :: [])) _ _ _
  refine wpAny_evalAll_cons (wpAny_bind ?_)
  refine lam_make2 I1 TB hcode hmT hu hT hdef (fun y hy hf => absurd hf (hfree y hy)) fun f c' pm ctv H2 s2 I2 eN T2 hf hfn hfr hc => ?_
  refine wpAny_bind (wpAny_standAt (wpAny_pure (evalAll_nil ?_)))
  show wpAny _ _ (call (.builtin "sorted") [.ref l] [(Str.ofString "key", .ref f)]) _ _ _
  have xt : ∀ {b : Addr} {xs : List V}, SqT X.K H1 b xs → SqT X.K H2 b xs := fun {b xs} z => sqT_extN z eN
  obtain ⟨its, rv, hli, hz⟩ := I2.list (show SqL X.K H2 l (bs.map fun b => V.ref b.1) from sqL_extN hl eN)
  obtain ⟨⟨oc, vs, tq, hoc, hdc, hvc⟩, _, _⟩ := I2.hok c' _ hc
  have hlen : its.length = bs.length := by rw [← rv.length, List.length_map]
  have eIs : PySem.W.EachIs (fun (v : Value) (b : Addr × List Int) => v = .ref b.1) its bs := by
    clear hbs hbl hb100 q hl hz hli hlen
    induction bs generalizing its with
    | nil => cases rv; exact .nil
    | cons b bs ih =>
      cases rv with
      | cons r1 r2 => exact .cons r1 (ih _ r2)
  refine PySem.W.sorted_key_data (b := false) (fun b : Addr × List Int => PyData.tuple ((b.2 ++ [i]).map .int)) hli.isList eIs ?_ ?_ (by rw [sizeLine_eq]; omega) ?_ (PyProof.Rows.ksk_s1 _ _) (fun _ => PyProof.Rows.ksk_l1 _ _) (fun a => ksk_t1 f a) ?_ ?_
  · intro d hd d' hd'
    obtain ⟨b, _, rfl⟩ := List.mem_map.mp hd
    obtain ⟨b', _, rfl⟩ := List.mem_map.mp hd'
    show PySem.W.alikeAll _ _ = true
    generalize b.2 ++ [i] = xs
    generalize b'.2 ++ [i] = ys
    induction xs generalizing ys with
    | nil => simp [PySem.W.alikeAll]
    | cons x xs ih => cases ys with
      | nil => simp [PySem.W.alikeAll]
      | cons y ys => simp only [List.map_cons, PySem.W.alikeAll, PySem.W.alike, Bool.true_and]; exact ih ys
  · refine .inl fun d hd => ?_
    obtain ⟨b, _, rfl⟩ := List.mem_map.mp hd
    cases hb2 : b.2 with
    | nil => exact ⟨_, _, rfl⟩
    | cons y ys => exact ⟨_, _, rfl⟩
  · intro b _
    have hdep : ∀ ns : List Int, PyData.depthAll (ns.map PyData.int) ≤ 1 := fun ns => by
      induction ns with
      | nil => simp [PyData.depthAll]
      | cons n ns ih => simp only [List.map_cons, PyData.depthAll, PyData.depth]; omega
    have := hdep (b.2 ++ [i])
    simp only [PyData.depth]
    omega
  · intro v b ev hb h tk k2
    subst ev
    obtain ⟨its2, rv2, ht2, _⟩ := I2.tuple (xt (hbs b hb))
    refine wpAny_call ?_
    refine PySem.W.kla_callFunE (o := _) (by show X.A.in1.in1.depth < recursionLimit; simp only [Around.in1]; omega) (k2 _ _ hf) rfl hco hgen rfl ⟨c', oc, vs, tq, rfl, k2 _ _ hoc, hdc, hvc⟩ ?_
    rw [hbind]
    refine wpAny_pure (wpAny_newFunctionEnv hcell (fun y hy => ?_) (fun h₁ hns hsb => ⟨(I2.nolimit.keeps k2).fresh _ hsb, ?_⟩) hsk)
    · have e : y = (x, .ref b.1) := by simpa using hy
      rw [e]
      exact hpar
    have kp : ∀ b o, h.get? b = some o → h₁.get? b = some o := fun b o e => hsb.extBut b o (Nat.ne_of_lt (Heap.lt_size e)) (Heap.get?_push_of_some _ e)
    refine PySem.W.kla_codeExpr (wpAny_mono (key_eval (s := { s2 with heap := h₁, toks := _ }) (E := fun _ _ => False) (ns := b.2) hsk hpar hns (by simp [List.lookup]) ((ht2.keeps k2).keeps kp) rv2 (hb100 b hb) hd) (fun v' s' hq => ?_) fun e s' hq => hq.elim)
    obtain ⟨h3, tk3, e3, k3, r3⟩ := hq
    exact ⟨h3, tk3, by rw [e3], fun b o e => k3 b o (kp b o e), r3⟩
  · intro out c3 h3 tk3 k3 hn3 hout hlen3 hEach
    have rvo : Vals ((bs.mergeSort (PySem.W.dataLe false fun b : Addr × List Int => PyData.tuple ((b.2 ++ [i]).map .int))).map fun b => V.ref b.1) out := by
      generalize bs.mergeSort (PySem.W.dataLe false fun b : Addr × List Int => PyData.tuple ((b.2 ++ [i]).map .int)) = cs at hEach ⊢
      clear hout hlen3
      induction hEach with
      | nil => exact .nil
      | cons r _ ih => exact .cons r ih
    rw [dataLe_tups (fun b : Addr × List Int => b.2 ++ [i])] at rvo
    have fr : s2.heap.objs.size ≤ s2.heap.objs.size + 1 := Nat.le_succ _
    refine ⟨.ref (s2.heap.objs.size + 1), _, I2.laid (t' := tk3) (o := .lst ((bs.mergeSort fun b c => decide (b.2 ++ [i] ≤ c.2 ++ [i])).map fun b => V.ref b.1)) k3 fr ?_, rfl, q H2 eN T2 _ (I2.hok.fresh fr)⟩
    exact ⟨by rw [← rvo.length.symm]; rw [hlen3, sizeLine_eq]; omega, out, c3, rvo, hout⟩
end
end
section
open PySem Spec PyProof.Rows L2
/-! ### == and != of dicts whose values are data -/
abbrev DpD (K : PySem.W.Frag) (H : Hp) : List (Key × V) → List (Key × PyData) → Prop := Paired fun p q => p.1 = q.1 ∧ Dp K H p.2 q.2 ∧ SeqAt.shaped q.2 = true
def datAt (es : List (Key × PyData)) (k : Key) : Option PyData := (es.find? fun e => decide (e.1 = k)).map (·.2)
def eqDD (ds es : List (Key × PyData)) : Bool := ds.length == es.length && ds.all fun p => match datAt es p.1 with
  | some e => PyData.eqv p.2 e
  | none => false
theorem dpd_at {K : PySem.W.Frag} {H : Hp} {ls : List (Key × V)} {es : List (Key × PyData)} (h : DpD K H ls es) (k : Key) : (valV ls k = none ∧ datAt es k = none) ∨ ∃ v d, valV ls k = some v ∧ datAt es k = some d ∧ Dp K H v d ∧ SeqAt.shaped d = true := by
  induction h with
  | nil => exact .inl ⟨rfl, rfl⟩
  | @cons p q ps qs h1 _ ih =>
    obtain ⟨e1, e2, e3⟩ := h1
    by_cases hk : p.1 = k
    · refine .inr ⟨p.2, q.2, valV_pos hk, ?_, e2, e3⟩
      have hq : q.1 = k := by rw [← e1]; exact hk
      simp [datAt, List.find?_cons, hq]
    · have hq : ¬ q.1 = k := by rw [← e1]; exact hk
      have e4 : datAt (q :: qs) k = datAt qs k := by simp [datAt, List.find?_cons, hq]
      rw [valV_neg hk, e4]
      exact ih
section
variable {X : Cx} {pins : List (Addr × Obj)} {σ : L2.St} {H : Hp} {s : Shared}
theorem keq_hits {A : Around} (I : Inv X pins σ H s) (hu : A.in1.units + 64 < cLine) {ls : List (Key × V)} {es : List (Key × PyData)} {vb : List (Key × Value)} (hl : DpD X.K H ls es) (rb : KV ls vb) : ∀ {ks : List (Key × V)} {ds : List (Key × PyData)} {va : List (Key × Value)}, DpD X.K H ks ds → KV ks va →
    PySem.W.KeqHits A.in1 s vb va (ds.all fun p => match datAt es p.1 with
      | some e => PyData.eqv p.2 e
      | none => false)
  | _, _, _, .nil, .nil => .nil
  | _, _, _, @Paired.cons _ _ _ p q ps qs h t, @Paired.cons _ _ _ _ r _ rs g u => by
    obtain ⟨e1, e2, e3⟩ := h
    obtain ⟨g1, g2⟩ := g
    obtain ⟨k, v⟩ := r
    have hk : p.1 = k := g1
    rw [List.all_cons]
    have rr : RelO (valV ls p.1) (valueAt vb p.1) := rb.val p.1
    rw [← e1]
    rcases dpd_at hl p.1 with ⟨n1, n2⟩ | ⟨w', d, n1, n2, n3, n4⟩
    · rw [n2]
      rw [n1] at rr
      have hn : valueAt vb p.1 = none := by
        cases z : valueAt vb p.1 with
        | none => rfl
        | some y => rw [z] at rr; exact rr.elim
      rw [hk] at hn
      simp only [Bool.false_and]
      exact .miss hn
    · rw [n2]
      rw [n1] at rr
      obtain ⟨y, hy, ry⟩ := rr.some_of
      rw [hk] at hy
      obtain ⟨as, r1⟩ := Dp.reads I q.2 p.2 v e2 g2
      obtain ⟨bs, r2⟩ := Dp.reads I d w' y n3 ry
      exact .hit hy (PySem.W.keq_at r1 r2 e3 n4 hu) (keq_hits I hu hl rb t u)
end
def rEqDD (K : PySem.W.Frag) (neg : Bool) : R2 := fun x y H Q => ∃ (a b : Addr) (ks ls : List (Key × V)) (ds es : List (Key × PyData)), x = .ref a ∧ y = .ref b ∧ H a = some (.dK ks) ∧ H b = some (.dK ls) ∧ DpD K H ks ds ∧ DpD K H ls es ∧ Q (.bl (if neg = true then !eqDD ds es else eqDD ds es)) H
section
variable {X : Cx}
theorem op_eqDD (hu : X.A.units + 70 < cLine) : OpR X (compareOp .Eq) (rEqDD X.K false) := by
  intro pins s σ H x y v u Q I rx ry h
  obtain ⟨a, b, ks, ls, ds, es, rfl, rfl, ea, eb, d1, d2, q⟩ := h
  obtain rfl : v = Value.ref a := rx
  obtain rfl : u = Value.ref b := ry
  obtain ⟨_, ya, va, ra, da⟩ := (show ObjOk X.prog X.w H s.heap a (.dK ks) from I.hok a _ ea)
  obtain ⟨_, yb, vb, rb, db⟩ := (show ObjOk X.prog X.w H s.heap b (.dK ls) from I.hok b _ eb)
  have hl : (va.length == vb.length) = (ds.length == es.length) := by rw [← ra.length, ← rb.length, Paired.length d1, Paired.length d2]
  refine PySem.W.keq_eq (knd := mixKind X.prog X.w) ya yb da db (by omega) (fun _ => keq_hits I (by show X.A.units + 1 + 64 < cLine; omega) d2 rb d1 ra) ⟨.bl _, H, I, rfl, ?_⟩
  rw [hl]
  exact q
theorem op_neDD (hu : X.A.units + 70 < cLine) : OpR X (compareOp .NotEq) (rEqDD X.K true) := by
  intro pins s σ H x y v u Q I rx ry h
  obtain ⟨a, b, ks, ls, ds, es, rfl, rfl, ea, eb, d1, d2, q⟩ := h
  obtain rfl : v = Value.ref a := rx
  obtain rfl : u = Value.ref b := ry
  obtain ⟨_, ya, va, ra, da⟩ := (show ObjOk X.prog X.w H s.heap a (.dK ks) from I.hok a _ ea)
  obtain ⟨_, yb, vb, rb, db⟩ := (show ObjOk X.prog X.w H s.heap b (.dK ls) from I.hok b _ eb)
  have hl : (va.length == vb.length) = (ds.length == es.length) := by rw [← ra.length, ← rb.length, Paired.length d1, Paired.length d2]
  refine PySem.W.keq_ne (knd := mixKind X.prog X.w) ya yb da db (by omega) (fun _ => keq_hits I (by show X.A.units + 1 + 64 < cLine; omega) d2 rb d1 ra) ⟨.bl _, H, I, rfl, ?_⟩
  rw [hl]
  exact q
end
end
section
open PySem Spec PyProof.Rows L2
def defsL : List (Str × Nat) := [(("is_integer" : Str), (8 : Nat)), (("is_day" : Str), (14 : Nat)), (("many_paths" : Str), (15 : Nat)), (("need_days" : Str), (16 : Nat)), (("paths_in" : Str), (17 : Nat)), (("is_price" : Str), (20 : Nat)), (("is_label" : Str), (24 : Nat)), (("is_mark" : Str), (43 : Nat)), (("is_day_number" : Str), (44 : Nat)), (("are_own" : Str), (45 : Nat)), (("is_form" : Str), (46 : Nat)), (("places_in" : Str), (47 : Nat)), (("paths_to" : Str), (48 : Nat)), (("term_at" : Str), (49 : Nat)), (("need_term" : Str), (50 : Nat)), (("paid_at" : Str), (51 : Nat)), (("paid_by" : Str), (52 : Nat)), (("knows_day" : Str), (53 : Nat)), (("claim_in" : Str), (54 : Nat)), (("claim_or_none" : Str), (57 : Nat)), (("_law_mixed" : Str), (60 : Nat)), (("_law_begin" : Str), (61 : Nat)), (("_law_draw" : Str), (62 : Nat)), (("_law_of" : Str), (63 : Nat)), (("_law_days" : Str), (64 : Nat)), (("_law_paths" : Str), (65 : Nat)), (("_law_pays" : Str), (66 : Nat)), (("_law_places" : Str), (67 : Nat)), (("_law_fault" : Str), (68 : Nat)), (("_law_term" : Str), (69 : Nat)), (("_law_told" : Str), (70 : Nat)), (("_law_claims" : Str), (71 : Nat)), (("_law_stands_right" : Str), (72 : Nat)), (("_law_deed" : Str), (73 : Nat)), (("_law_refused_right" : Str), (74 : Nat)), (("_law_many_right" : Str), (75 : Nat)), (("law" : Str), (76 : Nat))]
def freeL : List Str := [("isinstance" : Str), ("len" : Str), ("all" : Str), ("min" : Str), ("max" : Str), ("sorted" : Str), ("repr" : Str), ("range" : Str), ("enumerate" : Str), ("zip" : Str), ("int" : Str), ("bool" : Str), ("tuple" : Str), ("str" : Str), ("list" : Str), ("ValueError" : Str), ("KeyError" : Str), ("OverflowError" : Str)]
def intsL : List (Str × Int) := [(("MOST_DAYS" : Str), (4 : Int)), (("MOST_IN_DAY" : Str), (8 : Int)), (("MOST_NUMBER" : Str), (100 : Int)), (("MOST_PATHS" : Str), (32 : Int)), (("MOST_PRICE" : Str), (10000 : Int)), (("MOST_LETTERS" : Str), (8 : Int)), (("MOST_WORDS" : Str), (20 : Int)), (("MOST_DEEP" : Str), (8 : Int)), (("MOST_MARK" : Str), (1000 : Int)), (("MOST_LABELS" : Str), (20 : Int))]
def strsL : List (Str × Str) := [(("LETTERS" : Str), ("abcdefghijklmnopqrstuvwxyz" : Str)), (("CASH" : Str), ("cash" : Str)), (("AT" : Str), ("at" : Str)), (("ABOVE" : Str), ("above" : Str)), (("BELOW" : Str), ("below" : Str)), (("LOWEST" : Str), ("lowest" : Str)), (("HIGHEST" : Str), ("highest" : Str)), (("BOTH" : Str), ("both" : Str)), (("SHORT" : Str), ("short" : Str)), (("TIMES" : Str), ("times" : Str)), (("LESSER" : Str), ("lesser" : Str)), (("GREATER" : Str), ("greater" : Str)), (("IF" : Str), ("if" : Str))]
def lensL : List (Str × Int) := [("cash", 2), ("at", 2), ("above", 3), ("below", 3), ("lowest", 2), ("highest", 2), ("both", 3), ("short", 2), ("times", 3), ("lesser", 3), ("greater", 3), ("if", 5)]
def plcsL : List (Str × List Int) := [("both", [1, 2]), ("short", [1]), ("times", [1]), ("lesser", [1, 2]), ("greater", [1, 2]), ("if", [3, 4])]
def excL : List (Str × Str × Nat × List Value × String) := [("BadDays", "given", 2, tlVE, "ValueError.__new__"), ("BadLabel", "given", 3, tlVE, "ValueError.__new__"), ("BadTerm", "path", 4, tlVE, "ValueError.__new__"), ("Missing", "given", 5, tlKE, "LookupError.__new__"), ("TooMany", "most", 6, tlOE, "OverflowError.__new__")]
def excN : List Str := [("BadDays" : Str), ("BadLabel" : Str), ("BadTerm" : Str), ("Missing" : Str), ("TooMany" : Str)]
def methL : List (Str × Nat) := [(("__init__" : Str), (0 : Nat)), (("put" : Str), (1 : Nat)), (("need_there" : Str), (2 : Nat)), (("take" : Str), (3 : Nat)), (("seek" : Str), (4 : Nat)), (("labels" : Str), (5 : Nat)), (("claims_on" : Str), (6 : Nat)), (("alike" : Str), (7 : Nat)), (("paying" : Str), (8 : Nat)), (("__len__" : Str), (9 : Nat)), (("__contains__" : Str), (10 : Nat)), (("__eq__" : Str), (11 : Nat))]
def plainT : List String := ["NoneType", "int", "dict"]
def plcsN : List Str := ["cash", "at", "above", "below", "lowest", "highest"]
/-! ### the facts of the top -/
/-- a def of a class body -/
def mem (C : Nat) (i : Nat) : Stmt := match top C with
  | .ClassDef _ _ _ body _ _ _ _ _ _ _ => body.getD i (.Pass ⟨0, 0, 0, 0⟩)
  | s => s
/-- a method of the class at C -/
structure HasMe (K : PySem.W.Frag) (C : Addr) (c m : Str) (st : Stmt) (f : Addr) : Prop where
  fn : ∃ fd, Fun K m (c ++ "." ++ m) st f fd
  at_ : PySem.W.findIn K (.ref C) m = some (some (.ref f))
  isF : PySem.W.isFn K (.ref f) = true
  kp : PySem.W.keepIn K (.ref f) = true
/-- an own exception class: its name, its field, its place in the top, its built-in mro, its maker -/
structure ExF (K : PySem.W.Frag) (mg : Str → Option Value) (x fld : Str) (i : Nat) (tl : List Value) (newId : String) : Prop where
  m : mg x = some (.ref (He.ga K x))
  g : ExG K (He.ga K x) tl newId
  it : PySem.W.findIn K (.ref (He.ga K x)) "__init__" = some (some (.ref (He.ma K (He.ga K x) "__init__")))
  tI : PySem.W.typeIn K (.ref (He.ma K (He.ga K x) "__init__")) = some (.type "function")
  fn : ∃ fd, Fun K "__init__" (x ++ ".__init__") (mem i 0) (He.ma K (He.ga K x) "__init__") fd
  no : PySem.W.findIn K (.ref (He.ga K x)) fld = some none
  ec : ExcC K (He.ga K x)
  xf : XfC K (He.ga K x)
/-- what all texts lean on -/
structure Fx (K : PySem.W.Frag) (mg : Str → Option Value) (w : World) : Prop where
  fn : ∀ p ∈ defsL, HasFn K mg p.1 (top p.2)
  free : ∀ x ∈ freeL, mg x = none
  nums : ∀ p ∈ intsL, Glob mg p.1 (.int p.2)
  txts : ∀ p ∈ strsL, Glob mg p.1 (.str p.2)
  lens : ∃ d es n, mg "LENGTHS" = some (.ref d) ∧ KDict K w d es n ∧ ∀ p ∈ lensL, KGet K d p.1 (some (.int p.2))
  plcs : ∃ d es n, mg "PLACES" = some (.ref d) ∧ KDict K w d es n ∧ (∀ p ∈ plcsL, ∃ a, KGet K d p.1 (some (.ref a)) ∧ ∀ H, SqT K H a (p.2.map .int)) ∧ ∀ x ∈ plcsN, KGet K d x none
  exf : ∀ p ∈ excL, ExF K mg p.1 p.2.1 p.2.2.1 p.2.2.2.1 p.2.2.2.2
  stp : mg "StepError" = some (.ref (He.ga K "StepError")) ∧ PySem.W.readsIn K (He.ga K "StepError") (.type "type") = true ∧ PySem.W.specialIn K (.ref (He.ga K "StepError")) "__getattribute__" = some (some (.builtin "type.__getattribute__")) ∧ PySem.W.findCls K (.ref (He.ga K "StepError")) (.type "type") "__init__" = some (.val (.builtin "ValueError.__init__"))
  exm : ∀ x ∈ excN, ∀ y ∈ excN, PySem.W.exmOne K (.ref (He.ga K x)) (.ref (He.ga K y)) = some (decide (x = y)) ∧ PySem.W.kitOne K (.ref (He.ga K x)) (.ref (He.ga K y)) = some (decide (x = y))
  shm : mg "Shelf" = some (.ref (He.ga K "Shelf")) ∧ Cls K (He.ga K "Shelf") ∧ Mk K (He.ga K "Shelf") (He.ma K (He.ga K "Shelf") "__init__") ∧ NoAttr K (He.ga K "Shelf") "own_terms"
  shf : ∀ p ∈ methL, HasMe K (He.ga K "Shelf") "Shelf" p.1 (mem 58 p.2) (He.ma K (He.ga K "Shelf") p.1)
  shs : PySem.W.findIn K (.ref (He.ga K "Shelf")) "__ne__" = some (some (.builtin "object.__ne__")) ∧ PySem.W.mroIn K (He.ga K "Shelf") (.type "object") = some true ∧ PySem.W.findIn K (.ref (He.ga K "Shelf")) "__class__" = some (some (.builtin "object.__class__")) ∧ PySem.W.specialIn K (.builtin "object.__class__") "__get__" = some (some (.builtin "getset_descriptor.__get__")) ∧ PySem.W.takesIn K (.builtin "object.__class__") = some true
  shk : PySem.W.kitOne K (.ref (He.ga K "Shelf")) (.ref (He.ga K "Shelf")) = some true ∧ ∀ t ∈ plainT, PySem.W.kitOne K (.type t) (.ref (He.ga K "Shelf")) = some false ∧ PySem.W.notFirst K (He.ga K "Shelf") (.type t) = true
  shn : PySem.W.notFirst K (He.ga K "Shelf") (.ref (He.ga K "Shelf")) = true
  sysm : ∃ o, K.lookup sysModules = some o ∧ o.cls = .type "dict"
section
variable {K : PySem.W.Frag} {mg : Str → Option Value} {w : World}
theorem Fx.n_isinstance (fx : Fx K mg w) : mg "isinstance" = none := fx.free _ (List.mem_of_getElem? (i := 0) rfl)
theorem Fx.n_len (fx : Fx K mg w) : mg "len" = none := fx.free _ (List.mem_of_getElem? (i := 1) rfl)
theorem Fx.n_all (fx : Fx K mg w) : mg "all" = none := fx.free _ (List.mem_of_getElem? (i := 2) rfl)
theorem Fx.n_min (fx : Fx K mg w) : mg "min" = none := fx.free _ (List.mem_of_getElem? (i := 3) rfl)
theorem Fx.n_max (fx : Fx K mg w) : mg "max" = none := fx.free _ (List.mem_of_getElem? (i := 4) rfl)
theorem Fx.n_sorted (fx : Fx K mg w) : mg "sorted" = none := fx.free _ (List.mem_of_getElem? (i := 5) rfl)
theorem Fx.n_repr (fx : Fx K mg w) : mg "repr" = none := fx.free _ (List.mem_of_getElem? (i := 6) rfl)
theorem Fx.n_range (fx : Fx K mg w) : mg "range" = none := fx.free _ (List.mem_of_getElem? (i := 7) rfl)
theorem Fx.n_enumerate (fx : Fx K mg w) : mg "enumerate" = none := fx.free _ (List.mem_of_getElem? (i := 8) rfl)
theorem Fx.n_zip (fx : Fx K mg w) : mg "zip" = none := fx.free _ (List.mem_of_getElem? (i := 9) rfl)
theorem Fx.n_int (fx : Fx K mg w) : mg "int" = none := fx.free _ (List.mem_of_getElem? (i := 10) rfl)
theorem Fx.n_bool (fx : Fx K mg w) : mg "bool" = none := fx.free _ (List.mem_of_getElem? (i := 11) rfl)
theorem Fx.n_tuple (fx : Fx K mg w) : mg "tuple" = none := fx.free _ (List.mem_of_getElem? (i := 12) rfl)
theorem Fx.n_str (fx : Fx K mg w) : mg "str" = none := fx.free _ (List.mem_of_getElem? (i := 13) rfl)
theorem Fx.n_list (fx : Fx K mg w) : mg "list" = none := fx.free _ (List.mem_of_getElem? (i := 14) rfl)
theorem Fx.n_ValueError (fx : Fx K mg w) : mg "ValueError" = none := fx.free _ (List.mem_of_getElem? (i := 15) rfl)
theorem Fx.n_KeyError (fx : Fx K mg w) : mg "KeyError" = none := fx.free _ (List.mem_of_getElem? (i := 16) rfl)
theorem Fx.n_OverflowError (fx : Fx K mg w) : mg "OverflowError" = none := fx.free _ (List.mem_of_getElem? (i := 17) rfl)
theorem Fx.g_MOST_DAYS (fx : Fx K mg w) : Glob mg "MOST_DAYS" (.int 4) := fx.nums ("MOST_DAYS", 4) (List.mem_of_getElem? (i := 0) rfl)
theorem Fx.g_MOST_IN_DAY (fx : Fx K mg w) : Glob mg "MOST_IN_DAY" (.int 8) := fx.nums ("MOST_IN_DAY", 8) (List.mem_of_getElem? (i := 1) rfl)
theorem Fx.g_MOST_NUMBER (fx : Fx K mg w) : Glob mg "MOST_NUMBER" (.int 100) := fx.nums ("MOST_NUMBER", 100) (List.mem_of_getElem? (i := 2) rfl)
theorem Fx.g_MOST_PATHS (fx : Fx K mg w) : Glob mg "MOST_PATHS" (.int 32) := fx.nums ("MOST_PATHS", 32) (List.mem_of_getElem? (i := 3) rfl)
theorem Fx.g_MOST_PRICE (fx : Fx K mg w) : Glob mg "MOST_PRICE" (.int 10000) := fx.nums ("MOST_PRICE", 10000) (List.mem_of_getElem? (i := 4) rfl)
theorem Fx.g_MOST_LETTERS (fx : Fx K mg w) : Glob mg "MOST_LETTERS" (.int 8) := fx.nums ("MOST_LETTERS", 8) (List.mem_of_getElem? (i := 5) rfl)
theorem Fx.g_MOST_WORDS (fx : Fx K mg w) : Glob mg "MOST_WORDS" (.int 20) := fx.nums ("MOST_WORDS", 20) (List.mem_of_getElem? (i := 6) rfl)
theorem Fx.g_MOST_DEEP (fx : Fx K mg w) : Glob mg "MOST_DEEP" (.int 8) := fx.nums ("MOST_DEEP", 8) (List.mem_of_getElem? (i := 7) rfl)
theorem Fx.g_MOST_MARK (fx : Fx K mg w) : Glob mg "MOST_MARK" (.int 1000) := fx.nums ("MOST_MARK", 1000) (List.mem_of_getElem? (i := 8) rfl)
theorem Fx.g_MOST_LABELS (fx : Fx K mg w) : Glob mg "MOST_LABELS" (.int 20) := fx.nums ("MOST_LABELS", 20) (List.mem_of_getElem? (i := 9) rfl)
theorem Fx.g_LETTERS (fx : Fx K mg w) : Glob mg "LETTERS" (.str "abcdefghijklmnopqrstuvwxyz") := fx.txts ("LETTERS", "abcdefghijklmnopqrstuvwxyz") (List.mem_of_getElem? (i := 0) rfl)
theorem Fx.g_CASH (fx : Fx K mg w) : Glob mg "CASH" (.str "cash") := fx.txts ("CASH", "cash") (List.mem_of_getElem? (i := 1) rfl)
theorem Fx.g_AT (fx : Fx K mg w) : Glob mg "AT" (.str "at") := fx.txts ("AT", "at") (List.mem_of_getElem? (i := 2) rfl)
theorem Fx.g_ABOVE (fx : Fx K mg w) : Glob mg "ABOVE" (.str "above") := fx.txts ("ABOVE", "above") (List.mem_of_getElem? (i := 3) rfl)
theorem Fx.g_BELOW (fx : Fx K mg w) : Glob mg "BELOW" (.str "below") := fx.txts ("BELOW", "below") (List.mem_of_getElem? (i := 4) rfl)
theorem Fx.g_LOWEST (fx : Fx K mg w) : Glob mg "LOWEST" (.str "lowest") := fx.txts ("LOWEST", "lowest") (List.mem_of_getElem? (i := 5) rfl)
theorem Fx.g_HIGHEST (fx : Fx K mg w) : Glob mg "HIGHEST" (.str "highest") := fx.txts ("HIGHEST", "highest") (List.mem_of_getElem? (i := 6) rfl)
theorem Fx.g_BOTH (fx : Fx K mg w) : Glob mg "BOTH" (.str "both") := fx.txts ("BOTH", "both") (List.mem_of_getElem? (i := 7) rfl)
theorem Fx.g_SHORT (fx : Fx K mg w) : Glob mg "SHORT" (.str "short") := fx.txts ("SHORT", "short") (List.mem_of_getElem? (i := 8) rfl)
theorem Fx.g_TIMES (fx : Fx K mg w) : Glob mg "TIMES" (.str "times") := fx.txts ("TIMES", "times") (List.mem_of_getElem? (i := 9) rfl)
theorem Fx.g_LESSER (fx : Fx K mg w) : Glob mg "LESSER" (.str "lesser") := fx.txts ("LESSER", "lesser") (List.mem_of_getElem? (i := 10) rfl)
theorem Fx.g_GREATER (fx : Fx K mg w) : Glob mg "GREATER" (.str "greater") := fx.txts ("GREATER", "greater") (List.mem_of_getElem? (i := 11) rfl)
theorem Fx.g_IF (fx : Fx K mg w) : Glob mg "IF" (.str "if") := fx.txts ("IF", "if") (List.mem_of_getElem? (i := 12) rfl)
theorem Fx.d_is_integer (fx : Fx K mg w) : HasFn K mg "is_integer" (top 8) := fx.fn ("is_integer", 8) (List.mem_of_getElem? (i := 0) rfl)
theorem Fx.d_is_day (fx : Fx K mg w) : HasFn K mg "is_day" (top 14) := fx.fn ("is_day", 14) (List.mem_of_getElem? (i := 1) rfl)
theorem Fx.d_many_paths (fx : Fx K mg w) : HasFn K mg "many_paths" (top 15) := fx.fn ("many_paths", 15) (List.mem_of_getElem? (i := 2) rfl)
theorem Fx.d_need_days (fx : Fx K mg w) : HasFn K mg "need_days" (top 16) := fx.fn ("need_days", 16) (List.mem_of_getElem? (i := 3) rfl)
theorem Fx.d_paths_in (fx : Fx K mg w) : HasFn K mg "paths_in" (top 17) := fx.fn ("paths_in", 17) (List.mem_of_getElem? (i := 4) rfl)
theorem Fx.d_is_price (fx : Fx K mg w) : HasFn K mg "is_price" (top 20) := fx.fn ("is_price", 20) (List.mem_of_getElem? (i := 5) rfl)
theorem Fx.d_is_label (fx : Fx K mg w) : HasFn K mg "is_label" (top 24) := fx.fn ("is_label", 24) (List.mem_of_getElem? (i := 6) rfl)
theorem Fx.d_is_mark (fx : Fx K mg w) : HasFn K mg "is_mark" (top 43) := fx.fn ("is_mark", 43) (List.mem_of_getElem? (i := 7) rfl)
theorem Fx.d_is_day_number (fx : Fx K mg w) : HasFn K mg "is_day_number" (top 44) := fx.fn ("is_day_number", 44) (List.mem_of_getElem? (i := 8) rfl)
theorem Fx.d_are_own (fx : Fx K mg w) : HasFn K mg "are_own" (top 45) := fx.fn ("are_own", 45) (List.mem_of_getElem? (i := 9) rfl)
theorem Fx.d_is_form (fx : Fx K mg w) : HasFn K mg "is_form" (top 46) := fx.fn ("is_form", 46) (List.mem_of_getElem? (i := 10) rfl)
theorem Fx.d_places_in (fx : Fx K mg w) : HasFn K mg "places_in" (top 47) := fx.fn ("places_in", 47) (List.mem_of_getElem? (i := 11) rfl)
theorem Fx.d_paths_to (fx : Fx K mg w) : HasFn K mg "paths_to" (top 48) := fx.fn ("paths_to", 48) (List.mem_of_getElem? (i := 12) rfl)
theorem Fx.d_term_at (fx : Fx K mg w) : HasFn K mg "term_at" (top 49) := fx.fn ("term_at", 49) (List.mem_of_getElem? (i := 13) rfl)
theorem Fx.d_need_term (fx : Fx K mg w) : HasFn K mg "need_term" (top 50) := fx.fn ("need_term", 50) (List.mem_of_getElem? (i := 14) rfl)
theorem Fx.d_paid_at (fx : Fx K mg w) : HasFn K mg "paid_at" (top 51) := fx.fn ("paid_at", 51) (List.mem_of_getElem? (i := 15) rfl)
theorem Fx.d_paid_by (fx : Fx K mg w) : HasFn K mg "paid_by" (top 52) := fx.fn ("paid_by", 52) (List.mem_of_getElem? (i := 16) rfl)
theorem Fx.d_knows_day (fx : Fx K mg w) : HasFn K mg "knows_day" (top 53) := fx.fn ("knows_day", 53) (List.mem_of_getElem? (i := 17) rfl)
theorem Fx.d_claim_in (fx : Fx K mg w) : HasFn K mg "claim_in" (top 54) := fx.fn ("claim_in", 54) (List.mem_of_getElem? (i := 18) rfl)
theorem Fx.d_claim_or_none (fx : Fx K mg w) : HasFn K mg "claim_or_none" (top 57) := fx.fn ("claim_or_none", 57) (List.mem_of_getElem? (i := 19) rfl)
theorem Fx.d__law_mixed (fx : Fx K mg w) : HasFn K mg "_law_mixed" (top 60) := fx.fn ("_law_mixed", 60) (List.mem_of_getElem? (i := 20) rfl)
theorem Fx.d__law_begin (fx : Fx K mg w) : HasFn K mg "_law_begin" (top 61) := fx.fn ("_law_begin", 61) (List.mem_of_getElem? (i := 21) rfl)
theorem Fx.d__law_draw (fx : Fx K mg w) : HasFn K mg "_law_draw" (top 62) := fx.fn ("_law_draw", 62) (List.mem_of_getElem? (i := 22) rfl)
theorem Fx.d__law_of (fx : Fx K mg w) : HasFn K mg "_law_of" (top 63) := fx.fn ("_law_of", 63) (List.mem_of_getElem? (i := 23) rfl)
theorem Fx.d__law_days (fx : Fx K mg w) : HasFn K mg "_law_days" (top 64) := fx.fn ("_law_days", 64) (List.mem_of_getElem? (i := 24) rfl)
theorem Fx.d__law_paths (fx : Fx K mg w) : HasFn K mg "_law_paths" (top 65) := fx.fn ("_law_paths", 65) (List.mem_of_getElem? (i := 25) rfl)
theorem Fx.d__law_pays (fx : Fx K mg w) : HasFn K mg "_law_pays" (top 66) := fx.fn ("_law_pays", 66) (List.mem_of_getElem? (i := 26) rfl)
theorem Fx.d__law_places (fx : Fx K mg w) : HasFn K mg "_law_places" (top 67) := fx.fn ("_law_places", 67) (List.mem_of_getElem? (i := 27) rfl)
theorem Fx.d__law_fault (fx : Fx K mg w) : HasFn K mg "_law_fault" (top 68) := fx.fn ("_law_fault", 68) (List.mem_of_getElem? (i := 28) rfl)
theorem Fx.d__law_term (fx : Fx K mg w) : HasFn K mg "_law_term" (top 69) := fx.fn ("_law_term", 69) (List.mem_of_getElem? (i := 29) rfl)
theorem Fx.d__law_told (fx : Fx K mg w) : HasFn K mg "_law_told" (top 70) := fx.fn ("_law_told", 70) (List.mem_of_getElem? (i := 30) rfl)
theorem Fx.d__law_claims (fx : Fx K mg w) : HasFn K mg "_law_claims" (top 71) := fx.fn ("_law_claims", 71) (List.mem_of_getElem? (i := 31) rfl)
theorem Fx.d__law_stands_right (fx : Fx K mg w) : HasFn K mg "_law_stands_right" (top 72) := fx.fn ("_law_stands_right", 72) (List.mem_of_getElem? (i := 32) rfl)
theorem Fx.d__law_deed (fx : Fx K mg w) : HasFn K mg "_law_deed" (top 73) := fx.fn ("_law_deed", 73) (List.mem_of_getElem? (i := 33) rfl)
theorem Fx.d__law_refused_right (fx : Fx K mg w) : HasFn K mg "_law_refused_right" (top 74) := fx.fn ("_law_refused_right", 74) (List.mem_of_getElem? (i := 34) rfl)
theorem Fx.d__law_many_right (fx : Fx K mg w) : HasFn K mg "_law_many_right" (top 75) := fx.fn ("_law_many_right", 75) (List.mem_of_getElem? (i := 35) rfl)
theorem Fx.d_law (fx : Fx K mg w) : HasFn K mg "law" (top 76) := fx.fn ("law", 76) (List.mem_of_getElem? (i := 36) rfl)
theorem Fx.x_BadDays (fx : Fx K mg w) : ExF K mg "BadDays" "given" 2 tlVE "ValueError.__new__" := fx.exf ("BadDays", "given", 2, tlVE, "ValueError.__new__") (List.mem_of_getElem? (i := 0) rfl)
theorem Fx.x_BadLabel (fx : Fx K mg w) : ExF K mg "BadLabel" "given" 3 tlVE "ValueError.__new__" := fx.exf ("BadLabel", "given", 3, tlVE, "ValueError.__new__") (List.mem_of_getElem? (i := 1) rfl)
theorem Fx.x_BadTerm (fx : Fx K mg w) : ExF K mg "BadTerm" "path" 4 tlVE "ValueError.__new__" := fx.exf ("BadTerm", "path", 4, tlVE, "ValueError.__new__") (List.mem_of_getElem? (i := 2) rfl)
theorem Fx.x_Missing (fx : Fx K mg w) : ExF K mg "Missing" "given" 5 tlKE "LookupError.__new__" := fx.exf ("Missing", "given", 5, tlKE, "LookupError.__new__") (List.mem_of_getElem? (i := 3) rfl)
theorem Fx.x_TooMany (fx : Fx K mg w) : ExF K mg "TooMany" "most" 6 tlOE "OverflowError.__new__" := fx.exf ("TooMany", "most", 6, tlOE, "OverflowError.__new__") (List.mem_of_getElem? (i := 4) rfl)
theorem Fx.s_init (fx : Fx K mg w) : HasMe K (He.ga K "Shelf") "Shelf" "__init__" (mem 58 0) (He.ma K (He.ga K "Shelf") "__init__") := fx.shf ("__init__", 0) (List.mem_of_getElem? (i := 0) rfl)
theorem Fx.s_put (fx : Fx K mg w) : HasMe K (He.ga K "Shelf") "Shelf" "put" (mem 58 1) (He.ma K (He.ga K "Shelf") "put") := fx.shf ("put", 1) (List.mem_of_getElem? (i := 1) rfl)
theorem Fx.s_need_there (fx : Fx K mg w) : HasMe K (He.ga K "Shelf") "Shelf" "need_there" (mem 58 2) (He.ma K (He.ga K "Shelf") "need_there") := fx.shf ("need_there", 2) (List.mem_of_getElem? (i := 2) rfl)
theorem Fx.s_take (fx : Fx K mg w) : HasMe K (He.ga K "Shelf") "Shelf" "take" (mem 58 3) (He.ma K (He.ga K "Shelf") "take") := fx.shf ("take", 3) (List.mem_of_getElem? (i := 3) rfl)
theorem Fx.s_seek (fx : Fx K mg w) : HasMe K (He.ga K "Shelf") "Shelf" "seek" (mem 58 4) (He.ma K (He.ga K "Shelf") "seek") := fx.shf ("seek", 4) (List.mem_of_getElem? (i := 4) rfl)
theorem Fx.s_labels (fx : Fx K mg w) : HasMe K (He.ga K "Shelf") "Shelf" "labels" (mem 58 5) (He.ma K (He.ga K "Shelf") "labels") := fx.shf ("labels", 5) (List.mem_of_getElem? (i := 5) rfl)
theorem Fx.s_claims_on (fx : Fx K mg w) : HasMe K (He.ga K "Shelf") "Shelf" "claims_on" (mem 58 6) (He.ma K (He.ga K "Shelf") "claims_on") := fx.shf ("claims_on", 6) (List.mem_of_getElem? (i := 6) rfl)
theorem Fx.s_alike (fx : Fx K mg w) : HasMe K (He.ga K "Shelf") "Shelf" "alike" (mem 58 7) (He.ma K (He.ga K "Shelf") "alike") := fx.shf ("alike", 7) (List.mem_of_getElem? (i := 7) rfl)
theorem Fx.s_paying (fx : Fx K mg w) : HasMe K (He.ga K "Shelf") "Shelf" "paying" (mem 58 8) (He.ma K (He.ga K "Shelf") "paying") := fx.shf ("paying", 8) (List.mem_of_getElem? (i := 8) rfl)
theorem Fx.s_len (fx : Fx K mg w) : HasMe K (He.ga K "Shelf") "Shelf" "__len__" (mem 58 9) (He.ma K (He.ga K "Shelf") "__len__") := fx.shf ("__len__", 9) (List.mem_of_getElem? (i := 9) rfl)
theorem Fx.s_contains (fx : Fx K mg w) : HasMe K (He.ga K "Shelf") "Shelf" "__contains__" (mem 58 10) (He.ma K (He.ga K "Shelf") "__contains__") := fx.shf ("__contains__", 10) (List.mem_of_getElem? (i := 10) rfl)
theorem Fx.s_eq (fx : Fx K mg w) : HasMe K (He.ga K "Shelf") "Shelf" "__eq__" (mem 58 11) (He.ma K (He.ga K "Shelf") "__eq__") := fx.shf ("__eq__", 11) (List.mem_of_getElem? (i := 11) rfl)
end
/-! ### heaps -/
/-- all that is tracked stays -/
def Ext (H H' : Hp) : Prop := ∀ b o, H b = some o → H' b = some o
theorem Ext.refl (H : Hp) : Ext H H := fun _ _ h => h
theorem Ext.trans {H H1 H2 : Hp} (a : Ext H H1) (b : Ext H1 H2) : Ext H H2 := fun c o h => b c o (a c o h)
theorem Ext.new {H : Hp} {p : Addr} {o : HO} (h : H p = none) : Ext H (upd H p o) := fun b u e => by
  rw [upd_ne (ne_of_none e h)]
  exact e
theorem Ext.out {H H1 : Hp} (a : Ext H H1) {p : Addr} {o : HO} (h : H p = none) : Ext H (upd H1 p o) := fun b u e => by
  rw [upd_ne (ne_of_none e h)]
  exact a b u e
theorem Ext.none {H H1 : Hp} (a : Ext H H1) {p : Addr} (h : H1 p = none) : H p = none := by
  cases e : H p with
  | none => rfl
  | some o =>
    rw [a _ _ e] at h
    cases h
section
variable {K : PySem.W.Frag} {H H' : Hp} {a : Addr} {xs : List V}
theorem Ext.rd (e : Ext H H') {u : HO} (h : Rd H a u) : Rd H' a u := by
  rcases h with h | ⟨o, h⟩
  · exact .inl (e _ _ h)
  · exact .inr ⟨o, e _ _ h⟩
theorem Ext.tup (e : Ext H H') (h : SqT K H a xs) : SqT K H' a xs := h.elim (fun h => .inl (e.rd h)) .inr
theorem Ext.lst (e : Ext H H') (h : SqL K H a xs) : SqL K H' a xs := h.elim (fun h => .inl (e.rd h)) .inr
end
/-- tuples stay -/
structure TK (K : PySem.W.Frag) (H H' : Hp) : Prop where
  sq : ∀ a xs, SqT K H a xs → SqT K H' a xs
  tp : ∀ a xs, H a = some (.tup xs) → H' a = some (.tup xs)
instance {K : PySem.W.Frag} {H H' : Hp} : CoeFun (TK K H H') (fun _ => ∀ a xs, SqT K H a xs → SqT K H' a xs) := ⟨TK.sq⟩
theorem TK.refl {K : PySem.W.Frag} (H : Hp) : TK K H H := ⟨fun _ _ h => h, fun _ _ h => h⟩
theorem TK.trans {K : PySem.W.Frag} {H H1 H2 : Hp} (a : TK K H H1) (b : TK K H1 H2) : TK K H H2 := ⟨fun c xs h => b.sq c xs (a.sq c xs h), fun c xs h => b.tp c xs (a.tp c xs h)⟩
theorem Ext.tk {K : PySem.W.Frag} {H H' : Hp} (e : Ext H H') : TK K H H' := ⟨fun _ _ h => e.tup h, fun _ _ h => e _ _ h⟩
/-- a thing that is no tuple and not known is written -/
theorem TK.put {K : PySem.W.Frag} {H : Hp} {p : Addr} {o u : HO} (h : H p = some u) (n1 : ∀ xs, u ≠ .tup xs) (n2 : ∀ ob x, u ≠ .frz ob x) : TK K H (upd H p o) := by
  have t : ∀ a xs, H a = some (.tup xs) → upd H p o a = some (.tup xs) := fun a xs h1 => by
    rw [upd_ne (ne_of h1 h fun z => n1 xs z.symm)]
    exact h1
  refine ⟨fun a ys h1 => ?_, t⟩
  rcases h1 with (h1 | ⟨ob, h1⟩) | h1
  · exact .inl (.inl (t _ _ h1))
  · refine .inl (.inr ⟨ob, ?_⟩)
    rw [upd_ne (ne_of h1 h fun z => n2 ob _ z.symm)]
    exact h1
  · exact .inr h1
theorem TK.lst {K : PySem.W.Frag} {H : Hp} {p : Addr} {xs : List V} {o : HO} (h : H p = some (.lst xs)) : TK K H (upd H p o) := TK.put h (fun _ z => by cases z) fun _ _ z => by cases z
theorem TK.dK {K : PySem.W.Frag} {H : Hp} {p : Addr} {kvs : List (Key × V)} {o : HO} (h : H p = some (.dK kvs)) : TK K H (upd H p o) := TK.put h (fun _ z => by cases z) fun _ _ z => by cases z
theorem TK.dT {K : PySem.W.Frag} {H : Hp} {p : Addr} {kvs : List (List Key × V)} {o : HO} (h : H p = some (.dT kvs)) : TK K H (upd H p o) := TK.put h (fun _ z => by cases z) fun _ _ z => by cases z
/-- a comprehension whose turns leave all that stood: R tells of the list so far, by tuples alone -/
theorem lc_rel {K : PySem.W.Frag} {J : It} {n : Nat} {G : Hp → Prop} {Y : Nat → Hp → V → Hp → Prop} {g : TG} {tt : TT} {te : TE} {vs : List Nat} {σ : L2.St} {H1 : Hp} {D : Addr} {Qd : Hp → Prop} (w : Walk J n G Y) (hD : H1 D = none) (hn : n ≤ 1000000)
    (hG : ∀ H, Ext H1 H → G H) (R : Nat → List V → Hp → Prop) (h0 : R 0 [] (upd H1 D (.lst []))) (hR : ∀ i acc H H', TK K H H' → R i acc H → R i acc H') (hY : ∀ i H x H', Y i H x H' → Ext H H')
    (hs : ∀ i x H acc H', i < n → Ext H1 H' → TK K H H' → H' D = some (.lst acc) → R i acc H' → Y i H x H' → ∀ (Kt : V → Hp → Prop) (Kf : Hp → Prop), (∀ y H4, Ext H' H4 → R (i + 1) (acc ++ [y]) H4 → Kt y H4) → (∀ H3, Ext H' H3 → R (i + 1) acc H3 → Kf H3) →
      g x (wipe σ vs) H' fun σ2 H2 => wipe σ2 vs = wipe σ vs ∧ tt σ2 H2 fun b H3 => if b = true then te σ2 H3 Kt else Kf H3)
    (hd : ∀ H acc, Ext H1 H → H D = some (.lst acc) → R n acc H → Qd H) :
    ∃ W : Nat → Nat → Hp → Prop, (∃ m, W 0 m (upd H1 D (.lst []))) ∧ ∀ i m H, W i m H →
      (J.stop i H ∧ Qd H) ∨ (J.go i H ∧ ∃ Nx : Hp → Prop, (∀ H', Nx H' → ∃ m', m' < m ∧ W (i + 1) m' H') ∧ ∀ x H', J.yld i H x H' → g x (wipe σ vs) H' fun σ2 H2 => wipe σ2 vs = wipe σ vs ∧ tt σ2 H2 fun b H3 =>
        if b = true then te σ2 H3 fun y H4 => ∃ acc, H4 D = some (.lst acc) ∧ acc.length < sizeLine ∧ Nx (upd H4 D (.lst (acc ++ [y]))) else Nx H3) := by
  refine lc_it w (fun i H => Ext H1 H ∧ ∃ acc, H D = some (.lst acc) ∧ acc.length ≤ i ∧ R i acc H) ⟨Ext.new hD, [], upd_same, Nat.le_refl _, h0⟩ (fun i H _ p => hG H p.1) (fun i x H H' hi p y => ?_) fun H ⟨e, acc, h1, _, h2⟩ => hd H acc e h1 h2
  obtain ⟨e, acc, h1, hl, h2⟩ := p
  have eY := hY i H x H' y
  refine hs i x H acc H' hi (e.trans eY) eY.tk (eY _ _ h1) (hR _ _ _ _ eY.tk h2) y _ _ (fun y H4 e4 r4 => ?_) (fun H3 e3 r3 => ?_)
  · have hD4 := e4 _ _ (eY _ _ h1)
    refine ⟨acc, hD4, by rw [sizeLine_eq]; omega, ((e.trans eY).trans e4).out hD, acc ++ [y], upd_same, by simp; omega, hR _ _ _ _ (TK.lst hD4) r4⟩
  · exact ⟨(e.trans eY).trans e3, acc, e3 _ _ (eY _ _ h1), by omega, r3⟩
theorem yAt_ext {xs : List V} : ∀ i H x H', YAt xs i H x H' → Ext H H' := fun _ _ _ _ h => by
  rw [h.1]
  exact Ext.refl _
theorem yFn_ext {f : Nat → V} : ∀ i H x H', YFn f i H x H' → Ext H H' := fun _ _ _ _ h => by
  rw [h.1]
  exact Ext.refl _
theorem yPair_ext {xs ys : Nat → Option V} : ∀ i H v H', YPair xs ys i H v H' → Ext H H' := fun _ _ _ _ ⟨_, _, _, _, h1, h2, _⟩ => by
  rw [h2]
  exact Ext.new h1
/-- its values told by the turn -/
theorem lc_vals {K : PySem.W.Frag} {J : It} {n : Nat} {G : Hp → Prop} {Y : Nat → Hp → V → Hp → Prop} {g : TG} {te : TE} {vs : List Nat} {σ : L2.St} {H1 : Hp} {D : Addr} {Qd : Hp → Prop} (w : Walk J n G Y) (hD : H1 D = none) (hn : n ≤ 1000000)
    (hG : ∀ H, Ext H1 H → G H) (f : Nat → V) (hY : ∀ i H x H', Y i H x H' → Ext H H')
    (hs : ∀ i x H H', i < n → Ext H1 H' → Y i H x H' → ∀ (Kt : V → Hp → Prop), (∀ H4, Ext H' H4 → Kt (f i) H4) → g x (wipe σ vs) H' fun σ2 H2 => wipe σ2 vs = wipe σ vs ∧ te σ2 H2 Kt)
    (hd : ∀ H, Ext H1 H → H D = some (.lst ((List.range n).map f)) → Qd H) :
    ∃ W : Nat → Nat → Hp → Prop, (∃ m, W 0 m (upd H1 D (.lst []))) ∧ ∀ i m H, W i m H →
      (J.stop i H ∧ Qd H) ∨ (J.go i H ∧ ∃ Nx : Hp → Prop, (∀ H', Nx H' → ∃ m', m' < m ∧ W (i + 1) m' H') ∧ ∀ x H', J.yld i H x H' → g x (wipe σ vs) H' fun σ2 H2 => wipe σ2 vs = wipe σ vs ∧ tYes σ2 H2 fun b H3 =>
        if b = true then te σ2 H3 fun y H4 => ∃ acc, H4 D = some (.lst acc) ∧ acc.length < sizeLine ∧ Nx (upd H4 D (.lst (acc ++ [y]))) else Nx H3) := by
  refine lc_rel (K := K) w hD hn hG (fun i acc _ => acc = (List.range i).map f) rfl (fun _ _ _ _ _ h => h) hY (fun i x H acc H' hi e _ _ r y Kt Kf h1 _ => ?_) fun H acc e h1 h2 => hd H e (by rw [h1, h2])
  have q := hs i x H H' hi e y Kt fun H4 e4 => h1 (f i) H4 e4 (by rw [r, List.range_succ, List.map_append]; rfl)
  exact q
theorem zip_range {α β : Type} (f : Nat → α → β) (xs : List α) (h : ∀ i (hi : i < xs.length), True) : True := trivial
theorem map_range_get {α β : Type} (xs : List α) (f : α → β) (g : Nat → β) (h : ∀ i x, xs[i]? = some x → g i = f x) : (List.range xs.length).map g = xs.map f := by
  refine List.ext_getElem (by simp) fun i h1 h2 => ?_
  simp only [List.getElem_map, List.getElem_range]
  have hi : i < xs.length := by simpa using h1
  exact h i _ (List.getElem?_eq_getElem hi)
/-! ### more readings -/
section
variable {σ : L2.St} {H : Hp} {ta : TE} {tl : TA} {K : PySem.W.Frag} {R : It → Hp → Prop} {Q : VK}
theorem r_yes {Q : Bool → Hp → Prop} (h : Q true H) : tYes σ H Q := h
theorem r_itT (h : ta σ H fun x H1 => ∃ a, x = .ref a ∧ (∃ xs, SqT K H1 a xs) ∧ R (Itt K a) H1) : iTup K ta σ H R := h
theorem r_itL (h : ta σ H fun x H1 => ∃ a, x = .ref a ∧ (∃ xs, SqL K H1 a xs) ∧ R (Itl K a) H1) : iList K ta σ H R := h
theorem r_itS (h : ta σ H fun v H1 => ∃ x, v = .str x ∧ R (Its x) H1) : iStr ta σ H R := h
theorem r_itE (h : tl σ H fun vs H1 => ∃ a xs, vs = [.ref a] ∧ SqL K H1 a xs ∧ R (Ite K a) H1) : iEnum K tl σ H R := h
theorem r_lc {wi : TI} {g : TG} {tt : TT} {te : TE} {vs : List Nat} (h : wi σ H fun J H1 => ∀ D, H1 D = none → ∃ W : Nat → Nat → Hp → Prop, (∃ m, W 0 m (upd H1 D (.lst []))) ∧ ∀ i m H, W i m H →
  (J.stop i H ∧ Q (.ref D) H) ∨ (J.go i H ∧ ∃ Nx : Hp → Prop, (∀ H', Nx H' → ∃ m', m' < m ∧ W (i + 1) m' H') ∧ ∀ x H', J.yld i H x H' → g x (wipe σ vs) H' fun σ2 H2 => wipe σ2 vs = wipe σ vs ∧ tt σ2 H2 fun b H3 =>
    if b = true then te σ2 H3 fun y H4 => ∃ acc, H4 D = some (.lst acc) ∧ acc.length < sizeLine ∧ Nx (upd H4 D (.lst (acc ++ [y]))) else Nx H3)) : tLc wi g tt te vs σ H Q := h
theorem r_lenT {p : Addr} {ys : List V} (h : SqT K H p ys) (q : Q (.int ys.length) H) : ∃ p' ys', [V.ref p] = [V.ref p'] ∧ (SqL K H p' ys' ∨ SqT K H p' ys') ∧ Q (.int ys'.length) H := ⟨p, ys, rfl, .inr h, q⟩
theorem r_lenL {p : Addr} {ys : List V} (h : SqL K H p ys) (q : Q (.int ys.length) H) : ∃ p' ys', [V.ref p] = [V.ref p'] ∧ (SqL K H p' ys' ∨ SqT K H p' ys') ∧ Q (.int ys'.length) H := ⟨p, ys, rfl, .inl h, q⟩
theorem r_all {a : Addr} {bs : List Bool} (h : SqL K H a (bs.map V.bl)) (q : Q (.bl (bs.all id)) H) : rAll K [.ref a] H Q := ⟨a, bs, rfl, h, q⟩
theorem r_ixT {p : Addr} {xs : List V} {i : Int} {v : V} (h : SqT K H p xs) (hi : atI xs i = some v) (q : Q v H) : rIxT K (.ref p) (.int i) H Q := ⟨p, xs, i, v, rfl, rfl, h, hi, q⟩
theorem r_ixL {p : Addr} {xs : List V} {i : Int} {v : V} (h : SqL K H p xs) (hi : atI xs i = some v) (q : Q v H) : rIxL K (.ref p) (.int i) H Q := ⟨p, xs, i, v, rfl, rfl, h, hi, q⟩
theorem r_sl {r : V → Option Int → Option Int → Hp → VK → Prop} {t1 t2 : TO} (h : ta σ H fun x H1 => t1 σ H1 fun l H2 => t2 σ H2 fun u H3 => r x l u H3 Q) : tSl r ta t1 t2 σ H Q := h
theorem r_part {Q : Option Int → Hp → Prop} (h : ta σ H fun x H1 => ∃ i, x = .int i ∧ Q (some i) H1) : tPart ta σ H Q := h
theorem tyT {a : Addr} {xs : List V} (h : SqT K H a xs) : TyX K H (.ref a) (.type "tuple") := by
  rcases h with (h | ⟨o, h⟩) | ⟨o, its, n, h, hc, _⟩
  · exact .base (.tup h)
  · exact .fTuple h
  · exact .kTuple h hc
theorem sqt_len {P : Program} {w : World} {h : Heap} {a : Addr} {xs : List V} (x : SqT K H a xs) (ok : HOk P w H h) : xs.length ≤ sizeLine := by
  rcases x with x | ⟨o, its, n, h, hc, hd, hz, rv⟩
  · exact (x.ok ok).1
  · have := rv.length
    have h2 : its.toList.length = its.size := Array.length_toList
    omega
end
theorem ite_nt {A B : Prop} (h : B) : if (!true) = true then A else B := h
theorem ite_nf {A B : Prop} (h : A) : if (!false) = true then A else B := h
theorem ite_bn {A B : Prop} {b : Bool} (h1 : b = true → B) (h2 : b = false → A) : if (!b) = true then A else B := by
  cases b with
  | true => exact h1 rfl
  | false => exact h2 rfl
theorem r_itZ {σ : L2.St} {H : Hp} {tl : TA} {K : PySem.W.Frag} {R : It → Hp → Prop} (h : tl σ H fun vs H1 => ∃ a b xs ys, vs = [.ref a, .ref b] ∧ ((SqL K H1 a xs ∧ SqL K H1 b ys ∧ R (Itz K a b) H1) ∨ (SqT K H1 a xs ∧ SqT K H1 b ys ∧ R (RZ.ItzT K a b) H1))) : RZ.iZipA K tl σ H R := h
theorem r_nopart {σ : L2.St} {H : Hp} {Q : Option Int → Hp → Prop} (h : Q none H) : tNoPart σ H Q := h
theorem r_exI {a : Int} {P : Int → Prop} (h : P a) : ∃ i, V.int a = V.int i ∧ P i := ⟨a, rfl, h⟩
end
section
open PySem Spec PyProof.Rows L2
open LamX
/-! ### defs that make lambdas, defs that stand outside any guard -/
def lamL : List Str := ["claim_in", "_law_deed", "_law_refused_right", "_law_many_right"]
abbrev codA (K : PySem.W.Frag) (x : Str) : Addr := He.codeOf K (x, none)
abbrev tabA (K : PySem.W.Frag) (x : Str) : Addr := He.tabOf K (codA K x)
/-- the tables and the names of what they tell -/
def TT (K : PySem.W.Frag) : List (Addr × Str) := lamL.map fun x => (tabA K x, x ++ ".<locals>.<lambda>")
structure Lx (K : PySem.W.Frag) (mg : Str → Option Value) (base : Heap) : Prop where
  me : ∀ x ∈ lamL, mg x = some (.ref (He.ga K x))
  tb : ∀ x ∈ lamL, TabB base mg (codA K x) (tabA K x)
  inj : ∀ x ∈ lamL, ∀ y ∈ lamL, tabA K x = tabA K y → x = y
section
variable {P : Program} {w : World} {K : PySem.W.Frag} {mg : Str → Option Value} {base : Heap}
theorem Lx.mem (_ : Lx K mg base) {x : Str} (hx : x ∈ lamL) : (tabA K x, x ++ ".<locals>.<lambda>") ∈ TT K := List.mem_map.mpr ⟨x, hx, rfl⟩
theorem Lx.uni (lx : Lx K mg base) {x : Str} (hx : x ∈ lamL) : ∀ p ∈ TT K, p.1 = tabA K x → p.2 = x ++ ".<locals>.<lambda>" := fun p hp e => by
  obtain ⟨y, hy, rfl⟩ := List.mem_map.mp hp
  rw [lx.inj y hy x hx e]
def FnG (P : Program) (w : World) (K : PySem.W.Frag) (mg : Str → Option Value) (base : Heap) (k : Nat) (f : Addr) (sp : Sp) : Prop :=
  ∀ (A : Around) (outer : List Env) (s : Shared) (H : Hp) (us : List Value) (vs : List V) (Q : VK) (E : XK), A.guards = some [] → Room k A → Env0 P w K mg base A outer s H → Vals vs us → sp vs H Q E →
    codeAny (model P w) A (.call (.ref f) ⟨us, []⟩) (CR (L2.CX P w) outer P w H s Q E) s
/-- a def of the top, called outside any guard -/
def CalG (P : Program) (w : World) (K : PySem.W.Frag) (mg : Str → Option Value) (base : Heap) (k : Nat) (x : Str) (sp : Sp) : Prop :=
  ∃ f, FnG P w K mg base k f sp ∧ mg x = some (.ref f) ∧ PySem.W.keepIn K (.ref f) = true
/-- a def of the top by its body: what is known of its code object (C), of the guards (G) -/
theorem HasFn.okAll {x : Str} {st : Stmt} {N ps : List Str} {k : Nat} {sp : Sp} {C : Value → Prop} (h : HasFn K mg x st) (hC : ∀ (oc : Value) (od : Option Addr) (osl : Array (Option Value)) (fd : FuncData) (f : Addr), mg x = some (.ref f) → K.lookup f = some ⟨oc, od, .func fd, osl⟩ → PySem.W.codeIn K fd.code x = true → C fd.code) (S : FnScope N ps (defScope st)) (len : ∀ vs H Q E, sp vs H Q E → vs.length = ps.length)
    (hb : ∀ (kV doc pm : Value) (an : Option Addr) (cdv ct : Value) (us : List Value), us.length = ps.length → bindArgs (PySem.W.fnOf x x (defArgs st) (defBody st) (defScope st) .none kV doc pm an cdv ct) ⟨us, []⟩ = pure (ps.zip us)) :
    ∃ (f : Addr) (cdv : Value), C cdv ∧ mg x = some (.ref f) ∧ PySem.W.keepIn K (.ref f) = true ∧ ∀ (A : Around) (outer : List Env) (s : Shared) (H : Hp) (us : List Value) (vs : List V) (Q : VK) (E : XK), Room (k + 1) A → Env0 P w K mg base A outer s H → Vals vs us → sp vs H Q E →
      (Room k (A.deeper (envOfC x (defScope st) s.heap.objs.size f cdv)) → ∃ t, PSs (cxOf (L2.CX P w) P w K mg base N x (defScope st) f cdv A outer s H E) (defBody st) t ∧ t { nx := fun _ H' => Q .non H', rt := Q } (start N vs) H) →
      codeAny (model P w) A (.call (.ref f) ⟨us, []⟩) (CR (L2.CX P w) outer P w H s Q E) s := by
  obtain ⟨f, fd, F, hm⟩ := h
  have bb := F.binds hb
  obtain ⟨oc, od, kV, doc, pm, an, cdv, ct, osl, rfl, lk, hcd⟩ := F.ex
  refine ⟨f, cdv, hC _ _ _ _ _ hm lk hcd, hm, F.kp, fun A outer s H us vs Q E hr e0 r hs hbody => ?_⟩
  have hl := len _ _ _ _ hs
  have KX : K.In s.heap := e0.mod.kin.keeps fun b o e => (e0.bs b o e).1
  have b2 := bb s us KX (by rw [List.append_nil, ← r.length, hl])
  rw [List.append_nil] at b2
  exact run_ofS lk hcd S hr e0 b2 r hl hbody
theorem okC_code {x : Str} (m : mg x = some (.ref (He.ga K x))) (oc : Value) (od : Option Addr) (osl : Array (Option Value)) (fd : FuncData) (f : Addr) (hm : mg x = some (.ref f)) (lk : K.lookup f = some ⟨oc, od, .func fd, osl⟩) (hcd : PySem.W.codeIn K fd.code x = true) : fd.code = .ref (codA K x) := by
  have e : f = He.ga K x := by
    have := hm.symm.trans m
    injection this with z
    injection z
  obtain ⟨c, hc⟩ := He.codeIn_ref hcd
  rw [hc, ← He.codeOf_eq (p := (x, none)) (by rw [e] at lk; exact lk) hc]
/-- .. that makes lambdas -/
theorem HasFn.okC {x : Str} {st : Stmt} {N ps : List Str} {k : Nat} {sp : Sp} (h : HasFn K mg x st) (m : mg x = some (.ref (He.ga K x))) (S : FnScope N ps (defScope st)) (len : ∀ vs H Q E, sp vs H Q E → vs.length = ps.length)
    (hb : ∀ (kV doc pm : Value) (an : Option Addr) (cdv ct : Value) (us : List Value), us.length = ps.length → bindArgs (PySem.W.fnOf x x (defArgs st) (defBody st) (defScope st) .none kV doc pm an cdv ct) ⟨us, []⟩ = pure (ps.zip us))
    (hbody : ∀ (f : Addr) (A : Around) (outer : List Env) (s : Shared) (H : Hp) (vs : List V) (Q : VK) (E : XK), Room k (A.deeper (envOfC x (defScope st) s.heap.objs.size f (.ref (codA K x)))) → sp vs H Q E →
      ∃ t, PSs (cxOf (L2.CX P w) P w K mg base N x (defScope st) f (.ref (codA K x)) A outer s H E) (defBody st) t ∧ t { nx := fun _ H' => Q .non H', rt := Q } (start N vs) H) : CalR P w K mg base (k + 1) x sp := by
  obtain ⟨f, cdv, rfl, hm, hk, F⟩ := h.okAll (P := P) (w := w) (base := base) (k := k) (sp := sp) (C := fun c => c = .ref (codA K x)) (fun oc od osl fd f => okC_code m oc od osl fd f) S len hb
  exact ⟨f, fun A outer s H us vs Q E hr e0 r hs => F A outer s H us vs Q E hr e0 r hs fun hr2 => hbody f A outer s H vs Q E hr2 hs, hm, hk⟩
/-- .. outside any guard -/
theorem HasFn.okG {x : Str} {st : Stmt} {N ps : List Str} {k : Nat} {sp : Sp} (h : HasFn K mg x st) (S : FnScope N ps (defScope st)) (len : ∀ vs H Q E, sp vs H Q E → vs.length = ps.length)
    (hb : ∀ (kV doc pm : Value) (an : Option Addr) (cdv ct : Value) (us : List Value), us.length = ps.length → bindArgs (PySem.W.fnOf x x (defArgs st) (defBody st) (defScope st) .none kV doc pm an cdv ct) ⟨us, []⟩ = pure (ps.zip us))
    (hbody : ∀ (f : Addr) (cdv : Value) (A : Around) (outer : List Env) (s : Shared) (H : Hp) (vs : List V) (Q : VK) (E : XK), A.guards = some [] → Room k (A.deeper (envOfC x (defScope st) s.heap.objs.size f cdv)) → sp vs H Q E →
      ∃ t, PSs (cxOf (L2.CX P w) P w K mg base N x (defScope st) f cdv A outer s H E) (defBody st) t ∧ t { nx := fun _ H' => Q .non H', rt := Q } (start N vs) H) : CalG P w K mg base (k + 1) x sp := by
  obtain ⟨f, cdv, _, hm, hk, F⟩ := h.okAll (P := P) (w := w) (base := base) (k := k) (sp := sp) (C := fun _ => True) (fun _ _ _ _ _ _ _ _ => trivial) S len hb
  exact ⟨f, fun A outer s H us vs Q E hg hr e0 r hs => F A outer s H us vs Q E hr e0 r hs fun hr2 => hbody f cdv A outer s H vs Q E hg hr2 hs, hm, hk⟩
theorem HasFn.okGC {x : Str} {st : Stmt} {N ps : List Str} {k : Nat} {sp : Sp} (h : HasFn K mg x st) (m : mg x = some (.ref (He.ga K x))) (S : FnScope N ps (defScope st)) (len : ∀ vs H Q E, sp vs H Q E → vs.length = ps.length)
    (hb : ∀ (kV doc pm : Value) (an : Option Addr) (cdv ct : Value) (us : List Value), us.length = ps.length → bindArgs (PySem.W.fnOf x x (defArgs st) (defBody st) (defScope st) .none kV doc pm an cdv ct) ⟨us, []⟩ = pure (ps.zip us))
    (hbody : ∀ (f : Addr) (A : Around) (outer : List Env) (s : Shared) (H : Hp) (vs : List V) (Q : VK) (E : XK), A.guards = some [] → Room k (A.deeper (envOfC x (defScope st) s.heap.objs.size f (.ref (codA K x)))) → sp vs H Q E →
      ∃ t, PSs (cxOf (L2.CX P w) P w K mg base N x (defScope st) f (.ref (codA K x)) A outer s H E) (defBody st) t ∧ t { nx := fun _ H' => Q .non H', rt := Q } (start N vs) H) : CalG P w K mg base (k + 1) x sp := by
  obtain ⟨f, cdv, rfl, hm, hk, F⟩ := h.okAll (P := P) (w := w) (base := base) (k := k) (sp := sp) (C := fun c => c = .ref (codA K x)) (fun oc od osl fd f => okC_code m oc od osl fd f) S len hb
  exact ⟨f, fun A outer s H us vs Q E hg hr e0 r hs => F A outer s H us vs Q E hr e0 r hs fun hr2 => hbody f A outer s H vs Q E hg hr2 hs, hm, hk⟩
end
section
variable {X : Cx} {E : XK} {k j : Nat} {sp : Sp} {x : Str} {p pos : Pos} {e : Expr} {es : List Expr} {t : TA}
theorem pe_cg (c : CalG X.prog X.w X.K X.mg X.base k x sp) (hgd : X.A.guards = some []) (hr : Room j X.A) (hx : Passes (L2.CX X.prog X.w) X E) (ha : PA X (e :: es) t) (hk : k ≤ j := by decide) (hg : Gl X x := by rfl)
    (hdb : (x == ("__debug__" : Str)) = false := by decide) (he : starEach (e :: es) X.env = (false, eval e X.env) :: starEach es X.env := by rfl) (hpl : (backTo pos (starEach es X.env)).any (·.1) = false := by rfl) :
    PE X (.Call (.Name x p) (e :: es) [] pos) (tCl sp E t) := by
  obtain ⟨f, F, hm, hkp⟩ := c
  refine ⟨fun pins s σ H Q I h => ?_⟩
  refine wpAny_Call_Name_kw (ld_glob I hg hm ?_ hdb)
  refine PySem.W.callWith_K (h₀ := X.base) I.ok.mod.kin hkp (thn (ha.run pos pins s σ H _ I h) fun us s1 ⟨vs, H1, I1, r, q⟩ => ⟨I1.kIn, ?_⟩) he hpl
  refine wpAny_call (codeAny_mono (F X.A X.stack s1 H1 us vs Q E hgd (hr.mono hk) I1.env0 r q) fun r s' hq => ?_)
  cases r with
  | error e => exact hx pins σ H1 s1 e s' I1 hq
  | ok fl =>
    cases fl with
    | ret u => exact I1.after hq
    | next => exact False.elim hq
    | brk => exact False.elim hq
    | cont => exact False.elim hq
end
end
section
open PySem Spec PyProof.Rows L2
/-! ### the facts of the top, as the head tells them -/
open He
def faL : List Fa := (defsL.map fun p => Fa.glo p.1) ++ (freeL.map .free) ++ (intsL.map fun p => .int p.1 p.2) ++ (strsL.map fun p => .str p.1 p.2) ++ (excN.map .glo) ++ [.glo "LENGTHS", .glo "PLACES", .glo "StepError", .glo "Shelf", .cls "Shelf", .mkr "Shelf", .noat "Shelf" "own_terms"] ++ (methL.map fun p => .meth "Shelf" p.1) ++ (excN.flatMap fun x => excN.map fun y => .exm x y (decide (x = y)))
def defD (x : Str) (i : Nat) : DefD := ⟨(x, none), x, x, defArgs (top i), defBody (top i), defScope (top i), [], []⟩
def methD (c m : Str) (ci i : Nat) : DefD := ⟨(c, some m), m, c ++ "." ++ m, defArgs (mem ci i), defBody (mem ci i), defScope (mem ci i), [], []⟩
def fnL : List DefD := (defsL.map fun p => defD p.1 p.2) ++ (methL.map fun p => methD "Shelf" p.1 58 p.2) ++ excL.map fun p => methD p.1 "__init__" p.2.2.1 0
def tsL : List Tab := [((fun K => ga K "LENGTHS"), lensL.map (·.1)), ((fun K => ga K "PLACES"), plcsL.map (·.1))]
def tfL : List Defn := lamL.map fun x => (x, none)
/-- an own exception class: its class object -/
def excB (K : PySem.W.Frag) (C : Addr) (tl : List Value) (newId : String) : Bool := match K.lookup C with
  | some ⟨.type "type", _, .cls cd, sl⟩ => (match cd.mro, sl.toList with
    | .ref C' :: bm, [_, _, _, _, some (.builtin n), _] => decide (C' = C) && (decide (n = newId) && (!cd.hasDel && (cd.hasDict && refsT tl bm)))
    | _, _ => false)
  | _ => false
theorem excB_ok {K : PySem.W.Frag} {C : Addr} {tl : List Value} {newId : String} (h : excB K C tl newId = true) :
    ∃ nm q N bs bm sn sub ab col dd k0 k1 k2 k3 k5, K.lookup C = some (excClassObj nm q C N bs bm true sn sub ab col dd k0 k1 k2 k3 k5 newId) ∧ refsT tl bm = true := by
  unfold excB at h
  split at h
  · rename_i dd cd sl ho
    split at h
    · rename_i C' bm k0 k1 k2 k3 n k5 hm hs
      obtain ⟨h1, h⟩ := ba h
      obtain ⟨h2, h⟩ := ba h
      obtain ⟨h3, h⟩ := ba h
      obtain ⟨h4, h5⟩ := ba h
      obtain rfl := of_decide_eq_true h1
      obtain rfl := of_decide_eq_true h2
      obtain ⟨nm, bs, mro, ns, qn, hd, sn, sub, ab, col, del⟩ := cd
      have h3 : del = false := by simpa using h3
      have h4 : hd = true := h4
      have hm : mro = .ref C' :: bm := hm
      subst h3 h4 hm
      have e : sl = #[k0, k1, k2, k3, some (.builtin n), k5] := Array.toList_inj.mp hs
      subst e
      exact ⟨_, _, _, _, _, _, _, _, _, _, _, _, _, _, _, ho, h5⟩
    · cases h
  · cases h
def findB (K : PySem.W.Frag) (v : Value) (x : Str) (o : Option Value) : Bool := decide (PySem.W.findIn K v x = some o)
/-- what is asked of an own exception class -/
def exB1 (K : PySem.W.Frag) (p : Str × Str × Nat × List Value × String) : Bool :=
  excB K (ga K p.1) p.2.2.2.1 p.2.2.2.2 && (findB K (.ref (ga K p.1)) "__setattr__" (some (.builtin "object.__setattr__")) && (decide (PySem.W.subIn K (.ref (ga K p.1)) (.type "BaseException") = some true) && (decide (PySem.W.typeIn K (.ref (ga K p.1)) = some (.type "type")) && (PySem.W.keepIn K (.ref (ga K p.1)) &&
  (findB K (.ref (ga K p.1)) "__init__" (some (.ref (ma K (ga K p.1) "__init__"))) && (decide (PySem.W.typeIn K (.ref (ma K (ga K p.1) "__init__")) = some (.type "function")) && (findB K (.ref (ga K p.1)) p.2.1 none && (xfB K (ga K p.1) &&
  (findB K (.ref (ga K p.1)) "__class__" (some (.builtin "object.__class__")) && (decide (PySem.W.specialIn K (.builtin "object.__class__") "__get__" = some (some (.builtin "getset_descriptor.__get__"))) && (decide (PySem.W.takesIn K (.builtin "object.__class__") = some true) && decide (PySem.W.mroIn K (ga K p.1) (.type "object") = some true))))))))))))
def clsB (K : PySem.W.Frag) (C : Addr) : Bool := match PySem.W.findCls K (.ref C) (.type "type") "__init__" with
  | some (.val v) => decide (v = .builtin "ValueError.__init__")
  | _ => false
theorem clsB_ok {K : PySem.W.Frag} {C : Addr} (h : clsB K C = true) : PySem.W.findCls K (.ref C) (.type "type") "__init__" = some (.val (.builtin "ValueError.__init__")) := by
  unfold clsB at h
  split at h
  · rename_i v e
    rw [e, of_decide_eq_true h]
  · cases h
def exB2 (K : PySem.W.Frag) : Bool :=
  PySem.W.readsIn K (ga K "StepError") (.type "type") && (decide (PySem.W.specialIn K (.ref (ga K "StepError")) "__getattribute__" = some (some (.builtin "type.__getattribute__"))) && (clsB K (ga K "StepError") &&
  (findB K (.ref (ga K "Shelf")) "__ne__" (some (.builtin "object.__ne__")) && (decide (PySem.W.mroIn K (ga K "Shelf") (.type "object") = some true) && (findB K (.ref (ga K "Shelf")) "__class__" (some (.builtin "object.__class__")) && (decide (PySem.W.kitOne K (.ref (ga K "Shelf")) (.ref (ga K "Shelf")) = some true) && PySem.W.notFirst K (ga K "Shelf") (.ref (ga K "Shelf"))))))))
def exB3 (K : PySem.W.Frag) : Bool := plainT.all fun t => decide (PySem.W.kitOne K (.type t) (.ref (ga K "Shelf")) = some false) && PySem.W.notFirst K (ga K "Shelf") (.type t)
def exB4 (K : PySem.W.Frag) : Bool := excN.all fun x => excN.all fun y => decide (PySem.W.kitOne K (.ref (ga K x)) (.ref (ga K y)) = some (decide (x = y)))
def exB5 (K : PySem.W.Frag) : Bool := match K.lookup sysModules with
  | some o => decide (o.cls = .type "dict")
  | none => false
/-- the places of PLACES: a tuple each -/
def plcA (K : PySem.W.Frag) (x : Str) : Addr := match PySem.W.nsIn K (ga K "PLACES") x with
  | some (some (.ref a)) => a
  | _ => 0
def tupAB (K : PySem.W.Frag) (a : Addr) (ns : List Int) : Bool := match K.lookup a with
  | some ⟨.type c, _, .seq its _, _⟩ => decide (c = "tuple") && (decide (its.size ≤ sizeLine) && relAll (ns.map .int) its.toList)
  | _ => false
def exB6 (K : PySem.W.Frag) : Bool := (lensL.all fun p => match PySem.W.nsIn K (ga K "LENGTHS") p.1 with
    | some (some u) => relB (.int p.2) u
    | _ => false) && ((plcsL.all fun p => decide (PySem.W.nsIn K (ga K "PLACES") p.1 = some (some (.ref (plcA K p.1)))) && tupAB K (plcA K p.1) p.2) && plcsN.all fun x => decide (PySem.W.nsIn K (ga K "PLACES") x = some none))
def exB7 (K : PySem.W.Frag) : Bool := lamL.all fun x => lamL.all fun y => !decide (tabA K x = tabA K y) || decide (x = y)
def exAll (K : PySem.W.Frag) : Bool := (excL.all fun p => exB1 K p) && (exB2 K && (exB3 K && (exB4 K && (exB5 K && (exB6 K && exB7 K)))))
theorem tupAB_ok {K : PySem.W.Frag} {a : Addr} {ns : List Int} (h : tupAB K a ns = true) (H : Hp) : SqT K H a (ns.map .int) := by
  unfold tupAB at h
  split at h
  · rename_i c od its n osl q
    obtain ⟨h1, h2⟩ := ba h
    obtain ⟨h3, h4⟩ := ba h2
    exact .inr ⟨_, its, n, q, congrArg Value.type (of_decide_eq_true h1), rfl, of_decide_eq_true h3, relAll_ok h4⟩
  · cases h
theorem defFun {K : PySem.W.Frag} {d : DefD} {st : Stmt} (ht : d.params = defArgs st ∧ d.body = defBody st ∧ d.scope = defScope st ∧ d.dfl = [] ∧ d.kwd = []) (h : ∃ fd, FunD K d.name d.qual d.params d.body d.scope (d.dvs K) (d.kws K) (fAd K d.at_) fd) : ∃ fd, Fun K d.name d.qual st (fAd K d.at_) fd := by
  obtain ⟨h1, h2, h3, h4, h5⟩ := ht
  obtain ⟨fd, ⟨oc, od, dV, kV, doc, pm, an, cdv, ct, osl, e, lk, hc, hd, _⟩, kp⟩ := h
  have e0 : d.dvs K = [] := by unfold DefD.dvs; rw [h4]; rfl
  rw [e0] at hd
  have edv : dV = .none := by
    rcases hd with ⟨_, z⟩ | ⟨z, _⟩
    · exact z
    · exact absurd rfl z
  subst edv
  rw [h1, h2, h3] at e
  exact ⟨fd, ⟨oc, od, kV, doc, pm, an, cdv, ct, osl, e, lk, hc⟩, kp⟩
section
variable {K : PySem.W.Frag} {mg : Str → Option Value} {w : World} {h0 h base : Heap}
theorem fx_of (c : SaysX faL fnL tsL tfL exAll w h0 K) (X : K.In h) (G : h.Ns mainGlobals mg) : Fx K mg w := by
  have fa : ∀ f ∈ faL, f.ok K = true := fun f hf => c.t.d.facts hf
  have fn : ∀ d ∈ fnL, ∃ fd, FunD K d.name d.qual d.params d.body d.scope (d.dvs K) (d.kws K) (fAd K d.at_) fd := fun d hd => c.t.d.defs hd
  obtain ⟨x1, cm⟩ := ba c.more
  obtain ⟨x2, cm⟩ := ba cm
  obtain ⟨x3, cm⟩ := ba cm
  obtain ⟨x4, cm⟩ := ba cm
  obtain ⟨x5, cm⟩ := ba cm
  obtain ⟨x6, x7⟩ := ba cm
  have inA : ∀ {f : Fa} {a b : List Fa}, f ∈ a → f ∈ a ++ b := fun hf => List.mem_append_left _ hf
  have inB : ∀ {f : Fa} {a b : List Fa}, f ∈ b → f ∈ a ++ b := fun hf => List.mem_append_right _ hf
  have gE : ∀ x ∈ excN, mg x = some (.ref (ga K x)) := fun x hx => glo_ok X G (fa _ (inA (inA (inA (inB (List.mem_map.mpr ⟨x, hx, rfl⟩))))))
  have f7 : ∀ f : Fa, f ∈ ([.glo "LENGTHS", .glo "PLACES", .glo "StepError", .glo "Shelf", .cls "Shelf", .mkr "Shelf", .noat "Shelf" "own_terms"] : List Fa) → f.ok K = true := fun f hf => fa f (inA (inA (inB hf)))
  have hex : ∀ p ∈ excL, exB1 K p = true := List.all_eq_true.mp x1
  have hexN : ∀ p ∈ excL, p.1 ∈ excN := by decide
  have hne : ∀ p ∈ excL, NewG p.2.2.2.1 p.2.2.2.2 := by
    intro p hp
    simp only [excL, List.mem_cons, List.not_mem_nil, or_false] at hp
    rcases hp with rfl | rfl | rfl | rfl | rfl
    · exact newVE
    · exact newVE
    · exact newVE
    · exact newKE
    · exact newOE
  obtain ⟨y1, x2⟩ := ba x2
  obtain ⟨y2, x2⟩ := ba x2
  obtain ⟨y3, x2⟩ := ba x2
  obtain ⟨y4, x2⟩ := ba x2
  obtain ⟨y5, x2⟩ := ba x2
  obtain ⟨y6, x2⟩ := ba x2
  obtain ⟨y7, y8⟩ := ba x2
  obtain ⟨z1, x6⟩ := ba x6
  obtain ⟨z2, z3⟩ := ba x6
  have gSh : exB1 K ("BadDays", "given", 2, tlVE, "ValueError.__new__") = true := hex _ (List.mem_of_getElem? (i := 0) rfl)
  refine ⟨fun p hp => ?_, fun x hx => free_ok X G (fa _ (inA (inA (inA (inA (inA (inA (inB (List.mem_map.mpr ⟨x, hx, rfl⟩))))))))), fun p hp => ?_, fun p hp => ?_, ?_, ?_, fun p hp => ?_, ?_, fun x hx y hy => ?_, ?_, fun p hp => ?_, ?_, ?_, y8, ?_⟩
  · obtain ⟨fd, F⟩ := defFun (d := defD p.1 p.2) (st := top p.2) ⟨rfl, rfl, rfl, rfl, rfl⟩ (fn _ (List.mem_append_left _ (List.mem_append_left _ (List.mem_map.mpr ⟨p, hp, rfl⟩))))
    exact ⟨ga K p.1, fd, F, glo_ok X G (fa _ (inA (inA (inA (inA (inA (inA (inA (List.mem_map.mpr ⟨p, hp, rfl⟩)))))))))⟩
  · obtain ⟨t, e⟩ := int_ok X G (fa (.int p.1 p.2) (inA (inA (inA (inA (inA (inB (List.mem_map.mpr ⟨p, hp, rfl⟩))))))))
    exact ⟨_, e, t, rfl⟩
  · obtain ⟨t, e⟩ := str_ok X G (fa (.str p.1 p.2) (inA (inA (inA (inA (inB (List.mem_map.mpr ⟨p, hp, rfl⟩)))))))
    exact ⟨_, e, t, rfl⟩
  · obtain ⟨es, n, kd⟩ := c.t.tab 0 (t := ((fun K => ga K "LENGTHS"), lensL.map (·.1))) rfl
    refine ⟨ga K "LENGTHS", es, n, glo_ok X G (f7 _ (List.mem_of_getElem? (i := 0) rfl)), kd, fun p hp => ?_⟩
    have q := List.all_eq_true.mp z1 p hp
    split at q
    · rename_i u e
      exact ⟨some u, e, relB_ok q⟩
    · cases q
  · obtain ⟨es, n, kd⟩ := c.t.tab 1 (t := ((fun K => ga K "PLACES"), plcsL.map (·.1))) rfl
    refine ⟨ga K "PLACES", es, n, glo_ok X G (f7 _ (List.mem_of_getElem? (i := 1) rfl)), kd, fun p hp => ?_, fun x hx => ⟨none, of_decide_eq_true (List.all_eq_true.mp z3 x hx), trivial⟩⟩
    obtain ⟨q1, q2⟩ := ba (List.all_eq_true.mp z2 p hp)
    exact ⟨plcA K p.1, ⟨some (.ref (plcA K p.1)), of_decide_eq_true q1, rfl⟩, fun H => tupAB_ok q2 H⟩
  · obtain ⟨a1, q⟩ := ba (hex p hp)
    obtain ⟨a2, q⟩ := ba q
    obtain ⟨a3, q⟩ := ba q
    obtain ⟨a4, q⟩ := ba q
    obtain ⟨a5, q⟩ := ba q
    obtain ⟨a6, q⟩ := ba q
    obtain ⟨a7, q⟩ := ba q
    obtain ⟨a8, q⟩ := ba q
    obtain ⟨a9, q⟩ := ba q
    obtain ⟨a10, q⟩ := ba q
    obtain ⟨a11, q⟩ := ba q
    obtain ⟨a12, a13⟩ := ba q
    obtain ⟨fd, F⟩ := defFun (d := methD p.1 "__init__" p.2.2.1 0) (st := mem p.2.2.1 0) ⟨rfl, rfl, rfl, rfl, rfl⟩ (fn _ (List.mem_append_right _ (List.mem_map.mpr ⟨p, hp, rfl⟩)))
    have xf := xfB_ok a9
    exact ⟨gE _ (hexN p hp), ⟨excB_ok a1, of_decide_eq_true a2, of_decide_eq_true a3, of_decide_eq_true a4, a5, hne p hp⟩, of_decide_eq_true a6, of_decide_eq_true a7, ⟨fd, F⟩, of_decide_eq_true a8, ⟨xf.ga, xf.gg, xf.exC, xf.hdC, of_decide_eq_true a10, of_decide_eq_true a11, of_decide_eq_true a12, of_decide_eq_true a13⟩, xf⟩
  · exact ⟨glo_ok X G (f7 _ (List.mem_of_getElem? (i := 2) rfl)), y1, of_decide_eq_true y2, clsB_ok y3⟩
  · exact ⟨exm_ok (fa (.exm x y (decide (x = y))) (inB (List.mem_flatMap.mpr ⟨x, hx, List.mem_map.mpr ⟨y, hy, rfl⟩⟩))), of_decide_eq_true (List.all_eq_true.mp (List.all_eq_true.mp x4 x hx) y hy)⟩
  · exact ⟨glo_ok X G (f7 _ (List.mem_of_getElem? (i := 3) rfl)), cls_ok (f7 _ (List.mem_of_getElem? (i := 4) rfl)), mkr_ok (f7 _ (List.mem_of_getElem? (i := 5) rfl)), noat_ok (f7 _ (List.mem_of_getElem? (i := 6) rfl))⟩
  · obtain ⟨fd, F⟩ := defFun (d := methD "Shelf" p.1 58 p.2) (st := mem 58 p.2) ⟨rfl, rfl, rfl, rfl, rfl⟩ (fn _ (List.mem_append_left _ (List.mem_append_right _ (List.mem_map.mpr ⟨p, hp, rfl⟩))))
    have m := meth_ok (fa (.meth "Shelf" p.1) (inA (inB (List.mem_map.mpr ⟨p, hp, rfl⟩))))
    exact ⟨⟨fd, F⟩, m.at_, m.fn, m.kp⟩
  · obtain ⟨_, q⟩ := ba gSh
    obtain ⟨_, q⟩ := ba q
    obtain ⟨_, q⟩ := ba q
    obtain ⟨_, q⟩ := ba q
    obtain ⟨_, q⟩ := ba q
    obtain ⟨_, q⟩ := ba q
    obtain ⟨_, q⟩ := ba q
    obtain ⟨_, q⟩ := ba q
    obtain ⟨_, q⟩ := ba q
    obtain ⟨_, q⟩ := ba q
    obtain ⟨a11, q⟩ := ba q
    obtain ⟨a12, _⟩ := ba q
    exact ⟨of_decide_eq_true y4, of_decide_eq_true y5, of_decide_eq_true y6, of_decide_eq_true a11, of_decide_eq_true a12⟩
  · refine ⟨of_decide_eq_true y7, fun t ht => ?_⟩
    obtain ⟨q1, q2⟩ := ba (List.all_eq_true.mp x3 t ht)
    exact ⟨of_decide_eq_true q1, q2⟩
  · unfold exB5 at x5
    split at x5
    · rename_i o e
      exact ⟨o, e, of_decide_eq_true x5⟩
    · cases x5
theorem lx_of (c : SaysX faL fnL tsL tfL exAll w h0 K) (X : K.In base) (G : base.Ns mainGlobals mg) (tb : ∀ x ∈ lamL, LamX.TabB base mg (codA K x) (tabA K x)) : Lx K mg base := by
  obtain ⟨_, cm⟩ := ba c.more
  obtain ⟨_, cm⟩ := ba cm
  obtain ⟨_, cm⟩ := ba cm
  obtain ⟨_, cm⟩ := ba cm
  obtain ⟨_, cm⟩ := ba cm
  obtain ⟨_, x7⟩ := ba cm
  have hl : ∀ x ∈ lamL, x ∈ defsL.map (·.1) := by decide
  refine ⟨fun x hx => ?_, tb, fun x hx y hy e => ?_⟩
  · obtain ⟨p, hp, e⟩ := List.mem_map.mp (hl x hx)
    rw [← e]
    exact glo_ok X G (c.t.d.facts (f := .glo p.1) (List.mem_append_left _ (List.mem_append_left _ (List.mem_append_left _ (List.mem_append_left _ (List.mem_append_left _ (List.mem_append_left _ (List.mem_append_left _ (List.mem_map.mpr ⟨p, hp, rfl⟩)))))))))
  · have q := List.all_eq_true.mp (List.all_eq_true.mp x7 x hx) y hy
    rw [decide_eq_true e, Bool.not_true, Bool.false_or] at q
    exact of_decide_eq_true q
end
end
section
open PySem Spec PyProof.Rows L2
/-! ### the head's Hook: what the module's names reach, the table of modules, the statics -/
open He
def asY (g : Addr → Option Obj) : List Addr := sysModules :: cStatics :: asD g 5
def kY (g : Addr → Option Obj) : PySem.W.Frag := frT g (asY g)
def obsY (g : Addr → Option Obj) : AlX := (obsT faL fnL tsL (kY g), exAll (kY g) && tabsB g tfL (kY g))
theorem saysY {w : World} {h : Heap} (e : obsY h.get? = valX fnL tsL w) : SaysX faL fnL tsL tfL exAll w h (kY h.get?) := by
  obtain ⟨e1, e2⟩ := Prod.mk.inj e
  obtain ⟨m1, m2⟩ := ba e2
  have each : ∀ p ∈ tfL, PySem.W.codeHdIn (kY h.get?) (cT (kY h.get?) p).1 (cT (kY h.get?) p).2 = true ∧ ∃ o, h.get? (cT (kY h.get?) p).2 = some o ∧ emptyTab o = true := fun p hp => by
    obtain ⟨a1, a2⟩ := ba (List.all_eq_true.mp m2 p hp)
    refine ⟨a1, ?_⟩
    split at a2
    · rename_i o q
      exact ⟨o, q, a2⟩
    · cases a2
  refine ⟨e1, m1, fun p hp => (each p hp).1, fun p hp => ?_, fun p hp => ?_⟩
  · obtain ⟨_, o, g1, g2⟩ := each p hp
    exact frT_none g1 g2
  · obtain ⟨_, o, g1, g2⟩ := each p hp
    rw [g1, emptyTab_eq g2]
def hk : PySem.W.Hook where
  α := AlX
  obs := fun s => obsY s.heap.get?
  val := fun w => valX fnL tsL w
  says := fun w h => ∃ K : PySem.W.Frag, K.In h ∧ SaysX faL fnL tsL tfL exAll w h K
  of := fun _ _ e => ⟨kY _, frT_in, saysY e⟩
  keeps := fun _ _ _ ⟨K, inK, c⟩ k => ⟨K, inK.keeps k, ⟨c.t, c.more, c.hd, c.out, fun p hp => k _ _ (c.empty p hp)⟩⟩
end
section
open PySem Spec PyProof.Rows L2
/-! ### the head's run -/
open PySem.W
def loose0 : List PySem.Str := [("StepError" : PySem.Str), ("BadDays" : PySem.Str), ("BadLabel" : PySem.Str), ("BadTerm" : PySem.Str), ("Missing" : PySem.Str), ("TooMany" : PySem.Str), ("is_integer" : PySem.Str), ("MOST_DAYS" : PySem.Str), ("MOST_IN_DAY" : PySem.Str), ("MOST_NUMBER" : PySem.Str), ("MOST_PATHS" : PySem.Str), ("is_day" : PySem.Str), ("many_paths" : PySem.Str), ("need_days" : PySem.Str), ("paths_in" : PySem.Str), ("MOST_PRICE" : PySem.Str), ("is_price" : PySem.Str), ("LETTERS" : PySem.Str), ("MOST_LETTERS" : PySem.Str), ("is_label" : PySem.Str)]
def loose1 : List PySem.Str := [("MOST_WORDS" : PySem.Str), ("MOST_DEEP" : PySem.Str), ("MOST_MARK" : PySem.Str), ("CASH" : PySem.Str), ("AT" : PySem.Str), ("ABOVE" : PySem.Str), ("BELOW" : PySem.Str), ("LOWEST" : PySem.Str), ("HIGHEST" : PySem.Str), ("BOTH" : PySem.Str), ("SHORT" : PySem.Str), ("TIMES" : PySem.Str), ("LESSER" : PySem.Str), ("GREATER" : PySem.Str), ("IF" : PySem.Str), ("LENGTHS" : PySem.Str), ("PLACES" : PySem.Str), ("is_mark" : PySem.Str), ("is_day_number" : PySem.Str), ("are_own" : PySem.Str)]
def loose2 : List PySem.Str := [("is_form" : PySem.Str), ("places_in" : PySem.Str), ("paths_to" : PySem.Str), ("term_at" : PySem.Str), ("need_term" : PySem.Str), ("paid_at" : PySem.Str), ("paid_by" : PySem.Str), ("knows_day" : PySem.Str), ("claim_in" : PySem.Str), ("MOST_LABELS" : PySem.Str), ("claim_or_none" : PySem.Str), ("Shelf" : PySem.Str), ("_law_mixed" : PySem.Str), ("_law_begin" : PySem.Str), ("_law_draw" : PySem.Str), ("_law_of" : PySem.Str), ("_law_days" : PySem.Str), ("_law_paths" : PySem.Str), ("_law_pays" : PySem.Str), ("_law_places" : PySem.Str)]
def loose3 : List PySem.Str := [("_law_fault" : PySem.Str), ("_law_term" : PySem.Str), ("_law_told" : PySem.Str), ("_law_claims" : PySem.Str), ("_law_stands_right" : PySem.Str), ("_law_deed" : PySem.Str), ("_law_refused_right" : PySem.Str), ("_law_many_right" : PySem.Str)]
def loose : List PySem.Str := loose0 ++ loose1 ++ loose2 ++ loose3
abbrev RR : PySem.W.OpenRow := PySem.W.OpenLaw.row PySem.Challenge.rw_curtainsteps_k28_whole_shelves
def ob (s : PySem.W.SharedT) : hk.α := obsY (HandSHeadRun.getT s)
theorem ob_eq (s : PySem.W.SharedT) : ob s = hk.obs s.abs := by
  have e : HandSHeadRun.getT s = s.abs.heap.get? := funext (HandSHeadRun.getT_eq s)
  show obsY (HandSHeadRun.getT s) = obsY s.abs.heap.get?
  rw [e]
theorem runF (w : World) : HandSHeadRun.RunEq RR (PySem.W.view RR.prog [76]) hk ob 6000 loose (w.withFollow "special-get-raises" false) := by
  intro os
  kernel_rfl
theorem runT (w : World) : HandSHeadRun.RunEq RR (PySem.W.view RR.prog [76]) hk ob 6000 loose (w.withFollow "special-get-raises" true) := by
  intro os
  kernel_rfl
theorem run0 (w : World) : HandSHeadRun.RunEq RR (PySem.W.view RR.prog [76]) hk ob 6000 loose w :=
  PySem.W.byRow2 "special-get-raises" (P := fun w => HandSHeadRun.RunEq RR (PySem.W.view RR.prog [76]) hk ob 6000 loose w) runF runT w
end
section
open PySem Spec PyProof.Rows L2
/-! ### the head, the law's walk left open -/
open PySem.W PySem.Calls
theorem top_dfl : (HandSHeadRun.topDef RR.prog 76).params.defaults = [] := by kernel_rfl
theorem top_nm : (HandSHeadRun.topDef RR.prog 76).name = ("law" : PySem.Str) := by kernel_rfl
theorem head_end (call : PySem.W.WalkO (PySem.W.view RR.prog [76]) loose (PySem.W.XL (PySem.W.view RR.prog [76]) []) hk.says PySem.Challenge.rw_curtainsteps_k28_whole_shelves.row.toRowW (HandSHeadRun.topDef RR.prog 76) [] (fun f vs => PySem.call f vs)) : PySem.Challenge.rw_curtainsteps_k28_whole_shelves.Holds := by
  w_on; o_law
  refine HandSHeadRun.head_any (r := RR) (q := PySem.W.view RR.prog [76]) (H := hk) (ob := ob) (M := 6000) (loose := loose) (d := HandSHeadRun.topDef RR.prog 76) (kwd := []) ob_eq
    (by kernel_rfl) (fun s => by kernel_rfl) run0 (by kernel_rfl) (by kernel_rfl) (by kernel_rfl) (by rfl) (by first | assumption | decide +kernel) (by decide +kernel) ⟨rfl, rfl, rfl, rfl, rfl, by decide +kernel⟩ ?hw ?hc
  case hw => w_witness2
  case hc => exact call
end
section
open PySem Spec PyProof.Rows L2
local macro_rules | `(tactic| walk_at "s") => `(tactic| first
  | with_reducible refine r_seq ?_
  | with_reducible refine r_next ?_
  | with_reducible refine r_asg ?_
  | with_reducible refine r_gname ?_
  | with_reducible refine r_ret ?_
  | with_reducible refine r_drop ?_
  | with_reducible refine r_ifs ?_
  | with_reducible refine r_var rfl ?_
  | with_reducible refine r_c ?_
  | with_reducible refine r_op ?_
  | with_reducible refine r_un ?_
  | with_reducible refine r_nil ?_
  | with_reducible refine r_cons ?_
  | with_reducible refine r_test ?_
  | with_reducible refine r_tb ?_
  | with_reducible refine r_and ?_
  | with_reducible refine r_or ?_
  | with_reducible refine r_not ?_
  | with_reducible refine r_andV ?_
  | with_reducible refine r_orV ?_
  | with_reducible refine r_notV ?_
  | with_reducible refine r_if ?_
  | with_reducible refine r_chain ?_
  | with_reducible refine r_cl ?_
  | with_reducible refine r_cb ?_
  | with_reducible refine r_bl ?_
  | with_reducible refine r_I0 ?_
  | with_reducible refine r_yes ?_
  | with_reducible refine r_itT ?_
  | with_reducible refine r_itL ?_
  | with_reducible refine r_itS ?_
  | with_reducible refine r_itE ?_
  | with_reducible refine r_exI ?_
  | with_reducible refine r_itZ ?_
  | with_reducible refine r_nopart ?_
  | with_reducible refine r_lc ?_
  | with_reducible refine r_sl ?_
  | with_reducible refine r_part ?_
  | with_reducible refine r_eq rfl ?_
  | with_reducible refine r_ne rfl ?_
  | with_reducible refine iteT ?_
  | with_reducible refine iteF ?_
  | with_reducible refine ite_nt ?_
  | with_reducible refine ite_nf ?_)
section
variable {P : Program} {w : World} {K : PySem.W.Frag} {mg : Str → Option Value} {base : Heap}
def spIsInteger : Sp := fun vs H Q _ => ∃ i : Int, vs = [.int i] ∧ Q (.bl true) H
theorem sc_is_integer : FnScope ["thing"] ["thing"] (defScope (top 8)) := ⟨rfl, rfl, rfl, by decide +kernel, rfl, by decide +kernel, by decide +kernel⟩
theorem c_is_integer (fx : Fx K mg w) : CalR P w K mg base 1 "is_integer" spIsInteger := by
  refine fx.d_is_integer.ok sc_is_integer (fun vs H Q E q => ?_) (fun _ _ _ _ _ _ us hl => match us, hl with | [_], _ => rfl) fun f cdv A outer s H vs Q E hr q => ?_
  · obtain ⟨i, rfl, _⟩ := q
    rfl
  · obtain ⟨i, rfl, q⟩ := q
    refine ⟨_, (pss_one (ps_ret (pe_and (pe_callB call_isi rfl fx.n_isinstance (by decide +kernel) (pa_cons (pv 0) (pa_cons (pe_ty "int" fx.n_int (by decide +kernel)) pa_nil))) (pe_one (pe_not (pe_callB call_isi rfl fx.n_isinstance (by decide +kernel) (pa_cons (pv 0) (pa_cons (pe_ty "bool" fx.n_bool (by decide +kernel)) pa_nil)))))))), ?_⟩
    repeat walk_at "s"
    refine r_isi (.ty _) (.base (.int _)) (kit_ty (b := "int") (r := true) (by decide +kernel)) ?_
    repeat walk_at "s"
    refine r_isi (.ty _) (.base (.int _)) (kit_ty (b := "bool") (r := false) (by decide +kernel)) ?_
    repeat walk_at "s"
    exact q
/-- the three that ask an int for its bounds -/
def spBound (lo hi : Int) : Sp := fun vs H Q _ => ∃ i : Int, vs = [.int i] ∧ Q (.bl (decide (lo ≤ i ∧ i ≤ hi))) H
theorem sc_is_price : FnScope ["thing"] ["thing"] (defScope (top 20)) := ⟨rfl, rfl, rfl, by decide +kernel, rfl, by decide +kernel, by decide +kernel⟩
theorem c_is_price (fx : Fx K mg w) : CalR P w K mg base 2 "is_price" (spBound (-10000) 10000) := by
  refine fx.d_is_price.ok sc_is_price (fun vs H Q E q => ?_) (fun _ _ _ _ _ _ us hl => match us, hl with | [_], _ => rfl) fun f cdv A outer s H vs Q E hr q => ?_
  · obtain ⟨i, rfl, _⟩ := q
    rfl
  · obtain ⟨i, rfl, q⟩ := q
    refine ⟨_, (pss_one (ps_ret (pe_and (pe_cr (c_is_integer fx) hr px (pa_cons (pv 0) pa_nil)) (pe_one (pe_chain op_le op_le (pe_op op_sub pe_int (pe_k fx.g_MOST_PRICE)) (pv 0) (pe_k fx.g_MOST_PRICE)))))), ?_⟩
    repeat walk_at "s"
    refine ⟨i, rfl, ?_⟩
    repeat walk_at "s"
    refine ite_b (fun h1 => ?_) fun h1 => ?_
    · repeat walk_at "s"
      have e : decide (i ≤ 10000) = decide (-10000 ≤ i ∧ i ≤ 10000) := by
        have h2 := of_decide_eq_true h1
        by_cases h : i ≤ 10000
        · rw [decide_eq_true h, decide_eq_true (by omega)]
        · rw [decide_eq_false h, decide_eq_false (by omega)]
      rw [e]
      exact q
    · have h2 := of_decide_eq_false h1
      rw [decide_eq_false (by omega)] at q
      exact q
theorem sc_is_mark : FnScope ["thing"] ["thing"] (defScope (top 43)) := ⟨rfl, rfl, rfl, by decide +kernel, rfl, by decide +kernel, by decide +kernel⟩
theorem c_is_mark (fx : Fx K mg w) : CalR P w K mg base 2 "is_mark" (spBound (-1000) 1000) := by
  refine fx.d_is_mark.ok sc_is_mark (fun vs H Q E q => ?_) (fun _ _ _ _ _ _ us hl => match us, hl with | [_], _ => rfl) fun f cdv A outer s H vs Q E hr q => ?_
  · obtain ⟨i, rfl, _⟩ := q
    rfl
  · obtain ⟨i, rfl, q⟩ := q
    refine ⟨_, (pss_one (ps_ret (pe_and (pe_cr (c_is_integer fx) hr px (pa_cons (pv 0) pa_nil)) (pe_one (pe_chain op_le op_le (pe_op op_sub pe_int (pe_k fx.g_MOST_MARK)) (pv 0) (pe_k fx.g_MOST_MARK)))))), ?_⟩
    repeat walk_at "s"
    refine ⟨i, rfl, ?_⟩
    repeat walk_at "s"
    refine ite_b (fun h1 => ?_) fun h1 => ?_
    · repeat walk_at "s"
      have e : decide (i ≤ 1000) = decide (-1000 ≤ i ∧ i ≤ 1000) := by
        have h2 := of_decide_eq_true h1
        by_cases h : i ≤ 1000
        · rw [decide_eq_true h, decide_eq_true (by omega)]
        · rw [decide_eq_false h, decide_eq_false (by omega)]
      rw [e]
      exact q
    · have h2 := of_decide_eq_false h1
      rw [decide_eq_false (by omega)] at q
      exact q
theorem sc_is_day_number : FnScope ["thing"] ["thing"] (defScope (top 44)) := ⟨rfl, rfl, rfl, by decide +kernel, rfl, by decide +kernel, by decide +kernel⟩
theorem c_is_day_number (fx : Fx K mg w) : CalR P w K mg base 2 "is_day_number" (spBound 0 3) := by
  refine fx.d_is_day_number.ok sc_is_day_number (fun vs H Q E q => ?_) (fun _ _ _ _ _ _ us hl => match us, hl with | [_], _ => rfl) fun f cdv A outer s H vs Q E hr q => ?_
  · obtain ⟨i, rfl, _⟩ := q
    rfl
  · obtain ⟨i, rfl, q⟩ := q
    refine ⟨_, (pss_one (ps_ret (pe_and (pe_cr (c_is_integer fx) hr px (pa_cons (pv 0) pa_nil)) (pe_one (pe_chain op_le op_lt pe_int (pv 0) (pe_k fx.g_MOST_DAYS)))))), ?_⟩
    repeat walk_at "s"
    refine ⟨i, rfl, ?_⟩
    repeat walk_at "s"
    refine ite_b (fun h1 => ?_) fun h1 => ?_
    · repeat walk_at "s"
      have e : decide (i < 4) = decide (0 ≤ i ∧ i ≤ 3) := by
        have h2 := of_decide_eq_true h1
        by_cases h : i < 4
        · rw [decide_eq_true h, decide_eq_true (by omega)]
        · rw [decide_eq_false h, decide_eq_false (by omega)]
      rw [e]
      exact q
    · have h2 := of_decide_eq_false h1
      rw [decide_eq_false (by omega)] at q
      exact q
end
end
section
open PySem Spec PyProof.Rows L2
local macro_rules | `(tactic| walk_at "s") => `(tactic| first
  | with_reducible refine r_seq ?_
  | with_reducible refine r_next ?_
  | with_reducible refine r_asg ?_
  | with_reducible refine r_gname ?_
  | with_reducible refine r_ret ?_
  | with_reducible refine r_drop ?_
  | with_reducible refine r_ifs ?_
  | with_reducible refine r_var rfl ?_
  | with_reducible refine r_c ?_
  | with_reducible refine r_op ?_
  | with_reducible refine r_un ?_
  | with_reducible refine r_nil ?_
  | with_reducible refine r_cons ?_
  | with_reducible refine r_test ?_
  | with_reducible refine r_tb ?_
  | with_reducible refine r_and ?_
  | with_reducible refine r_or ?_
  | with_reducible refine r_not ?_
  | with_reducible refine r_andV ?_
  | with_reducible refine r_orV ?_
  | with_reducible refine r_notV ?_
  | with_reducible refine r_if ?_
  | with_reducible refine r_chain ?_
  | with_reducible refine r_cl ?_
  | with_reducible refine r_cb ?_
  | with_reducible refine r_bl ?_
  | with_reducible refine r_I0 ?_
  | with_reducible refine r_yes ?_
  | with_reducible refine r_itT ?_
  | with_reducible refine r_itL ?_
  | with_reducible refine r_itS ?_
  | with_reducible refine r_itE ?_
  | with_reducible refine r_exI ?_
  | with_reducible refine r_itZ ?_
  | with_reducible refine r_nopart ?_
  | with_reducible refine r_lc ?_
  | with_reducible refine r_sl ?_
  | with_reducible refine r_part ?_
  | with_reducible refine r_eq rfl ?_
  | with_reducible refine r_ne rfl ?_
  | with_reducible refine iteT ?_
  | with_reducible refine iteF ?_
  | with_reducible refine ite_nt ?_
  | with_reducible refine ite_nf ?_)
/-- a day, in plain words -/
def upward : List Int → Bool
  | a :: b :: r => decide (a < b) && upward (b :: r)
  | _ => true
def dayOk (ns : List Int) : Bool := decide (1 ≤ ns.length ∧ ns.length ≤ 8) && ns.all (fun n => decide (-100 ≤ n ∧ n ≤ 100)) && upward ns
theorem upward_zip : ∀ ns : List Int, ((ns.zip (ns.drop 1)).map fun p => decide (p.1 < p.2)).all id = upward ns
  | [] => rfl
  | [_] => rfl
  | a :: b :: r => by
    have := upward_zip (b :: r)
    simp only [List.drop_succ_cons, List.drop_zero, List.zip_cons_cons, List.map_cons, List.all_cons, id_eq, upward] at this ⊢
    rw [this]
def labOk (x : Str) : Bool := decide (1 ≤ x.length ∧ x.length ≤ 8) && x.cps.toList.all fun c => decide (97 ≤ c ∧ c ≤ 122)
section
variable {P : Program} {w : World} {K : PySem.W.Frag} {mg : Str → Option Value} {base : Heap}
def spIsDay (K : PySem.W.Frag) : Sp := fun vs H Q _ => ∃ (a : Addr) (ns : List Int), vs = [.ref a] ∧ SqT K H a (ns.map .int) ∧ ns.length ≤ 1000 ∧ ∀ H', Ext H H' → Q (.bl (dayOk ns)) H'
theorem sc_is_day : FnScope ["thing", "one", "other"] ["thing"] (defScope (top 14)) := ⟨rfl, rfl, rfl, by decide +kernel, rfl, by decide +kernel, by decide +kernel⟩
theorem c_is_day (fx : Fx K mg w) : CalR P w K mg base 2 "is_day" (spIsDay K) := by
  refine fx.d_is_day.ok sc_is_day (fun vs H Q E q => ?_) (fun _ _ _ _ _ _ us hl => match us, hl with | [_], _ => rfl) fun f cdv A outer s H vs Q E hr q => ?_
  · obtain ⟨a, ns, rfl, _⟩ := q
    rfl
  · obtain ⟨a, ns, rfl, ht, hn, q⟩ := q
    refine ⟨_, (pss_cons (ps_if (PW.pt (pw_or (pt_not (pt_val (pe_callB call_isi rfl fx.n_isinstance (by decide +kernel) (pa_cons (pv 0) (pa_cons (pe_ty "tuple" fx.n_tuple (by decide +kernel)) pa_nil))))) (pw_or1 (pt_not (pt_chain op_le op_le pe_int (pe_callB call_len_seq rfl fx.n_len (by decide +kernel) (pa_cons (pv 0) pa_nil)) (pe_k fx.g_MOST_IN_DAY)))))) (pss_one (ps_ret pe_bl)) pss_nil)
    (pss_cons (ps_if (pt_not (pt_val (pe_callB (cr_all rfl) rfl fx.n_all (by decide +kernel) (pa_cons (pe_lc (own := [("one", 1)]) (g := gName 1) (tt := tYes) rfl sc_is_day.nd (pi_tup (pv 0)) (blkOk_by (N := ["thing", "one", "other"]) (sc := defScope (top 14)) (by decide +kernel)) (fun _ _ _ _ _ => (pg_name (i := 1) (x := "one") sc_is_day.nd rfl (Or.inl rfl) (.inr rfl))) (fun _ _ _ _ _ => pts_nil) (fun _ _ _ _ _ => (pe_and (pe_cr (c_is_integer fx) hr passL (pa_cons (pv 1) pa_nil)) (pe_one (pe_chain op_le op_le (pe_op op_sub pe_int (pe_k fx.g_MOST_NUMBER)) (pv 1) (pe_k fx.g_MOST_NUMBER)))))) pa_nil)))) (pss_one (ps_ret pe_bl)) pss_nil)
    (pss_one (ps_ret (pe_callB (cr_all rfl) rfl fx.n_all (by decide +kernel) (pa_cons (pe_lc (own := [("one", 1), ("other", 2)]) (g := (gTup K 2 (gCons (gName 1) (gCons (gName 2) gNil)))) (tt := tYes) rfl sc_is_day.nd (RZ.pi_zipA rfl fx.n_zip (pa_cons (pv 0) (pa_cons (pe_slice sl_tupA (pv 0) (po_some pe_int) po_none) pa_nil))) (blkOk_by (N := ["thing", "one", "other"]) (sc := defScope (top 14)) (by decide +kernel)) (fun _ _ _ _ _ => (pg_tup (n := 2) rfl (pgs_cons (pg_name (i := 1) (x := "one") sc_is_day.nd rfl (Or.inl rfl) (.inr rfl)) (pgs_cons (pg_name (i := 2) (x := "other") sc_is_day.nd rfl (Or.inl rfl) (.inr rfl)) pgs_nil)))) (fun _ _ _ _ _ => pts_nil) (fun _ _ _ _ _ => (pe_cmpR op_lt (pv 1) (pv 2) (nomark _)))) pa_nil)))))), ?_⟩
    repeat walk_at "s"
    refine r_isi (.ty _) (tyT ht) (kit_ty (b := "tuple") (r := true) (by decide +kernel)) ?_
    repeat walk_at "s"
    refine ⟨_, _, rfl, .inr ht, ?_⟩
    repeat walk_at "s"
    rw [List.length_map]
    refine ite_b (fun h1 => ?_) fun h1 => ?_
    rotate_left
    · repeat walk_at "s"
      have h2 := of_decide_eq_false h1
      have e : dayOk ns = false := by
        unfold dayOk
        rw [decide_eq_false (by omega)]; rfl
      have := q H (Ext.refl H)
      rw [e] at this
      exact this
    repeat walk_at "s"
    refine ite_bn (fun h3 => ?_) fun h3 => ?_
    rotate_left
    · have h2 := of_decide_eq_false h3
      repeat walk_at "s"
      have e : dayOk ns = false := by
        unfold dayOk
        rw [decide_eq_false (by omega)]; rfl
      have := q H (Ext.refl H)
      rw [e] at this
      exact this
    repeat walk_at "s"
    refine ⟨a, rfl, ⟨_, ht⟩, fun D hD => lc_vals (K := K) walk_tup hD (by rw [List.length_map]; omega) (fun H' e => e.tup ht) (fun i => .bl (decide (-100 ≤ (ns[i]?).getD 0 ∧ (ns[i]?).getD 0 ≤ 100))) yAt_ext (fun i x H0 H' hi e y Kt hk => ?_) fun H' e hl => ?_⟩
    · obtain ⟨_, hx⟩ := y
      rw [List.getElem?_map] at hx
      obtain ⟨n, hn', rfl⟩ := Option.map_eq_some_iff.mp hx
      rw [hn'] at hk
      refine r_gname ⟨rfl, ?_⟩
      repeat walk_at "s"
      refine ⟨n, rfl, ?_⟩
      repeat walk_at "s"
      have hk' := hk H' (Ext.refl H')
      rw [Option.getD_some] at hk'
      refine ite_b (fun h5 => ?_) fun h5 => ?_
      · have h6 := of_decide_eq_true h5
        repeat walk_at "s"
        have e2 : decide (n ≤ 100) = decide (-100 ≤ n ∧ n ≤ 100) := by
          by_cases h : n ≤ 100
          · rw [decide_eq_true h, decide_eq_true (by omega)]
          · rw [decide_eq_false h, decide_eq_false (by omega)]
        rw [e2]
        exact hk'
      · have h6 := of_decide_eq_false h5
        rw [decide_eq_false (by omega)] at hk'
        exact hk'
    rw [List.length_map] at hl
    have e1 : (List.range ns.length).map (fun i => V.bl (decide (-100 ≤ (ns[i]?).getD 0 ∧ (ns[i]?).getD 0 ≤ 100))) = (ns.map fun n => decide (-100 ≤ n ∧ n ≤ 100)).map V.bl := by
      rw [List.map_map]
      exact map_range_get ns _ _ fun i x hx => by rw [hx]; rfl
    rw [e1] at hl
    repeat walk_at "s"
    refine r_all (.inl (.inl hl)) ?_
    repeat walk_at "s"
    have e2 : (ns.map fun n => decide (-100 ≤ n ∧ n ≤ 100)).all id = ns.all fun n => decide (-100 ≤ n ∧ n ≤ 100) := by rw [List.all_map]; rfl
    rw [e2]
    refine ite_bn (fun h5 => ?_) fun h5 => ?_
    rotate_left
    · repeat walk_at "s"
      have e3 : dayOk ns = false := by
        unfold dayOk
        rw [h5]; simp
      have := q H' e
      rw [e3] at this
      exact this
    repeat walk_at "s"
    have ht' := e.tup ht
    have hh1 := of_decide_eq_true h1
    have hh3 := of_decide_eq_true h3
    refine ⟨a, _, rfl, ht', fun z => ?_, fun _ p hp => ?_⟩
    · exfalso
      have hz := z.1
      rw [List.length_map] at hz
      have hz2 : HT.sIx ns.length 0 (some 1) = min 1 ns.length := HT.sIx_nat ns.length 0 1
      omega
    repeat walk_at "s"
    have e4 : cutV (ns.map V.int) (some 1) none = (ns.drop 1).map V.int := by
      unfold cutV
      simp only [HT.sIx, List.length_map]
      have e5 : min (1 : Int).toNat ns.length = 1 := by omega
      simp only [show ¬ ((1 : Int) < 0) by decide, if_false, e5]
      rw [← List.map_drop, List.take_of_length_le (by simp)]
    rw [e4]
    refine ⟨a, p, _, _, rfl, .inr ⟨(Ext.new hp).tup ht', .inl (.inl upd_same), fun D2 hD2 => ?_⟩⟩
    have ht2 := (Ext.new (o := .tup ((ns.drop 1).map V.int)) hp).tup ht'
    have hp2 : SqT K (upd H' p (.tup ((ns.drop 1).map V.int))) p ((ns.drop 1).map V.int) := .inl (.inl upd_same)
    have hzl : min (ns.map V.int).length ((ns.drop 1).map V.int).length = (ns.zip (ns.drop 1)).length := by
      rw [List.length_map, List.length_map, List.length_zip]
    refine lc_vals (K := K) (walk_zipT (a := a) (b := p) hzl.symm) hD2 (by rw [List.length_zip]; omega) (fun H6 e6 => ⟨e6.tup ht2, e6.tup hp2⟩) (fun i => .bl (decide (((ns.zip (ns.drop 1))[i]?.getD (0, 0)).1 < ((ns.zip (ns.drop 1))[i]?.getD (0, 0)).2))) yPair_ext (fun i x H0 H6 hi e6 y Kt hk => ?_) fun H6 e6 hl6 => ?_
    · obtain ⟨T, x1, x2, rfl, hT, rfl, hx1, hx2⟩ := y
      have hx1 : (ns.map V.int)[i]? = some x1 := hx1
      have hx2 : ((ns.drop 1).map V.int)[i]? = some x2 := hx2
      rw [List.getElem?_map] at hx1 hx2
      obtain ⟨n1, hn1, rfl⟩ := Option.map_eq_some_iff.mp hx1
      obtain ⟨n2, hn2, rfl⟩ := Option.map_eq_some_iff.mp hx2
      refine ⟨T, _, rfl, .inl (.inl upd_same), rfl, _, _, rfl, r_gname ⟨_, _, rfl, r_gname ⟨rfl, rfl, ?_⟩⟩⟩
      repeat walk_at "s"
      have ez : (ns.zip (ns.drop 1))[i]? = some (n1, n2) := List.getElem?_zip_eq_some.mpr ⟨hn1, hn2⟩
      rw [ez] at hk
      exact hk _ (Ext.refl _)
    have e7 : (List.range (ns.zip (ns.drop 1)).length).map (fun i => V.bl (decide (((ns.zip (ns.drop 1))[i]?.getD (0, 0)).1 < ((ns.zip (ns.drop 1))[i]?.getD (0, 0)).2))) = ((ns.zip (ns.drop 1)).map fun p => decide (p.1 < p.2)).map V.bl := by
      rw [List.map_map]
      exact map_range_get (ns.zip (ns.drop 1)) _ _ fun i x hx => by rw [hx]; rfl
    rw [e7] at hl6
    repeat walk_at "s"
    refine r_all (.inl (.inl hl6)) ?_
    rw [upward_zip]
    have e8 : dayOk ns = upward ns := by
      unfold dayOk
      rw [h5, decide_eq_true (show 1 ≤ ns.length ∧ ns.length ≤ 8 by omega)]
      rfl
    have := q H6 ((e.trans (Ext.new hp)).trans e6)
    rw [e8] at this
    exact this
end
end
section
open PySem Spec PyProof.Rows L2
local macro_rules | `(tactic| walk_at "s") => `(tactic| first
  | with_reducible refine r_seq ?_
  | with_reducible refine r_next ?_
  | with_reducible refine r_asg ?_
  | with_reducible refine r_gname ?_
  | with_reducible refine r_ret ?_
  | with_reducible refine r_drop ?_
  | with_reducible refine r_ifs ?_
  | with_reducible refine r_var rfl ?_
  | with_reducible refine r_c ?_
  | with_reducible refine r_op ?_
  | with_reducible refine r_un ?_
  | with_reducible refine r_nil ?_
  | with_reducible refine r_cons ?_
  | with_reducible refine r_test ?_
  | with_reducible refine r_tb ?_
  | with_reducible refine r_and ?_
  | with_reducible refine r_or ?_
  | with_reducible refine r_not ?_
  | with_reducible refine r_andV ?_
  | with_reducible refine r_orV ?_
  | with_reducible refine r_notV ?_
  | with_reducible refine r_if ?_
  | with_reducible refine r_chain ?_
  | with_reducible refine r_cl ?_
  | with_reducible refine r_cb ?_
  | with_reducible refine r_bl ?_
  | with_reducible refine r_I0 ?_
  | with_reducible refine r_yes ?_
  | with_reducible refine r_itT ?_
  | with_reducible refine r_itL ?_
  | with_reducible refine r_itS ?_
  | with_reducible refine r_itE ?_
  | with_reducible refine r_exI ?_
  | with_reducible refine r_itZ ?_
  | with_reducible refine r_nopart ?_
  | with_reducible refine r_lc ?_
  | with_reducible refine r_sl ?_
  | with_reducible refine r_part ?_
  | with_reducible refine r_eq rfl ?_
  | with_reducible refine r_ne rfl ?_
  | with_reducible refine iteT ?_
  | with_reducible refine iteF ?_
  | with_reducible refine ite_nt ?_
  | with_reducible refine ite_nf ?_)
theorem r_for {wi : TI} {g : TG} {tb : TS} {D : Ends} {σ : L2.St} {H : Hp} (h : wi σ H fun J H1 => ∃ W : Nat → Nat → L2.St → Hp → Prop, (∃ m, W 0 m σ H1) ∧ ∀ i m σ H, W i m σ H →
      (J.stop i H ∧ D.nx σ H) ∨ (J.go i H ∧ ∃ N : L2.St → Hp → Prop, (∀ σ' H', N σ' H' → ∃ m', m' < m ∧ W (i + 1) m' σ' H') ∧ ∀ x H', J.yld i H x H' → g x σ H' fun σ2 H2 => tb { D with nx := N, ct := N, bk := D.nx } σ2 H2)) : tFor wi g tb D σ H := h
/-- a tuple of tuples of ints -/
def DaysAt (K : PySem.W.Frag) (H : Hp) (a : Addr) (dss : List (List Int)) : Prop := ∃ as, SqT K H a (as.map .ref) ∧ Paired (fun x ns => SqT K H x (ns.map V.int)) as dss
theorem paired_get {α β : Type} {F : α → β → Prop} : ∀ {l : List α} {r : List β}, Paired F l r → ∀ (i : Nat) (x : α), l[i]? = some x → ∃ y, r[i]? = some y ∧ F x y
  | _, _, .nil, i, x, h => by simp at h
  | _, _, .cons h t, 0, x, e => by
    simp at e
    subst e
    exact ⟨_, rfl, h⟩
  | _, _, .cons h t, i + 1, x, e => by
    obtain ⟨y, h1, h2⟩ := paired_get t i x (by simpa using e)
    exact ⟨y, by simpa using h1, h2⟩
theorem Paired.tk {K : PySem.W.Frag} {H H' : Hp} {F : Hp → Addr → List Int → Prop} (hF : ∀ x ns, F H x ns → F H' x ns) {as : List Addr} {dss : List (List Int)} (h : Paired (F H) as dss) : Paired (F H') as dss := Paired.mapP h hF
theorem DaysAt.tk {K : PySem.W.Frag} {H H' : Hp} {a : Addr} {dss : List (List Int)} (h : DaysAt K H a dss) (e : TK K H H') : DaysAt K H' a dss := by
  obtain ⟨as, h1, h2⟩ := h
  exact ⟨as, e _ _ h1, Paired.mapP h2 fun x ns q => e _ _ q⟩
def prodN (dss : List (List Int)) : Int := (dss.map fun d => (d.length : Int)).foldl (· * ·) 1
theorem take_succ_get {α : Type} {xs : List α} {i : Nat} {x : α} (h : xs[i]? = some x) : xs.take (i + 1) = xs.take i ++ [x] := by rw [List.take_add_one, h]; rfl
theorem r_mul {H : Hp} {Q : VK} {i j : Int} (h : -2 ^ 64 < j ∧ j < 2 ^ 64) (q : Q (.int (i * j)) H) : rI CMul (fun i j => .int (i * j)) (.int i) (.int j) H Q := ⟨i, j, rfl, rfl, by unfold CMul; omega, q⟩
section
variable {P : Program} {w : World} {K : PySem.W.Frag} {mg : Str → Option Value} {base : Heap}
def spManyPaths (K : PySem.W.Frag) : Sp := fun vs H Q _ => ∃ (a : Addr) (dss : List (List Int)), vs = [.ref a] ∧ DaysAt K H a dss ∧ (∀ d ∈ dss, d.length ≤ 1000) ∧ Q (.int (prodN dss)) H
theorem sc_many_paths : FnScope ["days", "many", "day"] ["days"] (defScope (top 15)) := ⟨rfl, rfl, rfl, by decide +kernel, rfl, by decide +kernel, by decide +kernel⟩
theorem c_many_paths (fx : Fx K mg w) : CalR P w K mg base 1 "many_paths" (spManyPaths K) := by
  refine fx.d_many_paths.ok sc_many_paths (fun vs H Q E q => ?_) (fun _ _ _ _ _ _ us hl => match us, hl with | [_], _ => rfl) fun f cdv A outer s H vs Q E hr q => ?_
  · obtain ⟨a, ns, rfl, _⟩ := q
    rfl
  · obtain ⟨a, dss, rfl, ⟨as, ht, hp⟩, hn, q⟩ := q
    refine ⟨_, (pss_cons (ps_set (i := 1) sc_many_paths.nd rfl (Or.inl rfl) pe_int)
    (pss_cons (ps_for PassesOwn.leaving rfl (pi_tup (pv 0)) (pg_name (i := 2) (x := "day") sc_many_paths.nd rfl (Or.inl rfl) (.inl rfl)) (pss_one (ps_set (i := 1) sc_many_paths.nd rfl (Or.inl rfl) (pe_op op_mul (pv 1) (pe_callB call_len_seq rfl fx.n_len (by decide +kernel) (pa_cons (pv 2) pa_nil))))))
    (pss_one (ps_ret (pv 1))))), ?_⟩
    repeat walk_at "s"
    refine r_for ?_
    repeat walk_at "s"
    refine ⟨a, rfl, ⟨_, ht⟩, ?_⟩
    refine for_it walk_tup (fun i σ' H' => H' = H ∧ ∃ o, σ' = [some (.ref a), some (.int (prodN (dss.take i))), o]) ⟨rfl, none, rfl⟩ (fun i σ' H' _ p => by rw [p.1]; exact ht) (fun i x σ' H0 H' hi p y => ?_) fun σ' H' p => ?_
    · obtain ⟨rfl, o, rfl⟩ := p
      obtain ⟨rfl, hx⟩ := y
      rw [List.getElem?_map] at hx
      obtain ⟨b, hb, rfl⟩ := Option.map_eq_some_iff.mp hx
      obtain ⟨ns, hns, hq⟩ := paired_get hp i b hb
      refine r_gname ?_
      repeat walk_at "s"
      refine ⟨_, _, rfl, .inr hq, ?_⟩
      have hl := hn ns (List.mem_of_getElem? hns)
      rw [List.length_map]
      refine r_mul (by constructor <;> omega) ?_
      refine ⟨rfl, some (.ref b), ?_⟩
      have e : prodN (dss.take (i + 1)) = prodN (dss.take i) * ns.length := by
        rw [take_succ_get hns]
        unfold prodN
        rw [List.map_append, List.foldl_append]
        rfl
      rw [e]
      rfl
    · obtain ⟨rfl, o, rfl⟩ := p
      have e : dss.take ((as.map V.ref).length) = dss := List.take_of_length_le (by rw [List.length_map, Paired.length hp]; exact Nat.le_refl _)
      rw [e]
      repeat walk_at "s"
      exact q
/-- what a label may be asked of -/
inductive LabV (K : PySem.W.Frag) (H : Hp) : V → Bool → Prop
  | str (x : Str) (h : x.length ≤ 1000) : LabV K H (.str x) (labOk x)
  | oth {v : V} {t : String} (h : TyX K H v (.type t)) (hk : kitB t "str" = some false) : LabV K H v false
def spIsLabel (K : PySem.W.Frag) : Sp := fun vs H Q _ => ∃ (v : V) (b : Bool), vs = [v] ∧ LabV K H v b ∧ ∀ H', Ext H H' → Q (.bl b) H'
theorem sc_is_label : FnScope ["thing", "letter"] ["thing"] (defScope (top 24)) := ⟨rfl, rfl, rfl, by decide +kernel, rfl, by decide +kernel, by decide +kernel⟩
theorem c_is_label (fx : Fx K mg w) : CalR P w K mg base 1 "is_label" (spIsLabel K) := by
  refine fx.d_is_label.ok sc_is_label (fun vs H Q E q => ?_) (fun _ _ _ _ _ _ us hl => match us, hl with | [_], _ => rfl) fun f cdv A outer s H vs Q E hr q => ?_
  · obtain ⟨a, ns, rfl, _⟩ := q
    rfl
  · obtain ⟨v, b, rfl, hv, q⟩ := q
    refine ⟨_, (pss_cons (ps_if (PW.pt (pw_or (pt_not (pt_val (pe_callB call_isi rfl fx.n_isinstance (by decide +kernel) (pa_cons (pv 0) (pa_cons (pe_ty "str" fx.n_str (by decide +kernel)) pa_nil))))) (pw_or1 (pt_not (pt_chain op_le op_le pe_int (pe_callB call_len_str rfl fx.n_len (by decide +kernel) (pa_cons (pv 0) pa_nil)) (pe_k fx.g_MOST_LETTERS)))))) (pss_one (ps_ret pe_bl)) pss_nil)
    (pss_one (ps_ret (pe_callB (cr_all rfl) rfl fx.n_all (by decide +kernel) (pa_cons (pe_lc (own := [("letter", 1)]) (g := gName 1) (tt := tYes) rfl sc_is_label.nd (pi_str (pv 0)) (blkOk_by (N := ["thing", "letter"]) (sc := defScope (top 24)) (by decide +kernel)) (fun _ _ _ _ _ => (pg_name (i := 1) (x := "letter") sc_is_label.nd rfl (Or.inl rfl) (.inr rfl))) (fun _ _ _ _ _ => pts_nil) (fun _ _ _ _ _ => (pe_cmpR op_in_sign (pv 1) (pe_k fx.g_LETTERS) (by with_unfolding_all rfl)))) pa_nil))))), ?_⟩
    repeat walk_at "s"
    cases hv with
    | @oth v t h hk =>
      refine r_isi (.ty _) h (kit_ty (b := "str") (r := false) hk) ?_
      repeat walk_at "s"
      exact q H (Ext.refl H)
    | str x hx =>
      refine r_isi (.ty _) (.base (.str _)) (kit_ty (b := "str") (r := true) (by decide +kernel)) ?_
      repeat walk_at "s"
      refine ⟨_, rfl, by rw [sizeLine_eq]; omega, ?_⟩
      repeat walk_at "s"
      have bad : ¬ (1 ≤ x.length ∧ x.length ≤ 8) → labOk x = false := fun z => by
        unfold labOk
        rw [decide_eq_false z]; rfl
      refine ite_b (fun h1 => ?_) fun h1 => ?_
      rotate_left
      · have h2 := of_decide_eq_false h1
        repeat walk_at "s"
        have := q H (Ext.refl H)
        rw [bad (by omega)] at this
        exact this
      have h2 := of_decide_eq_true h1
      repeat walk_at "s"
      refine ite_bn (fun h3 => ?_) fun h3 => ?_
      rotate_left
      · have h4 := of_decide_eq_false h3
        repeat walk_at "s"
        have := q H (Ext.refl H)
        rw [bad (by omega)] at this
        exact this
      have h4 := of_decide_eq_true h3
      repeat walk_at "s"
      have hsz : x.cps.size = x.length := rfl
      refine ⟨x, rfl, fun D hD => ?_⟩
      refine lc_vals (K := K) walk_str hD (by omega) (fun _ _ => True.intro) (fun i => .bl (decide (97 ≤ x.cps.toList[i]?.getD 0 ∧ x.cps.toList[i]?.getD 0 ≤ 122))) (fun i H v H' y => by rw [y.1]; exact Ext.refl _) (fun i v H0 H' hi e y Kt hk => ?_) fun H' e hl => ?_
      · obtain ⟨rfl, c, hc, rfl⟩ := y
        refine r_gname ⟨rfl, ?_⟩
        repeat walk_at "s"
        refine ⟨c, _, rfl, rfl, ?_⟩
        have e2 : decide (c ∈ ("abcdefghijklmnopqrstuvwxyz" : Str).cps.toList) = decide (97 ≤ c ∧ c ≤ 122) := by
          have e3 : ("abcdefghijklmnopqrstuvwxyz" : Str).cps.toList = (List.range 26).map (97 + ·) := by decide +kernel
          rw [e3]
          by_cases h : 97 ≤ c ∧ c ≤ 122
          · rw [decide_eq_true h]
            exact decide_eq_true (List.mem_map.mpr ⟨c - 97, List.mem_range.mpr (by omega), by omega⟩)
          · rw [decide_eq_false h]
            refine decide_eq_false fun z => h ?_
            obtain ⟨k, hk1, hk2⟩ := List.mem_map.mp z
            have := List.mem_range.mp hk1
            omega
        rw [e2]
        have hc2 : x.cps.toList[i]? = some c := by rw [Array.getElem?_toList]; exact hc
        rw [hc2] at hk
        exact hk _ (Ext.refl _)
      · have e1 : (List.range x.cps.size).map (fun i => V.bl (decide (97 ≤ x.cps.toList[i]?.getD 0 ∧ x.cps.toList[i]?.getD 0 ≤ 122))) = (x.cps.toList.map fun c => decide (97 ≤ c ∧ c ≤ 122)).map V.bl := by
          rw [List.map_map, ← Array.length_toList]
          exact map_range_get x.cps.toList _ _ fun i c hc => by rw [hc]; rfl
        rw [e1] at hl
        repeat walk_at "s"
        refine r_all (.inl (.inl hl)) ?_
        have e2 : labOk x = (x.cps.toList.map fun c => decide (97 ≤ c ∧ c ≤ 122)).all id := by
          unfold labOk
          rw [decide_eq_true (show 1 ≤ x.length ∧ x.length ≤ 8 by omega), List.all_map]
          rfl
        have := q H' e
        rw [e2] at this
        exact this
end
end
section
open PySem Spec PyProof.Rows L2
local macro_rules | `(tactic| walk_at "s") => `(tactic| first
  | with_reducible refine r_seq ?_
  | with_reducible refine r_next ?_
  | with_reducible refine r_asg ?_
  | with_reducible refine r_gname ?_
  | with_reducible refine r_ret ?_
  | with_reducible refine r_drop ?_
  | with_reducible refine r_ifs ?_
  | with_reducible refine r_var rfl ?_
  | with_reducible refine r_c ?_
  | with_reducible refine r_op ?_
  | with_reducible refine r_un ?_
  | with_reducible refine r_nil ?_
  | with_reducible refine r_cons ?_
  | with_reducible refine r_test ?_
  | with_reducible refine r_tb ?_
  | with_reducible refine r_and ?_
  | with_reducible refine r_or ?_
  | with_reducible refine r_not ?_
  | with_reducible refine r_andV ?_
  | with_reducible refine r_orV ?_
  | with_reducible refine r_notV ?_
  | with_reducible refine r_if ?_
  | with_reducible refine r_chain ?_
  | with_reducible refine r_cl ?_
  | with_reducible refine r_cb ?_
  | with_reducible refine r_bl ?_
  | with_reducible refine r_I0 ?_
  | with_reducible refine r_yes ?_
  | with_reducible refine r_itT ?_
  | with_reducible refine r_itL ?_
  | with_reducible refine r_itS ?_
  | with_reducible refine r_itE ?_
  | with_reducible refine r_exI ?_
  | with_reducible refine r_itZ ?_
  | with_reducible refine r_nopart ?_
  | with_reducible refine r_lc ?_
  | with_reducible refine r_sl ?_
  | with_reducible refine r_part ?_
  | with_reducible refine r_eq rfl ?_
  | with_reducible refine r_ne rfl ?_
  | with_reducible refine iteT ?_
  | with_reducible refine iteF ?_
  | with_reducible refine ite_nt ?_
  | with_reducible refine ite_nf ?_)
/-! ### own exceptions: their __init__, raised -/
section
variable {P : Program} {w : World} {K : PySem.W.Frag} {mg : Str → Option Value} {base : Heap}
/-- a def by its body -/
theorem fnr_ok {x q : Str} {st : Stmt} {f : Addr} {fd : FuncData} {N ps : List Str} {k : Nat} {sp : Sp} (F : Fun K x q st f fd) (S : FnScope N ps (defScope st)) (len : ∀ vs H Q E, sp vs H Q E → vs.length = ps.length)
    (hb : ∀ (kV doc pm : Value) (an : Option Addr) (cdv ct : Value) (us : List Value), us.length = ps.length → bindArgs (PySem.W.fnOf x q (defArgs st) (defBody st) (defScope st) .none kV doc pm an cdv ct) ⟨us, []⟩ = pure (ps.zip us))
    (hbody : ∀ (cdv : Value) (A : Around) (outer : List Env) (s : Shared) (H : Hp) (vs : List V) (Q : VK) (E : XK), Room k (A.deeper (envOfC q (defScope st) s.heap.objs.size f cdv)) → sp vs H Q E →
      ∃ t, PSs (cxOf (L2.CX P w) P w K mg base N q (defScope st) f cdv A outer s H E) (defBody st) t ∧ t { nx := fun _ H' => Q .non H', rt := Q } (start N vs) H) : FnR P w K mg base (L2.CX P w) (k + 1) f sp := by
  have G : FnOk P w K mg base (L2.CX P w) (k + 1) f fd ps sp := F.okX S len fun cdv A outer s H vs Q E hr hs => hbody cdv A outer s H vs Q E hr hs
  have R := G.raw (F.binds hb) .nil
  exact R.imp fun vs H Q E q => by
    rw [List.append_nil]
    exact q
/-- self.f = v alone -/
def spIni (C : Addr) (f : Str) : Sp := fun vs H Q _ => ∃ (a : Addr) (v : V), vs = [.ref a, v] ∧ H a = some (exo a C none) ∧ ∀ dx, H dx = none → dx ≠ a → Q .non (upd (upd H dx (exd dx [(f, v)])) a (exo a C (some dx)))
theorem r_expr_gi {D : Ends} {σ : L2.St} {H : Hp} {tl : List Value} {ta : TA} {t : TS} (h : ta σ H fun vs H1 => ∃ (a C : Addr) (n : String) (ws : List V), vs = .ref a :: ws ∧ ws.length ≤ 1000 ∧ ExG K C tl n ∧ H1 a = some (exo a C none) ∧ t D σ H1) : tSeq (tDrop (tGI K tl ta)) t D σ H := h
theorem r_gst {D : Ends} {σ : L2.St} {H : Hp} {f : Str} {to te : TE} (h : te σ H fun y H1 => to σ H1 fun x H2 => ∃ (a C : Addr) (tl : List Value) (n : String), x = .ref a ∧ ExG K C tl n ∧ PySem.W.findIn K (.ref C) f = some none ∧
  H2 a = some (exo a C none) ∧ ∀ dx, H2 dx = none → dx ≠ a → D.nx σ (upd (upd H2 dx (exd dx [(f, y)])) a (exo a C (some dx)))) : tGst K f to te D σ H := h
theorem sc_x_BadDays : FnScope ["self", "given"] ["self", "given"] (defScope (mem 2 0)) := ⟨rfl, rfl, rfl, by decide +kernel, rfl, by decide +kernel, by decide +kernel⟩
theorem i_BadDays (fx : Fx K mg w) : FnR P w K mg base (L2.CX P w) 1 (He.ma K (He.ga K "BadDays") "__init__") (spIni (He.ga K "BadDays") "given") := by
  obtain ⟨fd, F⟩ := fx.x_BadDays.fn
  refine fnr_ok F sc_x_BadDays (fun vs H Q E q => ?_) (fun _ _ _ _ _ _ us hl => match us, hl with | [_, _], _ => rfl) fun cdv A outer s H vs Q E hr q => ?_
  · obtain ⟨a, v, rfl, _⟩ := q
    rfl
  · obtain ⟨a, v, rfl, ha, q⟩ := q
    refine ⟨_, pss_cons (ps_expr (pe_ginitC initVE rfl fx.stp.1 fx.stp.2.1 fx.stp.2.2.1 fx.stp.2.2.2 (by decide +kernel) (pa_cons (pv 0) (pa_cons pe_str pa_nil)))) (pss_one (ps_gst (pv 0) (pv 1))), ?_⟩
    refine r_expr_gi ?_
    repeat walk_at "s"
    refine ⟨a, _, _, _, rfl, by decide, fx.x_BadDays.g, ha, ?_⟩
    refine r_gst ?_
    repeat walk_at "s"
    exact ⟨a, _, _, _, rfl, fx.x_BadDays.g, fx.x_BadDays.no, ha, fun dx h1 h2 => q dx h1 h2⟩
theorem sc_x_BadLabel : FnScope ["self", "given"] ["self", "given"] (defScope (mem 3 0)) := ⟨rfl, rfl, rfl, by decide +kernel, rfl, by decide +kernel, by decide +kernel⟩
theorem i_BadLabel (fx : Fx K mg w) : FnR P w K mg base (L2.CX P w) 1 (He.ma K (He.ga K "BadLabel") "__init__") (spIni (He.ga K "BadLabel") "given") := by
  obtain ⟨fd, F⟩ := fx.x_BadLabel.fn
  refine fnr_ok F sc_x_BadLabel (fun vs H Q E q => ?_) (fun _ _ _ _ _ _ us hl => match us, hl with | [_, _], _ => rfl) fun cdv A outer s H vs Q E hr q => ?_
  · obtain ⟨a, v, rfl, _⟩ := q
    rfl
  · obtain ⟨a, v, rfl, ha, q⟩ := q
    refine ⟨_, pss_cons (ps_expr (pe_ginitC initVE rfl fx.stp.1 fx.stp.2.1 fx.stp.2.2.1 fx.stp.2.2.2 (by decide +kernel) (pa_cons (pv 0) (pa_cons pe_str pa_nil)))) (pss_one (ps_gst (pv 0) (pv 1))), ?_⟩
    refine r_expr_gi ?_
    repeat walk_at "s"
    refine ⟨a, _, _, _, rfl, by decide, fx.x_BadLabel.g, ha, ?_⟩
    refine r_gst ?_
    repeat walk_at "s"
    exact ⟨a, _, _, _, rfl, fx.x_BadLabel.g, fx.x_BadLabel.no, ha, fun dx h1 h2 => q dx h1 h2⟩
theorem sc_x_BadTerm : FnScope ["self", "path"] ["self", "path"] (defScope (mem 4 0)) := ⟨rfl, rfl, rfl, by decide +kernel, rfl, by decide +kernel, by decide +kernel⟩
theorem i_BadTerm (fx : Fx K mg w) : FnR P w K mg base (L2.CX P w) 1 (He.ma K (He.ga K "BadTerm") "__init__") (spIni (He.ga K "BadTerm") "path") := by
  obtain ⟨fd, F⟩ := fx.x_BadTerm.fn
  refine fnr_ok F sc_x_BadTerm (fun vs H Q E q => ?_) (fun _ _ _ _ _ _ us hl => match us, hl with | [_, _], _ => rfl) fun cdv A outer s H vs Q E hr q => ?_
  · obtain ⟨a, v, rfl, _⟩ := q
    rfl
  · obtain ⟨a, v, rfl, ha, q⟩ := q
    refine ⟨_, pss_cons (ps_expr (pe_ginitC initVE rfl fx.stp.1 fx.stp.2.1 fx.stp.2.2.1 fx.stp.2.2.2 (by decide +kernel) (pa_cons (pv 0) (pa_cons pe_str pa_nil)))) (pss_one (ps_gst (pv 0) (pv 1))), ?_⟩
    refine r_expr_gi ?_
    repeat walk_at "s"
    refine ⟨a, _, _, _, rfl, by decide, fx.x_BadTerm.g, ha, ?_⟩
    refine r_gst ?_
    repeat walk_at "s"
    exact ⟨a, _, _, _, rfl, fx.x_BadTerm.g, fx.x_BadTerm.no, ha, fun dx h1 h2 => q dx h1 h2⟩
theorem sc_x_Missing : FnScope ["self", "given"] ["self", "given"] (defScope (mem 5 0)) := ⟨rfl, rfl, rfl, by decide +kernel, rfl, by decide +kernel, by decide +kernel⟩
theorem i_Missing (fx : Fx K mg w) : FnR P w K mg base (L2.CX P w) 1 (He.ma K (He.ga K "Missing") "__init__") (spIni (He.ga K "Missing") "given") := by
  obtain ⟨fd, F⟩ := fx.x_Missing.fn
  refine fnr_ok F sc_x_Missing (fun vs H Q E q => ?_) (fun _ _ _ _ _ _ us hl => match us, hl with | [_, _], _ => rfl) fun cdv A outer s H vs Q E hr q => ?_
  · obtain ⟨a, v, rfl, _⟩ := q
    rfl
  · obtain ⟨a, v, rfl, ha, q⟩ := q
    refine ⟨_, pss_cons (ps_expr (pe_ginitB (TB := "KeyError") initKE rfl fx.n_KeyError (by decide +kernel) (by kernel_rfl) (by decide +kernel) (by rfl) (by decide +kernel) (pa_cons (pv 0) (pa_cons pe_str pa_nil)))) (pss_one (ps_gst (pv 0) (pv 1))), ?_⟩
    refine r_expr_gi ?_
    repeat walk_at "s"
    refine ⟨a, _, _, _, rfl, by decide, fx.x_Missing.g, ha, ?_⟩
    refine r_gst ?_
    repeat walk_at "s"
    exact ⟨a, _, _, _, rfl, fx.x_Missing.g, fx.x_Missing.no, ha, fun dx h1 h2 => q dx h1 h2⟩
theorem sc_x_TooMany : FnScope ["self", "most"] ["self", "most"] (defScope (mem 6 0)) := ⟨rfl, rfl, rfl, by decide +kernel, rfl, by decide +kernel, by decide +kernel⟩
theorem i_TooMany (fx : Fx K mg w) : FnR P w K mg base (L2.CX P w) 1 (He.ma K (He.ga K "TooMany") "__init__") (spIni (He.ga K "TooMany") "most") := by
  obtain ⟨fd, F⟩ := fx.x_TooMany.fn
  refine fnr_ok F sc_x_TooMany (fun vs H Q E q => ?_) (fun _ _ _ _ _ _ us hl => match us, hl with | [_, _], _ => rfl) fun cdv A outer s H vs Q E hr q => ?_
  · obtain ⟨a, v, rfl, _⟩ := q
    rfl
  · obtain ⟨a, v, rfl, ha, q⟩ := q
    refine ⟨_, pss_cons (ps_expr (pe_ginitB (TB := "OverflowError") initOE rfl fx.n_OverflowError (by decide +kernel) (by kernel_rfl) (by decide +kernel) (by rfl) (by decide +kernel) (pa_cons (pv 0) (pa_cons pe_str pa_nil)))) (pss_one (ps_gst (pv 0) (pv 1))), ?_⟩
    refine r_expr_gi ?_
    repeat walk_at "s"
    refine ⟨a, _, _, _, rfl, by decide, fx.x_TooMany.g, ha, ?_⟩
    refine r_gst ?_
    repeat walk_at "s"
    exact ⟨a, _, _, _, rfl, fx.x_TooMany.g, fx.x_TooMany.no, ha, fun dx h1 h2 => q dx h1 h2⟩
/-- what a raise tells of the heap -/
def Raised (E : XK) (H : Hp) (C : Addr) (f : Str) (v : V) : Prop := ∀ d H', Ext H H' → H d = none → H' d = some (.xd [(f, v)]) → E (.ref C) (some d) H'
theorem Raised.ext {E : XK} {H H1 : Hp} {C : Addr} {f : Str} {v : V} (r : Raised E H C f v) (e : Ext H H1) : Raised E H1 C f v := fun d H' e' hd h => r d H' (e.trans e') (e.none hd) h
end
section
variable {X : Cx} {te : TE} {e : Expr} {p pos : Pos}
/-- raise C(e): e a name or a constant, the reading -/
def tRaise (C : Addr) (f : Str) (te : TE) : L2.St → Hp → XK → Prop := fun σ H W => te σ H fun v H1 => Raised W H1 C f v
def Mono (te : TE) : Prop := ∀ (σ : L2.St) (H : Hp) (Q Q' : VK), (∀ v H1, Q v H1 → Q' v H1) → te σ H Q → te σ H Q'
theorem mono_var {i : Nat} : Mono (tVar i) := fun _ _ _ _ h ⟨v, e, q⟩ => ⟨v, e, h _ _ q⟩
theorem mono_c {v : V} : Mono (tC v) := fun _ _ _ _ h q => h _ _ q
theorem mono_tup0 : Mono (tTup tNil) := fun _ _ _ _ h ⟨a, b⟩ => ⟨a, fun p hp => h _ _ (b p hp)⟩
theorem pmk_x {x f : Str} {i : Nat} {tl : List Value} {newId : String} (xf : ExF X.K X.mg x f i tl newId) (ii : FnR X.prog X.w X.K X.mg X.base (L2.CX X.prog X.w) 1 (He.ma X.K (He.ga X.K x) "__init__") (spIni (He.ga X.K x) f)) (hr : Room 2 X.A)
    (hx : Passes (L2.CX X.prog X.w) X (fun _ _ _ => False)) (hg : Gl X x) (hmo : Mono te) (he : PE X e te) (hdb : (x == ("__debug__" : Str)) = false := by decide) (hs : starEach (e :: []) X.env = (false, eval e X.env) :: starEach [] X.env := by rfl) (hpl : (backTo pos (starEach [] X.env)).any (·.1) = false := by rfl) :
    PMk X (.Call (.Name x p) [e] [] pos) (tRaise (He.ga X.K x) f te) := by
  have R := pmk_g (p := p) (pos := pos) xf.g xf.it xf.tI ii hr hx hg xf.m (pa_cons he pa_nil hs) hdb hs hpl
  intro pins s σ H Q I h
  refine R pins s σ H Q I (hmo σ H _ _ (fun v H1 h2 => ?_) h)
  show ([v] : List V).length ≤ 1000 ∧ _
  refine ⟨by show 1 ≤ 1000; decide, fun a ha => ⟨a, v, rfl, upd_same, fun dx k1 k2 => ⟨rfl, dx, [(f, v)], upd_same, by rw [upd_ne k2, upd_same], ?_, ?_⟩⟩⟩
  · rw [upd_ne k2] at k1
    exact k1
  · rw [upd_ne k2] at k1
    refine h2 dx _ (fun b o e => ?_) k1 upd_same
    have n1 : b ≠ dx := ne_of_none e k1
    have n2 : b ≠ a := ne_of_none e ha
    rw [upd_ne n1, del_ne n2, upd_ne n2, upd_ne n1, upd_ne n2]
    exact e
end
theorem passF {X : Cx} : Passes (L2.CX X.prog X.w) X (fun _ _ _ => False) := fun pins σ H s e s' I c => by
  obtain ⟨_, _, _, _, _, _, _, _, _, _, _, _, z⟩ := c
  exact z.elim
end
section
open PySem Spec PyProof.Rows L2
local macro_rules | `(tactic| walk_at "s") => `(tactic| first
  | with_reducible refine r_seq ?_
  | with_reducible refine r_next ?_
  | with_reducible refine r_asg ?_
  | with_reducible refine r_gname ?_
  | with_reducible refine r_ret ?_
  | with_reducible refine r_drop ?_
  | with_reducible refine r_ifs ?_
  | with_reducible refine r_var rfl ?_
  | with_reducible refine r_c ?_
  | with_reducible refine r_op ?_
  | with_reducible refine r_un ?_
  | with_reducible refine r_nil ?_
  | with_reducible refine r_cons ?_
  | with_reducible refine r_test ?_
  | with_reducible refine r_tb ?_
  | with_reducible refine r_and ?_
  | with_reducible refine r_or ?_
  | with_reducible refine r_not ?_
  | with_reducible refine r_andV ?_
  | with_reducible refine r_orV ?_
  | with_reducible refine r_notV ?_
  | with_reducible refine r_if ?_
  | with_reducible refine r_chain ?_
  | with_reducible refine r_cl ?_
  | with_reducible refine r_cb ?_
  | with_reducible refine r_bl ?_
  | with_reducible refine r_I0 ?_
  | with_reducible refine r_yes ?_
  | with_reducible refine r_itT ?_
  | with_reducible refine r_itL ?_
  | with_reducible refine r_itS ?_
  | with_reducible refine r_itE ?_
  | with_reducible refine r_exI ?_
  | with_reducible refine r_itZ ?_
  | with_reducible refine r_nopart ?_
  | with_reducible refine r_lc ?_
  | with_reducible refine r_sl ?_
  | with_reducible refine r_part ?_
  | with_reducible refine r_eq rfl ?_
  | with_reducible refine r_ne rfl ?_
  | with_reducible refine iteT ?_
  | with_reducible refine iteF ?_
  | with_reducible refine ite_nt ?_
  | with_reducible refine ite_nf ?_)
theorem r_raise {t : L2.St → Hp → XK → Prop} {W : WX} {D : Ends} {σ : L2.St} {H : Hp} (h : t σ H fun cls d H' => W cls d σ H') : (fun (_ : Ends) (σ : L2.St) (H : Hp) => t σ H fun cls d H' => W cls d σ H') D σ H := h
theorem r_raiseV {C : Addr} {f : Str} {i : Nat} {σ : L2.St} {H : Hp} {W : XK} {v : V} (e : σ[i]? = some (some v)) (r : Raised W H C f v) : tRaise C f (tVar i) σ H W := ⟨v, e, r⟩
def daysOk (dss : List (List Int)) : Bool := decide (1 ≤ dss.length ∧ dss.length ≤ 4) && dss.all dayOk && decide (prodN dss ≤ 32)
section
variable {P : Program} {w : World} {K : PySem.W.Frag} {mg : Str → Option Value} {base : Heap}
/-- what need_days may get -/
inductive DaysV (K : PySem.W.Frag) (H : Hp) : V → Bool → Prop
  | tup {a : Addr} {dss : List (List Int)} (h : DaysAt K H a dss) (hl : ∀ d ∈ dss, d.length ≤ 1000) (hd : dss.length ≤ 1000) : DaysV K H (.ref a) (daysOk dss)
  | oth {v : V} {t : String} (h : TyX K H v (.type t)) (hk : kitB t "tuple" = some false) : DaysV K H v false
def spNeedDays (K : PySem.W.Frag) : Sp := fun vs H Q E => ∃ (v : V) (b : Bool), vs = [v] ∧ DaysV K H v b ∧ (b = true → ∀ H', Ext H H' → Q v H') ∧ (b = false → Raised E H (He.ga K "BadDays") "given" v)
theorem sc_need_days : FnScope ["thing", "day"] ["thing"] (defScope (top 16)) := ⟨rfl, rfl, rfl, by decide +kernel, rfl, by decide +kernel, by decide +kernel⟩
theorem c_need_days (fx : Fx K mg w) : CalR P w K mg base 4 "need_days" (spNeedDays K) := by
  refine fx.d_need_days.ok sc_need_days (fun vs H Q E q => ?_) (fun _ _ _ _ _ _ us hl => match us, hl with | [_], _ => rfl) fun f cdv A outer s H vs Q E hr q => ?_
  · obtain ⟨a, ns, rfl, _⟩ := q
    rfl
  · obtain ⟨v, b, rfl, hv, q1, q2⟩ := q
    refine ⟨_, (pss_cons (ps_if (PW.pt (pw_or (pt_not (pt_val (pe_callB call_isi rfl fx.n_isinstance (by decide +kernel) (pa_cons (pv 0) (pa_cons (pe_ty "tuple" fx.n_tuple (by decide +kernel)) pa_nil))))) (pw_or (pt_not (pt_chain op_le op_le pe_int (pe_callB call_len_seq rfl fx.n_len (by decide +kernel) (pa_cons (pv 0) pa_nil)) (pe_k fx.g_MOST_DAYS))) (pw_or1 (pt_not (pt_val (pe_callB (cr_all rfl) rfl fx.n_all (by decide +kernel) (pa_cons (pe_lc (own := [("day", 1)]) (g := gName 1) (tt := tYes) rfl sc_need_days.nd (pi_tup (pv 0)) (blkOk_by (N := ["thing", "day"]) (sc := defScope (top 16)) (by decide +kernel)) (fun _ _ _ _ _ => (pg_name (i := 1) (x := "day") sc_need_days.nd rfl (Or.inl rfl) (.inr rfl))) (fun _ _ _ _ _ => pts_nil) (fun _ _ _ _ _ => (pe_cr (c_is_day fx) hr passL (pa_cons (pv 1) pa_nil)))) pa_nil)))))))) (pss_one (ps_raise rfl (takes_of rfl rfl rfl rfl) (pmk_x fx.x_BadDays (i_BadDays fx) (hr.mono (by decide)) passF rfl mono_var (pv 0)))) pss_nil)
    (pss_cons (ps_if (pt_cmpR op_gt (pe_cr (c_many_paths fx) hr px (pa_cons (pv 0) pa_nil)) (pe_k fx.g_MOST_PATHS) (nomark _)) (pss_one (ps_raise rfl (takes_of rfl rfl rfl rfl) (pmk_x fx.x_BadDays (i_BadDays fx) (hr.mono (by decide)) passF rfl mono_var (pv 0)))) pss_nil)
    (pss_one (ps_ret (pv 0))))), ?_⟩
    repeat walk_at "s"
    cases hv with
    | @oth v t h hk =>
      refine r_isi (.ty _) h (kit_ty (b := "tuple") (r := false) hk) ?_
      repeat walk_at "s"
      exact r_raiseV rfl (q2 rfl)
    | @tup a dss h hl hd =>
      obtain ⟨as, ht, hp⟩ := id h
      have hlen := Paired.length hp
      refine r_isi (.ty _) (tyT ht) (kit_ty (b := "tuple") (r := true) (by decide +kernel)) ?_
      repeat walk_at "s"
      refine ⟨_, _, rfl, .inr ht, ?_⟩
      repeat walk_at "s"
      rw [List.length_map, hlen]
      have bad : ¬ (1 ≤ dss.length ∧ dss.length ≤ 4) → daysOk dss = false := fun z => by
        unfold daysOk
        rw [decide_eq_false z]; rfl
      refine ite_b (fun h1 => ?_) fun h1 => ?_
      rotate_left
      · have h2 := of_decide_eq_false h1
        repeat walk_at "s"
        exact r_raiseV rfl (q2 (bad (by omega)))
      have h2 := of_decide_eq_true h1
      repeat walk_at "s"
      refine ite_bn (fun h3 => ?_) fun h3 => ?_
      rotate_left
      · have h4 := of_decide_eq_false h3
        repeat walk_at "s"
        exact r_raiseV rfl (q2 (bad (by omega)))
      have h4 := of_decide_eq_true h3
      repeat walk_at "s"
      refine ⟨a, rfl, ⟨_, ht⟩, fun D hD => lc_vals (K := K) walk_tup hD (by rw [List.length_map]; omega) (fun H' e => e.tup ht) (fun i => .bl (dayOk ((dss[i]?).getD []))) yAt_ext (fun i x H0 H' hi e y Kt hk => ?_) fun H' e hl' => ?_⟩
      · obtain ⟨_, hx⟩ := y
        rw [List.getElem?_map] at hx
        obtain ⟨n, hn', rfl⟩ := Option.map_eq_some_iff.mp hx
        obtain ⟨ns, hns, hq⟩ := paired_get hp i n hn'
        refine r_gname ⟨rfl, ?_⟩
        repeat walk_at "s"
        refine ⟨n, ns, rfl, e.tup hq, hl ns (List.mem_of_getElem? hns), fun H4 e4 => ?_⟩
        rw [hns] at hk
        exact hk H4 e4
      · have e1 : (List.range (as.map V.ref).length).map (fun i => V.bl (dayOk ((dss[i]?).getD []))) = (dss.map dayOk).map V.bl := by
          rw [List.map_map, List.length_map, hlen]
          exact map_range_get dss _ _ fun i x hx => by rw [hx]; rfl
        rw [e1] at hl'
        repeat walk_at "s"
        refine r_all (.inl (.inl hl')) ?_
        repeat walk_at "s"
        have e2 : (dss.map dayOk).all id = dss.all dayOk := by rw [List.all_map]; rfl
        rw [e2]
        refine ite_bn (fun h5 => ?_) fun h5 => ?_
        rotate_left
        · repeat walk_at "s"
          exact r_raiseV rfl ((q2 (by unfold daysOk; rw [h5]; simp)).ext e)
        repeat walk_at "s"
        refine ⟨a, dss, rfl, h.tk e.tk, hl, ?_⟩
        repeat walk_at "s"
        have hok : daysOk dss = decide (prodN dss ≤ 32) := by
          unfold daysOk
          rw [h5, decide_eq_true (show 1 ≤ dss.length ∧ dss.length ≤ 4 by omega)]; rfl
        refine ite_b (fun h6 => ?_) fun h6 => ?_
        · have h7 := of_decide_eq_true h6
          repeat walk_at "s"
          exact r_raiseV rfl ((q2 (by rw [hok, decide_eq_false (by omega)])).ext e)
        · have h7 := of_decide_eq_false h6
          repeat walk_at "s"
          exact q1 (by rw [hok, decide_eq_true (by omega)]) H' e
end
end
section
open PySem Spec PyProof.Rows L2
local macro_rules | `(tactic| walk_at "s") => `(tactic| first
  | with_reducible refine r_seq ?_
  | with_reducible refine r_next ?_
  | with_reducible refine r_asg ?_
  | with_reducible refine r_gname ?_
  | with_reducible refine r_ret ?_
  | with_reducible refine r_drop ?_
  | with_reducible refine r_ifs ?_
  | with_reducible refine r_var rfl ?_
  | with_reducible refine r_c ?_
  | with_reducible refine r_op ?_
  | with_reducible refine r_un ?_
  | with_reducible refine r_nil ?_
  | with_reducible refine r_cons ?_
  | with_reducible refine r_test ?_
  | with_reducible refine r_tb ?_
  | with_reducible refine r_and ?_
  | with_reducible refine r_or ?_
  | with_reducible refine r_not ?_
  | with_reducible refine r_andV ?_
  | with_reducible refine r_orV ?_
  | with_reducible refine r_notV ?_
  | with_reducible refine r_if ?_
  | with_reducible refine r_chain ?_
  | with_reducible refine r_cl ?_
  | with_reducible refine r_cb ?_
  | with_reducible refine r_bl ?_
  | with_reducible refine r_I0 ?_
  | with_reducible refine r_yes ?_
  | with_reducible refine r_itT ?_
  | with_reducible refine r_itL ?_
  | with_reducible refine r_itS ?_
  | with_reducible refine r_itE ?_
  | with_reducible refine r_exI ?_
  | with_reducible refine r_itZ ?_
  | with_reducible refine r_nopart ?_
  | with_reducible refine r_lc ?_
  | with_reducible refine r_sl ?_
  | with_reducible refine r_part ?_
  | with_reducible refine r_eq rfl ?_
  | with_reducible refine r_ne rfl ?_
  | with_reducible refine iteT ?_
  | with_reducible refine iteF ?_
  | with_reducible refine ite_nt ?_
  | with_reducible refine ite_nf ?_)
section
variable {J J1 : It} {n : Nat} {G : Hp → Prop} {Y : Nat → Hp → V → Hp → Prop}
theorem lc2_it {wi1 : TI} {g g1 : TG} {tt tt1 : L2.TT} {te : TE} {vs vs1 : List Nat} {σ : L2.St} {H1 : Hp} {D : Addr} {Qd : Hp → Prop} (w : Walk J n G Y) (Pv : Nat → Hp → Prop) (h0 : Pv 0 (upd H1 D (.lst []))) (hG : ∀ i H, i ≤ n → Pv i H → G H)
    (hs : ∀ i x H H', i < n → Pv i H → Y i H x H' → g x (wipe σ vs) H' fun σ2 H2 => wipe σ2 vs = wipe σ vs ∧ tt σ2 H2 fun b H3 =>
      if b = true then wi1 σ2 H3 fun J1 H4 => ∃ W1 : Nat → Nat → Hp → Prop, (∃ m, W1 0 m H4) ∧ ∀ j k H, W1 j k H →
        (J1.stop j H ∧ Pv (i + 1) H) ∨ (J1.go j H ∧ ∃ Nx1 : Hp → Prop, (∀ H', Nx1 H' → ∃ k', k' < k ∧ W1 (j + 1) k' H') ∧ ∀ x H', J1.yld j H x H' → g1 x (wipe σ2 vs1) H' fun σ3 H5 => wipe σ3 vs1 = wipe σ2 vs1 ∧ tt1 σ3 H5 fun b H6 =>
          if b = true then te σ3 H6 fun y H7 => ∃ acc, H7 D = some (.lst acc) ∧ acc.length < sizeLine ∧ Nx1 (upd H7 D (.lst (acc ++ [y]))) else Nx1 H6)
      else Pv (i + 1) H3) (hd : ∀ H, Pv n H → Qd H) :
    ∃ W : Nat → Nat → Hp → Prop, (∃ m, W 0 m (upd H1 D (.lst []))) ∧ ∀ i m H, W i m H →
  (J.stop i H ∧ Qd H) ∨ (J.go i H ∧ ∃ Nx : Hp → Prop, (∀ H', Nx H' → ∃ m', m' < m ∧ W (i + 1) m' H') ∧ ∀ x H', J.yld i H x H' → g x (wipe σ vs) H' fun σ2 H2 => wipe σ2 vs = wipe σ vs ∧ tt σ2 H2 fun b H3 =>
    if b = true then wi1 σ2 H3 fun J1 H4 => ∃ W1 : Nat → Nat → Hp → Prop, (∃ m, W1 0 m H4) ∧ ∀ j k H, W1 j k H →
      (J1.stop j H ∧ Nx H) ∨ (J1.go j H ∧ ∃ Nx1 : Hp → Prop, (∀ H', Nx1 H' → ∃ k', k' < k ∧ W1 (j + 1) k' H') ∧ ∀ x H', J1.yld j H x H' → g1 x (wipe σ2 vs1) H' fun σ3 H5 => wipe σ3 vs1 = wipe σ2 vs1 ∧ tt1 σ3 H5 fun b H6 =>
        if b = true then te σ3 H6 fun y H7 => ∃ acc, H7 D = some (.lst acc) ∧ acc.length < sizeLine ∧ Nx1 (upd H7 D (.lst (acc ++ [y]))) else Nx1 H6)
    else Nx H3) := by
  refine ⟨fun i m H => m = n - i ∧ i ≤ n ∧ Pv i H, ⟨n, by simp, Nat.zero_le _, h0⟩, ?_⟩
  rintro i m H ⟨rfl, hi, p⟩
  have q := hG i H hi p
  by_cases hlt : i < n
  · exact .inr ⟨w.goes i H hlt q, Pv (i + 1), fun H' p' => ⟨n - (i + 1), by omega, rfl, hlt, p'⟩, fun x H' y => hs i x H H' hlt p (w.yields i H x H' hlt q y)⟩
  · have e : i = n := by omega
    subst e
    exact .inl ⟨w.stops H q, hd H p⟩
theorem lc_in {g1 : TG} {tt1 : L2.TT} {te : TE} {vs1 : List Nat} {σ2 : L2.St} {H4 : Hp} {D : Addr} {Nx : Hp → Prop} (w : Walk J1 n G Y) (Pv : Nat → Hp → Prop) (h0 : Pv 0 H4) (hG : ∀ i H, i ≤ n → Pv i H → G H)
    (hs : ∀ j x H H', j < n → Pv j H → Y j H x H' → g1 x (wipe σ2 vs1) H' fun σ3 H5 => wipe σ3 vs1 = wipe σ2 vs1 ∧ tt1 σ3 H5 fun b H6 =>
        if b = true then te σ3 H6 fun y H7 => ∃ acc, H7 D = some (.lst acc) ∧ acc.length < sizeLine ∧ Pv (j + 1) (upd H7 D (.lst (acc ++ [y]))) else Pv (j + 1) H6) (hd : ∀ H, Pv n H → Nx H) :
    ∃ W1 : Nat → Nat → Hp → Prop, (∃ m, W1 0 m H4) ∧ ∀ j k H, W1 j k H →
      (J1.stop j H ∧ Nx H) ∨ (J1.go j H ∧ ∃ Nx1 : Hp → Prop, (∀ H', Nx1 H' → ∃ k', k' < k ∧ W1 (j + 1) k' H') ∧ ∀ x H', J1.yld j H x H' → g1 x (wipe σ2 vs1) H' fun σ3 H5 => wipe σ3 vs1 = wipe σ2 vs1 ∧ tt1 σ3 H5 fun b H6 =>
        if b = true then te σ3 H6 fun y H7 => ∃ acc, H7 D = some (.lst acc) ∧ acc.length < sizeLine ∧ Nx1 (upd H7 D (.lst (acc ++ [y]))) else Nx1 H6) := by
  refine ⟨fun i m H => m = n - i ∧ i ≤ n ∧ Pv i H, ⟨n, by simp, Nat.zero_le _, h0⟩, ?_⟩
  rintro i m H ⟨rfl, hi, p⟩
  have q := hG i H hi p
  by_cases hlt : i < n
  · exact .inr ⟨w.goes i H hlt q, Pv (i + 1), fun H' p' => ⟨n - (i + 1), by omega, rfl, hlt, p'⟩, fun x H' y => hs i x H H' hlt p (w.yields i H x H' hlt q y)⟩
  · have e : i = n := by omega
    subst e
    exact .inl ⟨w.stops H q, hd H p⟩
end
theorem r_lc2 {wi wi1 : TI} {g g1 : TG} {tt tt1 : L2.TT} {te : TE} {vs vs1 : List Nat} {σ : L2.St} {H : Hp} {Q : VK} (h : wi σ H fun J H1 => ∀ D, H1 D = none → ∃ W : Nat → Nat → Hp → Prop, (∃ m, W 0 m (upd H1 D (.lst []))) ∧ ∀ i m H, W i m H →
  (J.stop i H ∧ Q (.ref D) H) ∨ (J.go i H ∧ ∃ Nx : Hp → Prop, (∀ H', Nx H' → ∃ m', m' < m ∧ W (i + 1) m' H') ∧ ∀ x H', J.yld i H x H' → g x (wipe σ vs) H' fun σ2 H2 => wipe σ2 vs = wipe σ vs ∧ tt σ2 H2 fun b H3 =>
    if b = true then wi1 σ2 H3 fun J1 H4 => ∃ W1 : Nat → Nat → Hp → Prop, (∃ m, W1 0 m H4) ∧ ∀ j k H, W1 j k H →
      (J1.stop j H ∧ Nx H) ∨ (J1.go j H ∧ ∃ Nx1 : Hp → Prop, (∀ H', Nx1 H' → ∃ k', k' < k ∧ W1 (j + 1) k' H') ∧ ∀ x H', J1.yld j H x H' → g1 x (wipe σ2 vs1) H' fun σ3 H5 => wipe σ3 vs1 = wipe σ2 vs1 ∧ tt1 σ3 H5 fun b H6 =>
        if b = true then te σ3 H6 fun y H7 => ∃ acc, H7 D = some (.lst acc) ∧ acc.length < sizeLine ∧ Nx1 (upd H7 D (.lst (acc ++ [y]))) else Nx1 H6)
    else Nx H3)) : tLc2 wi g tt wi1 g1 tt1 te vs vs1 σ H Q := h
/-- the paths, in order -/
def pathsStep (found : List (List Int)) (day : List Int) : List (List Int) := found.flatMap fun p => day.map fun n => p ++ [n]
def pathsOf (dss : List (List Int)) : List (List Int) := dss.foldl pathsStep [[]]
theorem pathsOf_snoc (dss : List (List Int)) (d : List Int) : pathsOf (dss ++ [d]) = pathsStep (pathsOf dss) d := by unfold pathsOf; rw [List.foldl_append]; rfl
theorem paths_len : ∀ (dss found : List (List Int)) (k : Nat), (∀ p ∈ found, p.length = k) → ∀ p ∈ dss.foldl pathsStep found, p.length = k + dss.length
  | [], found, k, h, p, hp => by rw [h p hp]; rfl
  | d :: dss, found, k, h, p, hp => by
    have := paths_len dss (pathsStep found d) (k + 1) (fun q hq => by
      unfold pathsStep at hq
      obtain ⟨a, ha, hb⟩ := List.mem_flatMap.mp hq
      obtain ⟨n, _, rfl⟩ := List.mem_map.mp hb
      rw [List.length_append, h a ha]; rfl) p hp
    rw [this, List.length_cons]; omega
theorem pathsOf_len (dss : List (List Int)) : ∀ p ∈ pathsOf dss, p.length = dss.length := fun p hp => by
  have := paths_len dss [[]] 0 (fun q hq => by simp at hq; rw [hq]; rfl) p hp
  omega
/-- rows of ints that stand as tuples -/
abbrev Rows (K : PySem.W.Frag) (H : Hp) (as : List Addr) (rows : List (List Int)) : Prop := Paired (fun x ns => SqT K H x (ns.map V.int)) as rows
theorem Rows.tk {K : PySem.W.Frag} {H H' : Hp} {as : List Addr} {rows : List (List Int)} (h : Rows K H as rows) (e : TK K H H') : Rows K H' as rows := Paired.mapP h fun x ns q => e _ _ q
theorem paired_snoc {α β : Type} {F : α → β → Prop} {a : α} {b : β} (h : F a b) : ∀ {l : List α} {r : List β}, Paired F l r → Paired F (l ++ [a]) (r ++ [b])
  | _, _, .nil => .cons h .nil
  | _, _, .cons g t => .cons g (paired_snoc h t)
section
variable {P : Program} {w : World} {K : PySem.W.Frag} {mg : Str → Option Value} {base : Heap}
def spPathsIn (K : PySem.W.Frag) : Sp := fun vs H Q _ => ∃ (a : Addr) (dss : List (List Int)), vs = [.ref a] ∧ DaysAt K H a dss ∧ dss.length ≤ 1000 ∧ (∀ i, (pathsOf (dss.take i)).length ≤ 1000) ∧
  ∀ H' p as, Ext H H' → H p = none → H' p = some (.lst (as.map .ref)) → Rows K H' as (pathsOf dss) → Q (.ref p) H'
theorem sc_paths_in : FnScope ["days", "found", "day", "path", "number"] ["days"] (defScope (top 17)) := ⟨rfl, rfl, rfl, by decide +kernel, rfl, by decide +kernel, by decide +kernel⟩
theorem r_set {te : TE} {i : Nat} {D : Ends} {σ : L2.St} {H : Hp} (h : te σ H fun x H1 => D.nx (σ.set i (some x)) H1) : tAsg te (gName i) D σ H := h
theorem c_paths_in (fx : Fx K mg w) : CalR P w K mg base 1 "paths_in" (spPathsIn K) := by
  refine fx.d_paths_in.ok sc_paths_in (fun vs H Q E q => ?_) (fun _ _ _ _ _ _ us hl => match us, hl with | [_], _ => rfl) fun f cdv A outer s H vs Q E hr q => ?_
  · obtain ⟨a, ns, rfl, _⟩ := q
    rfl
  · obtain ⟨a, dss, rfl, hday, hl, hb, q⟩ := q
    obtain ⟨das, ht, hp⟩ := id hday
    have hlen := Paired.length hp
    refine ⟨_, (pss_cons (ps_set (i := 1) sc_paths_in.nd rfl (Or.inl rfl) (pe_lst (pa_cons (pe_tup pa_nil) pa_nil)))
    (pss_cons (ps_for PassesOwn.leaving rfl (pi_tup (pv 0)) (pg_name (i := 2) (x := "day") sc_paths_in.nd rfl (Or.inr rfl) (.inl rfl)) (pss_one (ps_setLc2 (i := 1) (own := [("path", 3), ("number", 4)]) (vs1 := [4]) (g := gName 3) (g1 := gName 4) (tt := tYes) (tt1 := tYes) (wi1 := iTup K (tVar 2)) (te := tTup (StX.tStar K (tVar 3) (tCons (tVar 4) tNil))) rfl sc_paths_in.nd rfl rfl (sw_true rfl rfl rfl (by decide +kernel)) (pi_list (pv 1)) (blkOk_by (N := ["days", "found", "day", "path", "number"]) (sc := defScope (top 17)) (by decide +kernel)) (by decide) (fun _ _ _ _ _ => pg_name (i := 3) (x := "path") sc_paths_in.nd rfl (Or.inl rfl) (.inr rfl)) (fun _ _ _ _ _ => pts_nil) (fun _ _ _ _ _ => by exact pi_tup (pv 2)) (fun _ _ _ _ _ => pg_name (i := 4) (x := "number") sc_paths_in.nd rfl (Or.inl rfl) (.inr rfl)) (fun _ _ _ _ _ => pts_nil) (fun _ _ _ _ _ => by exact pe_tup (StX.pa_star (pv 3) (pa_cons (pv 4) pa_nil))))))
    (pss_one (ps_ret (pv 1))))), ?_⟩
    repeat walk_at "s"
    refine r_lst ?_
    repeat walk_at "s"
    refine r_tup ?_
    repeat walk_at "s"
    refine ⟨by decide, fun p0 hp0 => ?_⟩
    repeat walk_at "s"
    refine ⟨by show 1 ≤ sizeLine; decide, fun f0 hf0 => ?_⟩
    repeat walk_at "s"
    have E0 : Ext H (upd H p0 (.tup [])) := Ext.new hp0
    have hf0' : H f0 = none := E0.none hf0
    refine r_for ?_
    repeat walk_at "s"
    refine ⟨a, rfl, ⟨_, (E0.trans (Ext.new hf0)).tup ht⟩, ?_⟩
    refine for_it walk_tup (fun i σ' H' => Ext H H' ∧ ∃ p as o3 o4 o5, H p = none ∧ H' p = some (.lst (as.map .ref)) ∧ Rows K H' as (pathsOf (dss.take i)) ∧ σ' = [some (.ref a), some (.ref p), o3, o4, o5]) ⟨E0.trans (Ext.new hf0), f0, [p0], none, none, none, hf0', upd_same, .cons (.inl (.inl ?_)) .nil, rfl⟩ (fun i σ' H' _ z => z.1.tup ht) (fun i x σ' H0 H' hi z y => ?_) fun σ' H' z => ?_
    · rw [upd_ne (ne_of_none (upd_same) hf0)]
      exact upd_same
    · obtain ⟨e, p, as, o3, o4, o5, hpn, hpl, hrows, rfl⟩ := z
      obtain ⟨rfl, hx⟩ := y
      rw [List.getElem?_map] at hx
      obtain ⟨b, hb', rfl⟩ := Option.map_eq_some_iff.mp hx
      obtain ⟨ns, hns, hq⟩ := paired_get hp i b hb'
      have estep : pathsOf (dss.take (i + 1)) = pathsStep (pathsOf (dss.take i)) ns := by rw [take_succ_get hns, pathsOf_snoc]
      have hbig := hb (i + 1)
      have hrl := Paired.length hrows
      refine r_gname ?_
      repeat walk_at "s"
      refine r_lc2 ?_
      repeat walk_at "s"
      refine ⟨p, rfl, ⟨_, .inl (.inl hpl)⟩, fun D hD => ?_⟩
      have hDn : H D = none := e.none hD
      have hpD : p ≠ D := ne_of_none hpl hD
      -- the outer turns
      refine lc2_it walk_list (fun j H2 => Ext H' H2 ∧ ∃ acc, H2 D = some (.lst (acc.map .ref)) ∧ Rows K H2 acc (pathsStep ((pathsOf (dss.take i)).take j) ns)) ⟨Ext.new hD, [], upd_same, .nil⟩ (fun j H2 _ z => .inl (.inl (z.1 _ _ hpl))) (fun j x H2 H3 hj z y => ?_) fun H2 z => ?_
      · obtain ⟨e2, acc, hD2, hr2⟩ := z
        obtain ⟨rfl, hx2⟩ := y
        rw [List.getElem?_map] at hx2
        obtain ⟨b2, hb2, rfl⟩ := Option.map_eq_some_iff.mp hx2
        obtain ⟨row, hrow, hrt⟩ := paired_get hrows j b2 hb2
        have hrowl : row.length ≤ 1000 := by
          have := pathsOf_len _ row (List.mem_of_getElem? hrow)
          rw [this, List.length_take]; omega
        refine r_gname ⟨rfl, ?_⟩
        repeat walk_at "s"
        refine ⟨b, rfl, ⟨_, (e.trans e2).tup hq⟩, ?_⟩
        -- the inner turns
        refine lc_in walk_tup (fun k H4 => Ext H' H4 ∧ ∃ acc2, H4 D = some (.lst (acc2.map .ref)) ∧ Rows K H4 acc2 (pathsStep ((pathsOf (dss.take i)).take j) ns ++ (ns.take k).map fun n => row ++ [n])) ⟨e2, acc, hD2, by simpa using hr2⟩ (fun k H4 _ z => (e.trans z.1).tup hq) (fun k y H4 H5 hk z yy => ?_) fun H4 z => ?_
        · obtain ⟨e4, acc2, hD4, hr4⟩ := z
          obtain ⟨rfl, hy⟩ := yy
          rw [List.getElem?_map] at hy
          obtain ⟨n, hn, rfl⟩ := Option.map_eq_some_iff.mp hy
          refine r_gname ⟨rfl, ?_⟩
          repeat walk_at "s"
          refine r_tup ?_
          refine ⟨.ref b2, rfl, b2, row.map V.int, rfl, .inl (e4.tup hrt), ?_⟩
          repeat walk_at "s"
          refine ⟨by rw [List.length_append, List.length_map, sizeLine_eq]; show row.length + 1 ≤ _; omega, fun t ht => ?_⟩
          have hlen4 : acc2.length ≤ 1000 := by
            have h1 := Paired.length hr4
            have h2 : (pathsStep ((pathsOf (dss.take i)).take j) ns ++ (ns.take k).map fun n => row ++ [n]).length ≤ (pathsStep (pathsOf (dss.take i)) ns).length := by
              have h3 : pathsOf (dss.take i) = (pathsOf (dss.take i)).take j ++ row :: (pathsOf (dss.take i)).drop (j + 1) := by
                have h4 := List.take_append_drop j (pathsOf (dss.take i))
                rw [List.drop_eq_getElem_cons (List.getElem?_eq_some_iff.mp hrow).1, (List.getElem?_eq_some_iff.mp hrow).2] at h4
                exact h4.symm
              conv => rhs; rw [h3]
              unfold pathsStep
              rw [List.flatMap_append, List.flatMap_cons]
              simp only [List.length_append, List.length_map, List.length_take]
              omega
            rw [← estep] at h2
            omega
          have e5 : Ext H5 (upd H5 t (.tup (row.map V.int ++ [.int n]))) := Ext.new ht
          have hD5 := e5 _ _ hD4
          refine ⟨acc2.map .ref, hD5, by rw [List.length_map, sizeLine_eq]; omega, (e4.trans e5).out hD, acc2 ++ [t], by rw [upd_same]; simp, ?_⟩
          have htk : TK K H5 (upd (upd H5 t (.tup (row.map V.int ++ [.int n]))) D (.lst (acc2.map .ref ++ [.ref t]))) := e5.tk.trans (TK.lst hD5)
          rw [take_succ_get hn, List.map_append, ← List.append_assoc]
          refine paired_snoc ?_ (hr4.tk htk)
          refine TK.lst hD5 _ _ (.inl (.inl ?_))
          rw [upd_same, List.map_append]
          rfl
        · obtain ⟨e4, acc2, hD4, hr4⟩ := z
          refine ⟨e4, acc2, hD4, ?_⟩
          have h5 : pathsStep ((pathsOf (dss.take i)).take (j + 1)) ns = pathsStep ((pathsOf (dss.take i)).take j) ns ++ (ns.take (ns.map V.int).length).map fun n => row ++ [n] := by
            rw [take_succ_get hrow]
            unfold pathsStep
            rw [List.flatMap_append, List.length_map, List.take_length]
            simp
          rw [h5]
          exact hr4
      · obtain ⟨e2, acc, hD2, hr2⟩ := z
        have h5 : (pathsOf (dss.take i)).take (as.map V.ref).length = pathsOf (dss.take i) := List.take_of_length_le (by rw [List.length_map, hrl]; exact Nat.le_refl _)
        rw [h5, ← estep] at hr2
        exact ⟨e.trans e2, D, acc, _, _, _, hDn, hD2, hr2, rfl⟩
    · obtain ⟨e, p, as, o3, o4, o5, hpn, hpl, hrows, rfl⟩ := z
      repeat walk_at "s"
      have h5 : dss.take (das.map V.ref).length = dss := List.take_of_length_le (by rw [List.length_map, hlen]; exact Nat.le_refl _)
      rw [h5] at hrows
      exact q H' p as e hpn hpl hrows
end
end
section
open PySem Spec PyProof.Rows L2
/-! ### terms -/
inductive W4 | cash | at_ | low | high
  deriving DecidableEq
inductive W2 | above | below
  deriving DecidableEq
inductive B3 | both | less | grea
  deriving DecidableEq
def W4.txt : W4 → Str
  | .cash => "cash" | .at_ => "at" | .low => "lowest" | .high => "highest"
def W2.txt : W2 → Str
  | .above => "above" | .below => "below"
def B3.txt : B3 → Str
  | .both => "both" | .less => "lesser" | .grea => "greater"
inductive T where
  | lf (w : W4) (n : Int)
  | l2 (w : W2) (d n : Int)
  | un (s : T)
  | tm (s : T) (n : Int)
  | bi (w : B3) (s t : T)
  | ite (d n : Int) (s t : T)
  deriving DecidableEq
namespace T
def data : T → PyData
  | lf w n => .tuple [.str w.txt, .int n]
  | l2 w d n => .tuple [.str w.txt, .int d, .int n]
  | un s => .tuple [.str "short", s.data]
  | tm s n => .tuple [.str "times", s.data, .int n]
  | bi w s t => .tuple [.str w.txt, s.data, t.data]
  | ite d n s t => .tuple [.str "if", .int d, .int n, s.data, t.data]
def kids : T → List (Int × T)
  | lf _ _ => []
  | l2 _ _ _ => []
  | un s => [(1, s)]
  | tm s _ => [(1, s)]
  | bi _ s t => [(1, s), (2, t)]
  | ite _ _ s t => [(3, s), (4, t)]
/-- the tuple's items, us the kids' -/
def items : T → List V → List V
  | lf w n, _ => [.str w.txt, .int n]
  | l2 w d n, _ => [.str w.txt, .int d, .int n]
  | un _, us => .str "short" :: us
  | tm _ n, us => .str "times" :: us ++ [.int n]
  | bi w _ _, us => .str w.txt :: us
  | ite d n _ _, us => .str "if" :: .int d :: .int n :: us
/-- its own numbers stand in their bounds -/
def dayNo (d : Int) : Bool := decide (0 ≤ d ∧ d ≤ 3)
def markNo (n : Int) : Bool := decide (-1000 ≤ n ∧ n ≤ 1000)
def own : T → Bool
  | lf .cash n => markNo n
  | lf _ n => dayNo n
  | l2 _ d n => dayNo d && markNo n
  | un _ => true
  | tm _ n => markNo n
  | bi _ _ _ => true
  | ite d n _ _ => dayNo d && markNo n
def word : T → Str
  | lf w _ => w.txt
  | l2 w _ _ => w.txt
  | un _ => "short"
  | tm _ _ => "times"
  | bi w _ _ => w.txt
  | ite _ _ _ _ => "if"
def places (t : T) : List Int := t.kids.map (·.1)
end T
/-- the term stands at v -/
def TR (K : PySem.W.Frag) (H : Hp) : T → V → Prop
  | .lf w n, v => ∃ a, v = .ref a ∧ SqT K H a [.str w.txt, .int n]
  | .l2 w d n, v => ∃ a, v = .ref a ∧ SqT K H a [.str w.txt, .int d, .int n]
  | .un s, v => ∃ a u, v = .ref a ∧ SqT K H a [.str "short", u] ∧ TR K H s u
  | .tm s n, v => ∃ a u, v = .ref a ∧ SqT K H a [.str "times", u, .int n] ∧ TR K H s u
  | .bi w s t, v => ∃ a u1 u2, v = .ref a ∧ SqT K H a [.str w.txt, u1, u2] ∧ TR K H s u1 ∧ TR K H t u2
  | .ite d n s t, v => ∃ a u1 u2, v = .ref a ∧ SqT K H a [.str "if", .int d, .int n, u1, u2] ∧ TR K H s u1 ∧ TR K H t u2
theorem TR.tk {K : PySem.W.Frag} {H H' : Hp} (e : TK K H H') : ∀ {t : T} {v : V}, TR K H t v → TR K H' t v
  | .lf _ _, _, ⟨a, h1, h2⟩ => ⟨a, h1, e _ _ h2⟩
  | .l2 _ _ _, _, ⟨a, h1, h2⟩ => ⟨a, h1, e _ _ h2⟩
  | .un _, _, ⟨a, u, h1, h2, h3⟩ => ⟨a, u, h1, e _ _ h2, TR.tk e h3⟩
  | .tm _ _, _, ⟨a, u, h1, h2, h3⟩ => ⟨a, u, h1, e _ _ h2, TR.tk e h3⟩
  | .bi _ _ _, _, ⟨a, u1, u2, h1, h2, h3, h4⟩ => ⟨a, u1, u2, h1, e _ _ h2, TR.tk e h3, TR.tk e h4⟩
  | .ite _ _ _ _, _, ⟨a, u1, u2, h1, h2, h3, h4⟩ => ⟨a, u1, u2, h1, e _ _ h2, TR.tk e h3, TR.tk e h4⟩
/-- a node: its items, its kids -/
theorem TR.node {K : PySem.W.Frag} {H : Hp} : ∀ {t : T} {v : V}, TR K H t v → ∃ a us, v = .ref a ∧ SqT K H a (t.items us) ∧ Paired (fun (k : Int × T) u => TR K H k.2 u) t.kids us
  | .lf _ _, _, ⟨a, h1, h2⟩ => ⟨a, [], h1, h2, .nil⟩
  | .l2 _ _ _, _, ⟨a, h1, h2⟩ => ⟨a, [], h1, h2, .nil⟩
  | .un _, _, ⟨a, u, h1, h2, h3⟩ => ⟨a, [u], h1, h2, .cons h3 .nil⟩
  | .tm _ _, _, ⟨a, u, h1, h2, h3⟩ => ⟨a, [u], h1, h2, .cons h3 .nil⟩
  | .bi _ _ _, _, ⟨a, u1, u2, h1, h2, h3, h4⟩ => ⟨a, [u1, u2], h1, h2, .cons h3 (.cons h4 .nil)⟩
  | .ite _ _ _ _, _, ⟨a, u1, u2, h1, h2, h3, h4⟩ => ⟨a, [u1, u2], h1, h2, .cons h3 (.cons h4 .nil)⟩
/-- the data that is read -/
theorem TR.dp {K : PySem.W.Frag} {H : Hp} : ∀ {t : T} {v : V}, TR K H t v → Dp K H v t.data
  | .lf _ _, _, ⟨a, h1, h2⟩ => by
    rw [h1]
    exact .tup h2 (.cons (.str _) (.cons (.int _) .nil))
  | .l2 _ _ _, _, ⟨a, h1, h2⟩ => by
    rw [h1]
    exact .tup h2 (.cons (.str _) (.cons (.int _) (.cons (.int _) .nil)))
  | .un _, _, ⟨a, u, h1, h2, h3⟩ => by
    rw [h1]
    exact .tup h2 (.cons (.str _) (.cons (TR.dp h3) .nil))
  | .tm _ _, _, ⟨a, u, h1, h2, h3⟩ => by
    rw [h1]
    exact .tup h2 (.cons (.str _) (.cons (TR.dp h3) (.cons (.int _) .nil)))
  | .bi _ _ _, _, ⟨a, u1, u2, h1, h2, h3, h4⟩ => by
    rw [h1]
    exact .tup h2 (.cons (.str _) (.cons (TR.dp h3) (.cons (TR.dp h4) .nil)))
  | .ite _ _ _ _, _, ⟨a, u1, u2, h1, h2, h3, h4⟩ => by
    rw [h1]
    exact .tup h2 (.cons (.str _) (.cons (.int _) (.cons (.int _) (.cons (TR.dp h3) (.cons (TR.dp h4) .nil)))))
theorem TR.dx {K : PySem.W.Frag} {H : Hp} : ∀ {t : T} {v : V}, TR K H t v → Dx K H v t.data
  | .lf _ _, _, ⟨a, h1, h2⟩ => by
    rw [h1]
    exact .tup h2 (.cons (.str _) (.cons (.int _) .nil))
  | .l2 _ _ _, _, ⟨a, h1, h2⟩ => by
    rw [h1]
    exact .tup h2 (.cons (.str _) (.cons (.int _) (.cons (.int _) .nil)))
  | .un _, _, ⟨a, u, h1, h2, h3⟩ => by
    rw [h1]
    exact .tup h2 (.cons (.str _) (.cons (TR.dx h3) .nil))
  | .tm _ _, _, ⟨a, u, h1, h2, h3⟩ => by
    rw [h1]
    exact .tup h2 (.cons (.str _) (.cons (TR.dx h3) (.cons (.int _) .nil)))
  | .bi _ _ _, _, ⟨a, u1, u2, h1, h2, h3, h4⟩ => by
    rw [h1]
    exact .tup h2 (.cons (.str _) (.cons (TR.dx h3) (.cons (TR.dx h4) .nil)))
  | .ite _ _ _ _, _, ⟨a, u1, u2, h1, h2, h3, h4⟩ => by
    rw [h1]
    exact .tup h2 (.cons (.str _) (.cons (.int _) (.cons (.int _) (.cons (TR.dx h3) (.cons (TR.dx h4) .nil)))))
theorem ite_eqT {A B : Prop} {b : Bool} (hb : b = true) (h : A) : if b = true then A else B := by
  rw [hb]
  exact iteT h
theorem ite_eqF {A B : Prop} {b : Bool} (hb : b = false) (h : B) : if b = true then A else B := by
  rw [hb]
  exact iteF h
theorem r_inL {K : PySem.W.Frag} {neg : Bool} {x : V} {xs : List V} {H : Hp} {Q : VK} (hf : flatV x = true) (hx : xs.all flatV = true) (hl : xs.length ≤ 100) (h : ∀ H', Ext H H' → Q (.bl (if neg then !inV x xs else inV x xs)) H') :
    xs.length ≤ sizeLine ∧ ∀ p, H p = none → rIn K neg x (.ref p) (upd H p (.tup xs)) Q :=
  ⟨by rw [sizeLine_eq]; omega, fun p hp => ⟨p, xs, rfl, .inr (.inl (.inl upd_same)), hf, hx, h _ (Ext.new hp)⟩⟩
namespace T
/-- its levels -/
def hgt : T → Nat
  | lf _ _ => 1
  | l2 _ _ _ => 1
  | un s => s.hgt + 1
  | tm s _ => s.hgt + 1
  | bi _ s t => max s.hgt t.hgt + 1
  | ite _ _ s t => max s.hgt t.hgt + 1
/-- its nodes -/
def wds : T → Nat
  | lf _ _ => 1
  | l2 _ _ _ => 1
  | un s => s.wds + 1
  | tm s _ => s.wds + 1
  | bi _ s t => s.wds + t.wds + 1
  | ite _ _ s t => s.wds + t.wds + 1
def len : T → Int
  | lf _ _ => 2
  | l2 _ _ _ => 3
  | un _ => 2
  | tm _ _ => 3
  | bi _ _ _ => 3
  | ite _ _ _ _ => 5
theorem depth_eq : ∀ t : T, t.data.depth = t.hgt
  | lf _ _ => by simp [data, PyData.depth, PyData.depthAll, hgt]
  | l2 _ _ _ => by simp [data, PyData.depth, PyData.depthAll, hgt]
  | un s => by simp [data, PyData.depth, PyData.depthAll, hgt, depth_eq s]
  | tm s _ => by simp [data, PyData.depth, PyData.depthAll, hgt, depth_eq s]
  | bi _ s t => by simp [data, PyData.depth, PyData.depthAll, hgt, depth_eq s, depth_eq t]
  | ite _ _ s t => by simp [data, PyData.depth, PyData.depthAll, hgt, depth_eq s, depth_eq t]
theorem w4_ok : ∀ w : W4, PyData.canLay0 (.str w.txt) = true := by intro w; cases w <;> decide +kernel
theorem w2_ok : ∀ w : W2, PyData.canLay0 (.str w.txt) = true := by intro w; cases w <;> decide +kernel
theorem b3_ok : ∀ w : B3, PyData.canLay0 (.str w.txt) = true := by intro w; cases w <;> decide +kernel
theorem lay_eq : ∀ t : T, t.data.canLay0 = true
  | lf w _ => by simp only [data, PyData.canLay0, PyData.canLayAll0, Bool.and_true]; exact w4_ok w
  | l2 w _ _ => by simp only [data, PyData.canLay0, PyData.canLayAll0, Bool.and_true]; exact w2_ok w
  | un s => by
    simp only [data, PyData.canLay0, PyData.canLayAll0, lay_eq s, Bool.and_true]
    show PyData.canLay0 (.str "short") = true
    decide +kernel
  | tm s _ => by
    simp only [data, PyData.canLay0, PyData.canLayAll0, lay_eq s, Bool.and_true]
    show PyData.canLay0 (.str "times") = true
    decide +kernel
  | bi w s t => by
    simp only [data, PyData.canLay0, PyData.canLayAll0, lay_eq s, lay_eq t, Bool.and_true]
    exact b3_ok w
  | ite _ _ s t => by
    simp only [data, PyData.canLay0, PyData.canLayAll0, lay_eq s, lay_eq t, Bool.and_true]
    show PyData.canLay0 (.str "if") = true
    decide +kernel
theorem shaped (t : T) (h : t.hgt ≤ 60) : SeqAt.shaped t.data = true := by
  unfold SeqAt.shaped
  rw [lay_eq, depth_eq, decide_eq_true (by omega)]
  rfl
theorem ne_nil (t : T) : PyData.eqv t.data (.tuple []) = false := by
  cases t <;> simp [data, PyData.eqv, PyData.eqvAll]
theorem len_eq (t : T) (us : List V) (h : us.length = t.kids.length) : ((t.items us).length : Int) = t.len := by
  cases t <;> simp [items, len, kids] at h ⊢ <;> omega
theorem item0 (t : T) (us : List V) : (t.items us)[0]? = some (.str t.word) := by
  cases t <;> rfl
theorem word_len (t : T) : (t.word, t.len) ∈ lensL := by
  cases t with
  | lf w n => cases w with
    | cash => exact List.mem_of_getElem? (i := 0) rfl
    | at_ => exact List.mem_of_getElem? (i := 1) rfl
    | low => exact List.mem_of_getElem? (i := 4) rfl
    | high => exact List.mem_of_getElem? (i := 5) rfl
  | l2 w d n => cases w with
    | above => exact List.mem_of_getElem? (i := 2) rfl
    | below => exact List.mem_of_getElem? (i := 3) rfl
  | un s => exact List.mem_of_getElem? (i := 7) rfl
  | tm s n => exact List.mem_of_getElem? (i := 8) rfl
  | bi w s t => cases w with
    | both => exact List.mem_of_getElem? (i := 6) rfl
    | less => exact List.mem_of_getElem? (i := 9) rfl
    | grea => exact List.mem_of_getElem? (i := 10) rfl
  | ite d n s t => exact List.mem_of_getElem? (i := 11) rfl
theorem word_plc (t : T) : ((t.word, t.places) ∈ plcsL ∧ t.places ≠ []) ∨ (t.word ∈ plcsN ∧ t.places = []) := by
  cases t with
  | lf w n => cases w with
    | cash => exact .inr ⟨List.mem_of_getElem? (i := 0) rfl, rfl⟩
    | at_ => exact .inr ⟨List.mem_of_getElem? (i := 1) rfl, rfl⟩
    | low => exact .inr ⟨List.mem_of_getElem? (i := 4) rfl, rfl⟩
    | high => exact .inr ⟨List.mem_of_getElem? (i := 5) rfl, rfl⟩
  | l2 w d n => cases w with
    | above => exact .inr ⟨List.mem_of_getElem? (i := 2) rfl, rfl⟩
    | below => exact .inr ⟨List.mem_of_getElem? (i := 3) rfl, rfl⟩
  | un s => exact .inl ⟨List.mem_of_getElem? (i := 1) rfl, fun z => nomatch z⟩
  | tm s n => exact .inl ⟨List.mem_of_getElem? (i := 2) rfl, fun z => nomatch z⟩
  | bi w s t => cases w with
    | both => exact .inl ⟨List.mem_of_getElem? (i := 0) rfl, fun z => nomatch z⟩
    | less => exact .inl ⟨List.mem_of_getElem? (i := 3) rfl, fun z => nomatch z⟩
    | grea => exact .inl ⟨List.mem_of_getElem? (i := 4) rfl, fun z => nomatch z⟩
  | ite d n s t => exact .inl ⟨List.mem_of_getElem? (i := 5) rfl, fun z => nomatch z⟩
end T
theorem r_kget1 {K : PySem.W.Frag} {d : Addr} {td ty : TE} {σ : L2.St} {H : Hp} {Q : VK} (h : td σ H fun x H1 => x = .ref d ∧ ty σ H1 fun y H2 => ∃ (z : Str) (o : Option V), y = .str z ∧ KGet K d z o ∧ Q (o.getD .non) H2) : tKGet1 K d td ty σ H Q := h
theorem r_kget2 {K : PySem.W.Frag} {d : Addr} {td ty tx : TE} {σ : L2.St} {H : Hp} {Q : VK} (h : td σ H fun x H1 => x = .ref d ∧ ty σ H1 fun y H2 => tx σ H2 fun t H3 => ∃ (z : Str) (o : Option V), y = .str z ∧ KGet K d z o ∧ Q (o.getD t) H3) : tKGet2 K d td ty tx σ H Q := h
/-! ### the nodes in order -/
mutual
def preN : T → List Int → List (List Int × T)
  | .lf w n, p => [(p, .lf w n)]
  | .l2 w d n, p => [(p, .l2 w d n)]
  | .un s, p => (p, .un s) :: preN s (p ++ [1])
  | .tm s n, p => (p, .tm s n) :: preN s (p ++ [1])
  | .bi w s t, p => (p, .bi w s t) :: (preN s (p ++ [1]) ++ preN t (p ++ [2]))
  | .ite d n s t, p => (p, .ite d n s t) :: (preN s (p ++ [3]) ++ preN t (p ++ [4]))
end
def kidsAt (e : List Int × T) : List (List Int × T) := e.2.kids.map fun k => (e.1 ++ [k.1], k.2)
def flatN (l : List (List Int × T)) : List (List Int × T) := l.flatMap fun e => preN e.2 e.1
theorem preN_eq (t : T) (p : List Int) : preN t p = (p, t) :: flatN (kidsAt (p, t)) := by
  cases t <;> simp [preN, flatN, kidsAt, T.kids]
theorem preN_len : ∀ (t : T) (p : List Int), (preN t p).length = t.wds
  | .lf _ _, p => by simp [preN, T.wds]
  | .l2 _ _ _, p => by simp [preN, T.wds]
  | .un s, p => by simp [preN, T.wds, preN_len s]
  | .tm s _, p => by simp [preN, T.wds, preN_len s]
  | .bi _ s t, p => by simp [preN, T.wds, preN_len s, preN_len t]
  | .ite _ _ s t, p => by simp [preN, T.wds, preN_len s, preN_len t]
theorem flatN_len (l : List (List Int × T)) : (flatN l).length = (l.map fun e => e.2.wds).sum := by
  induction l with
  | nil => rfl
  | cons e l ih =>
    show (preN e.2 e.1 ++ flatN l).length = _
    rw [List.length_append, preN_len, ih]
    rfl
theorem kids_hgt (t : T) : ∀ k ∈ t.kids, k.2.hgt + 1 ≤ t.hgt := by
  cases t <;> simp [T.kids, T.hgt] <;> omega
theorem wds_pos (t : T) : 1 ≤ t.wds := by cases t <;> simp [T.wds]
theorem wds_kids (t : T) : t.wds = 1 + (t.kids.map fun k => k.2.wds).sum := by
  cases t <;> simp [T.wds, T.kids] <;> omega
/-- every node's numbers stand in their bounds -/
def allOwn (t : T) : Bool := (preN t []).all fun e => e.2.own
/-- where the first node stands whose numbers do not -/
def firstBad (t : T) : Option (List Int) := ((preN t []).find? fun e => !e.2.own).map (·.1)
def prePaths (t : T) : List (List Int) := (preN t []).map (·.1)
/-! ### data of paths and of stacks -/
def entD (e : List Int × T) : PyData := .tuple [.tuple (e.1.map .int), e.2.data]
theorem lay_ints : ∀ ns : List Int, PyData.canLayAll0 (ns.map PyData.int) = true
  | [] => rfl
  | n :: ns => by
    simp only [List.map_cons, PyData.canLayAll0, PyData.canLay0, Bool.true_and]
    exact lay_ints ns
theorem dep_ints : ∀ ns : List Int, PyData.depthAll (ns.map PyData.int) ≤ 1
  | [] => by simp [PyData.depthAll]
  | n :: ns => by
    have := dep_ints ns
    simp only [List.map_cons, PyData.depthAll, PyData.depth]
    omega
theorem lay_ents : ∀ l : List (List Int × T), PyData.canLayAll0 (l.map entD) = true
  | [] => rfl
  | e :: l => by
    simp only [List.map_cons, PyData.canLayAll0, entD, PyData.canLay0, T.lay_eq, lay_ints, Bool.true_and, Bool.and_true]
    exact lay_ents l
theorem dep_ents : ∀ l : List (List Int × T), (∀ e ∈ l, e.2.hgt ≤ 50) → PyData.depthAll (l.map entD) ≤ 55
  | [], _ => by simp [PyData.depthAll]
  | e :: l, h => by
    have h1 := dep_ents l fun x hx => h x (List.mem_cons_of_mem _ hx)
    have h2 := dep_ints e.1
    have h3 := h e List.mem_cons_self
    have h4 := T.depth_eq e.2
    simp only [List.map_cons, PyData.depthAll, entD, PyData.depth]
    omega
theorem shaped_ents (l : List (List Int × T)) (h : ∀ e ∈ l, e.2.hgt ≤ 50) : SeqAt.shaped (.list (l.map entD)) = true := by
  have := dep_ents l h
  unfold SeqAt.shaped
  simp only [PyData.canLay0, lay_ents, PyData.depth, Bool.true_and]
  exact decide_eq_true (by omega)
/-- rows of ints that stand as tracked tuples -/
abbrev RowsT (H : Hp) (as : List Addr) (rows : List (List Int)) : Prop := Paired (fun x ns => H x = some (.tup (ns.map V.int))) as rows
theorem RowsT.tk {K : PySem.W.Frag} {H H' : Hp} {as : List Addr} {rows : List (List Int)} (h : RowsT H as rows) (e : TK K H H') : RowsT H' as rows := Paired.mapP h fun x ns q => e.tp _ _ q
theorem RowsT.rows {K : PySem.W.Frag} {H : Hp} {as : List Addr} {rows : List (List Int)} (h : RowsT H as rows) : Rows K H as rows := Paired.mapP h fun x ns q => .inl (.inl q)
/-- an entry of the stack -/
def EntAt (K : PySem.W.Frag) (H : Hp) (x : Addr) (e : List Int × T) : Prop := ∃ pa u, SqT K H x [.ref pa, u] ∧ H pa = some (.tup (e.1.map .int)) ∧ TR K H e.2 u
theorem EntAt.tk {K : PySem.W.Frag} {H H' : Hp} {x : Addr} {e : List Int × T} (h : EntAt K H x e) (k : TK K H H') : EntAt K H' x e := by
  obtain ⟨pa, u, h1, h2, h3⟩ := h
  exact ⟨pa, u, k _ _ h1, k.tp _ _ h2, h3.tk k⟩
theorem dp_ints {K : PySem.W.Frag} {H : Hp} : ∀ ns : List Int, DpAll K H (ns.map .int) (ns.map .int)
  | [] => .nil
  | n :: ns => .cons (.int n) (dp_ints ns)
theorem EntAt.dp {K : PySem.W.Frag} {H : Hp} {x : Addr} {e : List Int × T} (h : EntAt K H x e) : Dp K H (.ref x) (entD e) := by
  obtain ⟨pa, u, h1, h2, h3⟩ := h
  exact .tup h1 (.cons (.tup (.inl (.inl h2)) (dp_ints e.1)) (.cons h3.dp .nil))
theorem dp_ents {K : PySem.W.Frag} {H : Hp} {ws : List Addr} {l : List (List Int × T)} (h : Paired (EntAt K H) ws l) : DpAll K H (ws.map .ref) (l.map entD) := by
  induction h with
  | nil => exact .nil
  | cons h _ ih => exact .cons h.dp ih
theorem r_bm {K : PySem.W.Frag} {T : String} {r : V → List V → Hp → VK → Prop} {to : TE} {t : TA} {σ : L2.St} {H : Hp} {Q : VK} (h : to σ H fun x H1 => tyV K T x H1 ∧ t σ H1 fun xs H2 => r x xs H2 Q) : tBM K T r to t σ H Q := h
theorem r_bm0 {K : PySem.W.Frag} {T : String} {r : V → List V → Hp → VK → Prop} {to : TE} {σ : L2.St} {H : Hp} {Q : VK} (h : to σ H fun x H1 => tyV K T x H1 ∧ r x [] H1 Q) : tBM0 K T r to σ H Q := h
theorem tyL {K : PySem.W.Frag} {H : Hp} {l : Addr} {xs : List V} (h : H l = some (.lst xs)) : tyV K "list" (.ref l) H := .inl ⟨rfl, xs, .inl (.inl h)⟩
theorem r_par {i j : Nat} {ta : TA} {D : Ends} {σ : L2.St} {H : Hp} (h : ta σ H fun vs H1 => ∃ u v, vs = [u, v] ∧ D.nx ((σ.set i (some u)).set j (some v)) H1) : tPar i j ta D σ H := h
theorem paired_concat {α β : Type} {F : α → β → Prop} : ∀ {l : List α} {r : List β} {b : β}, Paired F l (r ++ [b]) → ∃ l' a, l = l' ++ [a] ∧ Paired F l' r ∧ F a b
  | _, [], _, .cons h .nil => ⟨[], _, rfl, .nil, h⟩
  | _, _ :: r, b, .cons h t => by
    obtain ⟨l', a, e, p, f⟩ := paired_concat t
    exact ⟨_ :: l', a, by rw [e]; rfl, .cons h p, f⟩
theorem paired_app {α β : Type} {F : α → β → Prop} : ∀ {l l2 : List α} {r r2 : List β}, Paired F l r → Paired F l2 r2 → Paired F (l ++ l2) (r ++ r2)
  | _, _, _, _, .nil, h => h
  | _, _, _, _, .cons a b, h => .cons a (paired_app b h)
theorem T.item_kid {F : Int × T → V → Prop} (t : T) {us : List V} (h : Paired F t.kids us) (k : Int × T) (hk : k ∈ t.kids) : ∃ x, F k x ∧ atI (t.items us) k.1 = some x := by
  cases t with
  | lf w n => cases hk
  | l2 w d n => cases hk
  | un s =>
    cases h with
    | cons h1 h2 =>
      cases h2
      have e : k = (1, s) := by simpa [T.kids] using hk
      rw [e]
      exact ⟨_, h1, rfl⟩
  | tm s n =>
    cases h with
    | cons h1 h2 =>
      cases h2
      have e : k = (1, s) := by simpa [T.kids] using hk
      rw [e]
      exact ⟨_, h1, rfl⟩
  | bi w s t =>
    cases h with
    | cons h1 h2 =>
      cases h2 with
      | cons h3 h4 =>
        cases h4
        have e : k = (1, s) ∨ k = (2, t) := by simpa [T.kids] using hk
        rcases e with e | e
        · rw [e]; exact ⟨_, h1, rfl⟩
        · rw [e]; exact ⟨_, h3, rfl⟩
  | ite d n s t =>
    cases h with
    | cons h1 h2 =>
      cases h2 with
      | cons h3 h4 =>
        cases h4
        have e : k = (3, s) ∨ k = (4, t) := by simpa [T.kids] using hk
        rcases e with e | e
        · rw [e]; exact ⟨_, h1, rfl⟩
        · rw [e]; exact ⟨_, h3, rfl⟩
theorem r_revT {K : PySem.W.Frag} {te : TE} {σ : L2.St} {H : Hp} {Q : VK} (h : te σ H fun x H1 => ∃ a xs, x = .ref a ∧ SqT K H1 a xs ∧ ∀ p, H1 p = none → Q (.ref p) (upd H1 p (.tup xs.reverse))) : tRevT K te σ H Q := h
theorem r_star {K : PySem.W.Frag} {te : TE} {t : TA} {σ : L2.St} {H : Hp} {Q : List V → Hp → Prop} (h : te σ H fun x H1 => ∃ p xs, x = V.ref p ∧ (SqT K H1 p xs ∨ SqL K H1 p xs) ∧ t σ H1 fun ys H2 => Q (xs ++ ys) H2) : StX.tStar K te t σ H Q := h
theorem firstBad_of {t u : T} {p : List Int} {done rest : List (List Int × T)} (h : done ++ (p, u) :: rest = preN t []) (hd : ∀ e ∈ done, e.2.own = true) (hu : u.own = false) : firstBad t = some p := by
  unfold firstBad
  rw [← h, List.find?_append]
  have e : done.find? (fun e => !e.2.own) = none := List.find?_eq_none.mpr fun x hx => by rw [hd x hx]; decide
  rw [e]
  simp [List.find?_cons, hu]
end
section
open PySem Spec PyProof.Rows L2
local macro_rules | `(tactic| walk_at "s") => `(tactic| first
  | with_reducible refine r_seq ?_
  | with_reducible refine r_next ?_
  | with_reducible refine r_asg ?_
  | with_reducible refine r_gname ?_
  | with_reducible refine r_ret ?_
  | with_reducible refine r_drop ?_
  | with_reducible refine r_ifs ?_
  | with_reducible refine r_var rfl ?_
  | with_reducible refine r_c ?_
  | with_reducible refine r_op ?_
  | with_reducible refine r_un ?_
  | with_reducible refine r_nil ?_
  | with_reducible refine r_cons ?_
  | with_reducible refine r_test ?_
  | with_reducible refine r_tb ?_
  | with_reducible refine r_and ?_
  | with_reducible refine r_or ?_
  | with_reducible refine r_not ?_
  | with_reducible refine r_andV ?_
  | with_reducible refine r_orV ?_
  | with_reducible refine r_notV ?_
  | with_reducible refine r_if ?_
  | with_reducible refine r_chain ?_
  | with_reducible refine r_cl ?_
  | with_reducible refine r_cb ?_
  | with_reducible refine r_bl ?_
  | with_reducible refine r_I0 ?_
  | with_reducible refine r_yes ?_
  | with_reducible refine r_itT ?_
  | with_reducible refine r_itL ?_
  | with_reducible refine r_itS ?_
  | with_reducible refine r_itE ?_
  | with_reducible refine r_exI ?_
  | with_reducible refine r_itZ ?_
  | with_reducible refine r_nopart ?_
  | with_reducible refine r_lc ?_
  | with_reducible refine r_sl ?_
  | with_reducible refine r_part ?_
  | with_reducible refine r_eq rfl ?_
  | with_reducible refine r_ne rfl ?_
  | with_reducible refine iteT ?_
  | with_reducible refine iteF ?_
  | with_reducible refine ite_nt ?_
  | with_reducible refine ite_nf ?_)
local macro_rules | `(tactic| walk_at "k") => `(tactic| first
  | walk_at "s"
  | with_reducible refine ite_eqT (by decide +kernel) ?_
  | with_reducible refine ite_eqF (by decide +kernel) ?_)
section
variable {P : Program} {w : World} {K : PySem.W.Frag} {mg : Str → Option Value} {base : Heap}
def spAreOwn (K : PySem.W.Frag) : Sp := fun vs H Q _ => ∃ (v : V) (t : T), vs = [v] ∧ TR K H t v ∧ ∀ H', Ext H H' → Q (.bl t.own) H'
theorem sc_are_own : FnScope ["term", "word"] ["term"] (defScope (top 45)) := ⟨rfl, rfl, rfl, by decide +kernel, rfl, by decide +kernel, by decide +kernel⟩
theorem c_are_own (fx : Fx K mg w) : CalR P w K mg base 3 "are_own" (spAreOwn K) := by
  refine fx.d_are_own.ok sc_are_own (fun vs H Q E q => ?_) (fun _ _ _ _ _ _ us hl => match us, hl with | [_], _ => rfl) fun f cdv A outer s H vs Q E hr q => ?_
  · obtain ⟨a, ns, rfl, _⟩ := q
    rfl
  · obtain ⟨v, t, rfl, ht, q⟩ := q
    refine ⟨_, (pss_cons (ps_set (i := 1) sc_are_own.nd rfl (Or.inl rfl) (pe_ix ix_tup (pv 0) pe_int (fun _ _ => rfl)))
    (pss_cons (ps_if (pt_cmpR op_eq (pv 1) (pe_k fx.g_CASH) (nomark _)) (pss_one (ps_ret (pe_cr (c_is_mark fx) hr px (pa_cons (pe_ix ix_tup (pv 0) pe_int (fun _ _ => rfl)) pa_nil)))) pss_nil)
    (pss_cons (ps_if (pt_cmpR op_eq (pv 1) (pe_k fx.g_TIMES) (nomark _)) (pss_one (ps_ret (pe_cr (c_is_mark fx) hr px (pa_cons (pe_ix ix_tup (pv 0) pe_int (fun _ _ => rfl)) pa_nil)))) pss_nil)
    (pss_cons (ps_if (pt_cmpR op_in_seq (pv 1) (pe_tup (pa_cons (pe_k fx.g_AT) (pa_cons (pe_k fx.g_LOWEST) (pa_cons (pe_k fx.g_HIGHEST) pa_nil)))) (by with_unfolding_all rfl)) (pss_one (ps_ret (pe_cr (c_is_day_number fx) hr px (pa_cons (pe_ix ix_tup (pv 0) pe_int (fun _ _ => rfl)) pa_nil)))) pss_nil)
    (pss_one (ps_ret (pe_or (pe_cmpR op_notIn_seq (pv 1) (pe_tup (pa_cons (pe_k fx.g_ABOVE) (pa_cons (pe_k fx.g_BELOW) (pa_cons (pe_k fx.g_IF) pa_nil)))) (by with_unfolding_all rfl)) (pe_one (pe_and (pe_cr (c_is_day_number fx) hr px (pa_cons (pe_ix ix_tup (pv 0) pe_int (fun _ _ => rfl)) pa_nil)) (pe_one (pe_cr (c_is_mark fx) hr px (pa_cons (pe_ix ix_tup (pv 0) pe_int (fun _ _ => rfl)) pa_nil)))))))))))), ?_⟩
    repeat walk_at "s"
    cases t with
    | lf ww n =>
      obtain ⟨a, rfl, h⟩ := ht
      refine r_ixT h (by rfl) ?_
      cases ww with
      | cash =>
        repeat walk_at "k"
        refine r_ixT h (by rfl) ?_
        repeat walk_at "k"
        exact ⟨n, rfl, q H (Ext.refl H)⟩
      | _ =>
        repeat walk_at "k"
        refine r_tup ?_
        repeat walk_at "k"
        refine r_inL rfl rfl (by decide) fun H1 e1 => ?_
        repeat walk_at "k"
        refine r_ixT (e1.tup h) (by rfl) ?_
        repeat walk_at "k"
        exact ⟨n, rfl, q _ e1⟩
    | l2 ww d n =>
      obtain ⟨a, rfl, h⟩ := ht
      refine r_ixT h (by rfl) ?_
      cases ww <;>
      · repeat walk_at "k"
        refine r_tup ?_
        repeat walk_at "k"
        refine r_inL rfl rfl (by decide) fun H1 e1 => ?_
        repeat walk_at "k"
        refine r_tup ?_
        repeat walk_at "k"
        refine r_inL rfl rfl (by decide) fun H2 e2 => ?_
        repeat walk_at "k"
        refine r_ixT ((e1.trans e2).tup h) (by rfl) ?_
        repeat walk_at "k"
        refine ⟨d, rfl, ?_⟩
        repeat walk_at "k"
        have q2 : Q (.bl (T.dayNo d && T.markNo n)) _ := q _ (e1.trans e2)
        refine ite_b (fun h1 => ?_) fun h1 => ?_
        · repeat walk_at "k"
          refine r_ixT ((e1.trans e2).tup h) (by rfl) ?_
          repeat walk_at "k"
          refine ⟨n, rfl, ?_⟩
          have e3 : T.dayNo d = true := h1
          rw [e3] at q2
          exact q2
        · have e3 : T.dayNo d = false := h1
          rw [e3] at q2
          exact q2
    | un s =>
      obtain ⟨a, u, rfl, h, _⟩ := ht
      refine r_ixT h (by rfl) ?_
      repeat walk_at "k"
      refine r_tup ?_
      repeat walk_at "k"
      refine r_inL rfl rfl (by decide) fun H1 e1 => ?_
      repeat walk_at "k"
      refine r_tup ?_
      repeat walk_at "k"
      refine r_inL rfl rfl (by decide) fun H2 e2 => ?_
      repeat walk_at "k"
      exact q _ (e1.trans e2)
    | tm s n =>
      obtain ⟨a, u, rfl, h, _⟩ := ht
      refine r_ixT h (by rfl) ?_
      repeat walk_at "k"
      refine r_ixT h (by rfl) ?_
      repeat walk_at "k"
      exact ⟨n, rfl, q H (Ext.refl H)⟩
    | bi ww s t =>
      obtain ⟨a, u1, u2, rfl, h, _⟩ := ht
      refine r_ixT h (by rfl) ?_
      cases ww <;>
      · repeat walk_at "k"
        refine r_tup ?_
        repeat walk_at "k"
        refine r_inL rfl rfl (by decide) fun H1 e1 => ?_
        repeat walk_at "k"
        refine r_tup ?_
        repeat walk_at "k"
        refine r_inL rfl rfl (by decide) fun H2 e2 => ?_
        repeat walk_at "k"
        exact q _ (e1.trans e2)
    | ite d n s t =>
      obtain ⟨a, u1, u2, rfl, h, _⟩ := ht
      refine r_ixT h (by rfl) ?_
      repeat walk_at "k"
      refine r_tup ?_
      repeat walk_at "k"
      refine r_inL rfl rfl (by decide) fun H1 e1 => ?_
      repeat walk_at "k"
      refine r_tup ?_
      repeat walk_at "k"
      refine r_inL rfl rfl (by decide) fun H2 e2 => ?_
      repeat walk_at "k"
      refine r_ixT ((e1.trans e2).tup h) (by rfl) ?_
      repeat walk_at "k"
      refine ⟨d, rfl, ?_⟩
      repeat walk_at "k"
      have q2 : Q (.bl (T.dayNo d && T.markNo n)) _ := q _ (e1.trans e2)
      refine ite_b (fun h1 => ?_) fun h1 => ?_
      · repeat walk_at "k"
        refine r_ixT ((e1.trans e2).tup h) (by rfl) ?_
        repeat walk_at "k"
        refine ⟨n, rfl, ?_⟩
        have e3 : T.dayNo d = true := h1
        rw [e3] at q2
        exact q2
      · have e3 : T.dayNo d = false := h1
        rw [e3] at q2
        exact q2
end
end
section
open PySem Spec PyProof.Rows L2
local macro_rules | `(tactic| walk_at "s") => `(tactic| first
  | with_reducible refine r_seq ?_
  | with_reducible refine r_next ?_
  | with_reducible refine r_asg ?_
  | with_reducible refine r_gname ?_
  | with_reducible refine r_ret ?_
  | with_reducible refine r_drop ?_
  | with_reducible refine r_ifs ?_
  | with_reducible refine r_var rfl ?_
  | with_reducible refine r_c ?_
  | with_reducible refine r_op ?_
  | with_reducible refine r_un ?_
  | with_reducible refine r_nil ?_
  | with_reducible refine r_cons ?_
  | with_reducible refine r_test ?_
  | with_reducible refine r_tb ?_
  | with_reducible refine r_and ?_
  | with_reducible refine r_or ?_
  | with_reducible refine r_not ?_
  | with_reducible refine r_andV ?_
  | with_reducible refine r_orV ?_
  | with_reducible refine r_notV ?_
  | with_reducible refine r_if ?_
  | with_reducible refine r_chain ?_
  | with_reducible refine r_cl ?_
  | with_reducible refine r_cb ?_
  | with_reducible refine r_bl ?_
  | with_reducible refine r_I0 ?_
  | with_reducible refine r_yes ?_
  | with_reducible refine r_itT ?_
  | with_reducible refine r_itL ?_
  | with_reducible refine r_itS ?_
  | with_reducible refine r_itE ?_
  | with_reducible refine r_exI ?_
  | with_reducible refine r_itZ ?_
  | with_reducible refine r_nopart ?_
  | with_reducible refine r_lc ?_
  | with_reducible refine r_sl ?_
  | with_reducible refine r_part ?_
  | with_reducible refine r_eq rfl ?_
  | with_reducible refine r_ne rfl ?_
  | with_reducible refine iteT ?_
  | with_reducible refine iteF ?_
  | with_reducible refine ite_nt ?_
  | with_reducible refine ite_nf ?_)
local macro_rules | `(tactic| walk_at "k") => `(tactic| first
  | walk_at "s"
  | with_reducible refine ite_eqT (by decide +kernel) ?_
  | with_reducible refine ite_eqF (by decide +kernel) ?_)
section
variable {P : Program} {w : World} {K : PySem.W.Frag} {mg : Str → Option Value} {base : Heap}
inductive FormV (K : PySem.W.Frag) (H : Hp) : V → Bool → Prop
  | non : FormV K H .non false
  | term {v : V} {t : T} (h : TR K H t v) (hg : t.hgt ≤ 60) : FormV K H v t.own
def spIsForm (K : PySem.W.Frag) : Sp := fun vs H Q _ => ∃ (v : V) (b : Bool), vs = [v] ∧ FormV K H v b ∧ ∀ H', Ext H H' → Q (.bl b) H'
theorem sc_is_form : FnScope ["thing"] ["thing"] (defScope (top 46)) := ⟨rfl, rfl, rfl, by decide +kernel, rfl, by decide +kernel, by decide +kernel⟩
theorem c_is_form (fx : Fx K mg w) : CalR P w K mg base 4 "is_form" (spIsForm K) := by
  obtain ⟨dL, es, nn, mL, D1, gL⟩ := fx.lens
  refine fx.d_is_form.ok sc_is_form (fun vs H Q E q => ?_) (fun _ _ _ _ _ _ us hl => match us, hl with | [_], _ => rfl) fun f cdv A outer s H vs Q E hr q => ?_
  · obtain ⟨a, ns, rfl, _⟩ := q
    rfl
  · obtain ⟨v, b, rfl, hv, q⟩ := q
    have hu : (A.deeper (envOfC "is_form" (defScope (top 46)) s.heap.objs.size f cdv)).units + 64 < cLine := hr.units
    refine ⟨_, (pss_cons (ps_if (PW.pt (pw_or (pt_not (pt_val (pe_callB call_isi rfl fx.n_isinstance (by decide +kernel) (pa_cons (pv 0) (pa_cons (pe_ty "tuple" fx.n_tuple (by decide +kernel)) pa_nil))))) (pw_or (pt_cmpR (op_eqD hu) (pv 0) (pe_tup pa_nil) (nomark _)) (pw_or1 (pt_not (pt_val (pe_callB call_isi rfl fx.n_isinstance (by decide +kernel) (pa_cons (pe_ix ix_tup (pv 0) pe_int (fun _ _ => rfl)) (pa_cons (pe_ty "str" fx.n_str (by decide +kernel)) pa_nil))))))))) (pss_one (ps_ret pe_bl)) pss_nil)
    (pss_one (ps_ret (pe_and (pe_cmpR op_eq (pe_kget1 D1 (pe_glob (v := .ref dL) rfl mL rfl) (pe_ix ix_tup (pv 0) pe_int (fun _ _ => rfl)) ⟨rfl, rfl, rfl, rfl⟩) (pe_callB call_len_seq rfl fx.n_len (by decide +kernel) (pa_cons (pv 0) pa_nil)) (nomark _)) (pe_one (pe_cr (c_are_own fx) hr px (pa_cons (pv 0) pa_nil))))))), ?_⟩
    repeat walk_at "k"
    cases hv with
    | non =>
      refine r_isi (.ty _) (.base .non) (kit_ty (b := "tuple") (r := false) (by decide +kernel)) ?_
      repeat walk_at "k"
      exact q H (Ext.refl H)
    | @term v t h hg =>
      obtain ⟨a, us, rfl, hn, hk⟩ := h.node
      refine r_isi (.ty _) (tyT hn) (kit_ty (b := "tuple") (r := true) (by decide +kernel)) ?_
      repeat walk_at "k"
      refine r_tup ?_
      repeat walk_at "k"
      refine ⟨by decide, fun p hp => ?_⟩
      have e1 := Ext.new (o := .tup []) hp
      refine ⟨t.data, .tuple [], (h.tk e1.tk).dp, .tup (.inl (.inl upd_same)) .nil, t.shaped hg, by decide +kernel, ?_⟩
      rw [t.ne_nil]
      repeat walk_at "k"
      refine r_ixT (e1.tup hn) (v := .str t.word) (atI_nat (j := 0) (t.item0 us)) ?_
      repeat walk_at "k"
      refine r_isi (.ty _) (.base (.str _)) (kit_ty (b := "str") (r := true) (by decide +kernel)) ?_
      repeat walk_at "k"
      refine r_kget1 ?_
      repeat walk_at "k"
      refine ⟨rfl, ?_⟩
      repeat walk_at "k"
      refine r_ixT (e1.tup hn) (v := .str t.word) (atI_nat (j := 0) (t.item0 us)) ?_
      refine ⟨_, _, rfl, gL _ t.word_len, ?_⟩
      repeat walk_at "k"
      refine ⟨_, _, rfl, .inr (e1.tup hn), ?_⟩
      rw [t.len_eq us (Paired.length hk).symm]
      refine r_eq rfl ?_
      repeat walk_at "k"
      refine ite_eqT (decide_eq_true rfl) ?_
      repeat walk_at "k"
      exact ⟨_, t, rfl, h.tk e1.tk, fun H' e => q H' (e1.trans e)⟩
def spPlacesIn (K : PySem.W.Frag) : Sp := fun vs H Q _ => ∃ (v : V) (t : T), vs = [v] ∧ TR K H t v ∧ ∀ H' p, Ext H H' → SqT K H' p (t.places.map .int) → Q (.ref p) H'
theorem sc_places_in : FnScope ["term"] ["term"] (defScope (top 47)) := ⟨rfl, rfl, rfl, by decide +kernel, rfl, by decide +kernel, by decide +kernel⟩
theorem c_places_in (fx : Fx K mg w) : CalR P w K mg base 1 "places_in" (spPlacesIn K) := by
  obtain ⟨dL, es, nn, mL, D1, gL, gN⟩ := fx.plcs
  refine fx.d_places_in.ok sc_places_in (fun vs H Q E q => ?_) (fun _ _ _ _ _ _ us hl => match us, hl with | [_], _ => rfl) fun f cdv A outer s H vs Q E hr q => ?_
  · obtain ⟨a, ns, rfl, _⟩ := q
    rfl
  · obtain ⟨v, t, rfl, h, q⟩ := q
    refine ⟨_, (pss_one (ps_ret (pe_kget2 D1 (pe_glob (v := .ref dL) rfl mL rfl) (pe_ix ix_tup (pv 0) pe_int (fun _ _ => rfl)) (pe_tup pa_nil) ⟨rfl, rfl, rfl, rfl⟩))), ?_⟩
    repeat walk_at "k"
    obtain ⟨a, us, rfl, hn, hk⟩ := h.node
    refine r_kget2 ?_
    repeat walk_at "k"
    refine ⟨rfl, ?_⟩
    repeat walk_at "k"
    refine r_ixT hn (v := .str t.word) (atI_nat (j := 0) (t.item0 us)) ?_
    refine r_tup ?_
    repeat walk_at "k"
    refine ⟨by decide, fun p hp => ?_⟩
    have e1 := Ext.new (o := .tup []) hp
    rcases t.word_plc with ⟨h1, _⟩ | ⟨h1, h2⟩
    · obtain ⟨b, h3, h4⟩ := gL _ h1
      exact ⟨_, _, rfl, h3, q _ _ e1 (h4 _)⟩
    · refine ⟨_, _, rfl, gN _ h1, q _ _ e1 ?_⟩
      rw [h2]
      exact .inl (.inl upd_same)
end
end
section
open PySem Spec PyProof.Rows L2
local macro_rules | `(tactic| walk_at "s") => `(tactic| first
  | with_reducible refine r_seq ?_
  | with_reducible refine r_next ?_
  | with_reducible refine r_asg ?_
  | with_reducible refine r_gname ?_
  | with_reducible refine r_ret ?_
  | with_reducible refine r_drop ?_
  | with_reducible refine r_ifs ?_
  | with_reducible refine r_var rfl ?_
  | with_reducible refine r_c ?_
  | with_reducible refine r_op ?_
  | with_reducible refine r_un ?_
  | with_reducible refine r_nil ?_
  | with_reducible refine r_cons ?_
  | with_reducible refine r_test ?_
  | with_reducible refine r_tb ?_
  | with_reducible refine r_and ?_
  | with_reducible refine r_or ?_
  | with_reducible refine r_not ?_
  | with_reducible refine r_andV ?_
  | with_reducible refine r_orV ?_
  | with_reducible refine r_notV ?_
  | with_reducible refine r_if ?_
  | with_reducible refine r_chain ?_
  | with_reducible refine r_cl ?_
  | with_reducible refine r_cb ?_
  | with_reducible refine r_bl ?_
  | with_reducible refine r_I0 ?_
  | with_reducible refine r_yes ?_
  | with_reducible refine r_itT ?_
  | with_reducible refine r_itL ?_
  | with_reducible refine r_itS ?_
  | with_reducible refine r_itE ?_
  | with_reducible refine r_revT ?_
  | with_reducible refine r_star ?_
  | with_reducible refine r_for ?_
  | with_reducible refine r_bm ?_
  | with_reducible refine r_bm0 ?_
  | with_reducible refine r_kget1 ?_
  | with_reducible refine r_kget2 ?_
  | with_reducible refine r_par ?_
  | with_reducible refine r_tup ?_
  | with_reducible refine r_lst ?_
  | with_reducible refine r_exI ?_
  | with_reducible refine r_itZ ?_
  | with_reducible refine r_nopart ?_
  | with_reducible refine r_lc ?_
  | with_reducible refine r_sl ?_
  | with_reducible refine r_part ?_
  | with_reducible refine r_eq rfl ?_
  | with_reducible refine r_ne rfl ?_
  | with_reducible refine iteT ?_
  | with_reducible refine iteF ?_
  | with_reducible refine ite_nt ?_
  | with_reducible refine ite_nf ?_)
local macro_rules | `(tactic| walk_at "k") => `(tactic| first
  | walk_at "s"
  | with_reducible refine ite_eqT (by decide +kernel) ?_
  | with_reducible refine ite_eqF (by decide +kernel) ?_)
section
variable {P : Program} {w : World} {K : PySem.W.Frag} {mg : Str → Option Value} {base : Heap}
/-- the ways of paths_to -/
def spPathsTo (K : PySem.W.Frag) : Sp := fun vs H Q E => ∃ v, vs = [v] ∧
  ((v = .non ∧ ∀ H' a, Ext H H' → SqT K H' a [] → Raised E H' (He.ga K "BadTerm") "path" (.ref a)) ∨
    ∃ t, TR K H t v ∧ t.wds ≤ 20 ∧ t.hgt ≤ 8 ∧ (allOwn t = true → ∀ H' p as, Ext H H' → H p = none → H' p = some (.lst (as.map .ref)) → RowsT H' as (prePaths t) → Q (.ref p) H') ∧
      ∀ pth, firstBad t = some pth → ∀ H' a, Ext H H' → SqT K H' a (pth.map .int) → Raised E H' (He.ga K "BadTerm") "path" (.ref a))
theorem sc_paths_to : FnScope ["term", "found", "waiting", "path", "here", "place"] ["term"] (defScope (top 48)) := ⟨rfl, rfl, rfl, by decide +kernel, rfl, by decide +kernel, by decide +kernel⟩
theorem c_paths_to (fx : Fx K mg w) : CalR P w K mg base 5 "paths_to" (spPathsTo K) := by
  refine fx.d_paths_to.ok sc_paths_to (fun vs H Q E q => ?_) (fun _ _ _ _ _ _ us hl => match us, hl with | [_], _ => rfl) fun f cdv A outer s H vs Q E hr q => ?_
  · obtain ⟨a, rfl, _⟩ := q
    rfl
  · obtain ⟨v, rfl, q⟩ := q
    have hu : (A.deeper (envOfC "paths_to" (defScope (top 48)) s.heap.objs.size f cdv)).units + 64 < cLine := hr.units
    refine ⟨_, (pss_cons (ps_par (i := 1) (j := 2) rfl sc_paths_to.nd rfl rfl (by decide) rfl rfl (pa_cons (pe_lst pa_nil) (pa_cons (pe_lst (pa_cons (pe_tup (pa_cons (pe_tup pa_nil) (pa_cons (pv 0) pa_nil))) pa_nil)) pa_nil)) rfl)
    (pss_cons (ps_while PassesOwn.leaving (pt_cmpR (op_neD hu) (pv 2) (pe_lst pa_nil) (nomark _)) (pss_cons (ps_asg (pe_bm0 PySem.F.plainAttrs_list PySem.F.slot_list_pop PySem.F.type_list_pop mt_pop (pv 2)) (pg_tup (n := 2) rfl (pgs_cons (pg_name (i := 3) (x := "path") sc_paths_to.nd rfl (Or.inl rfl) (.inl rfl)) (pgs_cons (pg_name (i := 4) (x := "here") sc_paths_to.nd rfl (Or.inl rfl) (.inl rfl)) pgs_nil))))
      (pss_cons (ps_if (PW.pt (pw_or (pt_cmpR op_eq (pe_callB call_len_seq rfl fx.n_len (by decide +kernel) (pa_cons (pv 1) pa_nil)) (pe_k fx.g_MOST_WORDS) (nomark _)) (pw_or1 (pt_cmpR op_ge (pe_callB call_len_seq rfl fx.n_len (by decide +kernel) (pa_cons (pv 3) pa_nil)) (pe_k fx.g_MOST_DEEP) (nomark _))))) (pss_one (ps_raise rfl (takes_of rfl rfl rfl rfl) (pmk_x fx.x_BadTerm (i_BadTerm fx) (hr.mono (by decide)) passF rfl mono_tup0 (pe_tup pa_nil)))) pss_nil)
      (pss_cons (ps_if (pt_not (pt_val (pe_cr (c_is_form fx) hr px (pa_cons (pv 4) pa_nil)))) (pss_one (ps_raise rfl (takes_of rfl rfl rfl rfl) (pmk_x fx.x_BadTerm (i_BadTerm fx) (hr.mono (by decide)) passF rfl mono_var (pv 3)))) pss_nil)
      (pss_cons (ps_expr (pe_bm PySem.F.plainAttrs_list PySem.F.slot_list_append PySem.F.type_list_append mt_append (pv 1) (pa_cons (pv 3) pa_nil)))
      (pss_one (ps_for PassesOwn.leaving rfl (pi_tup (pe_revT (pe_cr (c_places_in fx) hr px (pa_cons (pv 4) pa_nil)))) (pg_name (i := 5) (x := "place") sc_paths_to.nd rfl (Or.inl rfl) (.inl rfl)) (pss_one (ps_expr (pe_bm PySem.F.plainAttrs_list PySem.F.slot_list_append PySem.F.type_list_append mt_append (pv 2) (pa_cons (pe_tup (pa_cons (pe_tup (StX.pa_star (pv 3) (pa_cons (pv 5) pa_nil))) (pa_cons (pe_ix ix_tup (pv 4) (pv 5) (fun _ _ => rfl)) pa_nil))) pa_nil)))))))))))
    (pss_one (ps_ret (pv 1))))), ?_⟩
    repeat walk_at "k"
    refine ⟨by decide, fun F hF => ?_⟩
    repeat walk_at "k"
    refine ⟨by decide, fun p1 h1 => ?_⟩
    repeat walk_at "k"
    refine ⟨by show 2 ≤ sizeLine; decide, fun p2 h2 => ?_⟩
    repeat walk_at "k"
    refine ⟨by show 1 ≤ sizeLine; decide, fun W hW => ?_⟩
    repeat walk_at "k"
    refine ⟨_, _, rfl, ?_⟩
    repeat walk_at "k"
    have e1 : Ext H (upd H F (.lst [])) := Ext.new hF
    have e2 := e1.trans (Ext.new (o := .tup []) h1)
    have e3 := e2.trans (Ext.new (o := .tup [.ref p1, v]) h2)
    have e4 := e3.trans (Ext.new (o := .lst [.ref p2]) hW)
    have nW : H W = none := e3.none hW
    have nFW : F ≠ W := ne_of_none ((Ext.new h2) _ _ ((Ext.new h1) F _ upd_same)) hW
    generalize hH4 : upd (upd (upd (upd H F (.lst [])) p1 (.tup [])) p2 (.tup [.ref p1, v])) W (.lst [.ref p2]) = H4 at e4 ⊢
    have f1 : H4 F = some (.lst []) := by
      rw [← hH4, upd_ne nFW, upd_ne (ne_of_none ((Ext.new (o := .tup []) h1) _ _ upd_same) h2), upd_ne (ne_of_none upd_same h1), upd_same]
    have f2 : H4 W = some (.lst [.ref p2]) := by rw [← hH4, upd_same]
    have f3 : SqT K H4 p2 [.ref p1, v] := .inl (.inl (by rw [← hH4, upd_ne (ne_of_none upd_same hW), upd_same]))
    have f4' : H4 p1 = some (.tup []) := (by rw [← hH4, upd_ne (ne_of_none ((Ext.new h2) _ _ upd_same) hW), upd_ne (ne_of_none upd_same h2), upd_same])
    have f4 : SqT K H4 p1 [] := .inl (.inl f4')
    rcases q with ⟨rfl, q⟩ | ⟨t, ht, hw, hg, qok, qbad⟩
    · refine ⟨fun m σ' H' => m = 0 ∧ H' = H4 ∧ σ' = [some .non, some (.ref F), some (.ref W), none, none, none], ⟨0, rfl, rfl, rfl⟩, ?_⟩
      rintro m σ' H' ⟨rfl, rfl, rfl⟩
      repeat walk_at "k"
      refine ⟨by decide, fun pe hpe => ?_⟩
      have ee := Ext.new (o := .lst []) hpe
      refine ⟨.list [.tuple [.tuple [], .none]], .list [], .lst (.inl (.inl (ee _ _ f2))) (.cons (.tup (ee.tup f3) (.cons (.tup (ee.tup f4) .nil) (.cons .non .nil))) .nil), .lst (.inl (.inl upd_same)) .nil, by decide +kernel, by decide +kernel, ?_⟩
      repeat walk_at "k"
      refine ⟨_, fun σ' H' h => h, ?_⟩
      have e5 := e4.trans ee
      have f1' := ee _ _ f1
      have f2' := ee _ _ f2
      have f3' := ee.tup f3
      have f4' := ee.tup f4
      generalize upd H' pe (.lst []) = H5 at e5 f1' f2' f3' f4' ⊢
      repeat walk_at "k"
      refine ⟨tyL f2', W, _, .ref p2, rfl, rfl, f2', rfl, ?_⟩
      have k6 : TK K H5 (upd H5 W (.lst ([V.ref p2]).dropLast)) := TK.lst f2'
      refine ⟨p2, _, rfl, k6 _ _ f3', rfl, _, _, rfl, r_gname ⟨_, _, rfl, r_gname ⟨rfl, ?_⟩⟩⟩
      repeat walk_at "k"
      refine ⟨F, _, rfl, .inl (.inl (.inl (by rw [upd_ne nFW]; exact f1'))), ?_⟩
      repeat walk_at "k"
      refine ⟨p1, _, rfl, .inr (k6 _ _ f4'), ?_⟩
      repeat walk_at "k"
      refine ⟨.non, false, rfl, .non, fun H7 e7 => ?_⟩
      repeat walk_at "k"
      exact r_raiseV rfl (q H7 p1 ((e5.out nW).trans e7) (e7.tup (k6 _ _ f4')))
    · refine ⟨fun m σ' H' => ∃ (fs ws : List Addr) (done stack : List (List Int × T)) (o3 o4 o5 : Option V), m = (stack.map fun e => e.2.wds).sum ∧ σ' = [some v, some (.ref F), some (.ref W), o3, o4, o5] ∧ Ext H H' ∧ H' F = some (.lst (fs.map .ref)) ∧ H' W = some (.lst (ws.map .ref)) ∧
        RowsT H' fs (done.map (·.1)) ∧ Paired (EntAt K H') ws stack ∧ done ++ flatN stack.reverse = preN t [] ∧ (∀ e ∈ done, e.2.own = true) ∧ ∀ e ∈ stack, e.1.length + e.2.hgt ≤ 8, ?_, ?_⟩
      · exact ⟨_, [], [p2], [], [([], t)], none, none, none, rfl, rfl, e4, f1, f2, .nil, .cons ⟨p1, v, f3, f4', ht.tk e4.tk⟩ .nil, by simp [flatN], by simp, by simpa using hg⟩
      · rintro m σ' H' ⟨fs, ws, done, stack, o3, o4, o5, rfl, rfl, e, hF', hW', hrows, hst, hall, hown, hdeep⟩
        repeat walk_at "k"
        refine ⟨by decide, fun pe hpe => ?_⟩
        have ee := Ext.new (o := .lst []) hpe
        refine ⟨.list (stack.map entD), .list [], .lst (.inl (.inl (ee _ _ hW'))) (dp_ents (Paired.mapP hst fun x y z => z.tk ee.tk)), .lst (.inl (.inl upd_same)) .nil, shaped_ents stack (fun x hx => by have := hdeep x hx; omega), by decide +kernel, ?_⟩
        repeat walk_at "k"
        have e5 := e.trans ee
        have hF5 := ee _ _ hF'
        have hW5 := ee _ _ hW'
        have hr5 := hrows.tk (K := K) ee.tk
        have hs5 : Paired (EntAt K (upd H' pe (.lst []))) ws stack := Paired.mapP hst fun x y z => z.tk ee.tk
        generalize upd H' pe (.lst []) = H5 at e5 hF5 hW5 hr5 hs5 ⊢
        clear hF' hW' hrows hst ee hpe e
        rcases List.eq_nil_or_concat stack with rfl | ⟨init, ⟨p, u⟩, rfl⟩
        · have ed : done = preN t [] := by simpa [flatN] using hall
          refine ite_eqF (by rfl) ?_
          repeat walk_at "k"
          refine qok ?_ H5 F fs e5 hF hF5 (by unfold prePaths; rw [← ed]; exact hr5)
          unfold allOwn
          rw [← ed]
          exact List.all_eq_true.mpr hown
        · rw [List.concat_eq_append] at hs5 hall hdeep ⊢
          refine ite_eqT (by cases init <;> simp [PyData.eqv, PyData.eqvAll]) ?_
          refine ⟨_, fun σ' H' h => h, ?_⟩
          obtain ⟨wi, x, rfl, hsi, pa, uv, hx, hpa, hu'⟩ := paired_concat hs5
          repeat walk_at "k"
          refine ⟨tyL hW5, W, _, .ref x, rfl, rfl, hW5, by simp, ?_⟩
          have k6 : TK K H5 (upd H5 W (.lst ((wi ++ [x]).map V.ref).dropLast)) := TK.lst hW5
          have e6 : Ext H (upd H5 W (.lst ((wi ++ [x]).map V.ref).dropLast)) := e5.out nW
          have hW6 : (upd H5 W (.lst ((wi ++ [x]).map V.ref).dropLast)) W = some (.lst (wi.map .ref)) := by rw [upd_same]; simp
          have hF6 : (upd H5 W (.lst ((wi ++ [x]).map V.ref).dropLast)) F = some (.lst (fs.map .ref)) := by rw [upd_ne nFW]; exact hF5
          have hr6 := hr5.tk k6
          have hsi6 : Paired (EntAt K (upd H5 W (.lst ((wi ++ [x]).map V.ref).dropLast))) wi init := Paired.mapP hsi fun x y z => z.tk k6
          replace hx := k6 _ _ hx
          replace hpa := k6.tp _ _ hpa
          replace hu' := hu'.tk k6
          generalize upd H5 W (.lst ((wi ++ [x]).map V.ref).dropLast) = H6 at e6 hW6 hF6 hr6 hsi6 hx hpa hu' ⊢
          clear hs5 hW5 hF5 hr5 hsi k6 e5
          refine ⟨x, _, rfl, hx, rfl, _, _, rfl, r_gname ⟨_, _, rfl, r_gname ⟨rfl, ?_⟩⟩⟩
          have hall2 : done ++ (p, u) :: (flatN (kidsAt (p, u)) ++ flatN init.reverse) = preN t [] := by
            rw [← hall, List.reverse_append, List.reverse_singleton, List.singleton_append]
            show _ = done ++ (preN u p ++ flatN init.reverse)
            rw [preN_eq]; rfl
          have hdl : done.length + 1 ≤ 20 := by
            have := congrArg List.length hall2
            rw [preN_len] at this
            simp only [List.length_append, List.length_cons] at this
            omega
          have hfl : fs.length = done.length := by rw [Paired.length hr6, List.length_map]
          have hpd : p.length + u.hgt ≤ 8 := hdeep (p, u) (by simp)
          have hup : 1 ≤ u.hgt := by cases u <;> simp [T.hgt]
          repeat walk_at "k"
          refine ⟨F, _, rfl, .inl (.inl (.inl hF6)), ?_⟩
          repeat walk_at "k"
          refine ite_eqF (decide_eq_false fun z => by have := V.int.inj z; rw [List.length_map] at this; omega) ?_
          repeat walk_at "k"
          refine ⟨pa, _, rfl, .inr (.inl (.inl hpa)), ?_⟩
          repeat walk_at "k"
          refine ite_eqF (decide_eq_false fun z => by have z2 : (8 : Int) ≤ ((p.map V.int).length : Nat) := z; rw [List.length_map] at z2; omega) ?_
          repeat walk_at "k"
          refine ⟨uv, u.own, rfl, .term hu' (by omega), fun H7 e7 => ?_⟩
          repeat walk_at "k"
          have hpa7 := e7 _ _ hpa
          have e67 := e6.trans e7
          cases hown2 : u.own with
          | false =>
            repeat walk_at "k"
            exact r_raiseV rfl (qbad p (firstBad_of hall2 hown hown2) H7 pa e67 (.inl (.inl hpa7)))
          | true =>
            repeat walk_at "k"
            have hF7 := e7 _ _ hF6
            refine ⟨tyL hF7, ?_⟩
            repeat walk_at "k"
            have k8 : TK K H7 (upd H7 F (.lst (fs.map V.ref ++ [.ref pa]))) := TK.lst hF7
            refine ⟨F, _, _, rfl, rfl, hF7, by rw [List.length_map, sizeLine_eq]; omega, ?_⟩
            have e8 : Ext H (upd H7 F (.lst (fs.map V.ref ++ [.ref pa]))) := e67.out hF
            have hF8 : (upd H7 F (.lst (fs.map V.ref ++ [.ref pa]))) F = some (.lst ((fs ++ [pa]).map .ref)) := by rw [upd_same]; simp
            have hW8 : (upd H7 F (.lst (fs.map V.ref ++ [.ref pa]))) W = some (.lst (wi.map .ref)) := by rw [upd_ne (Ne.symm nFW)]; exact e7 _ _ hW6
            have hr8 : RowsT (upd H7 F (.lst (fs.map V.ref ++ [.ref pa]))) (fs ++ [pa]) ((done ++ [(p, u)]).map (·.1)) := by
              rw [List.map_append]
              exact paired_snoc (F := fun (x : Addr) (ns : List Int) => (upd H7 F (.lst (fs.map V.ref ++ [.ref pa]))) x = some (.tup (ns.map V.int))) (b := p) (k8.tp _ _ hpa7) ((hr6.tk (K := K) e7.tk).tk k8)
            have hsi8 : Paired (EntAt K (upd H7 F (.lst (fs.map V.ref ++ [.ref pa])))) wi init := Paired.mapP hsi6 fun x y z => (z.tk e7.tk).tk k8
            have hpa8 := k8.tp _ _ hpa7
            have hu8 := (hu'.tk e7.tk).tk k8
            generalize upd H7 F (.lst (fs.map V.ref ++ [.ref pa])) = H8 at e8 hF8 hW8 hr8 hsi8 hpa8 hu8 ⊢
            clear k8 hF7 e67 hpa7 e7 hx hpa hu' hsi6 hr6 hF6 hW6
            repeat walk_at "k"
            refine ⟨uv, u, rfl, hu8, fun H9 q9 e9 hq9 => ?_⟩
            repeat walk_at "k"
            refine ⟨q9, _, rfl, hq9, fun r9 hr9 => ?_⟩
            have e10 := e9.trans (Ext.new (o := .tup ((u.places.map V.int).reverse)) hr9)
            have hrv : SqT K (upd H9 r9 (.tup (u.places.map V.int).reverse)) r9 (u.kids.reverse.map fun k => V.int k.1) := .inl (.inl (by rw [upd_same, ← List.map_reverse, T.places, ← List.map_reverse, List.map_map]; rfl))
            have hkl : u.kids.length ≤ 2 := by cases u <;> simp [T.kids]
            refine ⟨r9, rfl, ⟨_, hrv⟩, ?_⟩
            generalize upd H9 r9 (.tup (u.places.map V.int).reverse) = H10 at e10 hrv ⊢
            refine for_it walk_tup (fun i σ' H' => ∃ (wk : List Addr) (o5 : Option V), σ' = [some v, some (.ref F), some (.ref W), some (.ref pa), some uv, o5] ∧ Ext H H' ∧ TK K H10 H' ∧ H' F = some (.lst ((fs ++ [pa]).map .ref)) ∧ H' W = some (.lst ((wi ++ wk).map .ref)) ∧ Paired (EntAt K H') wk ((u.kids.reverse.take i).map fun k => (p ++ [k.1], k.2)))
              ⟨[], _, rfl, e8.trans e10, TK.refl _, e10 _ _ hF8, by rw [List.append_nil]; exact e10 _ _ hW8, .nil⟩ (fun i σ' H' _ z => z.choose_spec.choose_spec.2.2.1 _ _ hrv) (fun i y σ' Ha Hb hi z yy => ?_) fun σ' H' z => ?_
            · obtain ⟨wk, o5', rfl, ea, ka, hFa, hWa, hka⟩ := z
              obtain ⟨rfl, hy⟩ := yy
              rw [List.getElem?_map] at hy
              obtain ⟨k, hk, rfl⟩ := Option.map_eq_some_iff.mp hy
              have hkm : k ∈ u.kids := List.mem_reverse.mp (List.mem_of_getElem? hk)
              refine r_gname ?_
              repeat walk_at "k"
              refine ⟨tyL hWa, ?_⟩
              repeat walk_at "k"
              have hpaA : SqT K Hb pa (p.map V.int) := ka _ _ (.inl (.inl (e10 _ _ hpa8)))
              refine ⟨pa, _, rfl, .inl hpaA, ?_⟩
              repeat walk_at "k"
              refine ⟨by rw [List.length_append, List.length_map, sizeLine_eq]; show p.length + 1 ≤ _; omega, fun n1 hn1 => ?_⟩
              have eb := Ext.new (o := .tup (p.map V.int ++ [.int k.1])) hn1
              obtain ⟨au, us, rfl, hnu, hku⟩ := (hu8.tk (e10.tk.trans (ka.trans eb.tk))).node
              obtain ⟨xk, hxk, hat⟩ := u.item_kid hku k hkm
              repeat walk_at "k"
              refine r_ixT hnu hat ?_
              repeat walk_at "k"
              refine ⟨by show 2 ≤ sizeLine; decide, fun n2 hn2 => ?_⟩
              have ec := Ext.new (o := .tup [.ref n1, xk]) hn2
              have hWc := ec _ _ (eb _ _ hWa)
              have hwl : wi.length + wk.length ≤ 40 := by
                have h1 := Paired.length hsi8
                have h2 := Paired.length hka
                rw [List.length_map, List.length_take, List.length_reverse] at h2
                have h3 := congrArg List.length hall2
                rw [preN_len] at h3
                simp only [List.length_append, List.length_cons, flatN_len] at h3
                have h4 : ∀ l : List (List Int × T), l.length ≤ (l.map fun e => e.2.wds).sum := fun l => by
                  induction l with
                  | nil => simp
                  | cons e l ih =>
                    have := wds_pos e.2
                    simp only [List.map_cons, List.sum_cons, List.length_cons]
                    omega
                have h5 := h4 init.reverse
                rw [List.length_reverse] at h5
                omega
              refine ⟨W, _, _, rfl, rfl, hWc, by rw [List.length_map, List.length_append, sizeLine_eq]; omega, ?_⟩
              have kd := TK.lst (K := K) (o := .lst ((wi ++ wk).map V.ref ++ [.ref n2])) hWc
              have hn1c : (upd (upd Hb n1 (.tup (p.map V.int ++ [.int k.1]))) n2 (.tup [.ref n1, xk])) n1 = some (.tup ((p ++ [k.1]).map .int)) := ec _ _ (by rw [upd_same, List.map_append]; rfl)
              refine ⟨wk ++ [n2], _, rfl, ((ea.trans eb).trans ec).out nW, (ka.trans (eb.tk.trans ec.tk)).trans kd, by rw [upd_ne nFW]; exact ec _ _ (eb _ _ hFa), by rw [upd_same]; simp, ?_⟩
              have em : (u.kids.reverse.take (i + 1)).map (fun k => (p ++ [k.1], k.2)) = (u.kids.reverse.take i).map (fun k => (p ++ [k.1], k.2)) ++ [(p ++ [k.1], k.2)] := by rw [take_succ_get hk, List.map_append]; rfl
              rw [em]
              refine paired_snoc (b := (p ++ [k.1], k.2)) ⟨n1, xk, kd _ _ (.inl (.inl upd_same)), kd.tp _ _ hn1c, (hxk.tk ec.tk).tk kd⟩ (Paired.mapP hka fun x y z => ((z.tk eb.tk).tk ec.tk).tk kd)
            · obtain ⟨wk, o5', rfl, ea, ka, hFa, hWa, hka⟩ := z
              have hke : (u.kids.reverse.take (u.kids.reverse.map fun k => V.int k.1).length).map (fun k => (p ++ [k.1], k.2)) = (kidsAt (p, u)).reverse := by
                rw [List.length_map, List.take_length, List.map_reverse]
                rfl
              rw [hke] at hka
              refine ⟨_, ?_, fs ++ [pa], wi ++ wk, done ++ [(p, u)], init ++ (kidsAt (p, u)).reverse, _, _, _, rfl, rfl, ea, hFa, hWa, hr8.tk (e10.tk.trans ka), paired_app (Paired.mapP hsi8 fun x y z => (z.tk e10.tk).tk ka) hka, ?_, ?_, ?_⟩
              · have h1 := wds_kids u
                have h2 : ((kidsAt (p, u)).map fun e => e.2.wds) = u.kids.map fun k => k.2.wds := by unfold kidsAt; rw [List.map_map]; rfl
                simp only [List.map_append, List.sum_append, List.map_reverse, List.sum_reverse, h2, List.map_cons, List.map_nil, List.sum_cons, List.sum_nil]
                omega
              · rw [← hall2, List.reverse_append, List.reverse_reverse]
                show done ++ [(p, u)] ++ (kidsAt (p, u) ++ init.reverse).flatMap _ = _
                rw [List.flatMap_append, List.append_assoc]
                rfl
              · intro e he
                rcases List.mem_append.mp he with he | he
                · exact hown e he
                · have : e = (p, u) := by simpa using he
                  rw [this]
                  exact hown2
              · intro e he
                rcases List.mem_append.mp he with he | he
                · exact hdeep e (List.mem_append_left _ he)
                · obtain ⟨k, hk, rfl⟩ := List.mem_map.mp (List.mem_reverse.mp he)
                  have := kids_hgt u k hk
                  show (p ++ [k.1]).length + k.2.hgt ≤ 8
                  rw [List.length_append]
                  show p.length + 1 + _ ≤ 8
                  omega
end
end
section
open PySem Spec PyProof.Rows L2
/-! ### what a term pays -/
def atN (row : List Int) (d : Int) : Int := row.getD d.toNat 0
def minL : List Int → Int
  | [] => 0
  | n :: ns => ns.foldl min n
def maxL : List Int → Int
  | [] => 0
  | n :: ns => ns.foldl max n
def pay : T → List Int → Int
  | .lf .cash n, _ => n
  | .lf .at_ d, row => atN row d
  | .lf .low d, row => minL (row.take (d.toNat + 1))
  | .lf .high d, row => maxL (row.take (d.toNat + 1))
  | .l2 .above d n, row => max 0 (atN row d - n)
  | .l2 .below d n, row => max 0 (n - atN row d)
  | .un s, row => 0 - pay s row
  | .tm s n, row => pay s row * n
  | .bi .both s t, row => pay s row + pay t row
  | .bi .less s t, row => min (pay s row) (pay t row)
  | .bi .grea s t, row => max (pay s row) (pay t row)
  | .ite d n s t, row => if n < atN row d then pay s row else pay t row
/-- the day that a node names stands among m -/
def knowsD (m : Nat) : T → Bool
  | .lf .cash _ => true
  | .lf _ d => decide (d < (m : Int))
  | .l2 _ d _ => decide (d < (m : Int))
  | .ite d _ _ _ => decide (d < (m : Int))
  | _ => true
def subAt : T → List Int → Option T
  | t, [] => some t
  | t, j :: r => (t.kids.find? fun k => decide (k.1 = j)).bind fun k => subAt k.2 r
theorem subAt_kid {t : T} {k : Int × T} (hk : k ∈ t.kids) (r : List Int) : subAt t (k.1 :: r) = subAt k.2 r := by
  have : t.kids.find? (fun x => decide (x.1 = k.1)) = some k := by
    cases t with
    | lf => cases hk
    | l2 => cases hk
    | un s =>
      have e : k = (1, s) := by simpa [T.kids] using hk
      rw [e]; rfl
    | tm s n =>
      have e : k = (1, s) := by simpa [T.kids] using hk
      rw [e]; rfl
    | bi w s t =>
      have e : k = (1, s) ∨ k = (2, t) := by simpa [T.kids] using hk
      rcases e with e | e <;> rw [e] <;> rfl
    | ite d n s t =>
      have e : k = (3, s) ∨ k = (4, t) := by simpa [T.kids] using hk
      rcases e with e | e <;> rw [e] <;> rfl
  simp [subAt, this]
theorem atI_int {α : Type} {xs : List α} {d : Int} (h0 : 0 ≤ d) (h1 : d < xs.length) : ∃ v, xs[d.toNat]? = some v ∧ atI xs d = some v := by
  have hj : d.toNat < xs.length := by omega
  have e : xs[d.toNat]? = some xs[d.toNat] := List.getElem?_eq_getElem hj
  refine ⟨_, e, ?_⟩
  have := atI_nat e
  rw [Int.toNat_of_nonneg h0] at this
  exact this
theorem atI_row {row : List Int} {d : Int} (h0 : 0 ≤ d) (h1 : d < row.length) : atI (row.map V.int) d = some (.int (atN row d)) := by
  obtain ⟨v, h2, h3⟩ := atI_int (xs := row.map V.int) h0 (by rw [List.length_map]; exact h1)
  rw [h3]
  rw [List.getElem?_map] at h2
  obtain ⟨n, h4, rfl⟩ := Option.map_eq_some_iff.mp h2
  unfold atN
  rw [List.getD_eq_getElem?_getD, h4]
  rfl
end
section
open PySem Spec PyProof.Rows L2
local macro_rules | `(tactic| walk_at "s") => `(tactic| first
  | with_reducible refine r_seq ?_
  | with_reducible refine r_next ?_
  | with_reducible refine r_asg ?_
  | with_reducible refine r_gname ?_
  | with_reducible refine r_ret ?_
  | with_reducible refine r_drop ?_
  | with_reducible refine r_ifs ?_
  | with_reducible refine r_var rfl ?_
  | with_reducible refine r_c ?_
  | with_reducible refine r_op ?_
  | with_reducible refine r_un ?_
  | with_reducible refine r_nil ?_
  | with_reducible refine r_cons ?_
  | with_reducible refine r_test ?_
  | with_reducible refine r_tb ?_
  | with_reducible refine r_and ?_
  | with_reducible refine r_or ?_
  | with_reducible refine r_not ?_
  | with_reducible refine r_andV ?_
  | with_reducible refine r_orV ?_
  | with_reducible refine r_notV ?_
  | with_reducible refine r_if ?_
  | with_reducible refine r_chain ?_
  | with_reducible refine r_cl ?_
  | with_reducible refine r_cb ?_
  | with_reducible refine r_bl ?_
  | with_reducible refine r_I0 ?_
  | with_reducible refine r_yes ?_
  | with_reducible refine r_itT ?_
  | with_reducible refine r_itL ?_
  | with_reducible refine r_itS ?_
  | with_reducible refine r_itE ?_
  | with_reducible refine r_revT ?_
  | with_reducible refine r_star ?_
  | with_reducible refine r_for ?_
  | with_reducible refine r_bm ?_
  | with_reducible refine r_bm0 ?_
  | with_reducible refine r_kget1 ?_
  | with_reducible refine r_kget2 ?_
  | with_reducible refine r_par ?_
  | with_reducible refine r_tup ?_
  | with_reducible refine r_lst ?_
  | with_reducible refine r_exI ?_
  | with_reducible refine r_itZ ?_
  | with_reducible refine r_nopart ?_
  | with_reducible refine r_lc ?_
  | with_reducible refine r_sl ?_
  | with_reducible refine r_part ?_
  | with_reducible refine r_eq rfl ?_
  | with_reducible refine r_ne rfl ?_
  | with_reducible refine iteT ?_
  | with_reducible refine iteF ?_
  | with_reducible refine ite_nt ?_
  | with_reducible refine ite_nf ?_)
local macro_rules | `(tactic| walk_at "k") => `(tactic| first
  | walk_at "s"
  | with_reducible refine ite_eqT (by decide +kernel) ?_
  | with_reducible refine ite_eqF (by decide +kernel) ?_)
section
variable {P : Program} {w : World} {K : PySem.W.Frag} {mg : Str → Option Value} {base : Heap}
def spTermAt (K : PySem.W.Frag) : Sp := fun vs H Q _ => ∃ (v : V) (pa : Addr) (t u : T) (p : List Int), vs = [v, .ref pa] ∧ TR K H t v ∧ SqT K H pa (p.map .int) ∧ subAt t p = some u ∧ ∀ x, TR K H u x → Q x H
theorem sc_term_at : FnScope ["term", "path", "place"] ["term", "path"] (defScope (top 49)) := ⟨rfl, rfl, rfl, by decide +kernel, rfl, by decide +kernel, by decide +kernel⟩
theorem c_term_at (fx : Fx K mg w) : CalR P w K mg base 1 "term_at" (spTermAt K) := by
  refine fx.d_term_at.ok sc_term_at (fun vs H Q E q => ?_) (fun _ _ _ _ _ _ us hl => match us, hl with | [_, _], _ => rfl) fun f cdv A outer s H vs Q E hr q => ?_
  · obtain ⟨v, pa, t, u, p, rfl, _⟩ := q
    rfl
  · obtain ⟨v, pa, t, u, p, rfl, ht, hp, hsub, q⟩ := q
    refine ⟨_, (pss_cons (ps_for PassesOwn.leaving rfl (pi_tup (pv 1)) (pg_name (i := 2) (x := "place") sc_term_at.nd rfl (Or.inl rfl) (.inl rfl)) (pss_one (ps_set (i := 0) sc_term_at.nd rfl (Or.inl rfl) (pe_ix ix_tup (pv 0) (pv 2) (fun _ _ => rfl)))))
    (pss_one (ps_ret (pv 0)))), ?_⟩
    repeat walk_at "k"
    refine ⟨pa, rfl, ⟨_, hp⟩, ?_⟩
    refine for_it walk_tup (fun i σ' H' => H' = H ∧ ∃ x t' o, σ' = [some x, some (.ref pa), o] ∧ TR K H t' x ∧ subAt t' (p.drop i) = some u) ⟨rfl, v, t, none, rfl, ht, hsub⟩ (fun i σ' H' _ z => by rw [z.1]; exact hp) (fun i y σ' Ha Hb hi z yy => ?_) fun σ' H' z => ?_
    · obtain ⟨rfl, x, t', o, rfl, hx, hs⟩ := z
      obtain ⟨rfl, hy⟩ := yy
      rw [List.getElem?_map] at hy
      obtain ⟨j, hj, rfl⟩ := Option.map_eq_some_iff.mp hy
      have hd : p.drop i = j :: p.drop (i + 1) := by
        rw [List.drop_eq_getElem_cons (List.getElem?_eq_some_iff.mp hj).1, (List.getElem?_eq_some_iff.mp hj).2]
      rw [hd] at hs
      obtain ⟨a, us, rfl, hn, hk⟩ := hx.node
      have hs' : ((t'.kids.find? fun k => decide (k.1 = j)).bind fun k => subAt k.2 (p.drop (i + 1))) = some u := hs
      obtain ⟨k, hk1, hk2⟩ := Option.bind_eq_some_iff.mp hs'
      have hkm := List.mem_of_find?_eq_some hk1
      have hkj : k.1 = j := by simpa using List.find?_some hk1
      obtain ⟨xk, hxk, hat⟩ := t'.item_kid hk k hkm
      rw [hkj] at hat
      refine r_gname ?_
      repeat walk_at "k"
      refine r_ixT hn hat ?_
      exact ⟨rfl, xk, k.2, _, rfl, hxk, hk2⟩
    · obtain ⟨rfl, x, t', o, rfl, hx, hs⟩ := z
      repeat walk_at "k"
      have hd : p.drop (p.map V.int).length = [] := List.drop_of_length_le (by rw [List.length_map]; exact Nat.le_refl _)
      rw [hd] at hs
      have : t' = u := by simpa [subAt] using hs
      rw [← this] at q
      exact q x hx
/-- the ways of need_term -/
def spNeedTerm (K : PySem.W.Frag) : Sp := fun vs H Q E => ∃ v, vs = [v] ∧
  ((v = .non ∧ ∀ H' a, Ext H H' → SqT K H' a [] → Raised E H' (He.ga K "BadTerm") "path" (.ref a)) ∨
    ∃ t, TR K H t v ∧ t.wds ≤ 20 ∧ t.hgt ≤ 8 ∧ (allOwn t = true → ∀ H', Ext H H' → Q v H') ∧
      ∀ pth, firstBad t = some pth → ∀ H' a, Ext H H' → SqT K H' a (pth.map .int) → Raised E H' (He.ga K "BadTerm") "path" (.ref a))
theorem sc_need_term : FnScope ["thing"] ["thing"] (defScope (top 50)) := ⟨rfl, rfl, rfl, by decide +kernel, rfl, by decide +kernel, by decide +kernel⟩
theorem c_need_term (fx : Fx K mg w) : CalR P w K mg base 6 "need_term" (spNeedTerm K) := by
  refine fx.d_need_term.ok sc_need_term (fun vs H Q E q => ?_) (fun _ _ _ _ _ _ us hl => match us, hl with | [_], _ => rfl) fun f cdv A outer s H vs Q E hr q => ?_
  · obtain ⟨v, rfl, _⟩ := q
    rfl
  · obtain ⟨v, rfl, q⟩ := q
    refine ⟨_, (pss_cons (ps_expr (pe_cr (c_paths_to fx) hr px (pa_cons (pv 0) pa_nil)))
    (pss_one (ps_ret (pv 0)))), ?_⟩
    repeat walk_at "k"
    refine ⟨v, rfl, ?_⟩
    rcases q with ⟨rfl, q⟩ | ⟨t, ht, hw, hg, qok, qbad⟩
    · exact .inl ⟨rfl, q⟩
    · refine .inr ⟨t, ht, hw, hg, fun ho H' p as e _ _ _ => ?_, qbad⟩
      repeat walk_at "k"
      exact qok ho H' e
def spKnowsDay (K : PySem.W.Frag) : Sp := fun vs H Q _ => ∃ (a : Addr) (ds : List V) (v : V) (t : T), vs = [.ref a, v] ∧ SqT K H a ds ∧ TR K H t v ∧ ∀ H', Ext H H' → Q (.bl (knowsD ds.length t)) H'
theorem sc_knows_day : FnScope ["days", "term"] ["days", "term"] (defScope (top 53)) := ⟨rfl, rfl, rfl, by decide +kernel, rfl, by decide +kernel, by decide +kernel⟩
theorem c_knows_day (fx : Fx K mg w) : CalR P w K mg base 1 "knows_day" (spKnowsDay K) := by
  refine fx.d_knows_day.ok sc_knows_day (fun vs H Q E q => ?_) (fun _ _ _ _ _ _ us hl => match us, hl with | [_, _], _ => rfl) fun f cdv A outer s H vs Q E hr q => ?_
  · obtain ⟨a, ds, v, t, rfl, _⟩ := q
    rfl
  · obtain ⟨a, ds, v, t, rfl, hd, ht, q⟩ := q
    refine ⟨_, (pss_one (ps_ret (pe_or (pe_cmpR op_in_seq (pe_ix ix_tup (pv 1) pe_int (fun _ _ => rfl)) (pe_tup (pa_cons (pe_k fx.g_CASH) (pa_cons (pe_k fx.g_BOTH) (pa_cons (pe_k fx.g_SHORT) (pa_cons (pe_k fx.g_TIMES) (pa_cons (pe_k fx.g_LESSER) (pa_cons (pe_k fx.g_GREATER) pa_nil))))))) (by with_unfolding_all rfl)) (pe_one (pe_cmpR op_lt (pe_ix ix_tup (pv 1) pe_int (fun _ _ => rfl)) (pe_callB call_len_seq rfl fx.n_len (by decide +kernel) (pa_cons (pv 0) pa_nil)) (nomark _)))))), ?_⟩
    repeat walk_at "k"
    obtain ⟨b, us, rfl, hn, hk⟩ := ht.node
    refine r_ixT hn (v := .str t.word) (atI_nat (j := 0) (t.item0 us)) ?_
    repeat walk_at "k"
    refine r_inL rfl rfl (by decide) fun H1 e1 => ?_
    have hn1 := e1.tup hn
    have hd1 := e1.tup hd
    have q1 := q H1 e1
    cases t with
    | un s =>
      dsimp only [T.word]
      repeat walk_at "k"
      exact q1
    | tm s n =>
      dsimp only [T.word]
      repeat walk_at "k"
      exact q1
    | bi ww s t =>
      cases ww <;>
      · dsimp only [T.word]
        repeat walk_at "k"
        exact q1
    | l2 ww d n =>
      cases ww <;>
      · dsimp only [T.word]
        repeat walk_at "k"
        refine r_ixT hn1 (i := 1) (by rfl) ?_
        repeat walk_at "k"
        refine ⟨a, ds, rfl, .inr hd1, ?_⟩
        exact ⟨d, _, rfl, rfl, q1⟩
    | ite d n s t =>
      dsimp only [T.word]
      repeat walk_at "k"
      refine r_ixT hn1 (i := 1) (atI_nat (j := 1) (v := .int d) rfl) ?_
      repeat walk_at "k"
      refine ⟨a, ds, rfl, .inr hd1, ?_⟩
      exact ⟨d, _, rfl, rfl, q1⟩
    | lf ww n =>
      cases ww with
      | cash =>
        dsimp only [T.word]
        repeat walk_at "k"
        exact q1
      | _ =>
        dsimp only [T.word]
        repeat walk_at "k"
        refine r_ixT hn1 (i := 1) (by rfl) ?_
        repeat walk_at "k"
        refine ⟨a, ds, rfl, .inr hd1, ?_⟩
        exact ⟨n, _, rfl, rfl, q1⟩
end
end
section
open PySem Spec PyProof.Rows L2
local macro_rules | `(tactic| walk_at "s") => `(tactic| first
  | with_reducible refine r_seq ?_
  | with_reducible refine r_next ?_
  | with_reducible refine r_asg ?_
  | with_reducible refine r_gname ?_
  | with_reducible refine r_ret ?_
  | with_reducible refine r_drop ?_
  | with_reducible refine r_ifs ?_
  | with_reducible refine r_var rfl ?_
  | with_reducible refine r_c ?_
  | with_reducible refine r_op ?_
  | with_reducible refine r_un ?_
  | with_reducible refine r_nil ?_
  | with_reducible refine r_cons ?_
  | with_reducible refine r_test ?_
  | with_reducible refine r_tb ?_
  | with_reducible refine r_and ?_
  | with_reducible refine r_or ?_
  | with_reducible refine r_not ?_
  | with_reducible refine r_andV ?_
  | with_reducible refine r_orV ?_
  | with_reducible refine r_notV ?_
  | with_reducible refine r_if ?_
  | with_reducible refine r_chain ?_
  | with_reducible refine r_cl ?_
  | with_reducible refine r_cb ?_
  | with_reducible refine r_bl ?_
  | with_reducible refine r_I0 ?_
  | with_reducible refine r_yes ?_
  | with_reducible refine r_itT ?_
  | with_reducible refine r_itL ?_
  | with_reducible refine r_itS ?_
  | with_reducible refine r_itE ?_
  | with_reducible refine r_revT ?_
  | with_reducible refine r_star ?_
  | with_reducible refine r_for ?_
  | with_reducible refine r_bm ?_
  | with_reducible refine r_bm0 ?_
  | with_reducible refine r_kget1 ?_
  | with_reducible refine r_kget2 ?_
  | with_reducible refine r_par ?_
  | with_reducible refine r_tup ?_
  | with_reducible refine r_lst ?_
  | with_reducible refine r_exI ?_
  | with_reducible refine r_itZ ?_
  | with_reducible refine r_nopart ?_
  | with_reducible refine r_lc ?_
  | with_reducible refine r_sl ?_
  | with_reducible refine r_part ?_
  | with_reducible refine r_eq rfl ?_
  | with_reducible refine r_ne rfl ?_
  | with_reducible refine iteT ?_
  | with_reducible refine iteF ?_
  | with_reducible refine ite_nt ?_
  | with_reducible refine ite_nf ?_)
local macro_rules | `(tactic| walk_at "k") => `(tactic| first
  | walk_at "s"
  | with_reducible refine ite_eqT (by decide +kernel) ?_
  | with_reducible refine ite_eqF (by decide +kernel) ?_)
section
variable {P : Program} {w : World} {K : PySem.W.Frag} {mg : Str → Option Value} {base : Heap}
/-- a leaf whose day stands in the row -/
def leafOk (row : List Int) : T → Prop
  | .lf .cash _ => True
  | .lf _ d => 0 ≤ d ∧ d < row.length
  | .l2 _ d _ => 0 ≤ d ∧ d < row.length
  | _ => False
def spPaidAt (K : PySem.W.Frag) : Sp := fun vs H Q _ => ∃ (v : V) (pa : Addr) (t : T) (row : List Int), vs = [v, .ref pa] ∧ TR K H t v ∧ SqT K H pa (row.map .int) ∧ row.length ≤ 1000 ∧ leafOk row t ∧ ∀ H', Ext H H' → Q (.int (pay t row)) H'
theorem sc_paid_at : FnScope ["term", "path", "word", "some", "number"] ["term", "path"] (defScope (top 51)) := ⟨rfl, rfl, rfl, by decide +kernel, rfl, by decide +kernel, by decide +kernel⟩
theorem c_paid_at (fx : Fx K mg w) : CalR P w K mg base 1 "paid_at" (spPaidAt K) := by
  refine fx.d_paid_at.ok sc_paid_at (fun vs H Q E q => ?_) (fun _ _ _ _ _ _ us hl => match us, hl with | [_, _], _ => rfl) fun f cdv A outer s H vs Q E hr q => ?_
  · obtain ⟨v, pa, t, row, rfl, _⟩ := q
    rfl
  · obtain ⟨v, pa, t, row, rfl, ht, hp, hrl, hlf, q⟩ := q
    have hu : (A.deeper (envOfC "paid_at" (defScope (top 51)) s.heap.objs.size f cdv)).units + 64 < cLine := hr.units
    refine ⟨_, (pss_cons (ps_set (i := 2) sc_paid_at.nd rfl (Or.inl rfl) (pe_ix ix_tup (pv 0) pe_int (fun _ _ => rfl)))
    (pss_cons (ps_if (pt_cmpR op_eq (pv 2) (pe_k fx.g_CASH) (nomark _)) (pss_one (ps_ret (pe_ix ix_tup (pv 0) pe_int (fun _ _ => rfl)))) pss_nil)
    (pss_cons (ps_if (pt_cmpR op_in_seq (pv 2) (pe_tup (pa_cons (pe_k fx.g_LOWEST) (pa_cons (pe_k fx.g_HIGHEST) pa_nil))) (by with_unfolding_all rfl)) (pss_cons (ps_set (i := 3) sc_paid_at.nd rfl (Or.inl rfl) (pe_slice sl_tupA (pv 1) po_none (po_some (pe_op op_add (pe_ix ix_tup (pv 0) pe_int (fun _ _ => rfl)) pe_int))))
      (pss_one (ps_ret (pe_ifExp (pt_cmpR op_eq (pv 2) (pe_k fx.g_LOWEST) (nomark _)) (pe_callB (cr_minT rfl hu) rfl fx.n_min (by decide +kernel) (pa_cons (pv 3) pa_nil)) (pe_callB (cr_maxT rfl hu) rfl fx.n_max (by decide +kernel) (pa_cons (pv 3) pa_nil)))))) pss_nil)
    (pss_cons (ps_set (i := 4) sc_paid_at.nd rfl (Or.inl rfl) (pe_ix ix_tup (pv 1) (pe_ix ix_tup (pv 0) pe_int (fun _ _ => rfl)) (fun _ _ => rfl)))
    (pss_cons (ps_if (pt_cmpR op_eq (pv 2) (pe_k fx.g_AT) (nomark _)) (pss_one (ps_ret (pv 4))) pss_nil)
    (pss_one (ps_ret (pe_ifExp (pt_cmpR op_eq (pv 2) (pe_k fx.g_ABOVE) (nomark _)) (pe_callB (call_max2 rfl) rfl fx.n_max (by decide +kernel) (pa_cons pe_int (pa_cons (pe_op op_sub (pv 4) (pe_ix ix_tup (pv 0) pe_int (fun _ _ => rfl))) pa_nil))) (pe_callB (call_max2 rfl) rfl fx.n_max (by decide +kernel) (pa_cons pe_int (pa_cons (pe_op op_sub (pe_ix ix_tup (pv 0) pe_int (fun _ _ => rfl)) (pv 4)) pa_nil))))))))))), ?_⟩
    repeat walk_at "k"
    cases t with
    | un => exact hlf.elim
    | tm => exact hlf.elim
    | bi => exact hlf.elim
    | ite => exact hlf.elim
    | lf ww d =>
      obtain ⟨a, rfl, hn⟩ := ht
      refine r_ixT hn (i := 0) (by rfl) ?_
      cases ww with
      | cash =>
        repeat walk_at "k"
        refine r_ixT hn (i := 1) (by rfl) ?_
        exact q H (Ext.refl H)
      | at_ =>
        repeat walk_at "k"
        refine r_inL rfl rfl (by decide) fun H1 e1 => ?_
        repeat walk_at "k"
        refine r_ixT (e1.tup hn) (i := 1) (by rfl) ?_
        refine r_ixT (e1.tup hp) (atI_row hlf.1 hlf.2) ?_
        repeat walk_at "k"
        exact q H1 e1
      | low =>
        repeat walk_at "k"
        refine r_inL rfl rfl (by decide) fun H1 e1 => ?_
        repeat walk_at "k"
        refine r_ixT (e1.tup hn) (i := 1) (by rfl) ?_
        repeat walk_at "k"
        obtain ⟨n0, r0, hrow⟩ : ∃ n0 r0, row.take (d.toNat + 1) = n0 :: r0 := by
          cases row with
          | nil => exact absurd hlf.2 (by have := hlf.1; simp; omega)
          | cons n0 r => exact ⟨n0, r.take d.toNat, rfl⟩
        have fin : ∀ H2 b, Ext H H2 → SqT K H2 b ((n0 :: r0).map V.int) → Q (.int (minL (n0 :: r0))) H2 := fun H2 b e2 hb => by
          have := q H2 e2
          simp only [pay, hrow] at this
          exact this
        have cut : cutV (row.map V.int) none (some (d + 1)) = (n0 :: r0).map V.int := by
          unfold cutV
          have e1 : HT.sIx (row.map V.int).length (row.map V.int).length (some (d + 1)) = d.toNat + 1 := by
            have h1 := hlf.1
            have h2 := hlf.2
            have h3 : (d + 1 : Int) = ((d.toNat + 1 : Nat) : Int) := by omega
            rw [h3, HT.sIx_nat, List.length_map]
            omega
          rw [e1, HT.sIx_none]
          simp only [List.drop_zero, Nat.sub_zero]
          rw [← List.map_take, hrow]
        have hp1 := e1.tup hp
        refine ⟨pa, _, rfl, hp1, fun z => ?_, fun _ p2 hp2 => ?_⟩
        · have hw : (row.map V.int) = (n0 :: r0).map V.int := by
            rw [← cut]
            unfold cutV
            rw [z.1, z.2, List.drop_zero, Nat.sub_zero, List.take_length]
          rw [hw] at hp1
          repeat walk_at "k"
          exact ⟨pa, n0, r0, rfl, hp1, fin H1 pa e1 hp1⟩
        · rw [cut]
          have hb : SqT K (upd H1 p2 (.tup ((n0 :: r0).map V.int))) p2 ((n0 :: r0).map V.int) := .inl (.inl upd_same)
          repeat walk_at "k"
          exact ⟨p2, n0, r0, rfl, hb, fin _ p2 (e1.trans (Ext.new hp2)) hb⟩
      | high =>
        repeat walk_at "k"
        refine r_inL rfl rfl (by decide) fun H1 e1 => ?_
        repeat walk_at "k"
        refine r_ixT (e1.tup hn) (i := 1) (by rfl) ?_
        repeat walk_at "k"
        obtain ⟨n0, r0, hrow⟩ : ∃ n0 r0, row.take (d.toNat + 1) = n0 :: r0 := by
          cases row with
          | nil => exact absurd hlf.2 (by have := hlf.1; simp; omega)
          | cons n0 r => exact ⟨n0, r.take d.toNat, rfl⟩
        have fin : ∀ H2 b, Ext H H2 → SqT K H2 b ((n0 :: r0).map V.int) → Q (.int (maxL (n0 :: r0))) H2 := fun H2 b e2 hb => by
          have := q H2 e2
          simp only [pay, hrow] at this
          exact this
        have cut : cutV (row.map V.int) none (some (d + 1)) = (n0 :: r0).map V.int := by
          unfold cutV
          have e1 : HT.sIx (row.map V.int).length (row.map V.int).length (some (d + 1)) = d.toNat + 1 := by
            have h1 := hlf.1
            have h2 := hlf.2
            have h3 : (d + 1 : Int) = ((d.toNat + 1 : Nat) : Int) := by omega
            rw [h3, HT.sIx_nat, List.length_map]
            omega
          rw [e1, HT.sIx_none]
          simp only [List.drop_zero, Nat.sub_zero]
          rw [← List.map_take, hrow]
        have hp1 := e1.tup hp
        refine ⟨pa, _, rfl, hp1, fun z => ?_, fun _ p2 hp2 => ?_⟩
        · have hw : (row.map V.int) = (n0 :: r0).map V.int := by
            rw [← cut]
            unfold cutV
            rw [z.1, z.2, List.drop_zero, Nat.sub_zero, List.take_length]
          rw [hw] at hp1
          repeat walk_at "k"
          exact ⟨pa, n0, r0, rfl, hp1, fin H1 pa e1 hp1⟩
        · rw [cut]
          have hb : SqT K (upd H1 p2 (.tup ((n0 :: r0).map V.int))) p2 ((n0 :: r0).map V.int) := .inl (.inl upd_same)
          repeat walk_at "k"
          exact ⟨p2, n0, r0, rfl, hb, fin _ p2 (e1.trans (Ext.new hp2)) hb⟩
    | l2 ww d n =>
      obtain ⟨a, rfl, hn⟩ := ht
      refine r_ixT hn (i := 0) (by rfl) ?_
      cases ww with
      | above =>
        repeat walk_at "k"
        refine r_inL rfl rfl (by decide) fun H1 e1 => ?_
        repeat walk_at "k"
        refine r_ixT (e1.tup hn) (i := 1) (by rfl) ?_
        refine r_ixT (e1.tup hp) (atI_row hlf.1 hlf.2) ?_
        repeat walk_at "k"
        refine r_ixT (e1.tup hn) (i := 2) (by rfl) ?_
        repeat walk_at "k"
        refine ⟨0, _, rfl, ?_⟩
        have e3 : (if atN row d - n > 0 then atN row d - n else 0) = max 0 (atN row d - n) := by omega
        rw [e3]
        exact q H1 e1
      | below =>
        repeat walk_at "k"
        refine r_inL rfl rfl (by decide) fun H1 e1 => ?_
        repeat walk_at "k"
        refine r_ixT (e1.tup hn) (i := 1) (by rfl) ?_
        refine r_ixT (e1.tup hp) (atI_row hlf.1 hlf.2) ?_
        repeat walk_at "k"
        refine r_ixT (e1.tup hn) (i := 2) (by rfl) ?_
        repeat walk_at "k"
        refine ⟨0, _, rfl, ?_⟩
        have e3 : (if n - atN row d > 0 then n - atN row d else 0) = max 0 (n - atN row d) := by omega
        rw [e3]
        exact q H1 e1
/-- what the kids pay -/
def payKids (t : T) (row : List Int) : List Int := t.kids.map fun k => pay k.2 row
/-- a node with kids whose numbers stand well -/
def nodeOk (row : List Int) : T → Prop
  | .lf _ _ => False
  | .l2 _ _ _ => False
  | .tm _ n => -1000 ≤ n ∧ n ≤ 1000
  | .ite d _ _ _ => 0 ≤ d ∧ d < row.length
  | _ => True
def spPaidBy (K : PySem.W.Frag) : Sp := fun vs H Q _ => ∃ (v : V) (pa l : Addr) (t : T) (row : List Int), vs = [v, .ref pa, .ref l] ∧ TR K H t v ∧ SqT K H pa (row.map .int) ∧ SqL K H l ((payKids t row).map .int) ∧ nodeOk row t ∧ Q (.int (pay t row)) H
theorem sc_paid_by : FnScope ["term", "path", "some", "word"] ["term", "path", "some"] (defScope (top 52)) := ⟨rfl, rfl, rfl, by decide +kernel, rfl, by decide +kernel, by decide +kernel⟩
theorem c_paid_by (fx : Fx K mg w) : CalR P w K mg base 1 "paid_by" (spPaidBy K) := by
  refine fx.d_paid_by.ok sc_paid_by (fun vs H Q E q => ?_) (fun _ _ _ _ _ _ us hl => match us, hl with | [_, _, _], _ => rfl) fun f cdv A outer s H vs Q E hr q => ?_
  · obtain ⟨v, pa, l, t, row, rfl, _⟩ := q
    rfl
  · obtain ⟨v, pa, l, t, row, rfl, ht, hp, hl, hok, q⟩ := q
    refine ⟨_, (pss_cons (ps_set (i := 3) sc_paid_by.nd rfl (Or.inl rfl) (pe_ix ix_tup (pv 0) pe_int (fun _ _ => rfl)))
    (pss_cons (ps_if (pt_cmpR op_eq (pv 3) (pe_k fx.g_BOTH) (nomark _)) (pss_one (ps_ret (pe_op op_add (pe_ix ix_list (pv 2) pe_int (fun _ _ => rfl)) (pe_ix ix_list (pv 2) pe_int (fun _ _ => rfl))))) pss_nil)
    (pss_cons (ps_if (pt_cmpR op_eq (pv 3) (pe_k fx.g_SHORT) (nomark _)) (pss_one (ps_ret (pe_op op_sub pe_int (pe_ix ix_list (pv 2) pe_int (fun _ _ => rfl))))) pss_nil)
    (pss_cons (ps_if (pt_cmpR op_eq (pv 3) (pe_k fx.g_TIMES) (nomark _)) (pss_one (ps_ret (pe_op op_mul (pe_ix ix_list (pv 2) pe_int (fun _ _ => rfl)) (pe_ix ix_tup (pv 0) pe_int (fun _ _ => rfl))))) pss_nil)
    (pss_cons (ps_if (pt_cmpR op_eq (pv 3) (pe_k fx.g_IF) (nomark _)) (pss_one (ps_ret (pe_ifExp (pt_cmpR op_gt (pe_ix ix_tup (pv 1) (pe_ix ix_tup (pv 0) pe_int (fun _ _ => rfl)) (fun _ _ => rfl)) (pe_ix ix_tup (pv 0) pe_int (fun _ _ => rfl)) (nomark _)) (pe_ix ix_list (pv 2) pe_int (fun _ _ => rfl)) (pe_ix ix_list (pv 2) pe_int (fun _ _ => rfl))))) pss_nil)
    (pss_one (ps_ret (pe_ifExp (pt_cmpR op_eq (pv 3) (pe_k fx.g_LESSER) (nomark _)) (pe_callB (cr_min rfl) rfl fx.n_min (by decide +kernel) (pa_cons (pv 2) pa_nil)) (pe_callB (cr_max rfl) rfl fx.n_max (by decide +kernel) (pa_cons (pv 2) pa_nil)))))))))), ?_⟩
    repeat walk_at "k"
    cases t with
    | lf => exact hok.elim
    | l2 => exact hok.elim
    | un s =>
      obtain ⟨a, u, rfl, hn, _⟩ := ht
      refine r_ixT hn (i := 0) (by rfl) ?_
      repeat walk_at "k"
      refine r_ixL hl (i := 0) (v := .int (pay s row)) rfl ?_
      repeat walk_at "k"
      exact q
    | tm s n =>
      obtain ⟨a, u, rfl, hn, _⟩ := ht
      refine r_ixT hn (i := 0) (by rfl) ?_
      repeat walk_at "k"
      refine r_ixL hl (i := 0) (v := .int (pay s row)) rfl ?_
      repeat walk_at "k"
      refine r_ixT hn (i := 2) (by rfl) ?_
      exact r_mul (by have h1 : -1000 ≤ n := hok.1; have h2 : n ≤ 1000 := hok.2; omega) q
    | ite d n s t =>
      obtain ⟨a, u1, u2, rfl, hn, _⟩ := ht
      refine r_ixT hn (i := 0) (by rfl) ?_
      repeat walk_at "k"
      refine r_ixT hn (i := 1) (by rfl) ?_
      refine r_ixT hp (atI_row hok.1 hok.2) ?_
      repeat walk_at "k"
      refine r_ixT hn (i := 2) (by rfl) ?_
      repeat walk_at "k"
      simp only [pay] at q
      refine ite_b (fun h1 => ?_) fun h1 => ?_
      · rw [if_pos (of_decide_eq_true h1)] at q
        repeat walk_at "k"
        exact r_ixL hl (i := 0) (v := .int (pay s row)) rfl q
      · rw [if_neg (of_decide_eq_false h1)] at q
        repeat walk_at "k"
        exact r_ixL hl (i := 1) (v := .int (pay t row)) rfl q
    | bi ww s t =>
      obtain ⟨a, u1, u2, rfl, hn, _⟩ := ht
      refine r_ixT hn (i := 0) (by rfl) ?_
      cases ww with
      | both =>
        repeat walk_at "k"
        refine r_ixL hl (i := 0) (v := .int (pay s row)) rfl ?_
        repeat walk_at "k"
        refine r_ixL hl (i := 1) (v := .int (pay t row)) rfl ?_
        repeat walk_at "k"
        exact q
      | less =>
        repeat walk_at "k"
        refine ⟨l, _, rfl, hl, by show 0 < 2; decide, fun m hm hall => ?_⟩
        simp only [pay] at q
        have h1 := hall (pay s row) (by simp [payKids, T.kids])
        have h2 := hall (pay t row) (by simp [payKids, T.kids])
        have h3 : m = pay s row ∨ m = pay t row := by simpa [payKids, T.kids] using hm
        have e : m = min (pay s row) (pay t row) := by rcases h3 with h3 | h3 <;> omega
        rw [e]
        exact q
      | grea =>
        repeat walk_at "k"
        refine ⟨l, _, rfl, hl, by show 0 < 2; decide, fun m hm hall => ?_⟩
        simp only [pay] at q
        have h1 := hall (pay s row) (by simp [payKids, T.kids])
        have h2 := hall (pay t row) (by simp [payKids, T.kids])
        have h3 : m = pay s row ∨ m = pay t row := by simpa [payKids, T.kids] using hm
        have e : m = max (pay s row) (pay t row) := by rcases h3 with h3 | h3 <;> omega
        rw [e]
        exact q
end
end
section
open PySem Spec PyProof.Rows L2
open LamX
/-! ### frames: all but the things at B and the tables stay -/
structure Fr (K : PySem.W.Frag) (B : List Addr) (H H' : Hp) : Prop where
  kp : ∀ b o, b ∉ B → H b = some o → (∀ ps, o ≠ .tbl ps) → H' b = some o
  tk : TK K H H'
  tb : Tabs (TT K) H → Tabs (TT K) H'
section
variable {K : PySem.W.Frag} {B : List Addr} {H H1 H2 H' : Hp}
theorem Fr.refl (H : Hp) : Fr K B H H := ⟨fun _ _ _ h _ => h, TK.refl H, fun h => h⟩
theorem Fr.trans (a : Fr K B H H1) (b : Fr K B H1 H2) : Fr K B H H2 := ⟨fun c o n h t => b.kp c o n (a.kp c o n h t) t, a.tk.trans b.tk, fun h => b.tb (a.tb h)⟩
theorem Ext.fr (e : Ext H H1) : Fr K B H H1 := ⟨fun c o _ h _ => e c o h, e.tk, fun h => h.ext e⟩
theorem Fr.more {B' : List Addr} (a : Fr K B H H1) (h : ∀ b ∈ B, b ∈ B') : Fr K B' H H1 := ⟨fun c o n => a.kp c o fun z => n (h c z), a.tk, a.tb⟩
/-- what was not there may be written -/
theorem Fr.drop {b : Addr} (a : Fr K (b :: B) H H1) (n : H b = none) : Fr K B H H1 := ⟨fun c o h e t => a.kp c o (fun z => by
  rcases List.mem_cons.mp z with z | z
  · rw [z, n] at e
    cases e
  · exact h z) e t, a.tk, a.tb⟩
theorem Fr.out {b : Addr} {o : HO} (a : Fr K B H H1) (n : H1 b = none) (c : Fr K (b :: B) (upd H1 b o) H2) : Fr K B H H2 := by
  have t := (Ext.new (o := o) n)
  refine ⟨fun x u h e g => ?_, a.tk.trans (t.tk.trans c.tk), fun h => c.tb ((a.tb h).ext t)⟩
  have e1 := a.kp x u h e g
  refine c.kp x u (fun z => ?_) (t _ _ e1) g
  rcases List.mem_cons.mp z with z | z
  · rw [z, n] at e1
    cases e1
  · exact h z
theorem Fr.ofN (e : ExtN H H1) (t : Tabs (TT K) H1) : Fr K B H H1 := ⟨fun c o _ h n => e c o h n, ⟨fun a xs h => sqT_extN h e, fun a xs h => e a _ h fun ps z => by cases z⟩, fun _ => t⟩
/-- a thing at b is written -/
theorem Fr.put {b : Addr} {u o : HO} (hb : H b = some u) (hB : b ∈ B) (n1 : ∀ xs, u ≠ .tup xs) (n2 : ∀ ob x, u ≠ .frz ob x) (n3 : ∀ ps, u ≠ .tbl ps) (n4 : ∀ f, u ≠ .ext f) : Fr K B H (upd H b o) := by
  have ne : ∀ c v, H c = some v → v ≠ u → c ≠ b := fun c v hc hv z => by
    rw [z, hb] at hc
    exact hv (Option.some.inj hc).symm
  refine ⟨fun c v n h _ => ?_, TK.put hb n1 n2, fun h p hp => ?_⟩
  · rw [upd_ne fun z => n (by rw [z]; exact hB)]
    exact h
  · obtain ⟨ps, h1, h2, h3⟩ := h p hp
    refine ⟨ps, by rw [upd_ne (ne _ _ h1 fun z => n3 ps z.symm)]; exact h1, h2, fun pos cv hc => ?_⟩
    obtain ⟨c, e1, e2⟩ := h3 pos cv hc
    exact ⟨c, e1, by rw [upd_ne (ne _ _ e2 fun z => n4 _ z.symm)]; exact e2⟩
theorem Fr.putL {b : Addr} {xs : List V} {o : HO} (hb : H b = some (.lst xs)) (hB : b ∈ B) : Fr K B H (upd H b o) := .put hb hB (fun _ z => by cases z) (fun _ _ z => by cases z) (fun _ z => by cases z) fun _ z => by cases z
theorem Fr.putK {b : Addr} {xs : List (Key × V)} {o : HO} (hb : H b = some (.dK xs)) (hB : b ∈ B) : Fr K B H (upd H b o) := .put hb hB (fun _ z => by cases z) (fun _ _ z => by cases z) (fun _ z => by cases z) fun _ z => by cases z
theorem Fr.putT {b : Addr} {xs : List (List Key × V)} {o : HO} (hb : H b = some (.dT xs)) (hB : b ∈ B) : Fr K B H (upd H b o) := .put hb hB (fun _ z => by cases z) (fun _ _ z => by cases z) (fun _ z => by cases z) fun _ z => by cases z
theorem Fr.tup {a : Addr} {xs : List V} (e : Fr K B H H1) (h : SqT K H a xs) : SqT K H1 a xs := e.tk _ _ h
theorem Fr.lst {a : Addr} {xs : List V} (e : Fr K B H H1) (n : a ∉ B) (h : H a = some (.lst xs)) : H1 a = some (.lst xs) := e.kp _ _ n h fun _ z => by cases z
theorem Fr.sqL {a : Addr} {xs : List V} (e : Fr K B H H1) (n : a ∉ B) (h : SqL K H a xs) : SqL K H1 a xs := by
  rcases h with (h | ⟨o, h⟩) | h
  · exact .inl (.inl (e.lst n h))
  · exact .inl (.inr ⟨o, e.kp _ _ n h fun _ z => by cases z⟩)
  · exact .inr h
end
/-! ### nodes and their kids -/
theorem kids_small (t : T) : ∀ k ∈ t.kids, 1 ≤ k.1 ∧ k.1 ≤ 4 := by
  cases t <;> simp [T.kids]
theorem mem_flatN {l : List (List Int × T)} {e : List Int × T} : e ∈ flatN l ↔ ∃ x ∈ l, e ∈ preN x.2 x.1 := List.mem_flatMap
theorem preN_ind {C : T → List Int → Prop} (h : ∀ t p, (∀ k ∈ t.kids, C k.2 (p ++ [k.1])) → C t p) : ∀ t p, C t p
  | .lf w n, p => h _ _ fun k hk => by cases hk
  | .l2 w d n, p => h _ _ fun k hk => by cases hk
  | .un s, p => h _ _ fun k hk => by
    have e : k = (1, s) := by simpa [T.kids] using hk
    rw [e]; exact preN_ind h s _
  | .tm s n, p => h _ _ fun k hk => by
    have e : k = (1, s) := by simpa [T.kids] using hk
    rw [e]; exact preN_ind h s _
  | .bi w s t, p => h _ _ fun k hk => by
    have e : k = (1, s) ∨ k = (2, t) := by simpa [T.kids] using hk
    rcases e with e | e
    · rw [e]; exact preN_ind h s _
    · rw [e]; exact preN_ind h t _
  | .ite d n s t, p => h _ _ fun k hk => by
    have e : k = (3, s) ∨ k = (4, t) := by simpa [T.kids] using hk
    rcases e with e | e
    · rw [e]; exact preN_ind h s _
    · rw [e]; exact preN_ind h t _
theorem mem_preN {t : T} {p : List Int} {e : List Int × T} : e ∈ preN t p ↔ e = (p, t) ∨ ∃ k ∈ t.kids, e ∈ preN k.2 (p ++ [k.1]) := by
  rw [preN_eq, List.mem_cons, mem_flatN]
  constructor
  · rintro (h | ⟨x, hx, he⟩)
    · exact .inl h
    · obtain ⟨k, hk, rfl⟩ := List.mem_map.mp hx
      exact .inr ⟨k, hk, he⟩
  · rintro (h | ⟨k, hk, he⟩)
    · exact .inl h
    · exact .inr ⟨_, List.mem_map.mpr ⟨k, hk, rfl⟩, he⟩
theorem preN_sub (t : T) (p : List Int) : ∀ e ∈ preN t p, ∃ r, e.1 = p ++ r ∧ subAt t r = some e.2 ∧ r.length + e.2.hgt ≤ t.hgt := by
  refine preN_ind (C := fun t p => ∀ e ∈ preN t p, ∃ r, e.1 = p ++ r ∧ subAt t r = some e.2 ∧ r.length + e.2.hgt ≤ t.hgt) (fun t p ih e he => ?_) t p
  rcases mem_preN.mp he with rfl | ⟨k, hk, he⟩
  · exact ⟨[], by simp, rfl, by simp⟩
  · obtain ⟨r, h1, h2, h3⟩ := ih k hk e he
    refine ⟨k.1 :: r, by rw [h1]; simp, by rw [subAt_kid hk]; exact h2, ?_⟩
    have := kids_hgt t k hk
    rw [List.length_cons]
    omega
theorem preN_kid (t : T) (p : List Int) : ∀ e ∈ preN t p, ∀ k ∈ e.2.kids, (e.1 ++ [k.1], k.2) ∈ preN t p := by
  refine preN_ind (C := fun t p => ∀ e ∈ preN t p, ∀ k ∈ e.2.kids, (e.1 ++ [k.1], k.2) ∈ preN t p) (fun t p ih e he k hk => ?_) t p
  rcases mem_preN.mp he with rfl | ⟨k', hk', he⟩
  · exact mem_preN.mpr (.inr ⟨k, hk, mem_preN.mpr (.inl rfl)⟩)
  · exact mem_preN.mpr (.inr ⟨k', hk', ih k' hk' e he k hk⟩)
theorem preN_one {t : T} {e e' : List Int × T} (h : e ∈ preN t []) (h' : e' ∈ preN t []) (he : e.1 = e'.1) : e.2 = e'.2 := by
  obtain ⟨r, h1, h2, _⟩ := preN_sub t [] e h
  obtain ⟨r', h1', h2', _⟩ := preN_sub t [] e' h'
  have : r = r' := by
    rw [List.nil_append] at h1 h1'
    rw [← h1, ← h1', he]
  rw [this, h2'] at h2
  exact (Option.some.inj h2).symm
/-! ### the order in which nodes are paid -/
theorem le_kid (p : List Int) {j : Int} (h : j < 9) : ¬ (p ++ [9] ≤ p ++ [j] ++ [9]) := by
  rw [List.not_le]
  induction p with
  | nil => exact List.Lex.rel h
  | cons a p ih => exact List.Lex.cons ih
theorem sorted_before {α : Type} {bs : List (α × List Int)} {i : Nat} {b c : α × List Int} (hi : (bs.mergeSort fun b c => decide (b.2 ++ [9] ≤ c.2 ++ [9]))[i]? = some b) (hc : c ∈ bs) (hn : ¬ (b.2 ++ [9] ≤ c.2 ++ [9])) :
    ∃ j, j < i ∧ (bs.mergeSort fun b c => decide (b.2 ++ [9] ≤ c.2 ++ [9]))[j]? = some c := by
  have hs := List.pairwise_mergeSort (le := fun b c : α × List Int => decide (b.2 ++ [9] ≤ c.2 ++ [9])) (fun a b c h1 h2 => by
    simp only [decide_eq_true_eq] at h1 h2 ⊢
    exact List.le_trans h1 h2) (fun a b => by
    simp only [Bool.or_eq_true, decide_eq_true_eq]
    exact List.le_total _ _) bs
  have hm : c ∈ bs.mergeSort fun b c => decide (b.2 ++ [9] ≤ c.2 ++ [9]) := List.mem_mergeSort.mpr hc
  generalize bs.mergeSort (fun b c => decide (b.2 ++ [9] ≤ c.2 ++ [9])) = l at hi hs hm ⊢
  obtain ⟨j, hj, ej⟩ := List.mem_iff_getElem.mp hm
  have hj2 : l[j]? = some c := by rw [List.getElem?_eq_getElem hj, ej]
  refine ⟨j, ?_, hj2⟩
  rcases Nat.lt_trichotomy j i with h | h | h
  · exact h
  · rw [h, hi] at hj2
    rw [Option.some.inj hj2] at hn
    exact absurd (List.le_refl _) hn
  · obtain ⟨hi1, hi2⟩ := List.getElem?_eq_some_iff.mp hi
    have := List.pairwise_iff_getElem.mp hs i j hi1 hj h
    rw [hi2, ej] at this
    exact absurd (of_decide_eq_true this) hn
/-! ### what is asked of a claim -/
def priceOk (n : Int) : Bool := decide (-10000 ≤ n ∧ n ≤ 10000)
def nodeGood (dss : List (List Int)) (u : T) : Bool := knowsD dss.length u && (pathsOf dss).all fun row => priceOk (pay u row)
/-- the term is a claim on these days -/
def okC (dss : List (List Int)) (t : T) : Bool := (preN t []).all fun e => nodeGood dss e.2
def claim (dss : List (List Int)) (t : T) : List Int := (pathsOf dss).map (pay t)
theorem okC_all {dss : List (List Int)} {t : T} (h : okC dss t = true) : ∀ e ∈ preN t [], nodeGood dss e.2 = true := List.all_eq_true.mp h
theorem okC_no {dss : List (List Int)} {t : T} {e : List Int × T} (h : e ∈ preN t []) (hn : nodeGood dss e.2 = false) : okC dss t = false := by
  cases z : okC dss t with
  | false => rfl
  | true =>
    rw [okC_all z e h] at hn
    cases hn
end
section
open PySem Spec PyProof.Rows L2
open LamX
/-! ### small things for claim_in -/
theorem lay_rows : ∀ rows : List (List Int), PyData.canLayAll0 (rows.map fun r => PyData.tuple (r.map .int)) = true
  | [] => rfl
  | r :: rows => by
    simp only [List.map_cons, PyData.canLayAll0, PyData.canLay0, lay_ints, Bool.true_and]
    exact lay_rows rows
theorem dep_rows : ∀ rows : List (List Int), PyData.depthAll (rows.map fun r => PyData.tuple (r.map .int)) ≤ 2
  | [] => by simp [PyData.depthAll]
  | r :: rows => by
    have h1 := dep_rows rows
    have h2 := dep_ints r
    simp only [List.map_cons, PyData.depthAll, PyData.depth]
    omega
theorem shaped_rowsL (rows : List (List Int)) : SeqAt.shaped (.list (rows.map fun r => PyData.tuple (r.map .int))) = true := by
  have := dep_rows rows
  unfold SeqAt.shaped
  simp only [PyData.canLay0, lay_rows, PyData.depth, Bool.true_and]
  exact decide_eq_true (by omega)
theorem dp_rowsL {K : PySem.W.Frag} {H : Hp} {as : List Addr} {rows : List (List Int)} (h : Rows K H as rows) : DpAll K H (as.map .ref) (rows.map fun r => PyData.tuple (r.map .int)) := by
  induction h with
  | nil => exact .nil
  | cons h _ ih => exact .cons (.tup h (dp_ints _)) ih
theorem eqv_nilL (ds : List PyData) : PyData.eqv (.list ds) (.list []) = ds.isEmpty := by
  cases ds <;> simp [PyData.eqv, PyData.eqvAll]
theorem DaysAt.len {K : PySem.W.Frag} {H : Hp} {a : Addr} {dss : List (List Int)} (h : DaysAt K H a dss) : ∃ ds : List V, SqT K H a ds ∧ ds.length = dss.length := by
  obtain ⟨as, h1, h2⟩ := h
  exact ⟨_, h1, by rw [List.length_map, Paired.length h2]⟩
theorem firstBad_none {t : T} (h : allOwn t = true) {p : List Int} : firstBad t ≠ some p := fun z => by
  unfold firstBad at z
  obtain ⟨e, he, _⟩ := Option.map_eq_some_iff.mp z
  have h1 := List.all_eq_true.mp h e (List.mem_of_find?_eq_some he)
  have h2 := List.find?_some he
  rw [h1] at h2
  cases h2
theorem paired_zip {α β : Type} {F : α → β → Prop} : ∀ {l : List α} {r : List β}, Paired F l r → ∀ e ∈ l.zip r, F e.1 e.2
  | _, _, .nil, e, h => by simp at h
  | _, _, .cons h t, e, he => by
    rcases List.mem_cons.mp he with z | z
    · rw [z]; exact h
    · exact paired_zip t e z
theorem zip_fst {α β : Type} : ∀ {l : List α} {r : List β}, l.length = r.length → (l.zip r).map (·.1) = l
  | [], [], _ => rfl
  | a :: l, b :: r, h => by
    rw [List.zip_cons_cons, List.map_cons, zip_fst (by simpa using h)]
theorem zip_has {α β : Type} : ∀ {l : List α} {r : List β}, l.length = r.length → ∀ b ∈ r, ∃ a, (a, b) ∈ l.zip r
  | [], [], _, b, h => by cases h
  | a :: l, c :: r, h, b, hb => by
    rcases List.mem_cons.mp hb with z | z
    · exact ⟨a, by rw [z]; exact List.mem_cons_self⟩
    · obtain ⟨x, hx⟩ := zip_has (l := l) (by simpa using h) b z
      exact ⟨x, List.mem_cons_of_mem _ hx⟩
theorem kv_path (p : List Int) : (p.map Sum.inl : List Key).map kV = p.map V.int := by
  rw [List.map_map]
  rfl
/-- a day that a good node names stands in the row -/
theorem good_node {t u : T} {e : List Int × T} {m : Nat} {row : List Int} (hown : allOwn t = true) (he : (e.1, u) ∈ preN t []) (hk : knowsD m u = true) (hr : row.length = m) : (u.kids = [] → leafOk row u) ∧ (u.kids ≠ [] → nodeOk row u) := by
  have ho : u.own = true := List.all_eq_true.mp hown (e.1, u) he
  have hd : ∀ d, T.dayNo d = true → 0 ≤ d := fun d h => (of_decide_eq_true h).1
  refine ⟨fun h => ?_, fun h => ?_⟩
  · cases u with
    | lf w n =>
      cases w with
      | cash => trivial
      | at_ => exact ⟨hd _ ho, by rw [hr]; exact of_decide_eq_true hk⟩
      | low => exact ⟨hd _ ho, by rw [hr]; exact of_decide_eq_true hk⟩
      | high => exact ⟨hd _ ho, by rw [hr]; exact of_decide_eq_true hk⟩
    | l2 w d n => exact ⟨hd _ (by have := ho; simp only [T.own, Bool.and_eq_true] at this; exact this.1), by rw [hr]; exact of_decide_eq_true hk⟩
    | un s => simp [T.kids] at h
    | tm s n => simp [T.kids] at h
    | bi w s t => simp [T.kids] at h
    | ite d n s t => simp [T.kids] at h
  · cases u with
    | lf w n => simp [T.kids] at h
    | l2 w d n => simp [T.kids] at h
    | un s => trivial
    | tm s n =>
      have h1 : -1000 ≤ n ∧ n ≤ 1000 := of_decide_eq_true (show decide (-1000 ≤ n ∧ n ≤ 1000) = true from ho)
      exact h1
    | bi w s t => trivial
    | ite d n s t => exact ⟨hd _ (by have := ho; simp only [T.own, Bool.and_eq_true] at this; exact this.1), by rw [hr]; exact of_decide_eq_true hk⟩
section
variable {σ : L2.St} {H : Hp} {Q : VK} {td ty tv : TE} {D : Ends}
theorem r_dget (h : td σ H fun x H1 => ty σ H1 fun y H2 => ∃ a v, x = .ref a ∧ DGet H2 a y (some v) ∧ Q v H2) : tDGet td ty σ H Q := h
theorem r_dput (h : tv σ H fun v H1 => td σ H1 fun x H2 => ty σ H2 fun y H3 => ∃ a H4, x = .ref a ∧ DPut H3 a y v H4 ∧ D.nx σ H4) : sDPut td ty tv D σ H := h
theorem r_din (h : ty σ H fun y H1 => td σ H1 fun x H2 => ∃ a o, x = .ref a ∧ DGet H2 a y o ∧ Q (.bl o.isSome) H2) : tDIn ty td σ H Q := h
theorem r_dnotin (h : ty σ H fun y H1 => td σ H1 fun x H2 => ∃ a o, x = .ref a ∧ DGet H2 a y o ∧ Q (.bl (!o.isSome)) H2) : tDNotIn ty td σ H Q := h
end
end
section
open PySem Spec PyProof.Rows L2
local macro_rules | `(tactic| walk_at "s") => `(tactic| first
  | with_reducible refine r_seq ?_
  | with_reducible refine r_next ?_
  | with_reducible refine r_asg ?_
  | with_reducible refine r_gname ?_
  | with_reducible refine r_ret ?_
  | with_reducible refine r_drop ?_
  | with_reducible refine r_ifs ?_
  | with_reducible refine r_var rfl ?_
  | with_reducible refine r_c ?_
  | with_reducible refine r_op ?_
  | with_reducible refine r_un ?_
  | with_reducible refine r_nil ?_
  | with_reducible refine r_cons ?_
  | with_reducible refine r_test ?_
  | with_reducible refine r_tb ?_
  | with_reducible refine r_and ?_
  | with_reducible refine r_or ?_
  | with_reducible refine r_not ?_
  | with_reducible refine r_andV ?_
  | with_reducible refine r_orV ?_
  | with_reducible refine r_notV ?_
  | with_reducible refine r_if ?_
  | with_reducible refine r_chain ?_
  | with_reducible refine r_cl ?_
  | with_reducible refine r_cb ?_
  | with_reducible refine r_bl ?_
  | with_reducible refine r_I0 ?_
  | with_reducible refine r_yes ?_
  | with_reducible refine r_itT ?_
  | with_reducible refine r_itL ?_
  | with_reducible refine r_itS ?_
  | with_reducible refine r_itE ?_
  | with_reducible refine r_revT ?_
  | with_reducible refine r_star ?_
  | with_reducible refine r_for ?_
  | with_reducible refine r_bm ?_
  | with_reducible refine r_bm0 ?_
  | with_reducible refine r_kget1 ?_
  | with_reducible refine r_kget2 ?_
  | with_reducible refine r_par ?_
  | with_reducible refine r_tup ?_
  | with_reducible refine r_lst ?_
  | with_reducible refine r_exI ?_
  | with_reducible refine r_itZ ?_
  | with_reducible refine r_dget ?_
  | with_reducible refine r_dput ?_
  | with_reducible refine r_din ?_
  | with_reducible refine r_dnotin ?_
  | with_reducible refine r_nopart ?_
  | with_reducible refine r_lc ?_
  | with_reducible refine r_sl ?_
  | with_reducible refine r_part ?_
  | with_reducible refine r_eq rfl ?_
  | with_reducible refine r_ne rfl ?_
  | with_reducible refine iteT ?_
  | with_reducible refine iteF ?_
  | with_reducible refine ite_nt ?_
  | with_reducible refine ite_nf ?_)
local macro_rules | `(tactic| walk_at "k") => `(tactic| first
  | walk_at "s"
  | with_reducible refine ite_eqT (by decide +kernel) ?_
  | with_reducible refine ite_eqF (by decide +kernel) ?_)
open LamX
section
variable {P : Program} {w : World} {K : PySem.W.Frag} {mg : Str → Option Value} {base : Heap}
theorem hcl : ("claim_in" : Str) ∈ lamL := List.mem_of_getElem? (i := 0) rfl
/-- the ways of claim_in -/
def spClaimIn (K : PySem.W.Frag) : Sp := fun vs H Q E => ∃ (a : Addr) (v : V) (t : T) (dss : List (List Int)), vs = [.ref a, v] ∧ TR K H t v ∧ t.wds ≤ 20 ∧ t.hgt ≤ 8 ∧ allOwn t = true ∧ DaysAt K H a dss ∧ dss.length ≤ 1000 ∧ (∀ i, (pathsOf (dss.take i)).length ≤ 1000) ∧ Tabs (TT K) H ∧
  (okC dss t = true → ∀ H' p, Fr K [] H H' → SqT K H' p ((claim dss t).map .int) → Q (.ref p) H') ∧ (okC dss t = false → ∀ d H', Fr K [] H H' → E (.ref (He.ga K "BadTerm")) (some d) H')
theorem sc_claim_in : FnScope ["days", "term", "paths", "found", "numbers", "path", "here", "kids", "paid", "spot", "row", "some", "place", "kid", "one"] ["days", "term"] (defScope (top 54)) := ⟨rfl, rfl, rfl, by decide +kernel, rfl, by decide +kernel, by decide +kernel⟩
theorem c_claim_in (fx : Fx K mg w) (lx : Lx K mg base) : CalR P w K mg base 6 "claim_in" (spClaimIn K) := by
  refine fx.d_claim_in.okC (lx.me _ hcl) sc_claim_in (fun vs H Q E q => ?_) (fun _ _ _ _ _ _ us hl => match us, hl with | [_, _], _ => rfl) fun f A outer s H vs Q E hr q => ?_
  · obtain ⟨a, v, t, dss, rfl, _⟩ := q
    rfl
  · obtain ⟨a, v, t, dss, rfl, ht, hw, hg, hown, hday, hl, hb, hT, qok, qbad⟩ := q
    have hu : (A.deeper (envOfC "claim_in" (defScope (top 54)) s.heap.objs.size f (.ref (codA K "claim_in")))).units + 64 < cLine := hr.units
    have hu2 : (A.deeper (envOfC "claim_in" (defScope (top 54)) s.heap.objs.size f (.ref (codA K "claim_in")))).units + 1 < cLine := by omega
    have hru : (A.deeper (envOfC "claim_in" (defScope (top 54)) s.heap.objs.size f (.ref (codA K "claim_in")))).units + 20 < cLine := by omega
    have hrd : (A.deeper (envOfC "claim_in" (defScope (top 54)) s.heap.objs.size f (.ref (codA K "claim_in")))).depth + 4 < recursionLimit := by
      have := hr.dp
      omega
    refine ⟨_, (pss_cons (ps_asg (pe_tup (pa_cons (pe_cr (c_paths_to fx) hr px (pa_cons (pv 1) pa_nil)) (pa_cons pe_dnewT (pa_cons (pe_cr (c_paths_in fx) hr px (pa_cons (pv 0) pa_nil)) pa_nil)))) (pg_tup (n := 3) rfl (pgs_cons (pg_name (i := 2) (x := "paths") sc_claim_in.nd rfl (Or.inl rfl) (.inl rfl)) (pgs_cons (pg_name (i := 3) (x := "found") sc_claim_in.nd rfl (Or.inr rfl) (.inl rfl)) (pgs_cons (pg_name (i := 4) (x := "numbers") sc_claim_in.nd rfl (Or.inl rfl) (.inl rfl)) pgs_nil)))))
    (pss_cons (ps_for PassesOwn.leaving rfl (pi_list (pe_ksort (T := TT K) rfl fx.n_sorted (pv 2) (lx.tb _ hcl) rfl (lx.mem hcl) (lx.uni hcl) (hr.mono (k := 5) (j := 4) (by decide)) hrd hru rfl rfl rfl (by decide +kernel) (by decide +kernel) (by decide +kernel) rfl (fun _ _ _ _ _ _ => rfl))) (pg_name (i := 5) (x := "path") sc_claim_in.nd rfl (Or.inr rfl) (.inl rfl)) (pss_cons (ps_set (i := 6) sc_claim_in.nd rfl (Or.inl rfl) (pe_cr (c_term_at fx) hr px (pa_cons (pv 1) (pa_cons (pv 5) pa_nil))))
      (pss_cons (ps_if (pt_not (pt_val (pe_cr (c_knows_day fx) hr px (pa_cons (pv 0) (pa_cons (pv 6) pa_nil))))) (pss_one (ps_raise rfl (takes_of rfl rfl rfl rfl) (pmk_x fx.x_BadTerm (i_BadTerm fx) (hr.mono (by decide)) passF rfl mono_var (pv 5)))) pss_nil)
      (pss_cons (ps_setLc (i := 7) (own := [("place", 12)]) (g := gName 12) (tt := tYes) (te := tDGet (tVar 3) (tOp (rCatA K) (tVar 5) (tTup (tCons (tVar 12) tNil)))) rfl sc_claim_in.nd rfl rfl (sw_true rfl rfl rfl (by decide +kernel)) (pi_tup (pe_cr (c_places_in fx) hr px (pa_cons (pv 6) pa_nil))) (blkOk_by (N := ["days", "term", "paths", "found", "numbers", "path", "here", "kids", "paid", "spot", "row", "some", "place", "kid", "one"]) (sc := defScope (top 54)) (by decide +kernel)) (fun _ _ _ _ _ => (pg_name (i := 12) (x := "place") sc_claim_in.nd rfl (Or.inl rfl) (.inr rfl))) (fun _ _ _ _ _ => pts_nil) (fun _ _ _ _ _ => (pe_dget hu2 (pv 3) (pe_op op_catA (pv 5) (pe_tup (pa_cons (pv 12) pa_nil))) (fun _ _ => rfl))))
      (pss_cons (ps_set (i := 8) sc_claim_in.nd rfl (Or.inl rfl) (pe_lst pa_nil))
      (pss_cons (ps_for PassesOwn.leaving rfl (pi_enum rfl fx.n_enumerate (pa_cons (pv 4) pa_nil)) (pg_tup (n := 2) rfl (pgs_cons (pg_name (i := 9) (x := "spot") sc_claim_in.nd rfl (Or.inr rfl) (.inl rfl)) (pgs_cons (pg_name (i := 10) (x := "row") sc_claim_in.nd rfl (Or.inl rfl) (.inl rfl)) pgs_nil))) (pss_cons (ps_setLc (i := 11) (own := [("kid", 13)]) (g := gName 13) (tt := tYes) (te := tOp (rIxT K) (tVar 13) (tVar 9)) rfl sc_claim_in.nd rfl rfl (sw_true rfl rfl rfl (by decide +kernel)) (pi_list (pv 7)) (blkOk_by (N := ["days", "term", "paths", "found", "numbers", "path", "here", "kids", "paid", "spot", "row", "some", "place", "kid", "one"]) (sc := defScope (top 54)) (by decide +kernel)) (fun _ _ _ _ _ => (pg_name (i := 13) (x := "kid") sc_claim_in.nd rfl (Or.inl rfl) (.inr rfl))) (fun _ _ _ _ _ => pts_nil) (fun _ _ _ _ _ => (pe_ix ix_tup (pv 13) (pv 9) (fun _ _ => rfl))))
        (pss_one (ps_expr (pe_bm PySem.F.plainAttrs_list PySem.F.slot_list_append PySem.F.type_list_append mt_append (pv 8) (pa_cons (pe_ifExp (pt_cmpR (op_neD hu) (pv 7) (pe_lst pa_nil) (nomark _)) (pe_cr (c_paid_by fx) hr px (pa_cons (pv 6) (pa_cons (pv 10) (pa_cons (pv 11) pa_nil)))) (pe_cr (c_paid_at fx) hr px (pa_cons (pv 6) (pa_cons (pv 10) pa_nil)))) pa_nil))))))
      (pss_cons (ps_if (pt_not (pt_val (pe_callB (cr_all rfl) rfl fx.n_all (by decide +kernel) (pa_cons (pe_lc (own := [("one", 14)]) (g := gName 14) (tt := tYes) rfl sc_claim_in.nd (pi_list (pv 8)) (blkOk_by (N := ["days", "term", "paths", "found", "numbers", "path", "here", "kids", "paid", "spot", "row", "some", "place", "kid", "one"]) (sc := defScope (top 54)) (by decide +kernel)) (fun _ _ _ _ _ => (pg_name (i := 14) (x := "one") sc_claim_in.nd rfl (Or.inl rfl) (.inr rfl))) (fun _ _ _ _ _ => pts_nil) (fun _ _ _ _ _ => (pe_cr (c_is_price fx) hr passL (pa_cons (pv 14) pa_nil)))) pa_nil)))) (pss_one (ps_raise rfl (takes_of rfl rfl rfl rfl) (pmk_x fx.x_BadTerm (i_BadTerm fx) (hr.mono (by decide)) passF rfl mono_var (pv 5)))) pss_nil)
      (pss_one (ps_dput hu2 (pv 3) (pv 5) (pe_callTy call_tuple_of rfl fx.n_tuple (by decide +kernel) (pa_cons (pv 8) pa_nil)) rfl)))))))))
    (pss_one (ps_ret (pe_dget hu2 (pv 3) (pe_tup pa_nil) (fun _ _ => rfl)))))), ?_⟩
    repeat walk_at "k"
    refine ⟨v, rfl, .inr ⟨t, ht, hw, hg, fun _ H1 P as e1 hP h1 hrows => ?_, fun pth hbad => absurd hbad (firstBad_none hown)⟩⟩
    repeat walk_at "k"
    refine fun F hF => ?_
    have eF := Ext.new (o := .dT []) hF
    repeat walk_at "k"
    refine ⟨a, dss, rfl, hday.tk (e1.trans eF).tk, hl, hb, fun H2 N nas e2 hN h2 hnums => ?_⟩
    repeat walk_at "k"
    refine ⟨by show 3 ≤ sizeLine; decide, fun tp htp => ?_⟩
    have e3 := Ext.new (o := .tup [.ref P, .ref F, .ref N]) htp
    have eA := ((e1.trans eF).trans e2).trans e3
    refine ⟨tp, _, rfl, .inl (.inl upd_same), rfl, _, _, rfl, r_gname ⟨_, _, rfl, r_gname ⟨_, _, rfl, r_gname ⟨rfl, ?_⟩⟩⟩⟩
    have hP3 : upd H2 tp (.tup [.ref P, .ref F, .ref N]) P = some (.lst (as.map .ref)) := e3 _ _ (e2 _ _ (eF _ _ h1))
    have hF3 : upd H2 tp (.tup [.ref P, .ref F, .ref N]) F = some (.dT []) := e3 _ _ (e2 _ _ upd_same)
    have hN3 : upd H2 tp (.tup [.ref P, .ref F, .ref N]) N = some (.lst (nas.map .ref)) := e3 _ _ h2
    have hrows3 := hrows.tk (K := K) ((eF.trans e2).trans e3).tk
    have hnums3 := hnums.tk e3.tk
    have nF : H F = none := e1.none hF
    have hT3 := hT.ext eA
    generalize upd H2 tp (.tup [.ref P, .ref F, .ref N]) = H3 at eA hP3 hF3 hN3 hrows3 hnums3 hT3 ⊢
    clear e3 htp h2 hnums e2 hN eF hF h1 hrows e1 hP
    repeat walk_at "k"
    have hlen := Paired.length hrows3
    have hpl : (prePaths t).length ≤ 20 := by
      unfold prePaths
      rw [List.length_map, preN_len]
      exact hw
    have hzs : ∀ b ∈ as.zip (prePaths t), H3 b.1 = some (.tup (b.2.map .int)) := paired_zip hrows3
    have hsub : ∀ b ∈ as.zip (prePaths t), ∃ u, (b.2, u) ∈ preN t [] ∧ subAt t b.2 = some u ∧ b.2.length + u.hgt ≤ t.hgt := fun b hb => by
      obtain ⟨e, he, hb2⟩ := List.mem_map.mp (show b.2 ∈ (preN t []).map (·.1) from (List.of_mem_zip hb).2)
      obtain ⟨r, h1, h2, h3⟩ := preN_sub t [] e he
      have h4 : b.2 = r := by rw [← hb2, h1]; rfl
      exact ⟨e.2, by rw [← hb2]; exact he, by rw [h4]; exact h2, by rw [h4]; exact h3⟩
    refine ⟨_, rfl, hT3, P, as.zip (prePaths t), rfl, ?_, fun b hb => .inl (.inl (hzs b hb)), by rw [List.length_zip]; omega, fun b hb => ?_, fun H4 eN4 T4 p hp => ?_⟩
    · have : (as.zip (prePaths t)).map (fun b => V.ref b.1) = as.map .ref := by
        conv => rhs; rw [← zip_fst hlen, List.map_map]
        rfl
      rw [this]
      exact .inl (.inl hP3)
    · obtain ⟨u, _, _, h3⟩ := hsub b hb
      omega
    refine ⟨p, rfl, ⟨_, .inl (.inl upd_same)⟩, ?_⟩
    have fr4 : Fr K [F] H3 (upd H4 p (.lst (((as.zip (prePaths t)).mergeSort fun b c => decide (b.2 ++ [9] ≤ c.2 ++ [9])).map fun b => V.ref b.1))) := (Fr.ofN eN4 T4).trans (Ext.new hp).fr
    have hp5 : (upd H4 p (.lst (((as.zip (prePaths t)).mergeSort fun b c => decide (b.2 ++ [9] ≤ c.2 ++ [9])).map fun b => V.ref b.1))) p = some (.lst (((as.zip (prePaths t)).mergeSort fun b c => decide (b.2 ++ [9] ≤ c.2 ++ [9])).map fun b => V.ref b.1)) := upd_same
    have hF5 : (upd H4 p (.lst (((as.zip (prePaths t)).mergeSort fun b c => decide (b.2 ++ [9] ≤ c.2 ++ [9])).map fun b => V.ref b.1))) F = some (.dT []) := (Ext.new hp) _ _ (eN4 _ _ hF3 fun ps z => by cases z)
    have hord : ∀ (i : Nat) (b c : Addr × List Int), ((as.zip (prePaths t)).mergeSort fun b c => decide (b.2 ++ [9] ≤ c.2 ++ [9]))[i]? = some b → c ∈ as.zip (prePaths t) → ¬ (b.2 ++ [9] ≤ c.2 ++ [9]) → ∃ j, j < i ∧ ((as.zip (prePaths t)).mergeSort fun b c => decide (b.2 ++ [9] ≤ c.2 ++ [9]))[j]? = some c := fun i b c h1 h2 h3 => sorted_before h1 h2 h3
    have hmem : ∀ b, b ∈ ((as.zip (prePaths t)).mergeSort fun b c => decide (b.2 ++ [9] ≤ c.2 ++ [9])) ↔ b ∈ as.zip (prePaths t) := fun b => List.mem_mergeSort
    have hLl : ((as.zip (prePaths t)).mergeSort fun b c => decide (b.2 ++ [9] ≤ c.2 ++ [9])).length ≤ 20 := by
      rw [List.length_mergeSort, List.length_zip]
      omega
    generalize ((as.zip (prePaths t)).mergeSort fun b c => decide (b.2 ++ [9] ≤ c.2 ++ [9])) = L at fr4 hp5 hF5 hord hmem hLl ⊢
    generalize upd H4 p (.lst (L.map fun b => V.ref b.1)) = H5 at fr4 hp5 hF5 ⊢
    have npF : p ≠ F := ne_of hp5 hF5 fun z => by cases z
    have nNF : N ≠ F := ne_of hN3 hF3 fun z => by cases z
    refine for_it walk_list (fun i σ' H' => Fr K [F] H5 H' ∧ ∃ (kvs : List (List Key × V)) (o5 o6 o7 o8 o9 o10 o11 o12 o13 o14 : Option V), σ' = [some (.ref a), some v, some (.ref P), some (.ref F), some (.ref N), o5, o6, o7, o8, o9, o10, o11, o12, o13, o14] ∧ H' F = some (.dT kvs) ∧ kvs.length ≤ i ∧
      ∀ j, j < i → ∀ e, L[j]? = some e → ∃ u b, (e.2, u) ∈ preN t [] ∧ nodeGood dss u = true ∧ valV kvs (e.2.map .inl) = some (.ref b) ∧ SqT K H' b ((claim dss u).map .int))
      ⟨Fr.refl _, [], none, none, none, none, none, none, none, none, none, none, rfl, hF5, Nat.le_refl _, fun j hj => absurd hj (Nat.not_lt_zero _)⟩ (fun i σ' H' _ z => .inl (.inl (z.1.lst (by simpa using npF) hp5))) (fun i x σ' Hb Ha hi z yy => ?_) fun σ' H' z => ?_
    · obtain ⟨fr, kvs, o5, o6, o7, o8, o9, o10, o11, o12, o13, o14, rfl, hFa, hkl, hdone⟩ := z
      obtain ⟨rfl, hx⟩ := yy
      rw [List.getElem?_map] at hx
      obtain ⟨⟨pa, pth⟩, hLi, rfl⟩ := Option.map_eq_some_iff.mp hx
      have hbm := (hmem _).mp (List.mem_of_getElem? hLi)
      obtain ⟨u, hu1, hu2', hu3⟩ := hsub _ hbm
      have hpa : Ha pa = some (.tup (pth.map .int)) := fr.tk.tp _ _ (fr4.tk.tp _ _ (hzs _ hbm))
      have frA : Fr K [F] H Ha := (eA.fr.trans fr4).trans fr
      refine r_gname ?_
      repeat walk_at "k"
      refine ⟨v, pa, t, u, pth, rfl, ht.tk frA.tk, .inl (.inl hpa), hu2', fun x hx => ?_⟩
      repeat walk_at "k"
      obtain ⟨ds, hds, hdl⟩ := hday.len
      refine ⟨a, ds, x, u, rfl, frA.tup hds, hx, fun H6 e6 => ?_⟩
      rw [hdl]
      repeat walk_at "k"
      cases hk : knowsD dss.length u with
      | false =>
        repeat walk_at "k"
        refine r_raiseV rfl fun d H7 e7 hd hx7 => qbad (okC_no hu1 (by unfold nodeGood; rw [hk]; rfl)) d H7 ((frA.trans (e6.trans e7).fr).drop nF)
      | true =>
        repeat walk_at "k"
        have hx6 := TR.tk e6.tk hx
        have fr6 : Fr K [F] H5 H6 := fr.trans e6.fr
        have hF6 := e6 _ _ hFa
        have hpa6 := e6 _ _ hpa
        clear hx
        have hkid : ∀ k ∈ u.kids, ∃ b, valV kvs ((pth ++ [k.1]).map .inl) = some (.ref b) ∧ SqT K H6 b ((claim dss k.2).map .int) := fun k hk => by
          have h1 := preN_kid t [] _ hu1 k hk
          obtain ⟨ka, hka⟩ := zip_has hlen (pth ++ [k.1]) (List.mem_map.mpr ⟨_, h1, rfl⟩)
          obtain ⟨j, hj, hj2⟩ := hord i (pa, pth) (ka, pth ++ [k.1]) hLi hka (le_kid pth (by have := (kids_small u k hk).2; omega))
          obtain ⟨u', b, g1, g2, g3, g4⟩ := hdone j hj _ hj2
          have h5 : u' = k.2 := preN_one g1 h1 rfl
          rw [h5] at g4
          exact ⟨b, g3, e6.tup g4⟩
        refine ⟨x, u, rfl, hx6, fun H7 q7 e7 hq7 => ?_⟩
        refine ⟨q7, rfl, ⟨_, hq7⟩, fun D hD => ?_⟩
        have hkn : (u.places.map V.int).length = u.kids.length := by rw [List.length_map, T.places, List.length_map]
        have hk2 : u.kids.length ≤ 2 := by cases u <;> simp [T.kids]
        refine lc_rel (K := K) walk_tup hD (by rw [hkn]; omega) (fun H8 e8 => e8.tup hq7) (fun j acc H8 => ∃ cs : List Addr, acc = cs.map .ref ∧ Rows K H8 cs ((u.kids.take j).map fun k => claim dss k.2)) ⟨[], rfl, .nil⟩ (fun j acc H8 H9 k8 z => ?_) yAt_ext (fun j y H8 acc H9 hj e8 k8 hD9 z yy Kt Kf hKt _ => ?_) fun H8 acc e8 hD8 z => ?_
        · obtain ⟨cs, h1, h2⟩ := z
          exact ⟨cs, h1, h2.tk k8⟩
        · obtain ⟨cs, rfl, hcs⟩ := z
          obtain ⟨rfl, hy⟩ := yy
          rw [List.getElem?_map] at hy
          obtain ⟨pl, hpl, rfl⟩ := Option.map_eq_some_iff.mp hy
          rw [T.places, List.getElem?_map] at hpl
          obtain ⟨k, hk0, rfl⟩ := Option.map_eq_some_iff.mp hpl
          have hkm := List.mem_of_getElem? hk0
          have eX := e7.trans e8
          refine r_gname ⟨rfl, ?_⟩
          repeat walk_at "k"
          refine ⟨by show 1 ≤ sizeLine; decide, fun z1 hz1 => ?_⟩
          have eY := eX.trans (Ext.new (o := .tup [.int k.1]) hz1)
          refine ⟨pa, z1, pth.map .int, [.int k.1], rfl, rfl, .inl (.inl (eY _ _ hpa6)), .inl (.inl upd_same), ?_, fun hnil => ?_, fun _ h0 => absurd h0 (by simp), fun hne _ z2 hz2 => ?_⟩
          · rw [List.length_map, sizeLine_eq]
            show pth.length + 1 ≤ _
            have := hu3
            show pth.length + 1 ≤ _
            have h9 : pth.length + u.hgt ≤ t.hgt := hu3
            omega
          · have hp0 : pth = [] := List.map_eq_nil_iff.mp hnil
            obtain ⟨b, hb1, hb2⟩ := hkid k hkm
            have hg := DGet.t (k := (pth ++ [k.1]).map Sum.inl) (eY _ _ hF6) (b := z1) (by rw [upd_same, kv_path, hp0]; rfl)
            rw [hb1] at hg
            refine ⟨F, _, rfl, hg, hKt _ _ (Ext.new hz1) ⟨cs ++ [b], by simp, ?_⟩⟩
            rw [take_succ_get hk0, List.map_append]
            exact paired_snoc (b := claim dss k.2) (eY.tup hb2) (hcs.tk (Ext.new hz1).tk)
          · obtain ⟨b, hb1, hb2⟩ := hkid k hkm
            have eZ := eY.trans (Ext.new (o := .tup (pth.map V.int ++ [.int k.1])) hz2)
            have hg := DGet.t (k := (pth ++ [k.1]).map Sum.inl) (eZ _ _ hF6) (b := z2) (by rw [upd_same, kv_path, List.map_append]; rfl)
            rw [hb1] at hg
            refine ⟨F, _, rfl, hg, hKt _ _ ((Ext.new hz1).trans (Ext.new hz2)) ⟨cs ++ [b], by simp, ?_⟩⟩
            rw [take_succ_get hk0, List.map_append]
            exact paired_snoc (b := claim dss k.2) (eZ.tup hb2) (hcs.tk ((Ext.new hz1).trans (Ext.new hz2)).tk)
        · obtain ⟨cs, rfl, hcs⟩ := z
          rw [hkn, List.take_length] at hcs
          have fr8 : Fr K [F] H5 H8 := fr6.trans (e7.trans e8).fr
          have hF8 := (e7.trans e8) _ _ hF6
          have hpa8 := (e7.trans e8) _ _ hpa6
          have hx8 := TR.tk (e7.trans e8).tk hx6
          have e68 := e6.trans (e7.trans e8)
          clear hkid hq7 hD e7 e8 hx6 hpa6 hF6 fr6 hdl hds
          repeat walk_at "k"
          refine ⟨by decide, fun G hG => ?_⟩
          have hNF' : N ∉ [F] := by simpa using nNF
          have hN8 : H8 N = some (.lst (nas.map .ref)) := fr8.lst hNF' (fr4.lst hNF' hN3)
          have hnums8 := (hnums3.tk (K := K) fr4.tk).tk fr8.tk
          have eG := Ext.new (o := .lst []) hG
          have fr9 : Fr K [F] H5 (upd H8 G (.lst [])) := fr8.trans eG.fr
          have nGF : G ≠ F := (ne_of_none hF8 hG).symm
          have nGN : N ≠ G := ne_of_none hN8 hG
          have nGD : D ≠ G := ne_of_none hD8 hG
          have hF9 := eG _ _ hF8
          have hpa9 := eG _ _ hpa8
          have hx9 := TR.tk eG.tk hx8
          have hN9 := eG _ _ hN8
          have hD9 := eG _ _ hD8
          have hcs9 := hcs.tk (K := K) eG.tk
          have hnums9 := hnums8.tk (K := K) eG.tk
          have hG9 : (upd H8 G (.lst [])) G = some (.lst []) := upd_same
          have n8 : H8 G = none := hG
          have e69 := e68.trans eG
          have hout : ∀ H', Fr K [G] (upd H8 G (.lst [])) H' → Fr K [F] H5 H' := fun H' z => fr8.out hG (z.more fun b h => by rw [List.mem_singleton.mp h]; exact List.mem_cons_self)
          generalize upd H8 G (.lst []) = H9 at hout fr9 hF9 hpa9 hx9 hN9 hD9 hcs9 hnums9 hG9 e69 ⊢
          clear eG hcs hD8 hF8 hpa8 hx8 hN8 hnums8 fr8 e68 hG
          have hnl := Paired.length hnums9
          have hb0 : (pathsOf dss).length ≤ 1000 := by
            have := hb dss.length
            rwa [List.take_length] at this
          repeat walk_at "k"
          refine ⟨N, _, rfl, .inl (.inl hN9), ?_⟩
          refine for_it walk_enum (fun m σ' H' => Fr K [G] H9 H' ∧ ∃ (o9 o10 o11 o12 o13 o14 : Option V), σ' = [some (.ref a), some v, some (.ref P), some (.ref F), some (.ref N), some (.ref pa), some x, some (.ref D), some (.ref G), o9, o10, o11, o12, o13, o14] ∧ H' G = some (.lst (((pathsOf dss).take m).map fun row => .int (pay u row))))
            ⟨Fr.refl _, _, _, _, _, _, _, rfl, by simpa using hG9⟩ (fun m σ' H' _ z => .inl (.inl (z.1.lst (by simpa using nGN) hN9))) (fun m y σ' Hc Hd hm z yy => ?_) fun σ' H' z => ?_
          · obtain ⟨frc, p9, p10, p11, p12, p13, p14, rfl, hGc⟩ := z
            obtain ⟨T, y1, y2, rfl, hT, rfl, hy1, hy2⟩ := yy
            cases hy1
            replace hy2 : (nas.map V.ref)[m]? = some y2 := hy2
            rw [List.getElem?_map] at hy2
            obtain ⟨ra, hra, rfl⟩ := Option.map_eq_some_iff.mp hy2
            obtain ⟨row, hrow, hrt⟩ := paired_get hnums9 m ra hra
            have eT := Ext.new (o := .tup [.int (m : Nat), .ref ra]) hT
            have frd : Fr K [G] H9 (upd Hc T (.tup [.int (m : Nat), .ref ra])) := frc.trans eT.fr
            have hGd := eT _ _ hGc
            refine ⟨T, _, rfl, .inl (.inl upd_same), rfl, _, _, rfl, r_gname ⟨_, _, rfl, r_gname ⟨rfl, ?_⟩⟩⟩
            generalize upd Hc T (.tup [.int (m : Nat), .ref ra]) = Hd at frd hGd ⊢
            have hDd := frd.lst (by simpa using nGD) hD9
            have hcsd := hcs9.tk (K := K) frd.tk
            repeat walk_at "k"
            refine ⟨D, rfl, ⟨_, .inl (.inl hDd)⟩, fun D2 hD2 => lc_vals (K := K) walk_list hD2 (by rw [List.length_map, Paired.length hcsd, List.length_map]; omega) (fun He e => .inl (.inl (e _ _ hDd))) (fun j => .int ((payKids u row)[j]?.getD 0)) yAt_ext (fun j y He Hf hj e yy Kt hk2 => ?_) fun He e hl => ?_⟩
            · obtain ⟨_, hy⟩ := yy
              rw [List.getElem?_map] at hy
              obtain ⟨b, hb1, rfl⟩ := Option.map_eq_some_iff.mp hy
              obtain ⟨ns, hns, hbt⟩ := paired_get hcsd j b hb1
              rw [List.getElem?_map] at hns
              obtain ⟨k, hk1, rfl⟩ := Option.map_eq_some_iff.mp hns
              have hpk : (payKids u row)[j]? = some (pay k.2 row) := by
                unfold payKids
                rw [List.getElem?_map, hk1]
                rfl
              rw [hpk] at hk2
              refine r_gname ⟨rfl, ?_⟩
              repeat walk_at "k"
              refine r_ixT (e.tup hbt) (atI_nat (j := m) (v := .int (pay k.2 row)) ?_) (hk2 _ (Ext.refl _))
              unfold claim
              rw [List.getElem?_map, List.getElem?_map, hrow]
              rfl
            · have hl2 : He D2 = some (.lst ((payKids u row).map V.int)) := by
                rw [hl]
                have h1 : (cs.map V.ref).length = (payKids u row).length := by rw [List.length_map, Paired.length hcsd, List.length_map]; unfold payKids; rw [List.length_map]
                rw [h1]
                exact congrArg (fun z => some (HO.lst z)) (map_range_get (payKids u row) V.int _ fun j n hn => by rw [hn]; rfl)
              have fre : Fr K [G] H9 He := frd.trans e.fr
              have hGe := e _ _ hGd
              have hDe := e _ _ hDd
              have hcse := hcsd.tk (K := K) e.tk
              have hxe := TR.tk fre.tk hx9
              have hrte := fre.tk _ _ hrt
              clear hcsd hDd hGd e frd hl
              repeat walk_at "k"
              refine ⟨tyL hGe, ?_⟩
              repeat walk_at "k"
              refine ⟨by decide, fun pe hpe => ?_⟩
              have ee := Ext.new (o := .lst []) hpe
              refine ⟨.list _, .list [], .lst (.inl (.inl (ee _ _ hDe))) (dp_rowsL (hcse.tk ee.tk)), .lst (.inl (.inl upd_same)) .nil, shaped_rowsL _, by decide +kernel, ?_⟩
              rw [eqv_nilL]
              have hrl : row.length = dss.length := pathsOf_len _ _ (List.mem_of_getElem? hrow)
              obtain ⟨hn1, hn2⟩ := good_node (e := (pth, u)) hown hu1 hk hrl
              have fin : ∀ H', Ext (upd He pe (.lst [])) H' → rAppend (.ref G) [.int (pay u row)] H' fun _ H1 => Fr K [G] H9 H1 ∧ ∃ (o9 o10 o11 o12 o13 o14 : Option V), [some (.ref a), some v, some (.ref P), some (.ref F), some (.ref N), some (.ref pa), some x, some (.ref D), some (.ref G), some (.int (m : Nat)), some (.ref ra), some (.ref D2), p12, p13, p14] = [some (.ref a), some v, some (.ref P), some (.ref F), some (.ref N), some (.ref pa), some x, some (.ref D), some (.ref G), o9, o10, o11, o12, o13, o14] ∧ H1 G = some (.lst (((pathsOf dss).take (m + 1)).map fun row => .int (pay u row))) := fun H' e' => by
                have hG' := e' _ _ (ee _ _ hGe)
                refine ⟨G, _, _, rfl, rfl, hG', by rw [List.length_map, List.length_take, sizeLine_eq]; omega, (fre.trans (ee.trans e').fr).trans (Fr.putL hG' (by simp)), _, _, _, _, _, _, rfl, ?_⟩
                rw [upd_same, take_succ_get hrow, List.map_append]
                rfl
              repeat walk_at "k"
              refine ite_bn (fun h => ?_) fun h => ?_
              · have hk0 : u.kids = [] := by simpa using h
                repeat walk_at "k"
                refine ⟨x, ra, u, row, rfl, hxe.tk ee.tk, ee.tup hrte, by omega, hn1 hk0, fun H' e' => ?_⟩
                repeat walk_at "k"
                exact fin H' e'
              · have hk0 : u.kids ≠ [] := by simpa using h
                repeat walk_at "k"
                refine ⟨x, ra, D2, u, row, rfl, hxe.tk ee.tk, ee.tup hrte, .inl (.inl (ee _ _ hl2)), hn2 hk0, ?_⟩
                repeat walk_at "k"
                exact fin _ (Ext.refl _)
          · obtain ⟨frc, p9, p10, p11, p12, p13, p14, rfl, hGc⟩ := z
            rw [List.length_map, hnl, List.take_length] at hGc
            have frE := hout _ frc
            have hFE : H' F = some (.dT kvs) := frc.kp _ _ (by simpa using nGF.symm) hF9 fun _ z => by cases z
            have hpaE := frc.tk.tp _ _ hpa9
            have frAE : Fr K [F] H H' := (eA.fr.trans fr4).trans frE
            have f69 : Fr K [G] Ha H' := e69.fr.trans frc
            clear frc hx9 hF9 hpa9 hN9 hD9 hcs9 hnums9 hG9 hout
            repeat walk_at "k"
            refine ⟨G, rfl, ⟨_, .inl (.inl hGc)⟩, fun D3 hD3 => lc_vals (K := K) walk_list hD3 (by rw [List.length_map]; omega) (fun He e => .inl (.inl (e _ _ hGc))) (fun j => .bl (priceOk (pay u ((pathsOf dss)[j]?.getD [])))) yAt_ext (fun j y He Hf hj e yy Kt hk2 => ?_) fun He e hl => ?_⟩
            · obtain ⟨_, hy⟩ := yy
              rw [List.getElem?_map] at hy
              obtain ⟨row, hrow, rfl⟩ := Option.map_eq_some_iff.mp hy
              rw [hrow] at hk2
              refine r_gname ⟨rfl, ?_⟩
              repeat walk_at "k"
              exact ⟨_, rfl, hk2 _ (Ext.refl _)⟩
            · have hl2 : He D3 = some (.lst (((pathsOf dss).map fun row => priceOk (pay u row)).map V.bl)) := by
                rw [hl, List.length_map, List.map_map]
                exact congrArg (fun z => some (HO.lst z)) (map_range_get (pathsOf dss) _ _ fun j row hr => by rw [hr]; rfl)
              repeat walk_at "k"
              refine r_all (.inl (.inl hl2)) ?_
              have hGe := e _ _ hGc
              have hFe := e _ _ hFE
              have hpae := e _ _ hpaE
              have fre := frE.trans (e.fr (K := K) (B := [F]))
              rw [List.all_map]
              cases hpr : (pathsOf dss).all (id ∘ fun row => priceOk (pay u row)) with
              | false =>
                repeat walk_at "k"
                refine r_raiseV rfl fun d H7 e7 hd hx7 => qbad (okC_no hu1 (by unfold nodeGood; rw [hk, Bool.true_and]; exact hpr)) d H7 ((frAE.trans (e.trans e7).fr).drop nF)
              | true =>
                repeat walk_at "k"
                refine ⟨G, _, rfl, .inl ⟨.inl (.inl hGe), fun l hl => ?_⟩⟩
                have el := Ext.new (o := .tup ((pathsOf dss).map fun row => V.int (pay u row))) hl
                have hFl := el _ _ hFe
                repeat walk_at "k"
                refine ⟨F, _, rfl, DPut.t (k := pth.map .inl) hFl (by rw [kv_path]; exact el _ _ hpae) (by rw [sizeLine_eq]; rw [List.length_map] at hi; omega), ?_⟩
                have kput : Fr K [F] _ (upd (upd He l (.tup ((pathsOf dss).map fun row => V.int (pay u row)))) F (.dT (putK kvs (pth.map .inl) (.ref l)))) := Fr.putT hFl (by simp)
                have hlt : SqT K (upd (upd He l (.tup ((pathsOf dss).map fun row => V.int (pay u row)))) F (.dT (putK kvs (pth.map .inl) (.ref l)))) l ((claim dss u).map .int) := kput.tk _ _ (.inl (.inl (by rw [upd_same]; unfold claim; rw [List.map_map]; rfl)))
                have hgood : nodeGood dss u = true := by unfold nodeGood; rw [hk, Bool.true_and]; exact hpr
                have f6a : TK K Ha _ := (f69.tk.trans e.tk).trans (el.tk.trans kput.tk)
                refine ⟨(fre.trans el.fr).trans kput, _, _, _, _, _, _, _, _, _, _, _, rfl, upd_same, by have := length_putK kvs (pth.map .inl) (.ref l); omega, fun j hj e' he' => ?_⟩
                rw [valV_put]
                by_cases hpe : e'.2 = pth
                · refine ⟨u, l, by rw [hpe]; exact hu1, hgood, by rw [if_pos (by rw [hpe])], hlt⟩
                · have hji : j < i := by
                    rcases Nat.lt_or_ge j i with h | h
                    · exact h
                    · have : j = i := by omega
                      rw [this, hLi] at he'
                      rw [← Option.some.inj he'] at hpe
                      exact absurd rfl hpe
                  obtain ⟨u', b, g1, g2, g3, g4⟩ := hdone j hji e' he'
                  refine ⟨u', b, g1, g2, ?_, f6a _ _ g4⟩
                  rw [if_neg (fun z => hpe ((List.map_inj_right fun x y h => Sum.inl.inj h).mp z))]
                  exact g3
    · obtain ⟨fr, kvs, o5, o6, o7, o8, o9, o10, o11, o12, o13, o14, rfl, hFa, hkl, hdone⟩ := z
      rw [List.length_map] at hdone
      have hall : ∀ e ∈ preN t [], ∃ b, nodeGood dss e.2 = true ∧ valV kvs (e.1.map .inl) = some (.ref b) ∧ SqT K H' b ((claim dss e.2).map .int) := fun e he => by
        obtain ⟨ka, hka⟩ := zip_has hlen e.1 (List.mem_map.mpr ⟨_, he, rfl⟩)
        obtain ⟨j, hj, hj2⟩ := List.mem_iff_getElem.mp ((hmem _).mpr hka)
        obtain ⟨u, b, g1, g2, g3, g4⟩ := hdone j hj (ka, e.1) (by rw [List.getElem?_eq_getElem hj, hj2])
        have h5 : u = e.2 := preN_one g1 he rfl
        rw [h5] at g2 g4
        exact ⟨b, g2, g3, g4⟩
      obtain ⟨b, hb1, hb2, hb3⟩ := hall ([], t) (mem_preN.mpr (.inl rfl))
      repeat walk_at "k"
      refine ⟨by decide, fun z hz => ?_⟩
      repeat walk_at "k"
      have ez := Ext.new (o := .tup []) hz
      have hg := DGet.t (k := []) (ez _ _ hFa) (b := z) upd_same
      rw [show valV kvs [] = some (.ref b) from hb2] at hg
      refine ⟨F, _, rfl, hg, ?_⟩
      exact qok (List.all_eq_true.mpr fun e he => (hall e he).choose_spec.1) _ b ((((eA.fr.trans fr4).trans fr).trans ez.fr).drop nF) (ez.tup hb3)
end
end
section
open PySem Spec PyProof.Rows L2
local macro_rules | `(tactic| walk_at "s") => `(tactic| first
  | with_reducible refine r_seq ?_
  | with_reducible refine r_next ?_
  | with_reducible refine r_asg ?_
  | with_reducible refine r_gname ?_
  | with_reducible refine r_ret ?_
  | with_reducible refine r_drop ?_
  | with_reducible refine r_ifs ?_
  | with_reducible refine r_var rfl ?_
  | with_reducible refine r_c ?_
  | with_reducible refine r_op ?_
  | with_reducible refine r_un ?_
  | with_reducible refine r_nil ?_
  | with_reducible refine r_cons ?_
  | with_reducible refine r_test ?_
  | with_reducible refine r_tb ?_
  | with_reducible refine r_and ?_
  | with_reducible refine r_or ?_
  | with_reducible refine r_not ?_
  | with_reducible refine r_andV ?_
  | with_reducible refine r_orV ?_
  | with_reducible refine r_notV ?_
  | with_reducible refine r_if ?_
  | with_reducible refine r_chain ?_
  | with_reducible refine r_cl ?_
  | with_reducible refine r_cb ?_
  | with_reducible refine r_bl ?_
  | with_reducible refine r_I0 ?_
  | with_reducible refine r_yes ?_
  | with_reducible refine r_itT ?_
  | with_reducible refine r_itL ?_
  | with_reducible refine r_itS ?_
  | with_reducible refine r_itE ?_
  | with_reducible refine r_revT ?_
  | with_reducible refine r_star ?_
  | with_reducible refine r_for ?_
  | with_reducible refine r_bm ?_
  | with_reducible refine r_bm0 ?_
  | with_reducible refine r_kget1 ?_
  | with_reducible refine r_kget2 ?_
  | with_reducible refine r_par ?_
  | with_reducible refine r_tup ?_
  | with_reducible refine r_lst ?_
  | with_reducible refine r_exI ?_
  | with_reducible refine r_itZ ?_
  | with_reducible refine r_dget ?_
  | with_reducible refine r_dput ?_
  | with_reducible refine r_din ?_
  | with_reducible refine r_dnotin ?_
  | with_reducible refine r_nopart ?_
  | with_reducible refine r_lc ?_
  | with_reducible refine r_sl ?_
  | with_reducible refine r_part ?_
  | with_reducible refine r_eq rfl ?_
  | with_reducible refine r_ne rfl ?_
  | with_reducible refine iteT ?_
  | with_reducible refine iteF ?_
  | with_reducible refine ite_nt ?_
  | with_reducible refine ite_nf ?_)
local macro_rules | `(tactic| walk_at "k") => `(tactic| first
  | walk_at "s"
  | with_reducible refine ite_eqT (by decide +kernel) ?_
  | with_reducible refine ite_eqF (by decide +kernel) ?_)
open LamX
/-- a body whose calls may let out what the wish W takes -/
theorem pss_ex {X : Cx} {body : List Stmt} {W : WX} {t : XK → TS} (h : ∀ E' : XK, (∀ cls d σ' H', E' cls d H' → W cls d σ' H') → PSs X body (t E')) : PSs X body (fun D σ H => ∃ E' : XK, (∀ cls d σ' H', E' cls d H' → W cls d σ' H') ∧ t E' D σ H) :=
  ⟨fun pins s σ H D I ⟨E', hW, q⟩ => (h E' hW).run pins s σ H D I q⟩
section
variable {P : Program} {w : World} {K : PySem.W.Frag} {mg : Str → Option Value} {base : Heap}
/-- the ways of claim_or_none -/
def spClaimOr (K : PySem.W.Frag) : Sp := fun vs H Q _ => ∃ (a : Addr) (v : V) (t : T) (dss : List (List Int)), vs = [.ref a, v] ∧ TR K H t v ∧ t.wds ≤ 20 ∧ t.hgt ≤ 8 ∧ allOwn t = true ∧ DaysAt K H a dss ∧ dss.length ≤ 1000 ∧ (∀ i, (pathsOf (dss.take i)).length ≤ 1000) ∧ Tabs (TT K) H ∧
  (okC dss t = true → ∀ H' p, Fr K [] H H' → SqT K H' p ((claim dss t).map .int) → Q (.ref p) H') ∧ (okC dss t = false → ∀ H', Fr K [] H H' → Q .non H')
theorem sc_claim_or_none : FnScope ["days", "term"] ["days", "term"] (defScope (top 57)) := ⟨rfl, rfl, rfl, by decide +kernel, rfl, by decide +kernel, by decide +kernel⟩
theorem c_claim_or_none (fx : Fx K mg w) (lx : Lx K mg base) : CalR P w K mg base 7 "claim_or_none" (spClaimOr K) := by
  refine fx.d_claim_or_none.ok sc_claim_or_none (fun vs H Q E q => ?_) (fun _ _ _ _ _ _ us hl => match us, hl with | [_, _], _ => rfl) fun f cdv A outer s H vs Q E hr q => ?_
  · obtain ⟨a, v, t, dss, rfl, _⟩ := q
    rfl
  · obtain ⟨a, v, t, dss, rfl, ht, hw, hg, hown, hday, hl, hb, hT, qok, qbad⟩ := q
    refine ⟨_, pss_one (ps_try_only (c := .ref (He.ga K "BadTerm")) (tb := fun W D σ H => ∃ E' : XK, (∀ cls d σ' H', E' cls d H' → W cls d σ' H') ∧ tRet (tCl (spClaimIn K) E' (tCons (tVar 0) (tCons (tVar 1) tNil))) D σ H) rfl rfl ⟨rfl, by decide, .inl fx.x_BadTerm.m⟩ (takes_of rfl rfl rfl rfl) (fun W pn xe tk _ => pss_ex fun E' hW => pss_one (ps_ret (pe_cr (c_claim_in fx lx) hr (passes_call tk hW) (pa_cons (pv 0) (pa_cons (pv 1) pa_nil))))) (fun a oe cls d pn _ _ => pss_one (ps_ret pe_non))), ?_⟩
    refine ⟨fun cls _ H' => cls = .ref (He.ga K "BadTerm") ∧ Q .non H', fun cls d σ' H' z => ?_, ?_⟩
    · obtain ⟨rfl, z⟩ := z
      refine ⟨true, ?_, fun _ a _ => z, fun h => by cases h⟩
      exact ((fx.exm "BadTerm" (List.mem_of_getElem? (i := 2) rfl) "BadTerm" (List.mem_of_getElem? (i := 2) rfl)).1).trans (by rw [decide_eq_true rfl])
    · repeat walk_at "k"
      exact ⟨a, v, t, dss, rfl, ht, hw, hg, hown, hday, hl, hb, hT, qok, fun h d H' fr => ⟨rfl, qbad h H' fr⟩⟩
end
end
section
open PySem Spec PyProof.Rows L2
open LamX
/-! ### what stands on a shelf: names and terms, in the order in which they came -/
abbrev Own : Type := List (Str × T)
def lookN (own : Own) (l : Str) : Option T := (own.find? fun e => decide (e.1 = l)).map (·.2)
def putN (own : Own) (l : Str) (t : T) : Own := if (own.any fun e => decide (e.1 = l)) = true then own.map fun e => if e.1 = l then (e.1, t) else e else own ++ [(l, t)]
def dropN (own : Own) (l : Str) : Own := own.filter fun e => decide (e.1 ≠ l)
abbrev OwnV (K : PySem.W.Frag) (H : Hp) : List (Key × V) → Own → Prop := Paired fun q p => q.1 = .inr p.1 ∧ TR K H p.2 q.2
/-- the dict at D -/
def DictN (K : PySem.W.Frag) (H : Hp) (D : Addr) (own : Own) : Prop := ∃ kvs, H D = some (.dK kvs) ∧ OwnV K H kvs own
/-- the shelf at s, its dict at D -/
def ShAt (K : PySem.W.Frag) (H : Hp) (s D : Addr) (own : Own) : Prop := (∃ dx, H s = some (.ins (He.ga K "Shelf") dx [("own_terms", .ref D)])) ∧ DictN K H D own
section
variable {K : PySem.W.Frag} {H H' : Hp} {kvs : List (Key × V)} {own : Own} {l : Str} {D s : Addr} {B : List Addr}
theorem inr_ne {a b : Str} (h : ¬ a = b) : ¬ (Sum.inr a : Key) = .inr b := fun z => h (Sum.inr.inj z)
theorem OwnV.tk (h : OwnV K H kvs own) (e : TK K H H') : OwnV K H' kvs own := Paired.mapP h fun _ _ z => ⟨z.1, z.2.tk e⟩
theorem OwnV.val (h : OwnV K H kvs own) (l : Str) : (valV kvs (.inr l) = none ∧ lookN own l = none) ∨ ∃ v t, valV kvs (.inr l) = some v ∧ lookN own l = some t ∧ TR K H t v ∧ (l, t) ∈ own := by
  induction h with
  | nil => exact .inl ⟨rfl, rfl⟩
  | @cons q p qs ps hh r ih =>
    obtain ⟨e1, e2⟩ := hh
    by_cases hk : p.1 = l
    · refine .inr ⟨q.2, p.2, valV_pos (by rw [e1, hk]), by simp [lookN, List.find?_cons, hk], e2, ?_⟩
      rw [← hk]
      exact List.mem_cons_self
    · have e3 : lookN (p :: ps) l = lookN ps l := by simp [lookN, List.find?_cons, hk]
      rw [valV_neg (by rw [e1]; exact inr_ne hk), e3]
      rcases ih with z | ⟨v, t, a1, a2, a3, a4⟩
      · exact .inl z
      · exact .inr ⟨v, t, a1, a2, a3, List.mem_cons_of_mem _ a4⟩
theorem OwnV.len (h : OwnV K H kvs own) : kvs.length = own.length := Paired.length h
theorem OwnV.any (h : OwnV K H kvs own) (l : Str) : (kvs.any fun kv => decide (kv.1 = .inr l)) = own.any fun e => decide (e.1 = l) := by
  induction h with
  | nil => rfl
  | @cons q p qs ps hh r ih =>
    rw [List.any_cons, List.any_cons, ih, hh.1]
    congr 1
    by_cases hk : p.1 = l
    · rw [decide_eq_true hk, decide_eq_true (by rw [hk])]
    · rw [decide_eq_false hk, decide_eq_false (inr_ne hk)]
theorem OwnV.put (h : OwnV K H kvs own) (l : Str) {t : T} {v : V} (hv : TR K H t v) : OwnV K H (putK kvs (.inr l) v) (putN own l t) := by
  unfold putK putN
  rw [h.any l]
  by_cases q : (own.any fun e => decide (e.1 = l)) = true
  · rw [if_pos q, if_pos q]
    clear q
    induction h with
    | nil => exact .nil
    | @cons q p qs ps hh r ih =>
      rw [List.map_cons, List.map_cons]
      refine .cons ?_ ih
      by_cases hk : p.1 = l
      · rw [if_pos hk, if_pos (by rw [hh.1, hk])]
        exact ⟨hh.1, hv⟩
      · rw [if_neg hk, if_neg (by rw [hh.1]; exact inr_ne hk)]
        exact hh
  · rw [if_neg q, if_neg q]
    exact Paired.snoc h ⟨rfl, hv⟩
theorem OwnV.drop (h : OwnV K H kvs own) (l : Str) : OwnV K H (dropK kvs (.inr l)) (dropN own l) := by
  unfold dropK dropN
  induction h with
  | nil => exact .nil
  | @cons q p qs ps hh r ih =>
    rw [List.filter_cons, List.filter_cons]
    by_cases hk : p.1 = l
    · rw [if_neg (by simp [hh.1, hk]), if_neg (by simp [hk])]
      exact ih
    · rw [if_pos (by simp [hh.1, hk]), if_pos (by simp [hk])]
      exact .cons hh ih
theorem OwnV.keys (h : OwnV K H kvs own) : kvs.map (·.1) = (own.map (·.1)).map Sum.inr := by
  induction h with
  | nil => rfl
  | cons hh _ ih => rw [List.map_cons, List.map_cons, List.map_cons, ih, hh.1]
theorem DictN.fr (h : DictN K H D own) (e : Fr K B H H') (n : D ∉ B) : DictN K H' D own := by
  obtain ⟨kvs, h1, h2⟩ := h
  exact ⟨kvs, e.kp _ _ n h1 (fun _ z => by cases z), h2.tk e.tk⟩
theorem ShAt.fr (h : ShAt K H s D own) (e : Fr K B H H') (n1 : s ∉ B) (n2 : D ∉ B) : ShAt K H' s D own := by
  obtain ⟨⟨dx, h1⟩, h2⟩ := h
  exact ⟨⟨dx, e.kp _ _ n1 h1 (fun _ z => by cases z)⟩, h2.fr e n2⟩
theorem ShAt.ext (h : ShAt K H s D own) (e : Ext H H') : ShAt K H' s D own := h.fr (e.fr (B := [])) (by simp) (by simp)
theorem DictN.ext (h : DictN K H D own) (e : Ext H H') : DictN K H' D own := h.fr (e.fr (B := [])) (by simp)
/-- the dict is written, the shelf stays -/
theorem ShAt.at (h : ShAt K H s D own) {own' : Own} (e : Fr K [D] H H') (hd : DictN K H' D own') : ShAt K H' s D own' := by
  obtain ⟨⟨dx, h1⟩, kvs, h2, _⟩ := h
  exact ⟨⟨dx, e.kp _ _ (by simpa using ne_of h1 h2 fun z => by cases z) h1 (fun _ z => by cases z)⟩, hd⟩
end
/-! ### names in order -/
theorem ltCps_tri : ∀ {a b : List Nat}, ltCps a b = false → ltCps b a = false → a = b
  | [], [], _, _ => rfl
  | [], _ :: _, h, _ => by simp [ltCps] at h
  | _ :: _, [], _, h => by simp [ltCps] at h
  | x :: a, y :: b, h1, h2 => by
    simp only [ltCps, Bool.or_eq_false_iff, Bool.and_eq_false_iff, decide_eq_false_iff_not, beq_eq_false_iff_ne] at h1 h2
    have e : x = y := by omega
    subst e
    rw [ltCps_tri (h1.2.resolve_left (by simp)) (h2.2.resolve_left (by simp))]
theorem ltCps_trans : ∀ {a b c : List Nat}, ltCps b a = false → ltCps c b = false → ltCps c a = false
  | [], _, [], _, _ => rfl
  | [], [], _ :: _, _, _ => rfl
  | [], _ :: _, _ :: _, _, _ => rfl
  | _ :: _, [], _, h, _ => by simp [ltCps] at h
  | _ :: _, _ :: _, [], _, h => by simp [ltCps] at h
  | x :: a, y :: b, z :: c, h1, h2 => by
    simp only [ltCps, Bool.or_eq_false_iff, Bool.and_eq_false_iff, decide_eq_false_iff_not, beq_eq_false_iff_ne] at h1 h2 ⊢
    refine ⟨by omega, ?_⟩
    by_cases e : z = x
    · refine .inr (ltCps_trans (h1.2.resolve_left (by omega)) (h2.2.resolve_left (by omega)))
    · exact .inl e
def leS (a b : Str) : Prop := ltCps b.cps.toList a.cps.toList = false
theorem str_ext {a b : Str} (h : a.cps.toList = b.cps.toList) : a = b := by
  cases a with
  | mk x =>
    cases b with
    | mk y =>
      rw [show x = y from Array.toList_inj.mp h]
theorem risingS_pw : ∀ {l : List Str} {x : Str}, risingS x l = true → (x :: l).Pairwise leS
  | [], x, _ => List.pairwise_cons.mpr ⟨fun _ h => absurd h (by simp), .nil⟩
  | y :: l, x, h => by
    simp only [risingS, Bool.and_eq_true, Bool.not_eq_true'] at h
    have ih := risingS_pw h.2
    refine List.pairwise_cons.mpr ⟨fun z hz => ?_, ih⟩
    rcases List.mem_cons.mp hz with e | e
    · rw [e]; exact h.1
    · exact ltCps_trans h.1 ((List.pairwise_cons.mp ih).1 z e)
theorem sortedS_pw {l : List Str} (h : sortedS l = true) : l.Pairwise leS := by
  cases l with
  | nil => exact .nil
  | cons x l => exact risingS_pw h
/-- there is one order -/
theorem sortedS_one {l r : List Str} (hp : l.Perm r) (h1 : sortedS l = true) (h2 : sortedS r = true) : l = r :=
  List.Perm.eq_of_pairwise (le := leS) (fun a b _ _ x y => str_ext (ltCps_tri y x)) (sortedS_pw h1) (sortedS_pw h2) hp
end
section
open PySem Spec PyProof.Rows L2
open LamX
section
variable {X : Cx} {CX : CXT} {k : Nat} {C f : Addr} {m : Str} {sp : Sp} {E : XK} {o : Expr} {ta : TE} {apos pos : Pos}
/-- e.m() -/
theorem pe_methR0 {pl : Sem Bool} (he : PE X o ta) (c : Cls X.K C) (hm : Meth X.K C m f) (F : FnR X.prog X.w X.K X.mg X.base CX k f sp) (hr : Room k X.A) (hx : Passes CX X E)
    (ht : eval (.Call (.Attribute o m apos) [] [] pos) X.env = (do
      let ov ← eval o X.env
      standAt apos.atName
      let (f, first) ← holding [ov] (getMethod ov m pl)
      callWith pos f first (backTo pos (starEach [] X.env)) (backToKw pos (keywordEach [] X.env))) := by rfl) :
    PE X (.Call (.Attribute o m apos) [] [] pos) (tMethR C m sp E ta tNil) := by
  refine ⟨fun pins s σ H Q I h => ?_⟩
  refine PySem.W.methodCall_KW (pl := pl) (thn (he.run pins s σ H _ I h) fun u s1 ⟨x, H1, I1, rx, a, dx, fs, ex, ea, l, q⟩ => ?_) ht
  subst ex
  obtain rfl : u = Value.ref a := rx
  refine getmeth_ok I1 ea c hm l ?_
  exact PySem.W.callWith_K0 (first := [.ref a]) I1.kIn hm.kp (wpAny_call (run_fnR (us := [.ref a]) (vs := [.ref a]) F hr hx I1 (.cons rfl .nil) q))
end
theorem HasMe.meth {K : PySem.W.Frag} {C : Addr} {c m : Str} {st : Stmt} {f : Addr} (h : HasMe K C c m st f) : Meth K C m f := ⟨h.at_, h.isF, h.kp⟩
section
variable {σ : L2.St} {H : Hp} {Q : VK} {ta : TE} {t : TA} {K : PySem.W.Frag} {f : Str} {C : Addr} {m : Str} {sp : Sp} {E : XK} {td ty : TE}
theorem r_fld (h : ta σ H fun x H1 => ∃ a C dx fs v, x = .ref a ∧ H1 a = some (.ins C dx fs) ∧ Cls K C ∧ NoAttr K C f ∧ fs.lookup f = some v ∧ Q v H1) : tFld K ta f σ H Q := h
theorem r_methR (h : ta σ H fun x H1 => ∃ a dx fs, x = .ref a ∧ H1 a = some (.ins C dx fs) ∧ fs.lookup m = none ∧ t σ H1 fun vs H2 => sp (x :: vs) H2 Q E) : tMethR C m sp E ta t σ H Q := h
theorem r_dpop1 (h : td σ H fun x H1 => ∃ a, x = .ref a ∧ IsD H1 a ∧ ty σ H1 fun y H2 => ∃ kvs k v, H2 a = some (.dK kvs) ∧ y = kV k ∧ valV kvs k = some v ∧ Q v (upd H2 a (.dK (dropK kvs k)))) : tDPop1 td ty σ H Q := h
end
end
section
open PySem Spec PyProof.Rows L2
local macro_rules | `(tactic| walk_at "s") => `(tactic| first
  | with_reducible refine r_seq ?_
  | with_reducible refine r_next ?_
  | with_reducible refine r_asg ?_
  | with_reducible refine r_gname ?_
  | with_reducible refine r_ret ?_
  | with_reducible refine r_drop ?_
  | with_reducible refine r_ifs ?_
  | with_reducible refine r_var rfl ?_
  | with_reducible refine r_c ?_
  | with_reducible refine r_op ?_
  | with_reducible refine r_un ?_
  | with_reducible refine r_nil ?_
  | with_reducible refine r_cons ?_
  | with_reducible refine r_test ?_
  | with_reducible refine r_tb ?_
  | with_reducible refine r_and ?_
  | with_reducible refine r_or ?_
  | with_reducible refine r_not ?_
  | with_reducible refine r_andV ?_
  | with_reducible refine r_orV ?_
  | with_reducible refine r_notV ?_
  | with_reducible refine r_if ?_
  | with_reducible refine r_chain ?_
  | with_reducible refine r_cl ?_
  | with_reducible refine r_cb ?_
  | with_reducible refine r_bl ?_
  | with_reducible refine r_I0 ?_
  | with_reducible refine r_yes ?_
  | with_reducible refine r_itT ?_
  | with_reducible refine r_itL ?_
  | with_reducible refine r_itS ?_
  | with_reducible refine r_itE ?_
  | with_reducible refine r_revT ?_
  | with_reducible refine r_star ?_
  | with_reducible refine r_for ?_
  | with_reducible refine r_bm ?_
  | with_reducible refine r_bm0 ?_
  | with_reducible refine r_kget1 ?_
  | with_reducible refine r_kget2 ?_
  | with_reducible refine r_par ?_
  | with_reducible refine r_tup ?_
  | with_reducible refine r_lst ?_
  | with_reducible refine r_exI ?_
  | with_reducible refine r_itZ ?_
  | with_reducible refine r_dget ?_
  | with_reducible refine r_methR ?_
  | with_reducible refine r_dpop1 ?_
  | with_reducible refine r_dput ?_
  | with_reducible refine r_din ?_
  | with_reducible refine r_dnotin ?_
  | with_reducible refine r_nopart ?_
  | with_reducible refine r_lc ?_
  | with_reducible refine r_sl ?_
  | with_reducible refine r_part ?_
  | with_reducible refine r_eq rfl ?_
  | with_reducible refine r_ne rfl ?_
  | with_reducible refine iteT ?_
  | with_reducible refine iteF ?_
  | with_reducible refine ite_nt ?_
  | with_reducible refine ite_nf ?_)
local macro_rules | `(tactic| walk_at "k") => `(tactic| first
  | walk_at "s"
  | with_reducible refine ite_eqT (by decide +kernel) ?_
  | with_reducible refine ite_eqF (by decide +kernel) ?_)
open LamX
section
variable {P : Program} {w : World} {K : PySem.W.Frag} {mg : Str → Option Value} {base : Heap}
theorem sc_Shelf_need_there : FnScope ["self", "label"] ["self", "label"] (defScope (mem 58 2)) := ⟨rfl, rfl, rfl, by decide +kernel, rfl, by decide +kernel, by decide +kernel⟩
theorem sc_Shelf_take : FnScope ["self", "label"] ["self", "label"] (defScope (mem 58 3)) := ⟨rfl, rfl, rfl, by decide +kernel, rfl, by decide +kernel, by decide +kernel⟩
theorem sc_Shelf_seek : FnScope ["self", "label"] ["self", "label"] (defScope (mem 58 4)) := ⟨rfl, rfl, rfl, by decide +kernel, rfl, by decide +kernel, by decide +kernel⟩
theorem sc_Shelf_labels : FnScope ["self"] ["self"] (defScope (mem 58 5)) := ⟨rfl, rfl, rfl, by decide +kernel, rfl, by decide +kernel, by decide +kernel⟩
/-- what stands at s.own_terms -/
theorem r_own (fx : Fx K mg w) {σ : L2.St} {H : Hp} {Q : VK} {s D : Addr} {own : Own} {i : Nat} (hs : ShAt K H s D own) (e : σ[i]? = some (some (.ref s))) (h : Q (.ref D) H) : tFld K (tVar i) "own_terms" σ H Q := by
  obtain ⟨⟨dx, h1⟩, _⟩ := hs
  exact r_fld (r_var e ⟨s, _, dx, _, _, rfl, h1, fx.shm.2.1, fx.shm.2.2.2, rfl, h⟩)
/-- the label is there, or not -/
inductive There (K : PySem.W.Frag) (H : Hp) (own : Own) : V → Option T → Prop
  | bad {v : V} (h : LabV K H v false) : There K H own v none
  | out {l : Str} (h : LabV K H (.str l) true) (hl : lookN own l = none) : There K H own (.str l) none
  | at_ {l : Str} {t : T} (h : LabV K H (.str l) true) (hl : lookN own l = some t) : There K H own (.str l) (some t)
def spNeedThere (K : PySem.W.Frag) : Sp := fun vs H Q E => ∃ (s D : Addr) (own : Own) (v : V) (o : Option T), vs = [.ref s, v] ∧ ShAt K H s D own ∧ There K H own v o ∧
  (o.isSome = true → ∀ H', Ext H H' → Q .non H') ∧ (o = none → ∀ H', Ext H H' → Raised E H' (He.ga K "Missing") "given" v)
theorem m_need_there (fx : Fx K mg w) : FnR P w K mg base (L2.CX P w) 3 (He.ma K (He.ga K "Shelf") "need_there") (spNeedThere K) := by
  obtain ⟨fd, F⟩ := fx.s_need_there.fn
  refine fnr_ok F sc_Shelf_need_there (fun vs H Q E q => ?_) (fun _ _ _ _ _ _ us hl => match us, hl with | [_, _], _ => rfl) fun cdv A outer s H vs Q E hr q => ?_
  · obtain ⟨s, D, own, v, o, rfl, _⟩ := q
    rfl
  · obtain ⟨sh, D, own, v, o, rfl, hs, ht, qs, qn⟩ := q
    have hu2 := hu_of hr
    refine ⟨_, (pss_one (ps_if (PW.pt (pw_or (pt_not (pt_val (pe_cr (c_is_label fx) hr px (pa_cons (pv 1) pa_nil)))) (pw_or1 (pt_cmp (pc_dnotin hu2 (pv 1) (pe_fld (pv 0) rfl)) (by with_unfolding_all rfl))))) (pss_one (ps_raise rfl (takes_of rfl rfl rfl rfl) (pmk_x fx.x_Missing (i_Missing fx) (hr.mono (by decide)) passF rfl mono_var (pv 1)))) pss_nil)), ?_⟩
    repeat walk_at "k"
    have raise : o = none → ∀ H', Ext H H' → Raised E H' (He.ga K "Missing") "given" v := qn
    cases ht with
    | bad h =>
      refine ⟨v, false, rfl, h, fun H1 e1 => ?_⟩
      repeat walk_at "k"
      exact r_raiseV rfl (qn rfl H1 e1)
    | @out l h hl =>
      refine ⟨.str l, true, rfl, h, fun H1 e1 => ?_⟩
      repeat walk_at "k"
      refine r_own fx (hs.ext e1) rfl ?_
      obtain ⟨kvs, h1, h2⟩ := (hs.ext e1).2
      have hg := DGet.k (k := .inr l) h1
      rcases h2.val l with ⟨z, _⟩ | ⟨v, t, _, z, _⟩
      · rw [z] at hg
        refine ⟨D, _, rfl, hg, ?_⟩
        repeat walk_at "k"
        exact r_raiseV rfl (qn rfl H1 e1)
      · rw [hl] at z
        cases z
    | @at_ l t h hl =>
      refine ⟨.str l, true, rfl, h, fun H1 e1 => ?_⟩
      repeat walk_at "k"
      refine r_own fx (hs.ext e1) rfl ?_
      obtain ⟨kvs, h1, h2⟩ := (hs.ext e1).2
      have hg := DGet.k (k := .inr l) h1
      rcases h2.val l with ⟨_, z⟩ | ⟨v, t, z, _, _⟩
      · rw [hl] at z
        cases z
      · rw [z] at hg
        refine ⟨D, _, rfl, hg, ?_⟩
        repeat walk_at "k"
        exact qs rfl H1 e1
def spTake (K : PySem.W.Frag) : Sp := fun vs H Q E => ∃ (s D : Addr) (own : Own) (v : V) (o : Option T), vs = [.ref s, v] ∧ ShAt K H s D own ∧ There K H own v o ∧
  (∀ l t, v = .str l → o = some t → ∀ H' x, Fr K [D] H H' → ShAt K H' s D (dropN own l) → TR K H' t x → Q x H') ∧ (o = none → ∀ H', Ext H H' → Raised E H' (He.ga K "Missing") "given" v)
theorem m_take (fx : Fx K mg w) : FnR P w K mg base (L2.CX P w) 4 (He.ma K (He.ga K "Shelf") "take") (spTake K) := by
  obtain ⟨fd, F⟩ := fx.s_take.fn
  refine fnr_ok F sc_Shelf_take (fun vs H Q E q => ?_) (fun _ _ _ _ _ _ us hl => match us, hl with | [_, _], _ => rfl) fun cdv A outer s H vs Q E hr q => ?_
  · obtain ⟨s, D, own, v, o, rfl, _⟩ := q
    rfl
  · obtain ⟨sh, D, own, v, o, rfl, hs, ht, qs, qn⟩ := q
    have hu2 := hu_of hr
    refine ⟨_, (pss_cons (ps_expr (pe_methR (pv 0) fx.shm.2.1 fx.s_need_there.meth (m_need_there fx) (hr.mono (by decide)) px (pa_cons (pv 1) pa_nil)))
    (pss_one (ps_ret (pe_dpop1 (pe_fld (pv 0) rfl) (pv 1) ⟨rfl, rfl, rfl, rfl⟩)))), ?_⟩
    repeat walk_at "k"
    obtain ⟨⟨dx, hs1⟩, hs2⟩ := id hs
    refine ⟨sh, dx, _, rfl, hs1, rfl, ?_⟩
    repeat walk_at "k"
    refine ⟨sh, D, own, v, o, rfl, hs, ht, fun ho H1 e1 => ?_, fun ho => qn ho⟩
    repeat walk_at "k"
    refine r_own fx (hs.ext e1) rfl ?_
    cases ht with
    | bad h => cases ho
    | out h hl => cases ho
    | @at_ l t h hl =>
      obtain ⟨kvs, h1, h2⟩ := (hs.ext e1).2
      refine ⟨D, rfl, .inl ⟨_, .inl h1⟩, ?_⟩
      repeat walk_at "k"
      rcases h2.val l with ⟨_, z⟩ | ⟨v, t', z, z2, z3, _⟩
      · rw [hl] at z
        cases z
      · rw [hl] at z2
        cases z2
        have fp : Fr K [D] H1 (upd H1 D (.dK (dropK kvs (.inr l)))) := Fr.putK h1 (by simp)
        exact ⟨kvs, .inr l, v, h1, rfl, z, qs l t rfl rfl _ _ (e1.fr.trans fp) ((hs.ext e1).at fp ⟨_, upd_same, (h2.tk fp.tk).drop l⟩) (z3.tk fp.tk)⟩
def spSeek (K : PySem.W.Frag) : Sp := fun vs H Q E => ∃ (s D : Addr) (own : Own) (v : V) (o : Option T), vs = [.ref s, v] ∧ ShAt K H s D own ∧ There K H own v o ∧
  (∀ l t, v = .str l → o = some t → ∀ H' x, Ext H H' → TR K H' t x → Q x H') ∧ (o = none → ∀ H', Ext H H' → Raised E H' (He.ga K "Missing") "given" v)
theorem m_seek (fx : Fx K mg w) : FnR P w K mg base (L2.CX P w) 4 (He.ma K (He.ga K "Shelf") "seek") (spSeek K) := by
  obtain ⟨fd, F⟩ := fx.s_seek.fn
  refine fnr_ok F sc_Shelf_seek (fun vs H Q E q => ?_) (fun _ _ _ _ _ _ us hl => match us, hl with | [_, _], _ => rfl) fun cdv A outer s H vs Q E hr q => ?_
  · obtain ⟨s, D, own, v, o, rfl, _⟩ := q
    rfl
  · obtain ⟨sh, D, own, v, o, rfl, hs, ht, qs, qn⟩ := q
    have hu2 := hu_of hr
    refine ⟨_, (pss_cons (ps_expr (pe_methR (pv 0) fx.shm.2.1 fx.s_need_there.meth (m_need_there fx) (hr.mono (by decide)) px (pa_cons (pv 1) pa_nil)))
    (pss_one (ps_ret (pe_dget hu2 (pe_fld (pv 0) rfl) (pv 1) (fun _ _ => rfl))))), ?_⟩
    repeat walk_at "k"
    obtain ⟨⟨dx, hs1⟩, hs2⟩ := id hs
    refine ⟨sh, dx, _, rfl, hs1, rfl, ?_⟩
    repeat walk_at "k"
    refine ⟨sh, D, own, v, o, rfl, hs, ht, fun ho H1 e1 => ?_, fun ho => qn ho⟩
    repeat walk_at "k"
    refine r_own fx (hs.ext e1) rfl ?_
    repeat walk_at "k"
    cases ht with
    | bad h => cases ho
    | out h hl => cases ho
    | @at_ l t h hl =>
      obtain ⟨kvs, h1, h2⟩ := (hs.ext e1).2
      have hg := DGet.k (k := .inr l) h1
      rcases h2.val l with ⟨_, z⟩ | ⟨v, t', z, z2, z3, _⟩
      · rw [hl] at z
        cases z
      · rw [hl] at z2
        cases z2
        rw [z] at hg
        exact ⟨D, _, rfl, hg, qs l t rfl rfl H1 v e1 z3⟩
def names (own : Own) : List Str := own.map (·.1)
def spLabels (K : PySem.W.Frag) : Sp := fun vs H Q _ => ∃ (s D : Addr) (own : Own), vs = [.ref s] ∧ ShAt K H s D own ∧ own.length < 64 ∧
  ∀ ys H' p, ys.Perm (names own) → sortedS ys = true → Ext H H' → SqT K H' p (ys.map .str) → Q (.ref p) H'
theorem m_labels (fx : Fx K mg w) : FnR P w K mg base (L2.CX P w) 1 (He.ma K (He.ga K "Shelf") "labels") (spLabels K) := by
  obtain ⟨fd, F⟩ := fx.s_labels.fn
  refine fnr_ok F sc_Shelf_labels (fun vs H Q E q => ?_) (fun _ _ _ _ _ _ us hl => match us, hl with | [_], _ => rfl) fun cdv A outer s H vs Q E hr q => ?_
  · obtain ⟨s, D, own, rfl, _⟩ := q
    rfl
  · obtain ⟨sh, D, own, rfl, hs, hl, q⟩ := q
    refine ⟨_, (pss_one (ps_ret (pe_callTy call_tuple_of rfl fx.n_tuple (by decide +kernel) (pa_cons (pe_callB cr_sortedS rfl fx.n_sorted (by decide +kernel) (pa_cons (pe_callTy (call_listD rfl) rfl fx.n_list (by decide +kernel) (pa_cons (pe_fld (pv 0) rfl) pa_nil)) pa_nil)) pa_nil)))), ?_⟩
    repeat walk_at "k"
    refine r_own fx hs rfl ?_
    repeat walk_at "k"
    obtain ⟨kvs, h1, h2⟩ := hs.2
    refine ⟨D, kvs, rfl, .inl h1, fun p hp => ?_⟩
    repeat walk_at "k"
    have hk : (kvs.map fun kv => kV kv.1) = (names own).map V.str := by
      have := congrArg (List.map kV) h2.keys
      rw [List.map_map, List.map_map] at this
      exact this
    rw [hk]
    refine ⟨p, names own, rfl, .inl (.inl upd_same), by unfold names; rw [List.length_map]; exact hl, fun ys p2 hys hso hp2 => ?_⟩
    repeat walk_at "k"
    refine ⟨p2, _, rfl, .inl ⟨.inl (.inl upd_same), fun l hl2 => ?_⟩⟩
    exact q ys _ l hys hso (((Ext.new hp).trans (Ext.new hp2)).trans (Ext.new hl2)) (.inl (.inl upd_same))
end
end
section
open PySem Spec PyProof.Rows L2
local macro_rules | `(tactic| walk_at "s") => `(tactic| first
  | with_reducible refine r_seq ?_
  | with_reducible refine r_next ?_
  | with_reducible refine r_asg ?_
  | with_reducible refine r_gname ?_
  | with_reducible refine r_ret ?_
  | with_reducible refine r_drop ?_
  | with_reducible refine r_ifs ?_
  | with_reducible refine r_var rfl ?_
  | with_reducible refine r_c ?_
  | with_reducible refine r_op ?_
  | with_reducible refine r_un ?_
  | with_reducible refine r_nil ?_
  | with_reducible refine r_cons ?_
  | with_reducible refine r_test ?_
  | with_reducible refine r_tb ?_
  | with_reducible refine r_and ?_
  | with_reducible refine r_or ?_
  | with_reducible refine r_not ?_
  | with_reducible refine r_andV ?_
  | with_reducible refine r_orV ?_
  | with_reducible refine r_notV ?_
  | with_reducible refine r_if ?_
  | with_reducible refine r_chain ?_
  | with_reducible refine r_cl ?_
  | with_reducible refine r_cb ?_
  | with_reducible refine r_bl ?_
  | with_reducible refine r_I0 ?_
  | with_reducible refine r_yes ?_
  | with_reducible refine r_itT ?_
  | with_reducible refine r_itL ?_
  | with_reducible refine r_itS ?_
  | with_reducible refine r_itE ?_
  | with_reducible refine r_revT ?_
  | with_reducible refine r_star ?_
  | with_reducible refine r_for ?_
  | with_reducible refine r_bm ?_
  | with_reducible refine r_bm0 ?_
  | with_reducible refine r_kget1 ?_
  | with_reducible refine r_kget2 ?_
  | with_reducible refine r_par ?_
  | with_reducible refine r_tup ?_
  | with_reducible refine r_lst ?_
  | with_reducible refine r_exI ?_
  | with_reducible refine r_itZ ?_
  | with_reducible refine r_dget ?_
  | with_reducible refine r_methR ?_
  | with_reducible refine r_dpop1 ?_
  | with_reducible refine r_dput ?_
  | with_reducible refine r_din ?_
  | with_reducible refine r_dnotin ?_
  | with_reducible refine r_nopart ?_
  | with_reducible refine r_lc ?_
  | with_reducible refine r_sl ?_
  | with_reducible refine r_part ?_
  | with_reducible refine r_eq rfl ?_
  | with_reducible refine r_ne rfl ?_
  | with_reducible refine iteT ?_
  | with_reducible refine iteF ?_
  | with_reducible refine ite_nt ?_
  | with_reducible refine ite_nf ?_)
local macro_rules | `(tactic| walk_at "k") => `(tactic| first
  | walk_at "s"
  | with_reducible refine ite_eqT (by decide +kernel) ?_
  | with_reducible refine ite_eqF (by decide +kernel) ?_)
open LamX
section
variable {P : Program} {w : World} {K : PySem.W.Frag} {mg : Str → Option Value} {base : Heap}
/-- the term that put may get -/
def PutV (K : PySem.W.Frag) (H : Hp) (E : XK) (x : V) (good : T → Prop) : Prop :=
  (x = .non ∧ ∀ H' a, Ext H H' → SqT K H' a [] → Raised E H' (He.ga K "BadTerm") "path" (.ref a)) ∨
    ∃ t, TR K H t x ∧ t.wds ≤ 20 ∧ t.hgt ≤ 8 ∧ (∀ pth, firstBad t = some pth → ∀ H' a, Ext H H' → SqT K H' a (pth.map .int) → Raised E H' (He.ga K "BadTerm") "path" (.ref a)) ∧ (allOwn t = true → good t)
def spPut (K : PySem.W.Frag) : Sp := fun vs H Q E => ∃ (s D : Addr) (own : Own) (v x : V), vs = [.ref s, v, x] ∧ ShAt K H s D own ∧ own.length ≤ 1000 ∧
  ((LabV K H v false ∧ ∀ H', Ext H H' → Raised E H' (He.ga K "BadLabel") "given" v) ∨
    ∃ l, v = .str l ∧ LabV K H (.str l) true ∧ PutV K H E x fun t =>
      (lookN own l = none → own.length = 20 → ∀ H', Ext H H' → Raised E H' (He.ga K "TooMany") "most" (.int 20)) ∧
      ((lookN own l = none → own.length ≠ 20) → ∀ H', Fr K [D] H H' → ShAt K H' s D (putN own l t) → Q .non H'))
theorem sc_Shelf_put : FnScope ["self", "label", "term"] ["self", "label", "term"] (defScope (mem 58 1)) := ⟨rfl, rfl, rfl, by decide +kernel, rfl, by decide +kernel, by decide +kernel⟩
theorem m_put (fx : Fx K mg w) : FnR P w K mg base (L2.CX P w) 7 (He.ma K (He.ga K "Shelf") "put") (spPut K) := by
  obtain ⟨fd, F⟩ := fx.s_put.fn
  refine fnr_ok F sc_Shelf_put (fun vs H Q E q => ?_) (fun _ _ _ _ _ _ us hl => match us, hl with | [_, _, _], _ => rfl) fun cdv A outer s H vs Q E hr q => ?_
  · obtain ⟨s, D, own, v, x, rfl, _⟩ := q
    rfl
  · obtain ⟨sh, D, own, v, x, rfl, hs, hl, q⟩ := q
    have hu2 := hu_of hr
    refine ⟨_, (pss_cons (ps_if (pt_not (pt_val (pe_cr (c_is_label fx) hr px (pa_cons (pv 1) pa_nil)))) (pss_one (ps_raise rfl (takes_of rfl rfl rfl rfl) (pmk_x fx.x_BadLabel (i_BadLabel fx) (hr.mono (by decide)) passF rfl mono_var (pv 1)))) pss_nil)
    (pss_cons (ps_expr (pe_cr (c_need_term fx) hr px (pa_cons (pv 2) pa_nil)))
    (pss_cons (ps_if (PW.pt (pw_and (pt_cmp (pc_dnotin hu2 (pv 1) (pe_fld (pv 0) rfl)) (by with_unfolding_all rfl)) (pw_and1 (pt_cmpR op_eq (pe_callB call_lenD rfl fx.n_len (by decide +kernel) (pa_cons (pe_fld (pv 0) rfl) pa_nil)) (pe_k fx.g_MOST_LABELS) (nomark _))))) (pss_one (ps_raise rfl (takes_of rfl rfl rfl rfl) (pmk_x fx.x_TooMany (i_TooMany fx) (hr.mono (by decide)) passF rfl mono_c (pe_k fx.g_MOST_LABELS)))) pss_nil)
    (pss_one (ps_dput hu2 (pe_fld (pv 0) rfl) (pv 1) (pv 2) rfl))))), ?_⟩
    repeat walk_at "k"
    rcases q with ⟨hv, q⟩ | ⟨l, rfl, hv, q⟩
    · refine ⟨v, false, rfl, hv, fun H1 e1 => ?_⟩
      repeat walk_at "k"
      exact r_raiseV rfl (q H1 e1)
    · refine ⟨.str l, true, rfl, hv, fun H1 e1 => ?_⟩
      repeat walk_at "k"
      rcases q with ⟨rfl, q⟩ | ⟨t, ht, hw, hg, qb, qg⟩
      · exact ⟨.non, rfl, .inl ⟨rfl, fun H' a e => q H' a (e1.trans e)⟩⟩
      · refine ⟨x, rfl, .inr ⟨t, ht.tk e1.tk, hw, hg, fun ho H2 e2 => ?_, fun pth hp H' a e => qb pth hp H' a (e1.trans e)⟩⟩
        obtain ⟨g1, g2⟩ := qg ho
        have e12 := e1.trans e2
        repeat walk_at "k"
        refine r_own fx (hs.ext e12) rfl ?_
        obtain ⟨kvs, h1, h2⟩ := (hs.ext e12).2
        have hg := DGet.k (k := .inr l) h1
        have fin : (lookN own l = none → own.length ≠ 20) → sDPut (tFld K (tVar 0) "own_terms") (tVar 1) (tVar 2) { nx := fun _ H' => Q .non H', rt := Q } [some (.ref sh), some (.str l), some x] H2 := fun hn => by
          repeat walk_at "k"
          refine r_own fx (hs.ext e12) rfl ?_
          repeat walk_at "k"
          have fp : Fr K [D] H2 (upd H2 D (.dK (putK kvs (.inr l) x))) := Fr.putK h1 (by simp)
          refine ⟨D, _, rfl, DPut.k (k := .inr l) h1 (by rw [h2.len, sizeLine_eq]; omega), ?_⟩
          exact g2 hn _ (e12.fr.trans fp) ((hs.ext e12).at fp ⟨_, upd_same, (h2.tk fp.tk).put l (ht.tk (e12.tk.trans fp.tk))⟩)
        rcases h2.val l with ⟨z1, z2⟩ | ⟨v, t', z1, z2, _, _⟩
        · rw [z1] at hg
          refine ⟨D, _, rfl, hg, ?_⟩
          repeat walk_at "k"
          refine r_own fx (hs.ext e12) rfl ?_
          repeat walk_at "k"
          refine ⟨D, kvs, rfl, h1, ?_⟩
          rw [h2.len]
          repeat walk_at "k"
          refine ite_b (fun h => ?_) fun h => ?_
          · have h20 : own.length = 20 := by
              have := V.int.inj (of_decide_eq_true h)
              omega
            repeat walk_at "k"
            exact g1 z2 h20 H2 e12
          · have h20 : own.length ≠ 20 := fun z => of_decide_eq_false h (by rw [z]; rfl)
            exact r_next (fin fun _ => h20)
        · rw [z1] at hg
          refine ⟨D, _, rfl, hg, ?_⟩
          repeat walk_at "k"
          exact fin fun z => by rw [z2] at z; cases z
def spLen (K : PySem.W.Frag) : Sp := fun vs H Q _ => ∃ (s D : Addr) (own : Own), vs = [.ref s] ∧ ShAt K H s D own ∧ Q (.int own.length) H
theorem sc_Shelf_len : FnScope ["self"] ["self"] (defScope (mem 58 9)) := ⟨rfl, rfl, rfl, by decide +kernel, rfl, by decide +kernel, by decide +kernel⟩
theorem m_len (fx : Fx K mg w) : FnR P w K mg base (L2.CX P w) 1 (He.ma K (He.ga K "Shelf") "__len__") (spLen K) := by
  obtain ⟨fd, F⟩ := fx.s_len.fn
  refine fnr_ok F sc_Shelf_len (fun vs H Q E q => ?_) (fun _ _ _ _ _ _ us hl => match us, hl with | [_], _ => rfl) fun cdv A outer s H vs Q E hr q => ?_
  · obtain ⟨s, D, own, rfl, _⟩ := q
    rfl
  · obtain ⟨sh, D, own, rfl, hs, q⟩ := q
    refine ⟨_, (pss_one (ps_ret (pe_callB call_lenD rfl fx.n_len (by decide +kernel) (pa_cons (pe_fld (pv 0) rfl) pa_nil)))), ?_⟩
    repeat walk_at "k"
    refine r_own fx hs rfl ?_
    repeat walk_at "k"
    obtain ⟨kvs, h1, h2⟩ := hs.2
    refine ⟨D, kvs, rfl, h1, ?_⟩
    rw [h2.len]
    exact q
def spContains (K : PySem.W.Frag) : Sp := fun vs H Q _ => ∃ (s D : Addr) (own : Own) (v : V) (o : Option T), vs = [.ref s, v] ∧ ShAt K H s D own ∧ There K H own v o ∧ ∀ H', Ext H H' → Q (.bl o.isSome) H'
theorem sc_Shelf_contains : FnScope ["self", "label"] ["self", "label"] (defScope (mem 58 10)) := ⟨rfl, rfl, rfl, by decide +kernel, rfl, by decide +kernel, by decide +kernel⟩
theorem m_contains (fx : Fx K mg w) : FnR P w K mg base (L2.CX P w) 2 (He.ma K (He.ga K "Shelf") "__contains__") (spContains K) := by
  obtain ⟨fd, F⟩ := fx.s_contains.fn
  refine fnr_ok F sc_Shelf_contains (fun vs H Q E q => ?_) (fun _ _ _ _ _ _ us hl => match us, hl with | [_, _], _ => rfl) fun cdv A outer s H vs Q E hr q => ?_
  · obtain ⟨s, D, own, v, o, rfl, _⟩ := q
    rfl
  · obtain ⟨sh, D, own, v, o, rfl, hs, ht, q⟩ := q
    have hu2 := hu_of hr
    refine ⟨_, (pss_one (ps_ret (pe_and (pe_cr (c_is_label fx) hr px (pa_cons (pv 1) pa_nil)) (pe_one (pe_cmp (pc_din hu2 (pv 1) (pe_fld (pv 0) rfl)) (by with_unfolding_all rfl)))))), ?_⟩
    repeat walk_at "k"
    cases ht with
    | bad h =>
      refine ⟨v, false, rfl, h, fun H1 e1 => ?_⟩
      repeat walk_at "k"
      exact q H1 e1
    | @out l h hl =>
      refine ⟨.str l, true, rfl, h, fun H1 e1 => ?_⟩
      repeat walk_at "k"
      refine r_own fx (hs.ext e1) rfl ?_
      obtain ⟨kvs, h1, h2⟩ := (hs.ext e1).2
      have hg := DGet.k (k := .inr l) h1
      rcases h2.val l with ⟨z, _⟩ | ⟨v, t, _, z, _⟩
      · rw [z] at hg
        exact ⟨D, _, rfl, hg, q H1 e1⟩
      · rw [hl] at z
        cases z
    | @at_ l t h hl =>
      refine ⟨.str l, true, rfl, h, fun H1 e1 => ?_⟩
      repeat walk_at "k"
      refine r_own fx (hs.ext e1) rfl ?_
      obtain ⟨kvs, h1, h2⟩ := (hs.ext e1).2
      have hg := DGet.k (k := .inr l) h1
      rcases h2.val l with ⟨_, z⟩ | ⟨v, t, z, _, _⟩
      · rw [hl] at z
        cases z
      · rw [z] at hg
        exact ⟨D, _, rfl, hg, q H1 e1⟩
end
end
section
open PySem Spec PyProof.Rows L2
local macro_rules | `(tactic| walk_at "s") => `(tactic| first
  | with_reducible refine r_seq ?_
  | with_reducible refine r_next ?_
  | with_reducible refine r_asg ?_
  | with_reducible refine r_gname ?_
  | with_reducible refine r_ret ?_
  | with_reducible refine r_drop ?_
  | with_reducible refine r_ifs ?_
  | with_reducible refine r_var rfl ?_
  | with_reducible refine r_c ?_
  | with_reducible refine r_op ?_
  | with_reducible refine r_un ?_
  | with_reducible refine r_nil ?_
  | with_reducible refine r_cons ?_
  | with_reducible refine r_test ?_
  | with_reducible refine r_tb ?_
  | with_reducible refine r_and ?_
  | with_reducible refine r_or ?_
  | with_reducible refine r_not ?_
  | with_reducible refine r_andV ?_
  | with_reducible refine r_orV ?_
  | with_reducible refine r_notV ?_
  | with_reducible refine r_if ?_
  | with_reducible refine r_chain ?_
  | with_reducible refine r_cl ?_
  | with_reducible refine r_cb ?_
  | with_reducible refine r_bl ?_
  | with_reducible refine r_I0 ?_
  | with_reducible refine r_yes ?_
  | with_reducible refine r_itT ?_
  | with_reducible refine r_itL ?_
  | with_reducible refine r_itS ?_
  | with_reducible refine r_itE ?_
  | with_reducible refine r_revT ?_
  | with_reducible refine r_star ?_
  | with_reducible refine r_for ?_
  | with_reducible refine r_bm ?_
  | with_reducible refine r_bm0 ?_
  | with_reducible refine r_kget1 ?_
  | with_reducible refine r_kget2 ?_
  | with_reducible refine r_par ?_
  | with_reducible refine r_tup ?_
  | with_reducible refine r_lst ?_
  | with_reducible refine r_exI ?_
  | with_reducible refine r_itZ ?_
  | with_reducible refine r_dget ?_
  | with_reducible refine r_methR ?_
  | with_reducible refine r_dpop1 ?_
  | with_reducible refine r_dput ?_
  | with_reducible refine r_din ?_
  | with_reducible refine r_dnotin ?_
  | with_reducible refine r_nopart ?_
  | with_reducible refine r_lc ?_
  | with_reducible refine r_sl ?_
  | with_reducible refine r_part ?_
  | with_reducible refine r_eq rfl ?_
  | with_reducible refine r_ne rfl ?_
  | with_reducible refine iteT ?_
  | with_reducible refine iteF ?_
  | with_reducible refine ite_nt ?_
  | with_reducible refine ite_nf ?_)
local macro_rules | `(tactic| walk_at "k") => `(tactic| first
  | walk_at "s"
  | with_reducible refine ite_eqT (by decide +kernel) ?_
  | with_reducible refine ite_eqF (by decide +kernel) ?_)
open LamX
/-- a comprehension whose turns may write tables -/
theorem lc_fr {K : PySem.W.Frag} {J : It} {n : Nat} {G : Hp → Prop} {Y : Nat → Hp → V → Hp → Prop} {g : TG} {tt : L2.TT} {te : TE} {vs : List Nat} {σ : L2.St} {H1 : Hp} {D : Addr} {Qd : Hp → Prop} (w : Walk J n G Y) (hD : H1 D = none) (hn : n ≤ 1000000)
    (hG : ∀ H, Fr K [] H1 H → G H) (R : Nat → List V → Hp → Prop) (h0 : R 0 [] (upd H1 D (.lst []))) (hR : ∀ i acc H H', TK K H H' → R i acc H → R i acc H') (hY : ∀ i H x H', Y i H x H' → Ext H H')
    (hs : ∀ i x H acc H', i < n → Fr K [] H1 H' → H' D = some (.lst acc) → R i acc H' → Y i H x H' → ∀ (Kt : V → Hp → Prop) (Kf : Hp → Prop), (∀ y H4, Fr K [] H' H4 → R (i + 1) (acc ++ [y]) H4 → Kt y H4) → (∀ H3, Fr K [] H' H3 → R (i + 1) acc H3 → Kf H3) →
      g x (wipe σ vs) H' fun σ2 H2 => wipe σ2 vs = wipe σ vs ∧ tt σ2 H2 fun b H3 => if b = true then te σ2 H3 Kt else Kf H3)
    (hd : ∀ H acc, Fr K [] H1 H → H D = some (.lst acc) → R n acc H → Qd H) :
    ∃ W : Nat → Nat → Hp → Prop, (∃ m, W 0 m (upd H1 D (.lst []))) ∧ ∀ i m H, W i m H →
      (J.stop i H ∧ Qd H) ∨ (J.go i H ∧ ∃ Nx : Hp → Prop, (∀ H', Nx H' → ∃ m', m' < m ∧ W (i + 1) m' H') ∧ ∀ x H', J.yld i H x H' → g x (wipe σ vs) H' fun σ2 H2 => wipe σ2 vs = wipe σ vs ∧ tt σ2 H2 fun b H3 =>
        if b = true then te σ2 H3 fun y H4 => ∃ acc, H4 D = some (.lst acc) ∧ acc.length < sizeLine ∧ Nx (upd H4 D (.lst (acc ++ [y]))) else Nx H3) := by
  have out : ∀ H, Fr K [D] (upd H1 D (.lst [])) H → Fr K [] H1 H := fun H f => (Fr.refl H1).out hD f
  refine lc_it w (fun i H => Fr K [D] (upd H1 D (.lst [])) H ∧ ∃ acc, H D = some (.lst acc) ∧ acc.length ≤ i ∧ R i acc H) ⟨Fr.refl _, [], upd_same, Nat.le_refl _, h0⟩ (fun i H _ p => hG H (out _ p.1)) (fun i x H H' hi p y => ?_) fun H ⟨e, acc, h1, _, h2⟩ => hd H acc (out _ e) h1 h2
  obtain ⟨e, acc, h1, hl, h2⟩ := p
  have eY := hY i H x H' y
  refine hs i x H acc H' hi (out _ (e.trans eY.fr)) (eY _ _ h1) (hR _ _ _ _ eY.tk h2) y _ _ (fun y H4 e4 r4 => ?_) (fun H3 e3 r3 => ?_)
  · have hD4 : H4 D = some (.lst acc) := e4.kp _ _ (by simp) (eY _ _ h1) fun _ z => by cases z
    have fp : Fr K [D] H4 (upd H4 D (.lst (acc ++ [y]))) := Fr.putL hD4 (by simp)
    refine ⟨acc, hD4, by rw [sizeLine_eq]; omega, ((e.trans eY.fr).trans (e4.more (by simp))).trans fp, acc ++ [y], upd_same, by simp; omega, hR _ _ _ _ fp.tk r4⟩
  · exact ⟨(e.trans eY.fr).trans (e3.more (by simp)), acc, e3.kp _ _ (by simp) (eY _ _ h1) (fun _ z => by cases z), by omega, r3⟩
/-- not there, or a table -/
def New (H : Hp) (p : Addr) : Prop := ∀ o, H p = some o → ∃ ps, o = HO.tbl ps
theorem New.of {K : PySem.W.Frag} {H H' : Hp} {p : Addr} (f : Fr K [] H H') (n : H' p = none) : New H p := fun o h => by
  by_cases z : ∃ ps, o = HO.tbl ps
  · exact z
  · have := f.kp p o (by simp) h fun ps e => z ⟨ps, e⟩
    rw [n] at this
    cases this
theorem New.ne {H : Hp} {p q : Addr} (n : New H p) {xs : List V} (h : H q = some (.lst xs)) : p ≠ q := fun z => by
  obtain ⟨ps, e⟩ := n _ (by rw [z]; exact h)
  cases e
/-! ### claims of a shelf -/
/-- a term as it may stand on a shelf -/
def wfT (t : T) : Prop := t.wds ≤ 20 ∧ t.hgt ≤ 8 ∧ allOwn t = true
structure OwnOk (own : Own) : Prop where
  len : own.length ≤ 21
  wf : ∀ e ∈ own, wfT e.2
def claimAt (dss : List (List Int)) (own : Own) (y : Str) : Option (List Int) := (lookN own y).bind fun t => if okC dss t = true then some (claim dss t) else none
def claimsL (dss : List (List Int)) (own : Own) (ys : List Str) : List (Str × List Int) := ys.filterMap fun y => (claimAt dss own y).map fun c => (y, c)
theorem claimsL_snoc (dss : List (List Int)) (own : Own) (ys : List Str) (y : Str) : claimsL dss own (ys ++ [y]) = claimsL dss own ys ++ (match claimAt dss own y with
    | some c => [(y, c)]
    | none => []) := by
  unfold claimsL
  rw [List.filterMap_append, List.filterMap_cons, List.filterMap_nil]
  cases claimAt dss own y <;> rfl
/-- a name with its claim, or with None -/
def PairV (K : PySem.W.Frag) (H : Hp) (q : Addr) (y : Str) (o : Option (List Int)) : Prop := ∃ cv, SqT K H q [.str y, cv] ∧ match o with
  | some c => ∃ a, cv = .ref a ∧ SqT K H a (c.map .int)
  | none => cv = .non
theorem PairV.tk {K : PySem.W.Frag} {H H' : Hp} {q : Addr} {y : Str} {o : Option (List Int)} (h : PairV K H q y o) (e : TK K H H') : PairV K H' q y o := by
  obtain ⟨cv, h1, h2⟩ := h
  refine ⟨cv, e _ _ h1, ?_⟩
  cases o with
  | none => exact h2
  | some c =>
    obtain ⟨a, h3, h4⟩ := h2
    exact ⟨a, h3, e _ _ h4⟩
abbrev ClmR (K : PySem.W.Frag) (H : Hp) (qs : List Addr) (cs : List (Str × List Int)) : Prop := Paired (fun q e => PairV K H q e.1 (some e.2)) qs cs
theorem ClmR.tk {K : PySem.W.Frag} {H H' : Hp} {qs : List Addr} {cs : List (Str × List Int)} (h : ClmR K H qs cs) (e : TK K H H') : ClmR K H' qs cs := Paired.mapP h fun _ _ z => z.tk e
/-- days with which one may reckon -/
def DaysWf (dss : List (List Int)) : Prop := dss.length ≤ 1000 ∧ ∀ i, (pathsOf (dss.take i)).length ≤ 1000
section
variable {P : Program} {w : World} {K : PySem.W.Frag} {mg : Str → Option Value} {base : Heap}
theorem sc_Shelf_claims_on : FnScope ["self", "days", "some", "label", "claim"] ["self", "days"] (defScope (mem 58 6)) := ⟨rfl, rfl, rfl, by decide +kernel, rfl, by decide +kernel, by decide +kernel⟩
def spClaimsOn (K : PySem.W.Frag) : Sp := fun vs H Q _ => ∃ (s D a : Addr) (own : Own) (dss : List (List Int)), vs = [.ref s, .ref a] ∧ ShAt K H s D own ∧ OwnOk own ∧ DaysAt K H a dss ∧ DaysWf dss ∧ Tabs (TT K) H ∧
  ∀ ys H' l qs, ys.Perm (names own) → sortedS ys = true → Fr K [] H H' → New H l → H' l = some (.lst (qs.map .ref)) → ClmR K H' qs (claimsL dss own ys) → Q (.ref l) H'
theorem m_claims_on (fx : Fx K mg w) (lx : Lx K mg base) : FnR P w K mg base (L2.CX P w) 8 (He.ma K (He.ga K "Shelf") "claims_on") (spClaimsOn K) := by
  obtain ⟨fd, F⟩ := fx.s_claims_on.fn
  refine fnr_ok F sc_Shelf_claims_on (fun vs H Q E q => ?_) (fun _ _ _ _ _ _ us hl => match us, hl with | [_, _], _ => rfl) fun cdv A outer s H vs Q E hr q => ?_
  · obtain ⟨s, D, a, own, dss, rfl, _⟩ := q
    rfl
  · obtain ⟨sh, D, a, own, dss, rfl, hs, ho, hday, hdw, hT, q⟩ := q
    have hu2 := hu_of hr
    refine ⟨_, (pss_cons (ps_setLc (i := 2) (own := [("label", 3)]) (g := gName 3) (tt := tYes) (te := tTup (tCons (tVar 3) (tCons (tCl (spClaimOr K) (fun _ _ _ => False) (tCons (tVar 1) (tCons (tDGet (tFld K (tVar 0) "own_terms") (tVar 3)) tNil))) tNil))) rfl sc_Shelf_claims_on.nd rfl rfl (sw_true rfl rfl rfl (by decide +kernel)) (pi_tup (pe_methR0 (pv 0) fx.shm.2.1 fx.s_labels.meth (m_labels fx) (hr.mono (by decide)) px)) (blkOk_by (N := ["self", "days", "some", "label", "claim"]) (sc := defScope (mem 58 6)) (by decide +kernel)) (fun _ _ _ _ _ => (pg_name (i := 3) (x := "label") sc_Shelf_claims_on.nd rfl (Or.inl rfl) (.inr rfl))) (fun _ _ _ _ _ => pts_nil) (fun _ _ _ _ _ => (pe_tup (pa_cons (pv 3) (pa_cons (pe_cr (c_claim_or_none fx lx) hr passL (pa_cons (pv 1) (pa_cons (pe_dget hu2 (pe_fld (pv 0) rfl) (pv 3) (fun _ _ => rfl)) pa_nil))) pa_nil)))))
    (pss_one (ps_ret (pe_lc (own := [("label", 3), ("claim", 4)]) (g := (gTup K 2 (gCons (gName 3) (gCons (gName 4) gNil)))) rfl sc_Shelf_claims_on.nd (pi_list (pv 2)) (blkOk_by (N := ["self", "days", "some", "label", "claim"]) (sc := defScope (mem 58 6)) (by decide +kernel)) (fun _ _ _ _ _ => (pg_tup (n := 2) rfl (pgs_cons (pg_name (i := 3) (x := "label") sc_Shelf_claims_on.nd rfl (Or.inl rfl) (.inr rfl)) (pgs_cons (pg_name (i := 4) (x := "claim") sc_Shelf_claims_on.nd rfl (Or.inl rfl) (.inr rfl)) pgs_nil)))) (fun _ _ _ _ _ => (pts_one (pt_cmpR op_notN (pv 4) pe_non (nomark _)))) (fun _ _ _ _ _ => (pe_tup (pa_cons (pv 3) (pa_cons (pv 4) pa_nil)))))))), ?_⟩
    repeat walk_at "k"
    obtain ⟨dx, hs1⟩ := id hs.1
    refine ⟨sh, dx, _, rfl, hs1, rfl, ?_⟩
    repeat walk_at "k"
    refine ⟨sh, D, own, rfl, hs, by have := ho.len; omega, fun ys H1 p hys hso e1 hp => ?_⟩
    have hyl : ys.length ≤ 21 := by rw [hys.length_eq]; unfold names; rw [List.length_map]; exact ho.len
    refine ⟨p, rfl, ⟨_, hp⟩, fun D2 hD2 => lc_fr (K := K) walk_tup hD2 (by rw [List.length_map]; omega) (fun H2 f => f.tup hp) (fun i acc H2 => ∃ qs : List Addr, acc = qs.map .ref ∧ Paired (fun q y => PairV K H2 q y (claimAt dss own y)) qs (ys.take i)) ⟨[], rfl, .nil⟩ (fun j acc H8 H9 k8 z => ?_) yAt_ext (fun j y H8 acc H9 hj f hD9 z yy Kt Kf hKt _ => ?_) fun H8 acc f hD8 z => ?_⟩
    · obtain ⟨qs, h1, h2⟩ := z
      exact ⟨qs, h1, Paired.mapP h2 fun _ _ z => z.tk k8⟩
    · obtain ⟨qs, rfl, hqs⟩ := z
      obtain ⟨rfl, hy⟩ := yy
      rw [List.getElem?_map] at hy
      obtain ⟨y, hyj, rfl⟩ := Option.map_eq_some_iff.mp hy
      have f9 : Fr K [] H H9 := e1.fr.trans f
      have hs9 := hs.fr f9 (by simp) (by simp)
      obtain ⟨kvs, h1, h2⟩ := hs9.2
      have hyn : y ∈ names own := hys.mem_iff.mp (List.mem_of_getElem? hyj)
      refine r_gname ⟨rfl, ?_⟩
      repeat walk_at "k"
      refine r_own fx hs9 rfl ?_
      repeat walk_at "k"
      have hg := DGet.k (k := .inr y) h1
      rcases h2.val y with ⟨_, z2⟩ | ⟨v, t, z1, z2, z3, z4⟩
      · exfalso
        obtain ⟨e, he, rfl⟩ := List.mem_map.mp hyn
        unfold lookN at z2
        rw [Option.map_eq_none_iff, List.find?_eq_none] at z2
        exact z2 e he (by simp)
      · rw [z1] at hg
        refine ⟨D, _, rfl, hg, ?_⟩
        repeat walk_at "k"
        obtain ⟨w1, w2, w3⟩ := ho.wf _ z4
        have fin : ∀ H' cv, Fr K [] H9 H' → (match claimAt dss own y with
            | some c => ∃ a, cv = .ref a ∧ SqT K H' a (c.map .int)
            | none => cv = .non) → ([V.str y, cv] : List V).length ≤ sizeLine ∧ ∀ p, H' p = none → Kt (.ref p) (upd H' p (.tup [.str y, cv])) := fun H' cv f' hc => by
          refine ⟨by show 2 ≤ sizeLine; decide, fun p2 hp2 => ?_⟩
          have e2 := Ext.new (o := .tup [.str y, cv]) hp2
          refine hKt _ _ (f'.trans e2.fr) ⟨qs ++ [p2], by simp, ?_⟩
          rw [take_succ_get hyj]
          refine paired_snoc (b := y) ⟨cv, .inl (.inl upd_same), ?_⟩ (Paired.mapP hqs fun _ _ z => (z.tk f'.tk).tk e2.tk)
          generalize claimAt dss own y = oc at hc
          cases oc with
          | none => exact hc
          | some c =>
            obtain ⟨b, hb1, hb2⟩ := hc
            exact ⟨b, hb1, e2.tup hb2⟩
        refine ⟨a, v, t, dss, rfl, z3, w1, w2, w3, hday.tk f9.tk, hdw.1, hdw.2, f9.tb hT, fun hok H' c f' hc => ?_, fun hok H' f' => ?_⟩
        · repeat walk_at "k"
          refine fin H' (.ref c) f' ?_
          have : claimAt dss own y = some (claim dss t) := by unfold claimAt; rw [z2, Option.bind_some, if_pos hok]
          rw [this]
          exact ⟨c, rfl, hc⟩
        · repeat walk_at "k"
          refine fin H' .non f' ?_
          have : claimAt dss own y = none := by unfold claimAt; rw [z2, Option.bind_some, if_neg (by rw [hok]; decide)]
          rw [this]
    · obtain ⟨qs, rfl, hqs⟩ := z
      rw [List.length_map, List.take_length] at hqs
      have f8 : Fr K [] H H8 := e1.fr.trans f
      repeat walk_at "k"
      refine ⟨D2, rfl, ⟨_, .inl (.inl hD8)⟩, fun D3 hD3 => lc_rel (K := K) walk_list hD3 (by rw [List.length_map, Paired.length hqs]; omega) (fun H2 e => .inl (.inl (e _ _ hD8))) (fun i acc H2 => ∃ rs : List Addr, acc = rs.map .ref ∧ ClmR K H2 rs (claimsL dss own (ys.take i))) ⟨[], rfl, .nil⟩ (fun j acc Ha Hb k8 z => ?_) yAt_ext (fun j y Ha acc Hb hj e k8 hDb z yy Kt Kf hKt hKf => ?_) fun Ha acc e hDa z => ?_⟩
      · obtain ⟨rs, h1, h2⟩ := z
        exact ⟨rs, h1, h2.tk k8⟩
      · obtain ⟨rs, rfl, hrs⟩ := z
        obtain ⟨rfl, hy⟩ := yy
        rw [List.getElem?_map] at hy
        obtain ⟨qa, hqa, rfl⟩ := Option.map_eq_some_iff.mp hy
        obtain ⟨y, hyj, cv, hq1, hq2⟩ := paired_get hqs j qa hqa
        rw [take_succ_get hyj, claimsL_snoc] at hKt hKf
        generalize claimAt dss own y = oc at hq2 hKt hKf
        cases oc with
        | none =>
          cases hq2
          refine ⟨qa, _, rfl, e.tup hq1, rfl, _, _, rfl, r_gname ⟨_, _, rfl, r_gname ⟨rfl, rfl, ?_⟩⟩⟩
          repeat walk_at "k"
          refine ⟨rfl, false, rfl, ?_⟩
          exact hKf _ (Ext.refl _) ⟨rs, rfl, by rw [List.append_nil]; exact hrs⟩
        | some c =>
          obtain ⟨b, rfl, hb⟩ := hq2
          refine ⟨qa, _, rfl, e.tup hq1, rfl, _, _, rfl, r_gname ⟨_, _, rfl, r_gname ⟨rfl, rfl, ?_⟩⟩⟩
          repeat walk_at "k"
          refine ⟨rfl, true, rfl, ?_⟩
          refine ite_eqT rfl ?_
          repeat walk_at "k"
          refine ⟨by show 2 ≤ sizeLine; decide, fun p2 hp2 => hKt _ _ (Ext.new hp2) ⟨rs ++ [p2], by simp, ?_⟩⟩
          have e2 := Ext.new (o := .tup [.str y, .ref b]) hp2
          exact paired_snoc (b := (y, c)) ⟨.ref b, .inl (.inl upd_same), b, rfl, e2.tup (e.tup hb)⟩ (hrs.tk e2.tk)
      · obtain ⟨rs, rfl, hrs⟩ := z
        rw [List.length_map, Paired.length hqs, List.take_length] at hrs
        exact q ys Ha D3 rs hys hso (f8.trans e.fr) (.of f8 hD3) hDa hrs
end
end
section
open PySem Spec PyProof.Rows L2
local macro_rules | `(tactic| walk_at "s") => `(tactic| first
  | with_reducible refine r_seq ?_
  | with_reducible refine r_next ?_
  | with_reducible refine r_asg ?_
  | with_reducible refine r_gname ?_
  | with_reducible refine r_ret ?_
  | with_reducible refine r_drop ?_
  | with_reducible refine r_ifs ?_
  | with_reducible refine r_var rfl ?_
  | with_reducible refine r_c ?_
  | with_reducible refine r_op ?_
  | with_reducible refine r_un ?_
  | with_reducible refine r_nil ?_
  | with_reducible refine r_cons ?_
  | with_reducible refine r_test ?_
  | with_reducible refine r_tb ?_
  | with_reducible refine r_and ?_
  | with_reducible refine r_or ?_
  | with_reducible refine r_not ?_
  | with_reducible refine r_andV ?_
  | with_reducible refine r_orV ?_
  | with_reducible refine r_notV ?_
  | with_reducible refine r_if ?_
  | with_reducible refine r_chain ?_
  | with_reducible refine r_cl ?_
  | with_reducible refine r_cb ?_
  | with_reducible refine r_bl ?_
  | with_reducible refine r_I0 ?_
  | with_reducible refine r_yes ?_
  | with_reducible refine r_itT ?_
  | with_reducible refine r_itL ?_
  | with_reducible refine r_itS ?_
  | with_reducible refine r_itE ?_
  | with_reducible refine r_revT ?_
  | with_reducible refine r_star ?_
  | with_reducible refine r_for ?_
  | with_reducible refine r_bm ?_
  | with_reducible refine r_bm0 ?_
  | with_reducible refine r_kget1 ?_
  | with_reducible refine r_kget2 ?_
  | with_reducible refine r_par ?_
  | with_reducible refine r_tup ?_
  | with_reducible refine r_lst ?_
  | with_reducible refine r_exI ?_
  | with_reducible refine r_itZ ?_
  | with_reducible refine r_dget ?_
  | with_reducible refine r_methR ?_
  | with_reducible refine r_dpop1 ?_
  | with_reducible refine r_dput ?_
  | with_reducible refine r_din ?_
  | with_reducible refine r_dnotin ?_
  | with_reducible refine r_nopart ?_
  | with_reducible refine r_lc ?_
  | with_reducible refine r_sl ?_
  | with_reducible refine r_part ?_
  | with_reducible refine r_eq rfl ?_
  | with_reducible refine r_ne rfl ?_
  | with_reducible refine iteT ?_
  | with_reducible refine iteF ?_
  | with_reducible refine ite_nt ?_
  | with_reducible refine ite_nf ?_)
local macro_rules | `(tactic| walk_at "k") => `(tactic| first
  | walk_at "s"
  | with_reducible refine ite_eqT (by decide +kernel) ?_
  | with_reducible refine ite_eqF (by decide +kernel) ?_)
open LamX
theorem eqv_rows (as bs : List Int) : PyData.eqv (.tuple (as.map .int)) (.tuple (bs.map .int)) = decide (as = bs) := by
  have h : ∀ as bs : List Int, PyData.eqvAll (as.map PyData.int) (bs.map PyData.int) = decide (as = bs) := fun as => by
    induction as with
    | nil => intro bs; cases bs <;> simp [PyData.eqvAll]
    | cons a as ih =>
      intro bs
      cases bs with
      | nil => simp [PyData.eqvAll]
      | cons b bs =>
        simp only [List.map_cons, PyData.eqvAll, ih]
        by_cases h1 : a = b
        · subst h1; simp [PyData.eqv]
        · simp [PyData.eqv, h1]
  simpa [PyData.eqv] using h as bs
theorem shaped_row (r : List Int) : SeqAt.shaped (.tuple (r.map .int)) = true := by
  have := dep_ints r
  unfold SeqAt.shaped
  simp only [PyData.canLay0, lay_ints, PyData.depth, Bool.true_and]
  exact decide_eq_true (by omega)
def prodL : List (List Int) → Nat
  | [] => 1
  | d :: r => d.length * prodL r
theorem step_len (found : List (List Int)) (d : List Int) : (pathsStep found d).length = found.length * d.length := by
  unfold pathsStep
  induction found with
  | nil => simp
  | cons p ps ih => rw [List.flatMap_cons, List.length_append, ih, List.length_map, List.length_cons, Nat.add_mul, Nat.one_mul, Nat.add_comm]
theorem paths_mul : ∀ (dss found : List (List Int)), (dss.foldl pathsStep found).length = found.length * prodL dss
  | [], found => by simp [prodL]
  | d :: dss, found => by rw [List.foldl_cons, paths_mul dss, step_len, prodL, Nat.mul_assoc]
theorem paths_prod (dss : List (List Int)) : (pathsOf dss).length = prodL dss := by
  unfold pathsOf
  rw [paths_mul]
  simp
theorem prodN_eq (dss : List (List Int)) : prodN dss = (prodL dss : Nat) := by
  have h : ∀ (dss : List (List Int)) (a : Int), (dss.map fun d => (d.length : Int)).foldl (· * ·) a = a * (prodL dss : Nat) := fun dss => by
    induction dss with
    | nil => intro a; simp [prodL]
    | cons d dss ih =>
      intro a
      rw [List.map_cons, List.foldl_cons, ih, prodL, Int.natCast_mul, Int.mul_assoc]
  unfold prodN
  rw [h, Int.one_mul]
theorem prodL_take : ∀ (dss : List (List Int)) (i : Nat), (∀ d ∈ dss, 1 ≤ d.length) → prodL (dss.take i) ≤ prodL dss ∧ 1 ≤ prodL dss
  | [], i, _ => by simp [prodL]
  | d :: dss, i, h => by
    have h1 := h d List.mem_cons_self
    have hp : 1 ≤ prodL dss := (prodL_take dss 0 fun x hx => h x (List.mem_cons_of_mem _ hx)).2
    refine ⟨?_, Nat.mul_pos h1 hp⟩
    cases i with
    | zero => exact Nat.mul_pos h1 hp
    | succ i => exact Nat.mul_le_mul_left _ (prodL_take dss i fun x hx => h x (List.mem_cons_of_mem _ hx)).1
theorem daysOk_wf {dss : List (List Int)} (h : daysOk dss = true) : DaysWf dss ∧ dss.length ≤ 4 ∧ (pathsOf dss).length ≤ 32 ∧ ∀ d ∈ dss, dayOk d = true := by
  unfold daysOk at h
  rw [Bool.and_eq_true, Bool.and_eq_true] at h
  have h1 := of_decide_eq_true h.1.1
  have h3 := of_decide_eq_true h.2
  have h2 := List.all_eq_true.mp h.1.2
  rw [prodN_eq] at h3
  have hne : ∀ d ∈ dss, 1 ≤ d.length := fun d hd => by
    have := h2 d hd
    unfold dayOk at this
    rw [Bool.and_eq_true, Bool.and_eq_true] at this
    exact (of_decide_eq_true this.1.1).1
  refine ⟨⟨by omega, fun i => ?_⟩, by omega, by rw [paths_prod]; omega, h2⟩
  rw [paths_prod]
  have := (prodL_take dss i hne).1
  omega
theorem daysV_ok {K : PySem.W.Frag} {H : Hp} {a : Addr} {dss : List (List Int)} (h : DaysAt K H a dss) (ho : daysOk dss = true) : DaysV K H (.ref a) true := by
  have hw := daysOk_wf ho
  have := DaysV.tup h (fun d hd => by
    have := hw.2.2.2 d hd
    unfold dayOk at this
    rw [Bool.and_eq_true, Bool.and_eq_true] at this
    have := (of_decide_eq_true this.1.1).2
    omega) (by omega)
  rw [ho] at this
  exact this
theorem cutV_from (xs : List V) {i : Nat} (h : i < xs.length) : cutV xs (some ((i : Nat) + 1)) none = xs.drop (i + 1) := by
  unfold cutV
  rw [HT.sIx_none, show ((i : Int) + 1) = ((i + 1 : Nat) : Int) by omega, HT.sIx_nat, Nat.min_eq_left (by omega)]
  exact List.take_of_length_le (by rw [List.length_drop]; exact Nat.le_refl _)
def rowL (e : Str × List Int) (r : List (Str × List Int)) : List (Str × Str) := (r.filter fun x => decide (x.2 = e.2)).map fun x => (e.1, x.1)
theorem rowL_snoc (e x : Str × List Int) (r : List (Str × List Int)) : rowL e (r ++ [x]) = rowL e r ++ (if x.2 = e.2 then [(e.1, x.1)] else []) := by
  unfold rowL
  rw [List.filter_append, List.map_append]
  by_cases h : x.2 = e.2
  · rw [if_pos h]; simp [h]
  · rw [if_neg h]; simp [h]
/-! ### pairs of names -/
abbrev PairsR (K : PySem.W.Frag) (H : Hp) (qs : List Addr) (ps : List (Str × Str)) : Prop := Paired (fun q e => SqT K H q [.str e.1, .str e.2]) qs ps
def PairsAt (K : PySem.W.Frag) (H : Hp) (p : Addr) (ps : List (Str × Str)) : Prop := ∃ qs, SqT K H p (qs.map .ref) ∧ PairsR K H qs ps
theorem PairsR.tk {K : PySem.W.Frag} {H H' : Hp} {qs : List Addr} {ps : List (Str × Str)} (h : PairsR K H qs ps) (e : TK K H H') : PairsR K H' qs ps := Paired.mapP h fun _ _ z => e _ _ z
def alikeN (cs : List (Str × List Int)) (i : Nat) : List (Str × Str) := (List.range i).flatMap fun k => match cs[k]? with
  | some e => rowL e (cs.drop (k + 1))
  | none => []
def alikeL (cs : List (Str × List Int)) : List (Str × Str) := alikeN cs cs.length
theorem alikeN_succ {cs : List (Str × List Int)} {i : Nat} {e : Str × List Int} (h : cs[i]? = some e) : alikeN cs (i + 1) = alikeN cs i ++ rowL e (cs.drop (i + 1)) := by
  unfold alikeN
  rw [List.range_succ, List.flatMap_append]
  simp [h]
section
variable {P : Program} {w : World} {K : PySem.W.Frag} {mg : Str → Option Value} {base : Heap}
theorem sc_Shelf_alike : FnScope ["self", "days", "some", "found", "spot", "one", "claim", "other", "far"] ["self", "days"] (defScope (mem 58 7)) := ⟨rfl, rfl, rfl, by decide +kernel, rfl, by decide +kernel, by decide +kernel⟩
def spAlike (K : PySem.W.Frag) : Sp := fun vs H Q E => ∃ (s D : Addr) (own : Own) (v : V), vs = [.ref s, v] ∧ ShAt K H s D own ∧ OwnOk own ∧ Tabs (TT K) H ∧
  ((DaysV K H v false ∧ ∀ H', Ext H H' → Raised E H' (He.ga K "BadDays") "given" v) ∨ ∃ a dss, v = .ref a ∧ DaysAt K H a dss ∧ daysOk dss = true ∧
    ∀ ys H' p, ys.Perm (names own) → sortedS ys = true → Fr K [] H H' → PairsAt K H' p (alikeL (claimsL dss own ys)) → Q (.ref p) H')
theorem m_alike (fx : Fx K mg w) (lx : Lx K mg base) : FnR P w K mg base (L2.CX P w) 9 (He.ma K (He.ga K "Shelf") "alike") (spAlike K) := by
  obtain ⟨fd, F⟩ := fx.s_alike.fn
  refine fnr_ok F sc_Shelf_alike (fun vs H Q E q => ?_) (fun _ _ _ _ _ _ us hl => match us, hl with | [_, _], _ => rfl) fun cdv A outer s H vs Q E hr q => ?_
  · obtain ⟨s, D, own, v, rfl, _⟩ := q
    rfl
  · obtain ⟨sh, D, own, v, rfl, hs, ho, hT, q⟩ := q
    have hu2 := hu_of hr
    have hu := hr.units
    refine ⟨_, (pss_cons (ps_par (i := 2) (j := 3) rfl sc_Shelf_alike.nd rfl rfl (by decide) rfl rfl (pa_cons (pe_methR (pv 0) fx.shm.2.1 fx.s_claims_on.meth (m_claims_on fx lx) (hr.mono (by decide)) px (pa_cons (pe_cr (c_need_days fx) hr px (pa_cons (pv 1) pa_nil)) pa_nil)) (pa_cons (pe_lst pa_nil) pa_nil)) rfl)
    (pss_cons (ps_for PassesOwn.leaving rfl (pi_enum rfl fx.n_enumerate (pa_cons (pv 2) pa_nil)) (pg_tup (n := 2) rfl (pgs_cons (pg_name (i := 4) (x := "spot") sc_Shelf_alike.nd rfl (Or.inl rfl) (.inl rfl)) (pgs_cons (pg_tup (n := 2) rfl (pgs_cons (pg_name (i := 5) (x := "one") sc_Shelf_alike.nd rfl (Or.inr rfl) (.inl rfl)) (pgs_cons (pg_name (i := 6) (x := "claim") sc_Shelf_alike.nd rfl (Or.inr rfl) (.inl rfl)) pgs_nil))) pgs_nil))) (pss_one (ps_expr (pe_bm PySem.F.plainAttrs_list PySem.F.slot_list_extend PySem.F.type_list_extend mt_extend (pv 3) (pa_cons (pe_lc (own := [("other", 7), ("far", 8)]) (g := (gTup K 2 (gCons (gName 7) (gCons (gName 8) gNil)))) (tt := tB (tOp (rEqD K) (tVar 8) (tVar 6))) rfl sc_Shelf_alike.nd (pi_list (pe_slice sl_list (pv 2) (po_some (pe_op op_add (pv 4) pe_int)) po_none)) (blkOk_by (N := ["self", "days", "some", "found", "spot", "one", "claim", "other", "far"]) (sc := defScope (mem 58 7)) (by decide +kernel)) (fun _ _ _ _ _ => (pg_tup (n := 2) rfl (pgs_cons (pg_name (i := 7) (x := "other") sc_Shelf_alike.nd rfl (Or.inl rfl) (.inr rfl)) (pgs_cons (pg_name (i := 8) (x := "far") sc_Shelf_alike.nd rfl (Or.inl rfl) (.inr rfl)) pgs_nil)))) (fun _ _ _ _ _ => (pts_one (pt_cmpR (op_eqD hu) (pv 8) (pv 6) (nomark _)))) (fun _ _ _ _ _ => (pe_tup (pa_cons (pv 5) (pa_cons (pv 7) pa_nil))))) pa_nil)))))
    (pss_one (ps_ret (pe_callTy call_tuple_of rfl fx.n_tuple (by decide +kernel) (pa_cons (pv 3) pa_nil)))))), ?_⟩
    repeat walk_at "k"
    obtain ⟨dx, hs1⟩ := id hs.1
    refine ⟨sh, dx, _, rfl, hs1, rfl, ?_⟩
    repeat walk_at "k"
    rcases q with ⟨hv, q⟩ | ⟨a, dss, rfl, hday, hok, q⟩
    · exact ⟨v, false, rfl, hv, fun z => absurd z (by decide), fun _ => q H (Ext.refl H)⟩
    · refine ⟨.ref a, true, rfl, daysV_ok hday hok, fun _ H1 e1 => ?_, fun z => absurd z (by decide)⟩
      repeat walk_at "k"
      have f1 : Fr K [] H H1 := e1.fr
      refine ⟨sh, D, a, own, dss, rfl, hs.ext e1, ho, hday.tk e1.tk, (daysOk_wf hok).1, f1.tb hT, fun ys H2 S qs hys hso f2 _ hS hqs => ?_⟩
      have f2' := f1.trans f2
      have hcl : (claimsL dss own ys).length ≤ 21 := by
        have h1 : (claimsL dss own ys).length ≤ ys.length := List.length_filterMap_le _ _
        rw [hys.length_eq] at h1
        unfold names at h1
        rw [List.length_map] at h1
        have := ho.len
        omega
      have hql := Paired.length hqs
      repeat walk_at "k"
      refine ⟨by decide, fun W hW => ?_⟩
      repeat walk_at "k"
      refine ⟨_, _, rfl, ?_⟩
      repeat walk_at "k"
      have eW := Ext.new (o := .lst []) hW
      have nSW : S ≠ W := ne_of_none hS hW
      have out : ∀ H', Fr K [W] (upd H2 W (.lst [])) H' → Fr K [] H H' := fun H' f => f2'.out hW f
      refine ⟨S, _, rfl, .inl (.inl (eW _ _ hS)), ?_⟩
      refine for_it walk_enum (fun i σ' H' => Fr K [W] (upd H2 W (.lst [])) H' ∧ ∃ (rs : List Addr) (o4 o5 o6 o7 o8 : Option V), σ' = [some (.ref sh), some (.ref a), some (.ref S), some (.ref W), o4, o5, o6, o7, o8] ∧ H' W = some (.lst (rs.map .ref)) ∧ PairsR K H' rs (alikeN (claimsL dss own ys) i) ∧ rs.length ≤ 21 * i)
        ⟨Fr.refl _, [], none, none, none, none, none, rfl, upd_same, .nil, by simp⟩ (fun i σ' H' _ z => .inl (.inl (z.1.lst (by simpa using nSW) (eW _ _ hS)))) (fun i y σ' Ha Hb hi z yy => ?_) fun σ' H' z => ?_
      · obtain ⟨f, rs, o4, o5, o6, o7, o8, rfl, hWa, hrs, hrl⟩ := z
        obtain ⟨T, y1, y2, rfl, hT2, rfl, hy1, hy2⟩ := yy
        cases hy1
        replace hy2 : (qs.map V.ref)[i]? = some y2 := hy2
        rw [List.getElem?_map] at hy2
        obtain ⟨qa, hqa, rfl⟩ := Option.map_eq_some_iff.mp hy2
        have eT := Ext.new (o := .tup [.int (i : Nat), .ref qa]) hT2
        have fb : Fr K [W] (upd H2 W (.lst [])) (upd Ha T (.tup [.int (i : Nat), .ref qa])) := f.trans eT.fr
        have hWb := eT _ _ hWa
        have hrb := hrs.tk (K := K) eT.tk
        have hTT : SqT K (upd Ha T (.tup [.int (i : Nat), .ref qa])) T [.int (i : Nat), .ref qa] := .inl (.inl upd_same)
        generalize upd Ha T (.tup [.int (i : Nat), .ref qa]) = Hb at fb hWb hrb hTT ⊢
        have hqb := (hqs.tk eW.tk).tk fb.tk
        obtain ⟨e, hei, cv, hq1, ca, rfl, hca⟩ := paired_get hqb i qa hqa
        have hSb : Hb S = some (.lst (qs.map .ref)) := fb.lst (by simpa using nSW) (eW _ _ hS)
        refine ⟨T, _, rfl, hTT, rfl, _, _, rfl, r_gname ⟨_, _, rfl, ⟨qa, _, rfl, hq1, rfl, _, _, rfl, r_gname ⟨_, _, rfl, r_gname ⟨rfl, rfl, ?_⟩⟩⟩⟩⟩
        repeat walk_at "k"
        refine ⟨tyL hWb, ?_⟩
        repeat walk_at "k"
        refine ⟨S, _, rfl, .inl (.inl hSb), fun S2 hS2 => ?_⟩
        have hiq : i < qs.length := by simpa using hi
        rw [cutV_from _ (by rw [List.length_map]; exact hiq), ← List.map_drop]
        have e3 := Ext.new (o := .lst ((qs.drop (i + 1)).map .ref)) hS2
        have hS3 : (upd Hb S2 (.lst ((qs.drop (i + 1)).map .ref))) S2 = some (.lst ((qs.drop (i + 1)).map .ref)) := upd_same
        have fc := fb.trans (e3.fr (K := K) (B := [W]))
        have hqc : ClmR K (upd Hb S2 (.lst ((qs.drop (i + 1)).map .ref))) qs (claimsL dss own ys) := hqb.tk e3.tk
        have hWc := e3 _ _ hWb
        have hrc := hrb.tk (K := K) e3.tk
        have hcac := e3.tup hca
        generalize upd Hb S2 (.lst ((qs.drop (i + 1)).map .ref)) = Hc at fc hqc hWc hS3 hrc hcac ⊢
        refine ⟨S2, rfl, ⟨_, .inl (.inl hS3)⟩, fun D3 hD3 => lc_rel (K := K) walk_list hD3 (by rw [List.length_map, List.length_drop]; omega) (fun H2 e => .inl (.inl (e _ _ hS3))) (fun j acc H2 => ∃ ts : List Addr, acc = ts.map .ref ∧ ts.length ≤ j ∧ PairsR K H2 ts (rowL e (((claimsL dss own ys).drop (i + 1)).take j))) ⟨[], rfl, Nat.le_refl _, .nil⟩ (fun j acc Ha Hb k8 z => ?_) yAt_ext (fun j y Hx acc Hd hj ed k8 hDb z yy Kt Kf hKt hKf => ?_) fun Hd acc ed hDa z => ?_⟩
        · obtain ⟨ts, h1, h2, h3⟩ := z
          exact ⟨ts, h1, h2, h3.tk k8⟩
        · obtain ⟨ts, rfl, hts1, hts⟩ := z
          obtain ⟨rfl, hy⟩ := yy
          rw [List.getElem?_map] at hy
          obtain ⟨q2, hq2, rfl⟩ := Option.map_eq_some_iff.mp hy
          rw [List.getElem?_drop] at hq2
          obtain ⟨e2, he2, cv, hp1, cb, rfl, hcb⟩ := paired_get hqc (i + 1 + j) q2 hq2
          have he3 : ((claimsL dss own ys).drop (i + 1))[j]? = some e2 := by rw [List.getElem?_drop]; exact he2
          rw [take_succ_get he3, rowL_snoc] at hKt hKf
          refine ⟨q2, _, rfl, ed.tup hp1, rfl, _, _, rfl, r_gname ⟨_, _, rfl, r_gname ⟨rfl, rfl, ?_⟩⟩⟩
          repeat walk_at "k"
          refine ⟨.tuple (e2.2.map .int), .tuple (e.2.map .int), .tup (ed.tup hcb) (dp_ints _), .tup (ed.tup hcac) (dp_ints _), shaped_row _, shaped_row _, ?_⟩
          rw [eqv_rows]
          by_cases h : e2.2 = e.2
          · rw [if_pos h] at hKt
            refine ⟨true, by rw [decide_eq_true h], ite_eqT rfl ?_⟩
            repeat walk_at "k"
            refine ⟨by show 2 ≤ sizeLine; decide, fun p2 hp2 => hKt _ _ (Ext.new hp2) ⟨ts ++ [p2], by simp, by simp; omega, ?_⟩⟩
            exact paired_snoc (b := (e.1, e2.1)) (.inl (.inl upd_same)) (hts.tk (Ext.new hp2).tk)
          · rw [if_neg h, List.append_nil] at hKf
            refine ⟨false, by rw [decide_eq_false h], ite_eqF rfl ?_⟩
            exact hKf _ (Ext.refl _) ⟨ts, rfl, by omega, hts⟩
        · obtain ⟨ts, rfl, hts1, hts⟩ := z
          rw [List.length_map, List.length_drop, hql, List.take_of_length_le (by rw [List.length_drop]; exact Nat.le_refl _)] at hts
          rw [List.length_map, List.length_drop] at hts1
          repeat walk_at "k"
          have hWd := ed _ _ hWc
          refine ⟨W, D3, _, _, rfl, rfl, hWd, hDa, by rw [List.length_map, List.length_map, sizeLine_eq]; omega, ?_⟩
          have fp : Fr K [W] Hd (upd Hd W (.lst (rs.map V.ref ++ ts.map V.ref))) := Fr.putL hWd (by simp)
          refine ⟨(fc.trans ed.fr).trans fp, rs ++ ts, _, _, _, _, _, rfl, by rw [upd_same, List.map_append], ?_, by rw [List.length_append]; omega⟩
          rw [alikeN_succ hei]
          exact paired_app ((hrc.tk ed.tk).tk fp.tk) (hts.tk fp.tk)
      · obtain ⟨f, rs, o4, o5, o6, o7, o8, rfl, hWa, hrs, hrl⟩ := z
        repeat walk_at "k"
        refine ⟨W, _, rfl, .inl ⟨.inl (.inl hWa), fun l hl => ?_⟩⟩
        have e2 := Ext.new (o := .tup (rs.map .ref)) hl
        rw [List.length_map, hql] at hrs
        exact q ys _ l hys hso ((out _ f).trans e2.fr) ⟨rs, .inl (.inl upd_same), hrs.tk e2.tk⟩
end
end
section
open PySem Spec PyProof.Rows L2
local macro_rules | `(tactic| walk_at "s") => `(tactic| first
  | with_reducible refine r_seq ?_
  | with_reducible refine r_next ?_
  | with_reducible refine r_asg ?_
  | with_reducible refine r_gname ?_
  | with_reducible refine r_ret ?_
  | with_reducible refine r_drop ?_
  | with_reducible refine r_ifs ?_
  | with_reducible refine r_var rfl ?_
  | with_reducible refine r_c ?_
  | with_reducible refine r_op ?_
  | with_reducible refine r_un ?_
  | with_reducible refine r_nil ?_
  | with_reducible refine r_cons ?_
  | with_reducible refine r_test ?_
  | with_reducible refine r_tb ?_
  | with_reducible refine r_and ?_
  | with_reducible refine r_or ?_
  | with_reducible refine r_not ?_
  | with_reducible refine r_andV ?_
  | with_reducible refine r_orV ?_
  | with_reducible refine r_notV ?_
  | with_reducible refine r_if ?_
  | with_reducible refine r_chain ?_
  | with_reducible refine r_cl ?_
  | with_reducible refine r_cb ?_
  | with_reducible refine r_bl ?_
  | with_reducible refine r_I0 ?_
  | with_reducible refine r_yes ?_
  | with_reducible refine r_itT ?_
  | with_reducible refine r_itL ?_
  | with_reducible refine r_itS ?_
  | with_reducible refine r_itE ?_
  | with_reducible refine r_revT ?_
  | with_reducible refine r_star ?_
  | with_reducible refine r_for ?_
  | with_reducible refine r_bm ?_
  | with_reducible refine r_bm0 ?_
  | with_reducible refine r_kget1 ?_
  | with_reducible refine r_kget2 ?_
  | with_reducible refine r_par ?_
  | with_reducible refine r_tup ?_
  | with_reducible refine r_lst ?_
  | with_reducible refine r_exI ?_
  | with_reducible refine r_itZ ?_
  | with_reducible refine r_dget ?_
  | with_reducible refine r_methR ?_
  | with_reducible refine r_dpop1 ?_
  | with_reducible refine r_dput ?_
  | with_reducible refine r_din ?_
  | with_reducible refine r_dnotin ?_
  | with_reducible refine r_nopart ?_
  | with_reducible refine r_lc ?_
  | with_reducible refine r_sl ?_
  | with_reducible refine r_part ?_
  | with_reducible refine r_eq rfl ?_
  | with_reducible refine r_ne rfl ?_
  | with_reducible refine iteT ?_
  | with_reducible refine iteF ?_
  | with_reducible refine ite_nt ?_
  | with_reducible refine ite_nf ?_)
local macro_rules | `(tactic| walk_at "k") => `(tactic| first
  | walk_at "s"
  | with_reducible refine ite_eqT (by decide +kernel) ?_
  | with_reducible refine ite_eqF (by decide +kernel) ?_)
open LamX
def geAll (a b : List Int) : Bool := (a.zip b).all fun p => decide (p.1 ≥ p.2)
/-- who pays at least as much -/
def payingN (c : List Int) (l : Str) (cs : List (Str × List Int)) : List Str := (cs.filter fun e => decide (e.1 ≠ l) && geAll e.2 c).map (·.1)
def payingL (dss : List (List Int)) (own : Own) (ys : List Str) (l : Str) : List Str := match claimAt dss own l with
  | some c => payingN c l (claimsL dss own ys)
  | none => []
theorem payingN_snoc (c : List Int) (l : Str) (cs : List (Str × List Int)) (e : Str × List Int) : payingN c l (cs ++ [e]) = payingN c l cs ++ (if (decide (e.1 ≠ l) && geAll e.2 c) = true then [e.1] else []) := by
  unfold payingN
  rw [List.filter_append, List.map_append]
  congr 1
  cases h : (decide (e.1 ≠ l) && geAll e.2 c) with
  | true => simp only [List.filter_cons, h]; rfl
  | false => simp only [List.filter_cons, h]; rfl
theorem TyX.ext {K : PySem.W.Frag} {H H' : Hp} {v : V} {t : Value} (h : TyX K H v t) (e : Ext H H') : TyX K H' v t := by
  cases h with
  | base h =>
    refine .base ?_
    cases h with
    | non => exact .non
    | bl x => exact .bl x
    | int x => exact .int x
    | str x => exact .str x
    | flt x => exact .flt x
    | lst h => exact .lst (e _ _ h)
    | frz h => exact .frz (e _ _ h)
    | tup h => exact .tup (e _ _ h)
    | dK h => exact .dK (e _ _ h)
    | dT h => exact .dT (e _ _ h)
    | ins h c1 c2 c3 c4 c5 => exact .ins (e _ _ h) c1 c2 c3 c4 c5
  | byt b => exact .byt b
  | set h => exact .set (e _ _ h)
  | kList h c => exact .kList h c
  | kTuple h c => exact .kTuple h c
  | kDict h c => exact .kDict h c
  | fTuple h => exact .fTuple (e _ _ h)
  | fDict h => exact .fDict (e _ _ h)
theorem LabV.ext {K : PySem.W.Frag} {H H' : Hp} {v : V} {b : Bool} (h : LabV K H v b) (e : Ext H H') : LabV K H' v b := by
  cases h with
  | str x h => exact .str x h
  | oth h k => exact .oth (TyX.ext h e) k
theorem There.tk {K : PySem.W.Frag} {H H' : Hp} {own : Own} {v : V} {o : Option T} (h : There K H own v o) (e : Ext H H') : There K H' own v o := by
  cases h with
  | bad h => exact .bad (h.ext e)
  | out h hl => exact .out (h.ext e) hl
  | at_ h hl => exact .at_ (h.ext e) hl
section
variable {P : Program} {w : World} {K : PySem.W.Frag} {mg : Str → Option Value} {base : Heap}
theorem sc_Shelf_paying : FnScope ["self", "days", "label", "own", "found", "other", "claim", "far", "near"] ["self", "days", "label"] (defScope (mem 58 8)) := ⟨rfl, rfl, rfl, by decide +kernel, rfl, by decide +kernel, by decide +kernel⟩
/-- a claim, or None -/
def ClmV (K : PySem.W.Frag) (H : Hp) (ov : V) (o : Option (List Int)) : Prop := match o with
  | some c => ∃ b, ov = .ref b ∧ SqT K H b (c.map .int)
  | none => ov = .non
theorem ClmV.tk {H H' : Hp} {ov : V} {o : Option (List Int)} (h : ClmV K H ov o) (e : TK K H H') : ClmV K H' ov o := by
  cases o with
  | none => exact h
  | some c =>
    obtain ⟨b, h1, h2⟩ := h
    exact ⟨b, h1, e _ _ h2⟩
theorem r_claimOr {H : Hp} {Q : VK} {E : XK} {a : Addr} {v : V} {t : T} {dss : List (List Int)} (ht : TR K H t v) (hw : wfT t) (hd : DaysAt K H a dss) (hdw : DaysWf dss) (hT : Tabs (TT K) H) (h : ∀ H' ov, Fr K [] H H' → ClmV K H' ov (if okC dss t = true then some (claim dss t) else none) → Q ov H') : spClaimOr K [.ref a, v] H Q E :=
  ⟨a, v, t, dss, rfl, ht, hw.1, hw.2.1, hw.2.2, hd, hdw.1, hdw.2, hT, fun ho H' p f hp => h H' (.ref p) f (by rw [if_pos ho]; exact ⟨p, rfl, hp⟩), fun ho H' f => h H' .non f (by rw [if_neg (by rw [ho]; decide)]; rfl)⟩
def spPaying (K : PySem.W.Frag) : Sp := fun vs H Q E => ∃ (s D : Addr) (own : Own) (v x : V), vs = [.ref s, v, x] ∧ ShAt K H s D own ∧ OwnOk own ∧ Tabs (TT K) H ∧
  ((DaysV K H v false ∧ ∀ H', Ext H H' → Raised E H' (He.ga K "BadDays") "given" v) ∨ ∃ a dss, v = .ref a ∧ DaysAt K H a dss ∧ daysOk dss = true ∧
    ((There K H own x none ∧ ∀ H', Ext H H' → Raised E H' (He.ga K "Missing") "given" x) ∨ ∃ l t, x = .str l ∧ There K H own (.str l) (some t) ∧
      ∀ ys H' p, ys.Perm (names own) → sortedS ys = true → Fr K [] H H' → SqT K H' p ((payingL dss own ys l).map .str) → Q (.ref p) H'))
theorem m_paying (fx : Fx K mg w) (lx : Lx K mg base) : FnR P w K mg base (L2.CX P w) 9 (He.ma K (He.ga K "Shelf") "paying") (spPaying K) := by
  obtain ⟨fd, F⟩ := fx.s_paying.fn
  refine fnr_ok F sc_Shelf_paying (fun vs H Q E q => ?_) (fun _ _ _ _ _ _ us hl => match us, hl with | [_, _, _], _ => rfl) fun cdv A outer s H vs Q E hr q => ?_
  · obtain ⟨s, D, own, v, x, rfl, _⟩ := q
    rfl
  · obtain ⟨sh, D, own, v, x, rfl, hs, ho, hT, q⟩ := q
    have hu2 := hu_of hr
    refine ⟨_, (pss_cons (ps_expr (pe_cr (c_need_days fx) hr px (pa_cons (pv 1) pa_nil)))
    (pss_cons (ps_expr (pe_methR (pv 0) fx.shm.2.1 fx.s_need_there.meth (m_need_there fx) (hr.mono (by decide)) px (pa_cons (pv 2) pa_nil)))
    (pss_cons (ps_par (i := 3) (j := 4) rfl sc_Shelf_paying.nd rfl rfl (by decide) rfl rfl (pa_cons (pe_cr (c_claim_or_none fx lx) hr px (pa_cons (pv 1) (pa_cons (pe_dget hu2 (pe_fld (pv 0) rfl) (pv 2) (fun _ _ => rfl)) pa_nil))) (pa_cons (pe_lst pa_nil) pa_nil)) rfl)
    (pss_cons (ps_for PassesOwn.leaving rfl (pi_list (pe_methR (pv 0) fx.shm.2.1 fx.s_claims_on.meth (m_claims_on fx lx) (hr.mono (by decide)) px (pa_cons (pv 1) pa_nil))) (pg_tup (n := 2) rfl (pgs_cons (pg_name (i := 5) (x := "other") sc_Shelf_paying.nd rfl (Or.inl rfl) (.inl rfl)) (pgs_cons (pg_name (i := 6) (x := "claim") sc_Shelf_paying.nd rfl (Or.inl rfl) (.inl rfl)) pgs_nil))) (pss_one (ps_if (PW.pt (pw_and (pt_cmpR op_notN (pv 3) pe_non (nomark _)) (pw_and (pt_cmpR op_ne (pv 5) (pv 2) (nomark _)) (pw_and1 (pt_val (pe_callB (cr_all rfl) rfl fx.n_all (by decide +kernel) (pa_cons (pe_lc (own := [("far", 7), ("near", 8)]) (g := (gTup K 2 (gCons (gName 7) (gCons (gName 8) gNil)))) (tt := tYes) rfl sc_Shelf_paying.nd (RZ.pi_zipA rfl fx.n_zip (pa_cons (pv 6) (pa_cons (pv 3) pa_nil))) (blkOk_by (N := ["self", "days", "label", "own", "found", "other", "claim", "far", "near"]) (sc := defScope (mem 58 8)) (by decide +kernel)) (fun _ _ _ _ _ => (pg_tup (n := 2) rfl (pgs_cons (pg_name (i := 7) (x := "far") sc_Shelf_paying.nd rfl (Or.inl rfl) (.inr rfl)) (pgs_cons (pg_name (i := 8) (x := "near") sc_Shelf_paying.nd rfl (Or.inl rfl) (.inr rfl)) pgs_nil)))) (fun _ _ _ _ _ => pts_nil) (fun _ _ _ _ _ => (pe_cmpR op_ge (pv 7) (pv 8) (nomark _)))) pa_nil))))))) (pss_one (ps_expr (pe_bm PySem.F.plainAttrs_list PySem.F.slot_list_append PySem.F.type_list_append mt_append (pv 4) (pa_cons (pv 5) pa_nil)))) pss_nil)))
    (pss_one (ps_ret (pe_callTy call_tuple_of rfl fx.n_tuple (by decide +kernel) (pa_cons (pv 4) pa_nil)))))))), ?_⟩
    repeat walk_at "k"
    rcases q with ⟨hv, q⟩ | ⟨a, dss, rfl, hday, hok, q⟩
    · exact ⟨v, false, rfl, hv, fun z => absurd z (by decide), fun _ => q H (Ext.refl H)⟩
    · refine ⟨.ref a, true, rfl, daysV_ok hday hok, fun _ H1 e1 => ?_, fun z => absurd z (by decide)⟩
      repeat walk_at "k"
      obtain ⟨dx, hs1⟩ := id hs.1
      refine ⟨sh, dx, _, rfl, e1 _ _ hs1, rfl, ?_⟩
      repeat walk_at "k"
      rcases q with ⟨hx, q⟩ | ⟨l, t, rfl, hx, q⟩
      · exact ⟨sh, D, own, x, none, rfl, hs.ext e1, hx.tk e1, fun z => absurd z (by decide), fun _ H' e => q H' (e1.trans e)⟩
      · refine ⟨sh, D, own, .str l, some t, rfl, hs.ext e1, hx.tk e1, fun _ H2 e2 => ?_, fun z => nomatch z⟩
        have e12 := e1.trans e2
        repeat walk_at "k"
        refine r_own fx (hs.ext e12) rfl ?_
        repeat walk_at "k"
        obtain ⟨kvs, h1, h2⟩ := (hs.ext e12).2
        have hg := DGet.k (k := .inr l) h1
        cases hx with
        | @at_ l t hlab hlook =>
        rcases h2.val l with ⟨_, z⟩ | ⟨tv, t', z1, z2, z3, z4⟩
        · rw [hlook] at z
          cases z
        · rw [hlook] at z2
          cases z2
          rw [z1] at hg
          refine ⟨D, _, rfl, hg, ?_⟩
          repeat walk_at "k"
          have f12 : Fr K [] H H2 := e12.fr
          have hdw := (daysOk_wf hok).1
          have hca : claimAt dss own l = if okC dss t = true then some (claim dss t) else none := by
            unfold claimAt
            rw [hlook]
            rfl
          refine r_claimOr z3 (ho.wf _ z4) (hday.tk f12.tk) hdw (f12.tb hT) fun H3 ov f3 hov => ?_
          rw [← hca] at hov
          have f13 := f12.trans f3
          repeat walk_at "k"
          refine ⟨by decide, fun W hW => ?_⟩
          repeat walk_at "k"
          refine ⟨_, _, rfl, ?_⟩
          repeat walk_at "k"
          have eW := Ext.new (o := .lst []) hW
          have fW : Fr K [] H (upd H3 W (.lst [])) := f13.trans eW.fr
          have hW0 : (upd H3 W (.lst [])) W = some (.lst []) := upd_same
          have hovW := hov.tk (K := K) eW.tk
          have nW : H3 W = none := hW
          have out : ∀ H', Fr K [W] (upd H3 W (.lst [])) H' → Fr K [] H H' := fun H' f => f13.out hW f
          generalize upd H3 W (.lst []) = H4 at eW fW hW0 hovW out ⊢
          refine ⟨sh, dx, _, rfl, fW.kp _ _ (by simp) hs1 (fun _ z => by cases z), rfl, ?_⟩
          repeat walk_at "k"
          refine ⟨sh, D, a, own, dss, rfl, hs.fr fW (by simp) (by simp), ho, hday.tk fW.tk, hdw, fW.tb hT, fun ys H5 S qs hys hso f5 hSn hS hqs => ?_⟩
          refine ⟨S, rfl, ⟨_, .inl (.inl hS)⟩, ?_⟩
          have hW5 : H5 W = some (.lst []) := f5.kp _ _ (by simp) hW0 fun _ z => by cases z
          have hov5 := hovW.tk (K := K) f5.tk
          have out5 : ∀ H', Fr K [W] H5 H' → Fr K [] H H' := fun H' f => out H' ((f5.more (by simp)).trans f)
          have nSW : S ≠ W := hSn.ne hW0
          have hcl : (claimsL dss own ys).length ≤ 21 := by
            have h1 : (claimsL dss own ys).length ≤ ys.length := List.length_filterMap_le _ _
            rw [hys.length_eq] at h1
            unfold names at h1
            rw [List.length_map] at h1
            have := ho.len
            omega
          have hql := Paired.length hqs
          refine for_it walk_list (fun i σ' H' => Fr K [W] H5 H' ∧ ∃ (rs : List Str) (o5 o6 o7 o8 : Option V), σ' = [some (.ref sh), some (.ref a), some (.str l), some ov, some (.ref W), o5, o6, o7, o8] ∧ H' W = some (.lst (rs.map .str)) ∧ rs.length ≤ i ∧ rs = match claimAt dss own l with
              | some c => payingN c l ((claimsL dss own ys).take i)
              | none => [])
            ⟨Fr.refl _, [], none, none, none, none, rfl, hW5, Nat.le_refl _, by cases claimAt dss own l <;> rfl⟩ (fun i σ' H' _ z => .inl (.inl (z.1.lst (by simpa using nSW) hS))) (fun i y σ' Ha Hb hi z yy => ?_) fun σ' H' z => ?_
          · obtain ⟨f, rs, o5, o6, o7, o8, rfl, hWa, hrl, hrs⟩ := z
            obtain ⟨rfl, hy⟩ := yy
            rw [List.getElem?_map] at hy
            obtain ⟨qa, hqa, rfl⟩ := Option.map_eq_some_iff.mp hy
            obtain ⟨e, hei, cv, hq1, ca, rfl, hca⟩ := paired_get (hqs.tk f.tk) i qa hqa
            have hov6 := hov5.tk (K := K) f.tk
            refine ⟨qa, _, rfl, hq1, rfl, _, _, rfl, r_gname ⟨_, _, rfl, r_gname ⟨rfl, ?_⟩⟩⟩
            have hiq : i < qs.length := by simpa using hi
            have hri : rs.length ≤ 21 := by omega
            generalize hoc : claimAt dss own l = oc at hrs hov6 ⊢
            cases oc with
            | none =>
              cases hov6
              repeat walk_at "k"
              refine ⟨rfl, false, rfl, ?_⟩
              repeat walk_at "k"
              exact ⟨f, rs, _, _, _, _, rfl, hWa, by omega, by rw [hrs]⟩
            | some c =>
              obtain ⟨b, rfl, hb⟩ := hov6
              repeat walk_at "k"
              refine ⟨rfl, true, rfl, ?_⟩
              repeat walk_at "k"
              have goon : ∀ H', Ext Hb H' → ((decide (e.1 ≠ l) && geAll e.2 c) = false) → Fr K [W] H5 H' ∧ ∃ (rs : List Str) (o5' o6' o7' o8' : Option V), [some (.ref sh), some (.ref a), some (.str l), some (.ref b), some (.ref W), some (.str e.1), some (.ref ca), o7, o8] = [some (.ref sh), some (.ref a), some (.str l), some (.ref b), some (.ref W), o5', o6', o7', o8'] ∧ H' W = some (.lst (rs.map .str)) ∧ rs.length ≤ i + 1 ∧ rs = payingN c l ((claimsL dss own ys).take (i + 1)) := fun H' e' hf => by
                refine ⟨f.trans e'.fr, rs, _, _, _, _, rfl, e' _ _ hWa, by omega, ?_⟩
                rw [take_succ_get hei, payingN_snoc, if_neg (by rw [hf]; decide), List.append_nil, hrs]
              by_cases hne : e.1 = l
              · rw [decide_eq_true (show V.str e.1 = V.str l by rw [hne])]
                repeat walk_at "k"
                exact goon Hb (Ext.refl _) (by simp [hne])
              · rw [decide_eq_false (show ¬ V.str e.1 = V.str l from fun z => hne (V.str.inj z))]
                repeat walk_at "k"
                refine ⟨ca, b, _, _, rfl, .inr ⟨hca, hb, fun D2 hD2 => ?_⟩⟩
                have hzl : min (e.2.map V.int).length (c.map V.int).length = (e.2.zip c).length := by
                  rw [List.length_map, List.length_map, List.length_zip]
                have hel : e.2.length ≤ 1000 := by
                  have hm := List.mem_of_getElem? hei
                  unfold claimsL at hm
                  obtain ⟨y0, _, hy0⟩ := List.mem_filterMap.mp hm
                  obtain ⟨c0, hc0, rfl⟩ := Option.map_eq_some_iff.mp hy0
                  unfold claimAt at hc0
                  obtain ⟨t0, _, ht0⟩ := Option.bind_eq_some_iff.mp hc0
                  split at ht0
                  · cases ht0
                    show (claim dss t0).length ≤ 1000
                    unfold claim
                    rw [List.length_map]
                    have := (daysOk_wf hok).2.2.1
                    omega
                  · cases ht0
                refine lc_vals (K := K) (walk_zipT (a := ca) (b := b) hzl.symm) hD2 (by rw [List.length_zip]; omega) (fun H6 e6 => ⟨e6.tup hca, e6.tup hb⟩) (fun i => .bl (decide (((e.2.zip c)[i]?.getD (0, 0)).1 ≥ ((e.2.zip c)[i]?.getD (0, 0)).2))) yPair_ext (fun j y H0 H6 hj e6 yy Kt hk => ?_) fun H6 e6 hl6 => ?_
                · obtain ⟨T, x1, x2, rfl, hT, rfl, hx1, hx2⟩ := yy
                  have hx1 : (e.2.map V.int)[j]? = some x1 := hx1
                  have hx2 : (c.map V.int)[j]? = some x2 := hx2
                  rw [List.getElem?_map] at hx1 hx2
                  obtain ⟨n1, hn1, rfl⟩ := Option.map_eq_some_iff.mp hx1
                  obtain ⟨n2, hn2, rfl⟩ := Option.map_eq_some_iff.mp hx2
                  refine ⟨T, _, rfl, .inl (.inl upd_same), rfl, _, _, rfl, r_gname ⟨_, _, rfl, r_gname ⟨rfl, rfl, ?_⟩⟩⟩
                  repeat walk_at "k"
                  have ez : (e.2.zip c)[j]? = some (n1, n2) := List.getElem?_zip_eq_some.mpr ⟨hn1, hn2⟩
                  rw [ez] at hk
                  exact hk _ (Ext.refl _)
                · have e7 : (List.range (e.2.zip c).length).map (fun i => V.bl (decide (((e.2.zip c)[i]?.getD (0, 0)).1 ≥ ((e.2.zip c)[i]?.getD (0, 0)).2))) = ((e.2.zip c).map fun p => decide (p.1 ≥ p.2)).map V.bl := by
                    rw [List.map_map]
                    exact map_range_get (e.2.zip c) _ _ fun i x hx => by rw [hx]; rfl
                  rw [e7] at hl6
                  repeat walk_at "k"
                  refine r_all (.inl (.inl hl6)) ?_
                  have hge : ((e.2.zip c).map fun p => decide (p.1 ≥ p.2)).all id = geAll e.2 c := by
                    rw [List.all_map]
                    rfl
                  rw [hge]
                  have hW6 := e6 _ _ hWa
                  cases hg : geAll e.2 c with
                  | false =>
                    repeat walk_at "k"
                    exact goon H6 e6 (by rw [hg, Bool.and_false])
                  | true =>
                    repeat walk_at "k"
                    refine ⟨tyL hW6, ?_⟩
                    repeat walk_at "k"
                    refine ⟨W, _, _, rfl, rfl, hW6, by rw [List.length_map, sizeLine_eq]; omega, ?_⟩
                    have fp : Fr K [W] H6 (upd H6 W (.lst (rs.map V.str ++ [.str e.1]))) := Fr.putL hW6 (by simp)
                    refine ⟨(f.trans e6.fr).trans fp, rs ++ [e.1], _, _, _, _, rfl, by rw [upd_same, List.map_append]; rfl, by rw [List.length_append]; simp; omega, ?_⟩
                    show rs ++ [e.1] = payingN c l _
                    rw [take_succ_get hei, payingN_snoc, if_pos (by rw [hg]; simp [hne]), hrs]
          · obtain ⟨f, rs, o5, o6, o7, o8, rfl, hWa, hrl, hrs⟩ := z
            repeat walk_at "k"
            refine ⟨W, _, rfl, .inl ⟨.inl (.inl hWa), fun p hp => ?_⟩⟩
            refine q ys _ p hys hso ((out5 _ f).trans (Ext.new hp).fr) (.inl (.inl ?_))
            rw [upd_same, hrs, List.length_map, hql, List.take_length]
            rfl
end
end
section
open PySem Spec PyProof.Rows L2
local macro_rules | `(tactic| walk_at "s") => `(tactic| first
  | with_reducible refine r_seq ?_
  | with_reducible refine r_next ?_
  | with_reducible refine r_asg ?_
  | with_reducible refine r_gname ?_
  | with_reducible refine r_ret ?_
  | with_reducible refine r_drop ?_
  | with_reducible refine r_ifs ?_
  | with_reducible refine r_var rfl ?_
  | with_reducible refine r_c ?_
  | with_reducible refine r_op ?_
  | with_reducible refine r_un ?_
  | with_reducible refine r_nil ?_
  | with_reducible refine r_cons ?_
  | with_reducible refine r_test ?_
  | with_reducible refine r_tb ?_
  | with_reducible refine r_and ?_
  | with_reducible refine r_or ?_
  | with_reducible refine r_not ?_
  | with_reducible refine r_andV ?_
  | with_reducible refine r_orV ?_
  | with_reducible refine r_notV ?_
  | with_reducible refine r_if ?_
  | with_reducible refine r_chain ?_
  | with_reducible refine r_cl ?_
  | with_reducible refine r_cb ?_
  | with_reducible refine r_bl ?_
  | with_reducible refine r_I0 ?_
  | with_reducible refine r_yes ?_
  | with_reducible refine r_itT ?_
  | with_reducible refine r_itL ?_
  | with_reducible refine r_itS ?_
  | with_reducible refine r_itE ?_
  | with_reducible refine r_revT ?_
  | with_reducible refine r_star ?_
  | with_reducible refine r_for ?_
  | with_reducible refine r_bm ?_
  | with_reducible refine r_bm0 ?_
  | with_reducible refine r_kget1 ?_
  | with_reducible refine r_kget2 ?_
  | with_reducible refine r_par ?_
  | with_reducible refine r_tup ?_
  | with_reducible refine r_lst ?_
  | with_reducible refine r_exI ?_
  | with_reducible refine r_itZ ?_
  | with_reducible refine r_dget ?_
  | with_reducible refine r_methR ?_
  | with_reducible refine r_dpop1 ?_
  | with_reducible refine r_dput ?_
  | with_reducible refine r_din ?_
  | with_reducible refine r_dnotin ?_
  | with_reducible refine r_nopart ?_
  | with_reducible refine r_lc ?_
  | with_reducible refine r_sl ?_
  | with_reducible refine r_part ?_
  | with_reducible refine r_eq rfl ?_
  | with_reducible refine r_ne rfl ?_
  | with_reducible refine iteT ?_
  | with_reducible refine iteF ?_
  | with_reducible refine ite_nt ?_
  | with_reducible refine ite_nf ?_)
local macro_rules | `(tactic| walk_at "k") => `(tactic| first
  | walk_at "s"
  | with_reducible refine ite_eqT (by decide +kernel) ?_
  | with_reducible refine ite_eqF (by decide +kernel) ?_)
open LamX
/-- the data of what stands there -/
def datas (own : Own) : List (Key × PyData) := own.map fun e => (Sum.inr e.1, e.2.data)
def eqN (a b : Own) : Bool := eqDD (datas a) (datas b)
section
variable {P : Program} {w : World} {K : PySem.W.Frag} {mg : Str → Option Value} {base : Heap}
theorem OwnV.dpd {H : Hp} {kvs : List (Key × V)} {own : Own} (h : OwnV K H kvs own) (hh : ∀ e ∈ own, e.2.hgt ≤ 60) : DpD K H kvs (datas own) := by
  induction h with
  | nil => exact .nil
  | @cons q p qs ps h _ ih =>
    exact .cons ⟨h.1, h.2.dp, T.shaped _ (hh _ List.mem_cons_self)⟩ (ih fun e he => hh e (List.mem_cons_of_mem _ he))
theorem ShAt.ty (fx : Fx K mg w) {H : Hp} {s D : Addr} {own : Own} (h : ShAt K H s D own) : TyX K H (.ref s) (.ref (He.ga K "Shelf")) := by
  obtain ⟨⟨dx, h1⟩, _⟩ := h
  exact .base (.ins h1 fx.shm.2.1 fx.shs.2.2.1 fx.shs.2.2.2.1 fx.shs.2.2.2.2 fx.shs.2.1)
theorem sc_Shelf_eq : FnScope ["self", "other"] ["self", "other"] (defScope (mem 58 11)) := ⟨rfl, rfl, rfl, by decide +kernel, rfl, by decide +kernel, by decide +kernel⟩
def spEq (K : PySem.W.Frag) : Sp := fun vs H Q _ => ∃ (s D : Addr) (own : Own) (y : V), vs = [.ref s, y] ∧ ShAt K H s D own ∧ (∀ e ∈ own, e.2.hgt ≤ 60) ∧
  ((∃ s2 D2 own2, y = .ref s2 ∧ ShAt K H s2 D2 own2 ∧ (∀ e ∈ own2, e.2.hgt ≤ 60) ∧ Q (.bl (eqN own own2)) H) ∨ ∃ t ∈ plainT, TyX K H y (.type t) ∧ Q (.bl false) H)
theorem m_eq (fx : Fx K mg w) : FnR P w K mg base (L2.CX P w) 1 (He.ma K (He.ga K "Shelf") "__eq__") (spEq K) := by
  obtain ⟨fd, F⟩ := fx.s_eq.fn
  refine fnr_ok F sc_Shelf_eq (fun vs H Q E q => ?_) (fun _ _ _ _ _ _ us hl => match us, hl with | [_, _], _ => rfl) fun cdv A outer s H vs Q E hr q => ?_
  · obtain ⟨s, D, own, y, rfl, _⟩ := q
    rfl
  · obtain ⟨sh, D, own, y, rfl, hs, hh, q⟩ := q
    have hu : (A.deeper (envOfC ("Shelf" ++ "." ++ "__eq__") (defScope (mem 58 11)) s.heap.objs.size (He.ma K (He.ga K "Shelf") "__eq__") cdv)).units + 70 < cLine := by
      have := hr.un
      omega
    refine ⟨_, (pss_one (ps_ret (pe_and (pe_callB call_isi rfl fx.n_isinstance (by decide +kernel) (pa_cons (pv 1) (pa_cons (pe_glob (v := .ref (He.ga K "Shelf")) rfl fx.shm.1 rfl) pa_nil))) (pe_one (pe_cmpR (op_eqDD hu) (pe_fld (pv 0) rfl) (pe_fld (pv 1) rfl) (nomark _)))))), ?_⟩
    repeat walk_at "k"
    rcases q with ⟨s2, D2, own2, rfl, hs2, hh2, q⟩ | ⟨t, ht, hy, q⟩
    · refine r_isi (.own _) (hs2.ty fx) fx.shk.1 ?_
      repeat walk_at "k"
      refine r_own fx hs rfl ?_
      repeat walk_at "k"
      refine r_own fx hs2 rfl ?_
      obtain ⟨kvs, h1, h2⟩ := hs.2
      obtain ⟨kvs2, h3, h4⟩ := hs2.2
      exact ⟨D, D2, kvs, kvs2, _, _, rfl, rfl, h1, h3, h2.dpd hh, h4.dpd hh2, q⟩
    · refine r_isi (.own _) hy (fx.shk.2 t ht).1 ?_
      repeat walk_at "k"
      exact q
/-! ### Shelf() -/
theorem sc_Shelf_init : FnScope ["self"] ["self"] (defScope (mem 58 0)) := ⟨rfl, rfl, rfl, by decide +kernel, rfl, by decide +kernel, by decide +kernel⟩
def tShelf (K : PySem.W.Frag) : TE := fun _ H Q => ∀ H' s D, Ext H H' → H s = none → H D = none → ShAt K H' s D [] → Q (.ref s) H'
theorem pe_shelf {X : Cx} {E : XK} {p pos : Pos} (fx : Fx X.K X.mg X.w) (hr : Room 2 X.A) (hx : Passes (L2.CX X.prog X.w) X E) (hg : Gl X "Shelf" := by rfl) : PE X (.Call (.Name "Shelf" p) [] [] pos) (tShelf X.K) := by
  obtain ⟨fd, F⟩ := fx.s_init.fn
  have G : FnOk X.prog X.w X.K X.mg X.base (L2.CX X.prog X.w) 1 (He.ma X.K (He.ga X.K "Shelf") "__init__") fd ["self"] (fun vs H Q _ => ∃ (x dx : Addr), vs = [.ref x] ∧ H x = some (.ins (He.ga X.K "Shelf") dx []) ∧ ∀ D, H D = none → Q .non (upd (upd H D (.dK [])) x (.ins (He.ga X.K "Shelf") dx [("own_terms", .ref D)]))) := by
    refine F.okX sc_Shelf_init (fun vs H Q E q => ?_) fun cdv A outer s H vs Q E hr q => ?_
    · obtain ⟨x, dx, rfl, _⟩ := q
      rfl
    · obtain ⟨x, dx, rfl, h1, q⟩ := q
      refine ⟨_, pss_one (ps_fld (pv 0) pe_dnewK rfl), ?_⟩
      refine fun D hD => ?_
      refine ⟨_, rfl, x, _, dx, [], rfl, ?_, fx.shm.2.1, fx.shm.2.2.2, by decide, q D hD⟩
      rw [upd_ne (ne_of_none h1 hD)]
      exact h1
  have b := F.binds (ps := ["self"]) fun _ _ _ _ _ _ us hl => match us, hl with | [_], _ => rfl
  have mk := pe_make0 (p := p) (pos := pos) fx.shm.2.2.1 G (k := 1) hr hg fx.shm.1 b .nil hx
  refine ⟨fun pins s σ H Q I h => mk.run pins s σ H Q I fun x dx h1 h2 h3 => ⟨x, dx, rfl, upd_same, fun D hD => ⟨rfl, ?_⟩⟩⟩
  have h4 : upd H dx (.own x) x = none := by rw [upd_ne (Ne.symm h3)]; exact h1
  have e := ((Ext.new (o := .own x) h2).trans (Ext.new (o := .ins (He.ga X.K "Shelf") dx []) h4))
  have e2 := e.trans (Ext.new (o := .dK []) hD)
  have nD : H D = none := e.none hD
  have nxD : x ≠ D := ne_of_none upd_same hD
  refine h _ x D (e2.out h1) h1 nD ⟨⟨dx, upd_same⟩, [], ?_, .nil⟩
  rw [upd_ne (Ne.symm nxD), upd_same]
end
end
section
open PySem Spec PyProof.Rows L2
open LamX
section
variable {σ : L2.St} {H : Hp} {Q : VK} {to ti te tk tv : TE} {v : V} {t : TSet}
theorem r_gsub {QG : L2.St → Hp → Prop} (h : to σ H fun o H1 => ti σ H1 fun i H2 => t o i v H2 fun H3 => QG σ H3) : gSub to ti t v σ H QG := h
theorem r_setL {p : Addr} {xs : List V} {k : Int} {j : Nat} {QH : Hp → Prop} (h : H p = some (.lst xs)) (hj : ixN xs.length k = some j) (q : QH (upd H p (.lst (xs.set j v)))) : rSetL (.ref p) (.int k) v H QH := ⟨p, xs, k, j, rfl, rfl, h, hj, q⟩
theorem r_disp {trs : List (TE × TE)} (h : ∀ p, H p = none → tPairs trs σ (upd H p (.dK [])) fun ps H2 => H2 p = some (.dK []) ∧ ∃ kvs : List (Key × V), ps = kvs.map (fun kv => (kV kv.1, kv.2)) ∧ kvs.length ≤ 15 ∧ Q (.ref p) (upd H2 p (.dK (mergeK [] kvs)))) : tDisp trs σ H Q := h
theorem r_pnil {QP : List (V × V) → Hp → Prop} (h : QP [] H) : tPairs [] σ H QP := h
theorem r_pcons {trs : List (TE × TE)} {QP : List (V × V) → Hp → Prop} (h : tk σ H fun x H1 => tv σ H1 fun y H2 => tPairs trs σ H2 fun ps H3 => QP ((x, y) :: ps) H3) : tPairs ((tk, tv) :: trs) σ H QP := h
theorem r_dnewK (h : ∀ p, H p = none → Q (.ref p) (upd H p (.dK []))) : tDNewK σ H Q := h
end
/-! ### the drawing state: its dict, the list of its cells, the list of what is left of them; n draws at most so far -/
def stKs (cs lf : Addr) (i : Int) : List (Key × V) := [(.inr "cells", .ref cs), (.inr "lefts", .ref lf), (.inr "at", .int i), (.inr "room", .int 0)]
def StAt (H : Hp) (st cs lf : Addr) (n : Nat) : Prop := ∃ (cells lefts : List Int) (i : Int), H st = some (.dK (stKs cs lf i)) ∧ H cs = some (.lst (cells.map .int)) ∧ H lf = some (.lst (lefts.map .int)) ∧ cells ≠ [] ∧ lefts.length = cells.length ∧ cells.length ≤ 1000 ∧ 0 ≤ i ∧ i ≤ n ∧ cs ≠ lf
theorem st_at {cs lf : Addr} {i j : Int} : putK (stKs cs lf i) (.inr "at") (.int j) = stKs cs lf j := rfl
theorem StAt.more {H : Hp} {st cs lf : Addr} {n m : Nat} (h : StAt H st cs lf n) (hm : n ≤ m) : StAt H st cs lf m := by
  obtain ⟨cells, lefts, i, h1, h2, h3, h4, h5, h6, h7, h8, h9⟩ := h
  exact ⟨cells, lefts, i, h1, h2, h3, h4, h5, h6, h7, by omega, h9⟩
theorem StAt.fr {K : PySem.W.Frag} {B : List Addr} {H H' : Hp} {st cs lf : Addr} {n : Nat} (h : StAt H st cs lf n) (f : Fr K B H H') (n1 : st ∉ B) (n2 : cs ∉ B) (n3 : lf ∉ B) : StAt H' st cs lf n := by
  obtain ⟨cells, lefts, i, h1, h2, h3, h4⟩ := h
  exact ⟨cells, lefts, i, f.kp _ _ n1 h1 (fun _ z => by cases z), f.lst n2 h2, f.lst n3 h3, h4⟩
theorem StAt.ext {H H' : Hp} {st cs lf : Addr} {n : Nat} (h : StAt H st cs lf n) (e : Ext H H') : StAt H' st cs lf n := by
  obtain ⟨cells, lefts, i, h1, h2, h3, h4⟩ := h
  exact ⟨cells, lefts, i, e _ _ h1, e _ _ h2, e _ _ h3, h4⟩
theorem shaped_ints (ns : List Int) : SeqAt.shaped (.list (ns.map .int)) = true := by
  have := dep_ints ns
  unfold SeqAt.shaped
  simp only [PyData.canLay0, lay_ints, PyData.depth, Bool.true_and]
  exact decide_eq_true (by omega)
theorem r_U {f : Int → V} {i : Int} {H : Hp} {Q : VK} (h : Q (f i) H) : rU f (.int i) H Q := ⟨i, rfl, h⟩
theorem r_rng1 {ta : TA} {σ : L2.St} {H : Hp} {R : It → Hp → Prop} (h : ta σ H fun vs H1 => ∃ j : Int, vs = [.int j] ∧ -(2 ^ 62) ≤ j ∧ j < 2 ^ 62 ∧ R (Itr 0 j.toNat) H1) : iRng1 ta σ H R := h
/-! ### keys that are ints, in order -/
def KeyI (kvs : List (Key × V)) (ks : List Int) : Prop := kvs.map (·.1) = ks.map Sum.inl
theorem keyI_put {kvs : List (Key × V)} {ks : List Int} (h : KeyI kvs ks) (hn : ks.Nodup) (x : Int) (v : V) : ∃ ks' : List Int, KeyI (putK kvs (.inl x) v) ks' ∧ ks'.Nodup ∧ (∀ y ∈ ks', y = x ∨ y ∈ ks) ∧ ks' ≠ [] ∧ ks'.length ≤ ks.length + 1 := by
  unfold KeyI at h
  by_cases hx : x ∈ ks
  · refine ⟨ks, ?_, hn, fun y hy => .inr hy, fun z => (by rw [z] at hx; cases hx), by omega⟩
    unfold KeyI putK
    have hany : (kvs.any fun kv => decide (kv.1 = .inl x)) = true := by
      have : (Sum.inl x : Key) ∈ kvs.map (·.1) := by rw [h]; exact List.mem_map.mpr ⟨x, hx, rfl⟩
      obtain ⟨kv, h1, h2⟩ := List.mem_map.mp this
      exact List.any_eq_true.mpr ⟨kv, h1, by rw [h2]; exact decide_eq_true rfl⟩
    rw [if_pos hany, List.map_map, ← h]
    refine List.map_congr_left fun kv _ => ?_
    show (if kv.1 = .inl x then (kv.1, v) else kv).1 = kv.1
    split <;> rfl
  · refine ⟨ks ++ [x], ?_, ?_, fun y hy => ?_, by simp, by simp⟩
    · unfold KeyI putK
      have hany : ¬ (kvs.any fun kv => decide (kv.1 = .inl x)) = true := fun z => by
        obtain ⟨kv, h1, h2⟩ := List.any_eq_true.mp z
        have : (Sum.inl x : Key) ∈ kvs.map (·.1) := List.mem_map.mpr ⟨kv, h1, of_decide_eq_true h2⟩
        rw [h] at this
        obtain ⟨y, hy, e⟩ := List.mem_map.mp this
        rw [Sum.inl.inj e] at hy
        exact hx hy
      rw [if_neg hany, List.map_append, List.map_append, h]
      rfl
    · refine List.nodup_append.mpr ⟨hn, by simp, fun a ha b hb => ?_⟩
      rw [List.mem_singleton.mp hb]
      exact fun z => hx (by rw [← z]; exact ha)
    · rcases List.mem_append.mp hy with z | z
      · exact .inr z
      · exact .inl (List.mem_singleton.mp z)
theorem upward_of : ∀ {l : List Int}, l.Pairwise (· < ·) → upward l = true
  | [], _ => rfl
  | [_], _ => rfl
  | a :: b :: r, h => by
    rw [List.pairwise_cons] at h
    unfold upward
    rw [decide_eq_true (h.1 b List.mem_cons_self), upward_of h.2]
    rfl
theorem lt_of_sorted {l : List Int} (h : l.Pairwise (· ≤ ·)) (hn : l.Nodup) : l.Pairwise (· < ·) := by
  induction l with
  | nil => exact .nil
  | cons a l ih =>
    rw [List.pairwise_cons] at h
    rw [List.nodup_cons] at hn
    rw [List.pairwise_cons]
    refine ⟨fun b hb => ?_, ih h.2 hn.2⟩
    have h1 := h.1 b hb
    have h2 : a ≠ b := fun z => hn.1 (by rw [z]; exact hb)
    omega
theorem row_ok {ks ys : List Int} {m : Nat} (hp : ys.Perm ks) (hs : ys.Pairwise (· ≤ ·)) (hn : ks.Nodup) (h0 : ks ≠ []) (hl : ks.length ≤ 3) (hb : ∀ y ∈ ks, -100 ≤ y ∧ y ≤ 100) (hm : 1 ≤ m) : dayOk (ys.take m) = true ∧ 1 ≤ (ys.take m).length ∧ (ys.take m).length ≤ m := by
  have hyl := hp.length_eq
  have hk : 0 < ks.length := List.length_pos_iff.mpr h0
  have h1 : (ys.take m).length = min m ys.length := List.length_take
  have hpw := (lt_of_sorted hs (hp.nodup_iff.mpr hn)).sublist (List.take_sublist m ys)
  refine ⟨?_, by omega, by omega⟩
  unfold dayOk
  rw [upward_of hpw, Bool.and_true, decide_eq_true (by omega), Bool.true_and]
  exact List.all_eq_true.mpr fun y hy => decide_eq_true (hb y (hp.mem_iff.mp (List.mem_of_mem_take hy)))
theorem cutV_to (xs : List V) (m : Int) (h : 0 ≤ m) : cutV xs none (some m) = xs.take m.toNat := by
  unfold cutV
  have h3 : m = ((m.toNat : Nat) : Int) := by omega
  rw [HT.sIx_none, h3, HT.sIx_nat]
  simp only [List.drop_zero, Nat.sub_zero, Int.toNat_natCast]
  by_cases hl : m.toNat ≤ xs.length
  · rw [Nat.min_eq_left hl]
  · rw [Nat.min_eq_right (by omega), List.take_of_length_le (Nat.le_refl _), List.take_of_length_le (by omega)]
end
section
open PySem Spec PyProof.Rows L2
local macro_rules | `(tactic| walk_at "s") => `(tactic| first
  | with_reducible refine r_seq ?_
  | with_reducible refine r_next ?_
  | with_reducible refine r_asg ?_
  | with_reducible refine r_gname ?_
  | with_reducible refine r_ret ?_
  | with_reducible refine r_drop ?_
  | with_reducible refine r_ifs ?_
  | with_reducible refine r_var rfl ?_
  | with_reducible refine r_c ?_
  | with_reducible refine r_op ?_
  | with_reducible refine r_un ?_
  | with_reducible refine r_nil ?_
  | with_reducible refine r_cons ?_
  | with_reducible refine r_test ?_
  | with_reducible refine r_tb ?_
  | with_reducible refine r_and ?_
  | with_reducible refine r_or ?_
  | with_reducible refine r_not ?_
  | with_reducible refine r_andV ?_
  | with_reducible refine r_orV ?_
  | with_reducible refine r_notV ?_
  | with_reducible refine r_if ?_
  | with_reducible refine r_chain ?_
  | with_reducible refine r_cl ?_
  | with_reducible refine r_cb ?_
  | with_reducible refine r_bl ?_
  | with_reducible refine r_I0 ?_
  | with_reducible refine r_yes ?_
  | with_reducible refine r_itT ?_
  | with_reducible refine r_itL ?_
  | with_reducible refine r_itS ?_
  | with_reducible refine r_itE ?_
  | with_reducible refine r_revT ?_
  | with_reducible refine r_star ?_
  | with_reducible refine r_for ?_
  | with_reducible refine r_bm ?_
  | with_reducible refine r_bm0 ?_
  | with_reducible refine r_kget1 ?_
  | with_reducible refine r_kget2 ?_
  | with_reducible refine r_par ?_
  | with_reducible refine r_tup ?_
  | with_reducible refine r_lst ?_
  | with_reducible refine r_exI ?_
  | with_reducible refine r_itZ ?_
  | with_reducible refine r_dget ?_
  | with_reducible refine r_gsub ?_
  | with_reducible refine r_pnil ?_
  | with_reducible refine r_pcons ?_
  | with_reducible refine r_methR ?_
  | with_reducible refine r_dpop1 ?_
  | with_reducible refine r_dput ?_
  | with_reducible refine r_din ?_
  | with_reducible refine r_dnotin ?_
  | with_reducible refine r_nopart ?_
  | with_reducible refine r_lc ?_
  | with_reducible refine r_sl ?_
  | with_reducible refine r_part ?_
  | with_reducible refine r_eq rfl ?_
  | with_reducible refine r_ne rfl ?_
  | with_reducible refine iteT ?_
  | with_reducible refine iteF ?_
  | with_reducible refine ite_nt ?_
  | with_reducible refine ite_nf ?_)
local macro_rules | `(tactic| walk_at "k") => `(tactic| first
  | walk_at "s"
  | with_reducible refine ite_eqT (by decide +kernel) ?_
  | with_reducible refine ite_eqF (by decide +kernel) ?_)
open LamX
section
variable {P : Program} {w : World} {K : PySem.W.Frag} {mg : Str → Option Value} {base : Heap}
theorem sc__law_mixed : FnScope ["cell", "k"] ["cell", "k"] (defScope (top 60)) := ⟨rfl, rfl, rfl, by decide +kernel, rfl, by decide +kernel, by decide +kernel⟩
def spMixed : Sp := fun vs H Q _ => ∃ c k : Int, vs = [.int c, .int k] ∧ 0 ≤ k ∧ k ≤ 10000000 ∧ ∀ m : Int, 0 ≤ m → m < 2147483629 → Q (.int m) H
theorem c__law_mixed (fx : Fx K mg w) : CalR P w K mg base 1 "_law_mixed" spMixed := by
  refine fx.d__law_mixed.ok sc__law_mixed (fun vs H Q E q => ?_) (fun _ _ _ _ _ _ us hl => match us, hl with | [_, _], _ => rfl) fun f cdv A outer s H vs Q E hr q => ?_
  · obtain ⟨c, k, rfl, _⟩ := q
    rfl
  · obtain ⟨c, k, rfl, hk1, hk2, q⟩ := q
    refine ⟨_, (pss_cons (ps_set (i := 0) sc__law_mixed.nd rfl (Or.inl rfl) (pe_op op_mod (pe_callTy call_int1 rfl fx.n_int (by decide +kernel) (pa_cons (pv 0) pa_nil)) pe_int))
    (pss_one (ps_ret (pe_op op_mod (pe_op op_mul (pe_op op_mod (pe_op op_add (pe_op op_add (pe_op op_mul (pv 0) (pe_op op_add pe_int (pe_op op_mul (pe_op op_mul pe_int (pv 1)) (pv 1)))) (pe_op op_mul pe_int (pv 1))) pe_int) pe_int) pe_int) pe_int)))), ?_⟩
    repeat walk_at "k"
    refine .inl ⟨c, rfl, ?_⟩
    repeat walk_at "k"
    refine r_I (by decide) ?_
    repeat walk_at "k"
    refine r_mul (by omega) ?_
    repeat walk_at "k"
    refine r_mul (by omega) ?_
    repeat walk_at "k"
    have hkk : 0 ≤ 2 * k * k ∧ 2 * k * k ≤ 2 * 10000000 * 10000000 := by
      have h1 : 0 ≤ 2 * k := by omega
      refine ⟨Int.mul_nonneg h1 hk1, Int.mul_le_mul (by omega) hk2 hk1 (by decide)⟩
    refine r_mul (by omega) ?_
    repeat walk_at "k"
    refine r_mul (by omega) ?_
    repeat walk_at "k"
    refine r_I (by decide) ?_
    repeat walk_at "k"
    refine r_mul (by decide) ?_
    repeat walk_at "k"
    refine r_I (by decide) ?_
    exact q _ (Int.emod_nonneg _ (by decide)) (Int.emod_lt_of_pos _ (by decide))
theorem sc__law_begin : FnScope ["script", "cells", "cell"] ["script"] (defScope (top 61)) := ⟨rfl, rfl, rfl, by decide +kernel, rfl, by decide +kernel, by decide +kernel⟩
def spBegin (K : PySem.W.Frag) : Sp := fun vs H Q _ => ∃ (a : Addr) (ns : List Int), vs = [.ref a] ∧ SqL K H a (ns.map .int) ∧ ns.length ≤ 1000 ∧ ∀ st cs lf H', Ext H H' → H st = none → H cs = none → H lf = none → StAt H' st cs lf 0 → Q (.ref st) H'
theorem c__law_begin (fx : Fx K mg w) : CalR P w K mg base 1 "_law_begin" (spBegin K) := by
  refine fx.d__law_begin.ok sc__law_begin (fun vs H Q E q => ?_) (fun _ _ _ _ _ _ us hl => match us, hl with | [_], _ => rfl) fun f cdv A outer s H vs Q E hr q => ?_
  · obtain ⟨a, ns, rfl, _⟩ := q
    rfl
  · obtain ⟨a, ns, rfl, ha, hl, q⟩ := q
    have hu := hr.units
    refine ⟨_, (pss_cons (ps_set (i := 1) sc__law_begin.nd rfl (Or.inl rfl) (pe_ifExp (pt_cmpR (op_neD hu) (pv 0) (pe_lst pa_nil) (nomark _)) (pe_callTy call_list_of rfl fx.n_list (by decide +kernel) (pa_cons (pv 0) pa_nil)) (pe_lst (pa_cons pe_int pa_nil))))
    (pss_one (ps_ret (pe_disp (pps_cons pe_str (pv 1) (pps_cons pe_str (pe_lc (own := [("cell", 2)]) (g := gName 2) (tt := tYes) rfl sc__law_begin.nd (pi_list (pv 1)) (blkOk_by (N := ["script", "cells", "cell"]) (sc := defScope (top 61)) (by decide +kernel)) (fun _ _ _ _ _ => (pg_name (i := 2) (x := "cell") sc__law_begin.nd rfl (Or.inl rfl) (.inr rfl))) (fun _ _ _ _ _ => pts_nil) (fun _ _ _ _ _ => (pe_ifExp (pt_cmpR op_ge (pv 2) (pe_op op_pow pe_int pe_int) (nomark _)) (pv 2) pe_int))) (pps_cons pe_str pe_int (pps_cons pe_str pe_int pps_nil)))) rfl rfl (by simp) (by decide))))), ?_⟩
    repeat walk_at "k"
    refine ⟨by decide, fun pe hpe => ?_⟩
    have e1 := Ext.new (o := .lst []) hpe
    refine ⟨.list (ns.map .int), .list [], .lst (e1.lst ha) (dp_ints ns), .lst (.inl (.inl upd_same)) .nil, shaped_ints ns, by decide +kernel, ?_⟩
    rw [eqv_nilL]
    have goon : ∀ H1 (cs : Addr) (cells : List Int), Ext H H1 → H cs = none → H1 cs = some (.lst (cells.map .int)) → cells ≠ [] → cells.length ≤ 1000 → tRet (tDisp [(tC (.str "cells"), tVar 1), (tC (.str "lefts"), tLc (iList K (tVar 1)) (gName 2) tYes (tIf (tB (tOp (rI0 fun i j => .bl (decide (i ≥ j))) (tVar 2) (tOp (rI CPow fun i j => .int (i ^ j.toNat)) (tC (.int 10)) (tC (.int 18))))) (tVar 2) (tC (.int 0))) [2]), (tC (.str "at"), tC (.int 0)), (tC (.str "room"), tC (.int 0))]) { nx := fun _ H' => Q .non H', rt := Q } [some (.ref a), some (.ref cs), none] H1 := fun H1 cs cells e n h1 h2 h3 => by
      repeat walk_at "k"
      refine fun p hp => ?_
      repeat walk_at "k"
      have ep := Ext.new (o := .dK []) hp
      have hc2 := ep _ _ h1
      refine ⟨cs, rfl, ⟨_, .inl (.inl hc2)⟩, fun D hD => lc_rel (K := K) walk_list hD (by rw [List.length_map]; omega) (fun H' e' => .inl (.inl (e' _ _ hc2))) (fun i acc _ => ∃ ls : List Int, acc = ls.map .int ∧ ls.length = i) ⟨[], rfl, rfl⟩ (fun _ _ _ _ _ h => h) yAt_ext (fun i x H2 acc H3 hi e' k' hD' z yy Kt Kf hKt _ => ?_) fun H2 acc e' hD2 z => ?_⟩
      · obtain ⟨ls, rfl, hls⟩ := z
        obtain ⟨rfl, hy⟩ := yy
        rw [List.getElem?_map] at hy
        obtain ⟨y, _, rfl⟩ := Option.map_eq_some_iff.mp hy
        refine r_gname ⟨rfl, ?_⟩
        repeat walk_at "k"
        refine r_I (by unfold CPow; decide) ?_
        repeat walk_at "k"
        refine ite_b (fun _ => ?_) fun _ => ?_
        · repeat walk_at "k"
          exact hKt _ _ (Ext.refl _) ⟨ls ++ [y], by simp, by simp [hls]⟩
        · repeat walk_at "k"
          exact hKt _ _ (Ext.refl _) ⟨ls ++ [0], by simp, by simp [hls]⟩
      · obtain ⟨ls, rfl, hls⟩ := z
        repeat walk_at "k"
        have e2 := e.trans (ep.trans e')
        have hpD : H2 p = some (.dK []) := e' _ _ upd_same
        have npH : H p = none := e.none hp
        have nDH : H D = none := (e.trans ep).none hD
        have hcs2 := e' _ _ hc2
        have np1 : cs ≠ p := ne_of_none h1 hp
        have np2 : D ≠ p := ne_of hD2 hpD fun z => by cases z
        have np3 : cs ≠ D := ne_of_none hc2 hD
        refine ⟨hpD, stKs cs D 0, rfl, by show 4 ≤ 15; decide, ?_⟩
        refine q p cs D _ (e2.out npH) npH n nDH ⟨cells, ls, 0, by rw [upd_same]; rfl, by rw [upd_ne np1]; exact hcs2, by rw [upd_ne np2]; exact hD2, h2, by rw [hls, List.length_map], h3, Int.le_refl _, Int.le_refl _, np3⟩
    cases hns : ns with
    | nil =>
      repeat walk_at "k"
      refine ⟨by decide, fun p2 hp2 => ?_⟩
      repeat walk_at "k"
      exact goon _ p2 [0] (e1.trans (Ext.new hp2)) (e1.none hp2) upd_same (by simp) (by simp)
    | cons n0 ns0 =>
      refine ⟨true, rfl, ite_eqT rfl ?_⟩
      repeat walk_at "k"
      refine ⟨a, _, rfl, .inl (e1.lst ha), fun p2 hp2 => ?_⟩
      repeat walk_at "k"
      exact goon _ p2 ns (e1.trans (Ext.new hp2)) (e1.none hp2) upd_same (by rw [hns]; simp) hl
theorem sc__law_draw : FnScope ["state", "many", "at", "place", "left", "number"] ["state", "many"] (defScope (top 62)) := ⟨rfl, rfl, rfl, by decide +kernel, rfl, by decide +kernel, by decide +kernel⟩
def spDraw (K : PySem.W.Frag) : Sp := fun vs H Q _ => ∃ (st cs lf : Addr) (n : Nat) (many : Int), vs = [.ref st, .int many] ∧ StAt H st cs lf n ∧ n ≤ 1000000 ∧ 1 ≤ many ∧ many < 1073741824 ∧
  ∀ (r : Int) H', 0 ≤ r → r < many → Fr K [st, lf] H H' → StAt H' st cs lf (n + 1) → Q (.int r) H'
theorem c__law_draw (fx : Fx K mg w) : CalR P w K mg base 2 "_law_draw" (spDraw K) := by
  refine fx.d__law_draw.ok sc__law_draw (fun vs H Q E q => ?_) (fun _ _ _ _ _ _ us hl => match us, hl with | [_, _], _ => rfl) fun f cdv A outer s H vs Q E hr q => ?_
  · obtain ⟨st, cs, lf, n, many, rfl, _⟩ := q
    rfl
  · obtain ⟨st, cs, lf, n, many, rfl, ⟨cells, lefts, i, h1, h2, h3, h4, h5, h6, h7, h8, h9⟩, hn, hm1, hm2, q⟩ := q
    have hu2 := hu_of hr
    refine ⟨_, (pss_cons (ps_set (i := 2) sc__law_draw.nd rfl (Or.inl rfl) (pe_dget hu2 (pv 0) pe_str (fun _ _ => rfl)))
    (pss_cons (ps_dput hu2 (pv 0) pe_str (pe_op op_add (pv 2) pe_int) rfl)
    (pss_cons (ps_set (i := 3) sc__law_draw.nd rfl (Or.inl rfl) (pe_op op_mod (pe_callTy call_int1 rfl fx.n_int (by decide +kernel) (pa_cons (pv 2) pa_nil)) (pe_callB call_len_seq rfl fx.n_len (by decide +kernel) (pa_cons (pe_dget hu2 (pv 0) pe_str (fun _ _ => rfl)) pa_nil))))
    (pss_cons (ps_set (i := 4) sc__law_draw.nd rfl (Or.inl rfl) (pe_ix ix_list (pe_dget hu2 (pv 0) pe_str (fun _ _ => rfl)) (pv 3) (fun _ _ => rfl)))
    (pss_cons (ps_if (pt_cmpR op_gt (pv 4) pe_int (nomark _)) (pss_cons (ps_asg (pe_op op_fdiv (pv 4) (pv 1)) (pg_sub (pe_dget hu2 (pv 0) pe_str (fun _ _ => rfl)) (pv 3) set_list (fun _ => rfl)))
      (pss_one (ps_ret (pe_op op_mod (pe_callTy call_int1 rfl fx.n_int (by decide +kernel) (pa_cons (pv 4) pa_nil)) (pv 1))))) pss_nil)
    (pss_cons (ps_set (i := 5) sc__law_draw.nd rfl (Or.inl rfl) (pe_cr (c__law_mixed fx) hr px (pa_cons (pe_cr (c__law_mixed fx) hr px (pa_cons (pe_ix ix_list (pe_dget hu2 (pv 0) pe_str (fun _ _ => rfl)) (pv 3) (fun _ _ => rfl)) (pa_cons (pv 2) pa_nil))) (pa_cons (pe_op op_add pe_int (pv 2)) pa_nil))))
    (pss_one (ps_ret (pe_op op_mod (pe_op op_fdiv (pe_callTy call_int1 rfl fx.n_int (by decide +kernel) (pa_cons (pe_op op_add (pe_op op_mul (pv 5) pe_int) (pe_cr (c__law_mixed fx) hr px (pa_cons (pv 5) (pa_cons (pe_op op_add pe_int (pv 2)) pa_nil)))) pa_nil)) pe_int) (pv 1)))))))))), ?_⟩
    repeat walk_at "k"
    refine ⟨st, _, rfl, DGet.k (k := .inr "at") h1, ?_⟩
    repeat walk_at "k"
    refine ⟨st, _, rfl, DPut.k (k := .inr "at") h1 (by rw [sizeLine_eq]; show 4 < _; omega), ?_⟩
    rw [st_at]
    have f1 : Fr K [st, lf] H (upd H st (.dK (stKs cs lf (i + 1)))) := Fr.putK h1 (by simp)
    have g1 : (upd H st (.dK (stKs cs lf (i + 1)))) st = some (.dK (stKs cs lf (i + 1))) := upd_same
    have n1 : cs ≠ st := ne_of h2 h1 fun z => by cases z
    have n2 : lf ≠ st := ne_of h3 h1 fun z => by cases z
    have g2 : (upd H st (.dK (stKs cs lf (i + 1)))) cs = some (.lst (cells.map .int)) := by rw [upd_ne n1]; exact h2
    have g3 : (upd H st (.dK (stKs cs lf (i + 1)))) lf = some (.lst (lefts.map .int)) := by rw [upd_ne n2]; exact h3
    generalize upd H st (.dK (stKs cs lf (i + 1))) = H1 at f1 g1 g2 g3 ⊢
    have hlen : 0 < cells.length := List.length_pos_iff.mpr h4
    repeat walk_at "k"
    refine .inl ⟨i, rfl, ?_⟩
    repeat walk_at "k"
    refine ⟨st, _, rfl, DGet.k (k := .inr "cells") g1, ?_⟩
    repeat walk_at "k"
    refine ⟨cs, _, rfl, .inl (.inl (.inl g2)), ?_⟩
    rw [List.length_map]
    refine r_I (by omega) ?_
    repeat walk_at "k"
    have hp1 : 0 ≤ i % (cells.length : Int) := Int.emod_nonneg _ (by omega)
    have hp2 : i % (cells.length : Int) < cells.length := Int.emod_lt_of_pos _ (by omega)
    generalize i % (cells.length : Int) = pl at hp1 hp2 ⊢
    refine ⟨st, _, rfl, DGet.k (k := .inr "lefts") g1, ?_⟩
    repeat walk_at "k"
    have at1 : ∀ ls : List Int, pl < ls.length → ∃ x, atI (ls.map V.int) pl = some (.int x) := fun ls hl => by
      obtain ⟨v, e1, e2⟩ := atI_int (xs := ls.map V.int) hp1 (by rw [List.length_map]; exact hl)
      rw [List.getElem?_map] at e1
      obtain ⟨x, _, rfl⟩ := Option.map_eq_some_iff.mp e1
      exact ⟨x, e2⟩
    obtain ⟨left, hleft⟩ := at1 lefts (by omega)
    obtain ⟨cell, hcell⟩ := at1 cells hp2
    refine r_ixL (.inl (.inl g3)) hleft ?_
    repeat walk_at "k"
    have hst : ∀ H', H' st = some (.dK (stKs cs lf (i + 1))) → H' cs = some (.lst (cells.map .int)) → (∃ ls : List Int, H' lf = some (.lst (ls.map .int)) ∧ ls.length = cells.length) → StAt H' st cs lf (n + 1) := fun H' a1 a2 ⟨ls, a3, a4⟩ => ⟨cells, ls, i + 1, a1, a2, a3, h4, a4, h6, by omega, by omega, h9⟩
    refine ite_b (fun _ => ?_) fun _ => ?_
    · repeat walk_at "k"
      refine r_I ⟨by omega, hm2⟩ ?_
      repeat walk_at "k"
      refine ⟨st, _, rfl, DGet.k (k := .inr "lefts") g1, ?_⟩
      repeat walk_at "k"
      have hix : ixN (lefts.map V.int).length pl = some pl.toNat := by
        unfold ixN
        rw [if_pos hp1, if_pos (by rw [List.length_map]; omega)]
      refine r_setL g3 hix ?_
      repeat walk_at "k"
      have f2 : Fr K [st, lf] H1 (upd H1 lf (.lst ((lefts.map V.int).set pl.toNat (.int (left / many))))) := Fr.putL g3 (by simp)
      refine .inl ⟨left, rfl, ?_⟩
      repeat walk_at "k"
      refine r_I (by omega) ?_
      refine q _ _ (Int.emod_nonneg _ (by omega)) (Int.emod_lt_of_pos _ (by omega)) (f1.trans f2) (hst _ (by rw [upd_ne (Ne.symm n2)]; exact g1) (by rw [upd_ne h9]; exact g2) ⟨lefts.set pl.toNat (left / many), by rw [upd_same, List.map_set], by rw [List.length_set]; exact h5⟩)
    · repeat walk_at "k"
      refine ⟨st, _, rfl, DGet.k (k := .inr "cells") g1, ?_⟩
      repeat walk_at "k"
      refine r_ixL (.inl (.inl g2)) hcell ?_
      repeat walk_at "k"
      refine ⟨_, _, rfl, h7, by omega, fun m1 b1 b2 => ?_⟩
      repeat walk_at "k"
      refine ⟨_, _, rfl, by omega, by omega, fun m2 b3 b4 => ?_⟩
      repeat walk_at "k"
      refine r_mul (by omega) ?_
      repeat walk_at "k"
      refine ⟨_, _, rfl, by omega, by omega, fun m3 b5 b6 => ?_⟩
      repeat walk_at "k"
      refine .inl ⟨_, rfl, ?_⟩
      repeat walk_at "k"
      refine r_I (by unfold CDiv; decide) ?_
      repeat walk_at "k"
      refine r_I (by omega) ?_
      exact q _ _ (Int.emod_nonneg _ (by omega)) (Int.emod_lt_of_pos _ (by omega)) f1 (hst _ g1 g2 ⟨lefts, g3, h5⟩)
theorem sc__law_of : FnScope ["state", "some"] ["state", "some"] (defScope (top 63)) := ⟨rfl, rfl, rfl, by decide +kernel, rfl, by decide +kernel, by decide +kernel⟩
def spOf (K : PySem.W.Frag) : Sp := fun vs H Q _ => ∃ (st cs lf l : Addr) (n : Nat) (xs : List V), vs = [.ref st, .ref l] ∧ StAt H st cs lf n ∧ n ≤ 1000000 ∧ H l = some (.lst xs) ∧ l ≠ lf ∧ xs ≠ [] ∧ xs.length ≤ 1000 ∧
  ∀ v H', v ∈ xs → Fr K [st, lf] H H' → StAt H' st cs lf (n + 1) → Q v H'
theorem c__law_of (fx : Fx K mg w) : CalR P w K mg base 3 "_law_of" (spOf K) := by
  refine fx.d__law_of.ok sc__law_of (fun vs H Q E q => ?_) (fun _ _ _ _ _ _ us hl => match us, hl with | [_, _], _ => rfl) fun f cdv A outer s H vs Q E hr q => ?_
  · obtain ⟨st, cs, lf, l, n, xs, rfl, _⟩ := q
    rfl
  · obtain ⟨st, cs, lf, l, n, xs, rfl, hs, hn, hx, hl, hne, hxl, q⟩ := q
    refine ⟨_, (pss_one (ps_ret (pe_ix ix_list (pv 1) (pe_cr (c__law_draw fx) hr px (pa_cons (pv 0) (pa_cons (pe_callB call_len_seq rfl fx.n_len (by decide +kernel) (pa_cons (pv 1) pa_nil)) pa_nil))) (fun _ _ => rfl)))), ?_⟩
    repeat walk_at "k"
    refine ⟨l, _, rfl, .inl (.inl (.inl hx)), ?_⟩
    have hlen : 0 < xs.length := List.length_pos_iff.mpr hne
    refine ⟨st, cs, lf, n, _, rfl, hs, hn, by omega, by omega, fun r H' h1 h2 f hst => ?_⟩
    repeat walk_at "k"
    have nst : l ≠ st := by
      obtain ⟨_, _, _, hd, _⟩ := hs
      exact ne_of hx hd fun z => by cases z
    obtain ⟨v, e1, e2⟩ := atI_int (xs := xs) h1 h2
    refine r_ixL (.inl (.inl (f.lst (by simp [nst, hl]) hx))) e2 ?_
    exact q v H' (List.mem_of_getElem? e1) f hst
end
end
section
open PySem Spec PyProof.Rows L2
local macro_rules | `(tactic| walk_at "s") => `(tactic| first
  | with_reducible refine r_seq ?_
  | with_reducible refine r_next ?_
  | with_reducible refine r_asg ?_
  | with_reducible refine r_gname ?_
  | with_reducible refine r_ret ?_
  | with_reducible refine r_drop ?_
  | with_reducible refine r_ifs ?_
  | with_reducible refine r_var rfl ?_
  | with_reducible refine r_c ?_
  | with_reducible refine r_op ?_
  | with_reducible refine r_un ?_
  | with_reducible refine r_nil ?_
  | with_reducible refine r_cons ?_
  | with_reducible refine r_test ?_
  | with_reducible refine r_tb ?_
  | with_reducible refine r_and ?_
  | with_reducible refine r_or ?_
  | with_reducible refine r_not ?_
  | with_reducible refine r_andV ?_
  | with_reducible refine r_orV ?_
  | with_reducible refine r_notV ?_
  | with_reducible refine r_if ?_
  | with_reducible refine r_chain ?_
  | with_reducible refine r_cl ?_
  | with_reducible refine r_cb ?_
  | with_reducible refine r_bl ?_
  | with_reducible refine r_I0 ?_
  | with_reducible refine r_yes ?_
  | with_reducible refine r_itT ?_
  | with_reducible refine r_itL ?_
  | with_reducible refine r_itS ?_
  | with_reducible refine r_itE ?_
  | with_reducible refine r_revT ?_
  | with_reducible refine r_star ?_
  | with_reducible refine r_for ?_
  | with_reducible refine r_bm ?_
  | with_reducible refine r_bm0 ?_
  | with_reducible refine r_kget1 ?_
  | with_reducible refine r_kget2 ?_
  | with_reducible refine r_par ?_
  | with_reducible refine r_tup ?_
  | with_reducible refine r_lst ?_
  | with_reducible refine r_exI ?_
  | with_reducible refine r_itZ ?_
  | with_reducible refine r_dget ?_
  | with_reducible refine r_gsub ?_
  | with_reducible refine r_pnil ?_
  | with_reducible refine r_pcons ?_
  | with_reducible refine r_methR ?_
  | with_reducible refine r_dpop1 ?_
  | with_reducible refine r_dput ?_
  | with_reducible refine r_din ?_
  | with_reducible refine r_dnotin ?_
  | with_reducible refine r_nopart ?_
  | with_reducible refine r_lc ?_
  | with_reducible refine r_sl ?_
  | with_reducible refine r_part ?_
  | with_reducible refine r_eq rfl ?_
  | with_reducible refine r_ne rfl ?_
  | with_reducible refine iteT ?_
  | with_reducible refine iteF ?_
  | with_reducible refine ite_nt ?_
  | with_reducible refine ite_nf ?_)
local macro_rules | `(tactic| walk_at "k") => `(tactic| first
  | walk_at "s"
  | with_reducible refine ite_eqT (by decide +kernel) ?_
  | with_reducible refine ite_eqF (by decide +kernel) ?_)
open LamX
section
variable {P : Program} {w : World} {K : PySem.W.Frag} {mg : Str → Option Value} {base : Heap}
theorem sc__law_paths : FnScope ["days_so", "rows", "day_so", "longer", "row", "mark"] ["days_so"] (defScope (top 65)) := ⟨rfl, rfl, rfl, by decide +kernel, rfl, by decide +kernel, by decide +kernel⟩
theorem c__law_paths (fx : Fx K mg w) : CalR P w K mg base 1 "_law_paths" (spPathsIn K) := by
  refine fx.d__law_paths.ok sc__law_paths (fun vs H Q E q => ?_) (fun _ _ _ _ _ _ us hl => match us, hl with | [_], _ => rfl) fun f cdv A outer s H vs Q E hr q => ?_
  · obtain ⟨a, ns, rfl, _⟩ := q
    rfl
  · obtain ⟨a, dss, rfl, hday, hl, hb, q⟩ := q
    obtain ⟨das, ht, hp⟩ := id hday
    have hlen := Paired.length hp
    refine ⟨_, (pss_cons (ps_set (i := 1) sc__law_paths.nd rfl (Or.inl rfl) (pe_lst (pa_cons (pe_tup pa_nil) pa_nil)))
    (pss_cons (ps_for PassesOwn.leaving rfl (pi_tup (pv 0)) (pg_name (i := 2) (x := "day_so") sc__law_paths.nd rfl (Or.inl rfl) (.inl rfl)) (pss_cons (ps_set (i := 3) sc__law_paths.nd rfl (Or.inl rfl) (pe_lst pa_nil))
      (pss_cons (ps_for PassesOwn.leaving rfl (pi_list (pv 1)) (pg_name (i := 4) (x := "row") sc__law_paths.nd rfl (Or.inr rfl) (.inl rfl)) (pss_one (ps_expr (pe_bm PySem.F.plainAttrs_list PySem.F.slot_list_extend PySem.F.type_list_extend mt_extend (pv 3) (pa_cons (pe_lc (own := [("mark", 5)]) (g := gName 5) (tt := tYes) (te := tOp (rCatA K) (tVar 4) (tTup (tCons (tVar 5) tNil))) rfl sc__law_paths.nd (pi_tup (pv 2)) (blkOk_by (N := ["days_so", "rows", "day_so", "longer", "row", "mark"]) (sc := defScope (top 65)) (by decide +kernel)) (fun _ _ _ _ _ => (pg_name (i := 5) (x := "mark") sc__law_paths.nd rfl (Or.inl rfl) (.inr rfl))) (fun _ _ _ _ _ => pts_nil) (fun _ _ _ _ _ => (pe_op op_catA (pv 4) (pe_tup (pa_cons (pv 5) pa_nil))))) pa_nil)))))
      (pss_one (ps_set (i := 1) sc__law_paths.nd rfl (Or.inl rfl) (pe_callTy call_list_of rfl fx.n_list (by decide +kernel) (pa_cons (pv 3) pa_nil)))))))
    (pss_one (ps_ret (pv 1))))), ?_⟩
    repeat walk_at "k"
    refine ⟨by decide, fun p0 hp0 => ?_⟩
    repeat walk_at "k"
    refine ⟨by show 1 ≤ sizeLine; decide, fun f0 hf0 => ?_⟩
    repeat walk_at "k"
    have E0 : Ext H (upd H p0 (.tup [])) := Ext.new hp0
    have hf0' : H f0 = none := E0.none hf0
    refine ⟨a, rfl, ⟨_, (E0.trans (Ext.new hf0)).tup ht⟩, ?_⟩
    refine for_it walk_tup (fun i σ' H' => Ext H H' ∧ ∃ p as o2 o3 o4 o5, H p = none ∧ H' p = some (.lst (as.map .ref)) ∧ Rows K H' as (pathsOf (dss.take i)) ∧ σ' = [some (.ref a), some (.ref p), o2, o3, o4, o5]) ⟨E0.trans (Ext.new hf0), f0, [p0], none, none, none, none, hf0', upd_same, .cons (.inl (.inl ?_)) .nil, rfl⟩ (fun i σ' H' _ z => z.1.tup ht) (fun i x σ' H0 H' hi z y => ?_) fun σ' H' z => ?_
    · rw [upd_ne (ne_of_none (upd_same) hf0)]
      exact upd_same
    · obtain ⟨e, p, as, o2, o3, o4, o5, hpn, hpl, hrows, rfl⟩ := z
      obtain ⟨rfl, hx⟩ := y
      rw [List.getElem?_map] at hx
      obtain ⟨b, hb', rfl⟩ := Option.map_eq_some_iff.mp hx
      obtain ⟨ns, hns, hq⟩ := paired_get hp i b hb'
      have estep : pathsOf (dss.take (i + 1)) = pathsStep (pathsOf (dss.take i)) ns := by rw [take_succ_get hns, pathsOf_snoc]
      have hbig := hb (i + 1)
      have hsm := hb i
      have hrl := Paired.length hrows
      refine r_gname ?_
      repeat walk_at "k"
      refine ⟨by decide, fun L hL => ?_⟩
      repeat walk_at "k"
      have eL := Ext.new (o := .lst []) hL
      have npL : p ≠ L := ne_of_none hpl hL
      have nLH : H L = none := e.none hL
      refine ⟨p, rfl, ⟨_, .inl (.inl (eL _ _ hpl))⟩, ?_⟩
      refine for_it walk_list (fun j σ' H2 => Fr K [L] (upd H' L (.lst [])) H2 ∧ Ext H H2 ∧ ∃ acc o4 o5, σ' = [some (.ref a), some (.ref p), some (.ref b), some (.ref L), o4, o5] ∧ H2 L = some (.lst (acc.map .ref)) ∧ Rows K H2 acc (pathsStep ((pathsOf (dss.take i)).take j) ns)) ⟨Fr.refl _, e.trans eL, [], _, _, rfl, upd_same, .nil⟩ (fun j σ' H2 _ z => .inl (.inl (z.1.lst (by simpa using npL) (eL _ _ hpl)))) (fun j x σ' H2 H3 hj z y => ?_) fun σ' H2 z => ?_
      · obtain ⟨f2, e2, acc, o4, o5, rfl, hL2, hr2⟩ := z
        obtain ⟨rfl, hx2⟩ := y
        rw [List.getElem?_map] at hx2
        obtain ⟨b2, hb2, rfl⟩ := Option.map_eq_some_iff.mp hx2
        obtain ⟨row, hrow, hrt⟩ := paired_get hrows j b2 hb2
        have hrowl : row.length ≤ 1000 := by
          have := pathsOf_len _ row (List.mem_of_getElem? hrow)
          rw [this, List.length_take]; omega
        have hrt2 := f2.tup (eL.tup hrt)
        refine r_gname ?_
        repeat walk_at "k"
        refine ⟨tyL hL2, ?_⟩
        repeat walk_at "k"
        have hnl : ns.length ≤ 1000 := by
          have h5 : (pathsStep (pathsOf (dss.take i)) ns).length = (pathsOf (dss.take i)).length * ns.length := step_len _ _
          rw [← estep] at h5
          have h6 : 0 < (pathsOf (dss.take i)).length := by
            have := (List.getElem?_eq_some_iff.mp hrow).1
            omega
          have h7 : ns.length ≤ (pathsOf (dss.take i)).length * ns.length := Nat.le_mul_of_pos_left _ h6
          omega
        refine ⟨b, rfl, ⟨_, e2.tup hq⟩, fun D hD => lc_rel (K := K) walk_tup hD (by rw [List.length_map]; omega) (fun H4 e4 => (e2.trans e4).tup hq) (fun k acc2 H4 => ∃ ts : List Addr, acc2 = ts.map .ref ∧ Rows K H4 ts ((ns.take k).map fun n => row ++ [n])) ⟨[], rfl, .nil⟩ (fun k acc2 Ha Hb k8 z => ?_) yAt_ext (fun k y Hx acc2 H4 hk e4 k8 hD4 z yy Kt Kf hKt _ => ?_) fun H4 acc2 e4 hD4 z => ?_⟩
        · obtain ⟨ts, h1, h2⟩ := z
          exact ⟨ts, h1, h2.tk k8⟩
        · obtain ⟨ts, rfl, hts⟩ := z
          obtain ⟨rfl, hy⟩ := yy
          rw [List.getElem?_map] at hy
          obtain ⟨n, hn, rfl⟩ := Option.map_eq_some_iff.mp hy
          rw [take_succ_get hn, List.map_append] at hKt
          refine r_gname ⟨rfl, ?_⟩
          repeat walk_at "k"
          refine ⟨by show 1 ≤ sizeLine; decide, fun z1 hz1 => ?_⟩
          have eY := Ext.new (o := .tup [.int n]) hz1
          refine ⟨b2, z1, row.map .int, [.int n], rfl, rfl, eY.tup (e4.tup hrt2), .inl (.inl upd_same), by rw [List.length_map, sizeLine_eq]; show row.length + 1 ≤ _; omega, fun hnil => ?_, fun _ h0 => absurd h0 (by simp), fun hne _ z2 hz2 => ?_⟩
          · have hr0 : row = [] := List.map_eq_nil_iff.mp hnil
            refine hKt _ _ eY ⟨ts ++ [z1], by simp, paired_snoc (b := row ++ [n]) (.inl (.inl ?_)) (hts.tk eY.tk)⟩
            rw [upd_same, hr0]
            rfl
          · have eZ := eY.trans (Ext.new (o := .tup (row.map V.int ++ [.int n])) hz2)
            refine hKt _ _ eZ ⟨ts ++ [z2], by simp, paired_snoc (b := row ++ [n]) (.inl (.inl ?_)) (hts.tk eZ.tk)⟩
            rw [upd_same, List.map_append]
            rfl
        · obtain ⟨ts, rfl, hts⟩ := z
          rw [List.length_map, List.take_length] at hts
          have htl := Paired.length hts
          rw [List.length_map] at htl
          repeat walk_at "k"
          have hL4 := e4 _ _ hL2
          have hal := Paired.length hr2
          have h5 : pathsStep ((pathsOf (dss.take i)).take (j + 1)) ns = pathsStep ((pathsOf (dss.take i)).take j) ns ++ ns.map fun n => row ++ [n] := by
            rw [take_succ_get hrow]
            unfold pathsStep
            rw [List.flatMap_append]
            simp
          have hal2 : acc.length ≤ 1000 := by
            rw [hal, step_len, List.length_take]
            have h6 : (pathsStep (pathsOf (dss.take i)) ns).length = (pathsOf (dss.take i)).length * ns.length := step_len _ _
            rw [← estep] at h6
            have h7 : min j (pathsOf (dss.take i)).length * ns.length ≤ (pathsOf (dss.take i)).length * ns.length := Nat.mul_le_mul_right _ (Nat.min_le_right _ _)
            omega
          refine ⟨L, D, _, _, rfl, rfl, hL4, hD4, by rw [List.length_map, List.length_map, sizeLine_eq]; omega, ?_⟩
          have fp : Fr K [L] H4 (upd H4 L (.lst (acc.map V.ref ++ ts.map V.ref))) := Fr.putL hL4 (by simp)
          refine ⟨(f2.trans e4.fr).trans fp, (e2.trans e4).out nLH, acc ++ ts, _, _, rfl, by rw [upd_same, List.map_append], ?_⟩
          rw [h5]
          exact paired_app ((hr2.tk e4.tk).tk fp.tk) (hts.tk fp.tk)
      · obtain ⟨f2, e2, acc, o4, o5, rfl, hL2, hr2⟩ := z
        have h5 : (pathsOf (dss.take i)).take (as.map V.ref).length = pathsOf (dss.take i) := List.take_of_length_le (by rw [List.length_map, hrl]; exact Nat.le_refl _)
        rw [h5, ← estep] at hr2
        repeat walk_at "k"
        refine ⟨L, _, rfl, .inl (.inl (.inl hL2)), fun l hl => ?_⟩
        have e3 := Ext.new (o := .lst (acc.map V.ref)) hl
        exact ⟨e2.trans e3, l, acc, _, _, _, _, e2.none hl, upd_same, hr2.tk e3.tk, rfl⟩
    · obtain ⟨e, p, as, o2, o3, o4, o5, hpn, hpl, hrows, rfl⟩ := z
      repeat walk_at "k"
      have h5 : dss.take (das.map V.ref).length = dss := List.take_of_length_le (by rw [List.length_map, hlen]; exact Nat.le_refl _)
      rw [h5] at hrows
      exact q H' p as e hpn hpl hrows
end
end
section
open PySem Spec PyProof.Rows L2
local macro_rules | `(tactic| walk_at "s") => `(tactic| first
  | with_reducible refine r_seq ?_
  | with_reducible refine r_next ?_
  | with_reducible refine r_asg ?_
  | with_reducible refine r_gname ?_
  | with_reducible refine r_ret ?_
  | with_reducible refine r_drop ?_
  | with_reducible refine r_ifs ?_
  | with_reducible refine r_var rfl ?_
  | with_reducible refine r_c ?_
  | with_reducible refine r_op ?_
  | with_reducible refine r_un ?_
  | with_reducible refine r_nil ?_
  | with_reducible refine r_cons ?_
  | with_reducible refine r_test ?_
  | with_reducible refine r_tb ?_
  | with_reducible refine r_and ?_
  | with_reducible refine r_or ?_
  | with_reducible refine r_not ?_
  | with_reducible refine r_andV ?_
  | with_reducible refine r_orV ?_
  | with_reducible refine r_notV ?_
  | with_reducible refine r_if ?_
  | with_reducible refine r_chain ?_
  | with_reducible refine r_cl ?_
  | with_reducible refine r_cb ?_
  | with_reducible refine r_bl ?_
  | with_reducible refine r_I0 ?_
  | with_reducible refine r_yes ?_
  | with_reducible refine r_itT ?_
  | with_reducible refine r_itL ?_
  | with_reducible refine r_itS ?_
  | with_reducible refine r_itE ?_
  | with_reducible refine r_revT ?_
  | with_reducible refine r_star ?_
  | with_reducible refine r_for ?_
  | with_reducible refine r_bm ?_
  | with_reducible refine r_bm0 ?_
  | with_reducible refine r_kget1 ?_
  | with_reducible refine r_kget2 ?_
  | with_reducible refine r_par ?_
  | with_reducible refine r_tup ?_
  | with_reducible refine r_lst ?_
  | with_reducible refine r_exI ?_
  | with_reducible refine r_itZ ?_
  | with_reducible refine r_dget ?_
  | with_reducible refine r_gsub ?_
  | with_reducible refine r_pnil ?_
  | with_reducible refine r_pcons ?_
  | with_reducible refine r_methR ?_
  | with_reducible refine r_dpop1 ?_
  | with_reducible refine r_dput ?_
  | with_reducible refine r_din ?_
  | with_reducible refine r_dnotin ?_
  | with_reducible refine r_nopart ?_
  | with_reducible refine r_lc ?_
  | with_reducible refine r_sl ?_
  | with_reducible refine r_part ?_
  | with_reducible refine r_eq rfl ?_
  | with_reducible refine r_ne rfl ?_
  | with_reducible refine iteT ?_
  | with_reducible refine iteF ?_
  | with_reducible refine ite_nt ?_
  | with_reducible refine ite_nf ?_)
local macro_rules | `(tactic| walk_at "k") => `(tactic| first
  | walk_at "s"
  | with_reducible refine ite_eqT (by decide +kernel) ?_
  | with_reducible refine ite_eqF (by decide +kernel) ?_)
open LamX
/-- its days stand in the row, its factors are small -/
def payWf (m : Nat) : T → Prop
  | .lf .cash _ => True
  | .lf _ d => 0 ≤ d ∧ d < m
  | .l2 _ d _ => 0 ≤ d ∧ d < m
  | .un s => payWf m s
  | .tm s n => (-1000 ≤ n ∧ n ≤ 1000) ∧ payWf m s
  | .bi _ s t => payWf m s ∧ payWf m t
  | .ite d _ s t => (0 ≤ d ∧ d < m) ∧ payWf m s ∧ payWf m t
section
variable {P : Program} {w : World} {K : PySem.W.Frag} {mg : Str → Option Value} {base : Heap}
/-- path[:d + 1] -/
theorem cut_row {row : List Int} {d : Int} (h0 : 0 ≤ d) (h1 : d < row.length) : cutV (row.map V.int) none (some (d + 1)) = (row.take (d.toNat + 1)).map V.int := by
  unfold cutV
  have e1 : HT.sIx (row.map V.int).length (row.map V.int).length (some (d + 1)) = d.toNat + 1 := by
    have h3 : (d + 1 : Int) = ((d.toNat + 1 : Nat) : Int) := by omega
    rw [h3, HT.sIx_nat, List.length_map]
    omega
  rw [e1, HT.sIx_none]
  simp only [List.drop_zero, Nat.sub_zero]
  rw [← List.map_take]
theorem row_cons {row : List Int} {d : Int} (h0 : 0 ≤ d) (h1 : d < row.length) : ∃ n0 r0, row.take (d.toNat + 1) = n0 :: r0 := by
  cases row with
  | nil => exact absurd h1 (by simp; omega)
  | cons n0 r => exact ⟨n0, r.take d.toNat, rfl⟩
theorem r_slRow {H : Hp} {Q : VK} {pa : Addr} {row : List Int} {d : Int} (hp : SqT K H pa (row.map .int)) (h0 : 0 ≤ d) (h1 : d < row.length) (q : ∀ H' b, Ext H H' → SqT K H' b ((row.take (d.toNat + 1)).map .int) → Q (.ref b) H') : rSlA K (.ref pa) none (some (d + 1)) H Q := by
  refine ⟨pa, _, rfl, hp, fun z => ?_, fun _ p2 hp2 => ?_⟩
  · have hw : (row.map V.int) = (row.take (d.toNat + 1)).map V.int := by
      rw [← cut_row h0 h1]
      unfold cutV
      rw [z.1, z.2, List.drop_zero, Nat.sub_zero, List.take_length]
    exact q H pa (Ext.refl H) (by rw [← hw]; exact hp)
  · refine q _ p2 (Ext.new hp2) (.inl (.inl ?_))
    rw [upd_same, cut_row h0 h1]
theorem r_word {H : Hp} {Q : VK} {b : Addr} {t : T} {us : List V} (hn : SqT K H b (t.items us)) (q : Q (.str t.word) H) : rIxT K (.ref b) (.int 0) H Q := r_ixT hn (atI_nat (j := 0) (t.item0 us)) q
theorem T.hgt_pos (t : T) : 1 ≤ t.hgt := by cases t <;> simp [T.hgt]
theorem sc__law_places : FnScope ["term"] ["term"] (defScope (top 67)) := ⟨rfl, rfl, rfl, by decide +kernel, rfl, by decide +kernel, by decide +kernel⟩
theorem c__law_places (fx : Fx K mg w) : CalR P w K mg base 1 "_law_places" (spPlacesIn K) := by
  refine fx.d__law_places.ok sc__law_places (fun vs H Q E q => ?_) (fun _ _ _ _ _ _ us hl => match us, hl with | [_], _ => rfl) fun f cdv A outer s H vs Q E hr q => ?_
  · obtain ⟨v, t, rfl, _⟩ := q
    rfl
  · obtain ⟨v, t, rfl, ht, q⟩ := q
    refine ⟨_, (pss_cons (ps_if (pt_cmpR op_eq (pe_ix ix_tup (pv 0) pe_int (fun _ _ => rfl)) pe_str (nomark _)) (pss_one (ps_ret (pe_tup (pa_cons pe_int (pa_cons pe_int pa_nil))))) pss_nil)
    (pss_cons (ps_if (pt_cmpR op_in_seq (pe_ix ix_tup (pv 0) pe_int (fun _ _ => rfl)) (pe_tup (pa_cons pe_str (pa_cons pe_str pa_nil))) (by with_unfolding_all rfl)) (pss_one (ps_ret (pe_tup (pa_cons pe_int pa_nil)))) pss_nil)
    (pss_one (ps_ret (pe_ifExp (pt_cmpR op_in_seq (pe_ix ix_tup (pv 0) pe_int (fun _ _ => rfl)) (pe_tup (pa_cons pe_str (pa_cons pe_str (pa_cons pe_str pa_nil)))) (by with_unfolding_all rfl)) (pe_tup (pa_cons pe_int (pa_cons pe_int pa_nil))) (pe_tup pa_nil)))))), ?_⟩
    repeat walk_at "k"
    obtain ⟨b, us, rfl, hn, hk⟩ := ht.node
    refine r_word hn ?_
    have t1 : ∀ H1, Ext H H1 → t.places = [1] → ([V.int 1] : List V).length ≤ sizeLine ∧ ∀ p, H1 p = none → Q (.ref p) (upd H1 p (.tup [.int 1])) := fun H1 e hp => ⟨by show 1 ≤ sizeLine; decide, fun p h => q _ p (e.trans (Ext.new h)) (by rw [hp]; exact .inl (.inl upd_same))⟩
    have t2 : ∀ H1, Ext H H1 → t.places = [1, 2] → ([V.int 1, V.int 2] : List V).length ≤ sizeLine ∧ ∀ p, H1 p = none → Q (.ref p) (upd H1 p (.tup [.int 1, .int 2])) := fun H1 e hp => ⟨by show 2 ≤ sizeLine; decide, fun p h => q _ p (e.trans (Ext.new h)) (by rw [hp]; exact .inl (.inl upd_same))⟩
    have t0 : ∀ H1, Ext H H1 → t.places = [] → ([] : List V).length ≤ sizeLine ∧ ∀ p, H1 p = none → Q (.ref p) (upd H1 p (.tup [])) := fun H1 e hp => ⟨by show 0 ≤ sizeLine; decide, fun p h => q _ p (e.trans (Ext.new h)) (by rw [hp]; exact .inl (.inl upd_same))⟩
    cases t with
    | ite d n s t =>
      dsimp only [T.word]
      repeat walk_at "k"
      exact ⟨by show 2 ≤ sizeLine; decide, fun p hp => q _ p (Ext.new hp) (.inl (.inl upd_same))⟩
    | un s =>
      dsimp only [T.word]
      repeat walk_at "k"
      refine r_word (t := .un s) hn ?_
      dsimp only [T.word]
      repeat walk_at "k"
      refine r_inL rfl rfl (by decide) fun H1 e1 => ?_
      repeat walk_at "k"
      exact t1 _ e1 rfl
    | tm s n =>
      dsimp only [T.word]
      repeat walk_at "k"
      refine r_word (t := .tm s n) hn ?_
      dsimp only [T.word]
      repeat walk_at "k"
      refine r_inL rfl rfl (by decide) fun H1 e1 => ?_
      repeat walk_at "k"
      exact t1 _ e1 rfl
    | bi ww s u =>
      cases ww <;>
      · dsimp only [T.word]
        repeat walk_at "k"
        refine r_word (t := .bi _ s u) hn ?_
        dsimp only [T.word]
        repeat walk_at "k"
        refine r_inL rfl rfl (by decide) fun H1 e1 => ?_
        repeat walk_at "k"
        refine r_word (t := .bi _ s u) (e1.tup hn) ?_
        dsimp only [T.word]
        repeat walk_at "k"
        refine r_inL rfl rfl (by decide) fun H2 e2 => ?_
        repeat walk_at "k"
        exact t2 _ (e1.trans e2) rfl
    | lf ww n =>
      cases ww <;>
      · dsimp only [T.word]
        repeat walk_at "k"
        refine r_word (t := .lf _ n) hn ?_
        dsimp only [T.word]
        repeat walk_at "k"
        refine r_inL rfl rfl (by decide) fun H1 e1 => ?_
        repeat walk_at "k"
        refine r_word (t := .lf _ n) (e1.tup hn) ?_
        dsimp only [T.word]
        repeat walk_at "k"
        refine r_inL rfl rfl (by decide) fun H2 e2 => ?_
        repeat walk_at "k"
        exact t0 _ (e1.trans e2) rfl
    | l2 ww d n =>
      cases ww <;>
      · dsimp only [T.word]
        repeat walk_at "k"
        refine r_word (t := .l2 _ d n) hn ?_
        dsimp only [T.word]
        repeat walk_at "k"
        refine r_inL rfl rfl (by decide) fun H1 e1 => ?_
        repeat walk_at "k"
        refine r_word (t := .l2 _ d n) (e1.tup hn) ?_
        dsimp only [T.word]
        repeat walk_at "k"
        refine r_inL rfl rfl (by decide) fun H2 e2 => ?_
        repeat walk_at "k"
        exact t0 _ (e1.trans e2) rfl
theorem sc__law_pays : FnScope ["term", "path", "word", "here", "row", "one", "other"] ["term", "path"] (defScope (top 66)) := ⟨rfl, rfl, rfl, by decide +kernel, rfl, by decide +kernel, by decide +kernel⟩
def spPays (K : PySem.W.Frag) (n : Nat) : Sp := fun vs H Q _ => ∃ (v : V) (pa : Addr) (t : T) (row : List Int), vs = [v, .ref pa] ∧ TR K H t v ∧ t.hgt ≤ n ∧ SqT K H pa (row.map .int) ∧ row.length ≤ 1000 ∧ payWf row.length t ∧ ∀ H', Ext H H' → Q (.int (pay t row)) H'
theorem c__law_pays (fx : Fx K mg w) : ∀ n : Nat, CalR P w K mg base (n + 1) "_law_pays" (spPays K n)
  | 0 => by
    obtain ⟨f, fd, F, hm⟩ := fx.d__law_pays
    refine ⟨f, fun A outer s H us vs Q E hr e0 r q => ?_, hm, F.kp⟩
    obtain ⟨v, pa, t, row, _, _, h0, _⟩ := q
    have := T.hgt_pos t
    omega
  | n + 1 => by
    have ih := c__law_pays fx n
    refine fx.d__law_pays.ok sc__law_pays (fun vs H Q E q => ?_) (fun _ _ _ _ _ _ us hl => match us, hl with | [_, _], _ => rfl) fun f cdv A outer s H vs Q E hr q => ?_
    · obtain ⟨v, pa, t, row, rfl, _⟩ := q
      rfl
    · obtain ⟨v, pa, t, row, rfl, ht, hg, hp, hrl, hwf, q⟩ := q
      have hu := hr.units
      refine ⟨_, (pss_cons (ps_set (i := 2) sc__law_pays.nd rfl (Or.inl rfl) (pe_ix ix_tup (pv 0) pe_int (fun _ _ => rfl)))
    (pss_cons (ps_if (pt_cmpR op_eq (pv 2) pe_str (nomark _)) (pss_one (ps_ret (pe_ix ix_tup (pv 0) pe_int (fun _ _ => rfl)))) pss_nil)
    (pss_cons (ps_if (pt_cmpR op_in_seq (pv 2) (pe_tup (pa_cons pe_str (pa_cons pe_str (pa_cons pe_str (pa_cons pe_str (pa_cons pe_str pa_nil)))))) (by with_unfolding_all rfl)) (pss_cons (ps_par (i := 3) (j := 4) rfl sc__law_pays.nd rfl rfl (by decide) rfl rfl (pa_cons (pe_ix ix_tup (pv 1) (pe_ix ix_tup (pv 0) pe_int (fun _ _ => rfl)) (fun _ _ => rfl)) (pa_cons (pe_slice sl_tupA (pv 1) po_none (po_some (pe_op op_add (pe_ix ix_tup (pv 0) pe_int (fun _ _ => rfl)) pe_int))) pa_nil)) rfl)
      (pss_cons (ps_if (pt_cmpR op_in_seq (pv 2) (pe_tup (pa_cons pe_str (pa_cons pe_str pa_nil))) (by with_unfolding_all rfl)) (pss_one (ps_ret (pe_callB (call_max2 rfl) rfl fx.n_max (by decide +kernel) (pa_cons pe_int (pa_cons (pe_ifExp (pt_cmpR op_eq (pv 2) pe_str (nomark _)) (pe_op op_sub (pv 3) (pe_ix ix_tup (pv 0) pe_int (fun _ _ => rfl))) (pe_op op_sub (pe_ix ix_tup (pv 0) pe_int (fun _ _ => rfl)) (pv 3))) pa_nil))))) pss_nil)
      (pss_one (ps_ret (pe_ifExp (pt_cmpR op_eq (pv 2) pe_str (nomark _)) (pv 3) (pe_ifExp (pt_cmpR op_eq (pv 2) pe_str (nomark _)) (pe_callB (cr_minT rfl hu) rfl fx.n_min (by decide +kernel) (pa_cons (pv 4) pa_nil)) (pe_callB (cr_maxT rfl hu) rfl fx.n_max (by decide +kernel) (pa_cons (pv 4) pa_nil)))))))) pss_nil)
    (pss_cons (ps_if (pt_cmpR op_eq (pv 2) pe_str (nomark _)) (pss_one (ps_ret (pe_cr ih hr px (pa_cons (pe_ifExp (pt_cmpR op_gt (pe_ix ix_tup (pv 1) (pe_ix ix_tup (pv 0) pe_int (fun _ _ => rfl)) (fun _ _ => rfl)) (pe_ix ix_tup (pv 0) pe_int (fun _ _ => rfl)) (nomark _)) (pe_ix ix_tup (pv 0) pe_int (fun _ _ => rfl)) (pe_ix ix_tup (pv 0) pe_int (fun _ _ => rfl))) (pa_cons (pv 1) pa_nil)) (hk := Nat.le_refl _)))) pss_nil)
    (pss_cons (ps_set (i := 5) sc__law_pays.nd rfl (Or.inl rfl) (pe_cr ih hr px (pa_cons (pe_ix ix_tup (pv 0) pe_int (fun _ _ => rfl)) (pa_cons (pv 1) pa_nil)) (hk := Nat.le_refl _)))
    (pss_cons (ps_if (pt_cmpR op_in_seq (pv 2) (pe_tup (pa_cons pe_str (pa_cons pe_str pa_nil))) (by with_unfolding_all rfl)) (pss_one (ps_ret (pe_ifExp (pt_cmpR op_eq (pv 2) pe_str (nomark _)) (pe_op op_sub pe_int (pv 5)) (pe_op op_mul (pv 5) (pe_ix ix_tup (pv 0) pe_int (fun _ _ => rfl)))))) pss_nil)
    (pss_cons (ps_set (i := 6) sc__law_pays.nd rfl (Or.inl rfl) (pe_cr ih hr px (pa_cons (pe_ix ix_tup (pv 0) pe_int (fun _ _ => rfl)) (pa_cons (pv 1) pa_nil)) (hk := Nat.le_refl _)))
    (pss_cons (ps_if (pt_cmpR op_eq (pv 2) pe_str (nomark _)) (pss_one (ps_ret (pe_op op_add (pv 5) (pv 6)))) pss_nil)
    (pss_one (ps_ret (pe_ifExp (pt_cmpR op_eq (pv 2) pe_str (nomark _)) (pe_callB (call_min2 rfl) rfl fx.n_min (by decide +kernel) (pa_cons (pv 5) (pa_cons (pv 6) pa_nil))) (pe_callB (call_max2 rfl) rfl fx.n_max (by decide +kernel) (pa_cons (pv 5) (pa_cons (pv 6) pa_nil)))))))))))))), ?_⟩
      repeat walk_at "k"
      cases t with
      | lf ww d =>
        obtain ⟨a, rfl, hn⟩ := ht
        refine r_ixT hn (i := 0) (by rfl) ?_
        cases ww with
        | cash =>
          repeat walk_at "k"
          refine r_ixT hn (i := 1) (by rfl) ?_
          exact q H (Ext.refl H)
        | _ =>
          have hw1 : 0 ≤ d := hwf.1
          have hw2 : d < row.length := hwf.2
          obtain ⟨n0, r0, hrow⟩ := row_cons hw1 hw2
          repeat walk_at "k"
          refine r_inL rfl rfl (by decide) fun H1 e1 => ?_
          repeat walk_at "k"
          refine r_ixT (e1.tup hn) (i := 1) (by rfl) ?_
          refine r_ixT (e1.tup hp) (atI_row hw1 hw2) ?_
          repeat walk_at "k"
          refine r_ixT (e1.tup hn) (i := 1) (by rfl) ?_
          repeat walk_at "k"
          refine r_slRow (e1.tup hp) hw1 hw2 fun H2 b e2 hb => ?_
          rw [hrow] at hb
          repeat walk_at "k"
          refine ⟨_, _, rfl, ?_⟩
          repeat walk_at "k"
          refine r_inL rfl rfl (by decide) fun H3 e3 => ?_
          have hq := q H3 ((e1.trans e2).trans e3)
          simp only [pay, hrow] at hq
          repeat walk_at "k"
          first
            | exact hq
            | exact ⟨b, n0, r0, rfl, e3.tup hb, hq⟩
      | l2 ww d n =>
        obtain ⟨a, rfl, hn⟩ := ht
        refine r_ixT hn (i := 0) (by rfl) ?_
        have hw1 : 0 ≤ d := hwf.1
        have hw2 : d < row.length := hwf.2
        cases ww <;>
        · repeat walk_at "k"
          refine r_inL rfl rfl (by decide) fun H1 e1 => ?_
          repeat walk_at "k"
          refine r_ixT (e1.tup hn) (i := 1) (by rfl) ?_
          refine r_ixT (e1.tup hp) (atI_row hw1 hw2) ?_
          repeat walk_at "k"
          refine r_ixT (e1.tup hn) (i := 1) (by rfl) ?_
          repeat walk_at "k"
          refine r_slRow (e1.tup hp) hw1 hw2 fun H2 b e2 hb => ?_
          repeat walk_at "k"
          refine ⟨_, _, rfl, ?_⟩
          repeat walk_at "k"
          refine r_inL rfl rfl (by decide) fun H3 e3 => ?_
          have e13 := (e1.trans e2).trans e3
          have hq := q H3 e13
          simp only [pay] at hq
          repeat walk_at "k"
          refine r_ixT (e13.tup hn) (i := 2) (by rfl) ?_
          repeat walk_at "k"
          refine ⟨0, _, rfl, ?_⟩
          have e4 : ∀ z : Int, (if z > 0 then z else 0) = max 0 z := fun z => by omega
          rw [e4]
          exact hq
      | un s =>
        obtain ⟨a, u, rfl, hn, hs⟩ := ht
        refine r_ixT hn (i := 0) (by rfl) ?_
        have hsg : s.hgt ≤ n := by simp only [T.hgt] at hg; omega
        repeat walk_at "k"
        refine r_inL rfl rfl (by decide) fun H1 e1 => ?_
        repeat walk_at "k"
        refine r_ixT (e1.tup hn) (i := 1) (by rfl) ?_
        repeat walk_at "k"
        refine ⟨u, pa, s, row, rfl, hs.tk e1.tk, hsg, e1.tup hp, hrl, hwf, fun H2 e2 => ?_⟩
        repeat walk_at "k"
        refine r_inL rfl rfl (by decide) fun H3 e3 => ?_
        repeat walk_at "k"
        exact q H3 ((e1.trans e2).trans e3)
      | tm s m =>
        obtain ⟨a, u, rfl, hn, hs⟩ := ht
        refine r_ixT hn (i := 0) (by rfl) ?_
        have hsg : s.hgt ≤ n := by simp only [T.hgt] at hg; omega
        repeat walk_at "k"
        refine r_inL rfl rfl (by decide) fun H1 e1 => ?_
        repeat walk_at "k"
        refine r_ixT (e1.tup hn) (i := 1) (by rfl) ?_
        repeat walk_at "k"
        refine ⟨u, pa, s, row, rfl, hs.tk e1.tk, hsg, e1.tup hp, hrl, hwf.2, fun H2 e2 => ?_⟩
        repeat walk_at "k"
        refine r_inL rfl rfl (by decide) fun H3 e3 => ?_
        repeat walk_at "k"
        have e13 := (e1.trans e2).trans e3
        refine r_ixT (e13.tup hn) (i := 2) (by rfl) ?_
        exact r_mul (by have h1 : -1000 ≤ m := hwf.1.1; have h2 : m ≤ 1000 := hwf.1.2; omega) (q H3 e13)
      | bi ww s t =>
        obtain ⟨a, u1, u2, rfl, hn, hs, ht⟩ := ht
        refine r_ixT hn (i := 0) (by rfl) ?_
        have hsg : s.hgt ≤ n := by simp only [T.hgt] at hg; omega
        have htg : t.hgt ≤ n := by simp only [T.hgt] at hg; omega
        cases ww <;>
        · repeat walk_at "k"
          refine r_inL rfl rfl (by decide) fun H1 e1 => ?_
          repeat walk_at "k"
          refine r_ixT (e1.tup hn) (i := 1) (by rfl) ?_
          repeat walk_at "k"
          refine ⟨u1, pa, s, row, rfl, hs.tk e1.tk, hsg, e1.tup hp, hrl, hwf.1, fun H2 e2 => ?_⟩
          repeat walk_at "k"
          refine r_inL rfl rfl (by decide) fun H3 e3 => ?_
          repeat walk_at "k"
          have e13 := (e1.trans e2).trans e3
          refine r_ixT (e13.tup hn) (i := 2) (by rfl) ?_
          repeat walk_at "k"
          refine ⟨u2, pa, t, row, rfl, ht.tk e13.tk, htg, e13.tup hp, hrl, hwf.2, fun H4 e4 => ?_⟩
          have hq := q H4 (e13.trans e4)
          simp only [pay] at hq
          repeat walk_at "k"
          first
            | exact hq
            | (refine ⟨_, _, rfl, ?_⟩
               first
                 | rw [show (if pay t row < pay s row then pay t row else pay s row) = min (pay s row) (pay t row) by omega]; exact hq
                 | rw [show (if pay t row > pay s row then pay t row else pay s row) = max (pay s row) (pay t row) by omega]; exact hq)
      | ite d m s t =>
        obtain ⟨a, u1, u2, rfl, hn, hs, ht⟩ := ht
        refine r_ixT hn (i := 0) (by rfl) ?_
        have hsg : s.hgt ≤ n := by simp only [T.hgt] at hg; omega
        have htg : t.hgt ≤ n := by simp only [T.hgt] at hg; omega
        repeat walk_at "k"
        refine r_inL rfl rfl (by decide) fun H1 e1 => ?_
        repeat walk_at "k"
        refine r_ixT (e1.tup hn) (i := 1) (by rfl) ?_
        refine r_ixT (e1.tup hp) (atI_row hwf.1.1 hwf.1.2) ?_
        repeat walk_at "k"
        refine r_ixT (e1.tup hn) (i := 2) (by rfl) ?_
        repeat walk_at "k"
        simp only [pay] at q
        refine ite_b (fun h1 => ?_) fun h1 => ?_
        · rw [if_pos (of_decide_eq_true h1)] at q
          repeat walk_at "k"
          refine r_ixT (e1.tup hn) (i := 3) (by rfl) ?_
          repeat walk_at "k"
          exact ⟨u1, pa, s, row, rfl, hs.tk e1.tk, hsg, e1.tup hp, hrl, hwf.2.1, fun H2 e2 => q H2 (e1.trans e2)⟩
        · rw [if_neg (of_decide_eq_false h1)] at q
          repeat walk_at "k"
          refine r_ixT (e1.tup hn) (i := 4) (by rfl) ?_
          repeat walk_at "k"
          exact ⟨u2, pa, t, row, rfl, ht.tk e1.tk, htg, e1.tup hp, hrl, hwf.2.2, fun H2 e2 => q H2 (e1.trans e2)⟩
end
end
section
open PySem Spec PyProof.Rows L2
local macro_rules | `(tactic| walk_at "s") => `(tactic| first
  | with_reducible refine r_seq ?_
  | with_reducible refine r_next ?_
  | with_reducible refine r_asg ?_
  | with_reducible refine r_gname ?_
  | with_reducible refine r_ret ?_
  | with_reducible refine r_drop ?_
  | with_reducible refine r_ifs ?_
  | with_reducible refine r_var rfl ?_
  | with_reducible refine r_c ?_
  | with_reducible refine r_op ?_
  | with_reducible refine r_un ?_
  | with_reducible refine r_nil ?_
  | with_reducible refine r_cons ?_
  | with_reducible refine r_test ?_
  | with_reducible refine r_tb ?_
  | with_reducible refine r_and ?_
  | with_reducible refine r_or ?_
  | with_reducible refine r_not ?_
  | with_reducible refine r_andV ?_
  | with_reducible refine r_orV ?_
  | with_reducible refine r_notV ?_
  | with_reducible refine r_if ?_
  | with_reducible refine r_chain ?_
  | with_reducible refine r_cl ?_
  | with_reducible refine r_cb ?_
  | with_reducible refine r_bl ?_
  | with_reducible refine r_I0 ?_
  | with_reducible refine r_yes ?_
  | with_reducible refine r_itT ?_
  | with_reducible refine r_itL ?_
  | with_reducible refine r_itS ?_
  | with_reducible refine r_itE ?_
  | with_reducible refine r_revT ?_
  | with_reducible refine r_star ?_
  | with_reducible refine r_for ?_
  | with_reducible refine r_bm ?_
  | with_reducible refine r_bm0 ?_
  | with_reducible refine r_kget1 ?_
  | with_reducible refine r_kget2 ?_
  | with_reducible refine r_par ?_
  | with_reducible refine r_tup ?_
  | with_reducible refine r_lst ?_
  | with_reducible refine r_exI ?_
  | with_reducible refine r_itZ ?_
  | with_reducible refine r_dget ?_
  | with_reducible refine r_gsub ?_
  | with_reducible refine r_pnil ?_
  | with_reducible refine r_pcons ?_
  | with_reducible refine r_methR ?_
  | with_reducible refine r_dpop1 ?_
  | with_reducible refine r_dput ?_
  | with_reducible refine r_din ?_
  | with_reducible refine r_dnotin ?_
  | with_reducible refine r_nopart ?_
  | with_reducible refine r_lc ?_
  | with_reducible refine r_sl ?_
  | with_reducible refine r_part ?_
  | with_reducible refine r_eq rfl ?_
  | with_reducible refine r_ne rfl ?_
  | with_reducible refine iteT ?_
  | with_reducible refine iteF ?_
  | with_reducible refine ite_nt ?_
  | with_reducible refine ite_nf ?_)
local macro_rules | `(tactic| walk_at "k") => `(tactic| first
  | walk_at "s"
  | with_reducible refine ite_eqT (by decide +kernel) ?_
  | with_reducible refine ite_eqF (by decide +kernel) ?_)
open LamX
section
/-- every node -/
def allT (p : T → Bool) : T → Bool
  | .lf w n => p (.lf w n)
  | .l2 w d n => p (.l2 w d n)
  | .un s => p (.un s) && allT p s
  | .tm s n => p (.tm s n) && allT p s
  | .bi w s t => p (.bi w s t) && (allT p s && allT p t)
  | .ite d n s t => p (.ite d n s t) && (allT p s && allT p t)
theorem preN_all (p : T → Bool) : ∀ (t : T) (q : List Int), (preN t q).all (fun e => p e.2) = allT p t
  | .lf w n, q => by simp [preN, allT]
  | .l2 w d n, q => by simp [preN, allT]
  | .un s, q => by simp only [preN, allT, List.all_cons, preN_all p s]
  | .tm s n, q => by simp only [preN, allT, List.all_cons, preN_all p s]
  | .bi w s t, q => by simp only [preN, allT, List.all_cons, List.all_append, preN_all p s, preN_all p t]
  | .ite d n s t, q => by simp only [preN, allT, List.all_cons, List.all_append, preN_all p s, preN_all p t]
theorem allT_eq (p : T → Bool) (t : T) : allT p t = (p t && t.kids.all fun k => allT p k.2) := by
  cases t <;> simp [allT, T.kids]
theorem okC_allT (dss : List (List Int)) (t : T) : okC dss t = allT (nodeGood dss) t := preN_all _ t []
theorem allOwn_allT (t : T) : allOwn t = allT T.own t := preN_all _ t []
theorem pay_wf {m : Nat} : ∀ t : T, allT T.own t = true → allT (knowsD m) t = true → payWf m t := by
  have hd : ∀ d, T.dayNo d = true → 0 ≤ d := fun d h => (of_decide_eq_true h).1
  intro t
  induction t with
  | lf w n =>
    intro h1 h2
    cases w with
    | cash => trivial
    | _ => exact ⟨hd _ h1, of_decide_eq_true h2⟩
  | l2 w d n =>
    intro h1 h2
    refine ⟨hd _ (by have := h1; simp only [allT, T.own, Bool.and_eq_true] at this; exact this.1), of_decide_eq_true h2⟩
  | un s ih =>
    intro h1 h2
    simp only [allT, Bool.and_eq_true] at h1 h2
    exact ih h1.2 h2.2
  | tm s n ih =>
    intro h1 h2
    simp only [allT, Bool.and_eq_true] at h1 h2
    have h3 : -1000 ≤ n ∧ n ≤ 1000 := of_decide_eq_true (show decide (-1000 ≤ n ∧ n ≤ 1000) = true from h1.1)
    exact ⟨h3, ih h1.2 h2.2⟩
  | bi w s t ih1 ih2 =>
    intro h1 h2
    simp only [allT, Bool.and_eq_true] at h1 h2
    exact ⟨ih1 h1.2.1 h2.2.1, ih2 h1.2.2 h2.2.2⟩
  | ite d n s t ih1 ih2 =>
    intro h1 h2
    simp only [allT, Bool.and_eq_true] at h1 h2
    exact ⟨⟨hd _ (by have := h1.1; simp only [T.own, Bool.and_eq_true] at this; exact this.1), of_decide_eq_true h2.1⟩, ih1 h1.2.1 h2.2.1, ih2 h1.2.2 h2.2.2⟩
theorem good_knows {dss : List (List Int)} : ∀ t : T, allT (nodeGood dss) t = true → allT (knowsD dss.length) t = true := by
  have hg : ∀ t, nodeGood dss t = true → knowsD dss.length t = true := fun t h => by
    unfold nodeGood at h
    rw [Bool.and_eq_true] at h
    exact h.1
  intro t
  induction t with
  | lf w n => exact hg _
  | l2 w d n => exact hg _
  | un s ih =>
    intro h1
    simp only [allT, Bool.and_eq_true] at h1 ⊢
    exact ⟨hg _ h1.1, ih h1.2⟩
  | tm s n ih =>
    intro h1
    simp only [allT, Bool.and_eq_true] at h1 ⊢
    exact ⟨hg _ h1.1, ih h1.2⟩
  | bi w s t ih1 ih2 =>
    intro h1
    simp only [allT, Bool.and_eq_true] at h1 ⊢
    exact ⟨hg _ h1.1, ih1 h1.2.1, ih2 h1.2.2⟩
  | ite d n s t ih1 ih2 =>
    intro h1
    simp only [allT, Bool.and_eq_true] at h1 ⊢
    exact ⟨hg _ h1.1, ih1 h1.2.1, ih2 h1.2.2⟩
end
section
variable {P : Program} {w : World} {K : PySem.W.Frag} {mg : Str → Option Value} {base : Heap}
/-- path + (j,) -/
theorem r_catOne {H : Hp} {Q : VK} {pa z1 : Addr} {p : List Int} {j : Int} (hp : SqT K H pa (p.map .int)) (hz : SqT K H z1 [.int j]) (hl : p.length ≤ 1000) (h : ∀ H' z, Ext H H' → SqT K H' z ((p ++ [j]).map .int) → Q (.ref z) H') : rCatA K (.ref pa) (.ref z1) H Q := by
  refine ⟨pa, z1, p.map .int, [.int j], rfl, rfl, hp, hz, by rw [List.length_map, sizeLine_eq]; show p.length + 1 ≤ _; omega, fun hnil => ?_, fun _ h0 => absurd h0 (by simp), fun hne _ z2 hz2 => ?_⟩
  · have hp0 : p = [] := List.map_eq_nil_iff.mp hnil
    exact h H z1 (Ext.refl H) (by rw [hp0]; exact hz)
  · exact h _ z2 (Ext.new hz2) (.inl (.inl (by rw [upd_same, List.map_append]; rfl)))
theorem sc__law_fault : FnScope ["days_so", "paths_so", "term", "path", "place", "found", "great", "way"] ["days_so", "paths_so", "term", "path"] (defScope (top 68)) := ⟨rfl, rfl, rfl, by decide +kernel, rfl, by decide +kernel, by decide +kernel⟩
def spFault (K : PySem.W.Frag) (n : Nat) : Sp := fun vs H Q _ => ∃ (d l pa : Addr) (ds : List V) (as : List Addr) (v : V) (t : T) (p : List Int) (dss : List (List Int)), vs = [.ref d, .ref l, v, .ref pa] ∧ SqT K H d ds ∧ ds.length = dss.length ∧ dss.length ≤ 1000 ∧ H l = some (.lst (as.map .ref)) ∧ Rows K H as (pathsOf dss) ∧ (pathsOf dss).length ≤ 1000 ∧
  TR K H t v ∧ t.hgt ≤ n ∧ allT T.own t = true ∧ SqT K H pa (p.map .int) ∧ p.length + n ≤ 100 ∧
  (allT (nodeGood dss) t = true → ∀ H' b, Ext H H' → H' b = some (.lst []) → Q (.ref b) H') ∧ (allT (nodeGood dss) t = false → ∀ H' b q (p' : List Int), Ext H H' → H' b = some (.lst [.ref q]) → SqT K H' q (p'.map .int) → Q (.ref b) H')
theorem c__law_fault (fx : Fx K mg w) : ∀ n : Nat, CalR P w K mg base (n + 2) "_law_fault" (spFault K n)
  | 0 => by
    obtain ⟨f, fd, F, hm⟩ := fx.d__law_fault
    refine ⟨f, fun A outer s H us vs Q E hr e0 r q => ?_, hm, F.kp⟩
    obtain ⟨d, l, pa, ds, as, v, t, p, dss, _, _, _, _, _, _, _, _, h0, _⟩ := q
    have := T.hgt_pos t
    omega
  | n + 1 => by
    have ih := c__law_fault fx n
    refine fx.d__law_fault.ok sc__law_fault (fun vs H Q E q => ?_) (fun _ _ _ _ _ _ us hl => match us, hl with | [_, _, _, _], _ => rfl) fun f cdv A outer s H vs Q E hr q => ?_
    · obtain ⟨d, l, pa, ds, as, v, t, p, dss, rfl, _⟩ := q
      rfl
    · obtain ⟨d, l, pa, ds, as, v, t, p, dss, rfl, hd, hdl, hdn, hl, hrows, hpn, ht, hg, hown, hp, hpl, qok, qbad⟩ := q
      have hu := hr.units
      refine ⟨_, (pss_cons (ps_for PassesOwn.leaving rfl (pi_tup (pe_cr ((c__law_places fx).mono (Nat.le_add_left 1 (n + 1))) hr px (pa_cons (pv 2) pa_nil) (hk := Nat.le_refl _))) (pg_name (i := 4) (x := "place") sc__law_fault.nd rfl (Or.inl rfl) (.inl rfl)) (pss_cons (ps_set (i := 5) sc__law_fault.nd rfl (Or.inl rfl) (pe_cr ih hr px (pa_cons (pv 0) (pa_cons (pv 1) (pa_cons (pe_ix ix_tup (pv 2) (pv 4) (fun _ _ => rfl)) (pa_cons (pe_op op_catA (pv 3) (pe_tup (pa_cons (pv 4) pa_nil))) pa_nil)))) (hk := Nat.le_refl _)))
      (pss_one (ps_if (pt_cmpR (op_neD hu) (pv 5) (pe_lst pa_nil) (nomark _)) (pss_one (ps_ret (pv 5))) pss_nil))))
    (pss_cons (ps_if (PW.pt (pw_and (pt_cmpR op_in_seq (pe_ix ix_tup (pv 2) pe_int (fun _ _ => rfl)) (pe_tup (pa_cons pe_str (pa_cons pe_str (pa_cons pe_str (pa_cons pe_str (pa_cons pe_str (pa_cons pe_str pa_nil))))))) (by with_unfolding_all rfl)) (pw_and1 (pt_cmpR op_ge (pe_ix ix_tup (pv 2) pe_int (fun _ _ => rfl)) (pe_callB call_len_seq rfl fx.n_len (by decide +kernel) (pa_cons (pv 0) pa_nil)) (nomark _))))) (pss_one (ps_ret (pe_lst (pa_cons (pv 3) pa_nil)))) pss_nil)
    (pss_cons (ps_setLc (i := 6) (own := [("way", 7)]) (g := gName 7) (tt := tNot (tTest (tChain (rI0 fun i j => .bl (decide (i ≤ j))) (rI0 fun i j => .bl (decide (i ≤ j))) (tUn (rU fun i => .int (-i)) (tC (.int 10000))) (tCl (spPays K (n + 1)) (fun _ _ _ => False) (tCons (tVar 2) (tCons (tVar 7) tNil))) (tC (.int 10000))))) rfl sc__law_fault.nd rfl rfl (sw_true rfl rfl rfl (by decide +kernel)) (pi_list (pv 1)) (blkOk_by (N := ["days_so", "paths_so", "term", "path", "place", "found", "great", "way"]) (sc := defScope (top 68)) (by decide +kernel)) (fun _ _ _ _ _ => (pg_name (i := 7) (x := "way") sc__law_fault.nd rfl (Or.inl rfl) (.inr rfl))) (fun _ _ _ _ _ => (pts_one (pt_not (pt_chain op_le op_le (pe_un un_neg pe_int) (pe_cr (c__law_pays fx (n + 1)) hr passL (pa_cons (pv 2) (pa_cons (pv 7) pa_nil)) (hk := Nat.le_refl _)) pe_int)))) (fun _ _ _ _ _ => pe_int))
    (pss_one (ps_ret (pe_ifExp (pt_cmpR (op_neD hu) (pv 6) (pe_lst pa_nil) (nomark _)) (pe_lst (pa_cons (pv 3) pa_nil)) (pe_lst pa_nil))))))), ?_⟩
      repeat walk_at "k"
      have eall : allT (nodeGood dss) t = (nodeGood dss t && t.kids.all fun k => allT (nodeGood dss) k.2) := allT_eq _ t
      refine ⟨v, t, rfl, ht, fun H1 q1 e1 hq1 => ?_⟩
      refine ⟨q1, rfl, ⟨_, hq1⟩, ?_⟩
      have hkn : (t.places.map V.int).length = t.kids.length := by rw [List.length_map, T.places, List.length_map]
      refine for_it walk_tup (fun i σ' H' => Ext H1 H' ∧ (∀ j, j < i → ∀ k, t.kids[j]? = some k → allT (nodeGood dss) k.2 = true) ∧ ∃ o4 o5 o6 o7, σ' = [some (.ref d), some (.ref l), some v, some (.ref pa), o4, o5, o6, o7])
        ⟨Ext.refl _, fun j hj => absurd hj (Nat.not_lt_zero _), none, none, none, none, rfl⟩ (fun i σ' H' _ z => z.1.tup hq1) (fun i x σ' Hb Ha hi z yy => ?_) fun σ' H' z => ?_
      · obtain ⟨e2, hdone, o4, o5, o6, o7, rfl⟩ := z
        obtain ⟨rfl, hx⟩ := yy
        rw [List.getElem?_map] at hx
        obtain ⟨pl, hpl2, rfl⟩ := Option.map_eq_some_iff.mp hx
        rw [T.places, List.getElem?_map] at hpl2
        obtain ⟨k, hk, rfl⟩ := Option.map_eq_some_iff.mp hpl2
        have hkm := List.mem_of_getElem? hk
        have e12 := e1.trans e2
        obtain ⟨b, us, rfl, hn, hks⟩ := (ht.tk e12.tk).node
        obtain ⟨xk, hxk, hat⟩ := t.item_kid hks k hkm
        have hkg : k.2.hgt ≤ n := by have := kids_hgt t k hkm; omega
        have hko : allT T.own k.2 = true := by
          rw [allT_eq, Bool.and_eq_true] at hown
          exact List.all_eq_true.mp hown.2 k hkm
        refine r_gname ?_
        repeat walk_at "k"
        refine r_ixT hn hat ?_
        repeat walk_at "k"
        refine ⟨by show 1 ≤ sizeLine; decide, fun z1 hz1 => ?_⟩
        have eY := e12.trans (Ext.new (o := .tup [.int k.1]) hz1)
        refine r_catOne (eY.tup hp) (.inl (.inl upd_same)) (by omega) fun H3 zp e3 hz => ?_
        have e03 := (Ext.new (o := .tup [.int k.1]) hz1).trans e3
        have e13 := e12.trans e03
        refine ⟨d, l, zp, ds, as, xk, k.2, p ++ [k.1], dss, rfl, e13.tup hd, hdl, hdn, e13 _ _ hl, hrows.tk e13.tk, hpn, hxk.tk e03.tk, hkg, hko, hz, by rw [List.length_append]; show p.length + 1 + n ≤ 100; omega, fun hg H4 b4 e4 hb4 => ?_, fun hg H4 b4 q4 p4 e4 hb4 hq4 => ?_⟩
        · repeat walk_at "k"
          refine ⟨by decide, fun pe hpe => ?_⟩
          have ee := Ext.new (o := .lst []) hpe
          refine ⟨.list [], .list [], .lst (.inl (.inl (ee _ _ hb4))) .nil, .lst (.inl (.inl upd_same)) .nil, by decide +kernel, by decide +kernel, ?_⟩
          repeat walk_at "k"
          refine ⟨e2.trans (e03.trans (e4.trans ee)), fun j hj k' hk' => ?_, _, _, _, _, rfl⟩
          by_cases hji : j = i
          · rw [hji, hk] at hk'
            rw [← Option.some.inj hk']
            exact hg
          · exact hdone j (by omega) k' hk'
        · repeat walk_at "k"
          refine ⟨by decide, fun pe hpe => ?_⟩
          have ee := Ext.new (o := .lst []) hpe
          refine ⟨.list [.tuple (p4.map .int)], .list [], .lst (.inl (.inl (ee _ _ hb4))) (.cons (.tup (ee.tup hq4) (dp_ints _)) .nil), .lst (.inl (.inl upd_same)) .nil, shaped_rowsL [p4], by decide +kernel, ?_⟩
          rw [eqv_nilL]
          repeat walk_at "k"
          refine ite_eqT rfl ?_
          repeat walk_at "k"
          refine qbad ?_ _ b4 q4 p4 ((e13.trans e4).trans ee) (ee _ _ hb4) (ee.tup hq4)
          rw [eall, Bool.and_eq_false_iff]
          refine .inr (List.all_eq_false.mpr ⟨k, hkm, by rw [hg]; decide⟩)
      · obtain ⟨e2, hdone, o4, o5, o6, o7, rfl⟩ := z
        rw [hkn] at hdone
        have hkids : (t.kids.all fun k => allT (nodeGood dss) k.2) = true := List.all_eq_true.mpr fun k hk => by
          obtain ⟨j, hj, ej⟩ := List.mem_iff_getElem.mp hk
          exact hdone j hj k (by rw [List.getElem?_eq_getElem hj, ej])
        rw [hkids, Bool.and_true] at eall
        rw [eall] at qok qbad
        have e12 := e1.trans e2
        obtain ⟨b, us, rfl, hn, hks⟩ := (ht.tk e12.tk).node
        repeat walk_at "k"
        refine r_word hn ?_
        have rest : ∀ H3 o4 o5 o6 o7, Ext H H3 → knowsD dss.length t = true → tSeq (tAsg (tLc (iList K (tVar 1)) (gName 7) (tNot (tTest (tChain (rI0 fun i j => .bl (decide (i ≤ j))) (rI0 fun i j => .bl (decide (i ≤ j))) (tUn (rU fun i => .int (-i)) (tC (.int 10000))) (tCl (spPays K (n + 1)) (fun _ _ _ => False) (tCons (tVar 2) (tCons (tVar 7) tNil))) (tC (.int 10000))))) (tC (.int 1)) [7]) (gName 6)) (tRet (tIf (tB (tOp (rNeD K) (tVar 6) (tLst tNil))) (tLst (tCons (tVar 3) tNil)) (tLst tNil))) { nx := fun _ H' => Q .non H', rt := Q } [some (.ref d), some (.ref l), some (.ref b), some (.ref pa), o4, o5, o6, o7] H3 := fun H3 o4 o5 o6 o7 e3 hkn => by
          have ng : nodeGood dss t = (pathsOf dss).all fun row => priceOk (pay t row) := by
            unfold nodeGood
            rw [hkn, Bool.true_and]
          have hpw : payWf dss.length t := pay_wf t hown (by rw [allT_eq, hkn, Bool.true_and]; exact List.all_eq_true.mpr fun k hk => good_knows k.2 (List.all_eq_true.mp hkids k hk))
          have hl3 := e3 _ _ hl
          repeat walk_at "k"
          refine ⟨l, rfl, ⟨_, .inl (.inl hl3)⟩, fun D hD => lc_rel (K := K) walk_list hD (by rw [List.length_map, Paired.length hrows]; omega) (fun H4 e4 => .inl (.inl (e4 _ _ hl3))) (fun i acc H4 => ∃ ns : List Int, acc = ns.map .int ∧ (ns.isEmpty = ((pathsOf dss).take i).all fun row => priceOk (pay t row))) ⟨[], rfl, rfl⟩ (fun _ _ _ _ _ z => z) yAt_ext (fun i x Hx acc H4 hi e4 k4 hD4 z yy Kt Kf hKt hKf => ?_) fun H4 acc e4 hD4 z => ?_⟩
          · obtain ⟨ns, rfl, hns⟩ := z
            obtain ⟨rfl, hy⟩ := yy
            rw [List.getElem?_map] at hy
            obtain ⟨ra, hra, rfl⟩ := Option.map_eq_some_iff.mp hy
            obtain ⟨row, hrow, hrt⟩ := paired_get hrows i ra hra
            have hrl : row.length = dss.length := pathsOf_len _ _ (List.mem_of_getElem? hrow)
            have e04 := e3.trans e4
            have et : ((pathsOf dss).take (i + 1)).all (fun row => priceOk (pay t row)) = (((pathsOf dss).take i).all (fun row => priceOk (pay t row)) && priceOk (pay t row)) := by
              rw [take_succ_get hrow, List.all_append]
              simp
            rw [et] at hKt hKf
            refine r_gname ⟨rfl, ?_⟩
            repeat walk_at "k"
            refine ⟨10000, rfl, ?_⟩
            repeat walk_at "k"
            refine ⟨.ref b, ra, t, row, rfl, ht.tk e04.tk, hg, e04.tup hrt, by omega, by rw [hrl]; exact hpw, fun H5 e5 => ?_⟩
            repeat walk_at "k"
            have no : priceOk (pay t row) = false → Kt (.int 1) H5 := fun hf => hKt _ _ e5 ⟨ns ++ [1], by simp, by rw [hf, Bool.and_false]; simp⟩
            refine ite_b (fun h1 => ?_) fun h1 => ?_
            · repeat walk_at "k"
              refine ite_bn (fun h2 => ?_) fun h2 => ?_
              · refine hKf _ e5 ⟨ns, rfl, ?_⟩
                have hp2 : priceOk (pay t row) = true := decide_eq_true ⟨of_decide_eq_true h1, of_decide_eq_true h2⟩
                rw [hp2, Bool.and_true]
                exact hns
              · exact no (decide_eq_false fun z => of_decide_eq_false h2 z.2)
            · repeat walk_at "k"
              exact no (decide_eq_false fun z => of_decide_eq_false h1 z.1)
          · obtain ⟨ns, rfl, hns⟩ := z
            rw [List.length_map, Paired.length hrows, List.take_length] at hns
            rw [ng] at qok qbad
            repeat walk_at "k"
            refine ⟨by decide, fun pe hpe => ?_⟩
            have ee := Ext.new (o := .lst []) hpe
            refine ⟨.list (ns.map .int), .list [], .lst (.inl (.inl (ee _ _ hD4))) (dp_ints ns), .lst (.inl (.inl upd_same)) .nil, shaped_ints ns, by decide +kernel, ?_⟩
            rw [eqv_nilL]
            have e5 := (e3.trans e4).trans ee
            have he : (ns.map PyData.int).isEmpty = ns.isEmpty := by cases ns <;> rfl
            rw [he, hns]
            cases hall : (pathsOf dss).all (fun row => priceOk (pay t row)) with
            | true =>
              repeat walk_at "k"
              exact ⟨by decide, fun b2 hb2 => qok hall _ b2 (e5.trans (Ext.new hb2)) upd_same⟩
            | false =>
              repeat walk_at "k"
              exact ⟨by show 1 ≤ sizeLine; decide, fun b2 hb2 => qbad hall _ b2 pa p (e5.trans (Ext.new hb2)) upd_same ((e5.trans (Ext.new hb2)).tup hp)⟩
        have bad : ∀ H3, Ext H H3 → knowsD dss.length t = false → ([.ref pa] : List V).length ≤ sizeLine ∧ ∀ b2, H3 b2 = none → Q (.ref b2) (upd H3 b2 (.lst [.ref pa])) := fun H3 e3 hf => ⟨by show 1 ≤ sizeLine; decide, fun b2 hb2 => qbad (by unfold nodeGood; rw [hf, Bool.false_and]) _ b2 pa p (e3.trans (Ext.new hb2)) upd_same ((e3.trans (Ext.new hb2)).tup hp)⟩
        repeat walk_at "k"
        refine r_inL rfl rfl (by decide) fun H3 e3 => ?_
        have e13 := e12.trans e3
        have hn3 := e3.tup hn
        cases t with
        | un s =>
          dsimp only [T.word]
          repeat (first | exact rest H3 _ _ _ _ e13 rfl | walk_at "k")
        | tm s n =>
          dsimp only [T.word]
          repeat (first | exact rest H3 _ _ _ _ e13 rfl | walk_at "k")
        | bi ww s u =>
          cases ww <;>
          · dsimp only [T.word]
            repeat (first | exact rest H3 _ _ _ _ e13 rfl | walk_at "k")
        | lf ww dd =>
          cases ww with
          | cash =>
            dsimp only [T.word]
            repeat (first | exact rest H3 _ _ _ _ e13 rfl | walk_at "k")
          | _ =>
            dsimp only [T.word]
            repeat walk_at "k"
            refine r_ixT hn3 (i := 1) (v := .int dd) (by rfl) ?_
            repeat walk_at "k"
            refine ⟨d, ds, rfl, .inr (e13.tup hd), ?_⟩
            rw [hdl]
            repeat walk_at "k"
            refine ite_b (fun h => ?_) fun h => ?_
            · repeat walk_at "k"
              exact bad H3 e13 (decide_eq_false fun z => by have := of_decide_eq_true h; omega)
            · exact rest H3 _ _ _ _ e13 (decide_eq_true (by have := of_decide_eq_false h; omega))
        | l2 ww dd m =>
          cases ww <;>
          · dsimp only [T.word]
            repeat walk_at "k"
            refine r_ixT hn3 (i := 1) (v := .int dd) (by rfl) ?_
            repeat walk_at "k"
            refine ⟨d, ds, rfl, .inr (e13.tup hd), ?_⟩
            rw [hdl]
            repeat walk_at "k"
            refine ite_b (fun h => ?_) fun h => ?_
            · repeat walk_at "k"
              exact bad H3 e13 (decide_eq_false fun z => by have := of_decide_eq_true h; omega)
            · exact rest H3 _ _ _ _ e13 (decide_eq_true (by have := of_decide_eq_false h; omega))
        | ite dd m s u =>
          dsimp only [T.word]
          repeat walk_at "k"
          refine r_ixT hn3 (i := 1) (atI_nat (j := 1) (v := .int dd) rfl) ?_
          repeat walk_at "k"
          refine ⟨d, ds, rfl, .inr (e13.tup hd), ?_⟩
          rw [hdl]
          repeat walk_at "k"
          refine ite_b (fun h => ?_) fun h => ?_
          · repeat walk_at "k"
            exact bad H3 e13 (decide_eq_false fun z => by have := of_decide_eq_true h; omega)
          · exact rest H3 _ _ _ _ e13 (decide_eq_true (by have := of_decide_eq_false h; omega))
end
end
section
open PySem Spec PyProof.Rows L2
local macro_rules | `(tactic| walk_at "s") => `(tactic| first
  | with_reducible refine r_seq ?_
  | with_reducible refine r_next ?_
  | with_reducible refine r_asg ?_
  | with_reducible refine r_gname ?_
  | with_reducible refine r_ret ?_
  | with_reducible refine r_drop ?_
  | with_reducible refine r_ifs ?_
  | with_reducible refine r_var rfl ?_
  | with_reducible refine r_c ?_
  | with_reducible refine r_op ?_
  | with_reducible refine r_un ?_
  | with_reducible refine r_nil ?_
  | with_reducible refine r_cons ?_
  | with_reducible refine r_test ?_
  | with_reducible refine r_tb ?_
  | with_reducible refine r_and ?_
  | with_reducible refine r_or ?_
  | with_reducible refine r_not ?_
  | with_reducible refine r_andV ?_
  | with_reducible refine r_orV ?_
  | with_reducible refine r_notV ?_
  | with_reducible refine r_if ?_
  | with_reducible refine r_chain ?_
  | with_reducible refine r_cl ?_
  | with_reducible refine r_cb ?_
  | with_reducible refine r_bl ?_
  | with_reducible refine r_I0 ?_
  | with_reducible refine r_yes ?_
  | with_reducible refine r_itT ?_
  | with_reducible refine r_itL ?_
  | with_reducible refine r_itS ?_
  | with_reducible refine r_itE ?_
  | with_reducible refine r_revT ?_
  | with_reducible refine r_star ?_
  | with_reducible refine r_for ?_
  | with_reducible refine r_bm ?_
  | with_reducible refine r_bm0 ?_
  | with_reducible refine r_kget1 ?_
  | with_reducible refine r_kget2 ?_
  | with_reducible refine r_par ?_
  | with_reducible refine r_tup ?_
  | with_reducible refine r_lst ?_
  | with_reducible refine r_exI ?_
  | with_reducible refine r_itZ ?_
  | with_reducible refine r_dget ?_
  | with_reducible refine r_U ?_
  | with_reducible refine r_gsub ?_
  | with_reducible refine r_pnil ?_
  | with_reducible refine r_pcons ?_
  | with_reducible refine r_methR ?_
  | with_reducible refine r_dpop1 ?_
  | with_reducible refine r_dput ?_
  | with_reducible refine r_din ?_
  | with_reducible refine r_dnotin ?_
  | with_reducible refine r_nopart ?_
  | with_reducible refine r_lc ?_
  | with_reducible refine r_sl ?_
  | with_reducible refine r_part ?_
  | with_reducible refine r_eq rfl ?_
  | with_reducible refine r_ne rfl ?_
  | with_reducible refine iteT ?_
  | with_reducible refine iteF ?_
  | with_reducible refine ite_nt ?_
  | with_reducible refine ite_nf ?_)
local macro_rules | `(tactic| walk_at "k") => `(tactic| first
  | walk_at "s"
  | with_reducible refine ite_eqT (by decide +kernel) ?_
  | with_reducible refine ite_eqF (by decide +kernel) ?_)
open LamX
def drawsT : Nat → Nat
  | 0 => 3
  | d + 1 => 3 + 2 * drawsT d
section
variable {P : Program} {w : World} {K : PySem.W.Frag} {mg : Str → Option Value} {base : Heap}
theorem sc__law_term : FnScope ["state", "deep", "choice", "day_so", "much", "one", "other"] ["state", "deep"] (defScope (top 69)) := ⟨rfl, rfl, rfl, by decide +kernel, rfl, by decide +kernel, by decide +kernel⟩
def spTerm (K : PySem.W.Frag) (d : Nat) : Sp := fun vs H Q _ => ∃ (st cs lf : Addr) (n : Nat), vs = [.ref st, .int d] ∧ StAt H st cs lf n ∧ n + drawsT d ≤ 1000000 ∧
  ∀ t v H', t.hgt ≤ d + 1 → t.wds + 1 ≤ 2 ^ (d + 1) → allT T.own t = true → Fr K [st, lf] H H' → StAt H' st cs lf (n + drawsT d) → TR K H' t v → Q v H'
theorem in_no {r a b : Int} (h1 : ¬ r = a) (h2 : ¬ r = b) : V.bl (if false then !inV (.int r) [.int a, .int b] else inV (.int r) [.int a, .int b]) = V.bl false := by
  have e1 : ¬ a = r := fun z => h1 z.symm
  have e2 : ¬ b = r := fun z => h2 z.symm
  simp [inV, eqV, e1, e2]
theorem draws3 (d : Nat) : 3 ≤ drawsT d := by cases d <;> simp only [drawsT] <;> omega
theorem law_term_step (fx : Fx K mg w) (n d : Nat) {sp : Sp} (ih : CalR P w K mg base (n + 3) "_law_term" sp) (hsp : d = 0 ∨ ∃ m, d = m + 1 ∧ sp = spTerm K m) : CalR P w K mg base (n + 4) "_law_term" (spTerm K d) := by
  refine fx.d__law_term.ok sc__law_term (fun vs H Q E q => ?_) (fun _ _ _ _ _ _ us hl => match us, hl with | [_, _], _ => rfl) fun f cdv A outer s H vs Q E hr q => ?_
  · obtain ⟨st, cs, lf, m, rfl, _⟩ := q
    rfl
  · obtain ⟨st, cs, lf, m, rfl, hst, hm, q⟩ := q
    have hd3 : m + 3 ≤ m + drawsT d := by have := draws3 d; omega
    refine ⟨_, (pss_cons (ps_par (i := 2) (j := 3) rfl sc__law_term.nd rfl rfl (by decide) rfl rfl (pa_cons (pe_cr ((c__law_draw fx).mono (Nat.le_add_left 2 (n + 1))) hr px (pa_cons (pv 0) (pa_cons pe_int pa_nil)) (hk := Nat.le_refl _)) (pa_cons (pe_cr ((c__law_of fx).mono (Nat.le_add_left 3 n)) hr px (pa_cons (pv 0) (pa_cons (pe_lst (pa_cons pe_int (pa_cons pe_int (pa_cons pe_int (pa_cons pe_int (pa_cons pe_int (pa_cons pe_int pa_nil))))))) pa_nil)) (hk := Nat.le_refl _)) pa_nil)) rfl)
    (pss_cons (ps_set (i := 4) sc__law_term.nd rfl (Or.inl rfl) (pe_cr ((c__law_of fx).mono (Nat.le_add_left 3 n)) hr px (pa_cons (pv 0) (pa_cons (pe_lst (pa_cons pe_int (pa_cons pe_int (pa_cons pe_int (pa_cons (pe_un un_neg pe_int) (pa_cons (pe_un un_neg pe_int) (pa_cons pe_int (pa_cons pe_int (pa_cons (pe_un un_neg pe_int) pa_nil))))))))) pa_nil)) (hk := Nat.le_refl _)))
    (pss_cons (ps_if (PW.pt (pw_or (pt_cmpR op_eq (pv 1) pe_int (nomark _)) (pw_or1 (pt_cmpR op_lt (pv 2) pe_int (nomark _))))) (pss_cons (ps_if (pt_cmpR op_in_seq (pv 2) (pe_tup (pa_cons pe_int (pa_cons pe_int pa_nil))) (by with_unfolding_all rfl)) (pss_one (ps_ret (pe_ix ix_list (pe_lst (pa_cons (pe_tup (pa_cons pe_str (pa_cons (pv 4) pa_nil))) (pa_cons (pe_tup (pa_cons pe_str (pa_cons (pv 3) pa_nil))) pa_nil))) (pv 2) (fun _ _ => rfl)))) pss_nil)
      (pss_cons (ps_if (pt_cmpR op_in_seq (pv 2) (pe_tup (pa_cons pe_int (pa_cons pe_int pa_nil))) (by with_unfolding_all rfl)) (pss_one (ps_ret (pe_tup (pa_cons (pe_ix ix_list (pe_lst (pa_cons pe_str (pa_cons pe_str pa_nil))) (pe_op op_sub (pv 2) pe_int) (fun _ _ => rfl)) (pa_cons (pv 3) (pa_cons (pv 4) pa_nil)))))) pss_nil)
      (pss_one (ps_ret (pe_tup (pa_cons (pe_ix ix_list (pe_lst (pa_cons pe_str (pa_cons pe_str pa_nil))) (pe_op op_mod (pv 2) pe_int) (fun _ _ => rfl)) (pa_cons (pv 3) pa_nil))))))) pss_nil)
    (pss_cons (ps_set (i := 5) sc__law_term.nd rfl (Or.inl rfl) (pe_cr ih hr px (pa_cons (pv 0) (pa_cons (pe_op op_sub (pv 1) pe_int) pa_nil)) (hk := Nat.le_refl _)))
    (pss_cons (ps_if (pt_cmpR op_lt (pv 2) pe_int (nomark _)) (pss_one (ps_ret (pe_ix ix_list (pe_lst (pa_cons (pe_tup (pa_cons pe_str (pa_cons (pv 5) pa_nil))) (pa_cons (pe_tup (pa_cons pe_str (pa_cons (pv 5) (pa_cons (pv 4) pa_nil)))) (pa_cons (pe_tup (pa_cons pe_str (pa_cons (pv 5) (pa_cons pe_int pa_nil)))) pa_nil)))) (pe_op op_sub (pv 2) pe_int) (fun _ _ => rfl)))) pss_nil)
    (pss_cons (ps_set (i := 6) sc__law_term.nd rfl (Or.inl rfl) (pe_cr ih hr px (pa_cons (pv 0) (pa_cons (pe_op op_sub (pv 1) pe_int) pa_nil)) (hk := Nat.le_refl _)))
    (pss_cons (ps_if (pt_cmpR op_lt (pv 2) pe_int (nomark _)) (pss_one (ps_ret (pe_tup (pa_cons (pe_ix ix_list (pe_lst (pa_cons pe_str (pa_cons pe_str (pa_cons pe_str (pa_cons pe_str (pa_cons pe_str (pa_cons pe_str pa_nil))))))) (pe_op op_sub (pv 2) pe_int) (fun _ _ => rfl)) (pa_cons (pv 5) (pa_cons (pv 6) pa_nil)))))) pss_nil)
    (pss_one (ps_ret (pe_tup (pa_cons pe_str (pa_cons (pv 3) (pa_cons (pv 4) (pa_cons (pv 5) (pa_cons (pv 6) pa_nil))))))))))))))), ?_⟩
    repeat walk_at "k"
    refine ⟨st, cs, lf, m, 18, rfl, hst, by omega, by decide, by decide, fun r H1 hr0 hr1 f1 s1 => ?_⟩
    repeat walk_at "k"
    refine ⟨by show 6 ≤ sizeLine; decide, fun l1 hl1 => ?_⟩
    have y1 := Ext.new (o := .lst [.int 0, .int 0, .int 1, .int 1, .int 2, .int 3]) hl1
    have nl1 : l1 ≠ lf := by
      obtain ⟨_, _, _, _, _, h3, _⟩ := s1
      exact (ne_of_none h3 hl1).symm
    repeat walk_at "k"
    refine ⟨st, cs, lf, l1, m + 1, _, rfl, s1.ext y1, by omega, upd_same, nl1, by simp, by show 6 ≤ 1000; decide, fun dvv H2 hdv0 f2 s2 => ?_⟩
    obtain ⟨dv, rfl, hdv⟩ : ∃ dv : Int, dvv = .int dv ∧ T.dayNo dv = true := by
      simp only [List.mem_cons, List.not_mem_nil, or_false] at hdv0
      rcases hdv0 with h | h | h | h | h | h <;> exact ⟨_, h, by decide⟩
    have f02 : Fr K [st, lf] H H2 := (f1.trans y1.fr).trans f2
    repeat walk_at "k"
    refine ⟨_, _, rfl, ?_⟩
    repeat walk_at "k"
    refine ⟨by show 8 ≤ sizeLine; decide, fun l2 hl2 => ?_⟩
    have y2 := Ext.new (o := .lst [.int 0, .int 1, .int 2, .int (-1), .int (-3), .int 5, .int 1000, .int (-1000)]) hl2
    have nl2 : l2 ≠ lf := by
      obtain ⟨_, _, _, _, _, h3, _⟩ := s2
      exact (ne_of_none h3 hl2).symm
    repeat walk_at "k"
    refine ⟨st, cs, lf, l2, m + 1 + 1, _, rfl, s2.ext y2, by omega, upd_same, nl2, by simp, by show 8 ≤ 1000; decide, fun mvv H3 hmv0 f3' s3 => ?_⟩
    obtain ⟨mv, rfl, hmv⟩ : ∃ mv : Int, mvv = .int mv ∧ T.markNo mv = true := by
      simp only [List.mem_cons, List.not_mem_nil, or_false] at hmv0
      rcases hmv0 with h | h | h | h | h | h | h | h <;> exact ⟨_, h, by decide⟩
    have f3 : Fr K [st, lf] H H3 := (f02.trans y2.fr).trans f3'
    clear f1 s1 y1 hl1 nl1 f2 s2 f02 y2 hl2 nl2 f3' hdv0 hmv0
    repeat walk_at "k"
    refine ite_b (fun hz => ?_) fun hz => ?_
    · repeat walk_at "k"
      have q3 := fun t v H' h1 h2 h3 f s ht => q t v H' h1 h2 h3 f (StAt.more (m := m + drawsT d) s hd3) ht
      repeat walk_at "k"
      refine r_inL rfl rfl (by decide) fun H4 e4 => ?_
      have f4 := f3.trans (e4.fr (K := K) (B := [st, lf]))
      have s4 := s3.ext e4
      by_cases c1 : r = 0 ∨ r = 1
      · refine ⟨true, by rcases c1 with rfl | rfl <;> rfl, ite_eqT rfl ?_⟩
        repeat walk_at "k"
        refine ⟨by show 2 ≤ sizeLine; decide, fun a1 h1 => ?_⟩
        have x1 := Ext.new (o := .tup [.str "cash", .int mv]) h1
        repeat walk_at "k"
        refine ⟨by show 2 ≤ sizeLine; decide, fun a2 h2 => ?_⟩
        have x2 := Ext.new (o := .tup [.str "at", .int dv]) h2
        repeat walk_at "k"
        refine ⟨by show 2 ≤ sizeLine; decide, fun a3 h3 => ?_⟩
        have x3 := Ext.new (o := .lst [.ref a1, .ref a2]) h3
        have xx := x1.trans (x2.trans x3)
        have g1 : SqT K _ a1 [.str "cash", .int mv] := .inl (.inl ((x2.trans x3) _ _ upd_same))
        have g2 : SqT K _ a2 [.str "at", .int dv] := .inl (.inl (x3 _ _ upd_same))
        repeat walk_at "k"
        rcases c1 with rfl | rfl
        · refine r_ixL (.inl (.inl upd_same)) (i := 0) rfl ?_
          exact q3 (.lf .cash mv) (.ref a1) _ (by simp [T.hgt]) (by simp only [T.wds]; have := Nat.two_pow_pos d; rw [Nat.pow_succ]; omega) hmv (f4.trans xx.fr) (s4.ext xx) ⟨a1, rfl, g1⟩
        · refine r_ixL (.inl (.inl upd_same)) (i := 1) rfl ?_
          exact q3 (.lf .at_ dv) (.ref a2) _ (by simp [T.hgt]) (by simp only [T.wds]; have := Nat.two_pow_pos d; rw [Nat.pow_succ]; omega) hdv (f4.trans xx.fr) (s4.ext xx) ⟨a2, rfl, g2⟩
      · refine ⟨false, in_no (fun z => c1 (.inl z)) (fun z => c1 (.inr z)), ite_eqF rfl ?_⟩
        repeat walk_at "k"
        refine r_inL rfl rfl (by decide) fun H5 e5 => ?_
        have f5 := f4.trans (e5.fr (K := K) (B := [st, lf]))
        have s5 := s4.ext e5
        by_cases c2 : r = 2 ∨ r = 3
        · refine ⟨true, by rcases c2 with rfl | rfl <;> rfl, ite_eqT rfl ?_⟩
          repeat walk_at "k"
          refine ⟨by show 2 ≤ sizeLine; decide, fun a1 h1 => ?_⟩
          have x1 := Ext.new (o := .lst [.str "above", .str "below"]) h1
          repeat walk_at "k"
          rcases c2 with rfl | rfl
          · refine r_ixL (.inl (.inl upd_same)) (i := 2 - 2) rfl ?_
            repeat walk_at "k"
            refine ⟨by show 3 ≤ sizeLine; decide, fun a2 h2 => ?_⟩
            have x2 := x1.trans (Ext.new (o := .tup [.str "above", .int dv, .int mv]) h2)
            exact q3 (.l2 .above dv mv) (.ref a2) _ (by simp [T.hgt]) (by simp only [T.wds]; have := Nat.two_pow_pos d; rw [Nat.pow_succ]; omega) (by simp only [allT, T.own, Bool.and_eq_true]; exact ⟨hdv, hmv⟩) (f5.trans x2.fr) (s5.ext x2) ⟨a2, rfl, .inl (.inl upd_same)⟩
          · refine r_ixL (.inl (.inl upd_same)) (i := 3 - 2) rfl ?_
            repeat walk_at "k"
            refine ⟨by show 3 ≤ sizeLine; decide, fun a2 h2 => ?_⟩
            have x2 := x1.trans (Ext.new (o := .tup [.str "below", .int dv, .int mv]) h2)
            exact q3 (.l2 .below dv mv) (.ref a2) _ (by simp [T.hgt]) (by simp only [T.wds]; have := Nat.two_pow_pos d; rw [Nat.pow_succ]; omega) (by simp only [allT, T.own, Bool.and_eq_true]; exact ⟨hdv, hmv⟩) (f5.trans x2.fr) (s5.ext x2) ⟨a2, rfl, .inl (.inl upd_same)⟩
        · refine ⟨false, in_no (fun z => c2 (.inl z)) (fun z => c2 (.inr z)), ite_eqF rfl ?_⟩
          repeat walk_at "k"
          refine ⟨by show 2 ≤ sizeLine; decide, fun a1 h1 => ?_⟩
          have x1 := Ext.new (o := .lst [.str "lowest", .str "highest"]) h1
          repeat walk_at "k"
          refine r_I (by decide) ?_
          have c3 : r % 2 = 0 ∨ r % 2 = 1 := by omega
          rcases c3 with c3 | c3
          · rw [c3]
            refine r_ixL (.inl (.inl upd_same)) (i := 0) rfl ?_
            repeat walk_at "k"
            refine ⟨by show 2 ≤ sizeLine; decide, fun a2 h2 => ?_⟩
            have x2 := x1.trans (Ext.new (o := .tup [.str "lowest", .int dv]) h2)
            exact q3 (.lf .low dv) (.ref a2) _ (by simp [T.hgt]) (by simp only [T.wds]; have := Nat.two_pow_pos d; rw [Nat.pow_succ]; omega) hdv (f5.trans x2.fr) (s5.ext x2) ⟨a2, rfl, .inl (.inl upd_same)⟩
          · rw [c3]
            refine r_ixL (.inl (.inl upd_same)) (i := 1) rfl ?_
            repeat walk_at "k"
            refine ⟨by show 2 ≤ sizeLine; decide, fun a2 h2 => ?_⟩
            have x2 := x1.trans (Ext.new (o := .tup [.str "highest", .int dv]) h2)
            exact q3 (.lf .high dv) (.ref a2) _ (by simp [T.hgt]) (by simp only [T.wds]; have := Nat.two_pow_pos d; rw [Nat.pow_succ]; omega) hdv (f5.trans x2.fr) (s5.ext x2) ⟨a2, rfl, .inl (.inl upd_same)⟩
    · repeat walk_at "k"
      refine ite_b (fun hz6 => ?_) fun hz6 => ?_
      · repeat walk_at "k"
        have q3 := fun t v H' h1 h2 h3 f s ht => q t v H' h1 h2 h3 f (StAt.more (m := m + drawsT d) s hd3) ht
        repeat walk_at "k"
        refine r_inL rfl rfl (by decide) fun H4 e4 => ?_
        have f4 := f3.trans (e4.fr (K := K) (B := [st, lf]))
        have s4 := s3.ext e4
        by_cases c1 : r = 0 ∨ r = 1
        · refine ⟨true, by rcases c1 with rfl | rfl <;> rfl, ite_eqT rfl ?_⟩
          repeat walk_at "k"
          refine ⟨by show 2 ≤ sizeLine; decide, fun a1 h1 => ?_⟩
          have x1 := Ext.new (o := .tup [.str "cash", .int mv]) h1
          repeat walk_at "k"
          refine ⟨by show 2 ≤ sizeLine; decide, fun a2 h2 => ?_⟩
          have x2 := Ext.new (o := .tup [.str "at", .int dv]) h2
          repeat walk_at "k"
          refine ⟨by show 2 ≤ sizeLine; decide, fun a3 h3 => ?_⟩
          have x3 := Ext.new (o := .lst [.ref a1, .ref a2]) h3
          have xx := x1.trans (x2.trans x3)
          have g1 : SqT K _ a1 [.str "cash", .int mv] := .inl (.inl ((x2.trans x3) _ _ upd_same))
          have g2 : SqT K _ a2 [.str "at", .int dv] := .inl (.inl (x3 _ _ upd_same))
          repeat walk_at "k"
          rcases c1 with rfl | rfl
          · refine r_ixL (.inl (.inl upd_same)) (i := 0) rfl ?_
            exact q3 (.lf .cash mv) (.ref a1) _ (by simp [T.hgt]) (by simp only [T.wds]; have := Nat.two_pow_pos d; rw [Nat.pow_succ]; omega) hmv (f4.trans xx.fr) (s4.ext xx) ⟨a1, rfl, g1⟩
          · refine r_ixL (.inl (.inl upd_same)) (i := 1) rfl ?_
            exact q3 (.lf .at_ dv) (.ref a2) _ (by simp [T.hgt]) (by simp only [T.wds]; have := Nat.two_pow_pos d; rw [Nat.pow_succ]; omega) hdv (f4.trans xx.fr) (s4.ext xx) ⟨a2, rfl, g2⟩
        · refine ⟨false, in_no (fun z => c1 (.inl z)) (fun z => c1 (.inr z)), ite_eqF rfl ?_⟩
          repeat walk_at "k"
          refine r_inL rfl rfl (by decide) fun H5 e5 => ?_
          have f5 := f4.trans (e5.fr (K := K) (B := [st, lf]))
          have s5 := s4.ext e5
          by_cases c2 : r = 2 ∨ r = 3
          · refine ⟨true, by rcases c2 with rfl | rfl <;> rfl, ite_eqT rfl ?_⟩
            repeat walk_at "k"
            refine ⟨by show 2 ≤ sizeLine; decide, fun a1 h1 => ?_⟩
            have x1 := Ext.new (o := .lst [.str "above", .str "below"]) h1
            repeat walk_at "k"
            rcases c2 with rfl | rfl
            · refine r_ixL (.inl (.inl upd_same)) (i := 2 - 2) rfl ?_
              repeat walk_at "k"
              refine ⟨by show 3 ≤ sizeLine; decide, fun a2 h2 => ?_⟩
              have x2 := x1.trans (Ext.new (o := .tup [.str "above", .int dv, .int mv]) h2)
              exact q3 (.l2 .above dv mv) (.ref a2) _ (by simp [T.hgt]) (by simp only [T.wds]; have := Nat.two_pow_pos d; rw [Nat.pow_succ]; omega) (by simp only [allT, T.own, Bool.and_eq_true]; exact ⟨hdv, hmv⟩) (f5.trans x2.fr) (s5.ext x2) ⟨a2, rfl, .inl (.inl upd_same)⟩
            · refine r_ixL (.inl (.inl upd_same)) (i := 3 - 2) rfl ?_
              repeat walk_at "k"
              refine ⟨by show 3 ≤ sizeLine; decide, fun a2 h2 => ?_⟩
              have x2 := x1.trans (Ext.new (o := .tup [.str "below", .int dv, .int mv]) h2)
              exact q3 (.l2 .below dv mv) (.ref a2) _ (by simp [T.hgt]) (by simp only [T.wds]; have := Nat.two_pow_pos d; rw [Nat.pow_succ]; omega) (by simp only [allT, T.own, Bool.and_eq_true]; exact ⟨hdv, hmv⟩) (f5.trans x2.fr) (s5.ext x2) ⟨a2, rfl, .inl (.inl upd_same)⟩
          · refine ⟨false, in_no (fun z => c2 (.inl z)) (fun z => c2 (.inr z)), ite_eqF rfl ?_⟩
            repeat walk_at "k"
            refine ⟨by show 2 ≤ sizeLine; decide, fun a1 h1 => ?_⟩
            have x1 := Ext.new (o := .lst [.str "lowest", .str "highest"]) h1
            repeat walk_at "k"
            refine r_I (by decide) ?_
            have c3 : r % 2 = 0 ∨ r % 2 = 1 := by omega
            rcases c3 with c3 | c3
            · rw [c3]
              refine r_ixL (.inl (.inl upd_same)) (i := 0) rfl ?_
              repeat walk_at "k"
              refine ⟨by show 2 ≤ sizeLine; decide, fun a2 h2 => ?_⟩
              have x2 := x1.trans (Ext.new (o := .tup [.str "lowest", .int dv]) h2)
              exact q3 (.lf .low dv) (.ref a2) _ (by simp [T.hgt]) (by simp only [T.wds]; have := Nat.two_pow_pos d; rw [Nat.pow_succ]; omega) hdv (f5.trans x2.fr) (s5.ext x2) ⟨a2, rfl, .inl (.inl upd_same)⟩
            · rw [c3]
              refine r_ixL (.inl (.inl upd_same)) (i := 1) rfl ?_
              repeat walk_at "k"
              refine ⟨by show 2 ≤ sizeLine; decide, fun a2 h2 => ?_⟩
              have x2 := x1.trans (Ext.new (o := .tup [.str "highest", .int dv]) h2)
              exact q3 (.lf .high dv) (.ref a2) _ (by simp [T.hgt]) (by simp only [T.wds]; have := Nat.two_pow_pos d; rw [Nat.pow_succ]; omega) hdv (f5.trans x2.fr) (s5.ext x2) ⟨a2, rfl, .inl (.inl upd_same)⟩
      · repeat walk_at "k"
        have hr6 := of_decide_eq_false hz6
        obtain ⟨b, rfl, rfl⟩ : ∃ b, d = b + 1 ∧ sp = spTerm K b := by
          rcases hsp with h | h
          · exact absurd (show V.int (d : Nat) = V.int 0 by rw [h]; rfl) (of_decide_eq_false hz)
          · exact h
        have eb : ((b + 1 : Nat) : Int) - 1 = (b : Int) := by omega
        rw [eb]
        have hdr : drawsT (b + 1) = 3 + 2 * drawsT b := rfl
        refine ⟨st, cs, lf, m + 1 + 1 + 1, rfl, s3, by omega, fun one ov H4 g1 g2 g3 f4' s4 ho => ?_⟩
        have f4 := f3.trans f4'
        have hpw : 2 ^ (b + 1 + 1) = 2 * 2 ^ (b + 1) := by rw [Nat.pow_succ]; omega
        repeat walk_at "k"
        have hone : allT T.own one = true := g3
        by_cases c9 : r < 9
        · rw [decide_eq_true c9]
          repeat walk_at "k"
          have q4 := fun t v H' h1 h2 h3 f (s : StAt H' st cs lf (m + 1 + 1 + 1 + drawsT b)) ht => q t v H' h1 h2 h3 f (StAt.more (m := m + drawsT (b + 1)) s (by omega)) ht
          refine ⟨by show 2 ≤ sizeLine; decide, fun a1 h1 => ?_⟩
          have x1 := Ext.new (o := .tup [.str "short", ov]) h1
          repeat walk_at "k"
          refine ⟨by show 3 ≤ sizeLine; decide, fun a2 h2 => ?_⟩
          have x2 := Ext.new (o := .tup [.str "times", ov, .int mv]) h2
          repeat walk_at "k"
          refine ⟨by show 3 ≤ sizeLine; decide, fun a3 h3 => ?_⟩
          have x3 := Ext.new (o := .tup [.str "times", ov, .int 2]) h3
          repeat walk_at "k"
          refine ⟨by show 3 ≤ sizeLine; decide, fun a4 h4 => ?_⟩
          have x4 := Ext.new (o := .lst [.ref a1, .ref a2, .ref a3]) h4
          have xx := x1.trans (x2.trans (x3.trans x4))
          have k1 : SqT K _ a1 [.str "short", ov] := .inl (.inl ((x2.trans (x3.trans x4)) _ _ upd_same))
          have k2 : SqT K _ a2 [.str "times", ov, .int mv] := .inl (.inl ((x3.trans x4) _ _ upd_same))
          have k3 : SqT K _ a3 [.str "times", ov, .int 2] := .inl (.inl (x4 _ _ upd_same))
          have ho4 := ho.tk xx.tk
          repeat walk_at "k"
          have c678 : r = 6 ∨ r = 7 ∨ r = 8 := by omega
          rcases c678 with rfl | rfl | rfl
          · refine r_ixL (.inl (.inl upd_same)) (i := 6 - 6) rfl ?_
            exact q4 (.un one) (.ref a1) _ (by simp only [T.hgt]; omega) (by simp only [T.wds]; omega) (by simp only [allT, T.own, Bool.true_and]; exact hone) (f4.trans xx.fr) (s4.ext xx) ⟨a1, ov, rfl, k1, ho4⟩
          · refine r_ixL (.inl (.inl upd_same)) (i := 7 - 6) rfl ?_
            exact q4 (.tm one mv) (.ref a2) _ (by simp only [T.hgt]; omega) (by simp only [T.wds]; omega) (by simp only [allT, T.own, Bool.and_eq_true]; exact ⟨hmv, hone⟩) (f4.trans xx.fr) (s4.ext xx) ⟨a2, ov, rfl, k2, ho4⟩
          · refine r_ixL (.inl (.inl upd_same)) (i := 8 - 6) rfl ?_
            exact q4 (.tm one 2) (.ref a3) _ (by simp only [T.hgt]; omega) (by simp only [T.wds]; omega) (by simp only [allT, T.own, Bool.and_eq_true]; exact ⟨by decide, hone⟩) (f4.trans xx.fr) (s4.ext xx) ⟨a3, ov, rfl, k3, ho4⟩
        · rw [decide_eq_false c9]
          repeat walk_at "k"
          rw [eb]
          refine ⟨st, cs, lf, m + 1 + 1 + 1 + drawsT b, rfl, s4, by omega, fun oth tv H5 p1 p2 p3 f5' s5 hv => ?_⟩
          have f5 := f4.trans f5'
          have ho5 := ho.tk f5'.tk
          have q4 := fun t v H' h1 h2 h3 f (s : StAt H' st cs lf (m + 1 + 1 + 1 + drawsT b + drawsT b)) ht => q t v H' h1 h2 h3 f (StAt.more (m := m + drawsT (b + 1)) s (by omega)) ht
          repeat walk_at "k"
          by_cases c15 : r < 15
          · rw [decide_eq_true c15]
            repeat walk_at "k"
            refine ⟨by show 6 ≤ sizeLine; decide, fun a1 h1 => ?_⟩
            have x1 := Ext.new (o := .lst [.str "both", .str "both", .str "lesser", .str "lesser", .str "greater", .str "greater"]) h1
            repeat walk_at "k"
            have fin : ∀ ww : B3, ([V.str ww.txt, ov, tv] : List V).length ≤ sizeLine ∧ ∀ p, (upd H5 a1 (.lst [.str "both", .str "both", .str "lesser", .str "lesser", .str "greater", .str "greater"])) p = none → Q (.ref p) (upd (upd H5 a1 (.lst [.str "both", .str "both", .str "lesser", .str "lesser", .str "greater", .str "greater"])) p (.tup [.str ww.txt, ov, tv])) := fun ww => by
              refine ⟨by show 3 ≤ sizeLine; decide, fun a2 h2 => ?_⟩
              have x2 := x1.trans (Ext.new (o := .tup [.str ww.txt, ov, tv]) h2)
              exact q4 (.bi ww one oth) (.ref a2) _ (by simp only [T.hgt]; omega) (by simp only [T.wds]; omega) (by simp only [allT, T.own, Bool.true_and, Bool.and_eq_true]; exact ⟨hone, p3⟩) (f5.trans x2.fr) (s5.ext x2) ⟨a2, ov, tv, rfl, .inl (.inl upd_same), ho5.tk x2.tk, hv.tk x2.tk⟩
            have c9s : r = 9 ∨ r = 10 ∨ r = 11 ∨ r = 12 ∨ r = 13 ∨ r = 14 := by omega
            rcases c9s with rfl | rfl | rfl | rfl | rfl | rfl
            · refine r_ixL (.inl (.inl upd_same)) (i := 9 - 9) rfl ?_
              repeat walk_at "k"
              exact fin .both
            · refine r_ixL (.inl (.inl upd_same)) (i := 10 - 9) rfl ?_
              repeat walk_at "k"
              exact fin .both
            · refine r_ixL (.inl (.inl upd_same)) (i := 11 - 9) rfl ?_
              repeat walk_at "k"
              exact fin .less
            · refine r_ixL (.inl (.inl upd_same)) (i := 12 - 9) rfl ?_
              repeat walk_at "k"
              exact fin .less
            · refine r_ixL (.inl (.inl upd_same)) (i := 13 - 9) rfl ?_
              repeat walk_at "k"
              exact fin .grea
            · refine r_ixL (.inl (.inl upd_same)) (i := 14 - 9) rfl ?_
              repeat walk_at "k"
              exact fin .grea
          · rw [decide_eq_false c15]
            repeat walk_at "k"
            refine ⟨by show 5 ≤ sizeLine; decide, fun a2 h2 => ?_⟩
            have x2 := Ext.new (o := .tup [.str "if", .int dv, .int mv, ov, tv]) h2
            exact q4 (.ite dv mv one oth) (.ref a2) _ (by simp only [T.hgt]; omega) (by simp only [T.wds]; omega) (by simp only [allT, T.own, Bool.and_eq_true]; exact ⟨⟨hdv, hmv⟩, hone, p3⟩) (f5.trans x2.fr) (s5.ext x2) ⟨a2, ov, tv, rfl, .inl (.inl upd_same), ho5.tk x2.tk, hv.tk x2.tk⟩
theorem c__law_term (fx : Fx K mg w) : ∀ d : Nat, CalR P w K mg base (d + 4) "_law_term" (spTerm K d)
  | 0 => by
    have ih : CalR P w K mg base (0 + 3) "_law_term" (fun _ _ _ _ => False) := by
      obtain ⟨f, fd, F, hm⟩ := fx.d__law_term
      exact ⟨f, fun A outer s H us vs Q E hr e0 r q => q.elim, hm, F.kp⟩
    exact law_term_step fx 0 0 ih (.inl rfl)
  | d + 1 => law_term_step fx (d + 1) (d + 1) (c__law_term fx d) (.inr ⟨d, rfl, rfl⟩)
end
end
section
open PySem Spec PyProof.Rows L2
local macro_rules | `(tactic| walk_at "s") => `(tactic| first
  | with_reducible refine r_seq ?_
  | with_reducible refine r_next ?_
  | with_reducible refine r_asg ?_
  | with_reducible refine r_gname ?_
  | with_reducible refine r_ret ?_
  | with_reducible refine r_drop ?_
  | with_reducible refine r_ifs ?_
  | with_reducible refine r_var rfl ?_
  | with_reducible refine r_c ?_
  | with_reducible refine r_op ?_
  | with_reducible refine r_un ?_
  | with_reducible refine r_nil ?_
  | with_reducible refine r_cons ?_
  | with_reducible refine r_test ?_
  | with_reducible refine r_tb ?_
  | with_reducible refine r_and ?_
  | with_reducible refine r_or ?_
  | with_reducible refine r_not ?_
  | with_reducible refine r_andV ?_
  | with_reducible refine r_orV ?_
  | with_reducible refine r_notV ?_
  | with_reducible refine r_if ?_
  | with_reducible refine r_chain ?_
  | with_reducible refine r_cl ?_
  | with_reducible refine r_cb ?_
  | with_reducible refine r_bl ?_
  | with_reducible refine r_I0 ?_
  | with_reducible refine r_yes ?_
  | with_reducible refine r_itT ?_
  | with_reducible refine r_itL ?_
  | with_reducible refine r_itS ?_
  | with_reducible refine r_itE ?_
  | with_reducible refine r_revT ?_
  | with_reducible refine r_star ?_
  | with_reducible refine r_for ?_
  | with_reducible refine r_bm ?_
  | with_reducible refine r_bm0 ?_
  | with_reducible refine r_kget1 ?_
  | with_reducible refine r_kget2 ?_
  | with_reducible refine r_par ?_
  | with_reducible refine r_tup ?_
  | with_reducible refine r_lst ?_
  | with_reducible refine r_exI ?_
  | with_reducible refine r_itZ ?_
  | with_reducible refine r_dget ?_
  | with_reducible refine r_U ?_
  | with_reducible refine r_rng1 ?_
  | with_reducible refine r_gsub ?_
  | with_reducible refine r_pnil ?_
  | with_reducible refine r_pcons ?_
  | with_reducible refine r_methR ?_
  | with_reducible refine r_dpop1 ?_
  | with_reducible refine r_dput ?_
  | with_reducible refine r_din ?_
  | with_reducible refine r_dnotin ?_
  | with_reducible refine r_nopart ?_
  | with_reducible refine r_lc ?_
  | with_reducible refine r_sl ?_
  | with_reducible refine r_part ?_
  | with_reducible refine r_eq rfl ?_
  | with_reducible refine r_ne rfl ?_
  | with_reducible refine iteT ?_
  | with_reducible refine iteF ?_
  | with_reducible refine ite_nt ?_
  | with_reducible refine ite_nf ?_)
local macro_rules | `(tactic| walk_at "k") => `(tactic| first
  | walk_at "s"
  | with_reducible refine ite_eqT (by decide +kernel) ?_
  | with_reducible refine ite_eqF (by decide +kernel) ?_)
open LamX
theorem prodL_snoc (dss : List (List Int)) (d : List Int) : prodL (dss ++ [d]) = prodL dss * d.length := by
  induction dss with
  | nil => simp [prodL]
  | cons a dss ih => rw [List.cons_append, prodL, ih, prodL, Nat.mul_assoc]
section
variable {P : Program} {w : World} {K : PySem.W.Frag} {mg : Str → Option Value} {base : Heap}
theorem sc__law_days : FnScope ["state", "most", "many", "found", "ways", "k", "known", "turn", "row"] ["state", "most", "many"] (defScope (top 64)) := ⟨rfl, rfl, rfl, by decide +kernel, rfl, by decide +kernel, by decide +kernel⟩
def spDaysD (K : PySem.W.Frag) : Sp := fun vs H Q _ => ∃ (st cs lf : Addr) (n : Nat), vs = [.ref st, .int 3, .int 3] ∧ StAt H st cs lf n ∧ n + 30 ≤ 1000000 ∧
  ∀ a dss H', Fr K [st, lf] H H' → StAt H' st cs lf (n + 30) → DaysAt K H' a dss → daysOk dss = true → Q (.ref a) H'
theorem c__law_days (fx : Fx K mg w) : CalR P w K mg base 4 "_law_days" (spDaysD K) := by
  refine fx.d__law_days.ok sc__law_days (fun vs H Q E q => ?_) (fun _ _ _ _ _ _ us hl => match us, hl with | [_, _, _], _ => rfl) fun f cdv A outer s H vs Q E hr q => ?_
  · obtain ⟨st, cs, lf, n, rfl, _⟩ := q
    rfl
  · obtain ⟨st, cs, lf, n, rfl, hst, hn, q⟩ := q
    have hu2 := hu_of hr
    refine ⟨_, (pss_cons (ps_par (i := 3) (j := 4) rfl sc__law_days.nd rfl rfl (by decide) rfl rfl (pa_cons (pe_lst pa_nil) (pa_cons pe_int pa_nil)) rfl)
    (pss_cons (ps_for PassesOwn.leaving rfl (pi_range1 rfl fx.n_range (pa_cons (pe_op op_add pe_int (pe_cr (c__law_draw fx) hr px (pa_cons (pv 0) (pa_cons (pv 1) pa_nil)))) pa_nil)) (pg_name (i := 5) (x := "k") sc__law_days.nd rfl (Or.inl rfl) (.inl rfl)) (pss_cons (ps_set (i := 6) sc__law_days.nd rfl (Or.inl rfl) pe_dnewK)
      (pss_cons (ps_for PassesOwn.leaving rfl (pi_range1 rfl fx.n_range (pa_cons (pe_op op_add pe_int (pe_cr (c__law_draw fx) hr px (pa_cons (pv 0) (pa_cons (pv 2) pa_nil)))) pa_nil)) (pg_name (i := 7) (x := "turn") sc__law_days.nd rfl (Or.inl rfl) (.inl rfl)) (pss_one (ps_dput hu2 (pv 6) (pe_op op_mul (pe_cr (c__law_of fx) hr px (pa_cons (pv 0) (pa_cons (pe_lst (pa_cons (pe_un un_neg pe_int) (pa_cons (pe_un un_neg pe_int) (pa_cons pe_int (pa_cons pe_int (pa_cons pe_int (pa_cons pe_int (pa_cons pe_int (pa_cons (pe_un un_neg pe_int) (pa_cons pe_int pa_nil)))))))))) pa_nil))) (pe_op op_add pe_int (pe_op op_mul pe_int (pe_op op_fdiv (pe_cr (c__law_draw fx) hr px (pa_cons (pv 0) (pa_cons pe_int pa_nil))) pe_int)))) pe_bl rfl)))
      (pss_cons (ps_set (i := 8) sc__law_days.nd rfl (Or.inl rfl) (pe_slice sl_list (pe_callB (call_sortedDI rfl) rfl fx.n_sorted (by decide +kernel) (pa_cons (pv 6) pa_nil)) po_none (po_some (pe_callB (call_max2 rfl) rfl fx.n_max (by decide +kernel) (pa_cons pe_int (pa_cons (pe_op op_fdiv pe_int (pv 4)) pa_nil))))))
      (pss_cons (ps_set (i := 4) sc__law_days.nd rfl (Or.inl rfl) (pe_op op_mul (pv 4) (pe_callB call_len_seq rfl fx.n_len (by decide +kernel) (pa_cons (pv 8) pa_nil))))
      (pss_one (ps_expr (pe_bm PySem.F.plainAttrs_list PySem.F.slot_list_append PySem.F.type_list_append mt_append (pv 3) (pa_cons (pe_callTy call_tuple_of rfl fx.n_tuple (by decide +kernel) (pa_cons (pv 8) pa_nil)) pa_nil)))))))))
    (pss_one (ps_ret (pe_callTy call_tuple_of rfl fx.n_tuple (by decide +kernel) (pa_cons (pv 3) pa_nil)))))), ?_⟩
    repeat walk_at "k"
    refine ⟨by decide, fun W hW => ?_⟩
    have eW := Ext.new (o := .lst []) hW
    repeat walk_at "k"
    refine ⟨_, _, rfl, ?_⟩
    repeat walk_at "k"
    have nW : H W = none := hW
    obtain ⟨_, _, _, hst1, hst2, hst3, _⟩ := id hst
    have nWst : st ≠ W := ne_of_none hst1 hW
    have nWcs : cs ≠ W := ne_of_none hst2 hW
    have nWlf : lf ≠ W := ne_of_none hst3 hW
    refine ⟨st, cs, lf, n, 3, rfl, hst.ext eW, by omega, by decide, by decide, fun r0 H1 hr0 hr1 f1 s1 => ?_⟩
    repeat walk_at "k"
    refine ⟨_, rfl, by omega, by omega, ?_⟩
    have hr03 : (1 + r0).toNat ≤ 3 := by omega
    have hr01 : 1 ≤ (1 + r0).toNat := by omega
    generalize (1 + r0).toNat = rounds at hr03 hr01 ⊢
    have g1 : Fr K [W, st, lf] (upd H W (.lst [])) H1 := f1.more fun b hb => List.mem_cons_of_mem _ hb
    have hW1 : H1 W = some (.lst []) := f1.lst (by simp [Ne.symm nWst, Ne.symm nWlf]) upd_same
    refine for_it walk_range (fun i σ' H' => Fr K [W, st, lf] (upd H W (.lst [])) H' ∧ StAt H' st cs lf (n + 1 + i * 7) ∧ ∃ (as : List Addr) (dss : List (List Int)) (o5 o6 o7 o8 : Option V), σ' = [some (.ref st), some (.int 3), some (.int 3), some (.ref W), some (.int (prodL dss : Nat)), o5, o6, o7, o8] ∧ H' W = some (.lst (as.map .ref)) ∧ Paired (fun x ns => SqT K H' x (ns.map V.int)) as dss ∧ dss.length = i ∧ prodL dss ≤ 27 ∧ 1 ≤ prodL dss ∧ ∀ d ∈ dss, dayOk d = true)
      ⟨g1, s1.more (by omega), [], [], none, none, none, none, rfl, hW1, .nil, rfl, by decide, by decide, fun d hd => by cases hd⟩ (fun _ _ _ _ _ => trivial) (fun i y σ' Hx Ha hi z yy => ?_) fun σ' H' z => ?_
    · obtain ⟨fa, sa, as, dss, o5, o6, o7, o8, rfl, hWa, has, hdl, hp27, hp1, hdok⟩ := z
      obtain ⟨rfl, rfl⟩ := yy
      refine r_gname ?_
      repeat walk_at "k"
      refine fun Kn hKn => ?_
      have eK := Ext.new (o := .dK []) hKn
      repeat walk_at "k"
      obtain ⟨_, _, _, ha1, ha2, ha3, _⟩ := id sa
      have nKst : st ≠ Kn := ne_of_none ha1 hKn
      have nKcs : cs ≠ Kn := ne_of_none ha2 hKn
      have nKlf : lf ≠ Kn := ne_of_none ha3 hKn
      have nKW : W ≠ Kn := ne_of_none hWa hKn
      refine ⟨st, cs, lf, n + 1 + i * 7, 3, rfl, sa.ext eK, by omega, by decide, by decide, fun r1 H2 hs0 hs1 f2 s2 => ?_⟩
      repeat walk_at "k"
      refine ⟨_, rfl, by omega, by omega, ?_⟩
      have hq3 : (1 + r1).toNat ≤ 3 := by omega
      have hq1 : 1 ≤ (1 + r1).toNat := by omega
      generalize (1 + r1).toNat = turns at hq3 hq1 ⊢
      have f2' : Fr K [Kn, st, lf] (upd Ha Kn (.dK [])) H2 := f2.more fun b hb => List.mem_cons_of_mem _ hb
      have hK2 : H2 Kn = some (.dK []) := f2.kp _ _ (by simp [Ne.symm nKst, Ne.symm nKlf]) upd_same fun _ z => by cases z
      refine for_it walk_range (fun j σ' H' => Fr K [Kn, st, lf] (upd Ha Kn (.dK [])) H' ∧ StAt H' st cs lf (n + 1 + i * 7 + 1 + j * 2) ∧ ∃ (kvs : List (Key × V)) (ks : List Int) (o7 o8 : Option V), σ' = [some (.ref st), some (.int 3), some (.int 3), some (.ref W), some (.int (prodL dss : Nat)), some (.int (0 + (i : Nat))), some (.ref Kn), o7, o8] ∧ H' Kn = some (.dK kvs) ∧ KeyI kvs ks ∧ ks.Nodup ∧ ks.length ≤ j ∧ (1 ≤ j → ks ≠ []) ∧ kvs.length = ks.length ∧ ∀ y ∈ ks, -100 ≤ y ∧ y ≤ 100)
        ⟨f2', s2.more (by omega), [], [], _, _, rfl, hK2, rfl, .nil, Nat.le_refl _, fun h => absurd h (by decide), rfl, fun y hy => by cases hy⟩ (fun _ _ _ _ _ => trivial) (fun j y σ' Hx Hb hj z yy => ?_) fun σ' H' z => ?_
      · obtain ⟨fb, sb, kvs, ks, o7, o8, rfl, hKb, hki, hnd, hkl, _, hkvl, hkb⟩ := z
        obtain ⟨rfl, rfl⟩ := yy
        refine r_gname ?_
        repeat walk_at "k"
        refine ⟨by show 9 ≤ sizeLine; decide, fun l1 hl1 => ?_⟩
        have y1 := Ext.new (o := .lst [.int (-3), .int (-1), .int 0, .int 1, .int 2, .int 4, .int 7, .int (-9), .int 9]) hl1
        have nl1 : l1 ≠ lf := by
          obtain ⟨_, _, _, _, _, h3, _⟩ := sb
          exact (ne_of_none h3 hl1).symm
        repeat walk_at "k"
        refine ⟨st, cs, lf, l1, n + 1 + i * 7 + 1 + j * 2, _, rfl, sb.ext y1, by omega, upd_same, nl1, by simp, by show 9 ≤ 1000; decide, fun vv H3 hv0 f3 s3 => ?_⟩
        obtain ⟨x, rfl, hx1, hx2⟩ : ∃ x : Int, vv = .int x ∧ -9 ≤ x ∧ x ≤ 9 := by
          simp only [List.mem_cons, List.not_mem_nil, or_false] at hv0
          rcases hv0 with h | h | h | h | h | h | h | h | h <;> exact ⟨_, h, by decide, by decide⟩
        repeat walk_at "k"
        refine ⟨st, cs, lf, n + 1 + i * 7 + 1 + j * 2 + 1, 9, rfl, s3, by omega, by decide, by decide, fun r2 H4 ht0 ht1 f4 s4 => ?_⟩
        repeat walk_at "k"
        refine r_I (by unfold CDiv; decide) ?_
        have hr8 : r2 / 8 = 0 ∨ r2 / 8 = 1 := by omega
        repeat walk_at "k"
        refine r_mul (by omega) ?_
        repeat walk_at "k"
        refine r_mul (by omega) ?_
        have hkey : -100 ≤ x * (1 + 9 * (r2 / 8)) ∧ x * (1 + 9 * (r2 / 8)) ≤ 100 := by
          rcases hr8 with h | h <;> rw [h] <;> omega
        generalize x * (1 + 9 * (r2 / 8)) = key at hkey ⊢
        have fc : Fr K [Kn, st, lf] (upd Ha Kn (.dK [])) H4 := (fb.trans y1.fr).trans ((f3.trans f4).more fun b hb => List.mem_cons_of_mem _ hb)
        have hK4 : H4 Kn = some (.dK kvs) := (f3.trans f4).kp _ _ (by simp [Ne.symm nKst, Ne.symm nKlf]) (y1 _ _ hKb) fun _ z => by cases z
        obtain ⟨ks', k1, k2, k3, k4, k5⟩ := keyI_put hki hnd key (.bl true)
        refine ⟨Kn, _, rfl, DPut.k (k := .inl key) hK4 (by rw [hkvl, sizeLine_eq]; omega), ?_⟩
        have fp : Fr K [Kn, st, lf] H4 (upd H4 Kn (.dK (putK kvs (.inl key) (.bl true)))) := Fr.putK hK4 (by simp)
        have s5 : StAt (upd H4 Kn (.dK (putK kvs (.inl key) (.bl true)))) st cs lf (n + 1 + i * 7 + 1 + j * 2 + 1 + 1) := by
          obtain ⟨c1, c2, c3, d1, d2, d3, d4⟩ := s4
          exact ⟨c1, c2, c3, by rw [upd_ne nKst]; exact d1, by rw [upd_ne nKcs]; exact d2, by rw [upd_ne nKlf]; exact d3, d4⟩
        refine ⟨fc.trans fp, s5.more (by omega), _, ks', _, _, rfl, upd_same, k1, k2, by omega, fun _ => k4, ?_, fun y hy => ?_⟩
        · have := congrArg List.length k1
          rw [List.length_map, List.length_map] at this
          exact this
        · rcases k3 y hy with h | h
          · rw [h]; exact hkey
          · exact hkb y h
      · obtain ⟨fb, sb, kvs, ks, o7, o8, rfl, hKb, hki, hnd, hkl, hne, hkvl, hkb⟩ := z
        repeat walk_at "k"
        refine ⟨Kn, kvs, ks, rfl, .inl hKb, hki, by omega, fun ys S hys hso hS => ?_⟩
        have eS := Ext.new (o := .lst (ys.map V.int)) hS
        repeat walk_at "k"
        refine r_I ⟨by omega, by omega⟩ ?_
        repeat walk_at "k"
        refine ⟨1, _, rfl, ?_⟩
        have hmx : ∃ m : Nat, (if (27 : Int) / (prodL dss : Nat) > 1 then (27 : Int) / (prodL dss : Nat) else 1) = (m : Int) ∧ 1 ≤ m ∧ prodL dss * m ≤ 27 := by
          have e0 : (27 : Int) / (prodL dss : Nat) = ((27 / prodL dss : Nat) : Int) := by rw [Int.natCast_ediv]; rfl
          rw [e0]
          by_cases hm : ((27 / prodL dss : Nat) : Int) > 1
          · exact ⟨27 / prodL dss, by rw [if_pos hm], by omega, Nat.mul_div_le 27 (prodL dss)⟩
          · exact ⟨1, by rw [if_neg hm]; rfl, Nat.le_refl _, by omega⟩
        obtain ⟨m, em, hm1, hm2⟩ := hmx
        rw [em]
        repeat walk_at "k"
        refine ⟨S, _, rfl, .inl (.inl upd_same), fun S2 hS2 => ?_⟩
        rw [cutV_to _ _ (by omega), Int.toNat_natCast, ← List.map_take]
        have hKne := hne hq1
        have hrow := row_ok (m := m) hys hso hnd hKne (by omega) hkb hm1
        have hyl : (ys.take m).length ≤ 27 := by
          have h1 : 1 * m ≤ prodL dss * m := Nat.mul_le_mul_right _ hp1
          omega
        generalize ys.take m = row at hrow hyl ⊢
        have eS2 := Ext.new (o := .lst (row.map V.int)) hS2
        repeat walk_at "k"
        refine ⟨S2, _, rfl, .inl (.inl (.inl upd_same)), ?_⟩
        rw [List.length_map]
        refine r_mul (by omega) ?_
        rw [show ((prodL dss : Nat) : Int) * ((row.length : Nat) : Int) = ((prodL (dss ++ [row]) : Nat) : Int) by rw [prodL_snoc, Int.natCast_mul]]
        repeat walk_at "k"
        have hWb : (upd (upd H' S (.lst (ys.map V.int))) S2 (.lst (row.map V.int))) W = some (.lst (as.map .ref)) := (eS.trans eS2) _ _ (fb.lst (by simp [nKW, Ne.symm nWst, Ne.symm nWlf]) (eK _ _ hWa))
        refine ⟨tyL hWb, ?_⟩
        repeat walk_at "k"
        refine ⟨S2, _, rfl, .inl ⟨.inl (.inl upd_same), fun l hl => ?_⟩⟩
        have el := Ext.new (o := .tup (row.map V.int)) hl
        repeat walk_at "k"
        have hWl := el _ _ hWb
        have hal := Paired.length has
        refine ⟨W, _, _, rfl, rfl, hWl, by rw [List.length_map, sizeLine_eq]; omega, ?_⟩
        have fp : Fr K [W, st, lf] _ (upd (upd (upd (upd H' S (.lst (ys.map V.int))) S2 (.lst (row.map V.int))) l (.tup (row.map V.int))) W (.lst (as.map V.ref ++ [.ref l]))) := Fr.putL hWl (by simp)
        have fK : Fr K [W, st, lf] (upd H W (.lst [])) H' := fa.out hKn (fb.more fun b hb => by
          simp only [List.mem_cons, List.not_mem_nil, or_false] at hb ⊢
          rcases hb with h | h | h
          · exact .inl h
          · exact .inr (.inr (.inl h))
          · exact .inr (.inr (.inr h)))
        have ee := eS.trans (eS2.trans el)
        have s6 := sb.ext ee
        have s7 : StAt (upd (upd (upd (upd H' S (.lst (ys.map V.int))) S2 (.lst (row.map V.int))) l (.tup (row.map V.int))) W (.lst (as.map V.ref ++ [.ref l]))) st cs lf (n + 1 + (i + 1) * 7) := by
          obtain ⟨c1, c2, c3, d1, d2, d3, d4, d5, d6, d7, d8, d9⟩ := s6
          exact ⟨c1, c2, c3, by rw [upd_ne nWst]; exact d1, by rw [upd_ne nWcs]; exact d2, by rw [upd_ne nWlf]; exact d3, d4, d5, d6, d7, by omega, d9⟩
        have htk : TK K Ha H' := eK.tk.trans fb.tk
        have hpr : Rows K (upd (upd (upd (upd H' S (.lst (ys.map V.int))) S2 (.lst (row.map V.int))) l (.tup (row.map V.int))) W (.lst (as.map V.ref ++ [.ref l]))) (as ++ [l]) (dss ++ [row]) :=
          paired_snoc (F := fun (x : Addr) (ns : List Int) => SqT K (upd (upd (upd (upd H' S (.lst (ys.map V.int))) S2 (.lst (row.map V.int))) l (.tup (row.map V.int))) W (.lst (as.map V.ref ++ [.ref l]))) x (ns.map V.int)) (b := row) (fp.tk _ _ (.inl (.inl upd_same))) (Paired.mapP has fun x ns z => fp.tk _ _ (ee.tk _ _ (htk _ _ z)))
        refine ⟨(fK.trans ee.fr).trans fp, s7, as ++ [l], dss ++ [row], _, _, _, _, rfl, by rw [upd_same, List.map_append]; rfl, hpr, by rw [List.length_append, hdl]; rfl, ?_, ?_, fun d hd => ?_⟩
        · rw [prodL_snoc]
          have : prodL dss * row.length ≤ prodL dss * m := Nat.mul_le_mul_left _ hrow.2.2
          omega
        · rw [prodL_snoc]
          exact Nat.mul_pos hp1 hrow.2.1
        · rcases List.mem_append.mp hd with h | h
          · exact hdok d h
          · rw [List.mem_singleton.mp h]
            exact hrow.1
    · obtain ⟨fa, sa, as, dss, o5, o6, o7, o8, rfl, hWa, has, hdl, hp27, hp1, hdok⟩ := z
      repeat walk_at "k"
      refine ⟨W, _, rfl, .inl ⟨.inl (.inl hWa), fun p hp => ?_⟩⟩
      have e2 := Ext.new (o := .tup (as.map V.ref)) hp
      refine q p dss _ ((((Fr.refl H).out nW fa)).trans e2.fr) ((sa.ext e2).more (by omega)) ⟨as, .inl (.inl upd_same), Paired.mapP has fun _ _ z => e2.tup z⟩ ?_
      unfold daysOk
      rw [prodN_eq, decide_eq_true (by omega), decide_eq_true (by omega), Bool.and_true, Bool.true_and]
      exact List.all_eq_true.mpr hdok
end
end
section
open PySem Spec PyProof.Rows L2
local macro_rules | `(tactic| walk_at "s") => `(tactic| first
  | with_reducible refine r_seq ?_
  | with_reducible refine r_next ?_
  | with_reducible refine r_asg ?_
  | with_reducible refine r_gname ?_
  | with_reducible refine r_ret ?_
  | with_reducible refine r_drop ?_
  | with_reducible refine r_ifs ?_
  | with_reducible refine r_var rfl ?_
  | with_reducible refine r_c ?_
  | with_reducible refine r_op ?_
  | with_reducible refine r_un ?_
  | with_reducible refine r_nil ?_
  | with_reducible refine r_cons ?_
  | with_reducible refine r_test ?_
  | with_reducible refine r_tb ?_
  | with_reducible refine r_and ?_
  | with_reducible refine r_or ?_
  | with_reducible refine r_not ?_
  | with_reducible refine r_andV ?_
  | with_reducible refine r_orV ?_
  | with_reducible refine r_notV ?_
  | with_reducible refine r_if ?_
  | with_reducible refine r_chain ?_
  | with_reducible refine r_cl ?_
  | with_reducible refine r_cb ?_
  | with_reducible refine r_bl ?_
  | with_reducible refine r_I0 ?_
  | with_reducible refine r_yes ?_
  | with_reducible refine r_itT ?_
  | with_reducible refine r_itL ?_
  | with_reducible refine r_itS ?_
  | with_reducible refine r_itE ?_
  | with_reducible refine r_revT ?_
  | with_reducible refine r_star ?_
  | with_reducible refine r_for ?_
  | with_reducible refine r_bm ?_
  | with_reducible refine r_bm0 ?_
  | with_reducible refine r_kget1 ?_
  | with_reducible refine r_kget2 ?_
  | with_reducible refine r_par ?_
  | with_reducible refine r_tup ?_
  | with_reducible refine r_lst ?_
  | with_reducible refine r_exI ?_
  | with_reducible refine r_itZ ?_
  | with_reducible refine r_dget ?_
  | with_reducible refine r_U ?_
  | with_reducible refine r_rng1 ?_
  | with_reducible refine r_gsub ?_
  | with_reducible refine r_pnil ?_
  | with_reducible refine r_pcons ?_
  | with_reducible refine r_methR ?_
  | with_reducible refine r_dpop1 ?_
  | with_reducible refine r_dput ?_
  | with_reducible refine r_din ?_
  | with_reducible refine r_dnotin ?_
  | with_reducible refine r_nopart ?_
  | with_reducible refine r_lc ?_
  | with_reducible refine r_sl ?_
  | with_reducible refine r_part ?_
  | with_reducible refine r_eq rfl ?_
  | with_reducible refine r_ne rfl ?_
  | with_reducible refine iteT ?_
  | with_reducible refine iteF ?_
  | with_reducible refine ite_nt ?_
  | with_reducible refine ite_nf ?_)
local macro_rules | `(tactic| walk_at "k") => `(tactic| first
  | walk_at "s"
  | with_reducible refine ite_eqT (by decide +kernel) ?_
  | with_reducible refine ite_eqF (by decide +kernel) ?_)
open LamX
/-- a dict of claims: each a list of its own -/
abbrev ClD (H : Hp) (kvs : List (Key × V)) (cs : List (Str × List Int)) : Prop := Paired (fun q e => q.1 = .inr e.1 ∧ ∃ l, q.2 = .ref l ∧ H l = some (.lst (e.2.map .int))) kvs cs
theorem ClD.fr {K : PySem.W.Frag} {B : List Addr} {H H' : Hp} {kvs : List (Key × V)} {cs : List (Str × List Int)} (h : ClD H kvs cs) (f : Fr K B H H') (hB : ∀ b ∈ B, ∀ xs, H b ≠ some (.lst xs)) : ClD H' kvs cs := Paired.mapP h fun _ _ ⟨z1, l, z2, z3⟩ => ⟨z1, l, z2, f.lst (fun hb => hB l hb _ z3) z3⟩
theorem ClD.keys {H : Hp} {kvs : List (Key × V)} {cs : List (Str × List Int)} (h : ClD H kvs cs) : kvs.map (·.1) = (cs.map (·.1)).map Sum.inr := by
  induction h with
  | nil => rfl
  | cons hh _ ih => rw [List.map_cons, List.map_cons, List.map_cons, ih, hh.1]
theorem claimsL_names (dss : List (List Int)) (own : Own) : ∀ ys : List Str, ((claimsL dss own ys).map (·.1)).Sublist ys
  | [] => .slnil
  | y :: ys => by
    have ih := claimsL_names dss own ys
    unfold claimsL at ih ⊢
    rw [List.filterMap_cons]
    cases claimAt dss own y with
    | none => exact ih.cons y
    | some c => exact ih.cons_cons y
section
variable {P : Program} {w : World} {K : PySem.W.Frag} {mg : Str → Option Value} {base : Heap}
theorem sc__law_claims : FnScope ["days_so", "own", "paths_so", "found", "name", "way"] ["days_so", "own"] (defScope (top 71)) := ⟨rfl, rfl, rfl, by decide +kernel, rfl, by decide +kernel, by decide +kernel⟩
def spLawClaims (K : PySem.W.Frag) : Sp := fun vs H Q _ => ∃ (d O : Addr) (dss : List (List Int)) (own : Own), vs = [.ref d, .ref O] ∧ DaysAt K H d dss ∧ daysOk dss = true ∧ DictN K H O own ∧ OwnOk own ∧ (names own).Nodup ∧
  ∀ ys H' c kvs, ys.Perm (names own) → sortedS ys = true → Ext H H' → H c = none → H' c = some (.dK kvs) → ClD H' kvs (claimsL dss own ys) → Q (.ref c) H'
theorem c__law_claims (fx : Fx K mg w) : CalR P w K mg base 11 "_law_claims" (spLawClaims K) := by
  refine fx.d__law_claims.ok sc__law_claims (fun vs H Q E q => ?_) (fun _ _ _ _ _ _ us hl => match us, hl with | [_, _], _ => rfl) fun f cdv A outer s H vs Q E hr q => ?_
  · obtain ⟨d, O, dss, own, rfl, _⟩ := q
    rfl
  · obtain ⟨d, O, dss, own, rfl, hday, hok, hO, ho, hnd, q⟩ := q
    have hu := hr.units
    have hu2 := hu_of hr
    obtain ⟨hdw, hd4, hp32, hdok⟩ := daysOk_wf hok
    refine ⟨_, (pss_cons (ps_par (i := 2) (j := 3) rfl sc__law_claims.nd rfl rfl (by decide) rfl rfl (pa_cons (pe_cr (c__law_paths fx) hr px (pa_cons (pv 0) pa_nil)) (pa_cons pe_dnewK pa_nil)) rfl)
    (pss_cons (ps_for PassesOwn.leaving rfl (pi_list (pe_callB (call_sortedD rfl) rfl fx.n_sorted (by decide +kernel) (pa_cons (pv 1) pa_nil))) (pg_name (i := 4) (x := "name") sc__law_claims.nd rfl (Or.inr rfl) (.inl rfl)) (pss_one (ps_if (pt_cmpR (op_eqD hu) (pe_cr (c__law_fault fx 8) hr px (pa_cons (pv 0) (pa_cons (pv 2) (pa_cons (pe_dget hu2 (pv 1) (pv 4) (fun _ _ => rfl)) (pa_cons (pe_tup pa_nil) pa_nil)))) (hk := Nat.le_refl _)) (pe_lst pa_nil) (nomark _)) (pss_one (ps_dput hu2 (pv 3) (pv 4) (pe_lc (own := [("way", 5)]) (g := gName 5) (tt := tYes) (te := tCl (spPays K 8) (fun _ _ _ => False) (tCons (tDGet (tVar 1) (tVar 4)) (tCons (tVar 5) tNil))) rfl sc__law_claims.nd (pi_list (pv 2)) (blkOk_by (N := ["days_so", "own", "paths_so", "found", "name", "way"]) (sc := defScope (top 71)) (by decide +kernel)) (fun _ _ _ _ _ => pg_name (i := 5) (x := "way") sc__law_claims.nd rfl (Or.inl rfl) (.inr rfl)) (fun _ _ _ _ _ => pts_nil) (fun _ _ _ _ _ => (pe_cr (c__law_pays fx 8) hr passL (pa_cons (pe_dget hu2 (pv 1) (pv 4) (fun _ _ => rfl)) (pa_cons (pv 5) pa_nil))))) rfl)) pss_nil)))
    (pss_one (ps_ret (pv 3))))), ?_⟩
    repeat walk_at "k"
    refine ⟨d, dss, rfl, hday, hdw.1, hdw.2, fun H1 N nas e1 hN h1 hnums => ?_⟩
    repeat walk_at "k"
    refine fun F hF => ?_
    have eF := Ext.new (o := .dK []) hF
    repeat walk_at "k"
    refine ⟨_, _, rfl, ?_⟩
    repeat walk_at "k"
    obtain ⟨okv, hO1, hO2⟩ := hO.ext (e1.trans eF)
    have hol := ho.len
    refine ⟨O, okv, names own, rfl, .inl hO1, hO2.keys, by unfold names; rw [List.length_map]; omega, fun ys S hys hso hS => ?_⟩
    have eS := Ext.new (o := .lst (ys.map V.str)) hS
    have e3 := (e1.trans eF).trans eS
    have nF : H F = none := e1.none hF
    have hyl : ys.length ≤ 21 := by rw [hys.length_eq]; unfold names; rw [List.length_map]; exact hol
    have hF3 : (upd (upd H1 F (.dK [])) S (.lst (ys.map V.str))) F = some (.dK []) := eS _ _ upd_same
    have hS3 : (upd (upd H1 F (.dK [])) S (.lst (ys.map V.str))) S = some (.lst (ys.map V.str)) := upd_same
    have hN3 := (eF.trans eS) _ _ h1
    have hnums3 := hnums.tk (K := K) (eF.trans eS).tk
    have hO3 := hO.ext e3
    generalize upd (upd H1 F (.dK [])) S (.lst (ys.map V.str)) = H3 at e3 hF3 hS3 hN3 hnums3 hO3 ⊢
    clear hO1 hO2 eF eS hS hF
    refine ⟨S, rfl, ⟨_, .inl (.inl hS3)⟩, ?_⟩
    have nSF : S ≠ F := ne_of hS3 hF3 fun z => by cases z
    refine for_it walk_list (fun i σ' H' => Fr K [F] H3 H' ∧ Ext H H' ∧ ∃ (kvs : List (Key × V)) (o4 o5 : Option V), σ' = [some (.ref d), some (.ref O), some (.ref N), some (.ref F), o4, o5] ∧ H' F = some (.dK kvs) ∧ ClD H' kvs (claimsL dss own (ys.take i)))
      ⟨Fr.refl _, e3, [], none, none, rfl, hF3, .nil⟩ (fun i σ' H' _ z => .inl (.inl (z.1.lst (by simpa using nSF) hS3))) (fun i x σ' Hx Ha hi z yy => ?_) fun σ' H' z => ?_
    · obtain ⟨fa, ea, kvs, o4, o5, rfl, hFa, hcl⟩ := z
      obtain ⟨rfl, hy⟩ := yy
      rw [List.getElem?_map] at hy
      obtain ⟨y, hyi, rfl⟩ := Option.map_eq_some_iff.mp hy
      have hyn : y ∈ names own := hys.mem_iff.mp (List.mem_of_getElem? hyi)
      obtain ⟨okv, hO1, hO2⟩ := hO.ext ea
      refine r_gname ?_
      rcases hO2.val y with ⟨_, z2⟩ | ⟨v, t, z1, z2, z3, z4⟩
      · exfalso
        obtain ⟨e, he, rfl⟩ := List.mem_map.mp hyn
        unfold lookN at z2
        rw [Option.map_eq_none_iff, List.find?_eq_none] at z2
        exact z2 e he (by simp)
      · have hg := DGet.k (k := .inr y) hO1
        rw [z1] at hg
        obtain ⟨w1, w2, w3⟩ := ho.wf _ z4
        rw [allOwn_allT] at w3
        obtain ⟨ds, hds, hdl⟩ := (hday.tk ea.tk).len
        have hN := fa.lst (by simpa using (ne_of hN3 hF3 fun z => by cases z)) hN3
        have hnums' := hnums3.tk fa.tk
        have hca : claimAt dss own y = if okC dss t = true then some (claim dss t) else none := by unfold claimAt; rw [z2]; rfl
        have hkl : kvs.length ≤ 21 := by
          rw [Paired.length hcl]
          have := (claimsL_names dss own (ys.take i)).length_le
          rw [List.length_map, List.length_take] at this
          omega
        have et : claimsL dss own (ys.take (i + 1)) = claimsL dss own (ys.take i) ++ (match claimAt dss own y with
            | some c => [(y, c)]
            | none => []) := by
          rw [take_succ_get hyi]
          exact claimsL_snoc dss own _ y
        repeat walk_at "k"
        refine ⟨O, _, rfl, hg, ?_⟩
        repeat walk_at "k"
        refine ⟨by decide, fun pz hpz => ?_⟩
        have ez := Ext.new (o := .tup []) hpz
        repeat walk_at "k"
        refine ⟨d, N, pz, ds, nas, v, t, [], dss, rfl, ez.tup hds, hdl, by omega, ez _ _ hN, hnums'.tk ez.tk, by omega, z3.tk ez.tk, w2, w3, .inl (.inl upd_same), by decide, fun hgd H4 b e4 hb => ?_, fun hgd H4 b q4 p4 e4 hb hq4 => ?_⟩
        · rw [← okC_allT] at hgd
          rw [if_pos hgd] at hca
          rw [hca] at et
          repeat walk_at "k"
          refine ⟨by decide, fun pe hpe => ?_⟩
          have ee := Ext.new (o := .lst []) hpe
          refine ⟨.list [], .list [], .lst (.inl (.inl (ee _ _ hb))) .nil, .lst (.inl (.inl upd_same)) .nil, by decide +kernel, by decide +kernel, ?_⟩
          have e5 := ez.trans (e4.trans ee)
          have hN5 := e5 _ _ hN
          have hO5 := hO.ext (ea.trans e5)
          have f5 : Fr K [F] H3 _ := fa.trans e5.fr
          have hF5 := e5 _ _ hFa
          have hcl5 : ClD _ kvs (claimsL dss own (ys.take i)) := hcl.fr (e5.fr (K := K) (B := [])) (fun b hb => by cases hb)
          have hn5 := hnums'.tk (K := K) e5.tk
          have ea5 := ea.trans e5
          generalize upd H4 pe (.lst []) = H5 at e5 hN5 hO5 f5 hF5 hcl5 hn5 ea5 ⊢
          repeat walk_at "k"
          refine ⟨N, rfl, ⟨_, .inl (.inl hN5)⟩, fun D hD => lc_vals (K := K) walk_list hD (by rw [List.length_map, Paired.length hn5]; omega) (fun He e => .inl (.inl (e _ _ hN5))) (fun j => .int ((claim dss t)[j]?.getD 0)) yAt_ext (fun j x Hx He hj e yy Kt hk => ?_) fun He e hl => ?_⟩
          · obtain ⟨_, hx⟩ := yy
            rw [List.getElem?_map] at hx
            obtain ⟨ra, hra, rfl⟩ := Option.map_eq_some_iff.mp hx
            obtain ⟨row, hrow, hrt⟩ := paired_get hn5 j ra hra
            have hcj : (claim dss t)[j]? = some (pay t row) := by unfold claim; rw [List.getElem?_map, hrow]; rfl
            rw [hcj] at hk
            have hrl : row.length = dss.length := pathsOf_len _ _ (List.mem_of_getElem? hrow)
            obtain ⟨okv2, hP1, hP2⟩ := hO5.ext e
            have hg2 := DGet.k (k := .inr y) hP1
            rcases hP2.val y with ⟨_, u2⟩ | ⟨v2, t2, u1, u2, u3, _⟩
            · rw [z2] at u2
              cases u2
            · rw [z2] at u2
              cases u2
              rw [u1] at hg2
              refine r_gname ⟨rfl, ?_⟩
              repeat walk_at "k"
              refine ⟨O, _, rfl, hg2, ?_⟩
              repeat walk_at "k"
              refine ⟨v2, ra, t, row, rfl, u3, w2, e.tup hrt, by omega, by rw [hrl]; exact pay_wf t w3 (good_knows t (by rw [← okC_allT]; exact hgd)), fun H6 e6 => ?_⟩
              exact hk H6 e6
          · have hl2 : He D = some (.lst ((claim dss t).map V.int)) := by
              rw [hl, List.length_map, Paired.length hn5]
              have : (pathsOf dss).length = (claim dss t).length := by unfold claim; rw [List.length_map]
              rw [this]
              exact congrArg (fun z => some (HO.lst z)) (map_range_get (claim dss t) V.int _ fun j x hx => by rw [hx]; rfl)
            repeat walk_at "k"
            have hFe := e _ _ hF5
            refine ⟨F, _, rfl, DPut.k (k := .inr y) hFe (by rw [sizeLine_eq]; omega), ?_⟩
            have hne : valV kvs (.inr y) = none := by
              cases hv : valV kvs (.inr y) with
              | none => rfl
              | some u =>
                exfalso
                have h1 := valV_in hv
                rw [hcl.keys] at h1
                obtain ⟨y2, hy2, ey⟩ := List.mem_map.mp h1
                rw [Sum.inr.inj ey] at hy2
                have h2 := (claimsL_names dss own (ys.take i)).subset hy2
                obtain ⟨j, hj, ej⟩ := List.mem_iff_getElem.mp h2
                rw [List.getElem_take] at ej
                rw [List.length_take] at hj
                obtain ⟨hil, ei⟩ := List.getElem?_eq_some_iff.mp hyi
                have hndy : ys.Nodup := hys.nodup_iff.mpr hnd
                exact List.pairwise_iff_getElem.mp hndy j i (by omega) hil (by omega) (ej.trans ei.symm)
            rw [putK_new _ hne]
            have fp : Fr K [F] He (upd He F (.dK (kvs ++ [(.inr y, .ref D)]))) := Fr.putK hFe (by simp)
            have nDF : D ≠ F := ne_of hl2 hFe fun z => by cases z
            have hcle : ClD He kvs (claimsL dss own (ys.take i)) := hcl5.fr (e.fr (K := K) (B := [])) (fun b hb => by cases hb)
            refine ⟨(f5.trans e.fr).trans fp, (ea5.trans e).out nF, _, _, _, rfl, upd_same, ?_⟩
            rw [et]
            refine paired_snoc (b := (y, claim dss t)) ⟨rfl, D, rfl, by rw [upd_ne nDF]; exact hl2⟩ (hcle.fr fp fun b hb xs z => ?_)
            rw [List.mem_singleton.mp hb, hFe] at z
            cases z
        · rw [← okC_allT] at hgd
          rw [if_neg (by rw [hgd]; decide)] at hca
          rw [hca] at et
          repeat walk_at "k"
          refine ⟨by decide, fun pe hpe => ?_⟩
          have ee := Ext.new (o := .lst []) hpe
          refine ⟨.list [.tuple (p4.map .int)], .list [], .lst (.inl (.inl (ee _ _ hb))) (.cons (.tup (ee.tup hq4) (dp_ints _)) .nil), .lst (.inl (.inl upd_same)) .nil, shaped_rowsL [p4], by decide +kernel, ?_⟩
          rw [eqv_nilL]
          repeat walk_at "k"
          refine ite_eqF rfl ?_
          have e5 := ez.trans (e4.trans ee)
          refine ⟨fa.trans e5.fr, ea.trans e5, _, _, _, rfl, e5 _ _ hFa, ?_⟩
          rw [et, List.append_nil]
          exact hcl.fr (e5.fr (K := K) (B := [])) (fun b hb => by cases hb)
    · obtain ⟨fa, ea, kvs, o4, o5, rfl, hFa, hcl⟩ := z
      repeat walk_at "k"
      rw [List.length_map, List.take_length] at hcl
      exact q ys H' F kvs hys hso ea nF hFa hcl
end
end
section
open PySem Spec PyProof.Rows L2
local macro_rules | `(tactic| walk_at "s") => `(tactic| first
  | with_reducible refine r_seq ?_
  | with_reducible refine r_next ?_
  | with_reducible refine r_asg ?_
  | with_reducible refine r_gname ?_
  | with_reducible refine r_ret ?_
  | with_reducible refine r_drop ?_
  | with_reducible refine r_ifs ?_
  | with_reducible refine r_var rfl ?_
  | with_reducible refine r_c ?_
  | with_reducible refine r_op ?_
  | with_reducible refine r_un ?_
  | with_reducible refine r_nil ?_
  | with_reducible refine r_cons ?_
  | with_reducible refine r_test ?_
  | with_reducible refine r_tb ?_
  | with_reducible refine r_and ?_
  | with_reducible refine r_or ?_
  | with_reducible refine r_not ?_
  | with_reducible refine r_andV ?_
  | with_reducible refine r_orV ?_
  | with_reducible refine r_notV ?_
  | with_reducible refine r_if ?_
  | with_reducible refine r_chain ?_
  | with_reducible refine r_cl ?_
  | with_reducible refine r_cb ?_
  | with_reducible refine r_bl ?_
  | with_reducible refine r_I0 ?_
  | with_reducible refine r_yes ?_
  | with_reducible refine r_itT ?_
  | with_reducible refine r_itL ?_
  | with_reducible refine r_itS ?_
  | with_reducible refine r_itE ?_
  | with_reducible refine r_revT ?_
  | with_reducible refine r_star ?_
  | with_reducible refine r_for ?_
  | with_reducible refine r_bm ?_
  | with_reducible refine r_bm0 ?_
  | with_reducible refine r_kget1 ?_
  | with_reducible refine r_kget2 ?_
  | with_reducible refine r_par ?_
  | with_reducible refine r_tup ?_
  | with_reducible refine r_lst ?_
  | with_reducible refine r_exI ?_
  | with_reducible refine r_itZ ?_
  | with_reducible refine r_dget ?_
  | with_reducible refine r_U ?_
  | with_reducible refine r_rng1 ?_
  | with_reducible refine r_gsub ?_
  | with_reducible refine r_pnil ?_
  | with_reducible refine r_pcons ?_
  | with_reducible refine r_methR ?_
  | with_reducible refine r_dpop1 ?_
  | with_reducible refine r_dput ?_
  | with_reducible refine r_din ?_
  | with_reducible refine r_dnotin ?_
  | with_reducible refine r_nopart ?_
  | with_reducible refine r_lc ?_
  | with_reducible refine r_sl ?_
  | with_reducible refine r_part ?_
  | with_reducible refine r_eq rfl ?_
  | with_reducible refine r_ne rfl ?_
  | with_reducible refine iteT ?_
  | with_reducible refine iteF ?_
  | with_reducible refine ite_nt ?_
  | with_reducible refine ite_nf ?_)
local macro_rules | `(tactic| walk_at "k") => `(tactic| first
  | walk_at "s"
  | with_reducible refine ite_eqT (by decide +kernel) ?_
  | with_reducible refine ite_eqF (by decide +kernel) ?_)
open LamX
/-- what may be told: the class, its field, the word -/
def toldL : List (Str × Str × Str) := [("BadTerm", "path", "term"), ("TooMany", "most", "many"), ("BadDays", "given", "days"), ("BadLabel", "given", "label"), ("Missing", "given", "missing")]
def ETold (K : PySem.W.Frag) (Q : VK) : XK := fun cls od H => ∃ (t : Str × Str × Str) (v : V) (d : Addr), t ∈ toldL ∧ cls = .ref (He.ga K t.1) ∧ od = some d ∧ H d = some (.xd [(t.2.1, v)]) ∧ ∀ H' p, Ext H H' → SqT K H' p [.str t.2.2, v] → Q (.ref p) H'
def QTold (Q : VK) : VK := fun v H => ∀ H' p, Ext H H' → H' p = some (.lst [v]) → Q (.ref p) H'
/-- _law_told of what tl reads -/
def TTold5 (K : PySem.W.Frag) : (XK → Hp → VK → Prop) → Hp → VK → Prop := fun tl H Q => ∀ H1 Q1, Ext H H1 → (∀ v H', QTold Q v H' → Q1 v H') → tl (ETold K Q) H1 Q1
def cs5 (K : PySem.W.Frag) : List Value := [.ref (He.ga K "BadDays"), .ref (He.ga K "BadLabel"), .ref (He.ga K "BadTerm"), .ref (He.ga K "Missing"), .ref (He.ga K "TooMany")]
section
variable {mg : Str → Option Value} {w : World} {K : PySem.W.Frag}
theorem sc__law_told : FnScope ["call", "found", "caught", "error"] ["call"] (defScope (top 70)) := ⟨rfl, rfl, rfl, by decide +kernel, rfl, by decide +kernel, by decide +kernel⟩
theorem exm5 (fx : Fx K mg w) {x : Str} (hx : x ∈ excN) : PySem.W.exmAny K (.ref (He.ga K x)) (cs5 K) = some true := by
  have h : ∀ y, y ∈ excN → PySem.W.exmOne K (.ref (He.ga K x)) (.ref (He.ga K y)) = some (decide (x = y)) := fun y hy => (fx.exm x hx y hy).1
  unfold cs5
  simp only [PySem.W.exmAny, h "BadDays" (List.mem_of_getElem? (i := 0) rfl), h "BadLabel" (List.mem_of_getElem? (i := 1) rfl), h "BadTerm" (List.mem_of_getElem? (i := 2) rfl), h "Missing" (List.mem_of_getElem? (i := 3) rfl), h "TooMany" (List.mem_of_getElem? (i := 4) rfl)]
  have hx2 := hx
  simp only [excN, List.mem_cons, List.not_mem_nil, or_false] at hx2
  rcases hx2 with rfl | rfl | rfl | rfl | rfl <;> decide
theorem exEC (fx : Fx K mg w) {x : Str} (hx : x ∈ excN) : ExcC K (He.ga K x) := by
  simp only [excN, List.mem_cons, List.not_mem_nil, or_false] at hx
  rcases hx with rfl | rfl | rfl | rfl | rfl
  · exact fx.x_BadDays.ec
  · exact fx.x_BadLabel.ec
  · exact fx.x_BadTerm.ec
  · exact fx.x_Missing.ec
  · exact fx.x_TooMany.ec
theorem exFld (fx : Fx K mg w) {x fl tg : Str} (ht : (x, fl, tg) ∈ toldL) : XfC K (He.ga K x) ∧ PySem.W.findIn K (.ref (He.ga K x)) fl = some none := by
  simp only [toldL, List.mem_cons, List.not_mem_nil, or_false, Prod.mk.injEq] at ht
  rcases ht with ⟨rfl, rfl, _⟩ | ⟨rfl, rfl, _⟩ | ⟨rfl, rfl, _⟩ | ⟨rfl, rfl, _⟩ | ⟨rfl, rfl, _⟩
  · exact ⟨fx.x_BadTerm.xf, fx.x_BadTerm.no⟩
  · exact ⟨fx.x_TooMany.xf, fx.x_TooMany.no⟩
  · exact ⟨fx.x_BadDays.xf, fx.x_BadDays.no⟩
  · exact ⟨fx.x_BadLabel.xf, fx.x_BadLabel.no⟩
  · exact ⟨fx.x_Missing.xf, fx.x_Missing.no⟩
theorem told5 {X : Cx} {g : Addr} {cdg : Value} {q : Str} (fx : Fx X.K X.mg X.w) : GivesTo X ["call", "found", "caught", "error"] "_law_told" (defScope (top 70)) g cdg (defBody (top 70)) "call" q (TTold5 X.K) := by
  intro f c' s H Q tl act hc h
  have hX : (cxOf C8.CX0 X.prog X.w X.K X.mg X.base ["call", "found", "caught", "error"] "_law_told" (defScope (top 70)) g cdg X.A X.stack s H C8.E0).nox.K = X.K := rfl
  refine ⟨_, (pss_cons (ps_asg (pe_tup (pa_cons pe_non (pa_cons pe_non pa_nil))) (pg_tup (n := 2) rfl (pgs_cons (pg_name (i := 1) (x := "found") sc__law_told.nd rfl (Or.inl rfl) (.inl rfl)) (pgs_cons (pg_name (i := 2) (x := "caught") sc__law_told.nd rfl (Or.inl rfl) (.inl rfl)) pgs_nil))))
    (pss_cons (ps_try_held (X := (cxOf C8.CX0 X.prog X.w X.K X.mg X.base ["call", "found", "caught", "error"] "_law_told" (defScope (top 70)) g cdg X.A X.stack s H C8.E0).nox) (n := "error") (z := "caught") (i := 3) (j := 2) (cs := cs5 X.K) (tb := fun W D σ H => ∃ Ech : XK, (∀ cls d σ' H', Ech cls d H' → W cls d σ' H') ∧ σ[0]? = some (some (.ref f)) ∧ H c' = some (CodeO c' q) ∧ tl Ech H fun v H' => D.nx (σ.set 1 (some v)) H') rfl rfl rfl sc__law_told.nd rfl rfl rfl rfl (by decide) (.cons (x := "BadDays") rfl fx.x_BadDays.m rfl (.cons (x := "BadLabel") rfl fx.x_BadLabel.m rfl (.cons (x := "BadTerm") rfl fx.x_BadTerm.m rfl (.cons (x := "Missing") rfl fx.x_Missing.m rfl (.cons (x := "TooMany") rfl fx.x_TooMany.m rfl .nil))))) (by show 5 ≤ sizeLine; decide) (fun W pn xe tk _ => ⟨fun pins s' σ H' D I ⟨Ech, hW, h1, h2, h3⟩ => (pss_one (ps_set (i := 1) sc__law_told.nd rfl (Or.inl rfl) (act W pn xe Ech _ _ tk hW))).run pins s' σ H' D I ⟨h1, h2, h3⟩⟩))
    (pss_cons (ps_if (pt_cmpR op_isN (pv 2) pe_non (nomark _)) (pss_one (ps_ret (pe_lst (pa_cons (pv 1) pa_nil)))) pss_nil)
    (pss_cons (ps_if (pt_val (pe_callB call_isH rfl fx.n_isinstance (by decide +kernel) (pa_cons (pv 2) (pa_cons (pe_glob (v := .ref (He.ga X.K "BadTerm")) rfl fx.x_BadTerm.m rfl) pa_nil)))) (pss_one (ps_ret (pe_tup (pa_cons pe_str (pa_cons (pe_xh (pv 2) rfl) pa_nil))))) pss_nil)
    (pss_cons (ps_if (pt_val (pe_callB call_isH rfl fx.n_isinstance (by decide +kernel) (pa_cons (pv 2) (pa_cons (pe_glob (v := .ref (He.ga X.K "TooMany")) rfl fx.x_TooMany.m rfl) pa_nil)))) (pss_one (ps_ret (pe_tup (pa_cons pe_str (pa_cons (pe_xh (pv 2) rfl) pa_nil))))) pss_nil)
    (pss_cons (ps_if (pt_val (pe_callB call_isH rfl fx.n_isinstance (by decide +kernel) (pa_cons (pv 2) (pa_cons (pe_glob (v := .ref (He.ga X.K "BadDays")) rfl fx.x_BadDays.m rfl) pa_nil)))) (pss_one (ps_ret (pe_tup (pa_cons pe_str (pa_cons (pe_xh (pv 2) rfl) pa_nil))))) pss_nil)
    (pss_one (ps_ret (pe_ifExp (pt_val (pe_callB call_isH rfl fx.n_isinstance (by decide +kernel) (pa_cons (pv 2) (pa_cons (pe_glob (v := .ref (He.ga X.K "BadLabel")) rfl fx.x_BadLabel.m rfl) pa_nil)))) (pe_tup (pa_cons pe_str (pa_cons (pe_xh (pv 2) rfl) pa_nil))) (pe_tup (pa_cons pe_str (pa_cons (pe_xh (pv 2) rfl) pa_nil)))))))))))), ?_⟩
  repeat walk_at "k"
  refine ⟨by show 2 ≤ sizeLine; decide, fun p hp => ?_⟩
  have ep := Ext.new (o := .tup [.non, .non]) hp
  refine ⟨p, _, rfl, .inl (.inl upd_same), rfl, _, _, rfl, r_gname ⟨_, _, rfl, r_gname ⟨rfl, ?_⟩⟩⟩
  refine ⟨ETold X.K Q, fun cls od σ' H' z => ?_, rfl, ep _ _ hc, ?_⟩
  · obtain ⟨⟨x, fl, tg⟩, v, d, ht, rfl, rfl, hd, q⟩ := z
    have hx : x ∈ excN := by
      simp only [toldL, List.mem_cons, List.not_mem_nil, or_false, Prod.mk.injEq] at ht
      rcases ht with ⟨h, _⟩ | ⟨h, _⟩ | ⟨h, _⟩ | ⟨h, _⟩ | ⟨h, _⟩ <;> rw [h] <;> decide
    refine ⟨exm5 fx hx, fun a hlen ha => ?_⟩
    have ea := Ext.new (o := xhd a (.ref (He.ga X.K x)) (some d)) ha
    have hd2 := ea _ _ hd
    have ha2 : (upd H' a (xhd a (.ref (He.ga X.K x)) (some d))) a = some (xhd a (.ref (He.ga X.K x)) (some d)) := upd_same
    have q2 := fun H'' p (e : Ext (upd H' a (xhd a (.ref (He.ga X.K x)) (some d))) H'') => q H'' p (ea.trans e)
    generalize upd H' a (xhd a (.ref (He.ga X.K x)) (some d)) = H2 at hd2 ha2 q2 ⊢
    have kit : ∀ y, y ∈ excN → PySem.W.kitOne X.K (.ref (He.ga X.K x)) (.ref (He.ga X.K y)) = some (decide (x = y)) := fun y hy => (fx.exm x hx y hy).2
    have fin : ∀ (H3 : Hp), Ext H2 H3 → ([.str tg, v] : List V).length ≤ sizeLine ∧ ∀ p, H3 p = none → Q (.ref p) (upd H3 p (.tup [.str tg, v])) := fun H3 e3 => ⟨by show 2 ≤ sizeLine; decide, fun p hp => q2 _ p (e3.trans (Ext.new hp)) (.inl (.inl upd_same))⟩
    obtain ⟨σ0, σ1, σ2, σ3, rfl⟩ : ∃ σ0 σ1 σ2 σ3, σ' = [σ0, σ1, σ2, σ3] := by
      match σ', hlen with
      | [σ0, σ1, σ2, σ3], _ => exact ⟨σ0, σ1, σ2, σ3, rfl⟩
    have isE : ∀ (y : Str) (QQ : VK), y ∈ excN → QQ (.bl (decide (x = y))) H2 → rIsH X.K [.ref a, .ref (He.ga X.K y)] H2 QQ := fun y QQ hy hq => ⟨a, He.ga X.K x, d, _, _, _, _, rfl, ha2, hd2, exEC fx hx, .own _, kit y hy, hq⟩
    obtain ⟨n1, n2⟩ := exFld fx ht
    have ht2 := ht
    simp only [toldL, List.mem_cons, List.not_mem_nil, or_false, Prod.mk.injEq] at ht2
    rcases ht2 with ⟨rfl, rfl, rfl⟩ | ⟨rfl, rfl, rfl⟩ | ⟨rfl, rfl, rfl⟩ | ⟨rfl, rfl, rfl⟩ | ⟨rfl, rfl, rfl⟩
    · repeat walk_at "k"
      refine ⟨rfl, ?_⟩
      repeat walk_at "k"
      refine ite_eqF rfl ?_
      repeat walk_at "k"
      refine isE "BadTerm" _ (List.mem_of_getElem? (i := 2) rfl) ?_
      repeat walk_at "k"
      refine ⟨_, rfl, a, _, d, _, v, rfl, ha2, hd2, n1, n2, by simp [List.lookup], ?_⟩
      repeat walk_at "k"
      exact fin H2 (Ext.refl _)
    · repeat walk_at "k"
      refine ⟨rfl, ?_⟩
      repeat walk_at "k"
      refine ite_eqF rfl ?_
      repeat walk_at "k"
      refine isE "BadTerm" _ (List.mem_of_getElem? (i := 2) rfl) ?_
      repeat walk_at "k"
      refine isE "TooMany" _ (List.mem_of_getElem? (i := 4) rfl) ?_
      repeat walk_at "k"
      refine ⟨_, rfl, a, _, d, _, v, rfl, ha2, hd2, n1, n2, by simp [List.lookup], ?_⟩
      repeat walk_at "k"
      exact fin H2 (Ext.refl _)
    · repeat walk_at "k"
      refine ⟨rfl, ?_⟩
      repeat walk_at "k"
      refine ite_eqF rfl ?_
      repeat walk_at "k"
      refine isE "BadTerm" _ (List.mem_of_getElem? (i := 2) rfl) ?_
      repeat walk_at "k"
      refine isE "TooMany" _ (List.mem_of_getElem? (i := 4) rfl) ?_
      repeat walk_at "k"
      refine isE "BadDays" _ (List.mem_of_getElem? (i := 0) rfl) ?_
      repeat walk_at "k"
      refine ⟨_, rfl, a, _, d, _, v, rfl, ha2, hd2, n1, n2, by simp [List.lookup], ?_⟩
      repeat walk_at "k"
      exact fin H2 (Ext.refl _)
    · repeat walk_at "k"
      refine ⟨rfl, ?_⟩
      repeat walk_at "k"
      refine ite_eqF rfl ?_
      repeat walk_at "k"
      refine isE "BadTerm" _ (List.mem_of_getElem? (i := 2) rfl) ?_
      repeat walk_at "k"
      refine isE "TooMany" _ (List.mem_of_getElem? (i := 4) rfl) ?_
      repeat walk_at "k"
      refine isE "BadDays" _ (List.mem_of_getElem? (i := 0) rfl) ?_
      repeat walk_at "k"
      refine isE "BadLabel" _ (List.mem_of_getElem? (i := 1) rfl) ?_
      repeat walk_at "k"
      refine ⟨_, rfl, a, _, d, _, v, rfl, ha2, hd2, n1, n2, by simp [List.lookup], ?_⟩
      repeat walk_at "k"
      exact fin H2 (Ext.refl _)
    · repeat walk_at "k"
      refine ⟨rfl, ?_⟩
      repeat walk_at "k"
      refine ite_eqF rfl ?_
      repeat walk_at "k"
      refine isE "BadTerm" _ (List.mem_of_getElem? (i := 2) rfl) ?_
      repeat walk_at "k"
      refine isE "TooMany" _ (List.mem_of_getElem? (i := 4) rfl) ?_
      repeat walk_at "k"
      refine isE "BadDays" _ (List.mem_of_getElem? (i := 0) rfl) ?_
      repeat walk_at "k"
      refine isE "BadLabel" _ (List.mem_of_getElem? (i := 1) rfl) ?_
      repeat walk_at "k"
      refine ⟨_, rfl, a, _, d, _, v, rfl, ha2, hd2, n1, n2, by simp [List.lookup], ?_⟩
      repeat walk_at "k"
      exact fin H2 (Ext.refl _)
  · refine h _ _ ep fun v H' hq => ?_
    repeat walk_at "k"
    refine ⟨rfl, ?_⟩
    repeat walk_at "k"
    exact ⟨by show 1 ≤ sizeLine; decide, fun l hl => hq _ l (Ext.new hl) upd_same⟩
end
end
section
open PySem Spec PyProof.Rows L2
open LamX
section
variable {X : Cx}
/-- _law_told(lambda: body) -/
theorem pe_told {c P : Addr} {k : Nat} {params : Arguments} {body : Expr} {scope : Scope} {t : XK → TE} {p lpos pos : Pos} (fx : Fx X.K X.mg X.w) (hg : Gl X "_law_told") (TB : TabB X.base X.mg c P) (hcode : X.env.code = .ref c) (hmT : (P, X.env.qual ++ "<lambda>") ∈ TT X.K) (hu : ∀ p ∈ TT X.K, p.1 = P → p.2 = X.env.qual ++ "<lambda>") (hr : Room (k + 2) X.A) (L : LamS X.env.scope scope) (hdef : defaultsOf params X.env = ([], []))
    (hbind : ∀ (q : Str) (cl : List (Str × Addr)) (pm cv ctv : Value), bindArgs (PySem.W.kla_fn "<lambda>" q params body scope cl pm cv ctv) ⟨[], []⟩ = pure [])
    (hbody : ∀ (A : Around) (outer : List Env) (s : Shared) (H : Hp) (E : XK) (f c' : Addr), Room k (A.deeper (lamEnv X scope s.heap.objs.size f c')) → PE (lamCx X A outer s H E scope f c') body (t E)) :
    PE X (.Call (.Name "_law_told" p) [.Lambda params body scope lpos] [] pos) (tLam (TT X.K) (TTold5 X.K) t) := by
  obtain ⟨g, fd, F, hm⟩ := fx.d__law_told
  have bb := F.binds (ps := ["call"]) fun _ _ _ _ _ _ us hl => match us, hl with | [_], _ => rfl
  obtain ⟨oc, od, kV, doc, pm, an, cdv, ct, osl, rfl, lk, hcd⟩ := F.ex
  exact pe_lamcall hg hm F.kp lk hcd bb sc__law_told rfl (.inl rfl) (told5 fx) TB hcode hmT hu hr L hdef hbind hbody
/-- _law_told(lambda z=i0: body) -/
theorem pe_toldD {c P : Addr} {k k0 : Nat} {z : Str} {i0 : Int} {params : Arguments} {body : Expr} {scope : Scope} {t : XK → TE} {p p0 lpos pos : Pos} (fx : Fx X.K X.mg X.w) (hg : Gl X "_law_told") (TB : TabB X.base X.mg c P) (hcode : X.env.code = .ref c) (hmT : (P, X.env.qual ++ "<lambda>") ∈ TT X.K) (hu : ∀ p ∈ TT X.K, p.1 = P → p.2 = X.env.qual ++ "<lambda>") (hr : Room (k + 2) X.A) (L : LamP X.env.scope scope z) (hzN : z ∉ X.N) (hdef : params.defaults = [.Constant (.int i0) k0 p0]) (hkd : params.kw_defaults = [])
    (hbind : ∀ (q : Str) (cl : List (Str × Addr)) (T : Addr) (doc pm cv ctv : Value) (tk0 : Tok), ∃ kk, bindArgs (PySem.W.kdv_fn "<lambda>" q params (.expr body) scope cl (.ref T) doc pm cv ctv) ⟨[], []⟩ = seqItems? (.ref T) >>= kk ∧ kk (some #[.int i0 tk0]) = pure [(z, .int i0 tk0)])
    (hbody : ∀ (A : Around) (outer : List Env) (s : Shared) (H : Hp) (E : XK) (f c' : Addr), Room k (A.deeper (lamEnv X scope s.heap.objs.size f c')) → PE (lamCx X A outer s H E scope f c') body (t E)) :
    PE X (.Call (.Name "_law_told" p) [.Lambda params body scope lpos] [] pos) (tLam (TT X.K) (TTold5 X.K) t) := by
  obtain ⟨g, fd, F, hm⟩ := fx.d__law_told
  have bb := F.binds (ps := ["call"]) fun _ _ _ _ _ _ us hl => match us, hl with | [_], _ => rfl
  obtain ⟨oc, od, kV, doc, pm, an, cdv, ct, osl, rfl, lk, hcd⟩ := F.ex
  exact pe_lamcallD hg hm F.kp lk hcd bb sc__law_told rfl (.inl rfl) (told5 fx) TB hcode hmT hu hr L hzN hdef hkd hbind hbody
end
end
section
open PySem Spec PyProof.Rows L2
/-! ### the length of what repr shows of a term -/
open StrLaws
theorem join_len (x : Str) : ∀ (y : Str) (r : List Str), (Str.join ", " (x :: y :: r)).length = x.length + 2 + (Str.join ", " (y :: r)).length := fun y r => by
  show (x ++ ", " ++ Str.join ", " (y :: r)).length = _
  rw [strLen_append, strLen_append]
  rfl
theorem join_one (x : Str) : (Str.join ", " [x]).length = x.length := rfl
theorem shown2 (a b : PyData) : (PyData.tuple [a, b]).shown.length = a.shown.length + b.shown.length + 4 := by
  rw [PyData.shown_tuple, strLen_append, strLen_append, PyData.shownAll_cons, PyData.shownAll_cons, PyData.shownAll_nil, join_len, join_one]
  show 1 + (_ + 2 + _) + 1 = _
  omega
theorem shown3 (a b c : PyData) : (PyData.tuple [a, b, c]).shown.length = a.shown.length + b.shown.length + c.shown.length + 6 := by
  rw [PyData.shown_tuple, strLen_append, strLen_append, PyData.shownAll_cons, PyData.shownAll_cons, PyData.shownAll_cons, PyData.shownAll_nil, join_len, join_len, join_one]
  show 1 + (_ + 2 + (_ + 2 + _)) + 1 = _
  omega
theorem shown5 (a b c d e : PyData) : (PyData.tuple [a, b, c, d, e]).shown.length = a.shown.length + b.shown.length + c.shown.length + d.shown.length + e.shown.length + 10 := by
  rw [PyData.shown_tuple, strLen_append, strLen_append, PyData.shownAll_cons, PyData.shownAll_cons, PyData.shownAll_cons, PyData.shownAll_cons, PyData.shownAll_cons, PyData.shownAll_nil, join_len, join_len, join_len, join_len, join_one]
  show 1 + (_ + 2 + (_ + 2 + (_ + 2 + (_ + 2 + _)))) + 1 = _
  omega
theorem w4_len (w : W4) : 4 ≤ (PyData.str w.txt).shown.length := by cases w <;> decide +kernel
theorem w2_len (w : W2) : 4 ≤ (PyData.str w.txt).shown.length := by cases w <;> decide +kernel
theorem b3_len (w : B3) : 6 ≤ (PyData.str w.txt).shown.length := by cases w <;> decide +kernel
theorem short_len : (PyData.str "short").shown.length = 7 := by decide +kernel
theorem times_len : (PyData.str "times").shown.length = 7 := by decide +kernel
theorem if_len : (PyData.str "if").shown.length = 4 := by decide +kernel
/-- a term that is shown by few signs is small -/
theorem shown_small : ∀ t : T, 8 * t.wds ≤ t.data.shown.length ∧ 11 * t.hgt ≤ t.data.shown.length + 3
  | .lf w n => by
    have := w4_len w
    simp only [T.data, shown2, T.wds, T.hgt]
    omega
  | .l2 w d n => by
    have := w2_len w
    simp only [T.data, shown3, T.wds, T.hgt]
    omega
  | .un s => by
    have h := shown_small s
    simp only [T.data, shown2, T.wds, T.hgt, short_len]
    omega
  | .tm s n => by
    have h := shown_small s
    simp only [T.data, shown3, T.wds, T.hgt, times_len]
    omega
  | .bi w s t => by
    have h1 := shown_small s
    have h2 := shown_small t
    have := b3_len w
    simp only [T.data, shown3, T.wds, T.hgt]
    omega
  | .ite d n s t => by
    have h1 := shown_small s
    have h2 := shown_small t
    have h3 := wds_pos s
    have h4 := wds_pos t
    simp only [T.data, shown5, T.wds, T.hgt, if_len]
    omega
/-! ### repr of a term fits -/
theorem int_small {n : Int} (h : n.natAbs ≤ 1000) : (PyData.int n).weight ≤ 1001 ∧ (PyData.int n).intsShort 13 = true ∧ (PyData.int n).showable = true := by
  have h1 : n.natAbs.log2 ≤ n.natAbs := Nat.log2_le_self _
  refine ⟨?_, ?_, ?_⟩
  · simp only [PyData.weight]
    split <;> omega
  · simp only [PyData.intsShort, decide_eq_true_eq]
    exact PyData.shown_int_le (by omega)
  · simp only [PyData.showable, decide_eq_true_eq]
    omega
theorem mark_small {n : Int} (h : T.markNo n = true) : n.natAbs ≤ 1000 := by
  have := of_decide_eq_true (show decide (-1000 ≤ n ∧ n ≤ 1000) = true from h)
  omega
theorem day_small {n : Int} (h : T.dayNo n = true) : n.natAbs ≤ 1000 := by
  have := of_decide_eq_true (show decide (0 ≤ n ∧ n ≤ 3) = true from h)
  omega
theorem w4_w (w : W4) : (PyData.str w.txt).weight ≤ 8 := by cases w <;> decide +kernel
theorem w2_w (w : W2) : (PyData.str w.txt).weight ≤ 8 := by cases w <;> decide +kernel
theorem b3_w (w : B3) : (PyData.str w.txt).weight ≤ 8 := by cases w <;> decide +kernel
theorem sh_w : (PyData.str "short").weight = 5 := by decide +kernel
theorem tm_w : (PyData.str "times").weight = 5 := by decide +kernel
theorem if_w : (PyData.str "if").weight = 2 := by decide +kernel
theorem T.fit : ∀ t : T, allT T.own t = true → t.data.weight ≤ 2100 * t.wds ∧ t.data.intsShort 13 = true ∧ t.data.showable = true
  | .lf w n, h => by
    have hn : n.natAbs ≤ 1000 := by
      cases w with
      | cash => exact mark_small h
      | _ => exact day_small h
    obtain ⟨a1, a2, a3⟩ := int_small hn
    have := w4_w w
    refine ⟨?_, ?_, ?_⟩
    · have e : (T.lf w n).data.weight = (PyData.str w.txt).weight + 1 + ((PyData.int n).weight + 1 + 0) := by simp only [T.data, PyData.weight, PyData.weightAll]
      rw [e, T.wds]
      omega
    · simp only [T.data, PyData.intsShort, PyData.intsShortAll, Bool.and_true, Bool.true_and]
      exact a2
    · simp only [T.data, PyData.showable, PyData.showableAll, Bool.and_true, Bool.true_and]
      exact a3
  | .l2 w d n, h => by
    simp only [allT, T.own, Bool.and_eq_true] at h
    obtain ⟨a1, a2, a3⟩ := int_small (day_small h.1)
    obtain ⟨b1, b2, b3⟩ := int_small (mark_small h.2)
    have := w2_w w
    refine ⟨?_, ?_, ?_⟩
    · have e : (T.l2 w d n).data.weight = (PyData.str w.txt).weight + 1 + ((PyData.int d).weight + 1 + ((PyData.int n).weight + 1 + 0)) := by simp only [T.data, PyData.weight, PyData.weightAll]
      rw [e, T.wds]
      omega
    · simp only [T.data, PyData.intsShort, PyData.intsShortAll, Bool.and_true, Bool.true_and, Bool.and_eq_true]
      exact ⟨a2, b2⟩
    · simp only [T.data, PyData.showable, PyData.showableAll, Bool.and_true, Bool.true_and, Bool.and_eq_true]
      exact ⟨a3, b3⟩
  | .un s, h => by
    simp only [allT, Bool.and_eq_true] at h
    obtain ⟨a1, a2, a3⟩ := T.fit s h.2
    have := sh_w
    refine ⟨?_, ?_, ?_⟩
    · have e : (T.un s).data.weight = (PyData.str "short").weight + 1 + (s.data.weight + 1 + 0) := by simp only [T.data, PyData.weight, PyData.weightAll]
      rw [e, T.wds]
      omega
    · simp only [T.data, PyData.intsShort, PyData.intsShortAll, Bool.and_true, Bool.true_and]
      exact a2
    · simp only [T.data, PyData.showable, PyData.showableAll, Bool.and_true, Bool.true_and]
      exact a3
  | .tm s n, h => by
    simp only [allT, T.own, Bool.and_eq_true] at h
    obtain ⟨a1, a2, a3⟩ := T.fit s h.2
    obtain ⟨b1, b2, b3⟩ := int_small (mark_small h.1)
    have := tm_w
    refine ⟨?_, ?_, ?_⟩
    · have e : (T.tm s n).data.weight = (PyData.str "times").weight + 1 + (s.data.weight + 1 + ((PyData.int n).weight + 1 + 0)) := by simp only [T.data, PyData.weight, PyData.weightAll]
      rw [e, T.wds]
      omega
    · simp only [T.data, PyData.intsShort, PyData.intsShortAll, Bool.and_true, Bool.true_and, Bool.and_eq_true]
      exact ⟨a2, b2⟩
    · simp only [T.data, PyData.showable, PyData.showableAll, Bool.and_true, Bool.true_and, Bool.and_eq_true]
      exact ⟨a3, b3⟩
  | .bi w s t, h => by
    simp only [allT, Bool.and_eq_true] at h
    obtain ⟨a1, a2, a3⟩ := T.fit s h.2.1
    obtain ⟨b1, b2, b3⟩ := T.fit t h.2.2
    have := b3_w w
    refine ⟨?_, ?_, ?_⟩
    · have e : (T.bi w s t).data.weight = (PyData.str w.txt).weight + 1 + (s.data.weight + 1 + (t.data.weight + 1 + 0)) := by simp only [T.data, PyData.weight, PyData.weightAll]
      rw [e, T.wds]
      omega
    · simp only [T.data, PyData.intsShort, PyData.intsShortAll, Bool.and_true, Bool.true_and, Bool.and_eq_true]
      exact ⟨a2, b2⟩
    · simp only [T.data, PyData.showable, PyData.showableAll, Bool.and_true, Bool.true_and, Bool.and_eq_true]
      exact ⟨a3, b3⟩
  | .ite d n s t, h => by
    simp only [allT, T.own, Bool.and_eq_true] at h
    obtain ⟨a1, a2, a3⟩ := T.fit s h.2.1
    obtain ⟨b1, b2, b3⟩ := T.fit t h.2.2
    obtain ⟨c1, c2, c3⟩ := int_small (day_small h.1.1)
    obtain ⟨d1, d2, d3⟩ := int_small (mark_small h.1.2)
    have := if_w
    refine ⟨?_, ?_, ?_⟩
    · have e : (T.ite d n s t).data.weight = (PyData.str "if").weight + 1 + ((PyData.int d).weight + 1 + ((PyData.int n).weight + 1 + (s.data.weight + 1 + (t.data.weight + 1 + 0)))) := by simp only [T.data, PyData.weight, PyData.weightAll]
      rw [e, T.wds]
      omega
    · simp only [T.data, PyData.intsShort, PyData.intsShortAll, Bool.and_true, Bool.true_and, Bool.and_eq_true]
      exact ⟨c2, d2, a2, b2⟩
    · simp only [T.data, PyData.showable, PyData.showableAll, Bool.and_true, Bool.true_and, Bool.and_eq_true]
      exact ⟨c3, d3, a3, b3⟩
/-- a list of terms may be shown -/
theorem terms_fit (ts : List T) (hl : ts.length ≤ 21) (h : ∀ t ∈ ts, allT T.own t = true ∧ t.wds ≤ 20 ∧ t.hgt ≤ 8) : (PyData.list (ts.map T.data)).depth ≤ 64 ∧ (PyData.list (ts.map T.data)).showable = true ∧ (PyData.list (ts.map T.data)).shown.length ≤ sizeLine := by
  have key : ∀ ts : List T, (∀ t ∈ ts, allT T.own t = true ∧ t.wds ≤ 20 ∧ t.hgt ≤ 8) → PyData.canLayAll0 (ts.map T.data) = true ∧ PyData.depthAll (ts.map T.data) ≤ 9 ∧ PyData.weightAll (ts.map T.data) ≤ 42001 * ts.length ∧ PyData.intsShortAll 13 (ts.map T.data) = true ∧ PyData.showableAll (ts.map T.data) = true := fun ts => by
    induction ts with
    | nil => intro _; exact ⟨rfl, by simp [PyData.depthAll], by simp [PyData.weightAll], rfl, rfl⟩
    | cons t ts ih =>
      intro h
      obtain ⟨h1, h2, h3⟩ := h t List.mem_cons_self
      obtain ⟨a1, a2, a3, a4, a5⟩ := ih fun x hx => h x (List.mem_cons_of_mem _ hx)
      obtain ⟨b1, b2, b3⟩ := T.fit t h1
      have d1 := T.depth_eq t
      refine ⟨?_, ?_, ?_, ?_, ?_⟩
      · simp only [List.map_cons, PyData.canLayAll0, T.lay_eq, Bool.true_and]
        exact a1
      · simp only [List.map_cons, PyData.depthAll]
        omega
      · simp only [List.map_cons, PyData.weightAll, List.length_cons]
        omega
      · simp only [List.map_cons, PyData.intsShortAll, Bool.and_eq_true]
        exact ⟨b2, a4⟩
      · simp only [List.map_cons, PyData.showableAll, Bool.and_eq_true]
        exact ⟨b3, a5⟩
  obtain ⟨a1, a2, a3, a4, a5⟩ := key ts h
  have hd : (PyData.list (ts.map T.data)).depth ≤ 64 := by simp only [PyData.depth]; omega
  refine ⟨hd, by simp only [PyData.showable]; exact a5, PyData.shown_fits_of_layable0 (B := 13) (by decide) (by decide) ?_ (by simp only [PyData.intsShort]; exact a4)⟩
  unfold PyData.layable0
  rw [Bool.and_eq_true, Bool.and_eq_true]
  refine ⟨⟨by simp only [PyData.canLay0]; exact a1, decide_eq_true hd⟩, decide_eq_true ?_⟩
  simp only [PyData.weight]
  have : (2 : Nat) ^ 20 = 1048576 := by decide
  omega
end
section
open PySem Spec PyProof.Rows L2
open LamX
/-! ### the names that may be drawn -/
theorem nodup_le {α : Type} [DecidableEq α] : ∀ {l m : List α}, l.Nodup → (∀ x ∈ l, x ∈ m) → l.length ≤ m.length
  | [], _, _, _ => Nat.zero_le _
  | a :: l, m, h, hs => by
    rw [List.nodup_cons] at h
    have ha := hs a List.mem_cons_self
    have h1 := nodup_le (l := l) (m := m.erase a) h.2 fun x hx => (List.mem_erase_of_ne (fun z => h.1 (by rw [← z]; exact hx))).mpr (hs x (List.mem_cons_of_mem _ hx))
    rw [List.length_erase_of_mem ha] at h1
    have := List.length_pos_of_mem ha
    rw [List.length_cons]
    omega
/-- the names that a deed may draw -/
def nameL : List Str := ["a", "b", "ab", "z", "zzzzzzzz", "m"]
/-- a term that may stand in a greater one -/
def wfS (t : T) : Prop := wfT t ∧ t.wds ≤ 9 ∧ t.hgt ≤ 7
structure OwnW (own : Own) : Prop where
  wfs : ∀ e ∈ own, wfS e.2
  nd : (names own).Nodup
  sub : ∀ y ∈ names own, y ∈ nameL
theorem OwnW.wf {own : Own} (h : OwnW own) : ∀ e ∈ own, wfT e.2 := fun e he => (h.wfs e he).1
theorem OwnW.ok {own : Own} (h : OwnW own) : OwnOk own ∧ own.length ≤ 6 := by
  have h1 : (names own).length ≤ nameL.length := nodup_le h.nd h.sub
  unfold names at h1
  rw [List.length_map] at h1
  exact ⟨⟨Nat.le_trans h1 (by decide), h.wf⟩, h1⟩
theorem names_drop (own : Own) (l : Str) : names (dropN own l) = (names own).filter fun y => decide (y ≠ l) := by
  unfold names dropN
  rw [List.filter_map]
  rfl
theorem names_put (own : Own) (l : Str) (t : T) : names (putN own l t) = if l ∈ names own then names own else names own ++ [l] := by
  unfold names putN
  by_cases h : (own.any fun e => decide (e.1 = l)) = true
  · have hm : l ∈ own.map (·.1) := by
      obtain ⟨e, h1, h2⟩ := List.any_eq_true.mp h
      exact List.mem_map.mpr ⟨e, h1, of_decide_eq_true h2⟩
    rw [if_pos h, if_pos hm, List.map_map]
    refine List.map_congr_left fun e _ => ?_
    show (if e.1 = l then (e.1, t) else e).1 = e.1
    split <;> rfl
  · have hm : ¬ l ∈ own.map (·.1) := fun z => by
      obtain ⟨e, h1, h2⟩ := List.mem_map.mp z
      exact h (List.any_eq_true.mpr ⟨e, h1, decide_eq_true h2⟩)
    rw [if_neg h, if_neg hm, List.map_append]
    rfl
theorem OwnW.drop {own : Own} (h : OwnW own) (l : Str) : OwnW (dropN own l) := by
  refine ⟨fun e he => h.wfs e (List.mem_filter.mp he).1, ?_, fun y hy => ?_⟩
  · rw [names_drop]
    exact h.nd.sublist List.filter_sublist
  · rw [names_drop] at hy
    exact h.sub y (List.mem_filter.mp hy).1
theorem OwnW.put {own : Own} (h : OwnW own) {l : Str} {t : T} (hl : l ∈ nameL) (ht : wfS t) : OwnW (putN own l t) := by
  refine ⟨fun e he => ?_, ?_, fun y hy => ?_⟩
  · unfold putN at he
    split at he
    · obtain ⟨x, hx, rfl⟩ := List.mem_map.mp he
      by_cases hk : x.1 = l
      · rw [if_pos hk]; exact ht
      · rw [if_neg hk]; exact h.wfs x hx
    · rcases List.mem_append.mp he with z | z
      · exact h.wfs e z
      · rw [List.mem_singleton.mp z]; exact ht
  · rw [names_put]
    split
    · exact h.nd
    · rename_i hn
      refine List.nodup_append.mpr ⟨h.nd, by simp, fun a ha b hb => ?_⟩
      rw [List.mem_singleton.mp hb]
      exact fun z => hn (by rw [← z]; exact ha)
  · rw [names_put] at hy
    split at hy
    · exact h.sub y hy
    · rcases List.mem_append.mp hy with z | z
      · exact h.sub y z
      · rw [List.mem_singleton.mp z]; exact hl
theorem miss_fits {nm : Str} (h : nm ∈ nameL) : (PyData.tuple [.str "missing", .str nm]).shown.length ≤ sizeLine := by
  have : (PyData.tuple [.str "missing", .str nm]).shown.length ≤ 100 := by
    simp only [nameL, List.mem_cons, List.not_mem_nil, or_false] at h
    rcases h with rfl | rfl | rfl | rfl | rfl | rfl <;> decide +kernel
  rw [sizeLine_eq]
  omega
/-! ### data that may be shown -/
def Fits (d : PyData) : Prop := d.depth ≤ 64 ∧ d.showable = true ∧ d.shown.length ≤ sizeLine
theorem fits_of {d : PyData} (h0 : d.canLay0 = true) (h1 : d.depth ≤ 64) (h2 : d.weight ≤ 1000000) (h3 : d.showable = true) (h4 : d.intsShort 13 = true) : Fits d := by
  refine ⟨h1, h3, PyData.shown_fits_of_layable0 (B := 13) (by decide) (by decide) ?_ h4⟩
  unfold PyData.layable0
  rw [Bool.and_eq_true, Bool.and_eq_true]
  refine ⟨⟨h0, decide_eq_true h1⟩, decide_eq_true ?_⟩
  have : (2 : Nat) ^ 20 = 1048576 := by decide
  omega
/-- small data: how deep, how heavy -/
structure SmA (ds : List PyData) (k n : Nat) : Prop where
  lay : PyData.canLayAll0 ds = true
  dep : PyData.depthAll ds ≤ k
  wei : PyData.weightAll ds ≤ n
  sho : PyData.showableAll ds = true
  ish : PyData.intsShortAll 13 ds = true
theorem SmA.nil {k n : Nat} : SmA [] k n := ⟨rfl, by simp [PyData.depthAll], by simp [PyData.weightAll], rfl, rfl⟩
theorem SmA.cons {d : PyData} {ds : List PyData} {k n m : Nat} (h0 : d.canLay0 = true) (h1 : d.depth ≤ k) (h2 : d.weight ≤ m) (h3 : d.showable = true) (h4 : d.intsShort 13 = true) (h : SmA ds k n) : SmA (d :: ds) k (m + 1 + n) := by
  obtain ⟨a1, a2, a3, a4, a5⟩ := h
  refine ⟨?_, ?_, ?_, ?_, ?_⟩
  · simp only [PyData.canLayAll0, Bool.and_eq_true]; exact ⟨h0, a1⟩
  · simp only [PyData.depthAll]; omega
  · simp only [PyData.weightAll]; omega
  · simp only [PyData.showableAll, Bool.and_eq_true]; exact ⟨h3, a4⟩
  · simp only [PyData.intsShortAll, Bool.and_eq_true]; exact ⟨h4, a5⟩
theorem SmA.tup {d : PyData} {es ds : List PyData} {k n m : Nat} (e : d = .tuple es ∨ d = .list es) (g : SmA es k m) (h : SmA ds (k + 1) n) : SmA (d :: ds) (k + 1) (m + 1 + n) := by
  obtain ⟨a1, a2, a3, a4, a5⟩ := g
  rcases e with rfl | rfl
  · exact .cons (by simp only [PyData.canLay0]; exact a1) (by simp only [PyData.depth]; omega) (by simp only [PyData.weight]; exact a3) (by simp only [PyData.showable]; exact a4) (by simp only [PyData.intsShort]; exact a5) h
  · exact .cons (by simp only [PyData.canLay0]; exact a1) (by simp only [PyData.depth]; omega) (by simp only [PyData.weight]; exact a3) (by simp only [PyData.showable]; exact a4) (by simp only [PyData.intsShort]; exact a5) h
theorem SmA.fits {d : PyData} {es : List PyData} {k n : Nat} (e : d = .tuple es ∨ d = .list es) (g : SmA es k n) (hk : k ≤ 63) (hn : n ≤ 1000000) : Fits d ∧ SeqAt.shaped d = true ∧ PyData.eqv d d = true := by
  obtain ⟨a1, a2, a3, a4, a5⟩ := g
  have h0 : d.canLay0 = true := by rcases e with rfl | rfl <;> (simp only [PyData.canLay0]; exact a1)
  have h1 : d.depth ≤ 64 := by rcases e with rfl | rfl <;> (simp only [PyData.depth]; omega)
  refine ⟨fits_of h0 h1 ?_ ?_ ?_, ?_, SeqAt.eqv_refl d h0⟩
  · rcases e with rfl | rfl <;> (simp only [PyData.weight]; omega)
  · rcases e with rfl | rfl <;> (simp only [PyData.showable]; exact a4)
  · rcases e with rfl | rfl <;> (simp only [PyData.intsShort]; exact a5)
  · unfold SeqAt.shaped
    rw [h0, decide_eq_true h1]
    rfl
theorem nm_ok {x : Str} (h : x ∈ nameL) : (PyData.str x).canLay0 = true ∧ (PyData.str x).weight ≤ 8 := by
  simp only [nameL, List.mem_cons, List.not_mem_nil, or_false] at h
  rcases h with rfl | rfl | rfl | rfl | rfl | rfl <;> decide +kernel
theorem sm_nm {x : Str} {ds : List PyData} {k n : Nat} (h : x ∈ nameL) (g : SmA ds (k + 1) n) : SmA (.str x :: ds) (k + 1) (8 + 1 + n) := by
  obtain ⟨h1, h2⟩ := nm_ok h
  exact .cons h1 (by simp only [PyData.depth]; omega) h2 rfl rfl g
theorem sm_names : ∀ ys : List Str, (∀ y ∈ ys, y ∈ nameL) → SmA (ys.map .str) 1 (9 * ys.length)
  | [], _ => .nil
  | y :: ys, h => by
    have ih := sm_names ys fun x hx => h x (List.mem_cons_of_mem _ hx)
    have := sm_nm (h y List.mem_cons_self) ih
    rw [List.length_cons, show 9 * (ys.length + 1) = 8 + 1 + 9 * ys.length by omega]
    exact this
def pairD (e : Str × Str) : PyData := .tuple [.str e.1, .str e.2]
theorem sm_pairs : ∀ ps : List (Str × Str), (∀ e ∈ ps, e.1 ∈ nameL ∧ e.2 ∈ nameL) → SmA (ps.map pairD) 2 (20 * ps.length)
  | [], _ => .nil
  | e :: ps, h => by
    have ih := sm_pairs ps fun x hx => h x (List.mem_cons_of_mem _ hx)
    have he := h e List.mem_cons_self
    have h1 : SmA [.str e.1, .str e.2] 1 18 := sm_nm (k := 0) (n := 9) he.1 (sm_nm (k := 0) (n := 0) he.2 .nil)
    have := SmA.tup (d := pairD e) (.inl rfl) h1 ih
    rw [List.length_cons, show 20 * (ps.length + 1) = 18 + 1 + 20 * ps.length + 1 by omega]
    refine ⟨this.lay, this.dep, Nat.le_succ_of_le this.wei, this.sho, this.ish⟩
/-! ### the pairs of labels whose terms have one claim -/
def rowW (dss : List (List Int)) (own : Own) (y : Str) (r : List Str) : List (Str × Str) := match claimAt dss own y with
  | some c => (r.filter fun x => decide (claimAt dss own x = some c)).map fun x => (y, x)
  | none => []
def pairsW (dss : List (List Int)) (own : Own) : List Str → List (Str × Str)
  | [] => []
  | y :: r => rowW dss own y r ++ pairsW dss own r
def alikeR : List (Str × List Int) → List (Str × Str)
  | [] => []
  | e :: r => rowL e r ++ alikeR r
theorem alikeL_eq (cs : List (Str × List Int)) : alikeL cs = alikeR cs := by
  induction cs with
  | nil => rfl
  | cons e r ih =>
    have h : alikeN (e :: r) (r.length + 1) = rowL e r ++ alikeN r r.length := by
      unfold alikeN
      rw [List.range_succ_eq_map, List.flatMap_cons, List.flatMap_map]
      rfl
    show alikeN (e :: r) (r.length + 1) = rowL e r ++ alikeR r
    rw [h, ← ih]
    rfl
theorem claimsL_cons (dss : List (List Int)) (own : Own) (y : Str) (r : List Str) : claimsL dss own (y :: r) = (match claimAt dss own y with
    | some c => [(y, c)]
    | none => []) ++ claimsL dss own r := by
  unfold claimsL
  rw [List.filterMap_cons]
  cases claimAt dss own y <;> rfl
theorem rowW_eq (dss : List (List Int)) (own : Own) {y : Str} {c : List Int} (h : claimAt dss own y = some c) (r : List Str) : rowW dss own y r = rowL (y, c) (claimsL dss own r) := by
  unfold rowW
  rw [h]
  show (r.filter fun x => decide (claimAt dss own x = some c)).map (fun x => (y, x)) = _
  induction r with
  | nil => rfl
  | cons x r ih =>
    rw [claimsL_cons, List.filter_cons]
    cases hx : claimAt dss own x with
    | none =>
      rw [if_neg (by simp)]
      exact ih
    | some d =>
      show _ = rowL (y, c) ((x, d) :: claimsL dss own r)
      unfold rowL at ih ⊢
      rw [List.filter_cons]
      by_cases e : d = c
      · rw [if_pos (by simp [e]), if_pos (by simp [e]), List.map_cons, List.map_cons, ih]
      · rw [if_neg (by simp [e]), if_neg (by simp [e]), ih]
theorem pairsW_eq (dss : List (List Int)) (own : Own) (ys : List Str) : pairsW dss own ys = alikeL (claimsL dss own ys) := by
  rw [alikeL_eq]
  induction ys with
  | nil => rfl
  | cons y r ih =>
    rw [claimsL_cons]
    show rowW dss own y r ++ pairsW dss own r = _
    cases h : claimAt dss own y with
    | none =>
      rw [ih]
      unfold rowW
      rw [h]
      rfl
    | some c =>
      rw [ih, rowW_eq dss own h]
      rfl
theorem rowW_mem (dss : List (List Int)) (own : Own) (y : Str) (r : List Str) : ∀ e ∈ rowW dss own y r, e.1 = y ∧ e.2 ∈ r := by
  intro e he
  unfold rowW at he
  cases h : claimAt dss own y with
  | none => rw [h] at he; cases he
  | some c =>
    rw [h] at he
    obtain ⟨x, hx, rfl⟩ := List.mem_map.mp he
    exact ⟨rfl, (List.mem_filter.mp hx).1⟩
theorem pairsW_mem (dss : List (List Int)) (own : Own) : ∀ ys : List Str, ∀ e ∈ pairsW dss own ys, e.1 ∈ ys ∧ e.2 ∈ ys
  | [], e, he => by cases he
  | y :: r, e, he => by
    rcases List.mem_append.mp he with h | h
    · obtain ⟨h1, h2⟩ := rowW_mem dss own y r e h
      exact ⟨by rw [h1]; exact List.mem_cons_self, List.mem_cons_of_mem _ h2⟩
    · obtain ⟨h1, h2⟩ := pairsW_mem dss own r e h
      exact ⟨List.mem_cons_of_mem _ h1, List.mem_cons_of_mem _ h2⟩
theorem rowW_len (dss : List (List Int)) (own : Own) (y : Str) (r : List Str) : (rowW dss own y r).length ≤ r.length := by
  unfold rowW
  cases claimAt dss own y with
  | none => simp
  | some c =>
    show ((r.filter _).map _).length ≤ _
    rw [List.length_map]
    exact List.length_filter_le _ _
theorem pairsW_len (dss : List (List Int)) (own : Own) : ∀ ys : List Str, (pairsW dss own ys).length ≤ ys.length * ys.length
  | [] => Nat.le_refl _
  | y :: r => by
    have h1 := rowW_len dss own y r
    have h2 := pairsW_len dss own r
    show (rowW dss own y r ++ pairsW dss own r).length ≤ (r.length + 1) * (r.length + 1)
    rw [List.length_append, Nat.add_mul, Nat.mul_add]
    omega
theorem geAll_swap : ∀ a c : List Int, (c.zip a).all (fun p => !decide (p.2 < p.1)) = geAll a c
  | [], c => by cases c <;> rfl
  | _ :: _, [] => rfl
  | x :: a, y :: c => by
    have ih := geAll_swap a c
    unfold geAll at ih ⊢
    rw [List.zip_cons_cons, List.zip_cons_cons, List.all_cons, List.all_cons, ih]
    congr 1
    by_cases h : x < y
    · rw [decide_eq_true h, decide_eq_false (by omega)]; rfl
    · rw [decide_eq_false h, decide_eq_true (by show x ≥ y; omega)]; rfl
/-- the claims' names, in order -/
theorem claims_sorted {dss : List (List Int)} {own : Own} {ys zs : List Str} (h : sortedS ys = true) (hp : zs.Perm ((claimsL dss own ys).map (·.1))) (hz : sortedS zs = true) : zs = (claimsL dss own ys).map (·.1) :=
  List.Perm.eq_of_pairwise (le := leS) (fun a b _ _ x y => str_ext (ltCps_tri y x)) (sortedS_pw hz) ((sortedS_pw h).sublist (claimsL_names dss own ys)) hp
theorem eqv_lists (as bs : List Int) : PyData.eqv (.list (as.map .int)) (.list (bs.map .int)) = decide (as = bs) := by
  have := eqv_rows as bs
  simpa [PyData.eqv] using this
theorem join {TT : VK → Prop} {Q : VK} (R : VK) (hT : ∀ Q' : VK, (∀ v H', R v H' → Q' v H') → TT Q') (h : ∀ v H', R v H' → Q v H') : TT Q := hT Q h
theorem T.fits {t : T} (h : wfT t) : Fits t.data := by
  obtain ⟨a1, a2, a3⟩ := T.fit t (by rw [← allOwn_allT]; exact h.2.2)
  have h1 := h.1
  have h2 := h.2.1
  exact fits_of (T.lay_eq t) (by rw [T.depth_eq]; omega) (by omega) a3 a2
end
section
open PySem Spec PyProof.Rows L2
open LamX
/-! ### what is read stays where all but tables stays -/
section
variable {K : PySem.W.Frag} {H H' : Hp}
theorem Fr.at0 (f : Fr K [] H H') {b : Addr} {o : HO} (h : H b = some o) (n : ∀ ps, o ≠ .tbl ps) : H' b = some o := f.kp b o (by simp) h n
theorem TyX.fr {v : V} {t : Value} (h : TyX K H v t) (f : Fr K [] H H') : TyX K H' v t := by
  cases h with
  | base h =>
    refine .base ?_
    cases h with
    | non => exact .non
    | bl x => exact .bl x
    | int x => exact .int x
    | str x => exact .str x
    | flt x => exact .flt x
    | lst h => exact .lst (f.at0 h fun _ z => by cases z)
    | frz h => exact .frz (f.at0 h fun _ z => by cases z)
    | tup h => exact .tup (f.at0 h fun _ z => by cases z)
    | dK h => exact .dK (f.at0 h fun _ z => by cases z)
    | dT h => exact .dT (f.at0 h fun _ z => by cases z)
    | ins h c1 c2 c3 c4 c5 => exact .ins (f.at0 h fun _ z => by cases z) c1 c2 c3 c4 c5
  | byt b => exact .byt b
  | set h => exact .set (f.at0 h fun _ z => by cases z)
  | kList h c => exact .kList h c
  | kTuple h c => exact .kTuple h c
  | kDict h c => exact .kDict h c
  | fTuple h => exact .fTuple (f.at0 h fun _ z => by cases z)
  | fDict h => exact .fDict (f.at0 h fun _ z => by cases z)
theorem LabV.fr {v : V} {b : Bool} (h : LabV K H v b) (f : Fr K [] H H') : LabV K H' v b := by
  cases h with
  | str x h => exact .str x h
  | oth h k => exact .oth (TyX.fr h f) k
theorem DaysV.fr {v : V} {b : Bool} (h : DaysV K H v b) (f : Fr K [] H H') : DaysV K H' v b := by
  cases h with
  | tup h h1 h2 => exact .tup (h.tk f.tk) h1 h2
  | oth h k => exact .oth (TyX.fr h f) k
theorem There.fr {own : Own} {v : V} {o : Option T} (h : There K H own v o) (f : Fr K [] H H') : There K H' own v o := by
  cases h with
  | bad h => exact .bad (h.fr f)
  | out h hl => exact .out (h.fr f) hl
  | at_ h hl => exact .at_ (h.fr f) hl
mutual
theorem Dx.fr (f : Fr K [] H H') : ∀ (d : PyData) (v : V), Dx K H v d → Dx K H' v d
  | .none, _, h => by cases h; exact .non
  | .bool b, _, h => by cases h; exact .bl b
  | .int i, _, h => by cases h; exact .int i
  | .str x, _, h => by cases h; exact .str x
  | .list ds, _, h => by
    cases h with
    | lst hl ha => exact .lst (f.sqL (by simp) hl) (Dx.frA f ds _ ha)
  | .tuple ds, _, h => by
    cases h with
    | tup hl ha => exact .tup (f.tup hl) (Dx.frA f ds _ ha)
  | .dict [], _, h => by
    cases h with
    | dct hl => exact .dct (f.at0 hl fun _ z => by cases z)
  | .dict (_ :: _), _, h => by cases h
theorem Dx.frA (f : Fr K [] H H') : ∀ (ds : List PyData) (vs : List V), DxAll K H vs ds → DxAll K H' vs ds
  | [], _, h => by cases h; exact .nil
  | d :: ds, _, h => by
    cases h with
    | cons h1 h2 => exact .cons (Dx.fr f d _ h1) (Dx.frA f ds _ h2)
end
end
/-! ### what a call tells -/
section
variable {K : PySem.W.Frag} {H : Hp} {σ : L2.St} {Q : VK}
/-- it tells an error -/
theorem r_toldE {t : XK → TE} (tg : Str × Str × Str) (htg : tg ∈ toldL) (Pv : Hp → V → Prop) (hP : ∀ H H' v, Fr K [] H H' → Pv H v → Pv H' v) (hT : Tabs (TT K) H)
    (h : ∀ H6 E Q1, Fr K [] H H6 → (∀ H7 v, Fr K [] H6 H7 → Pv H7 v → Raised E H7 (He.ga K tg.1) tg.2.1 v) → t E σ H6 Q1)
    (hq : ∀ H9 p v, Fr K [] H H9 → Pv H9 v → SqT K H9 p [.str tg.2.2, v] → Q (.ref p) H9) : tLam (TT K) (TTold5 K) t σ H Q := by
  refine ⟨hT, fun H5 eN5 T5 H6 Q1 e6 _ => ?_⟩
  have f6 : Fr K [] H H6 := (Fr.ofN eN5 T5).trans e6.fr
  refine h H6 _ Q1 f6 fun H7 v f7 hv d H8 e8 _ hd8 => ⟨tg, v, d, htg, rfl, rfl, hd8, fun H9 p e9 hp => ?_⟩
  have f79 : Fr K [] H7 H9 := (e8.trans e9).fr
  exact hq H9 p v ((f6.trans f7).trans f79) (hP _ _ _ f79 hv) hp
/-- it tells an error of a value that is known -/
theorem r_toldV {t : XK → TE} (tg : Str × Str × Str) (htg : tg ∈ toldL) (v : V) (hT : Tabs (TT K) H)
    (h : ∀ H6 E Q1, Fr K [] H H6 → (∀ H7, Fr K [] H6 H7 → Raised E H7 (He.ga K tg.1) tg.2.1 v) → t E σ H6 Q1)
    (hq : ∀ H9 p, Fr K [] H H9 → SqT K H9 p [.str tg.2.2, v] → Q (.ref p) H9) : tLam (TT K) (TTold5 K) t σ H Q :=
  r_toldE tg htg (fun _ u => u = v) (fun _ _ _ _ h => h) hT (fun H6 E Q1 f hr => h H6 E Q1 f fun H7 f7 => hr H7 v f7 rfl) fun H9 p u f hu hp => by
    subst hu
    exact hq H9 p f hp
/-- it tells a value -/
theorem r_toldQ {t : XK → TE} (B : List Addr) (R : V → Hp → Prop) (hT : Tabs (TT K) H)
    (h : ∀ H6 E Q1, Fr K [] H H6 → (∀ u H7, Fr K B H6 H7 → R u H7 → Q1 u H7) → t E σ H6 Q1)
    (hq : ∀ H8 H9 p u, Fr K B H H8 → R u H8 → Ext H8 H9 → H9 p = some (.lst [u]) → Q (.ref p) H9) : tLam (TT K) (TTold5 K) t σ H Q := by
  refine ⟨hT, fun H5 eN5 T5 H6 Q1 e6 hQ1 => ?_⟩
  have f6 : Fr K [] H H6 := (Fr.ofN eN5 T5).trans e6.fr
  refine h H6 _ Q1 f6 fun u H7 f7 hu => hQ1 u H7 fun H9 p e9 hp => ?_
  exact hq H7 H9 p u ((f6.more (by simp)).trans f7) hu e9 hp
theorem r_repr {a : Addr} {d : PyData} (hd : Dx K H (.ref a) d) (hf : Fits d) (h : Q (.str d.shown) H) : rRepr K [.ref a] H Q := ⟨a, d, rfl, hd, hf.1, hf.2.1, hf.2.2, h⟩
theorem dx_strs : ∀ ys : List Str, DxAll K H (ys.map .str) (ys.map .str)
  | [] => .nil
  | y :: ys => .cons (.str y) (dx_strs ys)
theorem dp_strs : ∀ ys : List Str, DpAll K H (ys.map .str) (ys.map .str)
  | [] => .nil
  | y :: ys => .cons (.str y) (dp_strs ys)
theorem dx_pairs {qs : List Addr} {ps : List (Str × Str)} (h : PairsR K H qs ps) : DxAll K H (qs.map .ref) (ps.map pairD) := by
  induction h with
  | nil => exact .nil
  | cons hh _ ih => exact .cons (.tup hh (.cons (.str _) (.cons (.str _) .nil))) ih
theorem dp_pairs {qs : List Addr} {ps : List (Str × Str)} (h : PairsR K H qs ps) : DpAll K H (qs.map .ref) (ps.map pairD) := by
  induction h with
  | nil => exact .nil
  | cons hh _ ih => exact .cons (.tup hh (.cons (.str _) (.cons (.str _) .nil))) ih
theorem PairsAt.fr {H' : Hp} {B : List Addr} {p : Addr} {ps : List (Str × Str)} (h : PairsAt K H p ps) (f : Fr K B H H') : PairsAt K H' p ps := by
  obtain ⟨qs, h1, h2⟩ := h
  exact ⟨qs, f.tup h1, h2.tk f.tk⟩
theorem PairsAt.dx {p : Addr} {ps : List (Str × Str)} (h : PairsAt K H p ps) : Dx K H (.ref p) (.tuple (ps.map pairD)) := by
  obtain ⟨qs, h1, h2⟩ := h
  exact .tup h1 (dx_pairs h2)
theorem PairsAt.dp {p : Addr} {ps : List (Str × Str)} (h : PairsAt K H p ps) : Dp K H (.ref p) (.tuple (ps.map pairD)) := by
  obtain ⟨qs, h1, h2⟩ := h
  exact .tup h1 (dp_pairs h2)
end
section
variable {K : PySem.W.Frag} {H : Hp} {Q : VK} {E : XK}
/-- a good term is put -/
theorem r_put {sh D : Addr} {own : Own} {l : Str} {t : T} {v : V} (hs : ShAt K H sh D own) (hl : own.length ≤ 1000) (hlab : LabV K H (.str l) true) (ht : TR K H t v) (hw : wfT t) (hc : lookN own l = none → own.length ≠ 20) (h : ∀ H', Fr K [D] H H' → ShAt K H' sh D (putN own l t) → Q .non H') : spPut K [.ref sh, .str l, v] H Q E :=
  ⟨sh, D, own, .str l, v, rfl, hs, hl, .inr ⟨l, rfl, hlab, .inr ⟨t, ht, hw.1, hw.2.1, fun pth hp => absurd hp (firstBad_none hw.2.2), fun _ => ⟨fun h1 h20 => absurd h20 (hc h1), fun _ H' f hs' => h H' f hs'⟩⟩⟩⟩
theorem leaf_wf {w : W4} {n : Int} (h : T.own (.lf w n) = true) : wfT (.lf w n) := ⟨by simp only [T.wds]; omega, by simp only [T.hgt]; omega, by rw [allOwn_allT]; exact h⟩
theorem lab_of {x : Str} (h : labOk x = true ∧ x.length ≤ 1000) : LabV K H (.str x) true := by
  have := LabV.str (K := K) (H := H) x h.2
  rwa [h.1] at this
end
end
section
open PySem Spec PyProof.Rows L2
local macro_rules | `(tactic| walk_at "s") => `(tactic| first
  | with_reducible refine r_seq ?_
  | with_reducible refine r_next ?_
  | with_reducible refine r_asg ?_
  | with_reducible refine r_gname ?_
  | with_reducible refine r_ret ?_
  | with_reducible refine r_drop ?_
  | with_reducible refine r_ifs ?_
  | with_reducible refine r_var rfl ?_
  | with_reducible refine r_c ?_
  | with_reducible refine r_op ?_
  | with_reducible refine r_un ?_
  | with_reducible refine r_nil ?_
  | with_reducible refine r_cons ?_
  | with_reducible refine r_test ?_
  | with_reducible refine r_tb ?_
  | with_reducible refine r_and ?_
  | with_reducible refine r_or ?_
  | with_reducible refine r_not ?_
  | with_reducible refine r_andV ?_
  | with_reducible refine r_orV ?_
  | with_reducible refine r_notV ?_
  | with_reducible refine r_if ?_
  | with_reducible refine r_chain ?_
  | with_reducible refine r_cl ?_
  | with_reducible refine r_cb ?_
  | with_reducible refine r_bl ?_
  | with_reducible refine r_I0 ?_
  | with_reducible refine r_yes ?_
  | with_reducible refine r_itT ?_
  | with_reducible refine r_itL ?_
  | with_reducible refine r_itS ?_
  | with_reducible refine r_itE ?_
  | with_reducible refine r_revT ?_
  | with_reducible refine r_star ?_
  | with_reducible refine r_for ?_
  | with_reducible refine r_bm ?_
  | with_reducible refine r_bm0 ?_
  | with_reducible refine r_kget1 ?_
  | with_reducible refine r_kget2 ?_
  | with_reducible refine r_par ?_
  | with_reducible refine r_tup ?_
  | with_reducible refine r_lst ?_
  | with_reducible refine r_exI ?_
  | with_reducible refine r_itZ ?_
  | with_reducible refine r_dget ?_
  | with_reducible refine r_U ?_
  | with_reducible refine r_rng1 ?_
  | with_reducible refine r_gsub ?_
  | with_reducible refine r_pnil ?_
  | with_reducible refine r_pcons ?_
  | with_reducible refine r_methR ?_
  | with_reducible refine r_dpop1 ?_
  | with_reducible refine r_dput ?_
  | with_reducible refine r_din ?_
  | with_reducible refine r_dnotin ?_
  | with_reducible refine r_nopart ?_
  | with_reducible refine r_lc ?_
  | with_reducible refine r_sl ?_
  | with_reducible refine r_part ?_
  | with_reducible refine r_eq rfl ?_
  | with_reducible refine r_ne rfl ?_
  | with_reducible refine iteT ?_
  | with_reducible refine iteF ?_
  | with_reducible refine ite_nt ?_
  | with_reducible refine ite_nf ?_)
local macro_rules | `(tactic| walk_at "k") => `(tactic| first
  | walk_at "s"
  | with_reducible refine ite_eqT (by decide +kernel) ?_
  | with_reducible refine ite_eqF (by decide +kernel) ?_)
open LamX
section
variable {P : Program} {w : World} {K : PySem.W.Frag} {mg : Str → Option Value} {base : Heap}
theorem hdl : ("_law_deed" : Str) ∈ lamL := List.mem_of_getElem? (i := 1) rfl
theorem sc__law_deed : FnScope ["state", "shelf_so", "own", "name", "choice", "due", "term", "elder", "more"] ["state", "shelf_so", "own"] (defScope (top 73)) := ⟨rfl, rfl, rfl, by decide +kernel, rfl, by decide +kernel, by decide +kernel⟩
def spDeed (K : PySem.W.Frag) : Sp := fun vs H Q _ => ∃ (st cs lf s D O : Addr) (n : Nat) (own : Own), vs = [.ref st, .ref s, .ref O] ∧ StAt H st cs lf n ∧ n + 60 ≤ 1000000 ∧ ShAt K H s D own ∧ DictN K H O own ∧ OwnW own ∧ D ≠ O ∧ D ≠ st ∧ O ≠ st ∧ Tabs (TT K) H ∧
  ∀ own' H', OwnW own' → Fr K [st, lf, D, O] H H' → StAt H' st cs lf (n + 60) → ShAt K H' s D own' → DictN K H' O own' → Q (.bl true) H'
theorem c__law_deed (fx : Fx K mg w) (lx : Lx K mg base) : CalG P w K mg base 8 "_law_deed" (spDeed K) := by
  refine fx.d__law_deed.okGC (lx.me _ hdl) sc__law_deed (fun vs H Q E q => ?_) (fun _ _ _ _ _ _ us hl => match us, hl with | [_, _, _], _ => rfl) fun f A outer s H vs Q E hg0 hr q => ?_
  · obtain ⟨st, cs, lf, s, D, O, n, own, rfl, _⟩ := q
    rfl
  · obtain ⟨st, cs, lf, sh, D, O, n, own, rfl, hst, hn, hs, hO, hw, nDO, nDs, nOs, hT, q⟩ := q
    have hgd : (A.deeper (envOfC "_law_deed" (defScope (top 73)) s.heap.objs.size f (.ref (codA K "_law_deed")))).guards = some [] := hg0
    have hu2 := hu_of hr
    have hu70 : (A.deeper (envOfC "_law_deed" (defScope (top 73)) s.heap.objs.size f (.ref (codA K "_law_deed")))).units + 70 < cLine := by
      have := hr.un
      omega
    refine ⟨_, (pss_cons (ps_asg (pe_tup (pa_cons (pe_cr (c__law_of fx) hr px (pa_cons (pv 0) (pa_cons (pe_lst (pa_cons pe_str (pa_cons pe_str (pa_cons pe_str (pa_cons pe_str (pa_cons pe_str (pa_cons pe_str pa_nil))))))) pa_nil))) (pa_cons (pe_cr (c__law_draw fx) hr px (pa_cons (pv 0) (pa_cons pe_int pa_nil))) pa_nil))) (pg_tup (n := 2) rfl (pgs_cons (pg_name (i := 3) (x := "name") sc__law_deed.nd rfl (Or.inr rfl) (.inl rfl)) (pgs_cons (pg_name (i := 4) (x := "choice") sc__law_deed.nd rfl (Or.inl rfl) (.inl rfl)) pgs_nil))))
    (pss_cons (ps_if (pt_cmpR op_eq (pv 4) pe_int (nomark _)) (pss_cons (ps_set (i := 5) sc__law_deed.nd rfl (Or.inl rfl) (pe_ifExp (pt_cmp (pc_din hu2 (pv 3) (pv 2)) (by with_unfolding_all rfl)) (pe_lst (pa_cons (pe_dpop1 (pv 2) (pv 3) ⟨rfl, rfl, rfl, rfl⟩) pa_nil)) (pe_tup (pa_cons pe_str (pa_cons (pv 3) pa_nil)))))
      (pss_one (ps_ret (pe_cmpR op_eq (pe_callB (call_repr hgd hu70 fx.sysm) rfl fx.n_repr (by decide +kernel) (pa_cons (pe_told (k := 4) (t := fun E => tMethR (He.ga K "Shelf") "take" (spTake K) E (tVar 1) (tCons (tVar 3) tNil)) fx rfl (lx.tb _ hdl) rfl (lx.mem hdl) (lx.uni hdl) (hr.mono (by decide)) (lamS_by (sc := defScope (top 73)) (by decide +kernel)) rfl (fun _ _ _ _ _ => rfl) (fun _ _ _ _ _ _ _ hr2 => pe_methR (pv 1) fx.shm.2.1 fx.s_take.meth (m_take fx) hr2 (passes_call (takes_of rfl rfl rfl rfl) fun _ _ _ _ h => h) (pa_cons (pv 3) pa_nil))) pa_nil)) (pe_callB (call_repr hgd hu70 fx.sysm) rfl fx.n_repr (by decide +kernel) (pa_cons (pv 5) pa_nil)) (nomark _))))) pss_nil)
    (pss_cons (ps_set (i := 6) sc__law_deed.nd rfl (Or.inl rfl) (pe_cr ((c__law_term fx 2).mono (by decide : 6 ≤ 7)) hr px (pa_cons (pv 0) (pa_cons pe_int pa_nil)) (hk := Nat.le_refl _)))
    (pss_cons (ps_set (i := 7) sc__law_deed.nd rfl (Or.inl rfl) (pe_ifExp (pt_cmpR (op_neDD hu70) (pv 2) pe_dnewK (nomark _)) (pe_dget hu2 (pv 2) (pe_cr (c__law_of fx) hr px (pa_cons (pv 0) (pa_cons (pe_callB (call_sortedD rfl) rfl fx.n_sorted (by decide +kernel) (pa_cons (pv 2) pa_nil)) pa_nil))) (fun _ _ => rfl)) (pv 6)))
    (pss_cons (ps_if (PW.pt (pw_and (pt_cmpR op_eq (pv 4) pe_int (nomark _)) (pw_and1 (pt_cmpR op_lt (pe_callB call_len_str rfl fx.n_len (by decide +kernel) (pa_cons (pe_callB (call_repr hgd hu70 fx.sysm) rfl fx.n_repr (by decide +kernel) (pa_cons (pv 7) pa_nil)) pa_nil)) pe_int (nomark _))))) (pss_cons (ps_set (i := 8) sc__law_deed.nd rfl (Or.inl rfl) (pe_tup (pa_cons pe_str (pa_cons (pe_cr (c__law_draw fx) hr px (pa_cons (pv 0) (pa_cons pe_int pa_nil))) pa_nil))))
      (pss_one (ps_set (i := 6) sc__law_deed.nd rfl (Or.inl rfl) (pe_ifExp (pt_cmpR op_eq (pe_cr (c__law_draw fx) hr px (pa_cons (pv 0) (pa_cons pe_int pa_nil))) pe_int (nomark _)) (pe_tup (pa_cons pe_str (pa_cons (pe_tup (pa_cons pe_str (pa_cons (pv 7) pa_nil))) pa_nil))) (pe_tup (pa_cons pe_str (pa_cons (pv 7) (pa_cons (pv 8) pa_nil)))))))) pss_nil)
    (pss_cons (ps_dput hu2 (pv 2) (pv 3) (pv 6) rfl)
    (pss_one (ps_ret (pe_cmpR op_isN (pe_methR (pv 1) fx.shm.2.1 fx.s_put.meth (m_put fx) (hr.mono (by decide)) px (pa_cons (pv 3) (pa_cons (pv 6) pa_nil))) pe_non (nomark _)))))))))), ?_⟩
    repeat walk_at "k"
    obtain ⟨hok, hl6⟩ := hw.ok
    refine ⟨by show 6 ≤ sizeLine; decide, fun l1 hl1 => ?_⟩
    have y1 := Ext.new (o := .lst [.str "a", .str "b", .str "ab", .str "z", .str "zzzzzzzz", .str "m"]) hl1
    have nl1 : l1 ≠ lf := by
      obtain ⟨_, _, _, _, _, h3, _⟩ := hst
      exact (ne_of_none h3 hl1).symm
    repeat walk_at "k"
    refine ⟨st, cs, lf, l1, n, _, rfl, hst.ext y1, by omega, upd_same, nl1, by simp, by show 6 ≤ 1000; decide, fun vv H1 hv0 f1 s1 => ?_⟩
    obtain ⟨nm, rfl, hnm⟩ : ∃ nm : Str, vv = .str nm ∧ nm ∈ nameL := by
      simp only [List.mem_cons, List.not_mem_nil, or_false] at hv0
      rcases hv0 with h | h | h | h | h | h <;> exact ⟨_, h, by decide⟩
    repeat walk_at "k"
    refine ⟨st, cs, lf, n + 1, 5, rfl, s1, by omega, by decide, by decide, fun r H2 hr0 hr1 f2 s2 => ?_⟩
    repeat walk_at "k"
    refine ⟨by show 2 ≤ sizeLine; decide, fun p hp => ?_⟩
    have y2 := Ext.new (o := .tup [.str nm, .int r]) hp
    refine ⟨p, _, rfl, .inl (.inl upd_same), rfl, _, _, rfl, r_gname ⟨_, _, rfl, r_gname ⟨rfl, ?_⟩⟩⟩
    have f3 : Fr K [st, lf] H (upd H2 p (.tup [.str nm, .int r])) := ((y1.fr.trans f1).trans f2).trans y2.fr
    have s3 := s2.ext y2
    generalize upd H2 p (.tup [.str nm, .int r]) = H3 at f3 s3 ⊢
    clear f1 s1 y1 hl1 nl1 f2 s2 y2 hp
    repeat walk_at "k"
    have nOlf : O ≠ lf := by
      obtain ⟨_, _, _, _, _, h3, _⟩ := hst
      obtain ⟨_, h4, _⟩ := hO
      exact ne_of h4 h3 fun z => by cases z
    have nDlf : D ≠ lf := by
      obtain ⟨_, _, _, _, _, h3, _⟩ := hst
      obtain ⟨_, _, h4, _⟩ := hs
      exact ne_of h4 h3 fun z => by cases z
    have nsB : ∀ x, x = st ∨ x = lf ∨ x = D ∨ x = O → sh ≠ x := fun x hx => by
      obtain ⟨⟨dx, h1⟩, kv, h2, _⟩ := hs
      obtain ⟨_, _, _, g1, _, g3, _⟩ := hst
      obtain ⟨_, g4, _⟩ := hO
      rcases hx with rfl | rfl | rfl | rfl
      · exact ne_of h1 g1 fun z => by cases z
      · exact ne_of h1 g3 fun z => by cases z
      · exact ne_of h1 h2 fun z => by cases z
      · exact ne_of h1 g4 fun z => by cases z
    have hO3 : DictN K H3 O own := hO.fr f3 (by simp [nOs, nOlf])
    have hs3 : ShAt K H3 sh D own := hs.fr f3 (by simp [nsB st (.inl rfl), nsB lf (.inr (.inl rfl))]) (by simp [nDs, nDlf])
    have hT3 := f3.tb hT
    have hlab : ∀ H', LabV K H' (.str nm) true := fun H' => by
      have h1 : labOk nm = true := by
        simp only [nameL, List.mem_cons, List.not_mem_nil, or_false] at hnm
        rcases hnm with rfl | rfl | rfl | rfl | rfl | rfl <;> decide +kernel
      have h2 : nm.length ≤ 1000 := by
        simp only [nameL, List.mem_cons, List.not_mem_nil, or_false] at hnm
        rcases hnm with rfl | rfl | rfl | rfl | rfl | rfl <;> decide +kernel
      have := LabV.str (K := K) (H := H') nm h2
      rwa [h1] at this
    have f3' : Fr K [st, lf, D, O] H H3 := f3.more fun b hb => by
      simp only [List.mem_cons, List.not_mem_nil, or_false] at hb ⊢
      rcases hb with h | h
      · exact .inl h
      · exact .inr (.inl h)
    refine ite_b (fun hz => ?_) fun hz => ?_
    · repeat walk_at "k"
      obtain ⟨okv, hk1, hk2⟩ := id hO3
      have hg := DGet.k (k := .inr nm) hk1
      obtain ⟨⟨dx, hs1⟩, _⟩ := id hs3
      rcases hk2.val nm with ⟨z1, z2⟩ | ⟨tv, t, z1, z2, z3, z4⟩
      · rw [z1] at hg
        refine ⟨O, _, rfl, hg, ?_⟩
        repeat walk_at "k"
        refine ⟨by show 2 ≤ sizeLine; decide, fun pd hpd => ?_⟩
        have e4 := Ext.new (o := .tup [.str "missing", .str nm]) hpd
        have hpd4 : (upd H3 pd (.tup [.str "missing", .str nm])) pd = some (.tup [.str "missing", .str nm]) := upd_same
        have f4 := f3'.trans (e4.fr (K := K) (B := [st, lf, D, O]))
        have hs4 := hs3.ext e4
        have hO4 := hO3.ext e4
        have s4 := s3.ext e4
        have hT4 := hT3.ext e4
        generalize upd H3 pd (.tup [.str "missing", .str nm]) = H4 at hpd4 f4 hs4 hO4 s4 hT4 ⊢
        repeat walk_at "k"
        refine ⟨hT4, fun H5 eN5 T5 H6 Q1 e6 hQ1 => ?_⟩
        have f46 : Fr K [] H4 H6 := (Fr.ofN eN5 T5).trans e6.fr
        have hs6 := hs4.fr f46 (by simp) (by simp)
        obtain ⟨⟨dx6, hs61⟩, _⟩ := id hs6
        refine ⟨_, rfl, sh, dx6, _, rfl, hs61, rfl, ?_⟩
        repeat walk_at "k"
        refine ⟨sh, D, own, .str nm, none, rfl, hs6, .out (hlab H6) z2, fun l t hl h => absurd h (by simp), fun _ H7 e7 d H8 e8 hd8n hd8 => ?_⟩
        refine ⟨("Missing", "given", "missing"), .str nm, d, by simp [toldL], rfl, rfl, hd8, fun H9 p9 e9 hp9 => ?_⟩
        have f49 : Fr K [] H4 H9 := f46.trans (e7.trans (e8.trans e9)).fr
        have hpd9 : H9 pd = some (.tup [.str "missing", .str nm]) := f49.tk.tp _ _ hpd4
        have hdx : ∀ a, SqT K H9 a [.str "missing", .str nm] → Dx K H9 (.ref a) (.tuple [.str "missing", .str nm]) := fun a ha => .tup ha (.cons (.str _) (.cons (.str _) .nil))
        repeat walk_at "k"
        refine ⟨p9, _, rfl, hdx p9 hp9, by simp [PyData.depth, PyData.depthAll], by simp [PyData.showable, PyData.showableAll], miss_fits hnm, ?_⟩
        repeat walk_at "k"
        refine ⟨pd, _, rfl, hdx pd (.inl (.inl hpd9)), by simp [PyData.depth, PyData.depthAll], by simp [PyData.showable, PyData.showableAll], miss_fits hnm, ?_⟩
        repeat walk_at "k"
        rw [decide_eq_true rfl]
        have f49m : Fr K [st, lf, D, O] H4 H9 := f49.more (by simp)
        exact q own H9 hw (f4.trans f49m) ((s4.fr f49 (by simp) (by simp) (by simp)).more (by omega)) (hs4.fr f49 (by simp) (by simp)) (hO4.fr f49 (by simp))
      · rw [z1] at hg
        refine ⟨O, _, rfl, hg, ?_⟩
        refine ⟨true, rfl, ite_eqT rfl ?_⟩
        repeat walk_at "k"
        refine ⟨O, rfl, .inl ⟨_, .inl hk1⟩, ?_⟩
        repeat walk_at "k"
        refine ⟨okv, .inr nm, tv, hk1, rfl, z1, ?_⟩
        repeat walk_at "k"
        refine ⟨by show 1 ≤ sizeLine; decide, fun pd hpd => ?_⟩
        have fO : Fr K [st, lf, D, O] H3 (upd H3 O (.dK (dropK okv (.inr nm)))) := Fr.putK hk1 (by simp)
        have fO1 : Fr K [O] H3 (upd H3 O (.dK (dropK okv (.inr nm)))) := Fr.putK hk1 (by simp)
        have e4 := Ext.new (o := .lst [tv]) hpd
        have hpd4 : (upd (upd H3 O (.dK (dropK okv (.inr nm)))) pd (.lst [tv])) pd = some (.lst [tv]) := upd_same
        have f4 := (f3'.trans fO).trans (e4.fr (K := K) (B := [st, lf, D, O]))
        have ncO : cs ≠ O := by
          obtain ⟨_, _, _, _, h2, _, _⟩ := s3
          exact ne_of h2 hk1 fun z => by cases z
        have s4 := (s3.fr fO1 (by simpa using Ne.symm nOs) (by simpa using ncO) (by simpa using Ne.symm nOlf)).ext e4
        have hs4 := (hs3.fr fO1 (by simpa using nsB O (.inr (.inr (.inr rfl)))) (by simpa using nDO)).ext e4
        have hO4 : DictN K _ O (dropN own nm) := DictN.ext ⟨_, upd_same, (hk2.tk fO1.tk).drop nm⟩ e4
        have hT4 := (fO1.tb hT3).ext e4
        have ht4 := (z3.tk fO1.tk).tk e4.tk
        generalize upd (upd H3 O (.dK (dropK okv (.inr nm)))) pd (.lst [tv]) = H4 at hpd4 f4 hs4 hO4 s4 hT4 ht4 ⊢
        repeat walk_at "k"
        refine ⟨hT4, fun H5 eN5 T5 H6 Q1 e6 hQ1 => ?_⟩
        have f46 : Fr K [] H4 H6 := (Fr.ofN eN5 T5).trans e6.fr
        have hs6 := hs4.fr f46 (by simp) (by simp)
        obtain ⟨⟨dx6, hs61⟩, _⟩ := id hs6
        refine ⟨_, rfl, sh, dx6, _, rfl, hs61, rfl, ?_⟩
        repeat walk_at "k"
        refine ⟨sh, D, own, .str nm, some t, rfl, hs6, .at_ (hlab H6) z2, fun l t' hl ht' H7 x f7 hs7 hx7 => hQ1 x H7 fun H8 p8 e8 hp8 => ?_, fun h => absurd h (by simp)⟩
        cases hl
        cases ht'
        have f47 : Fr K [D] H4 H7 := (f46.more (by simp)).trans f7
        have f48 : Fr K [D] H4 H8 := f47.trans e8.fr
        have hwt := hw.wf _ z4
        obtain ⟨g1, g2, g3⟩ := terms_fit [t] (by show 1 ≤ 21; decide) fun t2 ht2 => by
          rw [List.mem_singleton.mp ht2]
          exact ⟨by rw [← allOwn_allT]; exact hwt.2.2, hwt.1, hwt.2.1⟩
        have hpdD : pd ≠ D := by
          obtain ⟨_, _, h9, _⟩ := hs4
          exact ne_of hpd4 h9 fun z => by cases z
        have hpd8 : H8 pd = some (.lst [tv]) := f48.lst (by simpa using hpdD) hpd4
        repeat walk_at "k"
        refine ⟨p8, .list [t.data], rfl, .lst (.inl (.inl hp8)) (.cons (TR.dx (hx7.tk e8.tk)) .nil), g1, g2, g3, ?_⟩
        repeat walk_at "k"
        refine ⟨pd, .list [t.data], rfl, .lst (.inl (.inl hpd8)) (.cons (TR.dx (ht4.tk f48.tk)) .nil), g1, g2, g3, ?_⟩
        repeat walk_at "k"
        rw [decide_eq_true rfl]
        have f48m : Fr K [st, lf, D, O] H4 H8 := f48.more fun b hb => by rw [List.mem_singleton.mp hb]; simp
        have ncD : cs ≠ D := by
          obtain ⟨_, _, _, _, h2, _, _⟩ := s4
          obtain ⟨_, _, h9, _⟩ := hs4
          exact ne_of h2 h9 fun z => by cases z
        exact q (dropN own nm) H8 (hw.drop nm) (f4.trans f48m) ((s4.fr f48 (by simpa using Ne.symm nDs) (by simpa using ncD) (by simpa using Ne.symm nDlf)).more (by omega)) (hs7.ext e8) (hO4.fr f48 (by simpa using Ne.symm nDO))
    · repeat walk_at "k"
      refine ⟨st, cs, lf, n + 1 + 1, rfl, s3, by show n + 1 + 1 + 21 ≤ _; omega, fun t tv H4 h1 h2 h3 f4 s4 ht => ?_⟩
      replace s4 : StAt H4 st cs lf (n + 23) := s4
      have hwt : wfT t := ⟨by have : t.wds + 1 ≤ 8 := h2; omega, by omega, by rw [allOwn_allT]; exact h3⟩
      have f4' : Fr K [st, lf, D, O] H H4 := f3'.trans (f4.more fun b hb => by
        simp only [List.mem_cons, List.not_mem_nil, or_false] at hb ⊢
        rcases hb with h | h
        · exact .inl h
        · exact .inr (.inl h))
      have hO4 : DictN K H4 O own := hO3.fr f4 (by simp [nOs, nOlf])
      have hs4 : ShAt K H4 sh D own := hs3.fr f4 (by simp [nsB st (.inl rfl), nsB lf (.inr (.inl rfl))]) (by simp [nDs, nDlf])
      have hT4 := f4.tb hT3
      clear s3 hO3 hs3 hT3 f3 f3' f4
      have tail : ∀ (o5 o7 o8 : Option V) (H6 : Hp) (nt : T) (nv : V), wfS nt → TR K H6 nt nv → Fr K [st, lf, D, O] H H6 → StAt H6 st cs lf (n + 26) → ShAt K H6 sh D own → DictN K H6 O own → tSeq (sDPut (tVar 2) (tVar 3) (tVar 6)) (tRet (tOp (fun x y H Q => y = .non ∧ Q (.bl (decide (x = .non))) H) (tMethR (He.ga K "Shelf") "put" (spPut K) E (tVar 1) (tCons (tVar 3) (tCons (tVar 6) tNil))) (tC .non))) { nx := fun _ H' => Q .non H', rt := Q } [some (.ref st), some (.ref sh), some (.ref O), some (.str nm), some (.int r), o5, some nv, o7, o8] H6 := fun o5 o7 o8 H6 nt nv hwn htn f6 s6 hs6 hO6 => by
        obtain ⟨okv, k1, k2⟩ := hO6
        repeat walk_at "k"
        refine ⟨O, _, rfl, DPut.k (k := .inr nm) k1 (by rw [k2.len, sizeLine_eq]; omega), ?_⟩
        have fO : Fr K [O] H6 (upd H6 O (.dK (putK okv (.inr nm) nv))) := Fr.putK k1 (by simp)
        have ncO : cs ≠ O := by
          obtain ⟨_, _, _, _, h2, _, _⟩ := s6
          exact ne_of h2 k1 fun z => by cases z
        have s7 := s6.fr fO (by simpa using Ne.symm nOs) (by simpa using ncO) (by simpa using Ne.symm nOlf)
        have hs7 := hs6.fr fO (by simpa using nsB O (.inr (.inr (.inr rfl)))) (by simpa using nDO)
        have hO7 : DictN K (upd H6 O (.dK (putK okv (.inr nm) nv))) O (putN own nm nt) := ⟨_, upd_same, (k2.tk fO.tk).put nm (htn.tk fO.tk)⟩
        have ht7 := htn.tk fO.tk
        have f7 : Fr K [st, lf, D, O] H _ := f6.trans (fO.more fun b hb => by rw [List.mem_singleton.mp hb]; simp)
        generalize upd H6 O (.dK (putK okv (.inr nm) nv)) = H7 at s7 hs7 hO7 ht7 f7 ⊢
        obtain ⟨⟨dx, hs71⟩, _⟩ := id hs7
        repeat walk_at "k"
        refine ⟨sh, dx, _, rfl, hs71, rfl, ?_⟩
        repeat walk_at "k"
        refine ⟨sh, D, own, .str nm, nv, rfl, hs7, by omega, .inr ⟨nm, rfl, hlab _, .inr ⟨nt, ht7, hwn.1.1, hwn.1.2.1, fun pth hp => absurd hp (firstBad_none hwn.1.2.2), fun _ => ⟨fun _ h20 => by omega, fun _ H8 f8 hs8 => ?_⟩⟩⟩⟩
        repeat walk_at "k"
        refine ⟨rfl, ?_⟩
        rw [decide_eq_true rfl]
        have ncD : cs ≠ D := by
          obtain ⟨_, _, _, _, h2, _, _⟩ := s7
          obtain ⟨_, _, h9, _⟩ := hs7
          exact ne_of h2 h9 fun z => by cases z
        exact q (putN own nm nt) H8 (hw.put hnm hwn) (f7.trans (f8.more fun b hb => by rw [List.mem_singleton.mp hb]; simp)) ((s7.fr f8 (by simpa using Ne.symm nDs) (by simpa using ncD) (by simpa using Ne.symm nDlf)).more (by omega)) hs8 (hO7.fr f8 (by simpa using Ne.symm nDO))
      with_reducible refine r_gname ?_
      with_reducible refine r_seq ?_
      with_reducible refine r_asg ?_
      refine join (TT := tIf _ _ _ _ _) (R := fun v H' => ∃ et, TR K H' et v ∧ wfS et ∧ Fr K [st, lf] H4 H' ∧ StAt H' st cs lf (n + 24)) (fun Q' hQ' => ?_) (fun ev H5 hR => ?_)
      · repeat walk_at "k"
        refine fun pz hpz => ?_
        have ez := Ext.new (o := .dK []) hpz
        obtain ⟨okv, k1, k2⟩ := hO4.ext ez
        refine ⟨O, pz, okv, [], datas own, [], rfl, rfl, k1, upd_same, k2.dpd (fun e he => by have := (hw.wf e he).2.1; omega), .nil, ?_⟩
        have he : eqDD (datas own) [] = decide (own = []) := by cases own <;> rfl
        rw [he]
        have nSl : ∀ S, (upd H4 pz (.dK [])) S = none → S ≠ lf := fun S hS => by
          obtain ⟨_, _, _, _, _, h3, _⟩ := s4.ext ez
          exact (ne_of_none h3 hS).symm
        have s5 := s4.ext ez
        have t5 := ht.tk (K := K) ez.tk
        have f5 : Fr K [st, lf] H4 (upd H4 pz (.dK [])) := ez.fr
        generalize upd H4 pz (.dK []) = H5 at k1 k2 s5 t5 f5 nSl ⊢
        by_cases hne : own = []
        · refine ⟨false, by simp [hne], iteF ?_⟩
          repeat walk_at "k"
          exact hQ' _ _ ⟨t, t5, ⟨hwt, by have : t.wds + 1 ≤ 8 := h2; omega, by omega⟩, f5, s5.more (by omega)⟩
        · refine ⟨true, by simp [hne], iteT ?_⟩
          repeat walk_at "k"
          refine ⟨O, okv, names own, rfl, .inl k1, k2.keys, by unfold names; rw [List.length_map]; omega, fun ys S hys hso hS => ?_⟩
          have eS := Ext.new (o := .lst (ys.map V.str)) hS
          have hyl : ys.length = own.length := by rw [hys.length_eq]; unfold names; rw [List.length_map]
          have hyn : ys ≠ [] := fun z => hne (List.length_eq_zero_iff.mp (by rw [← hyl, z]; rfl))
          repeat walk_at "k"
          refine ⟨st, cs, lf, S, n + 23, ys.map .str, rfl, s5.ext eS, by omega, upd_same, nSl S hS, by simpa using hyn, by rw [List.length_map]; omega, fun vv H6 hv6 f6 s6 => ?_⟩
          obtain ⟨y, hy, rfl⟩ := List.mem_map.mp hv6
          have nOf : O ∉ [st, lf] := by simp [nOs, nOlf]
          obtain ⟨okv6, k61, k62⟩ := (DictN.ext (⟨okv, k1, k2⟩ : DictN K H5 O own) eS).fr f6 nOf
          have hg := DGet.k (k := .inr y) k61
          rcases k62.val y with ⟨_, z2⟩ | ⟨v6, t6, z1, z2, z3, z4⟩
          · exfalso
            obtain ⟨e, he, rfl⟩ := List.mem_map.mp (hys.mem_iff.mp hy)
            unfold lookN at z2
            rw [Option.map_eq_none_iff, List.find?_eq_none] at z2
            exact z2 e he (by simp)
          · rw [z1] at hg
            refine ⟨O, v6, rfl, hg, ?_⟩
            exact hQ' _ _ ⟨t6, z3, hw.wfs _ z4, (f5.trans eS.fr).trans f6, s6⟩
      · obtain ⟨et, het, hes, f5, s5⟩ := hR
        repeat walk_at "k"
        obtain ⟨ea, us, rfl, _, _⟩ := het.node
        have f45 : Fr K [st, lf, D, O] H H5 := f4'.trans (f5.more fun b hb => by
          simp only [List.mem_cons, List.not_mem_nil, or_false] at hb ⊢
          rcases hb with h | h
          · exact .inl h
          · exact .inr (.inl h))
        have nOf : O ∉ [st, lf] := by simp [nOs, nOlf]
        have nDf : D ∉ [st, lf] := by simp [nDs, nDlf]
        have nsf : sh ∉ [st, lf] := by simp [nsB st (.inl rfl), nsB lf (.inr (.inl rfl))]
        have hO5 := hO4.fr f5 nOf
        have hs5 := hs4.fr f5 nsf nDf
        have ht5 := ht.tk (K := K) f5.tk
        have hst5 : wfS t := ⟨hwt, by have : t.wds + 1 ≤ 8 := h2; omega, by omega⟩
        refine ite_b (fun hz1 => ?_) fun hz1 => ?_
        · repeat walk_at "k"
          refine r_repr het.dx (T.fits hes.1) ?_
          repeat walk_at "k"
          refine ⟨_, rfl, (T.fits hes.1).2.2, ?_⟩
          repeat walk_at "k"
          refine ite_b (fun hz2 => ?_) fun hz2 => ?_
          · have hz3 := of_decide_eq_true hz2
            obtain ⟨g1, g2⟩ := shown_small et
            have hw7 : et.wds ≤ 7 := by omega
            have hh5 : et.hgt ≤ 5 := by omega
            repeat walk_at "k"
            refine ⟨st, cs, lf, n + 24, 2, rfl, s5, by omega, by decide, by decide, fun r2 H6 a0 a1 f6 s6 => ?_⟩
            repeat walk_at "k"
            refine ⟨by show 2 ≤ sizeLine; decide, fun pm hpm => ?_⟩
            have em := Ext.new (o := .tup [.str "cash", .int r2]) hpm
            have hm7 : TR K (upd H6 pm (.tup [.str "cash", .int r2])) (.lf .cash r2) (.ref pm) := ⟨pm, rfl, .inl (.inl upd_same)⟩
            have f7 : Fr K [st, lf] H5 (upd H6 pm (.tup [.str "cash", .int r2])) := f6.trans em.fr
            have s7 := s6.ext em
            generalize upd H6 pm (.tup [.str "cash", .int r2]) = H7 at hm7 f7 s7 ⊢
            repeat walk_at "k"
            refine ⟨st, cs, lf, n + 25, 2, rfl, s7, by omega, by decide, by decide, fun r3 H8 b0 b1 f8 s8 => ?_⟩
            repeat walk_at "k"
            have f58 : Fr K [st, lf] H5 H8 := f7.trans f8
            have het8 := het.tk (K := K) f58.tk
            have hm8 := hm7.tk (K := K) f8.tk
            have fin : ∀ (o5 o7 o8 : Option V) (H9 : Hp) (nt : T) (nv : V), wfS nt → TR K H9 nt nv → Ext H8 H9 → tSeq (sDPut (tVar 2) (tVar 3) (tVar 6)) (tRet (tOp (fun x y H Q => y = .non ∧ Q (.bl (decide (x = .non))) H) (tMethR (He.ga K "Shelf") "put" (spPut K) E (tVar 1) (tCons (tVar 3) (tCons (tVar 6) tNil))) (tC .non))) { nx := fun _ H' => Q .non H', rt := Q } [some (.ref st), some (.ref sh), some (.ref O), some (.str nm), some (.int r), o5, some nv, o7, o8] H9 := fun o5 o7 o8 H9 nt nv hwn htn e9 => by
              have f59 : Fr K [st, lf] H5 H9 := f58.trans e9.fr
              exact tail o5 o7 o8 H9 nt nv hwn htn (f45.trans (f59.more fun b hb => by
                simp only [List.mem_cons, List.not_mem_nil, or_false] at hb ⊢
                rcases hb with h | h
                · exact .inl h
                · exact .inr (.inl h))) (s8.ext e9) (hs5.fr f59 nsf nDf) (hO5.fr f59 nOf)
            refine ite_b (fun hz4 => ?_) fun hz4 => ?_
            · repeat walk_at "k"
              refine ⟨by show 2 ≤ sizeLine; decide, fun p1 hp1 => ?_⟩
              have e1 := Ext.new (o := .tup [.str "short", .ref ea]) hp1
              have q1 : SqT K (upd H8 p1 (.tup [.str "short", .ref ea])) p1 [.str "short", .ref ea] := .inl (.inl upd_same)
              have het9 := het8.tk (K := K) e1.tk
              generalize upd H8 p1 (.tup [.str "short", .ref ea]) = H9 at e1 q1 het9 ⊢
              repeat walk_at "k"
              refine ⟨by show 2 ≤ sizeLine; decide, fun p2 hp2 => ?_⟩
              have e2 := Ext.new (o := .tup [.str "short", .ref p1]) hp2
              have ho9 : allOwn (.un (.un et)) = true := by
                have := hes.1.2.2
                rw [allOwn_allT] at this ⊢
                simp only [allT, T.own, Bool.true_and]
                exact this
              exact fin _ _ _ _ (.un (.un et)) (.ref p2) ⟨⟨by simp only [T.wds]; omega, by simp only [T.hgt]; omega, ho9⟩, by simp only [T.wds]; omega, by simp only [T.hgt]; omega⟩ ⟨p2, .ref p1, rfl, .inl (.inl upd_same), p1, .ref ea, rfl, e2.tup q1, het9.tk e2.tk⟩ (e1.trans e2)
            · repeat walk_at "k"
              refine ⟨by show 3 ≤ sizeLine; decide, fun p1 hp1 => ?_⟩
              have e1 := Ext.new (o := .tup [.str "both", .ref ea, .ref pm]) hp1
              have ho9 : allOwn (.bi .both et (.lf .cash r2)) = true := by
                have := hes.1.2.2
                rw [allOwn_allT] at this ⊢
                simp only [allT, T.own, Bool.true_and, this]
                exact decide_eq_true (by omega)
              have hx : max et.hgt 1 ≤ 5 := by have := T.hgt_pos et; omega
              exact fin _ _ _ _ (.bi .both et (.lf .cash r2)) (.ref p1) ⟨⟨by simp only [T.wds]; omega, by simp only [T.hgt]; omega, ho9⟩, by simp only [T.wds]; omega, by simp only [T.hgt]; omega⟩ ⟨p1, .ref ea, .ref pm, rfl, .inl (.inl upd_same), het8.tk e1.tk, hm8.tk e1.tk⟩ e1
          · first
              | exact tail _ _ _ H5 t tv hst5 ht5 f45 (s5.more (by omega)) hs5 hO5
              | exact iteF (tail _ _ _ H5 t tv hst5 ht5 f45 (s5.more (by omega)) hs5 hO5)
        · exact iteF (tail _ _ _ H5 t tv hst5 ht5 f45 (s5.more (by omega)) hs5 hO5)
end
end
section
open PySem Spec PyProof.Rows L2
local macro_rules | `(tactic| walk_at "s") => `(tactic| first
  | with_reducible refine r_seq ?_
  | with_reducible refine r_next ?_
  | with_reducible refine r_asg ?_
  | with_reducible refine r_gname ?_
  | with_reducible refine r_ret ?_
  | with_reducible refine r_drop ?_
  | with_reducible refine r_ifs ?_
  | with_reducible refine r_var rfl ?_
  | with_reducible refine r_c ?_
  | with_reducible refine r_op ?_
  | with_reducible refine r_un ?_
  | with_reducible refine r_nil ?_
  | with_reducible refine r_cons ?_
  | with_reducible refine r_test ?_
  | with_reducible refine r_tb ?_
  | with_reducible refine r_and ?_
  | with_reducible refine r_or ?_
  | with_reducible refine r_not ?_
  | with_reducible refine r_andV ?_
  | with_reducible refine r_orV ?_
  | with_reducible refine r_notV ?_
  | with_reducible refine r_if ?_
  | with_reducible refine r_chain ?_
  | with_reducible refine r_cl ?_
  | with_reducible refine r_cb ?_
  | with_reducible refine r_bl ?_
  | with_reducible refine r_I0 ?_
  | with_reducible refine r_yes ?_
  | with_reducible refine r_itT ?_
  | with_reducible refine r_itL ?_
  | with_reducible refine r_itS ?_
  | with_reducible refine r_itE ?_
  | with_reducible refine r_revT ?_
  | with_reducible refine r_star ?_
  | with_reducible refine r_for ?_
  | with_reducible refine r_bm ?_
  | with_reducible refine r_bm0 ?_
  | with_reducible refine r_kget1 ?_
  | with_reducible refine r_kget2 ?_
  | with_reducible refine r_par ?_
  | with_reducible refine r_tup ?_
  | with_reducible refine r_lst ?_
  | with_reducible refine r_exI ?_
  | with_reducible refine r_itZ ?_
  | with_reducible refine r_dget ?_
  | with_reducible refine r_U ?_
  | with_reducible refine r_rng1 ?_
  | with_reducible refine r_gsub ?_
  | with_reducible refine r_pnil ?_
  | with_reducible refine r_pcons ?_
  | with_reducible refine r_methR ?_
  | with_reducible refine r_dpop1 ?_
  | with_reducible refine r_dput ?_
  | with_reducible refine r_din ?_
  | with_reducible refine r_dnotin ?_
  | with_reducible refine r_nopart ?_
  | with_reducible refine r_lc ?_
  | with_reducible refine r_sl ?_
  | with_reducible refine r_part ?_
  | with_reducible refine r_eq rfl ?_
  | with_reducible refine r_ne rfl ?_
  | with_reducible refine iteT ?_
  | with_reducible refine iteF ?_
  | with_reducible refine ite_nt ?_
  | with_reducible refine ite_nf ?_)
local macro_rules | `(tactic| walk_at "k") => `(tactic| first
  | walk_at "s"
  | with_reducible refine ite_eqT (by decide +kernel) ?_
  | with_reducible refine ite_eqF (by decide +kernel) ?_)
open LamX
section
variable {P : Program} {w : World} {K : PySem.W.Frag} {mg : Str → Option Value} {base : Heap}
theorem sc__law_stands_right : FnScope ["shelf_so", "own", "days_so", "names", "claims", "pairs", "at", "name", "far", "due", "lows", "one", "more"] ["shelf_so", "own", "days_so"] (defScope (top 72)) := ⟨rfl, rfl, rfl, by decide +kernel, rfl, by decide +kernel, by decide +kernel⟩
theorem ClD.at {H : Hp} {kvs : List (Key × V)} {dss : List (List Int)} {own : Own} {ys : List Str} (h : ClD H kvs (claimsL dss own ys)) {y : Str} (hy : y ∈ ys) :
    (claimAt dss own y = none ∧ valV kvs (.inr y) = none) ∨ ∃ c l, claimAt dss own y = some c ∧ valV kvs (.inr y) = some (.ref l) ∧ H l = some (.lst (c.map .int)) := by
  have key : ∀ (cs : List (Str × List Int)) (kvs : List (Key × V)), ClD H kvs cs → (∀ e ∈ cs, claimAt dss own e.1 = some e.2) → (valV kvs (.inr y) = none ∧ ∀ e ∈ cs, e.1 ≠ y) ∨ ∃ c l, claimAt dss own y = some c ∧ valV kvs (.inr y) = some (.ref l) ∧ H l = some (.lst (c.map .int)) := fun cs kvs h => by
    induction h with
    | nil => exact fun _ => .inl ⟨rfl, fun _ z => by cases z⟩
    | @cons q e qs es hh _ ih =>
      intro ha
      obtain ⟨h1, l, h2, h3⟩ := hh
      by_cases hk : e.1 = y
      · refine .inr ⟨e.2, l, by rw [← hk]; exact ha e List.mem_cons_self, ?_, h3⟩
        rw [valV_pos (by rw [h1, hk]), h2]
      · rw [valV_neg (by rw [h1]; exact inr_ne hk)]
        rcases ih fun x hx => ha x (List.mem_cons_of_mem _ hx) with ⟨z1, z2⟩ | z
        · refine .inl ⟨z1, fun x hx => ?_⟩
          rcases List.mem_cons.mp hx with rfl | hx
          · exact hk
          · exact z2 x hx
        · exact .inr z
  rcases key _ _ h (fun e he => by
    unfold claimsL at he
    obtain ⟨x, _, hx⟩ := List.mem_filterMap.mp he
    obtain ⟨c, hc, rfl⟩ := Option.map_eq_some_iff.mp hx
    exact hc) with ⟨z1, z2⟩ | z
  · cases hc : claimAt dss own y with
    | none => exact .inl ⟨rfl, z1⟩
    | some c =>
      refine absurd rfl (z2 (y, c) ?_)
      unfold claimsL
      exact List.mem_filterMap.mpr ⟨y, hy, by rw [hc]; rfl⟩
  · exact .inr z
abbrev TRs (K : PySem.W.Frag) (H : Hp) (vs : List V) (ts : List T) : Prop := Paired (fun v t => TR K H t v) vs ts
theorem TRs.tk {H H' : Hp} {vs : List V} {ts : List T} (h : TRs K H vs ts) (e : TK K H H') : TRs K H' vs ts := Paired.mapP h fun _ _ q => q.tk e
theorem TRs.dx {H : Hp} {vs : List V} {ts : List T} (h : TRs K H vs ts) : DxAll K H vs (ts.map T.data) := by
  induction h with
  | nil => exact .nil
  | cons hh _ ih => exact .cons hh.dx ih
theorem nm_lab {y : Str} (h : y ∈ nameL) (Hq : Hp) : LabV K Hq (.str y) true := by
  have h1 : labOk y = true := by
    simp only [nameL, List.mem_cons, List.not_mem_nil, or_false] at h
    rcases h with rfl | rfl | rfl | rfl | rfl | rfl <;> decide +kernel
  have h2 : y.length ≤ 1000 := by
    simp only [nameL, List.mem_cons, List.not_mem_nil, or_false] at h
    rcases h with rfl | rfl | rfl | rfl | rfl | rfl <;> decide +kernel
  have := LabV.str (K := K) (H := Hq) y h2
  rwa [h1] at this
theorem rowW_snoc (dss : List (List Int)) (own : Own) (y : Str) (r : List Str) (x : Str) : rowW dss own y (r ++ [x]) = rowW dss own y r ++ (match claimAt dss own y with
    | some c => if claimAt dss own x = some c then [(y, x)] else []
    | none => []) := by
  unfold rowW
  cases claimAt dss own y with
  | none => rfl
  | some c =>
    show ((r ++ [x]).filter _).map _ = _
    rw [List.filter_append, List.map_append]
    by_cases h : claimAt dss own x = some c
    · simp [List.filter_cons, h]
    · simp [List.filter_cons, h]
theorem r_dget1 {td ty : TE} {σ : L2.St} {H : Hp} {Q : VK} (h : td σ H fun x H1 => ∃ a, x = .ref a ∧ IsD H1 a ∧ ty σ H1 fun y H2 => ∃ o, DGet H2 a y o ∧ Q (o.getD .non) H2) : tDGet1 td ty σ H Q := h
theorem drop_cons {α : Type} {xs : List α} {i : Nat} {x : α} (h : xs[i]? = some x) : xs.drop i = x :: xs.drop (i + 1) := by
  obtain ⟨h1, h2⟩ := List.getElem?_eq_some_iff.mp h
  rw [List.drop_eq_getElem_cons h1, h2]
theorem ClD.out {H H1 H' : Hp} {kvs : List (Key × V)} {cs : List (Str × List Int)} {W : Addr} (h : ClD H kvs cs) (n : H W = none) (e : Ext H H1) (f : Fr K [W] H1 H') : ClD H' kvs cs := Paired.mapP h fun _ _ ⟨z1, l, z2, z3⟩ => ⟨z1, l, z2, f.lst (by simpa using ne_of_none z3 n) (e _ _ z3)⟩
theorem claimsL_at {dss : List (List Int)} {own : Own} {ys : List Str} {e : Str × List Int} (h : e ∈ claimsL dss own ys) : claimAt dss own e.1 = some e.2 ∧ e.1 ∈ ys := by
  unfold claimsL at h
  obtain ⟨x, hx, h⟩ := List.mem_filterMap.mp h
  obtain ⟨c, hc, rfl⟩ := Option.map_eq_some_iff.mp h
  exact ⟨hc, hx⟩
theorem claimAt_len {dss : List (List Int)} (hok : daysOk dss = true) {own : Own} {y : Str} {c : List Int} (h : claimAt dss own y = some c) : c.length ≤ 1000 := by
  unfold claimAt at h
  obtain ⟨t0, _, ht0⟩ := Option.bind_eq_some_iff.mp h
  split at ht0
  · cases ht0
    show (claim dss t0).length ≤ 1000
    unfold claim
    rw [List.length_map]
    have := (daysOk_wf hok).2.2.1
    omega
  · cases ht0
theorem payingL_sub (dss : List (List Int)) (own : Own) (ys : List Str) (l : Str) : (payingL dss own ys l).Sublist ys := by
  unfold payingL
  cases claimAt dss own l with
  | none => exact List.nil_sublist _
  | some c =>
    show (payingN c l (claimsL dss own ys)).Sublist ys
    unfold payingN
    exact (List.filter_sublist.map _).trans (claimsL_names dss own ys)
def spStands (K : PySem.W.Frag) : Sp := fun vs H Q _ => ∃ (s D O d : Addr) (dss : List (List Int)) (own : Own), vs = [.ref s, .ref O, .ref d] ∧ ShAt K H s D own ∧ DictN K H O own ∧ OwnW own ∧ DaysAt K H d dss ∧ daysOk dss = true ∧ Tabs (TT K) H ∧ ∀ H', Fr K [] H H' → Q (.bl true) H'
theorem c__law_stands_right (fx : Fx K mg w) (lx : Lx K mg base) : CalG P w K mg base 12 "_law_stands_right" (spStands K) := by
  refine fx.d__law_stands_right.okG sc__law_stands_right (fun vs H Q E q => ?_) (fun _ _ _ _ _ _ us hl => match us, hl with | [_, _, _], _ => rfl) fun f cdv A outer s H vs Q E hg0 hr q => ?_
  · obtain ⟨s, D, O, d, dss, own, rfl, _⟩ := q
    rfl
  · obtain ⟨sh, D, O, d, dss, own, rfl, hs, hO, hw, hday, hok, hT, q⟩ := q
    have hgd : (A.deeper (envOfC "_law_stands_right" (defScope (top 72)) s.heap.objs.size f cdv)).guards = some [] := hg0
    have hu2 := hu_of hr
    have hu := hr.units
    have hu70 : (A.deeper (envOfC "_law_stands_right" (defScope (top 72)) s.heap.objs.size f cdv)).units + 70 < cLine := by
      have := hr.un
      omega
    refine ⟨_, (pss_cons (ps_asg (pe_tup (pa_cons (pe_callB (call_sortedD rfl) rfl fx.n_sorted (by decide +kernel) (pa_cons (pv 1) pa_nil)) (pa_cons (pe_cr (c__law_claims fx) hr px (pa_cons (pv 2) (pa_cons (pv 1) pa_nil)) (hk := Nat.le_refl _)) pa_nil))) (pg_tup (n := 2) rfl (pgs_cons (pg_name (i := 3) (x := "names") sc__law_stands_right.nd rfl (Or.inl rfl) (.inl rfl)) (pgs_cons (pg_name (i := 4) (x := "claims") sc__law_stands_right.nd rfl (Or.inr rfl) (.inl rfl)) pgs_nil))))
    (pss_cons (ps_if (pt_cmpR (op_neD hu) (pe_lst (pa_cons (pe_methR0 (pv 0) fx.shm.2.1 fx.s_labels.meth (m_labels fx) (hr.mono (by decide)) px) (pa_cons (pe_methR0 (pv 0) fx.shm.2.1 fx.s_labels.meth (m_labels fx) (hr.mono (by decide)) px) (pa_cons (pe_callB (call_lenOwn (n := 1) ⟨fx.s_len.at_, fx.s_len.isF⟩ (m_len fx) (hr.mono (by decide)) px) rfl fx.n_len (by decide +kernel) (pa_cons (pv 0) pa_nil)) pa_nil)))) (pe_op op_cat (pe_op op_rep (pe_lst (pa_cons (pe_callTy call_tuple_of rfl fx.n_tuple (by decide +kernel) (pa_cons (pv 3) pa_nil)) pa_nil)) pe_int) (pe_lst (pa_cons (pe_callB call_len_seq rfl fx.n_len (by decide +kernel) (pa_cons (pv 3) pa_nil)) pa_nil))) (nomark _)) (pss_one (ps_ret pe_bl)) pss_nil)
    (pss_cons (ps_if (pt_cmpR op_ne (pe_callB (call_repr hgd hu70 fx.sysm) rfl fx.n_repr (by decide +kernel) (pa_cons (pe_lc (own := [("name", 7)]) (g := gName 7) (tt := tYes) rfl sc__law_stands_right.nd (pi_list (pv 3)) (blkOk_by (N := ["shelf_so", "own", "days_so", "names", "claims", "pairs", "at", "name", "far", "due", "lows", "one", "more"]) (sc := defScope (top 72)) (by decide +kernel)) (fun _ _ _ _ _ => (pg_name (i := 7) (x := "name") sc__law_stands_right.nd rfl (Or.inl rfl) (.inr rfl))) (fun _ _ _ _ _ => pts_nil) (fun _ _ _ _ _ => (pe_methR (pv 0) fx.shm.2.1 fx.s_seek.meth (m_seek fx) (hr.mono (by decide)) passL (pa_cons (pv 7) pa_nil)))) pa_nil)) (pe_callB (call_repr hgd hu70 fx.sysm) rfl fx.n_repr (by decide +kernel) (pa_cons (pe_lc (own := [("name", 7)]) (g := gName 7) (tt := tYes) rfl sc__law_stands_right.nd (pi_list (pv 3)) (blkOk_by (N := ["shelf_so", "own", "days_so", "names", "claims", "pairs", "at", "name", "far", "due", "lows", "one", "more"]) (sc := defScope (top 72)) (by decide +kernel)) (fun _ _ _ _ _ => (pg_name (i := 7) (x := "name") sc__law_stands_right.nd rfl (Or.inl rfl) (.inr rfl))) (fun _ _ _ _ _ => pts_nil) (fun _ _ _ _ _ => (pe_dget hu2 (pv 1) (pv 7) (fun _ _ => rfl)))) pa_nil)) (nomark _)) (pss_one (ps_ret pe_bl)) pss_nil)
    (pss_cons (ps_set (i := 5) sc__law_stands_right.nd rfl (Or.inl rfl) (pe_lst pa_nil))
    (pss_cons (ps_for PassesOwn.leaving rfl (pi_enum rfl fx.n_enumerate (pa_cons (pv 3) pa_nil)) (pg_tup (n := 2) rfl (pgs_cons (pg_name (i := 6) (x := "at") sc__law_stands_right.nd rfl (Or.inl rfl) (.inl rfl)) (pgs_cons (pg_name (i := 7) (x := "name") sc__law_stands_right.nd rfl (Or.inr rfl) (.inl rfl)) pgs_nil))) (pss_cons (ps_set (i := 5) sc__law_stands_right.nd rfl (Or.inl rfl) (pe_op op_cat (pv 5) (pe_lc (own := [("far", 8)]) (g := gName 8) (tt := (tAnd (tB (tDIn (tVar 7) (tVar 4))) (tTest (tOp (rEqD K) (tDGet1 (tVar 4) (tVar 8)) (tDGet (tVar 4) (tVar 7)))))) rfl sc__law_stands_right.nd (pi_list (pe_slice sl_list (pv 3) (po_some (pe_op op_add (pv 6) pe_int)) po_none)) (blkOk_by (N := ["shelf_so", "own", "days_so", "names", "claims", "pairs", "at", "name", "far", "due", "lows", "one", "more"]) (sc := defScope (top 72)) (by decide +kernel)) (fun _ _ _ _ _ => (pg_name (i := 8) (x := "far") sc__law_stands_right.nd rfl (Or.inl rfl) (.inr rfl))) (fun _ _ _ _ _ => (pts_one (PW.pt (pw_and (pt_cmp (pc_din hu2 (pv 7) (pv 4)) (by with_unfolding_all rfl)) (pw_and1 (pt_cmpR (op_eqD hu) (pe_dget1 hu2 (pv 4) (pv 8) ⟨rfl, rfl, rfl, rfl⟩) (pe_dget hu2 (pv 4) (pv 7) (fun _ _ => rfl)) (nomark _))))))) (fun _ _ _ _ _ => (pe_tup (pa_cons (pv 7) (pa_cons (pv 8) pa_nil)))))))
      (pss_cons (ps_set (i := 9) sc__law_stands_right.nd rfl (Or.inl rfl) (pe_lst pa_nil))
      (pss_cons (ps_for PassesOwn.leaving rfl (pi_list (pe_ifExp (pt_cmp (pc_din hu2 (pv 7) (pv 4)) (by with_unfolding_all rfl)) (pe_callB (call_sortedD rfl) rfl fx.n_sorted (by decide +kernel) (pa_cons (pv 4) pa_nil)) (pe_lst pa_nil))) (pg_name (i := 8) (x := "far") sc__law_stands_right.nd rfl (Or.inl rfl) (.inl rfl)) (pss_cons (ps_setLc (i := 10) (own := [("one", 11), ("more", 12)]) (g := (gTup K 2 (gCons (gName 11) (gCons (gName 12) gNil)))) rfl sc__law_stands_right.nd rfl rfl (sw_true rfl rfl rfl (by decide +kernel)) (RZ.pi_zipA rfl fx.n_zip (pa_cons (pe_dget hu2 (pv 4) (pv 7) (fun _ _ => rfl)) (pa_cons (pe_dget hu2 (pv 4) (pv 8) (fun _ _ => rfl)) pa_nil))) (blkOk_by (N := ["shelf_so", "own", "days_so", "names", "claims", "pairs", "at", "name", "far", "due", "lows", "one", "more"]) (sc := defScope (top 72)) (by decide +kernel)) (fun _ _ _ _ _ => (pg_tup (n := 2) rfl (pgs_cons (pg_name (i := 11) (x := "one") sc__law_stands_right.nd rfl (Or.inl rfl) (.inr rfl)) (pgs_cons (pg_name (i := 12) (x := "more") sc__law_stands_right.nd rfl (Or.inl rfl) (.inr rfl)) pgs_nil)))) (fun _ _ _ _ _ => (pts_one (pt_cmpR op_lt (pv 12) (pv 11) (nomark _)))) (fun _ _ _ _ _ => pe_int))
        (pss_one (ps_if (PW.pt (pw_and (pt_cmpR op_ne (pv 8) (pv 7) (nomark _)) (pw_and1 (pt_cmpR (op_eqD hu) (pv 10) (pe_lst pa_nil) (nomark _))))) (pss_one (ps_expr (pe_bm PySem.F.plainAttrs_list PySem.F.slot_list_append PySem.F.type_list_append mt_append (pv 9) (pa_cons (pv 8) pa_nil)))) pss_nil))))
      (pss_one (ps_if (PW.pt (pw_or (pt_cmpR op_ne (pe_callB (call_repr hgd hu70 fx.sysm) rfl fx.n_repr (by decide +kernel) (pa_cons (pe_methR (pv 0) fx.shm.2.1 fx.s_paying.meth (m_paying fx lx) (hr.mono (by decide)) px (pa_cons (pv 2) (pa_cons (pv 7) pa_nil))) pa_nil)) (pe_callB (call_repr hgd hu70 fx.sysm) rfl fx.n_repr (by decide +kernel) (pa_cons (pe_callTy call_tuple_of rfl fx.n_tuple (by decide +kernel) (pa_cons (pv 9) pa_nil)) pa_nil)) (nomark _)) (pw_or1 (pt_cmpR (op_notInOwn ⟨fx.s_contains.at_, fx.s_contains.isF⟩ (m_contains fx) (hr.mono (by decide)) px) (pv 7) (pv 0) (by with_unfolding_all rfl))))) (pss_one (ps_ret pe_bl)) pss_nil))))))
    (pss_one (ps_ret (pe_cmpR op_eq (pe_callB (call_repr hgd hu70 fx.sysm) rfl fx.n_repr (by decide +kernel) (pa_cons (pe_lst (pa_cons (pe_methR (pv 0) fx.shm.2.1 fx.s_alike.meth (m_alike fx lx) (hr.mono (by decide)) px (pa_cons (pv 2) pa_nil)) (pa_cons (pe_methR (pv 0) fx.shm.2.1 fx.s_alike.meth (m_alike fx lx) (hr.mono (by decide)) px (pa_cons (pv 2) pa_nil)) pa_nil))) pa_nil)) (pe_callB (call_repr hgd hu70 fx.sysm) rfl fx.n_repr (by decide +kernel) (pa_cons (pe_op op_rep (pe_lst (pa_cons (pe_callTy call_tuple_of rfl fx.n_tuple (by decide +kernel) (pa_cons (pv 5) pa_nil)) pa_nil)) pe_int) pa_nil)) (nomark _))))))))), ?_⟩
    repeat walk_at "k"
    obtain ⟨hwo, hl6⟩ := hw.ok
    obtain ⟨okv, hO1, hO2⟩ := id hO
    have hnl : (names own).length ≤ 6 := by unfold names; rw [List.length_map]; exact hl6
    refine ⟨O, okv, names own, rfl, .inl hO1, hO2.keys, by omega, fun ys N hys hso hN => ?_⟩
    have hyl : ys.length ≤ 6 := by rw [hys.length_eq]; exact hnl
    have hyn : ∀ y ∈ ys, y ∈ nameL := fun y hy => hw.sub y (hys.mem_iff.mp hy)
    have eN := Ext.new (o := .lst (ys.map V.str)) hN
    have hN1 : (upd H N (.lst (ys.map V.str))) N = some (.lst (ys.map V.str)) := upd_same
    repeat walk_at "k"
    refine ⟨d, O, dss, own, rfl, hday.tk eN.tk, hok, hO.ext eN, hwo, hw.nd, fun zs H1 C kvs hzs hzo e1 hCn hC hcl => ?_⟩
    obtain rfl : ys = zs := sortedS_one (hys.trans hzs.symm) hso hzo
    repeat walk_at "k"
    refine ⟨by show 2 ≤ sizeLine; decide, fun p hp => ?_⟩
    have e2 := Ext.new (o := .tup [.ref N, .ref C]) hp
    refine ⟨p, _, rfl, .inl (.inl upd_same), rfl, _, _, rfl, r_gname ⟨_, _, rfl, r_gname ⟨rfl, ?_⟩⟩⟩
    have e02 := eN.trans (e1.trans e2)
    have hN2 := (e1.trans e2) _ _ hN1
    have hC2 := e2 _ _ hC
    have hcl2 : ClD _ kvs (claimsL dss own ys) := hcl.fr (e2.fr (K := K) (B := [])) (fun b hb => by cases hb)
    generalize upd H1 p (.tup [.ref N, .ref C]) = H2 at e02 hN2 hC2 hcl2 ⊢
    clear eN hN hN1 e1 hCn hC hcl e2 hp hzs hzo
    obtain ⟨⟨dx, hs1⟩, _⟩ := id hs
    have hs2 := hs.ext e02
    have hs12 := e02 _ _ hs1
    have hO2 := hO.ext e02
    repeat walk_at "k"
    refine ⟨sh, dx, _, rfl, hs12, rfl, ?_⟩
    repeat walk_at "k"
    refine ⟨sh, D, own, rfl, hs2, by omega, fun ys1 H3 p1 hy1 ho1 e3 hp1 => ?_⟩
    obtain rfl : ys = ys1 := sortedS_one (hys.trans hy1.symm) hso ho1
    repeat walk_at "k"
    refine ⟨sh, dx, _, rfl, e3 _ _ hs12, rfl, ?_⟩
    repeat walk_at "k"
    refine ⟨sh, D, own, rfl, hs2.ext e3, by omega, fun ys2 H4 p2 hy2 ho2 e4 hp2 => ?_⟩
    obtain rfl : ys = ys2 := sortedS_one (hys.trans hy2.symm) hso ho2
    repeat walk_at "k"
    refine ⟨sh, dx, _, rfl, (e3.trans e4) _ _ hs12, sh, D, own, rfl, hs2.ext (e3.trans e4), own.length, rfl, by omega, by omega, ?_⟩
    repeat walk_at "k"
    refine ⟨by show 3 ≤ sizeLine; decide, fun l1 hl1 => ?_⟩
    have y5 := Ext.new (o := .lst [.ref p1, .ref p2, .int own.length]) hl1
    have hp15 := (e4.trans y5).tup hp1
    have hp25 := y5.tup hp2
    have hl15 : (upd H4 l1 (.lst [.ref p1, .ref p2, .int own.length])) l1 = some (.lst [.ref p1, .ref p2, .int own.length]) := upd_same
    have e25 := e3.trans (e4.trans y5)
    generalize upd H4 l1 (.lst [.ref p1, .ref p2, .int own.length]) = H5 at hp15 hp25 hl15 e25 ⊢
    clear e3 hp1 e4 hp2 hl1 y5
    repeat walk_at "k"
    refine ⟨N, _, rfl, .inl ⟨.inl (.inl (e25 _ _ hN2)), fun p3 hp3 => ?_⟩⟩
    have e6 := Ext.new (o := .tup (ys.map V.str)) hp3
    repeat walk_at "k"
    refine ⟨by show 1 ≤ sizeLine; decide, fun l2 hl2 => ?_⟩
    have e7 := Ext.new (o := .lst [.ref p3]) hl2
    repeat walk_at "k"
    refine ⟨l2, 2, [.ref p3], rfl, rfl, upd_same, by decide, by decide, by show 1 * 2 ≤ sizeLine; decide, fun l3 hl3 => ?_⟩
    rw [show (List.replicate (2 : Int).toNat [V.ref p3]).flatten = [V.ref p3, V.ref p3] from rfl]
    have e8 := Ext.new (o := .lst [.ref p3, .ref p3]) hl3
    repeat walk_at "k"
    refine ⟨N, ys.map V.str, rfl, .inl (.inl (.inl ((e6.trans (e7.trans e8)) _ _ (e25 _ _ hN2)))), ?_⟩
    repeat walk_at "k"
    have hle : (List.map V.str ys).length = own.length := by rw [List.length_map, hys.length_eq]; unfold names; rw [List.length_map]
    rw [hle]
    refine ⟨by show 1 ≤ sizeLine; decide, fun l4 hl4 => ?_⟩
    have e9 := Ext.new (o := .lst [.int own.length]) hl4
    refine ⟨l3, l4, [.ref p3, .ref p3], [.int own.length], rfl, rfl, e9 _ _ upd_same, upd_same, by show 2 + 1 ≤ sizeLine; decide, fun l5 hl5 => ?_⟩
    have e10 := Ext.new (o := .lst ([.ref p3, .ref p3] ++ [.int own.length])) hl5
    have hp3 := (e7.trans (e8.trans (e9.trans e10))) _ _ upd_same
    have hl5 : (upd (upd (upd (upd (upd H5 p3 (.tup (ys.map V.str))) l2 (.lst [.ref p3])) l3 (.lst [.ref p3, .ref p3])) l4 (.lst [.int own.length])) l5 (.lst ([.ref p3, .ref p3] ++ [.int own.length]))) l5 = some (.lst ([.ref p3, .ref p3] ++ [.int own.length])) := upd_same
    have e5x := e6.trans (e7.trans (e8.trans (e9.trans e10)))
    generalize upd (upd (upd (upd (upd H5 p3 (.tup (ys.map V.str))) l2 (.lst [.ref p3])) l3 (.lst [.ref p3, .ref p3])) l4 (.lst [.int own.length])) l5 (.lst ([.ref p3, .ref p3] ++ [.int own.length])) = H6 at hp3 hl5 e5x ⊢
    clear e6 e7 e8 e9 e10 hl2 hl3 hl4
    have smn := sm_names ys hyn
    have ism := int_small (n := own.length) (by omega)
    have sm : SmA [.tuple (ys.map .str), .tuple (ys.map .str), .int own.length] 2 _ := SmA.tup (.inl rfl) smn (SmA.tup (.inl rfl) smn (SmA.cons rfl (by simp only [PyData.depth]; omega) ism.1 ism.2.2 ism.2.1 (SmA.nil (n := 0))))
    obtain ⟨_, hsh, heq⟩ := sm.fits (d := .list [.tuple (ys.map .str), .tuple (ys.map .str), .int own.length]) (.inr rfl) (by decide) (by omega)
    have e26 := e25.trans e5x
    refine ⟨.list [.tuple (ys.map .str), .tuple (ys.map .str), .int own.length], .list [.tuple (ys.map .str), .tuple (ys.map .str), .int own.length], .lst (.inl (.inl (e5x _ _ hl15))) (.cons (.tup (e5x.tup hp15) (dp_strs ys)) (.cons (.tup (e5x.tup hp25) (dp_strs ys)) (.cons (.int _) .nil))), .lst (.inl (.inl hl5)) (.cons (.tup (.inl (.inl hp3)) (dp_strs ys)) (.cons (.tup (.inl (.inl hp3)) (dp_strs ys)) (.cons (.int _) .nil))), hsh, hsh, ?_⟩
    rw [heq]
    clear hsh heq sm smn ism hp3 hl5 hl15 hp15 hp25 e5x e25
    have hs6 := hs2.ext e26
    have hs16 := e26 _ _ hs12
    have hO6 := hO2.ext e26
    have hN6 := e26 _ _ hN2
    have hC6 := e26 _ _ hC2
    have hcl6 : ClD H6 kvs (claimsL dss own ys) := hcl2.fr (e26.fr (K := K) (B := [])) (fun b hb => by cases hb)
    have e06 := e02.trans e26
    clear hs2 hs12 hO2 hN2 hC2 hcl2 e26 e02
    repeat walk_at "k"
    have look : ∀ y ∈ ys, ∀ Hq, Ext H6 Hq → ∃ kv v t, Hq O = some (.dK kv) ∧ valV kv (.inr y) = some v ∧ lookN own y = some t ∧ TR K Hq t v ∧ (y, t) ∈ own := fun y hy Hq eq => by
      obtain ⟨kv, k1, k2⟩ := hO6.ext eq
      rcases k2.val y with ⟨_, z2⟩ | ⟨v, t, z1, z2, z3, z4⟩
      · exfalso
        obtain ⟨e, he, rfl⟩ := List.mem_map.mp (hys.mem_iff.mp hy)
        unfold lookN at z2
        rw [Option.map_eq_none_iff, List.find?_eq_none] at z2
        exact z2 e he (by simp)
      · exact ⟨kv, v, t, k1, z1, z2, z3, z4⟩
    have hlab : ∀ y ∈ ys, ∀ Hq, LabV K Hq (.str y) true := fun y hy Hq => nm_lab (hyn y hy) Hq
    have terms : ∃ ts : List T, ts.length = ys.length ∧ ∀ (i : Nat) (y : Str), ys[i]? = some y → ∃ t, ts[i]? = some t ∧ lookN own y = some t ∧ (y, t) ∈ own := by
      refine ⟨ys.map fun y => (lookN own y).getD (.lf .cash 0), by rw [List.length_map], fun i y hy => ?_⟩
      obtain ⟨_, _, t, _, _, h3, _, h5⟩ := look y (List.mem_of_getElem? hy) H6 (Ext.refl _)
      exact ⟨t, by rw [List.getElem?_map, hy]; show some ((lookN own y).getD _) = _; rw [h3]; rfl, h3, h5⟩
    obtain ⟨ts, htl, hts⟩ := terms
    have hfit : Fits (.list (ts.map T.data)) := terms_fit ts (by omega) fun t ht => by
      obtain ⟨i, hi, e⟩ := List.mem_iff_getElem.mp ht
      obtain ⟨t', h1, _, h2⟩ := hts i _ (List.getElem?_eq_getElem (by omega : i < ys.length))
      have h3 : ts[i]? = some t := by rw [List.getElem?_eq_getElem hi, e]
      rw [h3] at h1
      cases h1
      have h4 := hw.wf _ h2
      exact ⟨by rw [← allOwn_allT]; exact h4.2.2, h4.1, h4.2.1⟩
    refine ⟨N, rfl, ⟨_, .inl (.inl hN6)⟩, fun D1 hD1 => lc_rel (K := K) walk_list hD1 (by rw [List.length_map]; omega) (fun Hq e => .inl (.inl (e _ _ hN6))) (fun j acc Hq => TRs K Hq acc (ts.take j)) .nil (fun j acc Ha Hb k8 z => z.tk k8) yAt_ext (fun j y Hx acc Hd hj ed k8 hDb z yy Kt Kf hKt _ => ?_) fun Hd acc ed hDa z => ?_⟩
    · obtain ⟨rfl, hy⟩ := yy
      rw [List.getElem?_map] at hy
      obtain ⟨y, hyi, rfl⟩ := Option.map_eq_some_iff.mp hy
      obtain ⟨t, hti, hlk, _⟩ := hts j y hyi
      refine r_gname ⟨rfl, ?_⟩
      repeat walk_at "k"
      refine ⟨sh, dx, _, rfl, ed _ _ hs16, rfl, ?_⟩
      repeat walk_at "k"
      refine ⟨sh, D, own, .str y, some t, rfl, hs6.ext ed, .at_ (hlab y (List.mem_of_getElem? hyi) _) hlk, fun l t' hl ht' H7 x e7 hx7 => ?_, fun h => absurd h (by simp)⟩
      cases hl
      cases ht'
      refine hKt _ _ e7 ?_
      rw [take_succ_get hti]
      exact paired_snoc (F := fun v t => TR K H7 t v) hx7 (TRs.tk z e7.tk)
    · rw [List.length_map, ← htl, List.take_length] at z
      repeat walk_at "k"
      refine r_repr (.lst (.inl (.inl hDa)) z.dx) hfit ?_
      repeat walk_at "k"
      refine ⟨N, rfl, ⟨_, .inl (.inl (ed _ _ hN6))⟩, fun D2 hD2 => lc_rel (K := K) walk_list hD2 (by rw [List.length_map]; omega) (fun Hq e => .inl (.inl ((ed.trans e) _ _ hN6))) (fun j acc Hq => TRs K Hq acc (ts.take j)) .nil (fun j acc Ha Hb k8 z => z.tk k8) yAt_ext (fun j y Hx acc He hj ee k8 hDb z yy Kt Kf hKt _ => ?_) fun He acc2 ee hDb z2 => ?_⟩
      · obtain ⟨rfl, hy⟩ := yy
        rw [List.getElem?_map] at hy
        obtain ⟨y, hyi, rfl⟩ := Option.map_eq_some_iff.mp hy
        obtain ⟨t, hti, hlk, _⟩ := hts j y hyi
        obtain ⟨kv, v, t', g1, g2, g3, g4, _⟩ := look y (List.mem_of_getElem? hyi) _ (ed.trans ee)
        rw [hlk] at g3
        cases g3
        refine r_gname ⟨rfl, ?_⟩
        repeat walk_at "k"
        have hg := DGet.k (k := .inr y) g1
        rw [g2] at hg
        refine ⟨O, v, rfl, hg, hKt _ _ (Ext.refl _) ?_⟩
        rw [take_succ_get hti]
        exact paired_snoc (F := fun v t => TR K He t v) g4 z
      · rw [List.length_map, ← htl, List.take_length] at z2
        repeat walk_at "k"
        refine r_repr (.lst (.inl (.inl hDb)) z2.dx) hfit ?_
        repeat walk_at "k"
        rw [decide_eq_true rfl]
        repeat walk_at "k"
        refine ⟨by decide, fun P0 hP0 => ?_⟩
        have eP := Ext.new (o := .lst []) hP0
        have hP1 : (upd He P0 (.lst [])) P0 = some (.lst []) := upd_same
        have e6l := (ed.trans ee).trans eP
        generalize upd He P0 (.lst []) = HL at hP1 e6l ⊢
        clear hDb z2 hD2 hDa z hD1 ee ed eP hP0
        have hNL := e6l _ _ hN6
        have hCL := e6l _ _ hC6
        have hclL : ClD HL kvs (claimsL dss own ys) := hcl6.fr (e6l.fr (K := K) (B := [])) (fun b hb => by cases hb)
        have hsL := hs6.ext e6l
        have hs1L := e6l _ _ hs16
        have f0L : Fr K [] H HL := (e06.trans e6l).fr
        clear look hs6 hs16 hO6 hN6 hC6 hcl6 e06 e6l
        repeat walk_at "k"
        refine ⟨N, _, rfl, .inl (.inl hNL), ?_⟩
        refine for_it walk_enum (fun i σ' H' => Fr K [] HL H' ∧ ∃ (pa : Addr) (qs : List Addr) (ps : List (Str × Str)) (o6 o7 o8 o9 o10 o11 o12 : Option V), σ' = [some (.ref sh), some (.ref O), some (.ref d), some (.ref N), some (.ref C), some (.ref pa), o6, o7, o8, o9, o10, o11, o12] ∧ H' pa = some (.lst (qs.map .ref)) ∧ PairsR K H' qs ps ∧ ps ++ pairsW dss own (ys.drop i) = pairsW dss own ys)
          ⟨Fr.refl _, P0, [], [], none, none, none, none, none, none, none, rfl, hP1, .nil, rfl⟩ (fun i σ' H' _ z => .inl (.inl (z.1.lst (by simp) hNL))) (fun i yv σ' Ha Hb hi z yy => ?_) fun σ' H' z => ?_
        · obtain ⟨fa, pa, qs, ps, o6, o7, o8, o9, o10, o11, o12, rfl, hpa, hps, hpe⟩ := z
          obtain ⟨Ti, y1, y2, rfl, hTi, rfl, hy1, hy2⟩ := yy
          cases hy1
          replace hy2 : (ys.map V.str)[i]? = some y2 := hy2
          rw [List.getElem?_map] at hy2
          obtain ⟨y, hyi, rfl⟩ := Option.map_eq_some_iff.mp hy2
          have hym := List.mem_of_getElem? hyi
          have hil := (List.getElem?_eq_some_iff.mp hyi).1
          have hpl : ps.length ≤ 36 := by
            have h1 := congrArg List.length hpe
            rw [List.length_append] at h1
            have h2 := pairsW_len dss own ys
            have h3 : ys.length * ys.length ≤ 6 * 6 := Nat.mul_le_mul hyl hyl
            omega
          have hql : qs.length = ps.length := Paired.length hps
          have eT := Ext.new (o := .tup [.int (i : Nat), .str y]) hTi
          have fb : Fr K [] HL (upd Ha Ti (.tup [.int (i : Nat), .str y])) := fa.trans eT.fr
          have hpb := eT _ _ hpa
          have hpsb := hps.tk (K := K) eT.tk
          have hTT : SqT K (upd Ha Ti (.tup [.int (i : Nat), .str y])) Ti [.int (i : Nat), .str y] := .inl (.inl upd_same)
          generalize upd Ha Ti (.tup [.int (i : Nat), .str y]) = Hb at fb hpb hpsb hTT ⊢
          clear fa hpa hps eT hTi
          refine ⟨Ti, _, rfl, hTT, rfl, _, _, rfl, r_gname ⟨_, _, rfl, r_gname ⟨rfl, ?_⟩⟩⟩
          repeat walk_at "k"
          have hNb : Hb N = some (.lst (ys.map .str)) := fb.lst (by simp) hNL
          refine ⟨N, _, rfl, .inl (.inl hNb), fun S2 hS2 => ?_⟩
          rw [cutV_from _ (by rw [List.length_map]; exact hil), ← List.map_drop]
          have e3 := Ext.new (o := .lst ((ys.drop (i + 1)).map V.str)) hS2
          have hS3 : (upd Hb S2 (.lst ((ys.drop (i + 1)).map V.str))) S2 = some (.lst ((ys.drop (i + 1)).map V.str)) := upd_same
          have fc := fb.trans (e3.fr (K := K) (B := []))
          have hpc := e3 _ _ hpb
          have hpsc := hpsb.tk (K := K) e3.tk
          generalize upd Hb S2 (.lst ((ys.drop (i + 1)).map V.str)) = Hc at fc hpc hpsc hS3 ⊢
          have hCc : Hc C = some (.dK kvs) := fc.kp _ _ (by simp) hCL fun _ z => by cases z
          have hclc : ClD Hc kvs (claimsL dss own ys) := hclL.fr fc (fun b hb => by cases hb)
          have hkl : kvs.length ≤ 6 := by
            rw [Paired.length hclc]
            have := (claimsL_names dss own ys).length_le
            rw [List.length_map] at this
            omega
          refine ⟨S2, rfl, ⟨_, .inl (.inl hS3)⟩, fun D3 hD3 => lc_rel (K := K) walk_list hD3 (by rw [List.length_map, List.length_drop]; omega) (fun Hq e => .inl (.inl (e _ _ hS3))) (fun j acc Hq => ∃ us : List Addr, acc = us.map .ref ∧ PairsR K Hq us (rowW dss own y ((ys.drop (i + 1)).take j))) ⟨[], rfl, by unfold rowW; cases claimAt dss own y <;> exact .nil⟩ (fun j acc Ha Hb k8 z => ?_) yAt_ext (fun j xv Hx acc Hd hj ed k8 hDb z yy Kt Kf hKt hKf => ?_) fun Hd acc ed hDa z => ?_⟩
          · obtain ⟨us, g1, g2⟩ := z
            exact ⟨us, g1, g2.tk k8⟩
          · obtain ⟨us, rfl, hus⟩ := z
            obtain ⟨rfl, hx⟩ := yy
            rw [List.getElem?_map] at hx
            obtain ⟨x, hxi, rfl⟩ := Option.map_eq_some_iff.mp hx
            have hxm : x ∈ ys := List.mem_of_mem_drop (List.mem_of_getElem? hxi)
            rw [take_succ_get hxi, rowW_snoc] at hKt hKf
            have hCd := ed _ _ hCc
            have hcld : ClD Hd kvs (claimsL dss own ys) := hclc.fr (ed.fr (K := K) (B := [])) (fun b hb => by cases hb)
            have hgy := DGet.k (k := .inr y) hCd
            have hgx := DGet.k (k := .inr x) hCd
            refine r_gname ⟨rfl, ?_⟩
            repeat walk_at "k"
            refine ⟨C, _, rfl, hgy, ?_⟩
            rcases hcld.at hym with ⟨c1, c2⟩ | ⟨c, l, c1, c2, c3⟩
            · rw [c1, List.append_nil] at hKf
              rw [c2]
              refine ⟨false, rfl, ite_eqF rfl ?_⟩
              exact hKf _ (Ext.refl _) ⟨us, rfl, hus⟩
            · rw [c1] at hKt hKf
              rw [c2] at hgy ⊢
              refine ⟨true, rfl, ite_eqT rfl ?_⟩
              rcases hcld.at hxm with ⟨g1, g2⟩ | ⟨c2', l', g1, g2, g3⟩
              · simp only [g1, reduceCtorEq, if_false, List.append_nil] at hKf
                rw [g2] at hgx
                repeat walk_at "k"
                refine r_dget1 ?_
                refine r_var rfl ?_
                refine ⟨C, rfl, .inl ⟨_, .inl hCd⟩, ?_⟩
                refine r_var rfl ?_
                refine ⟨_, hgx, ?_⟩
                repeat walk_at "k"
                refine ⟨C, _, rfl, hgy, ?_⟩
                refine ⟨.none, .list (c.map .int), .non, .lst (.inl (.inl c3)) (dp_ints _), by decide +kernel, shaped_ints c, false, by simp [PyData.eqv], ite_eqF rfl ?_⟩
                exact hKf _ (Ext.refl _) ⟨us, rfl, hus⟩
              · rw [g1] at hKt hKf
                rw [g2] at hgx
                repeat walk_at "k"
                refine r_dget1 ?_
                refine r_var rfl ?_
                refine ⟨C, rfl, .inl ⟨_, .inl hCd⟩, ?_⟩
                refine r_var rfl ?_
                refine ⟨_, hgx, ?_⟩
                repeat walk_at "k"
                refine ⟨C, _, rfl, hgy, ?_⟩
                refine ⟨.list (c2'.map .int), .list (c.map .int), .lst (.inl (.inl g3)) (dp_ints _), .lst (.inl (.inl c3)) (dp_ints _), shaped_ints c2', shaped_ints c, decide (c2' = c), by rw [eqv_lists], ?_⟩
                by_cases hcc : c2' = c
                · simp only [Option.some.injEq, hcc, ↓reduceIte] at hKt
                  refine ite_eqT (decide_eq_true hcc) ?_
                  repeat walk_at "k"
                  refine ⟨by show 2 ≤ sizeLine; decide, fun p2 hp2 => hKt _ _ (Ext.new hp2) ⟨us ++ [p2], by simp, ?_⟩⟩
                  exact paired_snoc (b := (y, x)) (.inl (.inl upd_same)) (hus.tk (Ext.new hp2).tk)
                · simp only [Option.some.injEq, hcc, ↓reduceIte, List.append_nil] at hKf
                  refine ite_eqF (decide_eq_false hcc) ?_
                  exact hKf _ (Ext.refl _) ⟨us, rfl, hus⟩
          · obtain ⟨us, rfl, hus⟩ := z
            rw [List.length_map, List.take_of_length_le (Nat.le_refl _)] at hus
            have hul := Paired.length hus
            have hrl := rowW_len dss own y (ys.drop (i + 1))
            rw [List.length_drop] at hrl
            repeat walk_at "k"
            refine ⟨pa, D3, qs.map .ref, us.map .ref, rfl, rfl, ed _ _ hpc, hDa, by rw [List.length_map, List.length_map, sizeLine_eq]; omega, fun pb hpb2 => ?_⟩
            have e4 := Ext.new (o := .lst (qs.map V.ref ++ us.map V.ref)) hpb2
            have hpB : (upd Hd pb (.lst (qs.map V.ref ++ us.map V.ref))) pb = some (.lst ((qs ++ us).map .ref)) := by rw [upd_same, List.map_append]
            have hpsB : PairsR K (upd Hd pb (.lst (qs.map V.ref ++ us.map V.ref))) (qs ++ us) (ps ++ rowW dss own y (ys.drop (i + 1))) := paired_app ((hpsc.tk ed.tk).tk e4.tk) (hus.tk e4.tk)
            have fd := fc.trans ((ed.trans e4).fr (K := K) (B := []))
            generalize upd Hd pb (.lst (qs.map V.ref ++ us.map V.ref)) = He at hpB hpsB fd ⊢
            have hpe2 : (ps ++ rowW dss own y (ys.drop (i + 1))) ++ pairsW dss own (ys.drop (i + 1)) = pairsW dss own ys := by
              rw [← hpe, List.append_assoc, drop_cons hyi]
              rfl
            clear hus hul hrl hDa ed hD3 hclc hCc hpsc hpc fc hS3 hS2 hNb hpb hpsb hTT fb e3 e4 hpb2
            repeat walk_at "k"
            refine ⟨by decide, fun W hW => ?_⟩
            have eW := Ext.new (o := .lst []) hW
            have hW1 : (upd He W (.lst [])) W = some (.lst []) := upd_same
            have fW := fd.trans (eW.fr (K := K) (B := []))
            have out : ∀ H', Fr K [W] (upd He W (.lst [])) H' → Fr K [] HL H' := fun H' f => fd.out hW f
            have hcle : ClD He kvs (claimsL dss own ys) := hclL.fr fd (fun b hb => by cases hb)
            have outC : ∀ H', Fr K [W] (upd He W (.lst [])) H' → ClD H' kvs (claimsL dss own ys) := fun H' f => hcle.out hW eW f
            have hpW := eW _ _ hpB
            have hpsW := hpsB.tk (K := K) eW.tk
            have npW : pb ≠ W := ne_of_none hpB hW
            generalize upd He W (.lst []) = Hw at hW1 fW out outC hpW hpsW ⊢
            clear eW hW hpB hpsB fd hcle
            have hCw : Hw C = some (.dK kvs) := fW.kp _ _ (by simp) hCL fun _ z => by cases z
            have hclw : ClD Hw kvs (claimsL dss own ys) := hclL.fr fW (fun b hb => by cases hb)
            have hgyw := DGet.k (k := .inr y) hCw
            have nCW : C ≠ W := ne_of hCw hW1 fun z => by cases z
            have hcsn : ((claimsL dss own ys).map (·.1)).length ≤ 6 := Nat.le_trans (claimsL_names dss own ys).length_le hyl
            with_reducible refine r_gname ?_
            with_reducible refine r_seq ?_
            with_reducible refine r_for ?_
            with_reducible refine r_itL ?_
            refine join (TT := tIf _ _ _ _ _) (R := fun v H' => ∃ (L : Addr) (zs : List Str), v = .ref L ∧ H' L = some (.lst (zs.map .str)) ∧ L ≠ W ∧ Ext Hw H' ∧ zs = match claimAt dss own y with
              | some _ => (claimsL dss own ys).map (·.1)
              | none => []) (fun Q' hQ' => ?_) (fun Lv Hx hR => ?_)
            · repeat walk_at "k"
              refine ⟨C, _, rfl, hgyw, ?_⟩
              rcases hclw.at hym with ⟨c1, c2⟩ | ⟨c, l, c1, c2, c3⟩
              · rw [c2]
                refine ⟨false, rfl, ite_eqF rfl ?_⟩
                repeat walk_at "k"
                refine ⟨by decide, fun L hL => hQ' _ _ ⟨L, [], rfl, upd_same, (ne_of_none hW1 hL).symm, Ext.new hL, by rw [c1]⟩⟩
              · rw [c2]
                refine ⟨true, rfl, ite_eqT rfl ?_⟩
                repeat walk_at "k"
                refine ⟨C, kvs, (claimsL dss own ys).map (·.1), rfl, .inl hCw, hclw.keys, by omega, fun zs L hzs hzo hL => hQ' _ _ ⟨L, zs, rfl, upd_same, (ne_of_none hW1 hL).symm, Ext.new hL, by rw [c1]; exact claims_sorted hso hzs hzo⟩⟩
            · obtain ⟨L, zs, rfl, hL, nLW, eX, hzs⟩ := hR
              have hzl : zs.length ≤ 6 := by
                rw [hzs]
                cases claimAt dss own y with
                | none => simp
                | some c => exact hcsn
              refine ⟨L, rfl, ⟨_, .inl (.inl hL)⟩, ?_⟩
              refine for_it walk_list (fun j σ' H' => Fr K [W] Hx H' ∧ ∃ (rs : List Str) (o8' o10' o11' o12' : Option V), σ' = [some (.ref sh), some (.ref O), some (.ref d), some (.ref N), some (.ref C), some (.ref pb), some (.int (i : Nat)), some (.str y), o8', some (.ref W), o10', o11', o12'] ∧ H' W = some (.lst (rs.map .str)) ∧ rs.length ≤ j ∧ rs = match claimAt dss own y with
                  | some c => payingN c y ((claimsL dss own ys).take j)
                  | none => [])
                ⟨Fr.refl _, [], _, _, _, _, rfl, eX _ _ hW1, Nat.le_refl _, by cases claimAt dss own y <;> rfl⟩ (fun j σ' H' _ z => .inl (.inl (z.1.lst (by simpa using nLW) hL))) (fun j xv σ' Hp Hq hj z yy => ?_) fun σ' H' z => ?_
              · obtain ⟨fp, rs, o8', o10', o11', o12', rfl, hWp, hrl, hrs⟩ := z
                obtain ⟨rfl, hx⟩ := yy
                rw [List.getElem?_map] at hx
                obtain ⟨x, hxi, rfl⟩ := Option.map_eq_some_iff.mp hx
                have fp2 : Fr K [W] Hw Hq := (eX.fr (K := K) (B := [W])).trans fp
                have hCq : Hq C = some (.dK kvs) := fp2.kp _ _ (by simpa using nCW) hCw fun _ z => by cases z
                have hclq := outC _ fp2
                rcases hclq.at hym with ⟨c1, c2⟩ | ⟨c, l, c1, c2, c3⟩
                · rw [c1] at hzs
                  rw [hzs] at hxi
                  cases hxi
                · rw [c1] at hzs hrs ⊢
                  have hxi2 := hxi
                  rw [hzs, List.getElem?_map] at hxi2
                  obtain ⟨e, hei, rfl⟩ := Option.map_eq_some_iff.mp hxi2
                  obtain ⟨he1, he2⟩ := claimsL_at (List.mem_of_getElem? hei)
                  rcases hclq.at he2 with ⟨g1, _⟩ | ⟨c', l', g1, g2, g3⟩
                  · rw [g1] at he1
                    cases he1
                  · rw [g1] at he1
                    cases he1
                    have hgy := DGet.k (k := .inr y) hCq
                    have hgx := DGet.k (k := .inr e.1) hCq
                    rw [c2] at hgy
                    rw [g2] at hgx
                    have hcl1 := claimAt_len hok c1
                    have hcl2 := claimAt_len hok g1
                    refine r_gname ?_
                    repeat walk_at "k"
                    refine ⟨C, _, rfl, hgy, ?_⟩
                    repeat walk_at "k"
                    refine ⟨C, _, rfl, hgx, ?_⟩
                    repeat walk_at "k"
                    have hzm : (c.zip e.2).length = min (c.map V.int).length (e.2.map V.int).length := by rw [List.length_map, List.length_map, List.length_zip]
                    refine ⟨l, l', c.map .int, e.2.map .int, rfl, .inl ⟨.inl (.inl c3), .inl (.inl g3), fun D2 hD2 => lc_rel (K := K) (walk_zip (a := l) (b := l') hzm) hD2 (by rw [List.length_zip]; omega) (fun H6 e6 => ⟨.inl (.inl (e6 _ _ c3)), .inl (.inl (e6 _ _ g3))⟩) (fun m acc _ => ∃ k : Nat, acc = (List.replicate k (1 : Int)).map V.int ∧ decide (k = 0) = ((c.zip e.2).take m).all fun p => !decide (p.2 < p.1)) ⟨0, rfl, rfl⟩ (fun m acc Ha Hb k8 z => z) yPair_ext (fun m yv H0 acc H6 hm e6 k8 hDb z yy Kt Kf hKt hKf => ?_) fun H6 acc e6 hDa z => ?_⟩⟩
                    · obtain ⟨kk, rfl, hkk⟩ := z
                      obtain ⟨Tz, x1, x2, rfl, hTz, rfl, hx1, hx2⟩ := yy
                      replace hx1 : (c.map V.int)[m]? = some x1 := hx1
                      replace hx2 : (e.2.map V.int)[m]? = some x2 := hx2
                      rw [List.getElem?_map] at hx1 hx2
                      obtain ⟨n1, hn1, rfl⟩ := Option.map_eq_some_iff.mp hx1
                      obtain ⟨n2, hn2, rfl⟩ := Option.map_eq_some_iff.mp hx2
                      have ez : (c.zip e.2)[m]? = some (n1, n2) := List.getElem?_zip_eq_some.mpr ⟨hn1, hn2⟩
                      rw [take_succ_get ez, List.all_append, ← hkk] at hKt hKf
                      refine ⟨Tz, _, rfl, .inl (.inl upd_same), rfl, _, _, rfl, r_gname ⟨_, _, rfl, r_gname ⟨rfl, rfl, ?_⟩⟩⟩
                      repeat walk_at "k"
                      by_cases hlt : n2 < n1
                      · refine ite_eqT (decide_eq_true hlt) ?_
                        repeat walk_at "k"
                        refine hKt _ _ (Ext.refl _) ⟨kk + 1, by rw [List.replicate_succ', List.map_append]; rfl, ?_⟩
                        simp [hlt]
                      · refine ite_eqF (decide_eq_false hlt) ?_
                        refine hKf _ (Ext.refl _) ⟨kk, rfl, ?_⟩
                        simp [hlt]
                    · obtain ⟨kk, rfl, hkk⟩ := z
                      rw [List.take_length, geAll_swap] at hkk
                      repeat walk_at "k"
                      have hW6 := e6 _ _ hWp
                      have hj6 : j < 6 := by
                        rw [List.length_map] at hj
                        omega
                      have goon : ∀ H', Ext H6 H' → ((decide (e.1 ≠ y) && geAll e.2 c) = false) → ∀ o10, Fr K [W] Hx H' ∧ ∃ (rs : List Str) (p8 p10 p11 p12 : Option V), [some (.ref sh), some (.ref O), some (.ref d), some (.ref N), some (.ref C), some (.ref pb), some (.int (i : Nat)), some (.str y), some (.str e.1), some (.ref W), o10, o11', o12'] = [some (.ref sh), some (.ref O), some (.ref d), some (.ref N), some (.ref C), some (.ref pb), some (.int (i : Nat)), some (.str y), p8, some (.ref W), p10, p11, p12] ∧ H' W = some (.lst (rs.map .str)) ∧ rs.length ≤ j + 1 ∧ rs = payingN c y ((claimsL dss own ys).take (j + 1)) := fun H' e' hf o10 => by
                        refine ⟨(fp.trans e6.fr).trans e'.fr, rs, _, _, _, _, rfl, e' _ _ hW6, by omega, ?_⟩
                        rw [take_succ_get hei, payingN_snoc, if_neg (by rw [hf]; decide), List.append_nil, hrs]
                      by_cases hne : e.1 = y
                      · rw [decide_eq_true (show V.str e.1 = V.str y by rw [hne])]
                        repeat walk_at "k"
                        exact goon H6 (Ext.refl _) (by simp [hne]) _
                      · rw [decide_eq_false (show ¬ V.str e.1 = V.str y from fun z => hne (V.str.inj z))]
                        repeat walk_at "k"
                        refine ⟨by decide, fun pe hpe => ?_⟩
                        have ee := Ext.new (o := .lst []) hpe
                        refine ⟨.list ((List.replicate kk (1 : Int)).map .int), .list [], .lst (.inl (.inl (ee _ _ hDa))) (dp_ints _), .lst (.inl (.inl upd_same)) .nil, shaped_ints _, by decide +kernel, geAll e.2 c, by rw [eqv_nilL, ← hkk]; cases kk <;> rfl, ?_⟩
                        cases hg : geAll e.2 c with
                        | false =>
                          refine ite_eqF rfl ?_
                          repeat walk_at "k"
                          exact goon _ ee (by rw [hg, Bool.and_false]) _
                        | true =>
                          refine ite_eqT rfl ?_
                          repeat walk_at "k"
                          have hW7 := ee _ _ hW6
                          refine ⟨tyL hW7, ?_⟩
                          repeat walk_at "k"
                          refine ⟨W, _, _, rfl, rfl, hW7, by rw [List.length_map, sizeLine_eq]; omega, ?_⟩
                          have fq : Fr K [W] _ (upd _ W (.lst (rs.map V.str ++ [.str e.1]))) := Fr.putL hW7 (by simp)
                          refine ⟨(fp.trans (e6.trans ee).fr).trans fq, rs ++ [e.1], _, _, _, _, rfl, by rw [upd_same, List.map_append]; rfl, by rw [List.length_append]; simp; omega, ?_⟩
                          show rs ++ [e.1] = payingN c y _
                          rw [take_succ_get hei, payingN_snoc, if_pos (by rw [hg]; simp [hne]), hrs]
              · obtain ⟨fp, rs, o8', o10', o11', o12', rfl, hWp, hrl, hrs⟩ := z
                have hrp : rs = payingL dss own ys y := by
                  unfold payingL
                  rw [hrs]
                  cases hca : claimAt dss own y with
                  | none => rfl
                  | some c =>
                    rw [hca] at hzs
                    have hz2 : zs.length = (claimsL dss own ys).length := by rw [hzs, List.length_map]
                    show payingN c y _ = payingN c y _
                    rw [List.length_map, hz2, List.take_length]
                have fwz : Fr K [W] Hw H' := (eX.fr (K := K) (B := [W])).trans fp
                have fLz := out _ fwz
                have fpz := fwz.lst (by simpa using npW) hpW
                have fpsz := hpsW.tk fwz.tk
                clear hrs hrl hL eX fp
                obtain ⟨t, _, hlk, _⟩ := hts i y hyi
                repeat walk_at "k"
                refine ⟨sh, dx, _, rfl, fLz.kp _ _ (by simp) hs1L (fun _ z => by cases z), rfl, ?_⟩
                repeat walk_at "k"
                have hth : ∀ Hq, There K Hq own (.str y) (some t) := fun Hq => .at_ (hlab y hym Hq) hlk
                refine ⟨sh, D, own, .ref d, .str y, rfl, hsL.fr fLz (by simp) (by simp), hwo, (f0L.trans fLz).tb hT, .inr ⟨d, dss, rfl, hday.tk (f0L.trans fLz).tk, hok, .inr ⟨y, t, rfl, hth _, fun ys3 H7 p7 hy3 ho3 f7 hp7 => ?_⟩⟩⟩
                obtain rfl : ys = ys3 := sortedS_one (hys.trans hy3.symm) hso ho3
                have hsub := payingL_sub dss own ys y
                have hpf := (SmA.fits (d := .tuple ((payingL dss own ys y).map .str)) (.inl rfl) (sm_names (payingL dss own ys y) fun x hx => hyn x (hsub.subset hx)) (by decide) (by have := hsub.length_le; omega)).1
                repeat walk_at "k"
                refine r_repr (.tup hp7 (dx_strs _)) hpf ?_
                repeat walk_at "k"
                have hW7 : H7 W = some (.lst (rs.map .str)) := f7.lst (by simp) hWp
                refine ⟨W, _, rfl, .inl ⟨.inl (.inl hW7), fun p8 hp8 => ?_⟩⟩
                have e8 := Ext.new (o := .tup (rs.map V.str)) hp8
                have q8 : SqT K (upd H7 p8 (.tup (rs.map V.str))) p8 ((payingL dss own ys y).map .str) := by rw [← hrp]; exact .inl (.inl upd_same)
                repeat walk_at "k"
                refine r_repr (.tup q8 (dx_strs _)) hpf ?_
                repeat walk_at "k"
                rw [decide_eq_true rfl]
                repeat walk_at "k"
                have f8 := f7.trans (e8.fr (K := K) (B := []))
                refine ⟨sh, dx, _, rfl, (fLz.trans f8).kp _ _ (by simp) hs1L (fun _ z => by cases z), sh, D, own, .str y, some t, rfl, hsL.fr (fLz.trans f8) (by simp) (by simp), hth _, fun H9 e9 => ⟨true, rfl, ?_⟩⟩
                repeat walk_at "k"
                have f9 := f8.trans (e9.fr (K := K) (B := []))
                exact ⟨fLz.trans f9, pb, _, _, _, _, _, _, _, _, _, rfl, f9.lst (by simp) fpz, fpsz.tk f9.tk, hpe2⟩
        · obtain ⟨fa, pa, qs, ps, o6, o7, o8, o9, o10, o11, o12, rfl, hpa, hps, hpe⟩ := z
          have hpq : ps = alikeL (claimsL dss own ys) := by
            rw [← pairsW_eq]
            rw [List.length_map, List.drop_length] at hpe
            simpa [pairsW] using hpe
          have hpn : ∀ e ∈ ps, e.1 ∈ nameL ∧ e.2 ∈ nameL := fun e he => by
            rw [hpq, ← pairsW_eq] at he
            obtain ⟨g1, g2⟩ := pairsW_mem dss own ys e he
            exact ⟨hyn _ g1, hyn _ g2⟩
          have hpl : ps.length ≤ 36 := by
            rw [hpq, ← pairsW_eq]
            have h2 := pairsW_len dss own ys
            have h3 : ys.length * ys.length ≤ 6 * 6 := Nat.mul_le_mul hyl hyl
            omega
          have smp := sm_pairs ps hpn
          have hfp := ((SmA.tup (.inl rfl) smp (SmA.tup (.inl rfl) smp (SmA.nil (n := 0)))).fits (d := .list [.tuple (ps.map pairD), .tuple (ps.map pairD)]) (.inr rfl) (by decide) (by omega)).1
          have alk : ∀ Hq, Fr K [] HL Hq → ∀ (QQ : VK) (EE : XK), (∀ H7 p7, Fr K [] Hq H7 → PairsAt K H7 p7 ps → QQ (.ref p7) H7) → spAlike K [.ref sh, .ref d] Hq QQ EE := fun Hq fq QQ EE hq => by
            refine ⟨sh, D, own, .ref d, rfl, hsL.fr fq (by simp) (by simp), hwo, (f0L.trans fq).tb hT, .inr ⟨d, dss, rfl, hday.tk (f0L.trans fq).tk, hok, fun ys4 H7 p7 hy4 ho4 f7 hp7 => hq H7 p7 f7 ?_⟩⟩
            rw [hpq, sortedS_one (hys.trans hy4.symm) hso ho4]
            exact hp7
          repeat walk_at "k"
          refine ⟨sh, dx, _, rfl, fa.kp _ _ (by simp) hs1L (fun _ z => by cases z), rfl, ?_⟩
          repeat walk_at "k"
          refine alk _ fa _ _ fun H7 p7 f7 hp7 => ?_
          repeat walk_at "k"
          refine ⟨sh, dx, _, rfl, (fa.trans f7).kp _ _ (by simp) hs1L (fun _ z => by cases z), rfl, ?_⟩
          repeat walk_at "k"
          refine alk _ (fa.trans f7) _ _ fun H8 p8 f8 hp8 => ?_
          repeat walk_at "k"
          refine ⟨by show 2 ≤ sizeLine; decide, fun l9 hl9 => ?_⟩
          have e9 := Ext.new (o := .lst [.ref p7, .ref p8]) hl9
          have f9 : Fr K [] H8 (upd H8 l9 (.lst [.ref p7, .ref p8])) := e9.fr
          have hl91 : (upd H8 l9 (.lst [.ref p7, .ref p8])) l9 = some (.lst [.ref p7, .ref p8]) := upd_same
          generalize upd H8 l9 (.lst [.ref p7, .ref p8]) = H9 at f9 hl91 ⊢
          repeat walk_at "k"
          refine r_repr (.lst (.inl (.inl hl91)) (.cons (hp7.fr (f8.trans f9)).dx (.cons (hp8.fr f9).dx .nil))) hfp ?_
          repeat walk_at "k"
          have fa9 := (f7.trans f8).trans f9
          refine ⟨pa, _, rfl, .inl ⟨.inl (.inl (fa9.lst (by simp) hpa)), fun tp htp => ?_⟩⟩
          have e10 := Ext.new (o := .tup (qs.map V.ref)) htp
          have hps10 : PairsAt K (upd H9 tp (.tup (qs.map V.ref))) tp ps := ⟨qs, .inl (.inl upd_same), (hps.tk fa9.tk).tk e10.tk⟩
          generalize upd H9 tp (.tup (qs.map V.ref)) = H10 at hps10 e10 ⊢
          repeat walk_at "k"
          refine ⟨by show 1 ≤ sizeLine; decide, fun l11 hl11 => ?_⟩
          have e11 := Ext.new (o := .lst [.ref tp]) hl11
          repeat walk_at "k"
          refine ⟨l11, 2, [.ref tp], rfl, rfl, upd_same, by decide, by decide, by show 1 * 2 ≤ sizeLine; decide, fun l12 hl12 => ?_⟩
          rw [show (List.replicate (2 : Int).toNat [V.ref tp]).flatten = [V.ref tp, V.ref tp] from rfl]
          have e12 := Ext.new (o := .lst [.ref tp, .ref tp]) hl12
          have hp12 := hps10.fr (K := K) (B := []) (e11.trans e12).fr
          have hl121 : (upd (upd H10 l11 (.lst [.ref tp])) l12 (.lst [.ref tp, .ref tp])) l12 = some (.lst [.ref tp, .ref tp]) := upd_same
          have e9x := e10.trans (e11.trans e12)
          generalize upd (upd H10 l11 (.lst [.ref tp])) l12 (.lst [.ref tp, .ref tp]) = H12 at hp12 hl121 e9x ⊢
          repeat walk_at "k"
          refine r_repr (.lst (.inl (.inl hl121)) (.cons hp12.dx (.cons hp12.dx .nil))) hfp ?_
          repeat walk_at "k"
          rw [decide_eq_true rfl]
          exact q H12 (((f0L.trans fa).trans fa9).trans e9x.fr)
end
end
section
open PySem Spec PyProof.Rows L2
local macro_rules | `(tactic| walk_at "s") => `(tactic| first
  | with_reducible refine r_seq ?_
  | with_reducible refine r_next ?_
  | with_reducible refine r_asg ?_
  | with_reducible refine r_gname ?_
  | with_reducible refine r_ret ?_
  | with_reducible refine r_drop ?_
  | with_reducible refine r_ifs ?_
  | with_reducible refine r_var rfl ?_
  | with_reducible refine r_c ?_
  | with_reducible refine r_op ?_
  | with_reducible refine r_un ?_
  | with_reducible refine r_nil ?_
  | with_reducible refine r_cons ?_
  | with_reducible refine r_test ?_
  | with_reducible refine r_tb ?_
  | with_reducible refine r_and ?_
  | with_reducible refine r_or ?_
  | with_reducible refine r_not ?_
  | with_reducible refine r_andV ?_
  | with_reducible refine r_orV ?_
  | with_reducible refine r_notV ?_
  | with_reducible refine r_if ?_
  | with_reducible refine r_chain ?_
  | with_reducible refine r_cl ?_
  | with_reducible refine r_cb ?_
  | with_reducible refine r_bl ?_
  | with_reducible refine r_I0 ?_
  | with_reducible refine r_yes ?_
  | with_reducible refine r_itT ?_
  | with_reducible refine r_itL ?_
  | with_reducible refine r_itS ?_
  | with_reducible refine r_itE ?_
  | with_reducible refine r_revT ?_
  | with_reducible refine r_star ?_
  | with_reducible refine r_for ?_
  | with_reducible refine r_bm ?_
  | with_reducible refine r_bm0 ?_
  | with_reducible refine r_kget1 ?_
  | with_reducible refine r_kget2 ?_
  | with_reducible refine r_par ?_
  | with_reducible refine r_tup ?_
  | with_reducible refine r_lst ?_
  | with_reducible refine r_exI ?_
  | with_reducible refine r_itZ ?_
  | with_reducible refine r_dget ?_
  | with_reducible refine r_U ?_
  | with_reducible refine r_rng1 ?_
  | with_reducible refine r_gsub ?_
  | with_reducible refine r_pnil ?_
  | with_reducible refine r_pcons ?_
  | with_reducible refine r_methR ?_
  | with_reducible refine r_dpop1 ?_
  | with_reducible refine r_dput ?_
  | with_reducible refine r_din ?_
  | with_reducible refine r_dnotin ?_
  | with_reducible refine r_nopart ?_
  | with_reducible refine r_lc ?_
  | with_reducible refine r_sl ?_
  | with_reducible refine r_part ?_
  | with_reducible refine r_eq rfl ?_
  | with_reducible refine r_ne rfl ?_
  | with_reducible refine iteT ?_
  | with_reducible refine iteF ?_
  | with_reducible refine ite_nt ?_
  | with_reducible refine ite_nf ?_)
local macro_rules | `(tactic| walk_at "k") => `(tactic| first
  | walk_at "s"
  | with_reducible refine ite_eqT (by decide +kernel) ?_
  | with_reducible refine ite_eqF (by decide +kernel) ?_)
open LamX
section
variable {P : Program} {w : World} {K : PySem.W.Frag} {mg : Str → Option Value} {base : Heap}
theorem hdr : ("_law_refused_right" : Str) ∈ lamL := List.mem_of_getElem? (i := 2) rfl
theorem sc__law_refused_right : FnScope ["shelf_so", "days_so", "before", "term", "told_so", "odd"] ["shelf_so", "days_so"] (defScope (top 74)) := ⟨rfl, rfl, rfl, by decide +kernel, rfl, by decide +kernel, by decide +kernel⟩
/-- a thing that is no label -/
structure OddOk (K : PySem.W.Frag) (H : Hp) (x : V) : Prop where
  lab : LabV K H x false
  ex : ∃ dd, Dx K H x dd ∧ Fits (.tuple [.str "label", dd]) ∧ Fits (.list [.tuple [.str "missing", dd], .tuple [.str "missing", dd], .tuple [.str "missing", dd]])
theorem OddOk.fr {H H' : Hp} {x : V} (h : OddOk K H x) (f : Fr K [] H H') : OddOk K H' x := by
  obtain ⟨dd, h1, h2, h3⟩ := h.ex
  exact ⟨h.lab.fr f, dd, Dx.fr f _ _ h1, h2, h3⟩
def fitsB (d : PyData) : Bool := decide (d.depth ≤ 64) && (d.showable && decide (d.shown.length ≤ 1000))
theorem fitsB_ok {d : PyData} (h : fitsB d = true) : Fits d := by
  unfold fitsB at h
  rw [Bool.and_eq_true, Bool.and_eq_true] at h
  have h3 := of_decide_eq_true h.2.2
  exact ⟨of_decide_eq_true h.1, h.2.1, by rw [sizeLine_eq]; omega⟩
def oddB (dd : PyData) : Bool := fitsB (.tuple [.str "label", dd]) && fitsB (.list [.tuple [.str "missing", dd], .tuple [.str "missing", dd], .tuple [.str "missing", dd]])
theorem OddOk.of {H : Hp} {x : V} {dd : PyData} (h1 : LabV K H x false) (h2 : Dx K H x dd) (h3 : oddB dd = true) : OddOk K H x := by
  unfold oddB at h3
  rw [Bool.and_eq_true] at h3
  exact ⟨h1, dd, h2, fitsB_ok h3.1, fitsB_ok h3.2⟩
theorem OddOk.str {H : Hp} {x : Str} (h1 : labOk x = false) (h2 : x.length ≤ 1000) (h3 : oddB (.str x) = true) : OddOk K H (.str x) :=
  .of (by have := LabV.str (K := K) (H := H) x h2; rwa [h1] at this) (.str x) h3
theorem look_out {own : Own} (hw : OwnW own) {y : Str} (h : ¬ y ∈ nameL) : lookN own y = none := by
  unfold lookN
  rw [Option.map_eq_none_iff, List.find?_eq_none]
  intro e he z
  refine h ?_
  rw [← of_decide_eq_true z]
  exact hw.sub _ (List.mem_map.mpr ⟨e, he, rfl⟩)
/-- a thing that is no days -/
structure OddD (K : PySem.W.Frag) (H : Hp) (x : V) : Prop where
  day : DaysV K H x false
  ex : ∃ dd, Dx K H x dd ∧ Fits (.list [.tuple [.str "days", dd], .tuple [.str "days", dd]])
theorem OddD.fr {H H' : Hp} {x : V} (h : OddD K H x) (f : Fr K [] H H') : OddD K H' x := by
  obtain ⟨dd, h1, h2⟩ := h.ex
  exact ⟨h.day.fr f, dd, Dx.fr f _ _ h1, h2⟩
theorem OddD.of {H : Hp} {x : V} {dd : PyData} (h1 : DaysV K H x false) (h2 : Dx K H x dd) (h3 : fitsB (.list [.tuple [.str "days", dd], .tuple [.str "days", dd]]) = true) : OddD K H x := ⟨h1, dd, h2, fitsB_ok h3⟩
theorem OddD.tup {H : Hp} {a : Addr} {dss : List (List Int)} {dd : PyData} (h : DaysAt K H a dss) (hl : ∀ d ∈ dss, d.length ≤ 1000) (hd : dss.length ≤ 1000) (h1 : daysOk dss = false) (h2 : Dx K H (.ref a) dd) (h3 : fitsB (.list [.tuple [.str "days", dd], .tuple [.str "days", dd]]) = true) : OddD K H (.ref a) :=
  .of (by have := DaysV.tup h hl hd; rwa [h1] at this) h2 h3
def spRefused (K : PySem.W.Frag) : Sp := fun vs H Q _ => ∃ (s D d : Addr) (dss : List (List Int)) (own : Own), vs = [.ref s, .ref d] ∧ ShAt K H s D own ∧ OwnW own ∧ DaysAt K H d dss ∧ daysOk dss = true ∧ Tabs (TT K) H ∧ ∀ H', Fr K [] H H' → Q (.bl true) H'
theorem c__law_refused_right (fx : Fx K mg w) (lx : Lx K mg base) : CalG P w K mg base 12 "_law_refused_right" (spRefused K) := by
  refine fx.d__law_refused_right.okGC (lx.me _ hdr) sc__law_refused_right (fun vs H Q E q => ?_) (fun _ _ _ _ _ _ us hl => match us, hl with | [_, _], _ => rfl) fun f A outer s H vs Q E hg0 hr q => ?_
  · obtain ⟨s, D, d, dss, own, rfl, _⟩ := q
    rfl
  · obtain ⟨sh, D, d, dss, own, rfl, hs, hw, hday, hok, hT, q⟩ := q
    have hgd : (A.deeper (envOfC "_law_refused_right" (defScope (top 74)) s.heap.objs.size f (.ref (codA K "_law_refused_right")))).guards = some [] := hg0
    have hu2 := hu_of hr
    have hu := hr.units
    have hu70 : (A.deeper (envOfC "_law_refused_right" (defScope (top 74)) s.heap.objs.size f (.ref (codA K "_law_refused_right")))).units + 70 < cLine := by
      have := hr.un
      omega
    refine ⟨_, (pss_cons (ps_par (i := 2) (j := 3) rfl sc__law_refused_right.nd rfl rfl (by decide) rfl rfl (pa_cons (pe_lst (pa_cons (pe_methR0 (pv 0) fx.shm.2.1 fx.s_labels.meth (m_labels fx) (hr.mono (by decide)) px) (pa_cons (pe_methR (pv 0) fx.shm.2.1 fx.s_alike.meth (m_alike fx lx) (hr.mono (by decide)) px (pa_cons (pv 1) pa_nil)) pa_nil))) (pa_cons (pe_tup (pa_cons pe_str (pa_cons pe_int pa_nil))) pa_nil)) rfl)
    (pss_cons (ps_for PassesOwn.leaving rfl (pi_tup (pe_tup (pa_cons pe_non (pa_cons pe_int (pa_cons pe_str (pa_cons pe_str (pa_cons pe_str (pa_cons pe_str (pa_cons (pe_tup (pa_cons pe_str pa_nil)) (pa_cons (pe_lst pa_nil) (pa_cons pe_dnewK (pa_cons pe_str (pa_cons pe_bl (pa_cons pe_str pa_nil)))))))))))))) (pg_name (i := 5) (x := "odd") sc__law_refused_right.nd rfl (Or.inr rfl) (.inl rfl)) (pss_cons (ps_if (PW.pt (pw_or (pt_cmpR op_ne (pe_callB (call_repr hgd hu70 fx.sysm) rfl fx.n_repr (by decide +kernel) (pa_cons (pe_told (k := 7) (t := fun E => tMethR (He.ga K "Shelf") "put" (spPut K) E (tVar 0) (tCons (tVar 5) (tCons (tC .non) tNil))) fx rfl (lx.tb _ hdr) rfl (lx.mem hdr) (lx.uni hdr) (hr.mono (by decide)) (lamS_by (sc := defScope (top 74)) (by decide +kernel)) rfl (fun _ _ _ _ _ => rfl) (fun _ _ _ _ _ _ _ hr2 => pe_methR (pv 0) fx.shm.2.1 fx.s_put.meth (m_put fx) hr2 (passes_call (takes_of rfl rfl rfl rfl) fun _ _ _ _ h => h) (pa_cons (pv 5) (pa_cons pe_non pa_nil)))) pa_nil)) (pe_callB (call_repr hgd hu70 fx.sysm) rfl fx.n_repr (by decide +kernel) (pa_cons (pe_tup (pa_cons pe_str (pa_cons (pv 5) pa_nil))) pa_nil)) (nomark _)) (pw_or1 (pt_cmpR (op_inOwn ⟨fx.s_contains.at_, fx.s_contains.isF⟩ (m_contains fx) (hr.mono (by decide)) px) (pv 5) (pv 0) (by with_unfolding_all rfl))))) (pss_one (ps_ret pe_bl)) pss_nil)
      (pss_cons (ps_set (i := 4) sc__law_refused_right.nd rfl (Or.inl rfl) (pe_lst (pa_cons (pe_told (k := 4) (t := fun E => tMethR (He.ga K "Shelf") "take" (spTake K) E (tVar 0) (tCons (tVar 5) tNil)) fx rfl (lx.tb _ hdr) rfl (lx.mem hdr) (lx.uni hdr) (hr.mono (by decide)) (lamS_by (sc := defScope (top 74)) (by decide +kernel)) rfl (fun _ _ _ _ _ => rfl) (fun _ _ _ _ _ _ _ hr2 => pe_methR (pv 0) fx.shm.2.1 fx.s_take.meth (m_take fx) hr2 (passes_call (takes_of rfl rfl rfl rfl) fun _ _ _ _ h => h) (pa_cons (pv 5) pa_nil))) (pa_cons (pe_toldD (z := "x") (k := 4) (t := fun E => tMethR (He.ga K "Shelf") "seek" (spSeek K) E (tVar 0) (tCons (tVar 5) tNil)) fx rfl (lx.tb _ hdr) rfl (lx.mem hdr) (lx.uni hdr) (hr.mono (by decide)) (lamP_by (sc := defScope (top 74)) (by decide +kernel)) (show ("x" : PySem.Str) ∉ (["shelf_so", "days_so", "before", "term", "told_so", "odd"] : List PySem.Str) from by decide +kernel) rfl rfl (fun _ _ _ _ _ _ _ _ => ⟨_, rfl, rfl⟩) (fun _ _ _ _ _ _ _ hr2 => pe_methR (pv 0) fx.shm.2.1 fx.s_seek.meth (m_seek fx) hr2 (passes_call (takes_of rfl rfl rfl rfl) fun _ _ _ _ h => h) (pa_cons (pv 5) pa_nil))) pa_nil))))
      (pss_cons (ps_expr (pe_bm PySem.F.plainAttrs_list PySem.F.slot_list_append PySem.F.type_list_append mt_append (pv 4) (pa_cons (pe_told (k := 9) (t := fun E => tMethR (He.ga K "Shelf") "paying" (spPaying K) E (tVar 0) (tCons (tVar 1) (tCons (tVar 5) tNil))) fx rfl (lx.tb _ hdr) rfl (lx.mem hdr) (lx.uni hdr) (hr.mono (by decide)) (lamS_by (sc := defScope (top 74)) (by decide +kernel)) rfl (fun _ _ _ _ _ => rfl) (fun _ _ _ _ _ _ _ hr2 => pe_methR (pv 0) fx.shm.2.1 fx.s_paying.meth (m_paying fx lx) hr2 (passes_call (takes_of rfl rfl rfl rfl) fun _ _ _ _ h => h) (pa_cons (pv 1) (pa_cons (pv 5) pa_nil)))) pa_nil)))
      (pss_one (ps_if (pt_cmpR op_ne (pe_callB (call_repr hgd hu70 fx.sysm) rfl fx.n_repr (by decide +kernel) (pa_cons (pv 4) pa_nil)) (pe_callB (call_repr hgd hu70 fx.sysm) rfl fx.n_repr (by decide +kernel) (pa_cons (pe_op op_rep (pe_lst (pa_cons (pe_tup (pa_cons pe_str (pa_cons (pv 5) pa_nil))) pa_nil)) pe_int) pa_nil)) (nomark _)) (pss_one (ps_ret pe_bl)) pss_nil))))))
    (pss_cons (ps_if (pt_cmpR (op_neD hu) (pe_told (k := 7) (t := fun E => tMethR (He.ga K "Shelf") "put" (spPut K) E (tVar 0) (tCons (tC (.str "ok")) (tCons (tTup (tCons (tC (.str "short")) (tCons (tTup (tCons (tC (.str "at")) (tCons (tC (.int 4)) tNil))) tNil))) tNil))) fx rfl (lx.tb _ hdr) rfl (lx.mem hdr) (lx.uni hdr) (hr.mono (by decide)) (lamS_by (sc := defScope (top 74)) (by decide +kernel)) rfl (fun _ _ _ _ _ => rfl) (fun _ _ _ _ _ _ _ hr2 => pe_methR (pv 0) fx.shm.2.1 fx.s_put.meth (m_put fx) hr2 (passes_call (takes_of rfl rfl rfl rfl) fun _ _ _ _ h => h) (pa_cons pe_str (pa_cons (pe_tup (pa_cons pe_str (pa_cons (pe_tup (pa_cons pe_str (pa_cons pe_int pa_nil))) pa_nil))) pa_nil)))) (pe_tup (pa_cons pe_str (pa_cons (pe_tup (pa_cons pe_int pa_nil)) pa_nil))) (nomark _)) (pss_one (ps_ret pe_bl)) pss_nil)
    (pss_cons (ps_for PassesOwn.leaving rfl (pi_tup (pe_tup (pa_cons pe_non (pa_cons (pe_tup pa_nil) (pa_cons (pe_tup (pa_cons (pe_tup (pa_cons pe_int (pa_cons pe_int pa_nil))) pa_nil)) (pa_cons (pe_lst (pa_cons (pe_tup (pa_cons pe_int pa_nil)) pa_nil)) pa_nil)))))) (pg_name (i := 5) (x := "odd") sc__law_refused_right.nd rfl (Or.inr rfl) (.inl rfl)) (pss_cons (ps_set (i := 4) sc__law_refused_right.nd rfl (Or.inl rfl) (pe_lst (pa_cons (pe_told (k := 9) (t := fun E => tMethR (He.ga K "Shelf") "alike" (spAlike K) E (tVar 0) (tCons (tVar 5) tNil)) fx rfl (lx.tb _ hdr) rfl (lx.mem hdr) (lx.uni hdr) (hr.mono (by decide)) (lamS_by (sc := defScope (top 74)) (by decide +kernel)) rfl (fun _ _ _ _ _ => rfl) (fun _ _ _ _ _ _ _ hr2 => pe_methR (pv 0) fx.shm.2.1 fx.s_alike.meth (m_alike fx lx) hr2 (passes_call (takes_of rfl rfl rfl rfl) fun _ _ _ _ h => h) (pa_cons (pv 5) pa_nil))) (pa_cons (pe_toldD (z := "x") (k := 9) (t := fun E => tMethR (He.ga K "Shelf") "paying" (spPaying K) E (tVar 0) (tCons (tVar 5) (tCons (tC .non) tNil))) fx rfl (lx.tb _ hdr) rfl (lx.mem hdr) (lx.uni hdr) (hr.mono (by decide)) (lamP_by (sc := defScope (top 74)) (by decide +kernel)) (show ("x" : PySem.Str) ∉ (["shelf_so", "days_so", "before", "term", "told_so", "odd"] : List PySem.Str) from by decide +kernel) rfl rfl (fun _ _ _ _ _ _ _ _ => ⟨_, rfl, rfl⟩) (fun _ _ _ _ _ _ _ hr2 => pe_methR (pv 0) fx.shm.2.1 fx.s_paying.meth (m_paying fx lx) hr2 (passes_call (takes_of rfl rfl rfl rfl) fun _ _ _ _ h => h) (pa_cons (pv 5) (pa_cons pe_non pa_nil)))) pa_nil))))
      (pss_one (ps_if (pt_cmpR op_ne (pe_callB (call_repr hgd hu70 fx.sysm) rfl fx.n_repr (by decide +kernel) (pa_cons (pv 4) pa_nil)) (pe_callB (call_repr hgd hu70 fx.sysm) rfl fx.n_repr (by decide +kernel) (pa_cons (pe_op op_rep (pe_lst (pa_cons (pe_tup (pa_cons pe_str (pa_cons (pv 5) pa_nil))) pa_nil)) pe_int) pa_nil)) (nomark _)) (pss_one (ps_ret pe_bl)) pss_nil))))
    (pss_cons (ps_if (pt_cmpR (op_neD hu) (pe_told (k := 4) (t := fun E => tMethR (He.ga K "Shelf") "seek" (spSeek K) E (tVar 0) (tCons (tC (.str "ok")) tNil)) fx rfl (lx.tb _ hdr) rfl (lx.mem hdr) (lx.uni hdr) (hr.mono (by decide)) (lamS_by (sc := defScope (top 74)) (by decide +kernel)) rfl (fun _ _ _ _ _ => rfl) (fun _ _ _ _ _ _ _ hr2 => pe_methR (pv 0) fx.shm.2.1 fx.s_seek.meth (m_seek fx) hr2 (passes_call (takes_of rfl rfl rfl rfl) fun _ _ _ _ h => h) (pa_cons pe_str pa_nil))) (pe_tup (pa_cons pe_str (pa_cons pe_str pa_nil))) (nomark _)) (pss_one (ps_ret pe_bl)) pss_nil)
    (pss_one (ps_ret (pe_cmpR (op_eqD hu) (pe_lst (pa_cons (pe_methR0 (pv 0) fx.shm.2.1 fx.s_labels.meth (m_labels fx) (hr.mono (by decide)) px) (pa_cons (pe_methR (pv 0) fx.shm.2.1 fx.s_alike.meth (m_alike fx lx) (hr.mono (by decide)) px (pa_cons (pv 1) pa_nil)) pa_nil))) (pv 2) (nomark _))))))))), ?_⟩
    repeat walk_at "k"
    obtain ⟨hwo, hl6⟩ := hw.ok
    obtain ⟨⟨dx, hs1⟩, _⟩ := id hs
    have hnl : (names own).length ≤ 6 := by unfold names; rw [List.length_map]; exact hl6
    refine ⟨sh, dx, _, rfl, hs1, rfl, ?_⟩
    repeat walk_at "k"
    refine ⟨sh, D, own, rfl, hs, by omega, fun ys H1 p1 hys hso e1 hp1 => ?_⟩
    have hyl : ys.length ≤ 6 := by rw [hys.length_eq]; exact hnl
    have hyn : ∀ y ∈ ys, y ∈ nameL := fun y hy => hw.sub y (hys.mem_iff.mp hy)
    have lab : ∀ Hq, Fr K [] H Hq → ∀ (QQ : VK) (EE : XK), (∀ H7 p7, Ext Hq H7 → SqT K H7 p7 (ys.map .str) → QQ (.ref p7) H7) → spLabels K [.ref sh] Hq QQ EE := fun Hq fq QQ EE hq => by
      refine ⟨sh, D, own, rfl, hs.fr fq (by simp) (by simp), by omega, fun ys4 H7 p7 hy4 ho4 e7 hp7 => hq H7 p7 e7 ?_⟩
      rw [sortedS_one (hys.trans hy4.symm) hso ho4]
      exact hp7
    have alk : ∀ Hq, Fr K [] H Hq → ∀ (QQ : VK) (EE : XK), (∀ H7 p7, Fr K [] Hq H7 → PairsAt K H7 p7 (alikeL (claimsL dss own ys)) → QQ (.ref p7) H7) → spAlike K [.ref sh, .ref d] Hq QQ EE := fun Hq fq QQ EE hq => by
      refine ⟨sh, D, own, .ref d, rfl, hs.fr fq (by simp) (by simp), hwo, fq.tb hT, .inr ⟨d, dss, rfl, hday.tk fq.tk, hok, fun ys4 H7 p7 hy4 ho4 f7 hp7 => hq H7 p7 f7 ?_⟩⟩
      rw [sortedS_one (hys.trans hy4.symm) hso ho4]
      exact hp7
    have atS : ∀ Hq, Fr K [] H Hq → Hq sh = some (.ins (He.ga K "Shelf") dx [("own_terms", .ref D)]) := fun Hq fq => fq.kp _ _ (by simp) hs1 fun _ z => by cases z
    repeat walk_at "k"
    refine ⟨sh, dx, _, rfl, atS _ e1.fr, rfl, ?_⟩
    repeat walk_at "k"
    refine alk _ e1.fr _ _ fun H2 p2 f2 hp2 => ?_
    repeat walk_at "k"
    refine ⟨by show 2 ≤ sizeLine; decide, fun l1 hl1 => ?_⟩
    have e3 := Ext.new (o := .lst [.ref p1, .ref p2]) hl1
    have f3 : Fr K [] H2 (upd H2 l1 (.lst [.ref p1, .ref p2])) := e3.fr
    have hl11 : (upd H2 l1 (.lst [.ref p1, .ref p2])) l1 = some (.lst [.ref p1, .ref p2]) := upd_same
    generalize upd H2 l1 (.lst [.ref p1, .ref p2]) = H3 at f3 hl11 ⊢
    repeat walk_at "k"
    refine ⟨by show 2 ≤ sizeLine; decide, fun t0 ht0 => ?_⟩
    have f4 : Fr K [] H3 (upd H3 t0 (.tup [.str "cash", .int 1])) := (Ext.new ht0).fr
    generalize upd H3 t0 (.tup [.str "cash", .int 1]) = H4 at f4 ⊢
    repeat walk_at "k"
    refine ⟨_, _, rfl, ?_⟩
    have f14 := (f2.trans f3).trans f4
    have f04 : Fr K [] H H4 := (e1.fr (K := K) (B := [])).trans f14
    have hp14 : SqT K H4 p1 (ys.map .str) := f14.tup hp1
    have hp24 := hp2.fr (f3.trans f4)
    have hl14 := f4.lst (by simp) hl11
    repeat walk_at "k"
    refine ⟨by show 1 ≤ sizeLine; decide, fun a1 ha1 => ?_⟩
    have g1 := Ext.new (o := .tup [.str "a"]) ha1
    repeat walk_at "k"
    refine ⟨by decide, fun a2 ha2 => ?_⟩
    have g2 := Ext.new (o := .lst []) ha2
    repeat walk_at "k"
    refine r_dnewK fun a3 ha3 => ?_
    have g3 := Ext.new (o := .dK []) ha3
    repeat walk_at "k"
    refine ⟨by show 12 ≤ sizeLine; decide, fun a4 ha4 => ?_⟩
    have g4 := Ext.new (o := .tup [.non, .int 5, .str "", .str "A", .str "a1", .str "abcdefghi", .ref a1, .ref a2, .ref a3, .str "a b", .bl true, .str "a_"]) ha4
    have q1 : SqT K _ a1 [.str "a"] := (g2.trans (g3.trans g4)).tup (.inl (.inl upd_same))
    have q2 := (g3.trans g4) _ _ (show _ = some (HO.lst []) from upd_same (a := a2))
    have q3 := g4 _ _ (show _ = some (HO.dK []) from upd_same (a := a3))
    have q4 : (upd (upd (upd (upd H4 a1 (.tup [.str "a"])) a2 (.lst [])) a3 (.dK [])) a4 (.tup [.non, .int 5, .str "", .str "A", .str "a1", .str "abcdefghi", .ref a1, .ref a2, .ref a3, .str "a b", .bl true, .str "a_"])) a4 = some (.tup [.non, .int 5, .str "", .str "A", .str "a1", .str "abcdefghi", .ref a1, .ref a2, .ref a3, .str "a b", .bl true, .str "a_"]) := upd_same
    have f5 : Fr K [] H4 (upd (upd (upd (upd H4 a1 (.tup [.str "a"])) a2 (.lst [])) a3 (.dK [])) a4 (.tup [.non, .int 5, .str "", .str "A", .str "a1", .str "abcdefghi", .ref a1, .ref a2, .ref a3, .str "a b", .bl true, .str "a_"])) := (g1.trans (g2.trans (g3.trans g4))).fr
    generalize upd (upd (upd (upd H4 a1 (.tup [.str "a"])) a2 (.lst [])) a3 (.dK [])) a4 (.tup [.non, .int 5, .str "", .str "A", .str "a1", .str "abcdefghi", .ref a1, .ref a2, .ref a3, .str "a b", .bl true, .str "a_"]) = H5 at q1 q2 q3 q4 f5 ⊢
    clear g1 g2 g3 g4 ha1 ha2 ha3 ha4
    have odds : ∀ x ∈ ([.non, .int 5, .str "", .str "A", .str "a1", .str "abcdefghi", .ref a1, .ref a2, .ref a3, .str "a b", .bl true, .str "a_"] : List V), OddOk K H5 x := by
      intro x hx
      simp only [List.mem_cons, List.not_mem_nil, or_false] at hx
      rcases hx with rfl | rfl | rfl | rfl | rfl | rfl | rfl | rfl | rfl | rfl | rfl | rfl
      · exact .of (.oth (.base .non) (by decide +kernel)) .non (by decide +kernel)
      · exact .of (.oth (.base (.int _)) (by decide +kernel)) (.int _) (by decide +kernel)
      · exact .str (by decide +kernel) (by decide +kernel) (by decide +kernel)
      · exact .str (by decide +kernel) (by decide +kernel) (by decide +kernel)
      · exact .str (by decide +kernel) (by decide +kernel) (by decide +kernel)
      · exact .str (by decide +kernel) (by decide +kernel) (by decide +kernel)
      · exact .of (.oth (tyT q1) (by decide +kernel)) (.tup q1 (.cons (.str _) .nil)) (by decide +kernel)
      · exact .of (.oth (.base (.lst q2)) (by decide +kernel)) (.lst (.inl (.inl q2)) .nil) (by decide +kernel)
      · exact .of (.oth (.base (.dK q3)) (by decide +kernel)) (.dct q3) (by decide +kernel)
      · exact .str (by decide +kernel) (by decide +kernel) (by decide +kernel)
      · exact .of (.oth (.base (.bl _)) (by decide +kernel)) (.bl _) (by decide +kernel)
      · exact .str (by decide +kernel) (by decide +kernel) (by decide +kernel)
    have f05 := f04.trans f5
    refine ⟨a4, rfl, ⟨_, .inl (.inl q4)⟩, ?_⟩
    refine for_it walk_tup (fun i σ' H' => Fr K [] H5 H' ∧ ∃ o4 o5 : Option V, σ' = [some (.ref sh), some (.ref d), some (.ref l1), some (.ref t0), o4, o5]) ⟨Fr.refl _, none, none, rfl⟩ (fun i σ' H' _ z => z.1.tup (.inl (.inl q4))) (fun i x σ' Ha Hb hi z yy => ?_) fun σ' H' z => ?_
    · obtain ⟨fa, o4, o5, rfl⟩ := z
      obtain ⟨rfl, hx⟩ := yy
      have hodd := (odds x (List.mem_of_getElem? hx)).fr fa
      have f0a := f05.trans fa
      clear odds hx
      obtain ⟨dd, hdx, hf1, hf2⟩ := hodd.ex
      have hlb := hodd.lab
      refine r_gname ?_
      repeat walk_at "k"
      refine r_toldV ("BadLabel", "given", "label") (by simp [toldL]) x (f0a.tb hT) (fun H6 E6 Q1 f6 hr6 => ?_) (fun H9 p9 f9 hp9 => ?_)
      · repeat walk_at "k"
        refine ⟨sh, dx, _, rfl, atS _ (f0a.trans f6), rfl, ?_⟩
        repeat walk_at "k"
        exact ⟨sh, D, own, x, .non, rfl, hs.fr (f0a.trans f6) (by simp) (by simp), by omega, .inl ⟨hlb.fr f6, fun H' e => hr6 H' e.fr⟩⟩
      · repeat walk_at "k"
        refine r_repr (.tup hp9 (.cons (.str _) (.cons (Dx.fr f9 _ _ hdx) .nil))) hf1 ?_
        repeat walk_at "k"
        refine ⟨by show 2 ≤ sizeLine; decide, fun p10 hp10 => ?_⟩
        have e10 := Ext.new (o := .tup [.str "label", x]) hp10
        have f10 : Fr K [] Hb (upd H9 p10 (.tup [.str "label", x])) := f9.trans e10.fr
        have q10 : SqT K (upd H9 p10 (.tup [.str "label", x])) p10 [.str "label", x] := .inl (.inl upd_same)
        generalize upd H9 p10 (.tup [.str "label", x]) = H10 at f10 q10 ⊢
        repeat walk_at "k"
        refine r_repr (.tup q10 (.cons (.str _) (.cons (Dx.fr f10 _ _ hdx) .nil))) hf1 ?_
        repeat walk_at "k"
        rw [decide_eq_true rfl]
        repeat walk_at "k"
        refine ⟨sh, dx, _, rfl, atS _ (f0a.trans f10), sh, D, own, x, none, rfl, hs.fr (f0a.trans f10) (by simp) (by simp), .bad (hlb.fr f10), fun H11 e11 => ⟨false, rfl, ?_⟩⟩
        have f11 := f10.trans (e11.fr (K := K) (B := []))
        clear hp9 q10 f10 e11 f9
        repeat walk_at "k"
        have fx11 := f0a.trans f11
        refine r_toldV ("Missing", "given", "missing") (by simp [toldL]) x (fx11.tb hT) (fun H6 E6 Q1 f6 hr6 => ?_) (fun H12 p12 f12 hp12 => ?_)
        · repeat walk_at "k"
          refine ⟨sh, dx, _, rfl, atS _ (fx11.trans f6), rfl, ?_⟩
          repeat walk_at "k"
          exact ⟨sh, D, own, x, none, rfl, hs.fr (fx11.trans f6) (by simp) (by simp), .bad ((hlb.fr f11).fr f6), fun l t hl h => absurd h (by simp), fun _ H' e => hr6 H' e.fr⟩
        · repeat walk_at "k"
          have fx12 := fx11.trans f12
          have hl12 := (hlb.fr f11).fr f12
          refine r_toldV ("Missing", "given", "missing") (by simp [toldL]) x (fx12.tb hT) (fun H6 E6 Q1 f6 hr6 => ?_) (fun H13 p13 f13 hp13 => ?_)
          · repeat walk_at "k"
            refine ⟨sh, dx, _, rfl, atS _ (fx12.trans f6), rfl, ?_⟩
            repeat walk_at "k"
            exact ⟨sh, D, own, x, none, rfl, hs.fr (fx12.trans f6) (by simp) (by simp), .bad (hl12.fr f6), fun l t hl h => absurd h (by simp), fun _ H' e => hr6 H' e.fr⟩
          · repeat walk_at "k"
            refine ⟨by show 2 ≤ sizeLine; decide, fun l14 hl14 => ?_⟩
            have e14 := Ext.new (o := .lst [.ref p12, .ref p13]) hl14
            have n14 : H5 l14 = none ∨ True := .inr trivial
            have fx13 := fx12.trans f13
            have out14 : ∀ H', Fr K [l14] (upd H13 l14 (.lst [.ref p12, .ref p13])) H' → Fr K [] Hb H' := fun H' f => ((f11.trans f12).trans f13).out hl14 f
            have q12 := e14.tup (f13.tup hp12)
            have q13 := e14.tup hp13
            have q14 : (upd H13 l14 (.lst [.ref p12, .ref p13])) l14 = some (.lst [.ref p12, .ref p13]) := upd_same
            have fx14 := fx13.trans (e14.fr (K := K) (B := []))
            have fy14 := ((f11.trans f12).trans f13).trans (e14.fr (K := K) (B := []))
            generalize upd H13 l14 (.lst [.ref p12, .ref p13]) = H14 at q12 q13 q14 fx14 fy14 out14 ⊢
            clear hl14 e14 n14 hp12 hp13
            repeat walk_at "k"
            refine ⟨tyL q14, ?_⟩
            repeat walk_at "k"
            refine r_toldV ("Missing", "given", "missing") (by simp [toldL]) x (fx14.tb hT) (fun H6 E6 Q1 f6 hr6 => ?_) (fun H15 p15 f15 hp15 => ?_)
            · repeat walk_at "k"
              refine ⟨sh, dx, _, rfl, atS _ (fx14.trans f6), rfl, ?_⟩
              repeat walk_at "k"
              exact ⟨sh, D, own, .ref d, x, rfl, hs.fr (fx14.trans f6) (by simp) (by simp), hwo, (fx14.trans f6).tb hT, .inr ⟨d, dss, rfl, hday.tk (fx14.trans f6).tk, hok, .inl ⟨.bad ((hlb.fr fy14).fr f6), fun H' e => hr6 H' e.fr⟩⟩⟩
            · repeat walk_at "k"
              have q15 := f15.lst (by simp) q14
              refine ⟨l14, _, _, rfl, rfl, q15, by show 2 < sizeLine; decide, ?_⟩
              have f16 : Fr K [l14] H15 (upd H15 l14 (.lst ([.ref p12, .ref p13] ++ [.ref p15]))) := Fr.putL q15 (by simp)
              have q16 : (upd H15 l14 (.lst ([.ref p12, .ref p13] ++ [.ref p15]))) l14 = some (.lst [.ref p12, .ref p13, .ref p15]) := upd_same
              have r12 := f16.tup (f15.tup q12)
              have r13 := f16.tup (f15.tup q13)
              have r15 := f16.tup hp15
              have fy16 := out14 _ ((f15.more (by simp)).trans f16)
              generalize upd H15 l14 (.lst ([.ref p12, .ref p13] ++ [.ref p15])) = H16 at q16 r12 r13 r15 fy16 ⊢
              have hd16 := Dx.fr fy16 _ _ hdx
              have dm : ∀ p, SqT K H16 p [.str "missing", x] → Dx K H16 (.ref p) (.tuple [.str "missing", dd]) := fun p hp => .tup hp (.cons (.str _) (.cons hd16 .nil))
              repeat walk_at "k"
              refine r_repr (.lst (.inl (.inl q16)) (.cons (dm _ r12) (.cons (dm _ r13) (.cons (dm _ r15) .nil)))) hf2 ?_
              repeat walk_at "k"
              refine ⟨by show 2 ≤ sizeLine; decide, fun p17 hp17 => ?_⟩
              have e17 := Ext.new (o := .tup [.str "missing", x]) hp17
              repeat walk_at "k"
              refine ⟨by show 1 ≤ sizeLine; decide, fun l18 hl18 => ?_⟩
              have e18 := Ext.new (o := .lst [.ref p17]) hl18
              repeat walk_at "k"
              refine ⟨l18, 3, [.ref p17], rfl, rfl, upd_same, by decide, by decide, by show 1 * 3 ≤ sizeLine; decide, fun l19 hl19 => ?_⟩
              rw [show (List.replicate (3 : Int).toNat [V.ref p17]).flatten = [V.ref p17, V.ref p17, V.ref p17] from rfl]
              have e19 := Ext.new (o := .lst [.ref p17, .ref p17, .ref p17]) hl19
              have q17 := (e18.trans e19).tup (show SqT K (upd H16 p17 (.tup [.str "missing", x])) p17 [.str "missing", x] from .inl (.inl upd_same))
              have q19 : (upd (upd (upd H16 p17 (.tup [.str "missing", x])) l18 (.lst [.ref p17])) l19 (.lst [.ref p17, .ref p17, .ref p17])) l19 = some (.lst [.ref p17, .ref p17, .ref p17]) := upd_same
              have fy19 := fy16.trans ((e17.trans (e18.trans e19)).fr (K := K) (B := []))
              generalize upd (upd (upd H16 p17 (.tup [.str "missing", x])) l18 (.lst [.ref p17])) l19 (.lst [.ref p17, .ref p17, .ref p17]) = H19 at q17 q19 fy19 ⊢
              have hd19 := Dx.fr fy19 _ _ hdx
              have dm2 : Dx K H19 (.ref p17) (.tuple [.str "missing", dd]) := .tup q17 (.cons (.str _) (.cons hd19 .nil))
              repeat walk_at "k"
              refine r_repr (.lst (.inl (.inl q19)) (.cons dm2 (.cons dm2 (.cons dm2 .nil)))) hf2 ?_
              repeat walk_at "k"
              rw [decide_eq_true rfl]
              repeat walk_at "k"
              exact ⟨fa.trans fy19, _, _, rfl⟩
    · obtain ⟨fa, o4, o5, rfl⟩ := z
      clear odds q1 q2 q3 q4
      have f0a := f05.trans fa
      have okl : ∀ Hq, LabV K Hq (.str "ok") true := fun Hq => by
        have := LabV.str (K := K) (H := Hq) "ok" (by decide +kernel)
        rwa [show labOk "ok" = true from by decide +kernel] at this
      repeat walk_at "k"
      refine r_toldE ("BadTerm", "path", "term") (by simp [toldL]) (fun Hq v => ∃ a, v = .ref a ∧ SqT K Hq a [.int 1]) (fun Ha Hb v f ⟨a, z1, z2⟩ => ⟨a, z1, f.tup z2⟩) (f0a.tb hT) (fun H6 E6 Q1 f6 hr6 => ?_) (fun H9 p9 v f9 hv hp9 => ?_)
      · repeat walk_at "k"
        refine ⟨sh, dx, _, rfl, atS _ (f0a.trans f6), rfl, ?_⟩
        repeat walk_at "k"
        refine ⟨by show 2 ≤ sizeLine; decide, fun b1 hb1 => ?_⟩
        have e1 := Ext.new (o := .tup [.str "at", .int 4]) hb1
        repeat walk_at "k"
        refine ⟨by show 2 ≤ sizeLine; decide, fun b2 hb2 => ?_⟩
        have e2 := Ext.new (o := .tup [.str "short", .ref b1]) hb2
        have f62 := (e1.trans e2).fr (K := K) (B := [])
        repeat walk_at "k"
        have hfb : firstBad (.un (.lf .at_ 4)) = some [1] := by decide +kernel
        refine ⟨sh, D, own, .str "ok", .ref b2, rfl, hs.fr ((f0a.trans f6).trans f62) (by simp) (by simp), by omega, .inr ⟨"ok", rfl, okl _, .inr ⟨.un (.lf .at_ 4), ⟨b2, .ref b1, rfl, .inl (.inl upd_same), b1, rfl, e2.tup (.inl (.inl upd_same))⟩, by decide, by decide, fun pth hp H' a e ha => ?_, fun h => absurd h (by decide +kernel)⟩⟩⟩
        rw [hfb] at hp
        cases hp
        exact hr6 H' _ (f62.trans e.fr) ⟨a, rfl, ha⟩
      · obtain ⟨va, rfl, hva⟩ := hv
        repeat walk_at "k"
        refine ⟨by show 1 ≤ sizeLine; decide, fun b1 hb1 => ?_⟩
        have e1 := Ext.new (o := .tup [.int 1]) hb1
        repeat walk_at "k"
        refine ⟨by show 2 ≤ sizeLine; decide, fun b2 hb2 => ?_⟩
        have e2 := Ext.new (o := .tup [.str "term", .ref b1]) hb2
        have e12 := e1.trans e2
        refine ⟨.tuple [.str "term", .tuple [.int 1]], .tuple [.str "term", .tuple [.int 1]], .tup (e12.tup hp9) (.cons (.str _) (.cons (.tup (e12.tup hva) (.cons (.int _) .nil)) .nil)), .tup (.inl (.inl upd_same)) (.cons (.str _) (.cons (.tup (e2.tup (.inl (.inl upd_same))) (.cons (.int _) .nil)) .nil)), by decide +kernel, by decide +kernel, false, by decide +kernel, iteF ?_⟩
        have f9x := f0a.trans (f9.trans (e12.fr (K := K) (B := [])))
        have f4x := (f5.trans fa).trans (f9.trans (e12.fr (K := K) (B := [])))
        generalize upd (upd H9 b1 (.tup [.int 1])) b2 (.tup [.str "term", .ref b1]) = HA at f9x f4x ⊢
        clear e1 e2 e12 hb1 hb2 hva hp9 f9 f0a fa
        repeat walk_at "k"
        refine ⟨by decide, fun b1 hb1 => ?_⟩
        have e1 := Ext.new (o := .tup []) hb1
        repeat walk_at "k"
        refine ⟨by show 2 ≤ sizeLine; decide, fun b2 hb2 => ?_⟩
        have e2 := Ext.new (o := .tup [.int 1, .int 0]) hb2
        repeat walk_at "k"
        refine ⟨by show 1 ≤ sizeLine; decide, fun b3 hb3 => ?_⟩
        have e3 := Ext.new (o := .tup [.ref b2]) hb3
        repeat walk_at "k"
        refine ⟨by show 1 ≤ sizeLine; decide, fun b4 hb4 => ?_⟩
        have e4 := Ext.new (o := .tup [.int 0]) hb4
        repeat walk_at "k"
        refine ⟨by show 1 ≤ sizeLine; decide, fun b5 hb5 => ?_⟩
        have e5 := Ext.new (o := .lst [.ref b4]) hb5
        repeat walk_at "k"
        refine ⟨by show 4 ≤ sizeLine; decide, fun b6 hb6 => ?_⟩
        have e6 := Ext.new (o := .tup [.non, .ref b1, .ref b3, .ref b5]) hb6
        have r1 : SqT K _ b1 [] := (e2.trans (e3.trans (e4.trans (e5.trans e6)))).tup (.inl (.inl upd_same))
        have r2 : SqT K _ b2 [.int 1, .int 0] := (e3.trans (e4.trans (e5.trans e6))).tup (.inl (.inl upd_same))
        have r3 : SqT K _ b3 [.ref b2] := (e4.trans (e5.trans e6)).tup (.inl (.inl upd_same))
        have r4 : SqT K _ b4 [.int 0] := (e5.trans e6).tup (.inl (.inl upd_same))
        have r5 := e6 _ _ (show _ = some (HO.lst [.ref b4]) from upd_same (a := b5))
        have r6 : (upd (upd (upd (upd (upd (upd HA b1 (.tup [])) b2 (.tup [.int 1, .int 0])) b3 (.tup [.ref b2])) b4 (.tup [.int 0])) b5 (.lst [.ref b4])) b6 (.tup [.non, .ref b1, .ref b3, .ref b5])) b6 = some (.tup [.non, .ref b1, .ref b3, .ref b5]) := upd_same
        have fB : Fr K [] HA (upd (upd (upd (upd (upd (upd HA b1 (.tup [])) b2 (.tup [.int 1, .int 0])) b3 (.tup [.ref b2])) b4 (.tup [.int 0])) b5 (.lst [.ref b4])) b6 (.tup [.non, .ref b1, .ref b3, .ref b5])) := (e1.trans (e2.trans (e3.trans (e4.trans (e5.trans e6))))).fr
        generalize upd (upd (upd (upd (upd (upd HA b1 (.tup [])) b2 (.tup [.int 1, .int 0])) b3 (.tup [.ref b2])) b4 (.tup [.int 0])) b5 (.lst [.ref b4])) b6 (.tup [.non, .ref b1, .ref b3, .ref b5]) = HB at r1 r2 r3 r4 r5 r6 fB ⊢
        clear e1 e2 e3 e4 e5 e6 hb1 hb2 hb3 hb4 hb5 hb6
        have odds : ∀ x ∈ ([.non, .ref b1, .ref b3, .ref b5] : List V), OddD K HB x := by
          intro x hx
          simp only [List.mem_cons, List.not_mem_nil, or_false] at hx
          rcases hx with rfl | rfl | rfl | rfl
          · exact .of (.oth (.base .non) (by decide +kernel)) .non (by decide +kernel)
          · exact .tup (dss := []) ⟨[], r1, .nil⟩ (fun d hd => by cases hd) (by decide) (by decide +kernel) (.tup r1 .nil) (by decide +kernel)
          · exact .tup (dss := [[1, 0]]) ⟨[b2], r3, .cons r2 .nil⟩ (fun d hd => by rw [List.mem_singleton.mp hd]; decide) (by decide) (by decide +kernel) (.tup r3 (.cons (.tup r2 (.cons (.int _) (.cons (.int _) .nil))) .nil)) (by decide +kernel)
          · exact .of (.oth (.base (.lst r5)) (by decide +kernel)) (.lst (.inl (.inl r5)) (.cons (.tup r4 (.cons (.int _) .nil)) .nil)) (by decide +kernel)
        have f0B := f9x.trans fB
        refine ⟨b6, rfl, ⟨_, .inl (.inl r6)⟩, ?_⟩
        refine for_it walk_tup (fun i σ' H' => Fr K [] HB H' ∧ ∃ o4 o5 : Option V, σ' = [some (.ref sh), some (.ref d), some (.ref l1), some (.ref t0), o4, o5]) ⟨Fr.refl _, _, _, rfl⟩ (fun i σ' H' _ z => z.1.tup (.inl (.inl r6))) (fun i x σ' Ha Hb hi z yy => ?_) fun σ' H' z => ?_
        · obtain ⟨fa, o4', o5', rfl⟩ := z
          obtain ⟨rfl, hx⟩ := yy
          have hodd := (odds x (List.mem_of_getElem? hx)).fr fa
          have f0a := f0B.trans fa
          clear odds hx
          obtain ⟨dd, hdx, hf1⟩ := hodd.ex
          have hdy := hodd.day
          refine r_gname ?_
          repeat walk_at "k"
          refine r_toldV ("BadDays", "given", "days") (by simp [toldL]) x (f0a.tb hT) (fun H6 E6 Q1 f6 hr6 => ?_) (fun H9 p9 f9 hp9 => ?_)
          · repeat walk_at "k"
            refine ⟨sh, dx, _, rfl, atS _ (f0a.trans f6), rfl, ?_⟩
            repeat walk_at "k"
            exact ⟨sh, D, own, x, rfl, hs.fr (f0a.trans f6) (by simp) (by simp), hwo, (f0a.trans f6).tb hT, .inl ⟨hdy.fr f6, fun H' e => hr6 H' e.fr⟩⟩
          · repeat walk_at "k"
            have f0c := f0a.trans f9
            have hdy9 := hdy.fr f9
            refine r_toldV ("BadDays", "given", "days") (by simp [toldL]) x (f0c.tb hT) (fun H6 E6 Q1 f6 hr6 => ?_) (fun H10 p10 f10 hp10 => ?_)
            · repeat walk_at "k"
              refine ⟨sh, dx, _, rfl, atS _ (f0c.trans f6), rfl, ?_⟩
              repeat walk_at "k"
              exact ⟨sh, D, own, x, .non, rfl, hs.fr (f0c.trans f6) (by simp) (by simp), hwo, (f0c.trans f6).tb hT, .inl ⟨hdy9.fr f6, fun H' e => hr6 H' e.fr⟩⟩
            · repeat walk_at "k"
              refine ⟨by show 2 ≤ sizeLine; decide, fun l11 hl11 => ?_⟩
              have e11 := Ext.new (o := .lst [.ref p9, .ref p10]) hl11
              have q9 := e11.tup (f10.tup hp9)
              have q10 := e11.tup hp10
              have q11 : (upd H10 l11 (.lst [.ref p9, .ref p10])) l11 = some (.lst [.ref p9, .ref p10]) := upd_same
              have f11 := (f9.trans f10).trans (e11.fr (K := K) (B := []))
              generalize upd H10 l11 (.lst [.ref p9, .ref p10]) = H11 at q9 q10 q11 f11 ⊢
              have hd11 := Dx.fr f11 _ _ hdx
              have dm : ∀ p, SqT K H11 p [.str "days", x] → Dx K H11 (.ref p) (.tuple [.str "days", dd]) := fun p hp => .tup hp (.cons (.str _) (.cons hd11 .nil))
              repeat walk_at "k"
              refine r_repr (.lst (.inl (.inl q11)) (.cons (dm _ q9) (.cons (dm _ q10) .nil))) hf1 ?_
              repeat walk_at "k"
              refine ⟨by show 2 ≤ sizeLine; decide, fun p17 hp17 => ?_⟩
              have e17 := Ext.new (o := .tup [.str "days", x]) hp17
              repeat walk_at "k"
              refine ⟨by show 1 ≤ sizeLine; decide, fun l18 hl18 => ?_⟩
              have e18 := Ext.new (o := .lst [.ref p17]) hl18
              repeat walk_at "k"
              refine ⟨l18, 2, [.ref p17], rfl, rfl, upd_same, by decide, by decide, by show 1 * 2 ≤ sizeLine; decide, fun l19 hl19 => ?_⟩
              rw [show (List.replicate (2 : Int).toNat [V.ref p17]).flatten = [V.ref p17, V.ref p17] from rfl]
              have e19 := Ext.new (o := .lst [.ref p17, .ref p17]) hl19
              have q17 := (e18.trans e19).tup (show SqT K (upd H11 p17 (.tup [.str "days", x])) p17 [.str "days", x] from .inl (.inl upd_same))
              have q19 : (upd (upd (upd H11 p17 (.tup [.str "days", x])) l18 (.lst [.ref p17])) l19 (.lst [.ref p17, .ref p17])) l19 = some (.lst [.ref p17, .ref p17]) := upd_same
              have fy19 := f11.trans ((e17.trans (e18.trans e19)).fr (K := K) (B := []))
              generalize upd (upd (upd H11 p17 (.tup [.str "days", x])) l18 (.lst [.ref p17])) l19 (.lst [.ref p17, .ref p17]) = H19 at q17 q19 fy19 ⊢
              have dm2 : Dx K H19 (.ref p17) (.tuple [.str "days", dd]) := .tup q17 (.cons (.str _) (.cons (Dx.fr fy19 _ _ hdx) .nil))
              repeat walk_at "k"
              refine r_repr (.lst (.inl (.inl q19)) (.cons dm2 (.cons dm2 .nil))) hf1 ?_
              repeat walk_at "k"
              rw [decide_eq_true rfl]
              repeat walk_at "k"
              exact ⟨fa.trans fy19, _, _, rfl⟩
        · obtain ⟨fa, o4', o5', rfl⟩ := z
          clear odds r1 r2 r3 r4 r5 r6
          have f0a := f0B.trans fa
          repeat walk_at "k"
          refine r_toldV ("Missing", "given", "missing") (by simp [toldL]) (.str "ok") (f0a.tb hT) (fun H6 E6 Q1 f6 hr6 => ?_) (fun H9 p9 f9 hp9 => ?_)
          · repeat walk_at "k"
            refine ⟨sh, dx, _, rfl, atS _ (f0a.trans f6), rfl, ?_⟩
            repeat walk_at "k"
            exact ⟨sh, D, own, .str "ok", none, rfl, hs.fr (f0a.trans f6) (by simp) (by simp), .out (okl _) (look_out hw (by decide)), fun l t hl h => absurd h (by simp), fun _ H' e => hr6 H' e.fr⟩
          · repeat walk_at "k"
            refine ⟨by show 2 ≤ sizeLine; decide, fun b2 hb2 => ?_⟩
            have e2 := Ext.new (o := .tup [.str "missing", .str "ok"]) hb2
            refine ⟨.tuple [.str "missing", .str "ok"], .tuple [.str "missing", .str "ok"], .tup (e2.tup hp9) (.cons (.str _) (.cons (.str _) .nil)), .tup (.inl (.inl upd_same)) (.cons (.str _) (.cons (.str _) .nil)), by decide +kernel, by decide +kernel, false, by decide +kernel, iteF ?_⟩
            have f0d := f0a.trans (f9.trans (e2.fr (K := K) (B := [])))
            have f4d := (f4x.trans fB).trans (fa.trans (f9.trans (e2.fr (K := K) (B := []))))
            generalize upd H9 b2 (.tup [.str "missing", .str "ok"]) = HD at f0d f4d ⊢
            clear hb2 hp9 e2 f9 f0a fa
            have hp1d := f4d.tup hp14
            have hp2d := hp24.fr f4d
            have hl1d := f4d.lst (by simp) hl14
            repeat walk_at "k"
            refine ⟨sh, dx, _, rfl, atS _ f0d, rfl, ?_⟩
            repeat walk_at "k"
            refine lab _ f0d _ _ fun H2 p2' e2 hp2' => ?_
            have f0e := f0d.trans (e2.fr (K := K) (B := []))
            repeat walk_at "k"
            refine ⟨sh, dx, _, rfl, atS _ f0e, rfl, ?_⟩
            repeat walk_at "k"
            refine alk _ f0e _ _ fun H3 p3' f3' hp3' => ?_
            repeat walk_at "k"
            refine ⟨by show 2 ≤ sizeLine; decide, fun l9 hl9 => ?_⟩
            have e9 := Ext.new (o := .lst [.ref p2', .ref p3']) hl9
            have fz : Fr K [] H3 (upd H3 l9 (.lst [.ref p2', .ref p3'])) := e9.fr
            have q9 : (upd H3 l9 (.lst [.ref p2', .ref p3'])) l9 = some (.lst [.ref p2', .ref p3']) := upd_same
            generalize upd H3 l9 (.lst [.ref p2', .ref p3']) = HE at fz q9 ⊢
            have fdz := (e2.fr (K := K) (B := [])).trans (f3'.trans fz)
            have hpn : ∀ e ∈ alikeL (claimsL dss own ys), e.1 ∈ nameL ∧ e.2 ∈ nameL := fun e he => by
              rw [← pairsW_eq] at he
              obtain ⟨g1, g2⟩ := pairsW_mem dss own ys e he
              exact ⟨hyn _ g1, hyn _ g2⟩
            have hpl : (alikeL (claimsL dss own ys)).length ≤ 36 := by
              rw [← pairsW_eq]
              have h2 := pairsW_len dss own ys
              have h3 : ys.length * ys.length ≤ 6 * 6 := Nat.mul_le_mul hyl hyl
              omega
            have smp := sm_pairs _ hpn
            have smn := sm_names ys hyn
            have smn2 : SmA (ys.map PyData.str) 2 (9 * ys.length) := ⟨smn.lay, Nat.le_succ_of_le smn.dep, smn.wei, smn.sho, smn.ish⟩
            obtain ⟨_, hsh, heq⟩ := (SmA.tup (.inl rfl) smn2 (SmA.tup (.inl rfl) smp (SmA.nil (n := 0)))).fits (d := .list [.tuple (ys.map .str), .tuple ((alikeL (claimsL dss own ys)).map pairD)]) (.inr rfl) (by decide) (by omega)
            repeat walk_at "k"
            refine ⟨.list [.tuple (ys.map .str), .tuple ((alikeL (claimsL dss own ys)).map pairD)], .list [.tuple (ys.map .str), .tuple ((alikeL (claimsL dss own ys)).map pairD)], .lst (.inl (.inl q9)) (.cons (.tup ((f3'.trans fz).tup hp2') (dp_strs ys)) (.cons (hp3'.fr fz).dp .nil)), .lst (.inl (.inl (fdz.lst (by simp) hl1d))) (.cons (.tup (fdz.tup hp1d) (dp_strs ys)) (.cons (hp2d.fr fdz).dp .nil)), hsh, hsh, ?_⟩
            rw [heq]
            exact q HE (f0d.trans fdz)
end
end
section
open PySem Spec PyProof.Rows L2
local macro_rules | `(tactic| walk_at "s") => `(tactic| first
  | with_reducible refine r_seq ?_
  | with_reducible refine r_next ?_
  | with_reducible refine r_asg ?_
  | with_reducible refine r_gname ?_
  | with_reducible refine r_ret ?_
  | with_reducible refine r_drop ?_
  | with_reducible refine r_ifs ?_
  | with_reducible refine r_var rfl ?_
  | with_reducible refine r_c ?_
  | with_reducible refine r_op ?_
  | with_reducible refine r_un ?_
  | with_reducible refine r_nil ?_
  | with_reducible refine r_cons ?_
  | with_reducible refine r_test ?_
  | with_reducible refine r_tb ?_
  | with_reducible refine r_and ?_
  | with_reducible refine r_or ?_
  | with_reducible refine r_not ?_
  | with_reducible refine r_andV ?_
  | with_reducible refine r_orV ?_
  | with_reducible refine r_notV ?_
  | with_reducible refine r_if ?_
  | with_reducible refine r_chain ?_
  | with_reducible refine r_cl ?_
  | with_reducible refine r_cb ?_
  | with_reducible refine r_bl ?_
  | with_reducible refine r_I0 ?_
  | with_reducible refine r_yes ?_
  | with_reducible refine r_itT ?_
  | with_reducible refine r_itL ?_
  | with_reducible refine r_itS ?_
  | with_reducible refine r_itE ?_
  | with_reducible refine r_revT ?_
  | with_reducible refine r_star ?_
  | with_reducible refine r_for ?_
  | with_reducible refine r_bm ?_
  | with_reducible refine r_bm0 ?_
  | with_reducible refine r_kget1 ?_
  | with_reducible refine r_kget2 ?_
  | with_reducible refine r_par ?_
  | with_reducible refine r_tup ?_
  | with_reducible refine r_lst ?_
  | with_reducible refine r_exI ?_
  | with_reducible refine r_itZ ?_
  | with_reducible refine r_dget ?_
  | with_reducible refine r_U ?_
  | with_reducible refine r_rng1 ?_
  | with_reducible refine r_gsub ?_
  | with_reducible refine r_pnil ?_
  | with_reducible refine r_pcons ?_
  | with_reducible refine r_methR ?_
  | with_reducible refine r_dpop1 ?_
  | with_reducible refine r_dput ?_
  | with_reducible refine r_din ?_
  | with_reducible refine r_dnotin ?_
  | with_reducible refine r_nopart ?_
  | with_reducible refine r_lc ?_
  | with_reducible refine r_sl ?_
  | with_reducible refine r_part ?_
  | with_reducible refine r_eq rfl ?_
  | with_reducible refine r_ne rfl ?_
  | with_reducible refine iteT ?_
  | with_reducible refine iteF ?_
  | with_reducible refine ite_nt ?_
  | with_reducible refine ite_nf ?_)
local macro_rules | `(tactic| walk_at "k") => `(tactic| first
  | walk_at "s"
  | with_reducible refine ite_eqT (by decide +kernel) ?_
  | with_reducible refine ite_eqF (by decide +kernel) ?_)
open LamX
section
variable {P : Program} {w : World} {K : PySem.W.Frag} {mg : Str → Option Value} {base : Heap}
theorem hdm : ("_law_many_right" : Str) ∈ lamL := List.mem_of_getElem? (i := 3) rfl
theorem sc__law_many_right : FnScope ["days_so", "name", "told_so", "pair", "names", "shelf_so", "k"] [] (defScope (top 75)) := ⟨rfl, rfl, rfl, by decide +kernel, rfl, by decide +kernel, by decide +kernel⟩
/-! ### twenty labels and one more -/
def nmI (i : Nat) : Str := "l" ++ (⟨#[97 + i]⟩ : Str)
def ownK (n : Nat) : Own := (List.range n).map fun i => (nmI i, .lf .cash 0)
def own2 : Own := putN (ownK 20) "lb" (.lf .at_ 0)
def ownP : Own := [("x", .lf .at_ 0), ("y", .lf .cash 0)]
theorem nm_at : ∀ i : Fin 21, atI ("abcdefghijklmnopqrstu" : Str).cps.toList ((0 : Int) + (i.val : Int)) = some (97 + i.val) := by decide +kernel
theorem nm_len : ∀ i : Fin 21, ("l" : Str).length + (⟨#[97 + i.val]⟩ : Str).length ≤ 1000 := by decide +kernel
theorem nm_labI : ∀ i : Fin 21, labOk (nmI i.val) = true ∧ (nmI i.val).length ≤ 1000 := by decide +kernel
theorem nm_new : ∀ i : Fin 21, lookN (ownK i.val) (nmI i.val) = none := by decide +kernel
theorem nm_put : ∀ i : Fin 20, putN (ownK i.val) (nmI i.val) (.lf .cash 0) = ownK (i.val + 1) := by decide +kernel
theorem own2_names : names own2 = (List.range 20).map nmI ∧ sortedS (names own2) = true ∧ own2.length = 20 := by decide +kernel
theorem own2_wf : (own2.all fun e => decide (e.2.wds ≤ 20 ∧ e.2.hgt ≤ 8) && allOwn e.2) = true := by decide +kernel
theorem own2_alike : (alikeL (claimsL [[0, 1]] own2 (names own2))).length = 171 := by decide +kernel
theorem own2_la : (payingL [[0, 1]] own2 (names own2) "la").length = 19 ∧ lookN own2 "la" = some (.lf .cash 0) := by decide +kernel
theorem own2_lb : payingL [[0, 1]] own2 (names own2) "lb" = [] ∧ lookN own2 "lb" = some (.lf .at_ 0) := by decide +kernel
theorem own3_lu : lookN (dropN own2 "lb") (nmI 20) = none ∧ (dropN own2 "lb").length = 19 ∧ nmI 20 = "lu" := by decide +kernel
theorem ownP_names : names ownP = (["x", "y"] : List Str) ∧ sortedS (names ownP) = true ∧ putN (putN [] "x" (.lf .at_ 0)) "y" (.lf .cash 0) = ownP := by decide +kernel
theorem ownP_alike : alikeL (claimsL [[0]] ownP ["x", "y"]) = ([("x", "y")] : List (Str × Str)) ∧ alikeL (claimsL [[0, 1]] ownP ["x", "y"]) = [] := by decide +kernel
theorem ownP_pay : payingL [[0]] ownP ["x", "y"] "x" = (["y"] : List Str) ∧ payingL [[0, 1]] ownP ["x", "y"] "x" = [] ∧ payingL [[0, 1]] ownP ["x", "y"] "y" = (["x"] : List Str) ∧ payingL [[-1, 0]] ownP ["x", "y"] "x" = (["y"] : List Str) := by decide +kernel
theorem days4 : daysOk [[0, 1]] = true ∧ daysOk [[0]] = true ∧ daysOk [[-1, 0]] = true := by decide +kernel
theorem ownK_len (n : Nat) : (ownK n).length = n := by simp [ownK]
theorem own2_ok : OwnOk own2 := ⟨by rw [own2_names.2.2]; decide, fun e he => by
  have h := List.all_eq_true.mp own2_wf e he
  rw [Bool.and_eq_true] at h
  have h1 := of_decide_eq_true h.1
  exact ⟨h1.1, h1.2, h.2⟩⟩
def spMany (K : PySem.W.Frag) : Sp := fun vs H Q _ => vs = [] ∧ Tabs (TT K) H ∧ ∀ H', Q (.bl true) H'
theorem c__law_many_right (fx : Fx K mg w) (lx : Lx K mg base) : CalR P w K mg base 12 "_law_many_right" (spMany K) := by
  refine fx.d__law_many_right.okC (lx.me _ hdm) sc__law_many_right (fun vs H Q E q => ?_) (fun _ _ _ _ _ _ us hl => match us, hl with | [], _ => rfl) fun f A outer s H vs Q E hr q => ?_
  · obtain ⟨rfl, _⟩ := q
    rfl
  · obtain ⟨rfl, hT, q⟩ := q
    have hu2 := hu_of hr
    have hu := hr.units
    refine ⟨_, (pss_cons (ps_asg (pe_tup (pa_cons (pe_shelf fx (hr.mono (by decide)) px) (pa_cons (pe_tup (pa_cons (pe_tup (pa_cons pe_int (pa_cons pe_int pa_nil))) pa_nil)) pa_nil))) (pg_tup (n := 2) rfl (pgs_cons (pg_name (i := 5) (x := "shelf_so") sc__law_many_right.nd rfl (Or.inr rfl) (.inl rfl)) (pgs_cons (pg_name (i := 0) (x := "days_so") sc__law_many_right.nd rfl (Or.inl rfl) (.inl rfl)) pgs_nil))))
    (pss_cons (ps_set (i := 4) sc__law_many_right.nd rfl (Or.inr rfl) (pe_lc (own := [("k", 6)]) (g := gName 6) (tt := tYes) rfl sc__law_many_right.nd (pi_range1 rfl fx.n_range (pa_cons pe_int pa_nil)) (blkOk_by (N := ["days_so", "name", "told_so", "pair", "names", "shelf_so", "k"]) (sc := defScope (top 75)) (by decide +kernel)) (fun _ _ _ _ _ => (pg_name (i := 6) (x := "k") sc__law_many_right.nd rfl (Or.inl rfl) (.inr rfl))) (fun _ _ _ _ _ => pts_nil) (fun _ _ _ _ _ => (pe_op op_add_str pe_str (pe_ix ix_str pe_str (pv 6) (fun _ _ => rfl))))))
    (pss_cons (ps_for PassesOwn.leaving rfl (pi_list (pe_slice sl_list (pv 4) po_none (po_some pe_int))) (pg_name (i := 1) (x := "name") sc__law_many_right.nd rfl (Or.inl rfl) (.inl rfl)) (pss_one (ps_expr (pe_methR (pv 5) fx.shm.2.1 fx.s_put.meth (m_put fx) (hr.mono (by decide)) px (pa_cons (pv 1) (pa_cons (pe_tup (pa_cons pe_str (pa_cons pe_int pa_nil))) pa_nil))))))
    (pss_cons (ps_set (i := 2) sc__law_many_right.nd rfl (Or.inl rfl) (pe_lst (pa_cons (pe_told (k := 7) (t := fun E => tMethR (He.ga K "Shelf") "put" (spPut K) E (tVar 5) (tCons (tOp (rIxL K) (tVar 4) (tC (.int 20))) (tCons (tTup (tCons (tC (.str "cash")) (tCons (tC (.int 1)) tNil))) tNil))) fx rfl (lx.tb _ hdm) rfl (lx.mem hdm) (lx.uni hdm) (hr.mono (by decide)) (lamS_by (sc := defScope (top 75)) (by decide +kernel)) rfl (fun _ _ _ _ _ => rfl) (fun _ _ _ _ _ _ _ hr2 => pe_methR (pv 5) fx.shm.2.1 fx.s_put.meth (m_put fx) hr2 (passes_call (takes_of rfl rfl rfl rfl) fun _ _ _ _ h => h) (pa_cons (pe_ix ix_list (pv 4) pe_int (fun _ _ => rfl)) (pa_cons (pe_tup (pa_cons pe_str (pa_cons pe_int pa_nil))) pa_nil)))) pa_nil)))
    (pss_cons (ps_expr (pe_bm PySem.F.plainAttrs_list PySem.F.slot_list_append PySem.F.type_list_append mt_append (pv 2) (pa_cons (pe_told (k := 7) (t := fun E => tMethR (He.ga K "Shelf") "put" (spPut K) E (tVar 5) (tCons (tC (.str "lb")) (tCons (tTup (tCons (tC (.str "at")) (tCons (tC (.int 0)) tNil))) tNil))) fx rfl (lx.tb _ hdm) rfl (lx.mem hdm) (lx.uni hdm) (hr.mono (by decide)) (lamS_by (sc := defScope (top 75)) (by decide +kernel)) rfl (fun _ _ _ _ _ => rfl) (fun _ _ _ _ _ _ _ hr2 => pe_methR (pv 5) fx.shm.2.1 fx.s_put.meth (m_put fx) hr2 (passes_call (takes_of rfl rfl rfl rfl) fun _ _ _ _ h => h) (pa_cons pe_str (pa_cons (pe_tup (pa_cons pe_str (pa_cons pe_int pa_nil))) pa_nil)))) pa_nil)))
    (pss_cons (ps_expr (pe_bm PySem.F.plainAttrs_list PySem.F.slot_list_append PySem.F.type_list_append mt_append (pv 2) (pa_cons (pe_told (k := 7) (t := fun E => tMethR (He.ga K "Shelf") "put" (spPut K) E (tVar 5) (tCons (tOp (rIxL K) (tVar 4) (tC (.int 20))) (tCons (tC .non) tNil))) fx rfl (lx.tb _ hdm) rfl (lx.mem hdm) (lx.uni hdm) (hr.mono (by decide)) (lamS_by (sc := defScope (top 75)) (by decide +kernel)) rfl (fun _ _ _ _ _ => rfl) (fun _ _ _ _ _ _ _ hr2 => pe_methR (pv 5) fx.shm.2.1 fx.s_put.meth (m_put fx) hr2 (passes_call (takes_of rfl rfl rfl rfl) fun _ _ _ _ h => h) (pa_cons (pe_ix ix_list (pv 4) pe_int (fun _ _ => rfl)) (pa_cons pe_non pa_nil)))) pa_nil)))
    (pss_cons (ps_set (i := 2) sc__law_many_right.nd rfl (Or.inl rfl) (pe_op op_cat (pv 2) (pe_lst (pa_cons (pe_callB (call_lenOwn ⟨fx.s_len.at_, fx.s_len.isF⟩ (m_len fx) (hr.mono (by decide)) px) rfl fx.n_len (by decide +kernel) (pa_cons (pv 5) pa_nil)) (pa_cons (pe_callB call_len_seq rfl fx.n_len (by decide +kernel) (pa_cons (pe_methR (pv 5) fx.shm.2.1 fx.s_alike.meth (m_alike fx lx) (hr.mono (by decide)) px (pa_cons (pv 0) pa_nil)) pa_nil)) pa_nil)))))
    (pss_cons (ps_if (PW.pt (pw_or (pt_cmpR (op_neD hu) (pv 2) (pe_lst (pa_cons (pe_tup (pa_cons pe_str (pa_cons pe_int pa_nil))) (pa_cons (pe_lst (pa_cons pe_non pa_nil)) (pa_cons (pe_tup (pa_cons pe_str (pa_cons (pe_tup pa_nil) pa_nil))) (pa_cons pe_int (pa_cons pe_int pa_nil)))))) (nomark _)) (pw_or1 (pt_cmpR op_ne (pe_callB call_len_seq rfl fx.n_len (by decide +kernel) (pa_cons (pe_methR (pv 5) fx.shm.2.1 fx.s_paying.meth (m_paying fx lx) (hr.mono (by decide)) px (pa_cons (pv 0) (pa_cons pe_str pa_nil))) pa_nil)) pe_int (nomark _))))) (pss_one (ps_ret pe_bl)) pss_nil)
    (pss_cons (ps_if (PW.pt (pw_or (pt_cmpR (op_neD hu) (pe_methR (pv 5) fx.shm.2.1 fx.s_paying.meth (m_paying fx lx) (hr.mono (by decide)) px (pa_cons (pv 0) (pa_cons pe_str pa_nil))) (pe_tup pa_nil) (nomark _)) (pw_or1 (pt_cmpR (op_neD hu) (pe_methR (pv 5) fx.shm.2.1 fx.s_take.meth (m_take fx) (hr.mono (by decide)) px (pa_cons pe_str pa_nil)) (pe_tup (pa_cons pe_str (pa_cons pe_int pa_nil))) (nomark _))))) (pss_one (ps_ret pe_bl)) pss_nil)
    (pss_cons (ps_set (i := 3) sc__law_many_right.nd rfl (Or.inl rfl) (pe_shelf fx (hr.mono (by decide)) px))
    (pss_cons (ps_expr (pe_methR (pv 3) fx.shm.2.1 fx.s_put.meth (m_put fx) (hr.mono (by decide)) px (pa_cons pe_str (pa_cons (pe_tup (pa_cons pe_str (pa_cons pe_int pa_nil))) pa_nil))))
    (pss_cons (ps_expr (pe_methR (pv 3) fx.shm.2.1 fx.s_put.meth (m_put fx) (hr.mono (by decide)) px (pa_cons pe_str (pa_cons (pe_tup (pa_cons pe_str (pa_cons pe_int pa_nil))) pa_nil))))
    (pss_cons (ps_set (i := 2) sc__law_many_right.nd rfl (Or.inl rfl) (pe_lst (pa_cons (pe_methR (pv 3) fx.shm.2.1 fx.s_alike.meth (m_alike fx lx) (hr.mono (by decide)) px (pa_cons (pe_tup (pa_cons (pe_tup (pa_cons pe_int pa_nil)) pa_nil)) pa_nil)) (pa_cons (pe_methR (pv 3) fx.shm.2.1 fx.s_alike.meth (m_alike fx lx) (hr.mono (by decide)) px (pa_cons (pe_tup (pa_cons (pe_tup (pa_cons pe_int (pa_cons pe_int pa_nil))) pa_nil)) pa_nil)) (pa_cons (pe_methR (pv 3) fx.shm.2.1 fx.s_alike.meth (m_alike fx lx) (hr.mono (by decide)) px (pa_cons (pe_tup (pa_cons (pe_tup (pa_cons pe_int pa_nil)) pa_nil)) pa_nil)) (pa_cons (pe_methR (pv 3) fx.shm.2.1 fx.s_paying.meth (m_paying fx lx) (hr.mono (by decide)) px (pa_cons (pe_tup (pa_cons (pe_tup (pa_cons pe_int pa_nil)) pa_nil)) (pa_cons pe_str pa_nil))) pa_nil))))))
    (pss_cons (ps_set (i := 2) sc__law_many_right.nd rfl (Or.inl rfl) (pe_op op_cat (pv 2) (pe_lst (pa_cons (pe_methR (pv 3) fx.shm.2.1 fx.s_paying.meth (m_paying fx lx) (hr.mono (by decide)) px (pa_cons (pe_tup (pa_cons (pe_tup (pa_cons pe_int (pa_cons pe_int pa_nil))) pa_nil)) (pa_cons pe_str pa_nil))) (pa_cons (pe_methR (pv 3) fx.shm.2.1 fx.s_paying.meth (m_paying fx lx) (hr.mono (by decide)) px (pa_cons (pe_tup (pa_cons (pe_tup (pa_cons pe_int (pa_cons pe_int pa_nil))) pa_nil)) (pa_cons pe_str pa_nil))) (pa_cons (pe_methR (pv 3) fx.shm.2.1 fx.s_paying.meth (m_paying fx lx) (hr.mono (by decide)) px (pa_cons (pe_tup (pa_cons (pe_tup (pa_cons (pe_un un_neg pe_int) (pa_cons pe_int pa_nil))) pa_nil)) (pa_cons pe_str pa_nil))) pa_nil))))))
    (pss_cons (ps_if (pt_cmpR (op_neD hu) (pv 2) (pe_lst (pa_cons (pe_tup (pa_cons (pe_tup (pa_cons pe_str (pa_cons pe_str pa_nil))) pa_nil)) (pa_cons (pe_tup pa_nil) (pa_cons (pe_tup (pa_cons (pe_tup (pa_cons pe_str (pa_cons pe_str pa_nil))) pa_nil)) (pa_cons (pe_tup (pa_cons pe_str pa_nil)) (pa_cons (pe_tup pa_nil) (pa_cons (pe_tup (pa_cons pe_str pa_nil)) (pa_cons (pe_tup (pa_cons pe_str pa_nil)) pa_nil)))))))) (nomark _)) (pss_one (ps_ret pe_bl)) pss_nil)
    (pss_one (ps_ret (pe_cmpR op_isN (pe_methR (pv 5) fx.shm.2.1 fx.s_put.meth (m_put fx) (hr.mono (by decide)) px (pa_cons pe_str (pa_cons (pe_tup (pa_cons pe_str (pa_cons pe_int pa_nil))) pa_nil))) pe_non (nomark _))))))))))))))))))), ?_⟩
    repeat walk_at "k"
    refine fun H1 sh D e1 n1 n2 hs1 => ?_
    repeat walk_at "k"
    refine ⟨by show 2 ≤ sizeLine; decide, fun a1 ha1 => ?_⟩
    have e2 := Ext.new (o := .tup [.int 0, .int 1]) ha1
    repeat walk_at "k"
    refine ⟨by show 1 ≤ sizeLine; decide, fun a2 ha2 => ?_⟩
    have e3 := Ext.new (o := .tup [.ref a1]) ha2
    repeat walk_at "k"
    refine ⟨by show 2 ≤ sizeLine; decide, fun a3 ha3 => ?_⟩
    have e4 := Ext.new (o := .tup [.ref sh, .ref a2]) ha3
    refine ⟨a3, _, rfl, .inl (.inl upd_same), rfl, _, _, rfl, r_gname ⟨_, _, rfl, r_gname ⟨rfl, ?_⟩⟩⟩
    have hd4 : DaysAt K _ a2 [[0, 1]] := ⟨[a1], e4.tup (.inl (.inl upd_same)), .cons ((e3.trans e4).tup (.inl (.inl upd_same))) .nil⟩
    have hs4 := hs1.ext (e2.trans (e3.trans e4))
    have hT4 : Tabs (TT K) _ := hT.ext (e1.trans (e2.trans (e3.trans e4)))
    generalize upd (upd (upd H1 a1 (.tup [.int 0, .int 1])) a2 (.tup [.ref a1])) a3 (.tup [.ref sh, .ref a2]) = H4 at hd4 hs4 hT4 ⊢
    clear e1 n1 n2 hs1 e2 e3 e4 ha1 ha2 ha3 hT
    repeat walk_at "k"
    refine ⟨21, rfl, by decide, by decide, fun DN hDN => lc_vals (K := K) walk_range hDN (by decide) (fun _ _ => trivial) (fun i => .str (nmI i)) yFn_ext (fun i x Hx He hi e yy Kt hk => ?_) fun H5 e5 hN => ?_⟩
    · obtain ⟨rfl, rfl⟩ := yy
      have hi21 : i < 21 := hi
      refine r_gname ⟨rfl, ?_⟩
      repeat walk_at "k"
      refine ⟨_, _, _, rfl, rfl, by decide +kernel, nm_at ⟨i, hi21⟩, ?_⟩
      have := nm_len ⟨i, hi21⟩
      refine ⟨_, _, rfl, rfl, by rw [sizeLine_eq]; exact Nat.le_trans this (by decide), ?_⟩
      exact hk _ (Ext.refl _)
    · have hd5 := hd4.tk e5.tk
      have hs5 := hs4.ext e5
      have hT5 := hT4.ext e5
      replace hN : H5 DN = some (.lst (((List.range 21).map nmI).map .str)) := by rw [hN, List.map_map]; rfl
      clear hd4 hs4 hT4 e5 hDN
      repeat walk_at "k"
      refine ⟨DN, _, rfl, .inl (.inl hN), fun S hS => ?_⟩
      rw [cutV_to _ 20 (by decide), show List.take (20 : Int).toNat (((List.range 21).map nmI).map V.str) = ((List.range 20).map nmI).map V.str from by rw [← List.map_take, ← List.map_take]; rfl]
      have e6 := Ext.new (o := .lst (((List.range 20).map nmI).map V.str)) hS
      have hS6 : (upd H5 S (.lst (((List.range 20).map nmI).map V.str))) S = some (.lst (((List.range 20).map nmI).map V.str)) := upd_same
      have hN6 := e6 _ _ hN
      have hd6 := hd5.tk (K := K) e6.tk
      have hs6 := hs5.ext e6
      have hT6 := hT5.ext e6
      generalize upd H5 S (.lst (((List.range 20).map nmI).map V.str)) = H6 at hS6 hN6 hd6 hs6 hT6 ⊢
      clear e6 hS hN hd5 hs5 hT5
      have nSD : S ≠ D := by
        obtain ⟨_, _, g, _⟩ := hs6
        exact ne_of hS6 g fun z => by cases z
      have nND : DN ≠ D := by
        obtain ⟨_, _, g, _⟩ := hs6
        exact ne_of hN6 g fun z => by cases z
      refine ⟨S, rfl, ⟨_, .inl (.inl hS6)⟩, ?_⟩
      refine for_it walk_list (fun i σ' H' => Fr K [D] H6 H' ∧ ShAt K H' sh D (ownK i) ∧ ∃ o1 o2 o3 o6 : Option V, σ' = [some (.ref a2), o1, o2, o3, some (.ref DN), some (.ref sh), o6]) ⟨Fr.refl _, hs6, _, _, _, _, rfl⟩ (fun i σ' H' _ z => .inl (.inl (z.1.lst (by simpa using nSD) hS6))) (fun i x σ' Ha Hb hi z yy => ?_) fun σ' H7 z => ?_
      · obtain ⟨fa, hsa, o1, o2, o3, o6, rfl⟩ := z
        obtain ⟨rfl, hx⟩ := yy
        have hi20 : i < 20 := by simpa using hi
        have hx2 : some (V.str (nmI i)) = some x := by
          rw [← hx, List.getElem?_map, List.getElem?_map, List.getElem?_range hi20]
          rfl
        cases hx2
        obtain ⟨⟨dx, hsa1⟩, _⟩ := id hsa
        refine r_gname ?_
        repeat walk_at "k"
        refine ⟨sh, dx, _, rfl, hsa1, rfl, ?_⟩
        repeat walk_at "k"
        refine ⟨by show 2 ≤ sizeLine; decide, fun t ht => ?_⟩
        have e8 := Ext.new (o := .tup [.str "cash", .int 0]) ht
        repeat walk_at "k"
        refine r_put (hsa.ext e8) (by rw [ownK_len]; omega) (lab_of (nm_labI ⟨i, by omega⟩)) (t := .lf .cash 0) ⟨t, rfl, .inl (.inl upd_same)⟩ (leaf_wf (by decide)) (fun _ => by rw [ownK_len]; omega) fun H' f hs' => ?_
        rw [nm_put ⟨i, hi20⟩] at hs'
        repeat walk_at "k"
        exact ⟨(fa.trans e8.fr).trans f, hs', _, _, _, _, rfl⟩
      · obtain ⟨fa, hs7, o1, o2, o3, o6, rfl⟩ := z
        rw [show (((List.range 20).map nmI).map V.str).length = 20 from by simp] at hs7
        have hN7 := fa.lst (by simpa using nND) hN6
        have hd7 := hd6.tk fa.tk
        have hT7 := fa.tb hT6
        clear fa hN6 hd6 hT6 hs6 hS6 nSD
        repeat walk_at "k"
        have at20 : atI (((List.range 21).map nmI).map V.str) 20 = some (.str (nmI 20)) := atI_nat (j := 20) (by rw [List.getElem?_map, List.getElem?_map, List.getElem?_range (by decide)]; rfl)
        have lb20 : ∀ Hq, LabV K Hq (.str (nmI 20)) true := fun Hq => lab_of (nm_labI ⟨20, by decide⟩)
        refine r_toldV ("TooMany", "most", "many") (by simp [toldL]) (.int 20) hT7 (fun H8 E8 Q1 f8 hr8 => ?_) (fun H9 p9 f9 hp9 => ?_)
        · have hs8 := hs7.fr f8 (by simp) (by simp)
          obtain ⟨⟨dx, hs81⟩, _⟩ := id hs8
          repeat walk_at "k"
          refine ⟨sh, dx, _, rfl, hs81, rfl, ?_⟩
          repeat walk_at "k"
          refine r_ixL (.inl (.inl (f8.lst (by simp) hN7))) at20 ?_
          repeat walk_at "k"
          refine ⟨by show 2 ≤ sizeLine; decide, fun t ht => ?_⟩
          have e8 := Ext.new (o := .tup [.str "cash", .int 1]) ht
          repeat walk_at "k"
          have hgd := leaf_wf (w := .cash) (n := 1) (by decide)
          exact ⟨sh, D, ownK 20, .str (nmI 20), .ref t, rfl, hs8.ext e8, by rw [ownK_len]; omega, .inr ⟨nmI 20, rfl, lb20 _, .inr ⟨.lf .cash 1, ⟨t, rfl, .inl (.inl upd_same)⟩, hgd.1, hgd.2.1, fun pth hp => absurd hp (firstBad_none hgd.2.2), fun _ => ⟨fun _ _ H' e => hr8 H' (e8.trans e).fr, fun hne => absurd (ownK_len 20) (hne (nm_new ⟨20, by decide⟩))⟩⟩⟩⟩
        · repeat walk_at "k"
          refine ⟨by show 1 ≤ sizeLine; decide, fun l10 hl10 => ?_⟩
          have e10 := Ext.new (o := .lst [.ref p9]) hl10
          have f10 : Fr K [] H7 (upd H9 l10 (.lst [.ref p9])) := f9.trans e10.fr
          have q9 := e10.tup hp9
          have q10 : (upd H9 l10 (.lst [.ref p9])) l10 = some (.lst [.ref p9]) := upd_same
          generalize upd H9 l10 (.lst [.ref p9]) = H10 at f10 q9 q10 ⊢
          clear e10 hl10 hp9 f9
          have hs10 := hs7.fr f10 (by simp) (by simp)
          have hd10 := hd7.tk f10.tk
          have hN10 := f10.lst (by simp) hN7
          have hT10 := f10.tb hT7
          clear f10 hs7 hd7 hN7 hT7
          have nlD : l10 ≠ D := by
            obtain ⟨_, _, g, _⟩ := hs10
            exact ne_of q10 g fun z => by cases z
          repeat walk_at "k"
          refine ⟨tyL q10, ?_⟩
          repeat walk_at "k"
          refine r_toldQ [D] (fun u Hq => u = .non ∧ ShAt K Hq sh D own2) hT10 (fun H11 E11 Q1 f11 hq11 => ?_) (fun H12 H13 p13 u f12 hR e13 hp13 => ?_)
          · have hs11 := hs10.fr f11 (by simp) (by simp)
            obtain ⟨⟨dx, hs111⟩, _⟩ := id hs11
            repeat walk_at "k"
            refine ⟨sh, dx, _, rfl, hs111, rfl, ?_⟩
            repeat walk_at "k"
            refine ⟨by show 2 ≤ sizeLine; decide, fun t ht => ?_⟩
            have e8 := Ext.new (o := .tup [.str "at", .int 0]) ht
            repeat walk_at "k"
            exact r_put (hs11.ext e8) (by rw [ownK_len]; omega) (lab_of (by decide +kernel)) (t := .lf .at_ 0) ⟨t, rfl, .inl (.inl upd_same)⟩ (leaf_wf (by decide)) (fun h => absurd h (by decide +kernel)) fun H' f hs' => hq11 _ _ (e8.fr.trans f) ⟨rfl, hs'⟩
          · obtain ⟨rfl, hs12⟩ := hR
            have hs13 := hs12.ext e13
            have f13 := f12.trans (e13.fr (K := K) (B := [D]))
            have q10b := f13.lst (by simpa using nlD) q10
            have q9b := f13.tup q9
            have hd13 := hd10.tk f13.tk
            have hN13 := f13.lst (by simpa using nND) hN10
            have hT13 := f13.tb hT10
            clear f12 hs12 e13 f13 q10 q9 hd10 hN10 hT10 hs10
            repeat walk_at "k"
            refine ⟨l10, _, _, rfl, rfl, q10b, by show 1 < sizeLine; decide, ?_⟩
            repeat walk_at "k"
            have f14 : Fr K [l10] H13 (upd H13 l10 (.lst ([.ref p9] ++ [.ref p13]))) := Fr.putL q10b (by simp)
            have q14 : (upd H13 l10 (.lst ([.ref p9] ++ [.ref p13]))) l10 = some (.lst [.ref p9, .ref p13]) := upd_same
            have np13 : p13 ≠ l10 := fun z => by
              rw [z, q10b] at hp13
              cases hp13
            have nDNl : DN ≠ l10 := fun z => by
              rw [z, q10b] at hN13
              have := congrArg List.length (HO.lst.inj (Option.some.inj hN13))
              simp at this
            have hs14 := hs13.fr f14 (by
              obtain ⟨⟨_, g⟩, _⟩ := hs13
              simpa using ne_of g q10b fun z => by cases z) (by simpa using Ne.symm nlD)
            have q9c := f14.tup q9b
            have q13 := f14.lst (by simpa using np13) hp13
            have hd14 := hd13.tk f14.tk
            have hN14 := f14.lst (by simpa using nDNl) hN13
            have hT14 := f14.tb hT13
            generalize upd H13 l10 (.lst ([.ref p9] ++ [.ref p13])) = H14 at q14 hs14 q9c q13 hd14 hN14 hT14 ⊢
            clear f14 hs13 q9b hp13 hd13 hN13 hT13 q10b
            refine ⟨tyL q14, ?_⟩
            repeat walk_at "k"
            refine r_toldE ("BadTerm", "path", "term") (by simp [toldL]) (fun Hq v => ∃ a, v = .ref a ∧ SqT K Hq a []) (fun Ha Hb v f ⟨a, z1, z2⟩ => ⟨a, z1, f.tup z2⟩) hT14 (fun H15 E15 Q1 f15 hr15 => ?_) (fun H16 p16 v f16 hv hp16 => ?_)
            · have hs15 := hs14.fr f15 (by simp) (by simp)
              obtain ⟨⟨dx, hs151⟩, _⟩ := id hs15
              repeat walk_at "k"
              refine ⟨sh, dx, _, rfl, hs151, rfl, ?_⟩
              repeat walk_at "k"
              refine r_ixL (.inl (.inl (f15.lst (by simp) hN14))) at20 ?_
              repeat walk_at "k"
              exact ⟨sh, D, own2, .str (nmI 20), .non, rfl, hs15, by rw [own2_names.2.2]; decide, .inr ⟨nmI 20, rfl, lb20 _, .inl ⟨rfl, fun H' a e ha => hr15 H' _ e.fr ⟨a, rfl, ha⟩⟩⟩⟩
            · obtain ⟨va, rfl, hva⟩ := hv
              have q16 := f16.lst (by simp) q14
              have q9d := f16.tup q9c
              have q13d := f16.lst (by simp) q13
              have hs16 := hs14.fr f16 (by simp) (by simp)
              have hd16 := hd14.tk f16.tk
              have hT16 := f16.tb hT14
              clear q14 q9c q13 hs14 hd14 hT14 f16 hN14
              repeat walk_at "k"
              refine ⟨l10, _, _, rfl, rfl, q16, by show 2 < sizeLine; decide, ?_⟩
              have f17 : Fr K [l10] H16 (upd H16 l10 (.lst ([.ref p9, .ref p13] ++ [.ref p16]))) := Fr.putL q16 (by simp)
              have q17 : (upd H16 l10 (.lst ([.ref p9, .ref p13] ++ [.ref p16]))) l10 = some (.lst [.ref p9, .ref p13, .ref p16]) := upd_same
              have hs17 := hs16.fr f17 (by
                obtain ⟨⟨_, g⟩, _⟩ := hs16
                simpa using ne_of g q16 fun z => by cases z) (by simpa using Ne.symm nlD)
              have r9 := f17.tup q9d
              have r13 := f17.lst (by simpa using np13) q13d
              have r16 := f17.tup hp16
              have rva := f17.tup hva
              have hd17 := hd16.tk f17.tk
              have hT17 := f17.tb hT16
              generalize upd H16 l10 (.lst ([.ref p9, .ref p13] ++ [.ref p16])) = H17 at q17 hs17 r9 r13 r16 rva hd17 hT17 ⊢
              clear f17 hs16 q9d q13d hp16 hva hd16 hT16 q16
              repeat walk_at "k"
              obtain ⟨⟨dx, hs171⟩, _⟩ := id hs17
              refine ⟨sh, dx, _, rfl, hs171, sh, D, own2, rfl, hs17, own2.length, rfl, by omega, by rw [own2_names.2.2]; decide, ?_⟩
              rw [own2_names.2.2]
              repeat walk_at "k"
              refine ⟨sh, dx, _, rfl, hs171, rfl, ?_⟩
              repeat walk_at "k"
              refine ⟨sh, D, own2, .ref a2, rfl, hs17, own2_ok, hT17, .inr ⟨a2, [[0, 1]], rfl, hd17, days4.1, fun ys H18 p18 hy ho f18 hp18 => ?_⟩⟩
              obtain rfl : ys = names own2 := sortedS_one hy ho own2_names.2.1
              obtain ⟨qs, hq1, hq2⟩ := hp18
              have hql := Paired.length hq2
              rw [own2_alike] at hql
              repeat walk_at "k"
              refine ⟨p18, qs.map .ref, rfl, .inr hq1, ?_⟩
              rw [List.length_map, hql]
              repeat walk_at "k"
              refine ⟨by show 2 ≤ sizeLine; decide, fun l19 hl19 => ?_⟩
              have e19 := Ext.new (o := .lst [.int 20, .int 171]) hl19
              have f19 : Fr K [] H17 (upd H18 l19 (.lst [.int 20, .int 171])) := f18.trans e19.fr
              have q19 : (upd H18 l19 (.lst [.int 20, .int 171])) l19 = some (.lst [.int 20, .int 171]) := upd_same
              generalize upd H18 l19 (.lst [.int 20, .int 171]) = H19 at f19 q19 ⊢
              clear e19 hl19 f18 hq1 hq2 hql
              refine ⟨l10, l19, _, _, rfl, rfl, f19.lst (by simp) q17, q19, by show 3 + 2 ≤ sizeLine; decide, fun l20 hl20 => ?_⟩
              have e20 := Ext.new (o := .lst ([.ref p9, .ref p13, .ref p16] ++ [.int 20, .int 171])) hl20
              have f20 : Fr K [] H17 (upd H19 l20 (.lst ([.ref p9, .ref p13, .ref p16] ++ [.int 20, .int 171]))) := f19.trans e20.fr
              have q20 : (upd H19 l20 (.lst ([.ref p9, .ref p13, .ref p16] ++ [.int 20, .int 171]))) l20 = some (.lst [.ref p9, .ref p13, .ref p16, .int 20, .int 171]) := upd_same
              generalize upd H19 l20 (.lst ([.ref p9, .ref p13, .ref p16] ++ [.int 20, .int 171])) = H20 at f20 q20 ⊢
              clear e20 hl20 f19 q19
              have s9 := f20.tup r9
              have s13 := f20.lst (by simp) r13
              have s16 := f20.tup r16
              have sva := f20.tup rva
              have hs20 := hs17.fr f20 (by simp) (by simp)
              have hd20 := hd17.tk f20.tk
              have hT20 := f20.tb hT17
              clear f20 r9 r13 r16 rva hs17 hd17 hT17 q17 hs171
              repeat walk_at "k"
              refine ⟨by show 2 ≤ sizeLine; decide, fun b1 hb1 => ?_⟩
              have e1 := Ext.new (o := .tup [.str "many", .int 20]) hb1
              repeat walk_at "k"
              refine ⟨by show 1 ≤ sizeLine; decide, fun b2 hb2 => ?_⟩
              have e2 := Ext.new (o := .lst [.non]) hb2
              repeat walk_at "k"
              refine ⟨by decide, fun b3 hb3 => ?_⟩
              have e3 := Ext.new (o := .tup []) hb3
              repeat walk_at "k"
              refine ⟨by show 2 ≤ sizeLine; decide, fun b4 hb4 => ?_⟩
              have e4 := Ext.new (o := .tup [.str "term", .ref b3]) hb4
              repeat walk_at "k"
              refine ⟨by show 5 ≤ sizeLine; decide, fun b5 hb5 => ?_⟩
              have e5 := Ext.new (o := .lst [.ref b1, .ref b2, .ref b4, .int 20, .int 171]) hb5
              have t1 : SqT K _ b1 [.str "many", .int 20] := (e2.trans (e3.trans (e4.trans e5))).tup (.inl (.inl upd_same))
              have t2 := (e3.trans (e4.trans e5)) _ _ (show _ = some (HO.lst [.non]) from upd_same (a := b2))
              have t3 : SqT K _ b3 [] := (e4.trans e5).tup (.inl (.inl upd_same))
              have t4 : SqT K _ b4 [.str "term", .ref b3] := e5.tup (.inl (.inl upd_same))
              have t5 : (upd (upd (upd (upd (upd H20 b1 (.tup [.str "many", .int 20])) b2 (.lst [.non])) b3 (.tup [])) b4 (.tup [.str "term", .ref b3])) b5 (.lst [.ref b1, .ref b2, .ref b4, .int 20, .int 171])) b5 = some (.lst [.ref b1, .ref b2, .ref b4, .int 20, .int 171]) := upd_same
              have eX := e1.trans (e2.trans (e3.trans (e4.trans e5)))
              generalize upd (upd (upd (upd (upd H20 b1 (.tup [.str "many", .int 20])) b2 (.lst [.non])) b3 (.tup [])) b4 (.tup [.str "term", .ref b3])) b5 (.lst [.ref b1, .ref b2, .ref b4, .int 20, .int 171]) = H21 at t1 t2 t3 t4 t5 eX ⊢
              clear e1 e2 e3 e4 e5 hb1 hb2 hb3 hb4 hb5
              refine ⟨.list [.tuple [.str "many", .int 20], .list [.none], .tuple [.str "term", .tuple []], .int 20, .int 171], .list [.tuple [.str "many", .int 20], .list [.none], .tuple [.str "term", .tuple []], .int 20, .int 171],
                .lst (.inl (.inl (eX _ _ q20))) (.cons (.tup (eX.tup s9) (.cons (.str _) (.cons (.int _) .nil))) (.cons (.lst (.inl (.inl (eX _ _ s13))) (.cons .non .nil)) (.cons (.tup (eX.tup s16) (.cons (.str _) (.cons (.tup (eX.tup sva) .nil) .nil))) (.cons (.int _) (.cons (.int _) .nil))))),
                .lst (.inl (.inl t5)) (.cons (.tup t1 (.cons (.str _) (.cons (.int _) .nil))) (.cons (.lst (.inl (.inl t2)) (.cons .non .nil)) (.cons (.tup t4 (.cons (.str _) (.cons (.tup t3 .nil) .nil))) (.cons (.int _) (.cons (.int _) .nil))))), by decide +kernel, by decide +kernel, false, by decide +kernel, iteF ?_⟩
              have hs21 := hs20.ext eX
              have hd21 := hd20.tk eX.tk
              have hT21 := hT20.ext eX
              clear t1 t2 t3 t4 t5 eX s9 s13 s16 sva hs20 hd20 hT20 q20
              have payA : ∀ Hq, ShAt K Hq sh D own2 → DaysAt K Hq a2 [[0, 1]] → Tabs (TT K) Hq → ∀ (l : Str) (t : T), labOk l = true ∧ l.length ≤ 1000 → lookN own2 l = some t → ∀ (QQ : VK) (EE : XK), (∀ H7 p7, Fr K [] Hq H7 → SqT K H7 p7 ((payingL [[0, 1]] own2 (names own2) l).map .str) → QQ (.ref p7) H7) → spPaying K [.ref sh, .ref a2, .str l] Hq QQ EE := fun Hq g1 g2 g3 l t hl hk QQ EE hq => by
                refine ⟨sh, D, own2, .ref a2, .str l, rfl, g1, own2_ok, g3, .inr ⟨a2, [[0, 1]], rfl, g2, days4.1, .inr ⟨l, t, rfl, .at_ (lab_of hl) hk, fun ys H7 p7 hy ho f7 hp7 => hq H7 p7 f7 ?_⟩⟩⟩
                rw [← sortedS_one hy ho own2_names.2.1]
                exact hp7
              obtain ⟨⟨dx, hs211⟩, _⟩ := id hs21
              repeat walk_at "k"
              refine ⟨sh, dx, _, rfl, hs211, rfl, ?_⟩
              repeat walk_at "k"
              refine payA _ hs21 hd21 hT21 "la" _ (by decide +kernel) own2_la.2 _ _ fun H22 p22 f22 hp22 => ?_
              repeat walk_at "k"
              refine ⟨p22, _, rfl, .inr hp22, ?_⟩
              rw [List.length_map, own2_la.1]
              repeat walk_at "k"
              have hs22 := hs21.fr f22 (by simp) (by simp)
              have hd22 := hd21.tk f22.tk
              have hT22 := f22.tb hT21
              have hs221 := f22.at0 hs211 fun _ z => by cases z
              clear f22 hp22 hs21 hd21 hT21 hs211
              repeat walk_at "k"
              refine ⟨sh, dx, _, rfl, hs221, rfl, ?_⟩
              repeat walk_at "k"
              refine payA _ hs22 hd22 hT22 "lb" _ (by decide +kernel) own2_lb.2 _ _ fun H23 p23 f23 hp23 => ?_
              rw [own2_lb.1] at hp23
              repeat walk_at "k"
              refine ⟨by decide, fun b1 hb1 => ?_⟩
              have e1 := Ext.new (o := .tup []) hb1
              refine ⟨.tuple [], .tuple [], .tup (e1.tup hp23) .nil, .tup (.inl (.inl upd_same)) .nil, by decide +kernel, by decide +kernel, false, by decide +kernel, iteF ?_⟩
              have f24 := f23.trans (e1.fr (K := K) (B := []))
              generalize upd H23 b1 (.tup []) = H24 at f24 ⊢
              have hs24 := hs22.fr f24 (by simp) (by simp)
              have hT24 := f24.tb hT22
              have hs241 := f24.at0 hs221 fun _ z => by cases z
              clear f24 e1 hb1 hp23 f23 hs22 hd22 hT22 hs221 payA
              repeat walk_at "k"
              refine ⟨sh, dx, _, rfl, hs241, rfl, ?_⟩
              repeat walk_at "k"
              refine ⟨sh, D, own2, .str "lb", some (.lf .at_ 0), rfl, hs24, .at_ (lab_of (by decide +kernel)) own2_lb.2, fun l t hl ht H25 x f25 hs25 hx25 => ?_, fun h => absurd h (by simp)⟩
              cases hl
              cases ht
              repeat walk_at "k"
              refine ⟨by show 2 ≤ sizeLine; decide, fun b1 hb1 => ?_⟩
              have e1 := Ext.new (o := .tup [.str "at", .int 0]) hb1
              refine ⟨(T.lf .at_ 0).data, .tuple [.str "at", .int 0], (hx25.tk e1.tk).dp, .tup (.inl (.inl upd_same)) (.cons (.str _) (.cons (.int _) .nil)), by decide +kernel, by decide +kernel, false, by decide +kernel, iteF ?_⟩
              have hs26 := hs25.ext e1
              have hT26 : Tabs (TT K) _ := (f25.tb hT24).ext e1
              generalize upd H25 b1 (.tup [.str "at", .int 0]) = H26 at hs26 hT26 ⊢
              clear e1 hb1 hx25 hs25 f25 hs24 hT24 hs241
              repeat walk_at "k"
              refine fun H27 s2 D2 e27 n1 n2 hq27 => ?_
              have hs27 := hs26.ext e27
              have hT27 := hT26.ext e27
              have nDD : D ≠ D2 := by
                obtain ⟨_, _, g, _⟩ := hs26
                exact ne_of_none g n2
              have nsD : sh ≠ D2 := by
                obtain ⟨⟨_, g⟩, _⟩ := hs26
                exact ne_of_none g n2
              clear hs26 hT26 e27 n1 n2
              obtain ⟨⟨dx2, hq271⟩, _⟩ := id hq27
              repeat walk_at "k"
              refine ⟨s2, dx2, _, rfl, hq271, rfl, ?_⟩
              repeat walk_at "k"
              refine ⟨by show 2 ≤ sizeLine; decide, fun b1 hb1 => ?_⟩
              have e1 := Ext.new (o := .tup [.str "at", .int 0]) hb1
              repeat walk_at "k"
              refine r_put (hq27.ext e1) (by decide) (lab_of (by decide +kernel)) (t := .lf .at_ 0) ⟨b1, rfl, .inl (.inl upd_same)⟩ (leaf_wf (by decide)) (fun _ => by decide) fun H28 f28 hq28 => ?_
              have g28 : Fr K [D2] H27 H28 := e1.fr.trans f28
              have hs28 := hs27.fr g28 (by simpa using nsD) (by simpa using nDD)
              have hT28 := g28.tb hT27
              obtain ⟨⟨dx3, hq281⟩, _⟩ := id hq28
              clear e1 hb1 f28 g28 hs27 hT27 hq27 hq271
              repeat walk_at "k"
              refine ⟨s2, dx3, _, rfl, hq281, rfl, ?_⟩
              repeat walk_at "k"
              refine ⟨by show 2 ≤ sizeLine; decide, fun b1 hb1 => ?_⟩
              have e1 := Ext.new (o := .tup [.str "cash", .int 0]) hb1
              repeat walk_at "k"
              refine r_put (hq28.ext e1) (by decide +kernel) (lab_of (by decide +kernel)) (t := .lf .cash 0) ⟨b1, rfl, .inl (.inl upd_same)⟩ (leaf_wf (by decide)) (fun _ => by decide +kernel) fun HQ0 f29 hqQ0 => ?_
              have g29 : Fr K [D2] H28 HQ0 := e1.fr.trans f29
              have hs29 := hs28.fr g29 (by simpa using nsD) (by simpa using nDD)
              have hTQ0 := g29.tb hT28
              rw [ownP_names.2.2] at hqQ0
              clear e1 hb1 f29 g29 hs28 hT28 hq28 hq281 dx2 dx3
              obtain ⟨⟨dx2, hq1Q0⟩, _⟩ := id hqQ0
              have wfP : OwnOk ownP := ⟨by decide, fun e he => by
                simp only [ownP, List.mem_cons, List.not_mem_nil, or_false] at he
                rcases he with rfl | rfl
                · exact leaf_wf (by decide)
                · exact leaf_wf (by decide)⟩
              have alkP : ∀ (Hq : Hp) (dss : List (List Int)) (a : Addr), ShAt K Hq s2 D2 ownP → DaysAt K Hq a dss → daysOk dss = true → Tabs (TT K) Hq → ∀ (QQ : VK) (EE : XK), (∀ H7 p7, Fr K [] Hq H7 → PairsAt K H7 p7 (alikeL (claimsL dss ownP ["x", "y"])) → QQ (.ref p7) H7) → spAlike K [.ref s2, .ref a] Hq QQ EE := fun Hq dss a g1 g2 g4 g3 QQ EE hq => by
                refine ⟨s2, D2, ownP, .ref a, rfl, g1, wfP, g3, .inr ⟨a, dss, rfl, g2, g4, fun ys H7 p7 hy ho f7 hp7 => hq H7 p7 f7 ?_⟩⟩
                rw [← ownP_names.1, ← sortedS_one hy ho ownP_names.2.1]
                exact hp7
              have payP : ∀ (Hq : Hp) (dss : List (List Int)) (a : Addr), ShAt K Hq s2 D2 ownP → DaysAt K Hq a dss → daysOk dss = true → Tabs (TT K) Hq → ∀ (l : Str) (t : T), labOk l = true ∧ l.length ≤ 1000 → lookN ownP l = some t → ∀ (QQ : VK) (EE : XK), (∀ H7 p7, Fr K [] Hq H7 → SqT K H7 p7 ((payingL dss ownP ["x", "y"] l).map .str) → QQ (.ref p7) H7) → spPaying K [.ref s2, .ref a, .str l] Hq QQ EE := fun Hq dss a g1 g2 g4 g3 l t hl hk QQ EE hq => by
                refine ⟨s2, D2, ownP, .ref a, .str l, rfl, g1, wfP, g3, .inr ⟨a, dss, rfl, g2, g4, .inr ⟨l, t, rfl, .at_ (lab_of hl) hk, fun ys H7 p7 hy ho f7 hp7 => hq H7 p7 f7 ?_⟩⟩⟩
                rw [← ownP_names.1, ← sortedS_one hy ho ownP_names.2.1]
                exact hp7
              have hsQ0 := hs29
              repeat walk_at "k"
              refine ⟨s2, dx2, _, rfl, hq1Q0, rfl, ?_⟩
              repeat walk_at "k"
              refine ⟨by show 1 ≤ sizeLine; decide, fun b1 hb1 => ?_⟩
              have e1 := Ext.new (o := .tup [.int 0]) hb1
              repeat walk_at "k"
              refine ⟨by show 1 ≤ sizeLine; decide, fun b2 hb2 => ?_⟩
              have e2 := Ext.new (o := .tup [.ref b1]) hb2
              repeat walk_at "k"
              have hdd : DaysAt K _ b2 [[0]] := ⟨[b1], .inl (.inl upd_same), .cons (e2.tup (.inl (.inl upd_same))) .nil⟩
              refine alkP _ [[0]] b2 (hqQ0.ext (e1.trans e2)) hdd days4.2.1 (hTQ0.ext (e1.trans e2)) _ _ fun HQ1 p1 fq1 hp1 => ?_
              rw [ownP_alike.1] at hp1
              have gQ1 : Fr K [] HQ0 HQ1 := ((e1.trans e2).fr (K := K) (B := [])).trans fq1
              have hqQ1 := hqQ0.fr gQ1 (by simp) (by simp)
              have hq1Q1 := gQ1.at0 hq1Q0 fun _ z => by cases z
              have hTQ1 := gQ1.tb hTQ0
              have hsQ1 := hsQ0.fr gQ1 (by simp) (by simp)
              clear e1 e2 hdd fq1 hb1 hb2
              repeat walk_at "k"
              refine ⟨s2, dx2, _, rfl, hq1Q1, rfl, ?_⟩
              repeat walk_at "k"
              refine ⟨by show 2 ≤ sizeLine; decide, fun b1 hb1 => ?_⟩
              have e1 := Ext.new (o := .tup [.int 0, .int 1]) hb1
              repeat walk_at "k"
              refine ⟨by show 1 ≤ sizeLine; decide, fun b2 hb2 => ?_⟩
              have e2 := Ext.new (o := .tup [.ref b1]) hb2
              repeat walk_at "k"
              have hdd : DaysAt K _ b2 [[0, 1]] := ⟨[b1], .inl (.inl upd_same), .cons (e2.tup (.inl (.inl upd_same))) .nil⟩
              refine alkP _ [[0, 1]] b2 (hqQ1.ext (e1.trans e2)) hdd days4.1 (hTQ1.ext (e1.trans e2)) _ _ fun HQ2 p2 fq2 hp2 => ?_
              rw [ownP_alike.2] at hp2
              have gQ2 : Fr K [] HQ1 HQ2 := ((e1.trans e2).fr (K := K) (B := [])).trans fq2
              have hqQ2 := hqQ1.fr gQ2 (by simp) (by simp)
              have hq1Q2 := gQ2.at0 hq1Q1 fun _ z => by cases z
              have hTQ2 := gQ2.tb hTQ1
              have hsQ2 := hsQ1.fr gQ2 (by simp) (by simp)
              clear e1 e2 hdd fq2 hb1 hb2
              repeat walk_at "k"
              refine ⟨s2, dx2, _, rfl, hq1Q2, rfl, ?_⟩
              repeat walk_at "k"
              refine ⟨by show 1 ≤ sizeLine; decide, fun b1 hb1 => ?_⟩
              have e1 := Ext.new (o := .tup [.int 0]) hb1
              repeat walk_at "k"
              refine ⟨by show 1 ≤ sizeLine; decide, fun b2 hb2 => ?_⟩
              have e2 := Ext.new (o := .tup [.ref b1]) hb2
              repeat walk_at "k"
              have hdd : DaysAt K _ b2 [[0]] := ⟨[b1], .inl (.inl upd_same), .cons (e2.tup (.inl (.inl upd_same))) .nil⟩
              refine alkP _ [[0]] b2 (hqQ2.ext (e1.trans e2)) hdd days4.2.1 (hTQ2.ext (e1.trans e2)) _ _ fun HQ3 p3 fq3 hp3 => ?_
              rw [ownP_alike.1] at hp3
              have gQ3 : Fr K [] HQ2 HQ3 := ((e1.trans e2).fr (K := K) (B := [])).trans fq3
              have hqQ3 := hqQ2.fr gQ3 (by simp) (by simp)
              have hq1Q3 := gQ3.at0 hq1Q2 fun _ z => by cases z
              have hTQ3 := gQ3.tb hTQ2
              have hsQ3 := hsQ2.fr gQ3 (by simp) (by simp)
              clear e1 e2 hdd fq3 hb1 hb2
              repeat walk_at "k"
              refine ⟨s2, dx2, _, rfl, hq1Q3, rfl, ?_⟩
              repeat walk_at "k"
              refine ⟨by show 1 ≤ sizeLine; decide, fun b1 hb1 => ?_⟩
              have e1 := Ext.new (o := .tup [.int 0]) hb1
              repeat walk_at "k"
              refine ⟨by show 1 ≤ sizeLine; decide, fun b2 hb2 => ?_⟩
              have e2 := Ext.new (o := .tup [.ref b1]) hb2
              repeat walk_at "k"
              have hdd : DaysAt K _ b2 [[0]] := ⟨[b1], .inl (.inl upd_same), .cons (e2.tup (.inl (.inl upd_same))) .nil⟩
              refine payP _ [[0]] b2 (hqQ3.ext (e1.trans e2)) hdd days4.2.1 (hTQ3.ext (e1.trans e2)) "x" (.lf .at_ 0) (by decide +kernel) (by decide +kernel) _ _ fun HQ4 p4 fq4 hp4 => ?_
              rw [ownP_pay.1] at hp4
              have gQ4 : Fr K [] HQ3 HQ4 := ((e1.trans e2).fr (K := K) (B := [])).trans fq4
              have hqQ4 := hqQ3.fr gQ4 (by simp) (by simp)
              have hq1Q4 := gQ4.at0 hq1Q3 fun _ z => by cases z
              have hTQ4 := gQ4.tb hTQ3
              have hsQ4 := hsQ3.fr gQ4 (by simp) (by simp)
              clear e1 e2 hdd fq4 hb1 hb2
              repeat walk_at "k"
              refine ⟨by show 4 ≤ sizeLine; decide, fun m1 hm1 => ?_⟩
              have e1 := Ext.new (o := .lst [.ref p1, .ref p2, .ref p3, .ref p4]) hm1
              have hm11 : (upd HQ4 m1 (.lst [.ref p1, .ref p2, .ref p3, .ref p4])) m1 = some (.lst [.ref p1, .ref p2, .ref p3, .ref p4]) := upd_same
              generalize upd HQ4 m1 (.lst [.ref p1, .ref p2, .ref p3, .ref p4]) = HQ5 at e1 hm11 ⊢
              have gQ5 : Fr K [] HQ4 HQ5 := e1.fr
              have hqQ5 := hqQ4.fr gQ5 (by simp) (by simp)
              have hq1Q5 := gQ5.at0 hq1Q4 fun _ z => by cases z
              have hTQ5 := gQ5.tb hTQ4
              have hsQ5 := hsQ4.fr gQ5 (by simp) (by simp)
              clear e1 hm1
              repeat walk_at "k"
              refine ⟨s2, dx2, _, rfl, hq1Q5, rfl, ?_⟩
              repeat walk_at "k"
              refine ⟨by show 2 ≤ sizeLine; decide, fun b1 hb1 => ?_⟩
              have e1 := Ext.new (o := .tup [.int 0, .int 1]) hb1
              repeat walk_at "k"
              refine ⟨by show 1 ≤ sizeLine; decide, fun b2 hb2 => ?_⟩
              have e2 := Ext.new (o := .tup [.ref b1]) hb2
              repeat walk_at "k"
              have hdd : DaysAt K _ b2 [[0, 1]] := ⟨[b1], .inl (.inl upd_same), .cons (e2.tup (.inl (.inl upd_same))) .nil⟩
              refine payP _ [[0, 1]] b2 (hqQ5.ext (e1.trans e2)) hdd days4.1 (hTQ5.ext (e1.trans e2)) "x" (.lf .at_ 0) (by decide +kernel) (by decide +kernel) _ _ fun HQ6 p6 fq6 hp6 => ?_
              rw [ownP_pay.2.1] at hp6
              have gQ6 : Fr K [] HQ5 HQ6 := ((e1.trans e2).fr (K := K) (B := [])).trans fq6
              have hqQ6 := hqQ5.fr gQ6 (by simp) (by simp)
              have hq1Q6 := gQ6.at0 hq1Q5 fun _ z => by cases z
              have hTQ6 := gQ6.tb hTQ5
              have hsQ6 := hsQ5.fr gQ6 (by simp) (by simp)
              clear e1 e2 hdd fq6 hb1 hb2
              repeat walk_at "k"
              refine ⟨s2, dx2, _, rfl, hq1Q6, rfl, ?_⟩
              repeat walk_at "k"
              refine ⟨by show 2 ≤ sizeLine; decide, fun b1 hb1 => ?_⟩
              have e1 := Ext.new (o := .tup [.int 0, .int 1]) hb1
              repeat walk_at "k"
              refine ⟨by show 1 ≤ sizeLine; decide, fun b2 hb2 => ?_⟩
              have e2 := Ext.new (o := .tup [.ref b1]) hb2
              repeat walk_at "k"
              have hdd : DaysAt K _ b2 [[0, 1]] := ⟨[b1], .inl (.inl upd_same), .cons (e2.tup (.inl (.inl upd_same))) .nil⟩
              refine payP _ [[0, 1]] b2 (hqQ6.ext (e1.trans e2)) hdd days4.1 (hTQ6.ext (e1.trans e2)) "y" (.lf .cash 0) (by decide +kernel) (by decide +kernel) _ _ fun HQ7 p7 fq7 hp7 => ?_
              rw [ownP_pay.2.2.1] at hp7
              have gQ7 : Fr K [] HQ6 HQ7 := ((e1.trans e2).fr (K := K) (B := [])).trans fq7
              have hqQ7 := hqQ6.fr gQ7 (by simp) (by simp)
              have hq1Q7 := gQ7.at0 hq1Q6 fun _ z => by cases z
              have hTQ7 := gQ7.tb hTQ6
              have hsQ7 := hsQ6.fr gQ7 (by simp) (by simp)
              clear e1 e2 hdd fq7 hb1 hb2
              repeat walk_at "k"
              refine ⟨s2, dx2, _, rfl, hq1Q7, rfl, ?_⟩
              repeat walk_at "k"
              refine ⟨by show 2 ≤ sizeLine; decide, fun b1 hb1 => ?_⟩
              have e1 := Ext.new (o := .tup [.int (-1), .int 0]) hb1
              repeat walk_at "k"
              refine ⟨by show 1 ≤ sizeLine; decide, fun b2 hb2 => ?_⟩
              have e2 := Ext.new (o := .tup [.ref b1]) hb2
              repeat walk_at "k"
              have hdd : DaysAt K _ b2 [[-1, 0]] := ⟨[b1], .inl (.inl upd_same), .cons (e2.tup (.inl (.inl upd_same))) .nil⟩
              refine payP _ [[-1, 0]] b2 (hqQ7.ext (e1.trans e2)) hdd days4.2.2 (hTQ7.ext (e1.trans e2)) "x" (.lf .at_ 0) (by decide +kernel) (by decide +kernel) _ _ fun HQ8 p8 fq8 hp8 => ?_
              rw [ownP_pay.2.2.2] at hp8
              have gQ8 : Fr K [] HQ7 HQ8 := ((e1.trans e2).fr (K := K) (B := [])).trans fq8
              have hqQ8 := hqQ7.fr gQ8 (by simp) (by simp)
              have hq1Q8 := gQ8.at0 hq1Q7 fun _ z => by cases z
              have hTQ8 := gQ8.tb hTQ7
              have hsQ8 := hsQ7.fr gQ8 (by simp) (by simp)
              clear e1 e2 hdd fq8 hb1 hb2
              repeat walk_at "k"
              refine ⟨by show 3 ≤ sizeLine; decide, fun m2 hm2 => ?_⟩
              have e1 := Ext.new (o := .lst [.ref p6, .ref p7, .ref p8]) hm2
              have g68 := gQ6.trans (gQ7.trans gQ8)
              refine ⟨m1, m2, _, _, rfl, rfl, e1 _ _ (g68.lst (by simp) hm11), upd_same, by show 4 + 3 ≤ sizeLine; decide, fun m3 hm3 => ?_⟩
              have e2 := Ext.new (o := .lst ([.ref p1, .ref p2, .ref p3, .ref p4] ++ [.ref p6, .ref p7, .ref p8])) hm3
              have gQ9 : Fr K [] HQ8 _ := (e1.trans e2).fr
              have hm31 : (upd (upd HQ8 m2 (.lst [.ref p6, .ref p7, .ref p8])) m3 (.lst ([.ref p1, .ref p2, .ref p3, .ref p4] ++ [.ref p6, .ref p7, .ref p8]))) m3 = some (.lst [.ref p1, .ref p2, .ref p3, .ref p4, .ref p6, .ref p7, .ref p8]) := upd_same
              generalize upd (upd HQ8 m2 (.lst [.ref p6, .ref p7, .ref p8])) m3 (.lst ([.ref p1, .ref p2, .ref p3, .ref p4] ++ [.ref p6, .ref p7, .ref p8])) = HQ9 at gQ9 hm31 ⊢
              clear e1 e2 hm2 hm3
              repeat walk_at "k"
              refine ⟨by show 2 ≤ sizeLine; decide, fun c1 hc1 => ?_⟩
              have e1 := Ext.new (o := .tup [.str "x", .str "y"]) hc1
              repeat walk_at "k"
              refine ⟨by show 1 ≤ sizeLine; decide, fun c2 hc2 => ?_⟩
              have e2 := Ext.new (o := .tup [.ref c1]) hc2
              repeat walk_at "k"
              refine ⟨by show 0 ≤ sizeLine; decide, fun c3 hc3 => ?_⟩
              have e3 := Ext.new (o := .tup []) hc3
              repeat walk_at "k"
              refine ⟨by show 2 ≤ sizeLine; decide, fun c4 hc4 => ?_⟩
              have e4 := Ext.new (o := .tup [.str "x", .str "y"]) hc4
              repeat walk_at "k"
              refine ⟨by show 1 ≤ sizeLine; decide, fun c5 hc5 => ?_⟩
              have e5 := Ext.new (o := .tup [.ref c4]) hc5
              repeat walk_at "k"
              refine ⟨by show 1 ≤ sizeLine; decide, fun c6 hc6 => ?_⟩
              have e6 := Ext.new (o := .tup [.str "y"]) hc6
              repeat walk_at "k"
              refine ⟨by show 0 ≤ sizeLine; decide, fun c7 hc7 => ?_⟩
              have e7 := Ext.new (o := .tup []) hc7
              repeat walk_at "k"
              refine ⟨by show 1 ≤ sizeLine; decide, fun c8 hc8 => ?_⟩
              have e8 := Ext.new (o := .tup [.str "x"]) hc8
              repeat walk_at "k"
              refine ⟨by show 1 ≤ sizeLine; decide, fun c9 hc9 => ?_⟩
              have e9 := Ext.new (o := .tup [.str "y"]) hc9
              repeat walk_at "k"
              refine ⟨by show 7 ≤ sizeLine; decide, fun c10 hc10 => ?_⟩
              have e10 := Ext.new (o := .lst [.ref c2, .ref c3, .ref c5, .ref c6, .ref c7, .ref c8, .ref c9]) hc10
              have u1 : SqT K _ c1 [.str "x", .str "y"] := (e2.trans (e3.trans (e4.trans (e5.trans (e6.trans (e7.trans (e8.trans (e9.trans e10)))))))).tup (.inl (.inl upd_same))
              have u2 : SqT K _ c2 [.ref c1] := (e3.trans (e4.trans (e5.trans (e6.trans (e7.trans (e8.trans (e9.trans e10))))))).tup (.inl (.inl upd_same))
              have u3 : SqT K _ c3 [] := (e4.trans (e5.trans (e6.trans (e7.trans (e8.trans (e9.trans e10)))))).tup (.inl (.inl upd_same))
              have u4 : SqT K _ c4 [.str "x", .str "y"] := (e5.trans (e6.trans (e7.trans (e8.trans (e9.trans e10))))).tup (.inl (.inl upd_same))
              have u5 : SqT K _ c5 [.ref c4] := (e6.trans (e7.trans (e8.trans (e9.trans e10)))).tup (.inl (.inl upd_same))
              have u6 : SqT K _ c6 [.str "y"] := (e7.trans (e8.trans (e9.trans e10))).tup (.inl (.inl upd_same))
              have u7 : SqT K _ c7 [] := (e8.trans (e9.trans e10)).tup (.inl (.inl upd_same))
              have u8 : SqT K _ c8 [.str "x"] := (e9.trans e10).tup (.inl (.inl upd_same))
              have u9 : SqT K _ c9 [.str "y"] := e10.tup (.inl (.inl upd_same))
              have u10 : (upd (upd (upd (upd (upd (upd (upd (upd (upd (upd HQ9 c1 (.tup [.str "x", .str "y"])) c2 (.tup [.ref c1])) c3 (.tup [])) c4 (.tup [.str "x", .str "y"])) c5 (.tup [.ref c4])) c6 (.tup [.str "y"])) c7 (.tup [])) c8 (.tup [.str "x"])) c9 (.tup [.str "y"])) c10 (.lst [.ref c2, .ref c3, .ref c5, .ref c6, .ref c7, .ref c8, .ref c9])) c10 = some (.lst [.ref c2, .ref c3, .ref c5, .ref c6, .ref c7, .ref c8, .ref c9]) := upd_same
              have gQ10 : Fr K [] HQ9 (upd (upd (upd (upd (upd (upd (upd (upd (upd (upd HQ9 c1 (.tup [.str "x", .str "y"])) c2 (.tup [.ref c1])) c3 (.tup [])) c4 (.tup [.str "x", .str "y"])) c5 (.tup [.ref c4])) c6 (.tup [.str "y"])) c7 (.tup [])) c8 (.tup [.str "x"])) c9 (.tup [.str "y"])) c10 (.lst [.ref c2, .ref c3, .ref c5, .ref c6, .ref c7, .ref c8, .ref c9])) := (e1.trans (e2.trans (e3.trans (e4.trans (e5.trans (e6.trans (e7.trans (e8.trans (e9.trans e10))))))))).fr
              generalize upd (upd (upd (upd (upd (upd (upd (upd (upd (upd HQ9 c1 (.tup [.str "x", .str "y"])) c2 (.tup [.ref c1])) c3 (.tup [])) c4 (.tup [.str "x", .str "y"])) c5 (.tup [.ref c4])) c6 (.tup [.str "y"])) c7 (.tup [])) c8 (.tup [.str "x"])) c9 (.tup [.str "y"])) c10 (.lst [.ref c2, .ref c3, .ref c5, .ref c6, .ref c7, .ref c8, .ref c9]) = HQ10 at u1 u2 u3 u4 u5 u6 u7 u8 u9 u10 gQ10 ⊢
              clear e1 hc1 e2 hc2 e3 hc3 e4 hc4 e5 hc5 e6 hc6 e7 hc7 e8 hc8 e9 hc9 e10 hc10
              have gz := gQ9.trans gQ10
              have g8 := gQ8.trans gz
              have g7 := gQ7.trans g8
              have g6 := gQ6.trans g7
              have g5 := gQ5.trans g6
              have g4 := gQ4.trans g5
              have g3 := gQ3.trans g4
              have g2 := gQ2.trans g3
              refine ⟨.list [.tuple [pairD ("x", "y")], .tuple [], .tuple [pairD ("x", "y")], .tuple [.str "y"], .tuple [], .tuple [.str "x"], .tuple [.str "y"]], .list [.tuple [pairD ("x", "y")], .tuple [], .tuple [pairD ("x", "y")], .tuple [.str "y"], .tuple [], .tuple [.str "x"], .tuple [.str "y"]],
                .lst (.inl (.inl (gQ10.lst (by simp) hm31))) (.cons (hp1.fr g2).dp (.cons (hp2.fr g3).dp (.cons (hp3.fr g4).dp (.cons (.tup (g5.tup hp4) (dp_strs ["y"])) (.cons (.tup (g7.tup hp6) (dp_strs [])) (.cons (.tup (g8.tup hp7) (dp_strs ["x"])) (.cons (.tup (gz.tup hp8) (dp_strs ["y"])) .nil))))))),
                .lst (.inl (.inl u10)) (.cons (.tup u2 (.cons (.tup u1 (.cons (.str _) (.cons (.str _) .nil))) .nil)) (.cons (.tup u3 .nil) (.cons (.tup u5 (.cons (.tup u4 (.cons (.str _) (.cons (.str _) .nil))) .nil)) (.cons (.tup u6 (.cons (.str _) .nil)) (.cons (.tup u7 .nil) (.cons (.tup u8 (.cons (.str _) .nil)) (.cons (.tup u9 (.cons (.str _) .nil)) .nil))))))), by decide +kernel, by decide +kernel, false, by decide +kernel, iteF ?_⟩
              have hsz := hsQ8.fr gz (by simp) (by simp)
              obtain ⟨⟨dx9, hsz1⟩, _⟩ := id hsz
              repeat walk_at "k"
              refine ⟨sh, dx9, _, rfl, hsz1, rfl, ?_⟩
              repeat walk_at "k"
              refine ⟨by show 2 ≤ sizeLine; decide, fun b1 hb1 => ?_⟩
              have e1 := Ext.new (o := .tup [.str "cash", .int 1]) hb1
              repeat walk_at "k"
              refine r_put (hsz.ext e1) (by rw [own3_lu.2.1]; decide) (lab_of (by decide +kernel)) (t := .lf .cash 1) ⟨b1, rfl, .inl (.inl upd_same)⟩ (leaf_wf (by decide)) (fun _ => by rw [own3_lu.2.1]; decide) fun HZ fz hz => ?_
              repeat walk_at "k"
              refine ⟨rfl, ?_⟩
              rw [decide_eq_true rfl]
              exact q HZ
end
end
section
open PySem Spec PyProof.Rows L2
/-! ### a shelf against another one: the plain part -/
def tmOf (own : Own) (y : Str) : T := (lookN own y).getD (.lf .cash 0)
def ownT (own : Own) (zs : List Str) : Own := zs.map fun y => (y, tmOf own y)
def bothT (t : T) : T := .bi .both t (.lf .cash 0)
def ownF (own : Own) (zs : List Str) : Own := zs.map fun y => (y, bothT (tmOf own y))
theorem putN_new {own : Own} {l : Str} {t : T} (h : l ∉ names own) : putN own l t = own ++ [(l, t)] := by
  unfold putN
  rw [if_neg fun z => ?_]
  obtain ⟨e, h1, h2⟩ := List.any_eq_true.mp z
  exact h (List.mem_map.mpr ⟨e, h1, of_decide_eq_true h2⟩)
theorem names_ownT (own : Own) (zs : List Str) : names (ownT own zs) = zs := by
  unfold names ownT
  rw [List.map_map]
  exact List.map_id' zs
theorem names_ownF (own : Own) (zs : List Str) : names (ownF own zs) = zs := by
  unfold names ownF
  rw [List.map_map]
  exact List.map_id' zs
theorem lookN_of : ∀ {own : Own} {e : Str × T}, (names own).Nodup → e ∈ own → lookN own e.1 = some e.2
  | p :: ps, e, hn, he => by
    have hn2 : (p.1 :: names ps).Nodup := hn
    rw [List.nodup_cons] at hn2
    unfold lookN
    rw [List.find?_cons]
    by_cases hk : p.1 = e.1
    · rcases List.mem_cons.mp he with rfl | h
      · simp
      · exact absurd (List.mem_map.mpr ⟨e, h, hk.symm⟩) hn2.1
    · rw [decide_eq_false hk]
      rcases List.mem_cons.mp he with rfl | h
      · exact absurd rfl hk
      · exact lookN_of hn2.2 h
theorem lookN_map (f : Str → T) : ∀ {zs : List Str} {l : Str}, l ∈ zs → lookN (zs.map fun y => (y, f y)) l = some (f l)
  | z :: zs, l, h => by
    unfold lookN
    rw [List.map_cons, List.find?_cons]
    by_cases hk : z = l
    · rw [hk, decide_eq_true rfl]
      rfl
    · rw [decide_eq_false hk]
      rcases List.mem_cons.mp h with rfl | h
      · exact absurd rfl hk
      · exact lookN_map f h
theorem datAt_datas (own : Own) (l : Str) : datAt (datas own) (.inr l) = (lookN own l).map T.data := by
  unfold datAt datas lookN
  induction own with
  | nil => rfl
  | cons e own ih =>
    rw [List.map_cons, List.find?_cons, List.find?_cons]
    by_cases hk : e.1 = l
    · rw [decide_eq_true hk, decide_eq_true (by rw [hk])]
      rfl
    · rw [decide_eq_false hk, decide_eq_false (inr_ne hk)]
      exact ih
theorem eqN_def (a b : Own) : eqN a b = (decide (a.length = b.length) && a.all fun e => match lookN b e.1 with
    | some t => PyData.eqv e.2.data t.data
    | none => false) := by
  unfold eqN eqDD
  have e1 : (datas a).length = a.length := by unfold datas; rw [List.length_map]
  have e2 : (datas b).length = b.length := by unfold datas; rw [List.length_map]
  rw [e1, e2]
  have e3 : (List.length a == List.length b) = decide (List.length a = List.length b) := by
    by_cases h : List.length a = List.length b
    · rw [decide_eq_true h, h]; exact beq_self_eq_true _
    · rw [decide_eq_false h]; exact beq_eq_false_iff_ne.mpr h
  rw [e3]
  congr 1
  · show (a.map _).all _ = _
    rw [List.all_map]
    refine congrArg (fun f => a.all f) (funext fun e => ?_)
    show (match datAt (datas b) (.inr e.1) with
      | some d => PyData.eqv e.2.data d
      | none => false) = _
    rw [datAt_datas]
    cases lookN b e.1 <;> rfl
theorem eqN_self {own : Own} {zs : List Str} (hn : (names own).Nodup) (hz : zs.Perm (names own)) : eqN own (ownT own zs) = true := by
  rw [eqN_def, Bool.and_eq_true]
  have hl : own.length = (ownT own zs).length := by
    unfold ownT
    rw [List.length_map, hz.length_eq]
    unfold names
    rw [List.length_map]
  refine ⟨decide_eq_true hl, List.all_eq_true.mpr fun e he => ?_⟩
  have h1 := lookN_of hn he
  have h2 : lookN (ownT own zs) e.1 = some (tmOf own e.1) := lookN_map _ (hz.mem_iff.mpr (List.mem_map.mpr ⟨e, he, rfl⟩))
  rw [h2]
  unfold tmOf
  rw [h1]
  exact SeqAt.eqv_refl _ (T.lay_eq e.2)
theorem eq_tup (xs ys : List PyData) : PyData.eqv (.tuple xs) (.tuple ys) = PyData.eqvAll xs ys := by simp only [PyData.eqv]
theorem eq_cc (x y : PyData) (xs ys : List PyData) : PyData.eqvAll (x :: xs) (y :: ys) = (PyData.eqv x y && PyData.eqvAll xs ys) := by simp only [PyData.eqvAll]
theorem eq_cn (x : PyData) (xs : List PyData) : PyData.eqvAll (x :: xs) [] = false := by simp only [PyData.eqvAll]
theorem eq_nc (x : PyData) (xs : List PyData) : PyData.eqvAll [] (x :: xs) = false := by simp only [PyData.eqvAll]
theorem int_dat (n : Int) (t : T) : PyData.eqv (.int n) t.data = false := by cases t <;> rfl
theorem dat_int (n : Int) (t : T) : PyData.eqv t.data (.int n) = false := by cases t <;> rfl
theorem eqv_hgt : ∀ s t : T, PyData.eqv s.data t.data = true → s.hgt = t.hgt
  | .lf _ _, .lf _ _, _ => rfl
  | .lf _ _, .l2 _ _ _, _ => rfl
  | .lf _ n, .un t, h => by simp [T.data, eq_tup, eq_cc, eq_cn, eq_nc, int_dat, dat_int] at h
  | .lf _ n, .tm t _, h => by simp [T.data, eq_tup, eq_cc, eq_cn, eq_nc, int_dat, dat_int] at h
  | .lf _ n, .bi _ _ _, h => by simp [T.data, eq_tup, eq_cc, eq_cn, eq_nc, int_dat, dat_int] at h
  | .lf _ n, .ite _ _ _ _, h => by simp [T.data, eq_tup, eq_cc, eq_cn, eq_nc, int_dat, dat_int] at h
  | .l2 _ _ _, .lf _ _, _ => rfl
  | .l2 _ _ _, .l2 _ _ _, _ => rfl
  | .l2 _ _ _, .un t, h => by simp [T.data, eq_tup, eq_cc, eq_cn, eq_nc, int_dat, dat_int] at h
  | .l2 _ _ _, .tm t _, h => by simp [T.data, eq_tup, eq_cc, eq_cn, eq_nc, int_dat, dat_int] at h
  | .l2 _ _ _, .bi _ _ _, h => by simp [T.data, eq_tup, eq_cc, eq_cn, eq_nc, int_dat, dat_int] at h
  | .l2 _ _ _, .ite _ _ _ _, h => by simp [T.data, eq_tup, eq_cc, eq_cn, eq_nc, int_dat, dat_int] at h
  | .un s, .lf _ _, h => by simp [T.data, eq_tup, eq_cc, eq_cn, eq_nc, int_dat, dat_int] at h
  | .un s, .l2 _ _ _, h => by simp [T.data, eq_tup, eq_cc, eq_cn, eq_nc, int_dat, dat_int] at h
  | .un s, .un t, h => by
    have h2 : PyData.eqv s.data t.data = true := by
      simp only [T.data, eq_tup, eq_cc, Bool.and_eq_true] at h
      exact h.2.1
    simp only [T.hgt, eqv_hgt s t h2]
  | .un s, .tm t _, h => by simp [T.data, eq_tup, eq_cc, eq_cn, eq_nc, int_dat, dat_int] at h
  | .un s, .bi _ _ _, h => by simp [T.data, eq_tup, eq_cc, eq_cn, eq_nc, int_dat, dat_int] at h
  | .un s, .ite _ _ _ _, h => by simp [T.data, eq_tup, eq_cc, eq_cn, eq_nc, int_dat, dat_int] at h
  | .tm s _, .lf _ _, h => by simp [T.data, eq_tup, eq_cc, eq_cn, eq_nc, int_dat, dat_int] at h
  | .tm s _, .l2 _ _ _, h => by simp [T.data, eq_tup, eq_cc, eq_cn, eq_nc, int_dat, dat_int] at h
  | .tm s _, .un t, h => by simp [T.data, eq_tup, eq_cc, eq_cn, eq_nc, int_dat, dat_int] at h
  | .tm s n, .tm t m, h => by
    have h2 : PyData.eqv s.data t.data = true := by
      simp only [T.data, eq_tup, eq_cc, Bool.and_eq_true] at h
      exact h.2.1
    simp only [T.hgt, eqv_hgt s t h2]
  | .tm s n, .bi _ t u, h => by simp [T.data, eq_tup, eq_cc, eq_cn, eq_nc, int_dat, dat_int] at h
  | .tm s _, .ite _ _ _ _, h => by simp [T.data, eq_tup, eq_cc, eq_cn, eq_nc, int_dat, dat_int] at h
  | .bi _ s r, .lf _ _, h => by simp [T.data, eq_tup, eq_cc, eq_cn, eq_nc, int_dat, dat_int] at h
  | .bi _ s r, .l2 _ _ _, h => by simp [T.data, eq_tup, eq_cc, eq_cn, eq_nc, int_dat, dat_int] at h
  | .bi _ s r, .un t, h => by simp [T.data, eq_tup, eq_cc, eq_cn, eq_nc, int_dat, dat_int] at h
  | .bi _ s r, .tm t _, h => by simp [T.data, eq_tup, eq_cc, eq_cn, eq_nc, int_dat, dat_int] at h
  | .bi _ s r, .bi _ t u, h => by
    simp only [T.data, eq_tup, eq_cc, Bool.and_eq_true] at h
    simp only [T.hgt, eqv_hgt s t h.2.1, eqv_hgt r u h.2.2.1]
  | .bi _ s r, .ite _ _ _ _, h => by simp [T.data, eq_tup, eq_cc, eq_cn, eq_nc, int_dat, dat_int] at h
  | .ite _ _ s r, .lf _ _, h => by simp [T.data, eq_tup, eq_cc, eq_cn, eq_nc, int_dat, dat_int] at h
  | .ite _ _ s r, .l2 _ _ _, h => by simp [T.data, eq_tup, eq_cc, eq_cn, eq_nc, int_dat, dat_int] at h
  | .ite _ _ s r, .un t, h => by simp [T.data, eq_tup, eq_cc, eq_cn, eq_nc, int_dat, dat_int] at h
  | .ite _ _ s r, .tm t _, h => by simp [T.data, eq_tup, eq_cc, eq_cn, eq_nc, int_dat, dat_int] at h
  | .ite _ _ s r, .bi _ t u, h => by simp [T.data, eq_tup, eq_cc, eq_cn, eq_nc, int_dat, dat_int] at h
  | .ite _ _ s r, .ite _ _ t u, h => by
    simp only [T.data, eq_tup, eq_cc, Bool.and_eq_true] at h
    simp only [T.hgt, eqv_hgt s t h.2.2.2.1, eqv_hgt r u h.2.2.2.2.1]
theorem eqN_far {own : Own} {zs : List Str} (hn : (names own).Nodup) (h0 : own ≠ []) : eqN own (ownF own zs) = false := by
  rw [eqN_def, Bool.and_eq_false_iff]
  refine .inr ?_
  cases own with
  | nil => exact absurd rfl h0
  | cons e r =>
    rw [List.all_cons, Bool.and_eq_false_iff]
    refine .inl ?_
    have h1 := lookN_of hn (List.mem_cons_self (a := e) (l := r))
    by_cases hm : e.1 ∈ zs
    · have h2 : lookN (ownF (e :: r) zs) e.1 = some (bothT (tmOf (e :: r) e.1)) := lookN_map (fun y => bothT (tmOf (e :: r) y)) hm
      rw [h2]
      unfold tmOf
      rw [h1]
      show PyData.eqv e.2.data (bothT e.2).data = false
      cases q : PyData.eqv e.2.data (bothT e.2).data with
      | false => rfl
      | true =>
        have := eqv_hgt _ _ q
        unfold bothT at this
        simp only [T.hgt] at this
        omega
    · have h2 : lookN (ownF (e :: r) zs) e.1 = none := by
        cases q : lookN (ownF (e :: r) zs) e.1 with
        | none => rfl
        | some t =>
          refine absurd ?_ hm
          have hf := Option.map_eq_some_iff.mp q
          obtain ⟨p, hp, _⟩ := hf
          have h3 := List.mem_of_find?_eq_some hp
          have h4 := List.find?_some hp
          rw [← of_decide_eq_true h4]
          have h5 : p.1 ∈ names (ownF (e :: r) zs) := List.mem_map.mpr ⟨p, h3, rfl⟩
          rwa [names_ownF] at h5
      rw [h2]
theorem eqN_more {own : Own} {zs : List Str} {l : Str} {t : T} (hz : zs.Perm (names own)) (hl : l ∉ zs) : eqN own (putN (ownT own zs) l t) = false := by
  rw [eqN_def, putN_new (by rw [names_ownT]; exact hl), Bool.and_eq_false_iff]
  refine .inl (decide_eq_false fun h => ?_)
  have h2 := hz.length_eq
  unfold names at h2
  unfold ownT at h
  rw [List.length_append, List.length_map] at h
  rw [List.length_map] at h2
  simp at h
  omega
theorem ownT_snoc (own : Own) {zs : List Str} {j : Nat} {y : Str} (hn : zs.Nodup) (h : zs[j]? = some y) : putN (ownT own (zs.take j)) y (tmOf own y) = ownT own (zs.take (j + 1)) ∧ putN (ownF own (zs.take j)) y (bothT (tmOf own y)) = ownF own (zs.take (j + 1)) := by
  have hy : y ∉ zs.take j := fun z => by
    obtain ⟨k, hk, ek⟩ := List.mem_iff_getElem.mp z
    rw [List.getElem_take] at ek
    rw [List.length_take] at hk
    obtain ⟨hj, ej⟩ := List.getElem?_eq_some_iff.mp h
    exact List.pairwise_iff_getElem.mp hn k j (by omega) hj (by omega) (ek.trans ej.symm)
  rw [putN_new (by rw [names_ownT]; exact hy), putN_new (by rw [names_ownF]; exact hy), take_succ_get h]
  unfold ownT ownF
  rw [List.map_append, List.map_append]
  exact ⟨rfl, rfl⟩
theorem tm_wf {own : Own} (hw : OwnW own) (y : Str) : wfS (tmOf own y) := by
  unfold tmOf
  cases h : lookN own y with
  | none => exact ⟨leaf_wf (by decide), by decide, by decide⟩
  | some t =>
    obtain ⟨p, hp, e⟩ := Option.map_eq_some_iff.mp h
    have := hw.wfs p (List.mem_of_find?_eq_some hp)
    rw [e] at this
    exact this
theorem both_wf {t : T} (h : wfS t) : wfT (bothT t) := by
  obtain ⟨h1, h2, h3⟩ := h
  refine ⟨by unfold bothT; simp only [T.wds]; omega, by unfold bothT; simp only [T.hgt]; omega, ?_⟩
  have := h1.2.2
  rw [allOwn_allT] at this ⊢
  unfold bothT
  simp only [allT, T.own, Bool.true_and, this]
  decide
end
section
open PySem Spec PyProof.Rows L2
/-! ### the law's end: its promise is asked outside any guard alone -/
section
variable {P : Program} {w : World} {K : PySem.W.Frag} {mg mb : Str → Option Value}
/-- what is tracked as the law begins: its tables, its script where K does not hold it -/
def H0 (K : PySem.W.Frag) (T : List Addr) (a : Addr) (lo : Obj) (xs : List V) : Hp := fun b => if b ∈ T then some (.tbl #[]) else if b = a ∧ K.lookup a = none then some (.frz lo (.lst xs)) else none
theorem H0.tab {T : List Addr} {a : Addr} {lo : Obj} {xs : List V} {b : Addr} (h : b ∈ T) : H0 K T a lo xs b = some (.tbl #[]) := if_pos h
theorem H0.scr {T : List Addr} {a : Addr} {lo : Obj} {xs : List V} (h : a ∉ T) (hk : K.lookup a = none) : H0 K T a lo xs a = some (.frz lo (.lst xs)) := (if_neg h).trans (if_pos ⟨rfl, hk⟩)
theorem H0.out {T : List Addr} {a : Addr} {lo : Obj} {xs : List V} {b : Addr} (h : b ∉ T) (hk : ¬ (b = a ∧ K.lookup a = none)) : H0 K T a lo xs b = none := (if_neg h).trans (if_neg hk)
theorem H0.of {T : List Addr} {a : Addr} {lo : Obj} {xs : List V} {b : Addr} {u : HO} (h : H0 K T a lo xs b = some u) : (b ∈ T ∧ u = .tbl #[]) ∨ (b = a ∧ K.lookup a = none ∧ u = .frz lo (.lst xs)) := by
  unfold H0 at h
  split at h
  · rename_i z
    exact .inl ⟨z, (Option.some.inj h).symm⟩
  · split at h
    · rename_i z
      exact .inr ⟨z.1, z.2, (Option.some.inj h).symm⟩
    · cases h
theorem run_end {k : Nat} {fa a : Addr} {cs : List (Addr × Addr)} {sp : Sp} {s1 : Shared} {us : List Value} {zs : List Int} (inK : K.In s1.heap) (isG : s1.heap.Ns mainGlobals mg) (isB : s1.heap.Ns builtinsNs mb) (blt : ∀ x : Str, x ≠ "__name__" → mb x = bootBuiltins x) (lim : s1.heap.NoLimit) (gens : s1.gens = #[])
    (tabs : ∀ p ∈ cs, s1.heap.get? p.2 = some { cls := .none, data := .fields #[] }) (tabsN : ∀ p ∈ cs, K.lookup p.2 = none) (hds : ∀ p ∈ cs, PySem.W.CodeHd s1.heap p.1 p.2)
    (bmod : ∃ (bm : Addr) (ob : Obj), mg "__builtins__" = some (.ref bm) ∧ bm ≠ builtinsNs ∧ s1.heap.get? bm = some ob ∧ ob.cls = .type "module" ∧ ob.dict = some builtinsNs ∧ ob.data = .plain)
    (scr : s1.heap.get? a = some { cls := .type "list", data := .seq us.toArray }) (zin : IntsAre us zs) (few : zs.length ≤ sizeLine) (room : Room k callerA)
    (law : ∀ base : Heap, K.In base → base.Ns mainGlobals mg → (∀ p ∈ cs, LamX.TabB base mg p.1 p.2) → FnG P w K mg base k fa sp)
    (asked : ∀ H : Hp, (∀ p ∈ cs, H p.2 = some (.tbl #[])) → SqL K H a (zs.map V.int) → sp [.ref a] H (fun v _ => v = .bl true) fun _ _ _ => False)
    (none_out : ∀ H e s', L2.CX P w [] H s1 (fun _ _ _ => False) e s' → False) :
    codeAny (model P w) callerA (.call (.ref fa) ⟨[.ref a], []⟩) (fun r s' => r = .ok (.ret (.bool true)) ∧ OldK s1.heap s'.heap ∧ s'.os = s1.os ∧ AllBare s'.gens) s1 := by
  have vals := vals_ints zin
  have lenU := zin.length
  have atT : ∀ b ∈ cs.map (·.2), s1.heap.get? b = some { cls := .none, data := .fields #[] } := fun b hb => by
    obtain ⟨p, hp, rfl⟩ := List.mem_map.mp hb
    exact tabs p hp
  have aT : a ∉ cs.map (·.2) := fun z => by
    have q := (atT a z).symm.trans scr
    cases q
  obtain ⟨H, hH⟩ : ∃ H, H = H0 K (cs.map (·.2)) a { cls := .type "list", data := .seq us.toArray } (zs.map V.int) := ⟨_, rfl⟩
  have ofH : ∀ b u, H b = some u → (b ∈ cs.map (·.2) ∧ u = .tbl #[]) ∨ (b = a ∧ K.lookup a = none ∧ u = .frz { cls := .type "list", data := .seq us.toArray } (.lst (zs.map V.int))) := fun b u z => H0.of (by rw [← hH]; exact z)
  have outH : ∀ b, b ∉ cs.map (·.2) → ¬ (b = a ∧ K.lookup a = none) → H b = none := fun b z1 z2 => by rw [hH]; exact H0.out z1 z2
  have tabH : ∀ b ∈ cs.map (·.2), H b = some (.tbl #[]) := fun b z => by rw [hH]; exact H0.tab z
  have mT : ∀ p ∈ cs, p.2 ∈ cs.map (·.2) := fun p hp => List.mem_map.mpr ⟨p, hp, rfl⟩
  have hok : HOk P w H s1.heap := fun b u z => by
    rcases ofH b u z with ⟨h, rfl⟩ | ⟨rfl, hk, rfl⟩
    · exact atT b h
    · exact ⟨scr, by rw [List.length_map]; exact few, us, _, vals, scr⟩
  have sq : SqL K H a (zs.map V.int) := by
    cases hk : K.lookup a with
    | none => exact .inl (.inr ⟨_, by rw [hH]; exact H0.scr aT hk⟩)
    | some o =>
      have e := (inK a o hk).symm.trans scr
      cases e
      exact .inr ⟨_, us.toArray, _, hk, rfl, rfl, rfl, by rw [List.size_toArray, lenU]; exact few, by simpa using vals⟩
  have free : ∀ b o, s1.heap.get? b = some o → (∀ vs n, o.data ≠ .seq vs n) → o.data ≠ .fields #[] → H b = none := fun b o e n1 n2 => outH b (fun z => n2 (by rw [atT b z] at e; cases e; rfl)) fun z => n1 us.toArray _ (by rw [z.1, scr] at e; cases e; rfl)
  have fromD : ∀ b m, s1.heap.Ns b m → (hidT s1.heap H).Ns b m := fun b m ⟨o, es, ep, e, d, r⟩ => ⟨o, es, ep, hidT_get e (free b o e (fun vs n z => by rw [d] at z; cases z) fun z => by rw [d] at z; cases z), d, r⟩
  have inB : K.In (hidT s1.heap H) := fun b o e => hidT_get (inK b o e) (outH b (fun z => by
    obtain ⟨p, hp, rfl⟩ := List.mem_map.mp z
    rw [tabsN p hp] at e
    cases e) fun z => by
    rw [z.1, z.2] at e
    cases e)
  have md : L2.Mod K mg (hidT s1.heap H) := ⟨inB, fromD _ _ isG, ⟨mb, fromD _ _ isB, blt⟩, by
    obtain ⟨mc, g1, g2⟩ := lim
    exact ⟨mc, fromD _ _ g1, g2⟩⟩
  have tb : ∀ p ∈ cs, LamX.TabB (hidT s1.heap H) mg p.1 p.2 := fun p hp => by
    refine ⟨?_, ?_, fun z => ?_⟩
    · obtain ⟨o, vs, file, tf, flags, tg, inF, text, tt, g1, g2, g3, g4, g5⟩ := hds p hp
      exact ⟨o, vs, file, tf, flags, tg, inF, text, tt, hidT_get g1 (free _ _ g1 (fun _ _ z => by rw [g3] at z; cases z) fun z => by
        rw [g3] at z
        cases z
        simp at g4), g2, g3, g4, g5⟩
    · obtain ⟨bm, ob, g1, g2, g3, g4, g5, g6⟩ := bmod
      refine ⟨bm, ob, g1, g2, fun z => ?_, fun z => ?_, hidT_get g3 (free _ _ g3 (fun _ _ z => by rw [g6] at z; cases z) fun z => by rw [g6] at z; cases z), g4, g5, g6⟩
      · obtain ⟨o, es, ep, e, d, _⟩ := isG
        rw [← z, g3] at e
        cases e
        rw [g6] at d
        cases d
      · rw [z, tabs p hp] at g3
        cases g3
        cases g6
    · obtain ⟨o, es, ep, e, d, _⟩ := isG
      rw [z, tabs p hp] at e
      cases e
      cases d
  have e0 : Env0 P w K mg (hidT s1.heap H) callerA [] s1 H := ⟨rfl, md, fun b o e => of_hidT e, Nat.le_of_eq (hidT_size _ _), trivial, fun b hb => absurd (show b ∈ ([] : List Addr) from hb) (by simp), hok, .of_eq gens⟩
  refine codeAny_mono (law _ inB (fromD _ _ isG) tb callerA [] s1 H [.ref a] [.ref a] _ _ rfl room e0 (.cons rfl .nil) (asked H (fun p hp => tabH _ (mT p hp)) sq)) fun r s' h => ?_
  cases r with
  | error e => exact (none_out H e s' h).elim
  | ok fl =>
    cases fl with
    | next => exact False.elim h
    | brk => exact False.elim h
    | cont => exact False.elim h
    | ret u =>
      obtain ⟨v, H', hos, hbare, un, hok', rel, hv⟩ := h
      replace hv : v = .bl true := hv
      subst hv
      obtain rfl : u = Value.bool true := rel
      have stay : ∀ b o, b ∉ cs.map (·.2) → s1.heap.get? b = some o → s'.heap.get? b = some o := fun b o nb e => by
        cases q : H b with
        | none => exact un.keep b o e q (fun z => absurd (show b ∈ ([] : List Addr) from z) (by simp)) (by simp)
        | some x =>
          rcases ofH b x q with ⟨z, _⟩ | ⟨rfl, _, rfl⟩
          · exact absurd z nb
          · obtain ⟨g1, _⟩ := hok' _ _ (un.frzs _ _ _ q)
            rw [scr] at e
            cases e
            exact g1
      have grow : ∀ b ∈ cs.map (·.2), ∃ more : Array Value, s'.heap.get? b = some { cls := .none, data := .fields more } := fun b hb => by
        obtain ⟨more, z⟩ := un.tbls b #[] (tabH b hb)
        exact ⟨_, hok' b _ z⟩
      refine ⟨rfl, ⟨fun b o e => ?_, fun b o e => ?_⟩, hos, hbare⟩
      · by_cases hb : b ∈ cs.map (·.2)
        · obtain ⟨more, hm⟩ := grow b hb
          obtain ⟨p, hp, rfl⟩ := List.mem_map.mp hb
          rw [tabs p hp] at e
          cases e
          exact .inr (.inl ⟨((hds p hp).tab (tabs p hp)).isCodeTable, rfl, #[], more, rfl, by rw [Array.empty_append]; exact hm⟩)
        · exact .inl (stay b o hb e)
      · by_cases hb : b ∈ cs.map (·.2)
        · obtain ⟨more, hm⟩ := grow b hb
          exact ⟨_, hm⟩
        · exact ⟨o, stay b o hb e⟩
end
end
section
open PySem Spec PyProof.Rows L2
local macro_rules | `(tactic| walk_at "s") => `(tactic| first
  | with_reducible refine r_seq ?_
  | with_reducible refine r_next ?_
  | with_reducible refine r_asg ?_
  | with_reducible refine r_gname ?_
  | with_reducible refine r_ret ?_
  | with_reducible refine r_drop ?_
  | with_reducible refine r_ifs ?_
  | with_reducible refine r_var rfl ?_
  | with_reducible refine r_c ?_
  | with_reducible refine r_op ?_
  | with_reducible refine r_un ?_
  | with_reducible refine r_nil ?_
  | with_reducible refine r_cons ?_
  | with_reducible refine r_test ?_
  | with_reducible refine r_tb ?_
  | with_reducible refine r_and ?_
  | with_reducible refine r_or ?_
  | with_reducible refine r_not ?_
  | with_reducible refine r_andV ?_
  | with_reducible refine r_orV ?_
  | with_reducible refine r_notV ?_
  | with_reducible refine r_if ?_
  | with_reducible refine r_chain ?_
  | with_reducible refine r_cl ?_
  | with_reducible refine r_cb ?_
  | with_reducible refine r_bl ?_
  | with_reducible refine r_I0 ?_
  | with_reducible refine r_yes ?_
  | with_reducible refine r_itT ?_
  | with_reducible refine r_itL ?_
  | with_reducible refine r_itS ?_
  | with_reducible refine r_itE ?_
  | with_reducible refine r_revT ?_
  | with_reducible refine r_star ?_
  | with_reducible refine r_for ?_
  | with_reducible refine r_bm ?_
  | with_reducible refine r_bm0 ?_
  | with_reducible refine r_kget1 ?_
  | with_reducible refine r_kget2 ?_
  | with_reducible refine r_par ?_
  | with_reducible refine r_tup ?_
  | with_reducible refine r_lst ?_
  | with_reducible refine r_exI ?_
  | with_reducible refine r_itZ ?_
  | with_reducible refine r_dget ?_
  | with_reducible refine r_U ?_
  | with_reducible refine r_rng1 ?_
  | with_reducible refine r_gsub ?_
  | with_reducible refine r_pnil ?_
  | with_reducible refine r_pcons ?_
  | with_reducible refine r_methR ?_
  | with_reducible refine r_dpop1 ?_
  | with_reducible refine r_dput ?_
  | with_reducible refine r_din ?_
  | with_reducible refine r_dnotin ?_
  | with_reducible refine r_nopart ?_
  | with_reducible refine r_lc ?_
  | with_reducible refine r_sl ?_
  | with_reducible refine r_part ?_
  | with_reducible refine r_eq rfl ?_
  | with_reducible refine r_ne rfl ?_
  | with_reducible refine iteT ?_
  | with_reducible refine iteF ?_
  | with_reducible refine ite_nt ?_
  | with_reducible refine ite_nf ?_)
local macro_rules | `(tactic| walk_at "k") => `(tactic| first
  | walk_at "s"
  | with_reducible refine ite_eqT (by decide +kernel) ?_
  | with_reducible refine ite_eqF (by decide +kernel) ?_)
open LamX
section
variable {X : Cx} {E : XK} {k j : Nat} {sp : Sp} {x : Str} {p pos : Pos}
theorem pe_cr0 (c : CalR X.prog X.w X.K X.mg X.base k x sp) (hr : Room j X.A) (hx : Passes (L2.CX X.prog X.w) X E) (hk : k ≤ j := by decide) (hg : Gl X x := by rfl)
    (hdb : (x == ("__debug__" : Str)) = false := by decide) : PE X (.Call (.Name x p) [] [] pos) (tCl sp E tNil) := by
  obtain ⟨f, F, hm, hkp⟩ := c
  refine ⟨fun pins s σ H Q I h => ?_⟩
  refine wpAny_Call_Name_kw (ld_glob I hg hm ?_ hdb)
  refine PySem.W.callWith_K0 I.kIn hkp ?_
  refine wpAny_call (codeAny_mono (F.mono hk X.A X.stack s H [] [] Q E hr I.env0 .nil h) fun r s' hq => ?_)
  cases r with
  | error e => exact hx pins σ H s e s' I hq
  | ok fl =>
    cases fl with
    | ret u => exact I.after hq
    | next => exact False.elim hq
    | brk => exact False.elim hq
    | cont => exact False.elim hq
end
section
variable {P : Program} {w : World} {K : PySem.W.Frag} {mg : Str → Option Value} {base : Heap}
theorem sc_law : FnScope ["script", "state", "turn", "days_so", "shelf_so", "own", "k", "twin", "far", "name", "thing"] ["script"] (defScope (top 76)) := ⟨rfl, rfl, rfl, by decide +kernel, rfl, by decide +kernel, by decide +kernel⟩
theorem r_revL {te : TE} {σ : L2.St} {H : Hp} {Q : VK} (h : te σ H fun x H1 => ∃ a xs, x = .ref a ∧ SqL K H1 a xs ∧ ∀ p, H1 p = none → Q (.ref p) (upd H1 p (.lst xs.reverse))) : tRevL K te σ H Q := h
theorem ownT_len (own : Own) (zs : List Str) : List.length (ownT own zs) = zs.length ∧ List.length (ownF own zs) = zs.length := by
  unfold ownT ownF
  rw [List.length_map, List.length_map]
  exact ⟨rfl, rfl⟩
def spLaw (K : PySem.W.Frag) : Sp := fun vs H Q _ => ∃ (a : Addr) (ns : List Int), vs = [.ref a] ∧ SqL K H a (ns.map .int) ∧ ns.length ≤ 1000 ∧ Tabs (TT K) H ∧ ∀ H', Q (.bl true) H'
theorem c_law (fx : Fx K mg w) (lx : Lx K mg base) : CalG P w K mg base 13 "law" (spLaw K) := by
  refine fx.d_law.okG sc_law (fun vs H Q E q => ?_) (fun _ _ _ _ _ _ us hl => match us, hl with | [_], _ => rfl) fun f cdv A outer s H vs Q E hg0 hr q => ?_
  · obtain ⟨a, ns, rfl, _⟩ := q
    rfl
  · obtain ⟨a, ns, rfl, hsc, hnl, hT, q⟩ := q
    have hgd : (A.deeper (envOfC "law" (defScope (top 76)) s.heap.objs.size f cdv)).guards = some [] := hg0
    have hu2 := hu_of hr
    have hu := hr.units
    have hu70 : (A.deeper (envOfC "law" (defScope (top 76)) s.heap.objs.size f cdv)).units + 70 < cLine := by
      have := hr.un
      omega
    refine ⟨_, (pss_cons (ps_set (i := 1) sc_law.nd rfl (Or.inl rfl) (pe_cr (c__law_begin fx) hr px (pa_cons (pv 0) pa_nil)))
    (pss_cons (ps_for PassesOwn.leaving rfl (pi_range1 rfl fx.n_range (pa_cons (pe_op op_add pe_int (pe_callB (call_min2 rfl) rfl fx.n_min (by decide +kernel) (pa_cons (pe_callB call_len_seq rfl fx.n_len (by decide +kernel) (pa_cons (pv 0) pa_nil)) (pa_cons pe_int pa_nil)))) pa_nil)) (pg_name (i := 2) (x := "turn") sc_law.nd rfl (Or.inl rfl) (.inl rfl)) (pss_cons (ps_asg (pe_tup (pa_cons (pe_cr (c__law_days fx) hr px (pa_cons (pv 1) (pa_cons pe_int (pa_cons pe_int pa_nil)))) (pa_cons (pe_shelf fx (hr.mono (by decide)) px) (pa_cons pe_dnewK pa_nil)))) (pg_tup (n := 3) rfl (pgs_cons (pg_name (i := 3) (x := "days_so") sc_law.nd rfl (Or.inl rfl) (.inl rfl)) (pgs_cons (pg_name (i := 4) (x := "shelf_so") sc_law.nd rfl (Or.inr rfl) (.inl rfl)) (pgs_cons (pg_name (i := 5) (x := "own") sc_law.nd rfl (Or.inl rfl) (.inl rfl)) pgs_nil)))))
      (pss_cons (ps_for PassesOwn.leaving rfl (pi_range1 rfl fx.n_range (pa_cons pe_int pa_nil)) (pg_name (i := 6) (x := "k") sc_law.nd rfl (Or.inl rfl) (.inl rfl)) (pss_one (ps_if (PW.pt (pw_or (pt_not (pt_val (pe_cg (c__law_deed fx lx) hgd hr px (pa_cons (pv 1) (pa_cons (pv 4) (pa_cons (pv 5) pa_nil)))))) (pw_or1 (pt_not (pt_val (pe_cg (c__law_stands_right fx lx) hgd hr px (pa_cons (pv 4) (pa_cons (pv 5) (pa_cons (pv 3) pa_nil))))))))) (pss_one (ps_ret pe_bl)) pss_nil)))
      (pss_cons (ps_par (i := 7) (j := 8) rfl sc_law.nd rfl rfl (by decide) rfl rfl (pa_cons (pe_shelf fx (hr.mono (by decide)) px) (pa_cons (pe_shelf fx (hr.mono (by decide)) px) pa_nil)) rfl)
      (pss_cons (ps_for PassesOwn.leaving rfl (pi_list (pe_revL (pe_callB (call_sortedD rfl) rfl fx.n_sorted (by decide +kernel) (pa_cons (pv 5) pa_nil)))) (pg_name (i := 9) (x := "name") sc_law.nd rfl (Or.inl rfl) (.inl rfl)) (pss_cons (ps_expr (pe_methR (pv 7) fx.shm.2.1 fx.s_put.meth (m_put fx) (hr.mono (by decide)) px (pa_cons (pv 9) (pa_cons (pe_dget hu2 (pv 5) (pv 9) (fun _ _ => rfl)) pa_nil))))
        (pss_one (ps_expr (pe_methR (pv 8) fx.shm.2.1 fx.s_put.meth (m_put fx) (hr.mono (by decide)) px (pa_cons (pv 9) (pa_cons (pe_tup (pa_cons pe_str (pa_cons (pe_dget hu2 (pv 5) (pv 9) (fun _ _ => rfl)) (pa_cons (pe_tup (pa_cons pe_str (pa_cons pe_int pa_nil))) pa_nil)))) pa_nil)))))))
      (pss_cons (ps_if (PW.pt (pw_or (pt_cmpR (op_neOwn ⟨fx.s_eq.at_, fx.s_eq.isF⟩ fx.shs.1 fx.shs.2.1 (m_eq fx) (hr.mono (by decide)) px) (pv 4) (pv 7) (nomark _)) (pw_or (pt_not (pt_cmpR (op_eqOwn ⟨fx.s_eq.at_, fx.s_eq.isF⟩ (m_eq fx) (hr.mono (by decide)) px) (pv 4) (pv 7) (nomark _))) (pw_or1 (PW.pt (pw_and (pt_cmpR (op_neDD hu70) (pv 5) pe_dnewK (nomark _)) (pw_and1 (pt_cmpR (op_eqOwn ⟨fx.s_eq.at_, fx.s_eq.isF⟩ (m_eq fx) (hr.mono (by decide)) px) (pv 4) (pv 8) (nomark _))))))))) (pss_one (ps_ret pe_bl)) pss_nil)
      (pss_cons (ps_expr (pe_methR (pv 7) fx.shm.2.1 fx.s_put.meth (m_put fx) (hr.mono (by decide)) px (pa_cons pe_str (pa_cons (pe_tup (pa_cons pe_str (pa_cons pe_int pa_nil))) pa_nil))))
      (pss_cons (ps_if (PW.pt (pw_or (pt_cmpR (op_eqOwn ⟨fx.s_eq.at_, fx.s_eq.isF⟩ (m_eq fx) (hr.mono (by decide)) px) (pv 4) (pv 7) (nomark _)) (pw_or1 (pt_cmpR (op_neD hu) (pe_lc (own := [("thing", 10)]) (g := gName 10) (tt := tYes) (te := (tOp (rEqOwn K (He.ga K "Shelf") (spEq K) (fun _ _ _ => False)) (tVar 4) (tVar 10))) rfl sc_law.nd (pi_tup (pe_tup (pa_cons pe_non (pa_cons pe_int (pa_cons (pv 5) pa_nil))))) (blkOk_by (N := ["script", "state", "turn", "days_so", "shelf_so", "own", "k", "twin", "far", "name", "thing"]) (sc := defScope (top 76)) (by decide +kernel)) (fun _ _ _ _ _ => (pg_name (i := 10) (x := "thing") sc_law.nd rfl (Or.inl rfl) (.inr rfl))) (fun _ _ _ _ _ => pts_nil) (fun _ _ _ _ _ => (pe_cmpR (op_eqOwn ⟨fx.s_eq.at_, fx.s_eq.isF⟩ (m_eq fx) (hr.mono (by decide)) passL) (pv 4) (pv 10) (nomark _)))) (pe_op op_rep (pe_lst (pa_cons pe_bl pa_nil)) pe_int) (nomark _))))) (pss_one (ps_ret pe_bl)) pss_nil)
      (pss_one (ps_if (PW.pt (pw_or (pt_not (pt_val (pe_cg (c__law_refused_right fx lx) hgd hr px (pa_cons (pv 4) (pa_cons (pv 3) pa_nil))))) (pw_or1 (pt_not (pt_val (pe_cg (c__law_stands_right fx lx) hgd hr px (pa_cons (pv 4) (pa_cons (pv 5) (pa_cons (pv 3) pa_nil))))))))) (pss_one (ps_ret pe_bl)) pss_nil))))))))))
    (pss_one (ps_ret (pe_cr0 (c__law_many_right fx lx) hr px))))), ?_⟩
    repeat walk_at "k"
    refine ⟨a, ns, rfl, hsc, hnl, fun st cs lf H1 e1 n1 n2 n3 hst => ?_⟩
    repeat walk_at "k"
    refine ⟨a, ns.map .int, rfl, .inl (e1.lst hsc), ?_⟩
    repeat walk_at "k"
    refine ⟨_, _, rfl, ?_⟩
    repeat walk_at "k"
    have hb : ∀ L : Int, 0 ≤ L → -(2 ^ 62) ≤ (3 + if (5 : Int) < L then (5 : Int) else L) ∧ (3 + if (5 : Int) < L then (5 : Int) else L) < 2 ^ 62 ∧ (3 + if (5 : Int) < L then (5 : Int) else L).toNat ≤ 8 := fun L hL => by
      split <;> omega
    obtain ⟨b1, b2, b3⟩ := hb ((ns.map V.int).length) (by omega)
    refine ⟨_, rfl, b1, b2, ?_⟩
    have T1 := hT.ext e1
    clear hb b1 b2 n1 n2 n3 e1 hsc hT
    refine for_it walk_range (fun i σ' H' => StAt H' st cs lf (i * 700) ∧ Tabs (TT K) H' ∧ ∃ o2 o3 o4 o5 o6 o7 o8 o9 o10 : Option V, σ' = [some (.ref a), some (.ref st), o2, o3, o4, o5, o6, o7, o8, o9, o10]) ⟨hst, T1, _, _, _, _, _, _, _, _, _, rfl⟩ (fun _ _ _ _ _ => trivial) (fun i x σ' Ha Hb hi z yy => ?_) fun σ' H' z => ?_
    · obtain ⟨sa, Ta, o2, o3, o4, o5, o6, o7, o8, o9, o10, rfl⟩ := z
      obtain ⟨rfl, rfl⟩ := yy
      have hi8 : i < 8 := Nat.lt_of_lt_of_le hi b3
      clear hi b3 hst T1
      refine r_gname ?_
      repeat walk_at "k"
      refine ⟨st, cs, lf, i * 700, rfl, sa, by omega, fun d dss H2 f2 s2 hd2 hok => ?_⟩
      have T2 := f2.tb Ta
      clear sa Ta f2
      repeat walk_at "k"
      refine fun H3 sh D e3 m1 m2 hs3 => ?_
      repeat walk_at "k"
      refine r_dnewK fun O hO => ?_
      have eO := Ext.new (o := .dK []) hO
      repeat walk_at "k"
      refine ⟨by show 3 ≤ sizeLine; decide, fun p hp => ?_⟩
      have ep := Ext.new (o := .tup [.ref d, .ref sh, .ref O]) hp
      refine ⟨p, _, rfl, .inl (.inl upd_same), rfl, _, _, rfl, r_gname ⟨_, _, rfl, r_gname ⟨_, _, rfl, r_gname ⟨rfl, ?_⟩⟩⟩⟩
      have nDO : D ≠ O := by
        obtain ⟨_, _, g, _⟩ := hs3
        exact ne_of_none g hO
      have nDs : D ≠ st := by
        obtain ⟨_, _, _, g, _⟩ := s2
        exact (ne_of_none g m2).symm
      have nOs : O ≠ st := by
        obtain ⟨_, _, _, g, _⟩ := s2.ext e3
        exact (ne_of_none g hO).symm
      have hO4 : DictN K _ O [] := ⟨[], ep _ _ upd_same, .nil⟩
      have hs4 := hs3.ext (eO.trans ep)
      have s4 := s2.ext (e3.trans (eO.trans ep))
      have T4 := T2.ext (e3.trans (eO.trans ep))
      have hd4 := hd2.tk (K := K) (e3.trans (eO.trans ep)).tk
      generalize upd (upd H3 O (.dK [])) p (.tup [.ref d, .ref sh, .ref O]) = H4 at hO4 hs4 s4 T4 hd4 ⊢
      clear eO ep hO hp e3 m1 m2 hs3 s2 T2 hd2
      repeat walk_at "k"
      refine ⟨_, rfl, by decide, by decide, ?_⟩
      refine for_it walk_range (fun j σ' H' => ∃ own : Own, StAt H' st cs lf (i * 700 + 30 + j * 60) ∧ ShAt K H' sh D own ∧ DictN K H' O own ∧ OwnW own ∧ DaysAt K H' d dss ∧ Tabs (TT K) H' ∧ ∃ o6 o7 o8 o9 o10 : Option V, σ' = [some (.ref a), some (.ref st), some (.int (0 + (i : Nat))), some (.ref d), some (.ref sh), some (.ref O), o6, o7, o8, o9, o10]) ⟨[], s4, hs4, hO4, ⟨(fun _ z => by cases z), List.nodup_nil, (fun _ z => by cases z)⟩, hd4, T4, _, _, _, _, _, rfl⟩ (fun _ _ _ _ _ => trivial) (fun j x σ' Hc Hd hj z yy => ?_) fun σ' H5 z => ?_
      · obtain ⟨own, s5, hs5, hO5, hw5, hd5, T5, p6, p7, p8, p9, p10, rfl⟩ := z
        obtain ⟨rfl, rfl⟩ := yy
        have hj9 : j < 9 := hj
        refine r_gname ?_
        repeat walk_at "k"
        refine ⟨st, cs, lf, sh, D, O, i * 700 + 30 + j * 60, own, rfl, s5, by omega, hs5, hO5, hw5, nDO, nDs, nOs, T5, fun own' H6 hw6 f6 s6 hs6 hO6 => ?_⟩
        repeat walk_at "k"
        refine ⟨sh, D, O, d, dss, own', rfl, hs6, hO6, hw6, hd5.tk f6.tk, hok, f6.tb T5, fun H7 f7 => ?_⟩
        repeat walk_at "k"
        exact ⟨own', (s6.fr f7 (by simp) (by simp) (by simp)).more (by omega), hs6.fr f7 (by simp) (by simp), hO6.fr f7 (by simp), hw6, (hd5.tk f6.tk).tk f7.tk, f7.tb (f6.tb T5), _, _, _, _, _, rfl⟩
      · obtain ⟨own, s5, hs5, hO5, hw5, hd5, T5, p6, p7, p8, p9, p10, rfl⟩ := z
        clear s4 hs4 hO4 hd4 T4
        repeat walk_at "k"
        obtain ⟨hwo, hl6⟩ := hw5.ok
        refine fun H6 t1 D1 e6 m1 m2 hq1 => ?_
        repeat walk_at "k"
        refine fun H7 t2 D2 e7 m3 m4 hq2 => ?_
        repeat walk_at "k"
        refine ⟨_, _, rfl, ?_⟩
        have nn : ∀ b o, H5 b = some o → b ∉ [D1, D2] := fun b o h => by
          have g1 := ne_of_none h m2
          have g2 := ne_of_none (e6 _ _ h) m4
          simp [g1, g2]
        have nt12 : D1 ≠ D2 ∧ t1 ≠ D1 ∧ t1 ≠ D2 ∧ t2 ≠ D1 ∧ t2 ≠ D2 := by
          obtain ⟨⟨_, g1⟩, _, g2, _⟩ := hq1
          obtain ⟨⟨_, g3⟩, _, g4, _⟩ := hq2
          exact ⟨ne_of_none g2 m4, ne_of g1 g2 (fun z => by cases z), ne_of_none g1 m4, (ne_of_none g2 m3).symm, ne_of g3 g4 (fun z => by cases z)⟩
        obtain ⟨n12, n11, n1b, n2a, n22⟩ := nt12
        have nO : O ∉ [D1, D2] := by
          obtain ⟨_, g, _⟩ := hO5
          exact nn _ _ g
        have nD : D ∉ [D1, D2] := by
          obtain ⟨_, _, g, _⟩ := hs5
          exact nn _ _ g
        have nsh : sh ∉ [D1, D2] := by
          obtain ⟨⟨_, g⟩, _⟩ := hs5
          exact nn _ _ g
        have nst : st ∉ [D1, D2] ∧ cs ∉ [D1, D2] ∧ lf ∉ [D1, D2] := by
          obtain ⟨_, _, _, g1, g2, g3, _⟩ := s5
          exact ⟨nn _ _ g1, nn _ _ g2, nn _ _ g3⟩
        have e57 := e6.trans e7
        have s7 := s5.ext e57
        have hs7 := hs5.ext e57
        have hO7 := hO5.ext e57
        have hd7 := hd5.tk (K := K) e57.tk
        have T7 := T5.ext e57
        have hq17 := hq1.ext e7
        clear nn e57 e6 e7 m1 m2 m3 m4 s5 hs5 hO5 hd5 T5 hq1
        repeat walk_at "k"
        refine r_revL ?_
        repeat walk_at "k"
        obtain ⟨okv, hO71, hO72⟩ := id hO7
        refine ⟨O, okv, names own, rfl, .inl hO71, hO72.keys, by unfold names; rw [List.length_map]; omega, fun ys S hys hso hS => ?_⟩
        have eS := Ext.new (o := .lst (ys.map V.str)) hS
        repeat walk_at "k"
        refine ⟨S, _, rfl, .inl (.inl upd_same), fun S2 hS2 => ?_⟩
        rw [← List.map_reverse]
        have hzp : ys.reverse.Perm (names own) := (List.reverse_perm ys).trans hys
        have hzn : ys.reverse.Nodup := hzp.nodup_iff.mpr hw5.nd
        have hzl : ys.reverse.length ≤ 6 := by rw [hzp.length_eq]; unfold names; rw [List.length_map]; exact hl6
        have hzm : ∀ y ∈ ys.reverse, y ∈ names own := fun y hy => hzp.mem_iff.mp hy
        clear hys hso
        generalize ys.reverse = zs at hzp hzn hzl hzm ⊢
        have e8 := eS.trans (Ext.new (o := .lst (zs.map V.str)) hS2)
        have hS8 : (upd (upd H7 S (.lst (ys.map V.str))) S2 (.lst (zs.map V.str))) S2 = some (.lst (zs.map V.str)) := upd_same
        have nS1 : S2 ∉ [D1, D2] := by
          obtain ⟨_, _, g1, _⟩ := hq17.ext eS
          obtain ⟨_, _, g2, _⟩ := hq2.ext eS
          have := (ne_of_none g1 hS2).symm
          have := (ne_of_none g2 hS2).symm
          simp [*]
        generalize upd (upd H7 S (.lst (ys.map V.str))) S2 (.lst (zs.map V.str)) = H8 at e8 hS8 ⊢
        have s8 := s7.ext e8
        have hs8 := hs7.ext e8
        have hO8 := hO7.ext e8
        have hd8 := hd7.tk (K := K) e8.tk
        have T8 := T7.ext e8
        have hq18 := hq17.ext e8
        have hq28 := hq2.ext e8
        clear eS e8 hS hS2 s7 hs7 hO7 hd7 T7 hq17 hq2 hO71 hO72
        refine ⟨S2, rfl, ⟨_, .inl (.inl hS8)⟩, ?_⟩
        refine for_it walk_list (fun j σ' H' => Fr K [D1, D2] H8 H' ∧ ShAt K H' t1 D1 (ownT own (zs.take j)) ∧ ShAt K H' t2 D2 (ownF own (zs.take j)) ∧ ∃ o9 o10 : Option V, σ' = [some (.ref a), some (.ref st), some (.int (0 + (i : Nat))), some (.ref d), some (.ref sh), some (.ref O), p6, some (.ref t1), some (.ref t2), o9, o10]) ⟨Fr.refl _, hq18, hq28, _, _, rfl⟩ (fun j σ' H' _ z => .inl (.inl (z.1.lst nS1 hS8))) (fun j x σ' Hc Hd hj z yy => ?_) fun σ' H9 z => ?_
        · obtain ⟨fc, ht1, ht2, q9, q10, rfl⟩ := z
          obtain ⟨rfl, hx⟩ := yy
          rw [List.getElem?_map] at hx
          obtain ⟨y, hyj, rfl⟩ := Option.map_eq_some_iff.mp hx
          have hym := hzm y (List.mem_of_getElem? hyj)
          have hyl := hw5.sub y hym
          obtain ⟨g1, g2⟩ := ownT_snoc own hzn hyj
          have hts := tm_wf hw5 y
          have hj6 : j < 6 := by
            rw [List.length_map] at hj
            omega
          have look : ∀ Hq, DictN K Hq O own → ∃ kv v, Hq O = some (.dK kv) ∧ valV kv (.inr y) = some v ∧ TR K Hq (tmOf own y) v := fun Hq hq => by
            obtain ⟨kv, k1, k2⟩ := hq
            rcases k2.val y with ⟨_, z2⟩ | ⟨v, t, z1, z2, z3, _⟩
            · exfalso
              obtain ⟨e, he, rfl⟩ := List.mem_map.mp hym
              rw [lookN_of hw5.nd he] at z2
              cases z2
            · refine ⟨kv, v, k1, z1, ?_⟩
              unfold tmOf
              rw [z2]
              exact z3
          have hOc := hO8.fr fc nO
          obtain ⟨kv, v, k1, k2, k3⟩ := look _ hOc
          have hg := DGet.k (k := .inr y) k1
          rw [k2] at hg
          obtain ⟨⟨dx1, ht11⟩, _⟩ := id ht1
          refine r_gname ?_
          repeat walk_at "k"
          refine ⟨t1, dx1, _, rfl, ht11, rfl, ?_⟩
          repeat walk_at "k"
          refine ⟨O, v, rfl, hg, ?_⟩
          repeat walk_at "k"
          have hl1 := ownT_len own (zs.take j)
          have hl2 : (zs.take j).length ≤ 6 := by rw [List.length_take]; omega
          refine r_put ht1 (by omega) (nm_lab hyl _) k3 hts.1 (fun _ => by omega) fun H10 f10 hp1 => ?_
          rw [g1] at hp1
          have fc10 : Fr K [D1, D2] H8 H10 := fc.trans (f10.more (by simp))
          have ht2c := ht2.fr f10 (by simpa using n2a) (by simpa using Ne.symm n12)
          have hOe := hO8.fr fc10 nO
          obtain ⟨kv2, v2, k4, k5, k6⟩ := look _ hOe
          have hg2 := DGet.k (k := .inr y) k4
          rw [k5] at hg2
          obtain ⟨⟨dx2, ht21⟩, _⟩ := id ht2c
          repeat walk_at "k"
          refine ⟨t2, dx2, _, rfl, ht21, rfl, ?_⟩
          repeat walk_at "k"
          refine ⟨O, v2, rfl, hg2, ?_⟩
          repeat walk_at "k"
          refine ⟨by show 2 ≤ sizeLine; decide, fun c1 hc1 => ?_⟩
          have ec1 := Ext.new (o := .tup [.str "cash", .int 0]) hc1
          repeat walk_at "k"
          refine ⟨by show 3 ≤ sizeLine; decide, fun c2 hc2 => ?_⟩
          have ec2 := Ext.new (o := .tup [.str "both", v2, .ref c1]) hc2
          have ec := ec1.trans ec2
          repeat walk_at "k"
          refine r_put (ht2c.ext ec) (by omega) (nm_lab hyl _) (t := bothT (tmOf own y)) ⟨c2, v2, .ref c1, rfl, .inl (.inl upd_same), k6.tk ec.tk, c1, rfl, ec2.tup (.inl (.inl upd_same))⟩ (both_wf hts) (fun _ => by omega) fun H11 f11 hp2 => ?_
          rw [g2] at hp2
          repeat walk_at "k"
          exact ⟨fc10.trans (ec.fr.trans (f11.more (by simp))), (hp1.ext ec).fr f11 (by simpa using n1b) (by simpa using n12), hp2, _, _, rfl⟩
        · obtain ⟨fc, ht1, ht2, q9, q10, rfl⟩ := z
          rw [List.length_map, List.take_length] at ht1 ht2
          have hh : ∀ e ∈ own, e.2.hgt ≤ 60 := fun e he => by
            have := (hw5.wf e he).2.1
            omega
          have hh1 : ∀ e ∈ ownT own zs, e.2.hgt ≤ 60 := fun e he => by
            obtain ⟨y, _, rfl⟩ := List.mem_map.mp he
            have := (tm_wf hw5 y).2.2
            show (tmOf own y).hgt ≤ 60
            omega
          have hh2 : ∀ e ∈ ownF own zs, e.2.hgt ≤ 60 := fun e he => by
            obtain ⟨y, _, rfl⟩ := List.mem_map.mp he
            have := (both_wf (tm_wf hw5 y)).2.1
            show (bothT (tmOf own y)).hgt ≤ 60
            omega
          have s9 := s8.fr fc nst.1 nst.2.1 nst.2.2
          have hs9 := hs8.fr fc nsh nD
          have hO9 := hO8.fr fc nO
          have hd9 := hd8.tk fc.tk
          have T9 := fc.tb T8
          clear s8 hs8 hO8 hd8 T8 hq18 hq28 hS8 fc nS1
          obtain ⟨⟨dx, hs91⟩, _⟩ := id hs9
          repeat walk_at "k"
          refine ⟨sh, dx, _, _, rfl, hs91, ht1.ty fx, fx.shn, sh, D, own, .ref t1, rfl, hs9, hh, .inl ⟨t1, D1, _, rfl, ht1, hh1, _, rfl, ?_⟩⟩
          rw [eqN_self hw5.nd hzp]
          repeat walk_at "k"
          refine ⟨sh, dx, _, _, rfl, hs91, ht1.ty fx, fx.shn, sh, D, own, .ref t1, rfl, hs9, hh, .inl ⟨t1, D1, _, rfl, ht1, hh1, _, rfl, ?_⟩⟩
          rw [eqN_self hw5.nd hzp]
          repeat walk_at "k"
          refine r_dnewK fun pz hpz => ?_
          have ez := Ext.new (o := .dK []) hpz
          obtain ⟨okv9, k1, k2⟩ := id (hO9.ext ez)
          refine ⟨O, pz, okv9, [], datas own, [], rfl, rfl, k1, upd_same, k2.dpd hh, .nil, ?_⟩
          have he : eqDD (datas own) [] = decide (own = []) := by cases own <;> rfl
          rw [he]
          have s10 := s9.ext ez
          have hs10 := hs9.ext ez
          have hO10 := hO9.ext ez
          have hd10 := hd9.tk (K := K) ez.tk
          have T10 := T9.ext ez
          have ht110 := ht1.ext ez
          have ht210 := ht2.ext ez
          have hs101 := ez _ _ hs91
          generalize upd H9 pz (.dK []) = H10 at s10 hs10 hO10 hd10 T10 ht110 ht210 hs101 ⊢
          clear k1 k2 ez hpz he s9 hs9 hO9 hd9 T9 ht1 ht2 hs91
          obtain ⟨⟨dx1, ht111⟩, _⟩ := id ht110
          have sub1 : ∀ b, b ∉ [D1, D2] → b ∉ [D1] := fun b h z => h (by rw [List.mem_singleton.mp z]; simp)
          have hq : ("q" : Str) ∉ zs := fun z => absurd (hw5.sub _ (hzm _ z)) (by decide)
          have hhq : ∀ e ∈ putN (ownT own zs) "q" (.lf .cash 0), e.2.hgt ≤ 60 := fun e he => by
            rw [putN_new (by rw [names_ownT]; exact hq)] at he
            rcases List.mem_append.mp he with z | z
            · exact hh1 e z
            · rw [List.mem_singleton.mp z]
              decide
          have hlt := (ownT_len own zs).1
          by_cases hne : own = []
          case' pos =>
            refine ⟨false, by simp [hne], iteF ?_⟩
            repeat walk_at "k"
          case' neg =>
            refine ⟨true, by simp [hne], iteT ?_⟩
            repeat walk_at "k"
            refine ⟨sh, dx, _, _, rfl, hs101, ht210.ty fx, fx.shn, sh, D, own, .ref t2, rfl, hs10, hh, .inl ⟨t2, D2, _, rfl, ht210, hh2, _, rfl, ?_⟩⟩
            rw [eqN_far hw5.nd hne]
            repeat walk_at "k"
          all_goals
            refine ⟨t1, dx1, _, rfl, ht111, rfl, ?_⟩
            repeat walk_at "k"
            refine ⟨by show 2 ≤ sizeLine; decide, fun c1 hc1 => ?_⟩
            have ec1 := Ext.new (o := .tup [.str "cash", .int 0]) hc1
            repeat walk_at "k"
            refine r_put (ht110.ext ec1) (by omega) (lab_of (by decide +kernel)) (t := .lf .cash 0) ⟨c1, rfl, .inl (.inl upd_same)⟩ (leaf_wf (by decide)) (fun _ => by omega) fun H11 f11 hp1 => ?_
            have f1011 : Fr K [D1] H10 H11 := ec1.fr.trans f11
            have s11 := s10.fr f1011 (sub1 _ nst.1) (sub1 _ nst.2.1) (sub1 _ nst.2.2)
            have hs11 := hs10.fr f1011 (sub1 _ nsh) (sub1 _ nD)
            have hO11 := hO10.fr f1011 (sub1 _ nO)
            have hd11 := hd10.tk f1011.tk
            have T11 := f1011.tb T10
            have hs111 := f1011.kp _ _ (sub1 _ nsh) hs101 fun _ z => by cases z
            clear ec1 hc1 f11 f1011 s10 hs10 hO10 hd10 T10 ht110 ht210 hs101 ht111
            repeat walk_at "k"
            refine ⟨sh, dx, _, _, rfl, hs111, hp1.ty fx, fx.shn, sh, D, own, .ref t1, rfl, hs11, hh, .inl ⟨t1, D1, _, rfl, hp1, hhq, _, rfl, ?_⟩⟩
            rw [eqN_more hzp hq]
            repeat walk_at "k"
            refine ⟨by show 3 ≤ sizeLine; decide, fun q1 hq1 => ?_⟩
            have e12 := Ext.new (o := .tup [.non, .int 5, .ref O]) hq1
            have qq : (upd H11 q1 (.tup [.non, .int 5, .ref O])) q1 = some (.tup [.non, .int 5, .ref O]) := upd_same
            have s12 := s11.ext e12
            have hs12 := hs11.ext e12
            have hO12 := hO11.ext e12
            have hd12 := hd11.tk (K := K) e12.tk
            have T12 := T11.ext e12
            have hs121 := e12 _ _ hs111
            generalize upd H11 q1 (.tup [.non, .int 5, .ref O]) = H12 at qq s12 hs12 hO12 hd12 T12 hs121 ⊢
            clear e12 hq1 s11 hs11 hO11 hd11 T11 hs111 hp1
            refine ⟨q1, rfl, ⟨_, .inl (.inl qq)⟩, fun DD hDD => lc_vals (K := K) walk_tup hDD (by show 3 ≤ 1000000; decide) (fun Hq e => .inl (.inl (e _ _ qq))) (fun _ => .bl false) yAt_ext (fun j x Hx He hj e yy Kt hk => ?_) fun He e hl => ?_⟩
            · obtain ⟨rfl, hx⟩ := yy
              have hxm := List.mem_of_getElem? hx
              simp only [List.mem_cons, List.not_mem_nil, or_false] at hxm
              have hty : ∃ tt, tt ∈ plainT ∧ TyX K He x (.type tt) := by
                rcases hxm with rfl | rfl | rfl
                · exact ⟨"NoneType", by simp [plainT], TyX.ext (.base .non) e⟩
                · exact ⟨"int", by simp [plainT], TyX.ext (.base (.int _)) e⟩
                · obtain ⟨kv, k1, _⟩ := hO12
                  exact ⟨"dict", by simp [plainT], TyX.ext (.base (.dK k1)) e⟩
              obtain ⟨tt, htt, hty⟩ := hty
              refine r_gname ⟨rfl, ?_⟩
              repeat walk_at "k"
              exact ⟨sh, dx, _, _, rfl, e _ _ hs121, hty, (fx.shk.2 tt htt).2, sh, D, own, x, rfl, hs12.ext e, hh, .inr ⟨tt, htt, hty, false, rfl, hk _ (Ext.refl _)⟩⟩
            · replace hl : He DD = some (.lst [.bl false, .bl false, .bl false]) := hl
              repeat walk_at "k"
              refine ⟨by show 1 ≤ sizeLine; decide, fun l1 hl1 => ?_⟩
              have e13 := Ext.new (o := .lst [.bl false]) hl1
              repeat walk_at "k"
              refine ⟨l1, 3, [.bl false], rfl, rfl, upd_same, by decide, by decide, by show 1 * 3 ≤ sizeLine; decide, fun l2 hl2 => ?_⟩
              rw [show (List.replicate (3 : Int).toNat [V.bl false]).flatten = [V.bl false, V.bl false, V.bl false] from rfl]
              have e14 := Ext.new (o := .lst [.bl false, .bl false, .bl false]) hl2
              have e34 := e13.trans e14
              refine ⟨.list [.bool false, .bool false, .bool false], .list [.bool false, .bool false, .bool false], .lst (.inl (.inl (e34 _ _ hl))) (.cons (.bl _) (.cons (.bl _) (.cons (.bl _) .nil))), .lst (.inl (.inl upd_same)) (.cons (.bl _) (.cons (.bl _) (.cons (.bl _) .nil))), by decide +kernel, by decide +kernel, false, by decide +kernel, iteF ?_⟩
              have eZ := e.trans e34
              have s14 := s12.ext eZ
              have hs14 := hs12.ext eZ
              have hO14 := hO12.ext eZ
              have hd14 := hd12.tk (K := K) eZ.tk
              have T14 := T12.ext eZ
              generalize upd (upd He l1 (.lst [.bl false])) l2 (.lst [.bl false, .bl false, .bl false]) = H14 at s14 hs14 hO14 hd14 T14 ⊢
              clear eZ e34 e13 e14 hl hl1 hl2 e s12 hs12 hO12 hd12 T12 hs121 qq
              repeat walk_at "k"
              refine ⟨sh, D, d, dss, own, rfl, hs14, hw5, hd14, hok, T14, fun H15 f15 => ?_⟩
              repeat walk_at "k"
              refine ⟨sh, D, O, d, dss, own, rfl, hs14.fr f15 (by simp) (by simp), hO14.fr f15 (by simp), hw5, hd14.tk f15.tk, hok, f15.tb T14, fun H16 f16 => ?_⟩
              repeat walk_at "k"
              have f156 := f15.trans f16
              exact ⟨(s14.fr f156 (by simp) (by simp) (by simp)).more (by have : (9 : Int).toNat = 9 := rfl; omega), f156.tb T14, _, _, _, _, _, _, _, _, _, rfl⟩
    · obtain ⟨_, T9, o2, o3, o4, o5, o6, o7, o8, o9, o10, rfl⟩ := z
      repeat walk_at "k"
      exact ⟨rfl, T9, fun H'' => q H''⟩
end
end
section
open PySem Spec PyProof.Rows L2
/-! ### the walk of the law over the head's facts -/
open PySem.W in
theorem walk_end {q : Program} {loose : List Str} {XP : (Str → Option Value) → Heap → Prop} {d : DefRec} (hdf : d.params.defaults = []) (hnm : d.name = ("law" : Str)) :
    PySem.W.WalkO q loose XP hk.says PySem.Challenge.rw_curtainsteps_k28_whole_shelves.row.toRowW d [] (fun f vs => PySem.call f vs) := by
  refine Att.attach_callB (l := PySem.Challenge.rw_curtainsteps_k28_whole_shelves) (n := 63) rfl hdf fun w s0 s1 mg mb fa o pm cd doc a us zs G Y ho hd hcd hmg hobj hints hlen _ hg => ?_
  obtain ⟨K, inK, c⟩ := Y
  have hmg2 : mg "law" = some (.ref fa) := by
    rw [← hnm]
    exact hmg
  refine run_end (cs := tfL.map (He.cT K)) (sp := spLaw K) (k := 13) inK G.T.g G.T.b G.T.builtins G.T.nolimit hg (fun p hp => ?_) (fun p hp => ?_) (fun p hp => ?_) G.T.bmain hobj hints (Nat.le_trans hlen (by decide)) ⟨rfl, by decide, by decide⟩ (fun base inB nsB tb => ?_) (fun H hH hS => ?_) fun H e s' ⟨_, _, _, _, _, _, _, _, _, _, _, _, h⟩ => h
  · obtain ⟨x, hx, rfl⟩ := List.mem_map.mp hp
    exact c.empty x hx
  · obtain ⟨x, hx, rfl⟩ := List.mem_map.mp hp
    exact c.out x hx
  · obtain ⟨x, hx, rfl⟩ := List.mem_map.mp hp
    exact PySem.W.codeHd_of_K inK (c.hd x hx)
  · have lx : Lx K mg base := lx_of c inB nsB fun x hx => tb _ (List.mem_map.mpr ⟨(x, none), List.mem_map.mpr ⟨x, hx, rfl⟩, rfl⟩)
    obtain ⟨f, F, hm, _⟩ := c_law (P := PySem.Challenge.rw_curtainsteps_k28_whole_shelves.prog) (w := w) (fx_of c inB nsB) lx
    rw [hmg2] at hm
    cases hm
    exact F
  · refine ⟨a, zs, rfl, hS, Nat.le_trans hlen (by decide), fun p hp => ?_, fun _ => rfl⟩
    obtain ⟨x, hx, rfl⟩ := List.mem_map.mp hp
    refine ⟨#[], hH _ (List.mem_map.mpr ⟨(x, none), List.mem_map.mpr ⟨x, hx, rfl⟩, rfl⟩), ?_, fun pos cv h => ?_⟩
    · trivial
    · cases h
end
end K28
open PySem W Calls PyProof.Rows
theorem PySem.Challenge.cw_curtainsteps_k28_whole_shelves_holds : PySem.Challenge.rw_curtainsteps_k28_whole_shelves.Holds := by
  exact K28.head_end (K28.walk_end K28.top_dfl K28.top_nm)
