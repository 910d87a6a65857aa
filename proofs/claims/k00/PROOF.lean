import PyProof.Rows.All
import HandS.Base
import HandS.Call
import HandS.Exc
import HandS.ExcInit
import HandS.Nested
import KE.KExcSuper
import KE.KSuper
import HandS.ExcField
import HandS.ExcIs
import HandS.MakeKw
import HandS.Defaults
import HandS.ExcValue
import KE.KExcIs
import Wide.All
import OpenK.AllK
import Wide.FinOn
import HandS.ForMost
import HandS.Wide
import HandS.Gcd
import HandS.EndBits
import HandS.RaiseMore
import HandS.TupAny
import HandS.TupMul
import KE.DataEq
import HandS.Codes
import HandS.Comp
import HandS.IsInst
import HandS.Zip
import PyProof.ReprRoads
import PyProof.ReprNest
import HandS.DeepEq
import HandS.Star
import HandS.OwnEq
import HandS.Records
import KE.KTypeName
import HandS.Style
import PySem.Challenge.RW_replycuts_k00_errors_keep_what_they_are
import HandS.ExcBuiltin
import KE.RegKSuper
set_option Elab.async false
set_option linter.all false
set_option maxRecDepth 100000
set_option maxHeartbeats 0
/-! super().__init__("..") in an own exception class over ValueError (any number of own classes between), over Inv. -/
namespace RD
open PySem PySem.Spec PyProof.Rows L2 NdefX
section
open PySem.W
variable {prog : Program} {w : World} {A : Around} {E : Value → Shared → Prop} {h : Heap} {g : Array GenState} {d : Drawn} {t : Nat} {os : OsState}
variable {nm q : Str} {C N : Addr} {bs bm : List Value} {hdct : Bool} {sn : List Str} {sub : List Value} {ab : Bool} {col : Option Bool} {dd : Option Addr} {k0 k1 k2 k3 k5 : Option Value}
/-- the bound ValueError.__init__ called -/
theorem call_mw {u e t0 : Addr} {rest : List Value} {Q : Value → Shared → Prop}
    (hC : h.get? C = some (excClassObj nm q C N bs bm hdct sn sub ab col dd k0 k1 k2 k3 k5 "ValueError.__new__")) (he : h.get? e = some (HandSPX.excO C t0)) (hu : h.get? u = some (kxs_mw "ValueError.__init__" e)) (hrest : rest.length ≤ sizeLine)
    (hq : ∀ h' t1, (∀ b o, b ≠ e → h.get? b = some o → h'.get? b = some o) → h'.get? e = some (HandSPX.excO C t1) → Q .none ⟨h', g, d, t, os⟩) :
    wpAny (model prog w) A (call (.ref u) rest) Q E ⟨h, g, d, t, os⟩ := by
  refine wpAny_call (codeAny_of_tree ?_)
  show wpAny _ A.in1 (callAny (.ref u) ⟨rest, []⟩) _ _ _
  simp only [callAny]
  refine wpAny_bind (wpAny_load hu ?_)
  simp only [kxs_mw, show (Value.type "method-wrapper" == Value.type "method" || Value.type "method-wrapper" == Value.type "builtin_function_or_method" || Value.type "method-wrapper" == Value.type "method-wrapper") = true by decide, if_true]
  refine KFB.if_so (by decide) ?_
  refine wpAny_bind (check_bound_init F.excBase_ValueError.toExcCallFacts hC he rfl ?_)
  refine wpAny_bind (wpAny_pure (wpAny_pure ?_))
  refine ⟨Code.quiet_builtin _ (by decide +kernel), codeAny_builtin F.excBase_ValueError.initEntry ?_⟩
  rw [Around.under_plainId F.excBase_ValueError.init.plain _]
  wp_walk
  refine hq _ h.objs.size (fun b o hb ho => ?_) ?_
  · rw [Heap.get?_update_other _ _ (Ne.symm hb)]
    exact Heap.get?_push_of_some _ ho
  · rw [Heap.get?_update_self _ (Heap.get?_push_of_some _ he) rfl]
    rfl
end
/-- super().__init__("..") as a statement of a method of D over ValueError: the object at a stays as it is told -/
theorem sup_init {X : Cx} {pins : List (Addr × Obj)} {σ : L2.St} {H : Hp} {s : Shared} {f cc cda D C a : Addr} {body : List Stmt} {oc ccl cl : Value} {od cdd cld : Option Addr} {osl ccs csl : Array (Option Value)} {fd : FuncData} {ar : Arg} {vs : Array Value} {file txt : Str} {tf : Tok} {cdD : ClassData}
    {j : Nat} {pl : Sem Bool} {p0 p1 p2 p3 pos pos' : Pos} {P : Flow → Shared → Prop}
    (I : Inv X pins σ H s) (hfu : X.env.func = some f) (hco : X.env.code = .ref cda) (hcl : X.env.cells.lookup ("__class__" : Str) = some cc) (hks : X.env.kindOf "super" = some .globalImplicit) (hkc : X.env.kindOf "__class__" = some .free) (hka : X.env.kindOf ar.arg = some .local)
    (hf : X.K.lookup f = some ⟨oc, od, .func fd, osl⟩) (hp : (fd.params.posonlyargs ++ fd.params.args).head? = some ar) (hN : X.N[0]? = some ar.arg) (hσ : σ[0]? = some (some (.ref a)))
    (hcode : X.K.lookup cda = some ⟨ccl, cdd, .fields vs, ccs⟩) (hvs : vs[2]? = some (.str file tf)) (hfile : ((X.prog.main.file : Str) == file) = true)
    (hcell : X.K.lookup cc = some ⟨cl, cld, .cell (some (.ref D)), csl⟩) (hD : PySem.W.clsIn X.K D = some cdD) (hsub : PySem.W.mroIn X.K C (.ref D) = some true) (hsuper : X.mg "super" = none)
    (htop : (X.prog.main.scope.names.lookup ("super" : Str)).isSome = false) (T : OexC X.K C) (ea : H a = some (exo a C none))
    (ho : PySem.W.nsIn X.K PySem.cStatics "thirdparty.any" = some none) (hm : PySem.W.ks_superIn X.K C D "__init__" = some (some (.builtin "ValueError.__init__"))) (hB : PySem.W.subIn X.K (.ref C) (.type "ValueError") = some true)
    (hi : interactive X.env = false) (hs : swapsWith (.Call (.Attribute (.Call (.Name "super" p0) [] [] p1) "__init__" p2) [.Constant (.str txt) j p3] [] pos) none pos'.line X.env = pure false)
    (hev : eval (.Call (.Attribute (.Call (.Name "super" p0) [] [] p1) "__init__" p2) [.Constant (.str txt) j p3] [] pos) X.env = (do
      let ov ← attributeBase (.Call (.Name "super" p0) [] [] p1) "__init__" X.env (eval (.Call (.Name "super" p0) [] [] p1) X.env)
      standAt p2.atName
      let (f, first) ← holding [ov] (getMethod ov "__init__" pl)
      callWith pos f first (backTo pos (starEach [.Constant (.str txt) j p3] X.env)) []))
    (h : ∀ s', Inv X pins σ H s' → P .next s') :
    _root_.PySem.wpAt (model X.prog X.w) X.A (.func body X.env) (exec (.Expr (.Call (.Attribute (.Call (.Name "super" p0) [] [] p1) "__init__" p2) [.Constant (.str txt) j p3] [] pos) pos') X.env) P X.xe s := by
  obtain ⟨nm, q, N, bs, bm, sn, sub, ab, col, dd, k0, k1, k2, k3, k5, hC, hbm⟩ := T.cls
  have KX := I.kIn
  obtain ⟨t1, hx⟩ := exo_at I.hok ea
  have IA : PySem.W.InstAt s.heap a { cls := .ref C, dict := none, data := .fields #[.ref t1, .none, .none, .none, .bool false, .none] } C none := ⟨hx, rfl, rfl, trivial⟩
  obtain ⟨oD, hD1, hD2⟩ : ∃ oD, s.heap.get? D = some oD ∧ oD.data = .cls cdD := by
    unfold PySem.W.clsIn at hD
    split at hD
    · rename_i c d cd' sl hoo
      cases hD
      exact ⟨_, KX _ _ hoo, rfl⟩
    · cases hD
  obtain ⟨m, hn, hlk⟩ := id I.loc
  obtain ⟨u, ru, lk⟩ := hlk 0 ar.arg (.ref a) hN hσ (.inl hka)
  obtain rfl : u = Value.ref a := ru
  have hself : m ar.arg = some (.ref a) := by
    rcases lk with ⟨_, e⟩ | ⟨k, _⟩
    · exact e
    · rcases k with k | k
      · exact absurd (hka.symm.trans k) (by simp)
      · exact absurd (hka.symm.trans k) (by simp)
  refine PySem.ks_wpAt_Expr_any (PySem.ks_wpAt_MethodCall (pl := pl) ?_ hev) hi hs
  obtain ⟨mb, hb1, hb2⟩ := I.mod.blt
  refine PySem.ks_wpAt_super_base hks hkc (by decide +kernel) hfu (KX _ _ hf) rfl hp hco (KX _ _ hcode) rfl hvs hfile htop ?_
  refine PySem.W.ks_loadName_global I.ok.kind hks (Calls.loadGlobal_builtin (by rw [I.ok.glob]; exact I.mod.glob.keeps I.bk) hsuper (by rw [I.ok.blt]; exact hb1.keeps I.bk) ((hb2 _ (by decide +kernel)).trans (by kernel_rfl)) ⟨rfl, ?_⟩)
  refine wpAny_loadName_free I.ok.kind hkc hcl ⟨_, KX _ _ hcell, rfl⟩ ?_
  refine wpAny_loadName_local I.ok.kind hka hn hself ?_
  refine PySem.ks_wpAny_isType_cls hD1 hD2 ⟨rfl, ?_⟩
  obtain ⟨hh, g, d, t, os⟩ := s
  refine PySem.ks_wpAny_call_super hD1 hD2 hx rfl (fun c e => by cases e) (PySem.W.looks_mroIn KX hsub) (fun h1 eso k1' => ?_)
  have J1 : Inv X pins σ H ⟨h1, g, d, t, os⟩ := I.kept (t' := t) (h' := h1) k1'
  have hx1 := k1' _ _ hx
  have IA1 : PySem.W.InstAt h1 a _ C none := ⟨hx1, rfl, rfl, trivial⟩
  cases hcC : PySem.W.clsIn X.K C with
  | none => unfold PySem.W.ks_superIn at hm; rw [hcC] at hm; cases hm
  | some cd =>
    unfold PySem.W.ks_superIn at hm
    rw [hcC] at hm
    refine PySem.W.kxs_getMethod PySem.W.kxs_ValueError eso (PySem.W.looks_opaque J1.kIn ho) (l₀ := cd.mro) (fun A Q E s k q => wpAny_bind ((PySem.W.looks_clsIn J1.kIn hcC) A _ E s k (wpAny_pure q))) rfl J1.kIn hm
      (IA1.type.andThen (PySem.W.looks_subIn J1.kIn hB)) (PySem.W.ks_ne J1.kIn IA1 hcC) (by decide +kernel) ?_
    have k2' : ∀ b o, h1.get? b = some o → (h1.push (PySem.W.kxs_mw "ValueError.__init__" a)).get? b = some o := fun b o e => Heap.get?_push_of_some _ e
    have J2 : Inv X pins σ H ⟨h1.push (PySem.W.kxs_mw "ValueError.__init__" a), g, d, t + 1, os⟩ := J1.kept (t' := t + 1) k2'
    have hu2 : (h1.push (PySem.W.kxs_mw "ValueError.__init__" a)).get? h1.objs.size = some (PySem.W.kxs_mw "ValueError.__init__" a) := Heap.get?_push_at rfl rfl
    refine PySem.W.kxs_callWith (i := "ValueError.__init__") (x := a) (by rfl) (PySem.Calls.evalArgs_plain (Calls.spliced_cons (Calls.Constant_str (k := j) (pos := p3) (Calls.spliced_nil ⟨hu2, ?_⟩))))
    refine call_mw (J2.kIn _ _ hC) (k2' _ _ hx1) hu2 (by show 1 ≤ sizeLine; rw [sizeLine_eq]; omega) fun h3 t3 k3' e3 => ?_
    have J3 := (J2.tok (t + 1 + 1)).write (t' := t + 1 + 1) (x := a) (e := a) (o := exo a C none) (by rw [ea]; exact True.intro) (.inl rfl) k3' ⟨_, e3⟩ (exo_ok e3)
    have eu : upd H a (exo a C none) = H := by
      funext b
      by_cases hb : b = a
      · rw [hb, upd_same, ea]
      · rw [upd_ne hb]
    rw [eu] at J3
    exact h _ J3
/-- the class D's own __init__, read from the text: its first statement is super().__init__("..") -/
theorem fn_sup {CX : CXT} {P : Program} {w : World} {K : PySem.W.Frag} {mg : Str → Option Value} {base : Heap} {k : Nat} {f cc cda D C : Addr} {name qual : Str} {params : Arguments} {rest : List Stmt} {scope : Scope} {dV kV doc pm ct oc ccl cl : Value} {an od cdd cld : Option Addr}
    {osl ccs csl : Array (Option Value)} {N ps : List Str} {sp : Sp} {F : NF} {ar : Arg} {vs0 : Array Value} {file txt : Str} {tf : Tok} {cdD : ClassData} {j : Nat} {p0 p1 p2 p3 pos pos' : Pos}
    (lk : K.lookup f = some ⟨oc, od, .func (PySem.W.ksFn name qual params (.Expr (.Call (.Attribute (.Call (.Name "super" p0) [] [] p1) "__init__" p2) [.Constant (.str txt) j p3] [] pos) pos' :: rest) scope dV kV doc pm an (.ref cda) ct cc), osl⟩)
    (eq : F.qual = qual) (es : F.scope = scope) (ec : F.c = cda) (el : F.cl = [(("__class__" : Str), cc)])
    (hcd : PySem.W.codeIn K (.ref cda) qual = true) (S : NScope N ps [("__class__" : Str)] scope) (len : ∀ vs H Q E, sp vs H Q E → vs.length = ps.length)
    (hp : (params.posonlyargs ++ params.args).head? = some ar) (hN : N[0]? = some ar.arg) (hka : scope.names.lookup ar.arg = some .local) (hks : scope.names.lookup ("super" : Str) = some .globalImplicit)
    (hcode : K.lookup cda = some ⟨ccl, cdd, .fields vs0, ccs⟩) (hvs : vs0[2]? = some (.str file tf)) (hfile : ((P.main.file : Str) == file) = true)
    (hcell : K.lookup cc = some ⟨cl, cld, .cell (some (.ref D)), csl⟩) (hD : PySem.W.clsIn K D = some cdD) (hsub : PySem.W.mroIn K C (.ref D) = some true) (hsuper : mg "super" = none)
    (htop : (P.main.scope.names.lookup ("super" : Str)).isSome = false) (T : OexC K C)
    (ho : PySem.W.nsIn K PySem.cStatics "thirdparty.any" = some none) (hm : PySem.W.ks_superIn K C D "__init__" = some (some (.builtin "ValueError.__init__"))) (hB : PySem.W.subIn K (.ref C) (.type "ValueError") = some true)
    (hi : ∀ L, interactive (envF F f L) = false)
    (hs : ∀ L, swapsWith (.Call (.Attribute (.Call (.Name "super" p0) [] [] p1) "__init__" p2) [.Constant (.str txt) j p3] [] pos) none pos'.line (envF F f L) = pure false)
    {pl : Addr → Sem Bool}
    (hev : ∀ L, eval (.Call (.Attribute (.Call (.Name "super" p0) [] [] p1) "__init__" p2) [.Constant (.str txt) j p3] [] pos) (envF F f L) = (do
      let ov ← attributeBase (.Call (.Name "super" p0) [] [] p1) "__init__" (envF F f L) (eval (.Call (.Name "super" p0) [] [] p1) (envF F f L))
      standAt p2.atName
      let (f', first) ← holding [ov] (getMethod ov "__init__" (pl L))
      callWith pos f' first (backTo pos (starEach [.Constant (.str txt) j p3] (envF F f L))) []))
    (hbody : ∀ (A : Around) (outer : List Env) (s : Shared) (H : Hp) (vs : List V) (Q : VK) (E : XK), Room k (A.deeper (envF F f s.heap.objs.size)) → sp vs H Q E →
      ∃ a vs', vs = .ref a :: vs' ∧ H a = some (exo a C none) ∧ ∃ t, PSs (ncx CX P w K mg base N F f A outer s H E) rest t ∧ t { nx := fun _ H' => Q .non H', rt := Q } (startF N vs [none]) H) :
    FnOk P w K mg base CX (k + 1) f (PySem.W.ksFn name qual params (.Expr (.Call (.Attribute (.Call (.Name "super" p0) [] [] p1) "__init__" p2) [.Constant (.str txt) j p3] [] pos) pos' :: rest) scope dV kV doc pm an (.ref cda) ct cc) ps sp := by
  subst eq
  subst es
  subst ec
  refine ⟨len, fun A outer s H args us vs Q E hr e0 hb r hsp => ?_⟩
  have hl := len _ _ _ _ hsp
  have KX : K.In s.heap := e0.mod.kin.keeps fun b o e => (e0.bs b o e).1
  have lim : s.heap.NoLimit := e0.mod.nolimit.keeps fun b o e => (e0.bs b o e).1
  have CA : CellsAt F.cl [("__class__" : Str)] [none] s.heap H := by
    rw [el]
    have one : ∀ {y : Str} {c : Addr}, List.lookup y [(("__class__" : Str), cc)] = some c → y = "__class__" ∧ c = cc := fun {y c} z => by
      have m := PySem.mem_of_lookup z
      simp at m
      exact m
    exact ⟨rfl, fun y c z => by
        obtain ⟨_, rfl⟩ := one z
        exact ⟨(e0.bs _ _ (e0.mod.kin _ _ hcell)).2, _, _, KX _ _ hcell, rfl⟩,
      fun x y c z1 z2 => (one z1).1.trans (one z2).1.symm,
      fun i y hy => by
        cases i with
        | zero =>
          cases hy
          exact ⟨cc, by rfl, fun v z => by cases z⟩
        | succ i => cases hy⟩
  obtain ⟨a, vs', ev, ea, t, ht, hq⟩ := hbody A outer s H vs Q E (hr.deeper _) hsp
  subst ev
  refine PySem.ks_codeAny_call_defAt (fd := PySem.W.ksFn name F.qual params _ F.scope dV kV doc pm an (.ref F.c) ct cc) (binds := ps.zip us) hr.depth (KX _ _ lk) rfl lim (PySem.W.codeRec_of KX hcd) rfl hb S.nocell (fun ⟨n, _⟩ hy => S.par n (List.of_mem_zip hy).1) (fun h₁ hns kp => ?_) S.co S.gen S.kind
  have I : Inv (ncx CX P w K mg base N F f A outer s H E) [] (startF N (.ref a :: vs') [none]) H { s with heap := h₁, toks := s.toks + (ps.zip us).length } := inv_startN S hr.hd e0 hl r CA hns kp
  have ee : callEnv (PySem.W.ksFn name F.qual params (.Expr (.Call (.Attribute (.Call (.Name "super" p0) [] [] p1) "__init__" p2) [.Constant (.str txt) j p3] [] pos) pos' :: rest) F.scope dV kV doc pm an (.ref F.c) ct cc) s.heap.objs.size f = envF F f s.heap.objs.size := by
    show PySem.W.envX F.qual F.scope s.heap.objs.size f (.ref F.c) [(("__class__" : Str), cc)] = _
    rw [← el]
  rw [ee]
  refine PySem.ks_wpAt_execs_cons ?_
  refine sup_init (X := ncx CX P w K mg base N F f A outer s H E) I rfl rfl (by show F.cl.lookup _ = _; rw [el]; rfl) hks (S.frk _ (List.mem_singleton.mpr rfl)) hka lk hp hN rfl hcode hvs hfile hcell hD hsub hsuper htop T ea ho hm hB (hi _) (hs _) (hev _) fun s2 J => ?_
  refine PySem.wpAt_of_wpAny (wpAny_mono (ht.run [] s2 _ H _ J hq) (fun fl s' hs' => ?_) fun e s' hs' => hs')
  have fin : ∀ {σ' : L2.St} {H' : Hp} {v : V} {u : Value}, Inv (ncx CX P w K mg base N F f A outer s H E) [] σ' H' s' → L2.RelV v u → Q v H' → CE outer P w H s Q u s' :=
    fun {σ' H' v u} J rv q => ⟨v, H', J.os, J.bare, J.base, J.hok, rv, q⟩
  cases fl with
  | ret u =>
    obtain ⟨v, σ', H', J, rv, q⟩ := hs'
    exact fin J rv q
  | next =>
    obtain ⟨σ', H', J, q⟩ := hs'
    exact fin (v := V.non) (u := Value.none) J rfl q
  | brk =>
    obtain ⟨_, _, _, q⟩ := hs'
    exact False.elim q
  | cont =>
    obtain ⟨_, _, _, q⟩ := hs'
    exact False.elim q
end RD

/-! What __init__ of such a class promises: one field, two fields. -/
namespace RD
open PySem PySem.Spec PyProof.Rows L2 NdefX
/-- self, x: self.f = x -/
def spI1 (C : Addr) (f1 : Str) : Sp := fun vs H Q _ => ∃ a y, vs = [.ref a, y] ∧ H a = some (exo a C none) ∧ ∀ dx, H dx = none → dx ≠ a → Q .non (upd (upd H dx (exd dx [(f1, y)])) a (exo a C (some dx)))
/-- self, x, y: self.f = x; self.g = y -/
def spI2 (C : Addr) (f1 f2 : Str) : Sp := fun vs H Q _ => ∃ a y z, vs = [.ref a, y, z] ∧ H a = some (exo a C none) ∧
  ∀ dx, H dx = none → dx ≠ a → Q .non (upd (upd (upd H dx (exd dx [(f1, y)])) a (exo a C (some dx))) dx (exd dx [(f2, z), (f1, y)]))
section
variable {X : Cx} {C : Addr} {f1 f2 n0 n1 n2 : Str} {p1 p2 p3 p4 p5 p6 pos pos2 : Pos}
theorem pss_i1 (h0 : X.N[0]? = some n0) (h1 : X.N[1]? = some n1) (k0 : Vis X.env.scope n0) (k1 : Vis X.env.scope n1) (d0 : (n0 == ("__debug__" : Str)) = false := by decide) (d1 : (n1 == ("__debug__" : Str)) = false := by decide)
    (c0 : (n0 == ("__classdict__" : Str)) = false := by decide) (c1 : (n1 == ("__classdict__" : Str)) = false := by decide)
    (hs : swapsWith (.Name n1 p2) (some (.Attribute (.Name n0 p1) f1 p3)) pos.line X.env = pure false := by rfl) :
    PSs X [.Assign [.Attribute (.Name n0 p1) f1 p3] (.Name n1 p2) pos] (tOst X.K f1 (tVar 0) (tVar 1)) :=
  pss_one (ps_ost (pe_var h0 k0 d0 c0) (pe_var h1 k1 d1 c1) hs)
theorem pss_i2 (h0 : X.N[0]? = some n0) (h1 : X.N[1]? = some n1) (h2 : X.N[2]? = some n2) (k0 : Vis X.env.scope n0) (k1 : Vis X.env.scope n1) (k2 : Vis X.env.scope n2) (d0 : (n0 == ("__debug__" : Str)) = false := by decide) (d1 : (n1 == ("__debug__" : Str)) = false := by decide) (d2 : (n2 == ("__debug__" : Str)) = false := by decide)
    (c0 : (n0 == ("__classdict__" : Str)) = false := by decide) (c1 : (n1 == ("__classdict__" : Str)) = false := by decide) (c2 : (n2 == ("__classdict__" : Str)) = false := by decide)
    (hs : swapsWith (.Name n1 p2) (some (.Attribute (.Name n0 p1) f1 p3)) pos.line X.env = pure false := by rfl) (hs2 : swapsWith (.Name n2 p5) (some (.Attribute (.Name n0 p4) f2 p6)) pos2.line X.env = pure false := by rfl) :
    PSs X [.Assign [.Attribute (.Name n0 p1) f1 p3] (.Name n1 p2) pos, .Assign [.Attribute (.Name n0 p4) f2 p6] (.Name n2 p5) pos2] (tSeq (tOst X.K f1 (tVar 0) (tVar 1)) (tOst X.K f2 (tVar 0) (tVar 2))) :=
  pss_cons (ps_ost (pe_var h0 k0 d0 c0) (pe_var h1 k1 d1 c1) hs) (pss_one (ps_ost (pe_var h0 k0 d0 c0) (pe_var h2 k2 d2 c2) hs2))
end
/-- the body's reading at the entry, one field -/
theorem i1_at {K : PySem.W.Frag} {C a : Addr} {f1 : Str} {N : List Str} {y : V} {H : Hp} {Q : VK} (T : OexC K C) (hf : PySem.W.findIn K (.ref C) f1 = some none) (ea : H a = some (exo a C none))
    (h : ∀ dx, H dx = none → dx ≠ a → Q .non (upd (upd H dx (exd dx [(f1, y)])) a (exo a C (some dx)))) :
    tOst K f1 (tVar 0) (tVar 1) { nx := fun _ H' => Q .non H', rt := Q } (startF N [.ref a, y] [none]) H :=
  ⟨y, rfl, .ref a, rfl, a, C, rfl, T, hf, .inl ⟨ea, fun dx n d => h dx n d⟩⟩
theorem i2_at {K : PySem.W.Frag} {C a : Addr} {f1 f2 : Str} {N : List Str} {y z : V} {H : Hp} {Q : VK} (T : OexC K C) (hf : PySem.W.findIn K (.ref C) f1 = some none) (hg : PySem.W.findIn K (.ref C) f2 = some none) (ea : H a = some (exo a C none))
    (h : ∀ dx, H dx = none → dx ≠ a → Q .non (upd (upd (upd H dx (exd dx [(f1, y)])) a (exo a C (some dx))) dx (exd dx [(f2, z), (f1, y)]))) :
    tSeq (tOst K f1 (tVar 0) (tVar 1)) (tOst K f2 (tVar 0) (tVar 2)) { nx := fun _ H' => Q .non H', rt := Q } (startF N [.ref a, y, z] [none]) H :=
  ⟨y, rfl, .ref a, rfl, a, C, rfl, T, hf, .inl ⟨ea, fun dx n d => ⟨z, rfl, .ref a, rfl, a, C, rfl, T, hg, .inr ⟨dx, [(f1, y)], upd_same, (upd_ne d).trans upd_same, by show 1 ≤ 900; omega, h dx n d⟩⟩⟩⟩
end RD

/-! An own exception class over ValueError made with keywords: C(k = v, ..), C's own __init__ being a def. (The four steps follow HandSPX.check_new_own, new_own, type_call_own, call_own, with keywords beside the places.) -/
namespace RD
open PySem PySem.Spec PySem.HandSPX
section
variable {M : Model} {A : Around} {E : Value → Shared → Prop} {h : Heap} {g : Array GenState} {d : Drawn} {t : Nat} {os : OsState}
variable {nm q : Str} {C N : Addr} {bs bm bmB : List Value} {hdct : Bool} {sn : List Str} {sub : List Value} {ab : Bool} {col : Option Bool} {dd : Option Addr} {k0 k1 k2 k3 k5 : Option Value} {B newId initId : String}
theorem check_new_kw (F : ExcBaseFacts B newId initId bmB) (hT : ∀ X : String, bm.contains (.type X) = bmB.contains (.type X)) {rest : List Value} {kw : List (Str × Value)} {Q : Unit → Shared → Prop}
    (hC : h.get? C = some (excClassObj nm q C N bs bm hdct sn sub ab col dd k0 k1 k2 k3 k5 newId)) (hq : Q () ⟨h, g, d, t, os⟩) : wpAny M A (checkBuiltinCall newId ⟨.ref C :: rest, kw⟩) Q E ⟨h, g, d, t, os⟩ := by
  have hcont : (Value.ref C :: bm).contains (.type B) = true := by rw [List.contains_cons, hT, F.hasB, Bool.or_true]
  have hstar := F.noStar
  simp only [checkBuiltinCall, F.newKind, F.newSplit, F.newRow]
  repeat (first | refine wpAny_loadPart_at hC ?_ | (refine wpAny_isSubtype_exc hC ?_; rw [hcont]) | refine wpAny_staticBase_exc hC ?_ | refine wpAny_madeBy_exc hC ?_ | simp only [bne_self_eq_false, Bool.false_eq_true, if_false] | wp_step)
  exact hq
theorem check_tc_kw {rest : List Value} {kw : List (Str × Value)} {newId : String} {Q : Unit → Shared → Prop} (hC : h.get? C = some (excClassObj nm q C N bs bm hdct sn sub ab col dd k0 k1 k2 k3 k5 newId))
    (hq : Q () ⟨h, g, d, t, os⟩) : wpAny M A (checkBuiltinCall "type.__call__" ⟨.ref C :: rest, kw⟩) Q E ⟨h, g, d, t, os⟩ := by
  have f3 := tc_sub
  have hT : (⟨h, g, d, t, os⟩ : Shared).TypeIs (.ref C) "type" := ⟨_, hC, rfl⟩
  simp only [checkBuiltinCall, tc_kind, tc_split]
  repeat (any_goals (first | assumption | with_reducible refine wpAny_loadPart_at hC ?_ | with_reducible refine wpAny_onRaise ?_ | with_reducible refine wpAny_map ?_ | wp_step))
end
section
variable {prog : Program} {w : World} {A : Around} {E : Value → Shared → Prop} {R : Result → Shared → Prop} {h : Heap} {g : Array GenState} {d : Drawn} {t : Nat} {os : OsState}
variable {nm q : Str} {C N : Addr} {bs bm bmB : List Value} {hdct : Bool} {sn : List Str} {sub : List Value} {ab : Bool} {col : Option Bool} {dd : Option Addr} {k0 k1 k2 k3 k5 : Option Value} {B newId initId : String}
theorem new_kw (F : ExcBaseFacts B newId initId bmB) (hT : ∀ X : String, bm.contains (.type X) = bmB.contains (.type X)) {rest : List Value} {kw : List (Str × Value)}
    (hC : h.get? C = some (excClassObj nm q C N bs bm hdct sn sub ab col dd k0 k1 k2 k3 k5 newId))
    (hq : R (.ok (.ret (.ref (h.objs.size + 1)))) ⟨(h.push { cls := .type "tuple", data := .seq rest.toArray }).push
      { cls := .ref C, data := .fields #[.ref h.objs.size, .none, .none, .none, .bool false, .none] }, g, d, t, os⟩) (hrest : rest.length ≤ sizeLine) :
    codeAny (model prog w) A (.builtin newId ⟨.ref C :: rest, kw⟩) R ⟨h, g, d, t, os⟩ := by
  have hends := F.ends
  have hcB : (Value.ref C :: bm).contains (.type B) = true := by rw [List.contains_cons, hT, F.hasB, Bool.or_true]
  have hcA : (Value.ref C :: bm).contains (.type "AttributeError") = false := by rw [List.contains_cons, hT, F.noAttr]; rfl
  have hcN : (Value.ref C :: bm).contains (.type "NameError") = false := by rw [List.contains_cons, hT, F.noName]; rfl
  refine codeAny_builtinAt F.entry ?_
  unfold Builtin.«BaseException.__new__»
  refine wpAt_bind ?_
  show wpAt _ _ _ (stack >>= _) _ _ _
  refine wpAt_bind (wpAt_stack fun p below => wpAt_of_wpAny ?_)
  wp_walk
  refine wpAt_of_wpAny ?_
  rw [F.owner]
  repeat (first | with_reducible refine wpAny_madeHere_exc F.canon hC ?_ | with_reducible refine wpAny_loadPart_at hC ?_ | (with_reducible refine wpAny_isSubtype_exc hC ?_; first | rw [hcB] | rw [hcA] | rw [hcN]) | wp_step)
  show R _ _
  rw [Heap.size_push]
  exact hq
theorem type_call_kw (F : ExcBaseFacts B newId initId bmB) (hT : ∀ X : String, bm.contains (.type X) = bmB.contains (.type X)) {rest : List Value} {kw : List (Str × Value)} {fI : Addr} {Q : Fin → Shared → Prop}
    (hC : h.get? C = some (excClassObj nm q C N bs bm hdct sn sub ab col dd k0 k1 k2 k3 k5 newId))
    (hi : W.Looks (model prog w) h (typeLookup (.ref C) "__init__") (some (.ref fI))) (hb : ∀ self, W.Looks (model prog w) h (bindSpecial (.ref fI) self) (.ref fI, [self])) (hrest : rest.length ≤ sizeLine)
    (hq : codeAny (model prog w) A (.call (.ref fI) ⟨.ref (h.objs.size + 1) :: rest, kw⟩)
      (fun r s' => match r with | .ok (.ret v) => v = .none ∧ Q (.done (.ret (.ref (h.objs.size + 1)))) s' | .ok _ => False | .error e => E e s')
      ⟨(h.push (W.kdv_tup rest)).push (excO C h.objs.size), g, d, t, os⟩) :
    wpAny (model prog w) A (Builtin.«type.__call__» ⟨.ref C :: rest, kw⟩) Q E ⟨h, g, d, t, os⟩ := by
  repeat (first | with_reducible refine wpAny_loadPart_at hC ?_ | with_reducible refine wpAny_madeBy_exc hC ?_ | wp_step)
  refine codeAny_call_builtin_code (Code.quiet_builtin _ F.quiet) (check_new_kw F hT hC ?_)
  refine new_kw F hT hC ?_ hrest
  show wpAny _ _ _ _ _ _
  have k : ∀ b o, h.get? b = some o → ((h.push (W.kdv_tup rest)).push (excO C h.objs.size)).get? b = some o := fun b o e => Heap.get?_push_of_some _ (Heap.get?_push_of_some _ e)
  have hC₁ := k _ _ hC
  have hget : ((h.push (W.kdv_tup rest)).push (excO C h.objs.size)).get? (h.objs.size + 1) = some (excO C h.objs.size) := by heap_get
  have hcC : (Value.ref C :: bm).contains (.ref C) = true := by simp
  have i1 := hi.keeps k
  have b1 := (hb (.ref (h.objs.size + 1))).keeps k
  unfold isInstance
  repeat (first | with_reducible refine wpAny_loadPart_at hget ?_ | (with_reducible refine wpAny_isSubtype_exc hC₁ ?_; rw [hcC]) | wp_step)
  show wpAny _ _ (typeLookup (.ref C) _) _ _ _
  refine i1.at ?_
  refine wpAny_holding (wpAny_bind (b1.at ?_))
  refine wpAny_bind (wpAny_call (codeAny_mono hq fun r s' z => ?_))
  rcases r with e | (v | _ | _ | _) <;> first | exact z | exact z.elim | skip
  obtain ⟨rfl, z⟩ := z
  first
    | exact wpAny_pure (wpAny_pure z)
    | (wp_walk; exact z)
theorem call_kw (F : ExcBaseFacts B newId initId bmB) (hT : ∀ X : String, bm.contains (.type X) = bmB.contains (.type X)) {rest : List Value} {kw : List (Str × Value)} {fI : Addr}
    (hC : h.get? C = some (excClassObj nm q C N bs bm hdct sn sub ab col dd k0 k1 k2 k3 k5 newId))
    (hi : W.Looks (model prog w) h (typeLookup (.ref C) "__init__") (some (.ref fI))) (hb : ∀ self, W.Looks (model prog w) h (bindSpecial (.ref fI) self) (.ref fI, [self])) (hrest : rest.length ≤ sizeLine)
    (hq : codeAny (model prog w) (A.under (.builtin "type.__call__" ⟨.ref C :: rest, kw⟩)) (.call (.ref fI) ⟨.ref (h.objs.size + 1) :: rest, kw⟩) (W.InitBack (h.objs.size + 1) R)
      ⟨(h.push (W.kdv_tup rest)).push (excO C h.objs.size), g, d, t, os⟩) :
    codeAny (model prog w) A (.call (.ref C) ⟨rest, kw⟩) R ⟨h, g, d, t, os⟩ := by
  have f1 := tc_lookup
  have f2 := tc_bind (.ref C)
  have hTy : (⟨h, g, d, t, os⟩ : Shared).TypeIs (.ref C) "type" := ⟨_, hC, rfl⟩
  refine codeAny_of_tree ?_
  show wpAny _ _ (callAny (.ref C) _) _ _ _
  repeat (any_goals (first | assumption | with_reducible refine wpAny_loadPart_at hC ?_ | wp_step))
  refine ⟨rfl, ?_⟩
  refine codeAny_call_builtin_at (Code.quiet_builtin _ (by decide +kernel)) entry_typeCall (check_tc_kw hC (type_call_kw F hT hC hi hb hrest ?_))
  refine codeAny_mono hq fun r s' z => ?_
  rcases r with e | (v | _ | _ | _) <;> exact z
end
end RD

/-! C(k = v, ..) behind raise: an own exception over ValueError made by keywords alone. -/
namespace RD
open PySem PySem.Spec PyProof.Rows L2
def tMkOK (C : Addr) (sp : Sp) (gV : List V → List V → List V) (n : Nat) (tk : TA) : L2.St → Hp → XK → Prop := fun σ H Q => tk σ H fun zs H1 => zs.length = n ∧ ∀ a, H1 a = none → sp (gV [.ref a] zs) (upd H1 a (exo a C none))
  (fun v H2 => v = .non ∧ ∃ (d : Addr) (fs : List (Str × V)), H2 a = some (exo a C (some d)) ∧ H2 d = some (exd d fs) ∧ H1 d = none ∧ Q (.ref C) (some d) (upd (L2.del H2 a) d (.xd fs))) (fun _ _ _ => False)
section
variable {X : Cx} {kws : List Keyword} {tk : TA} {p pos : Pos}
theorem pmk_oexK {CX : CXT} {x : Str} {C fI : Addr} {k : Nat} {fd : FuncData} {ps ks : List Str} {sp : Sp} {g : List Value → List Value → List Value} {gV : List V → List V → List V} (T : OexC X.K C) (iC : PySem.W.findIn X.K (.ref C) "__init__" = some (some (.ref fI)))
    (tI : PySem.W.typeIn X.K (.ref fI) = some (.type "function")) (F1 : FnOk X.prog X.w X.K X.mg X.base CX k fI fd ps sp) (hr : Room (k + 1) X.A) (hb : KBn X.K fd ps 1 ks g gV) (hx : Passes CX X (fun _ _ _ => False)) (hg : Gl X x) (hm : X.mg x = some (.ref C)) (hkw : PK X kws tk)
    (hall : (backToKw pos (keywordEach kws X.env)).all (·.1.isSome) = true := by rfl) (hks : (backToKw pos (keywordEach kws X.env)).filterMap (·.1) = ks := by rfl) (hdb : (x == ("__debug__" : Str)) = false := by decide)
    (hpl : ((backTo pos (starEach [] X.env)).any (·.1) || (backToKw pos (keywordEach kws X.env)).any (·.1.isNone)) = false := by rfl) :
    PMk X (.Call (.Name x p) [] kws pos) (tMkOK C sp gV ks.length tk) := by
  intro pins s σ H Q I h
  obtain ⟨nm, q, N, bs, bm, sn, sub, ab, col, dd, k0, k1, k2, k3, k5, hC, hbm⟩ := T.cls
  refine wpAny_Call_Name_kw (ld_glob I hg hm ?_ hdb)
  refine PySem.W.callWith_KW0 (h₀ := X.base) I.ok.mod.kin T.kC hall ?_ hpl
  refine thn (hkw.run pos pins s σ H _ I h) fun ws s1 ⟨zs, H1, I1, rz, hz, q1⟩ => ⟨I1.kIn, ?_⟩
  rw [hks]
  show wpAny _ _ (call (.ref C) [] (ks.zip ws)) _ _ _
  obtain ⟨hp, g0, dr, tk0, os⟩ := s1
  have hsz : hp.objs.size ≤ hp.objs.size + 1 := Nat.le_succ _
  have hn : H1 (hp.objs.size + 1) = none := I1.hok.fresh hsz
  have hq := q1 (hp.objs.size + 1) hn
  have kk : ∀ b o, hp.get? b = some o → ((hp.push (PySem.W.kdv_tup [])).push (PySem.HandSPX.excO C hp.objs.size)).get? b = some o := fun b o e => Heap.get?_push_of_some _ (Heap.get?_push_of_some _ e)
  have hget : ((hp.push (PySem.W.kdv_tup [])).push (PySem.HandSPX.excO C hp.objs.size)).get? (hp.objs.size + 1) = some (PySem.HandSPX.excO C hp.objs.size) := by heap_get
  have I2 : Inv X pins σ (upd H1 (hp.objs.size + 1) (exo (hp.objs.size + 1) C none)) ⟨(hp.push (PySem.W.kdv_tup [])).push (PySem.HandSPX.excO C hp.objs.size), g0, dr, tk0, os⟩ :=
    I1.laid (t' := tk0) (a := hp.objs.size + 1) (o := exo (hp.objs.size + 1) C none) (h' := (hp.push (PySem.W.kdv_tup [])).push (PySem.HandSPX.excO C hp.objs.size)) kk hsz (exo_ok hget)
  have r1 : Vals [V.ref (hp.objs.size + 1)] [Value.ref (hp.objs.size + 1)] := .cons rfl .nil
  have r2 := hb.rel r1 rz
  refine wpAny_call (call_kw F.excBase_ValueError (fun Y => PySem.HandSPX.refsVE_contains Y bm hbm) (I1.kIn _ _ hC) (PySem.W.looks_findIn I1.kIn iC) (fun self => PySem.W.bind_fn I1.kIn self tI) (Nat.zero_le _)
    (codeAny_mono (F1.run _ X.stack _ _ ⟨[Value.ref (hp.objs.size + 1)], ks.zip ws⟩ (g [Value.ref (hp.objs.size + 1)] ws) _ _ (fun _ _ _ => False) (hr.make C [] (ks.zip ws)) (I2.env0.make C [] (ks.zip ws)) (hb.to _ [Value.ref (hp.objs.size + 1)] ws I2.kIn rfl (rz.length.symm.trans hz)) r2 hq) fun r s' hq' => ?_))
  cases r with
  | error er => exact hx pins σ _ _ er s' I2 hq'
  | ok fl =>
    cases fl with
    | ret u =>
      obtain ⟨v, H2, os2, bare2, un2, hok2, rv, ev, d, fs, ea, ed, hd1, q2⟩ := hq'
      subst ev
      obtain ⟨h2, g2, d2, t2, os'⟩ := s'
      exact ⟨rv, mk_end (raises_own T.exC T.tyC) I1 hsz kk un2 hok2 os2 bare2 ea ed hd1 q2⟩
    | next => exact False.elim hq'
    | brk => exact False.elim hq'
    | cont => exact False.elim hq'
end
end RD

/-! A caught exception kept behind its except suite: an object that is in the heap, new since the entry, is tracked from now on. -/
namespace RD
open PySem PySem.Spec PyProof.Rows L2
/-- an exception object of the class cls with the dict d -/
def ExK (cls : Value) (d : Option Addr) (a : Addr) : HO := .ext fun h => ∃ (oe : Obj) (vs : Array Value), h.get? a = some oe ∧ Zc cls d oe ∧ oe.data = .fields vs
theorem exK_ok {P : Program} {w : World} {H : Hp} {h : Heap} {a : Addr} {cls : Value} {d : Option Addr} {oe : Obj} {vs : Array Value} (e : h.get? a = some oe) (z : Zc cls d oe) (hd : oe.data = .fields vs) : ObjOk P w H h a (ExK cls d a) :=
  ⟨⟨oe, vs, e, z, hd⟩, ⟨oe, e⟩, fun _ _ ⟨o, v, q, r⟩ k => ⟨o, v, k o q, r⟩⟩
theorem exK_at {P : Program} {w : World} {H : Hp} {h : Heap} {a : Addr} {cls : Value} {d : Option Addr} (hok : HOk P w H h) (e : H a = some (ExK cls d a)) : ∃ (oe : Obj) (vs : Array Value), h.get? a = some oe ∧ Zc cls d oe ∧ oe.data = .fields vs := by
  have x : ObjOk P w H h a (.ext fun h => ∃ (oe : Obj) (vs : Array Value), h.get? a = some oe ∧ Zc cls d oe ∧ oe.data = .fields vs) := hok a _ e
  exact x.1
section
variable {X : Cx} {pins : List (Addr × Obj)} {σ : L2.St} {H : Hp} {s : Shared} {a : Addr} {o : HO}
theorem inv_track (I : Inv X pins σ H s) (ha : H a = none) (h0 : X.s_0.heap.get? a = none) (hL : a ≠ X.env.locals) (hc : ∀ x c, X.env.cells.lookup x = some c → c ≠ a) (hp : ∀ p ∈ X.pn ++ pins, p.1 ≠ a) (new : ObjOk X.prog X.w (upd H a o) s.heap a o) :
    Inv X pins σ (upd H a o) s := by
  refine ⟨I.ok, I.os, I.bare, ⟨I.base.keep, I.base.slot, fun b u e n hx => ?_, I.base.there, fun b xs e => ?_, fun b u v e => ?_, fun b ps e => ?_⟩, I.loc, I.cell, ?_, fun x c e => ?_, fun p hp' => ?_, fun b u e => ?_, I.len⟩
  · rw [upd_ne (fun z => by rw [z, h0] at e; cases e)]
    exact I.base.free b u e n hx
  · have q := I.base.tups b xs e
    rw [upd_ne (ne_of_none q ha)]
    exact q
  · have q := I.base.frzs b u v e
    rw [upd_ne (ne_of_none q ha)]
    exact q
  · obtain ⟨m, q⟩ := I.base.tbls b ps e
    exact ⟨m, by rw [upd_ne (ne_of_none q ha)]; exact q⟩
  · rw [upd_ne (Ne.symm hL)]
    exact I.free
  · rw [upd_ne (hc x c e)]
    exact I.freeC x c e
  · obtain ⟨e, n, r⟩ := I.pin p hp'
    exact ⟨e, by rw [upd_ne (hp p hp')]; exact n, r⟩
  · by_cases hb : b = a
    · subst hb
      rw [upd_same] at e
      cases e
      exact new
    · rw [upd_ne hb] at e
      exact (I.hok b u e).stay (fun c v _ q => q) (fun c q => by rw [upd_ne (ne_of_none q ha)]; exact q) fun c xs q => by rw [upd_ne (ne_of_none q ha)]; exact q
end
/-- what the clause 'except x as n' wishes of an exception of the body, where the exception is tracked from the suite's end on -/
def wKeep (K : PySem.W.Frag) (c : Value) (i : Nat) (ts : Addr → Value → Option Addr → TS) (Wout : WX) (D : Ends) : WX := fun cls d σ H =>
  ∃ b, PySem.W.exmOne K cls c = some b ∧ (b = true → ∀ a, H a = none → ts a cls d { nx := fun σ' H' => D.nx (σ'.set i none) (upd H' a (ExK cls d a)), rt := fun v H' => D.rt v (upd H' a (ExK cls d a)), bk := fun σ' H' => D.bk (σ'.set i none) (upd H' a (ExK cls d a)), ct := fun σ' H' => D.ct (σ'.set i none) (upd H' a (ExK cls d a)) } (σ.set i (some (.ref a))) H) ∧
    (b = false → Wout cls d σ H)
section
variable {X : Cx} {x n : Str} {c : Value} {i : Nat} {body suite : List Stmt} {b₀ : Stmt} {np pos pos' : Pos} {tb : WX → TS} {ts : Addr → Value → Option Addr → TS} {Wout : WX}
theorem ps_try_keep (hx0 : X.ex = []) (hs : X.stack = X.env :: X.outer) (hf : X.env.frame = some X.env.locals) (hN : X.N.Nodup) (hi : X.N[i]? = some n) (hln : X.env.kindOf n = some .local) (hc : Names X x c) (tk : Takes X Wout)
    (hb : ∀ (W : WX) (pn : List (Addr × Obj)) (xe : Value → Shared → Prop), Takes (X.tr pn xe) W → PassesOwn (model X.prog X.w) X.A X.env xe → PSs (X.tr pn xe) body (tb W))
    (hsu : ∀ (a : Addr) (oe : Obj) (cls : Value) (d : Option Addr) (pn : List (Addr × Obj)), Zc cls d oe → (∃ vs, oe.data = .fields vs) → PSs (X.suite a ((a, oe) :: pn)) (b₀ :: suite) (ts a cls d)) :
    PS X (.Try body [.ExceptHandler (some (.Name x np)) (some n) (b₀ :: suite) pos'] [] [] pos) (fun D σ H => tb (wKeep X.K c i ts Wout D) D σ H) := by
  refine ⟨fun pins s σ H D I h => ?_⟩
  have ok := I.ok
  have hfr : X.A.frames = some (X.env :: X.outer) := by rw [ok.frames, hs]
  have hloc : Loc X.env.scope n := .inl hln
  refine wpAny_Try_except ?_
  refine wpAny_mono ((hb (wKeep X.K c i ts Wout D) (X.pn ++ pins) (fun e s₁ => wpAny (model X.prog X.w) X.A (noteFrame e X.env) (fun _ s₂ => wpAny (model X.prog X.w) X.A (setFlight e none) (fun _ s₃ =>
    wpAny (model X.prog X.w) X.A (handleBy e X.env [.ExceptHandler (some (.Name x np)) (some n) (b₀ :: suite) pos']) (SP X pins D) X.xe s₃) X.xe s₂) X.xe s₁) (fun u s' xx => ?_) PassesOwn.looking).run [] s σ H D (I.toTry _) h) (fun f s1 hsp => ?_) (fun e s1 he => he)
  · -- the catch
    obtain ⟨a, B, sI, pins', σ', H', cls, d, rfl, J', nb, up, sky, na, os, ag, b, hb1, hyes, hno⟩ := xx
    have J : Inv X pins σ' H' sI := J'.ofTry ok
    have sky' : Sky B (X.env :: X.outer) a (Zc cls d) X.env.locals s'.heap := by rw [← hs]; exact sky
    show wpAny (model X.prog X.w) X.A (noteFrame (.ref a) X.env) _ _ _
    refine Sky.land Zc.steady hfr hf sky' fun h3 fl3 up3 => ?_
    have J3 : Inv X pins σ' H' { s' with heap := h3 } := J.landed nb fl3.1 (up.trans up3) os ag
    obtain ⟨oe3, vs3, he3, hz3, hd3⟩ := fl3.there
    have notFr : ∀ {h : Heap} {o : Obj} {vs : Array Value}, h.FunFrames B (X.env :: X.outer) → h.get? a = some o → o.data = .fields vs → a ∉ frs (X.env :: X.outer) := fun {h o vs} ff e dd hm => by
      obtain ⟨_, o', e', hnf⟩ := ff.mem hm
      rw [e] at e'; cases e'
      exact hnf _ dd
    have nfr := notFr fl3.2.2.1 he3 hd3
    have nL : a ≠ X.env.locals := fun z => nfr (List.mem_filterMap.mpr ⟨X.env, List.mem_cons_self, by rw [hf, z]⟩)
    have nF : a ∉ X.fs := fun hm => by
      obtain ⟨e, he, q⟩ := List.mem_filterMap.mp hm
      exact nfr (List.mem_filterMap.mpr ⟨e, List.mem_cons_of_mem _ he, q⟩)
    have S3 := J3.suite he3 hd3 na nL nF
    have Ba : B.get? a = none := by
      obtain ⟨_, z, _⟩ := id fl3
      exact z
    have nfs : a ∉ frs X.stack := by rw [hs]; exact nfr
    have ne : ∀ b o, sI.heap.get? b = some o → b ≠ a := fun b o e z => by
      have q := nb b o e (by rw [z]; exact nfs)
      rw [z, Ba] at q
      cases q
    have h0 : X.s_0.heap.get? a = none := by
      cases e : X.s_0.heap.get? a with
      | none => rfl
      | some o =>
        obtain ⟨o', z⟩ := J.base.there a o e (by rw [hx0]; exact fun z => nomatch z)
        exact absurd rfl (ne a o' z)
    have cn : ∀ x c, X.env.cells.lookup x = some c → c ≠ a := fun x c e => by
      obtain ⟨v, o, q, _⟩ := J.cell x c e
      exact ne c o q
    have pn' : ∀ p ∈ X.pn ++ pins, p.1 ≠ a := fun p hp => ne p.1 p.2 (J.pin p hp).1
    refine wpAny_handleBy_cons (codeAny_handlers_test ?_) (by intro q; cases q)
    have LT : PySem.W.Looks (model X.prog X.w) h3 (typeOf (.ref a)) cls := fun A Q E s k q => wpAny_typeOf_ref (k _ _ he3) (by rw [hz3.1]; exact q)
    have LM := PySem.W.exm_one (M := model X.prog X.w) (J3.kIn) LT hb1
    have test : ∀ {Q : Value → Shared → Prop} {E : Value → Shared → Prop}, Q c { s' with heap := h3 } → wpAny (model X.prog X.w) (X.A.mark (some (.ref a))) (eval (.Name x np) X.env) Q E { s' with heap := h3 } := fun {Q E} q => by
      obtain ⟨hg, hdbg, hm | ⟨hm, hv, hnn⟩⟩ := hc
      · exact ld_glob (X := X.suite a ((a, oe3) :: (X.pn ++ pins))) S3 hg hm q hdbg
      · exact ld_blt (X := X.suite a ((a, oe3) :: (X.pn ++ pins))) S3 hg hm hv q hnn hdbg
    refine test (LM.here ?_)
    cases b with
    | true =>
      refine codeAny_handlers_suite_as ?_
      refine HandSPX.lands_againZ fl3 fun h4 fl4 up4 => ?_
      have J4 : Inv X pins σ' H' { s' with heap := h4 } := J.landed nb fl4.1 ((up.trans up3).trans up4) os ag
      obtain ⟨oe4, vs4, he4, hz4, hd4⟩ := fl4.there
      have S4 := J4.suite he4 hd4 na nL nF
      refine store_ok (X := X.suite a ((a, oe4) :: (X.pn ++ pins))) (v := .ref a) S4 hN hi hloc rfl (fun s5 S5 => ?_) (.inr hln)
      refine wpAny_mono ((hsu a oe4 cls d (X.pn ++ pins) hz4 ⟨_, hd4⟩).run [] s5 _ H' _ S5 (hyes rfl a na)) (fun f s6 hsp => ?_) (fun _ _ z => False.elim z)
      have end_ : ∀ {σ6 : L2.St} {H6 : Hp} {Q : Shared → Prop}, Inv (X.suite a ((a, oe4) :: (X.pn ++ pins))) [] σ6 H6 s6 → (∀ s7, Inv X pins (σ6.set i none) (upd H6 a (ExK cls d a)) s7 → Q s7) →
          wpAny (model X.prog X.w) X.A (do bindName X.env n .none; unbindBehindTheSuite X.env n pos') (fun _ s7 => Q s7) X.xe s6 := fun {σ6 H6 Q} S6 hq => by
        obtain ⟨hg6, hn6, _⟩ := S6.pin (a, oe4) (List.mem_append_left _ List.mem_cons_self)
        exact gone_ok (inv_track (S6.unsuite ok) hn6 h0 nL cn pn' (exK_ok hg6 hz4 hd4)) hN hi hln hq
      cases f with
      | next =>
        obtain ⟨σ6, H6, S6, q6⟩ := hsp
        exact end_ S6 fun s7 J7 => ⟨_, _, J7, q6⟩
      | brk =>
        obtain ⟨σ6, H6, S6, q6⟩ := hsp
        exact end_ S6 fun s7 J7 => ⟨_, _, J7, q6⟩
      | cont =>
        obtain ⟨σ6, H6, S6, q6⟩ := hsp
        exact end_ S6 fun s7 J7 => ⟨_, _, J7, q6⟩
      | ret u =>
        obtain ⟨v6, σ6, H6, S6, r6, q6⟩ := hsp
        exact end_ S6 fun s7 J7 => ⟨_, _, _, J7, r6, q6⟩
    | false =>
      show wpAny _ X.A (handleBy (.ref a) X.env []) _ _ _
      refine wpAny_handleBy_nil ?_
      obtain ⟨k1, k2, k3, oe, vs, T, oT, ts', he, hz, hd, h1, hr⟩ := id fl3
      unfold PySem.passOn
      refine wpAny_bind (wpAny_field he hd h1 ?_)
      rw [if_neg (show ¬ ((Value.ref T == Value.none) = true) from by simp)]
      have fin : wpAny (model X.prog X.w) X.A (setFlight (.ref a) X.env.frame) (fun _ s4 => wpAny (model X.prog X.w) X.A (throw (.ref a) : Sem Flow) (SP X pins D) X.xe s4) X.xe { s' with heap := h3 } := by
        rw [hf]
        refine HandSPX.setFlight_upZ fl3 fun h4 hh4 up4 => wpAny_throw (tk _ _ ?_)
        exact ⟨a, B, sI, pins, σ', H', cls, d, rfl, J, nb, (up.trans up3).trans up4, .inr (.inr (by rw [hs]; exact hh4)), na, os, ag, hno rfl⟩
      first
        | exact wpAny_bind (wpAny_pure (wpAny_bind fin))
        | exact wpAny_bind fin
  · cases f with
    | next =>
      obtain ⟨σ', H', J', q⟩ := hsp
      exact wpAny_execs_nil ⟨σ', H', J'.ofTry ok, q⟩
    | brk =>
      obtain ⟨σ', H', J', q⟩ := hsp
      exact ⟨σ', H', J'.ofTry ok, q⟩
    | cont =>
      obtain ⟨σ', H', J', q⟩ := hsp
      exact ⟨σ', H', J'.ofTry ok, q⟩
    | ret u =>
      obtain ⟨v, σ', H', J', r, q⟩ := hsp
      exact ⟨v, σ', H', J'.ofTry ok, r, q⟩
end
end RD

/-! e.f of a kept exception. -/
namespace RD
open PySem PySem.Spec PyProof.Rows L2
/-- the reading: a tracked exception of the class at C, its dict at dd -/
def tXk (C : Addr) (f : Str) (te : TE) : TE := fun σ H Q => te σ H fun x H1 => ∃ (a dd : Addr) (fs : List (Str × V)) (v : V), x = .ref a ∧ H1 a = some (ExK (.ref C) (some dd) a) ∧ H1 dd = some (.xd fs) ∧ fs.lookup f = some v ∧ Q v H1
theorem pe_xk {X : Cx} {C : Addr} {e : Expr} {te : TE} {pos : Pos} {n : Str} (T : XfC X.K C) (hno : PySem.W.findIn X.K (.ref C) n = some none) (he : PE X e te) (hb : attributeBase e n X.env (eval e X.env) = eval e X.env := by rfl) :
    PE X (.Attribute e n pos) (tXk C n te) := by
  refine ⟨fun pins s σ H Q I h => ?_⟩
  refine attr_of hb (thn (he.run pins s σ H _ I h) fun u s1 hh => ?_)
  obtain ⟨x, H1, I1, rx, a, dd, fs, v, ex, ha, ea, l, q⟩ := hh
  subst ex
  obtain rfl : u = Value.ref a := rx
  obtain ⟨oe, vs, hget, hz, hd⟩ := exK_at I1.hok ha
  have hx : ObjOk X.prog X.w H1 s1.heap dd (.xd fs) := I1.hok dd _ ea
  obtain ⟨mA, hns, hr⟩ := hx
  obtain ⟨od, ho, hl⟩ := lookIn_ns hns
  obtain ⟨u, hu, ru⟩ := RelO.some_of (v := v) (o := mA n) (by rw [← l]; exact hr n)
  have J : PySem.W.InstAt s1.heap a oe C (some od) := ⟨hget, hz.1, by unfold PySem.W.notCls; rw [hd] <;> rfl, by rw [hz.2]; exact ho⟩
  exact HandSPX.exc_get I1.kIn J T.ga T.gg T.exC (PySem.W.findObj_own T.hdC hno rfl (by rw [hl, hu])) (handed_of ru) ⟨v, H1, I1.tok _, ru, q⟩
end RD

/-! isinstance of a kept exception that has fields. -/
namespace RD
open PySem PySem.Spec PyProof.Rows L2
/-- isinstance(e, c), e a tracked exception of the class at D with a dict -/
def rIsK (K : PySem.W.Frag) (D : Addr) : List V → Hp → VK → Prop := fun xs H Q => ∃ (a dd : Addr) (fs : List (Str × V)) (c : V) (cv : Value) (b : Bool), xs = [.ref a, c] ∧ H a = some (ExK (.ref D) (some dd) a) ∧ H dd = some (.xd fs) ∧ (∀ u, RelV c u → u = cv) ∧ PySem.W.kitOne K (.ref D) cv = some b ∧ Q (.bl b) H
theorem call_isK {X : Cx} {D : Addr} (C : ExcC X.K D) : CallR X (.builtin "isinstance") (rIsK X.K D) := by
  intro pins s σ H xs us Q I r h
  obtain ⟨a, dd, fs, c, cv, b, rfl, ea, ed, hcv, e, q⟩ := h
  cases r with
  | cons rx rr =>
    cases rr with
    | cons rt rr =>
      cases rr
      cases rx
      have ec := hcv _ rt
      subst ec
      obtain ⟨oe, vs, hget, hz, hv⟩ := exK_at I.hok ea
      have hx : ObjOk X.prog X.w H s.heap dd (.xd fs) := I.hok dd _ ed
      obtain ⟨mA, hns, hr⟩ := hx
      obtain ⟨od, ho, hl⟩ := lookIn_ns hns
      have J : PySem.W.InstAt s.heap a oe D (some od) := ⟨hget, hz.1, by unfold PySem.W.notCls; rw [hv] <;> rfl, by rw [hz.2]; exact ho⟩
      obtain ⟨cd, hc, _⟩ := PySem.W.any_some C.hd
      exact PySem.W.kia_one (PySem.W.kitx_exc (by rw [hc]; rfl) C.hg C.hk C.hs C.ha C.hn C.ht C.hm) I.kIn J e (fun z => nomatch z) fun tk => ⟨.bl b, H, I.kept (t' := tk) fun _ _ z => z, rfl, q⟩
end RD

/-! EV0: a small language, told as plain data: what a def's body comes to. No program in sight. -/
namespace EV
/-- data; cel i: the changing thing number i -/
inductive D where
  | non | bl (b : Bool) | int (i : Int) | str (x : List Nat)
  | lst (xs : List D) | tup (xs : List D) | dct (kvs : List (D × D))
  | obj (c : Nat) (fs : List (Nat × D))
  | cel (i : Nat)
  deriving Inhabited
/-- what changes: a list, a dict, an instance, a kept exception, a pen with so many draws made -/
inductive Cell where
  | lst (xs : List D) | dct (kvs : List (D × D)) | ins (c : Nat) (fs : List (Nat × D)) | exc (c : Nat) (fs : List (Nat × D)) | pen (k : Nat)
  deriving Inhabited
/-- cells; mw: the least one that was written with something that names a cell, of those below fb; lk: locked ones -/
structure S where
  cells : List Cell
  mw : Nat
  fb : Nat
  lk : List Nat
abbrev Rho := List (Option D)
inductive Out where
  | v (d : D) | nx (r : Rho) | bk (r : Rho) | ct (r : Rho) | ds (xs : List D)
/-- what comes of a run: an end, an exception, no word, a number drawn -/
inductive T where
  | ok (o : Out) (s : S)
  | ex (c : Nat) (fs : List (Nat × D)) (s : S)
  | no
  | dr (m : Nat) (k : Nat → T)
noncomputable def T.bind (t : T) (f : Out → S → T) : T :=
  T.rec (motive := fun _ => T) (fun o s => f o s) (fun c fs s => .ex c fs s) .no (fun m _ ih => .dr m ih) t
/-- .. and no exception -/
noncomputable def T.bindN (t : T) (f : Out → S → T) : T :=
  T.rec (motive := fun _ => T) (fun o s => f o s) (fun _ _ _ => .no) .no (fun m _ ih => .dr m ih) t
/-- .. an exception is caught -/
noncomputable def T.bindX (t : T) (f : Out → S → T) (h : Nat → List (Nat × D) → S → T) : T :=
  T.rec (motive := fun _ => T) (fun o s => f o s) (fun c fs s => h c fs s) .no (fun m _ ih => .dr m ih) t
def Good (P : Out → S → Prop) (E : Nat → List (Nat × D) → S → Prop) : T → Prop
  | .ok o s => P o s
  | .ex c fs s => E c fs s
  | .no => False
  | .dr m k => ∀ i, i < m → Good P E (k i)
theorem good_bind {P : Out → S → Prop} {E : Nat → List (Nat × D) → S → Prop} {f : Out → S → T} : ∀ {t : T}, Good P E (t.bind f) ↔ Good (fun o s => Good P E (f o s)) E t
  | .ok o s => Iff.rfl
  | .ex c fs s => Iff.rfl
  | .no => Iff.rfl
  | .dr m k => by
    show (∀ i, i < m → Good P E (T.bind (k i) f)) ↔ (∀ i, i < m → Good _ E (k i))
    exact forall_congr' fun i => forall_congr' fun _ => good_bind
theorem good_bindN {P : Out → S → Prop} {E : Nat → List (Nat × D) → S → Prop} {f : Out → S → T} : ∀ {t : T}, Good P E (t.bindN f) ↔ Good (fun o s => Good P E (f o s)) (fun _ _ _ => False) t
  | .ok o s => Iff.rfl
  | .ex c fs s => Iff.rfl
  | .no => Iff.rfl
  | .dr m k => by
    show (∀ i, i < m → Good P E (T.bindN (k i) f)) ↔ (∀ i, i < m → Good _ _ (k i))
    exact forall_congr' fun i => forall_congr' fun _ => good_bindN
theorem good_bindX {P : Out → S → Prop} {E : Nat → List (Nat × D) → S → Prop} {f : Out → S → T} {h : Nat → List (Nat × D) → S → T} : ∀ {t : T}, Good P E (t.bindX f h) ↔ Good (fun o s => Good P E (f o s)) (fun c fs s => Good P E (h c fs s)) t
  | .ok o s => Iff.rfl
  | .ex c fs s => Iff.rfl
  | .no => Iff.rfl
  | .dr m k => by
    show (∀ i, i < m → Good P E (T.bindX (k i) f h)) ↔ (∀ i, i < m → Good _ _ (k i))
    exact forall_congr' fun i => forall_congr' fun _ => good_bindX
theorem Good.mono {P P' : Out → S → Prop} {E E' : Nat → List (Nat × D) → S → Prop} (hP : ∀ o s, P o s → P' o s) (hE : ∀ c fs s, E c fs s → E' c fs s) : ∀ {t : T}, Good P E t → Good P' E' t
  | .ok o s, h => hP _ _ h
  | .ex c fs s, h => hE _ _ _ h
  | .no, h => h
  | .dr m k, h => fun i hi => Good.mono hP hE (h i hi)

/-! ### the language -/
/-- targets: a name's slot; a row of targets; (a, b, ..) -/
inductive G where
  | nm (i : Nat) | nil | cons (g gs : G) | tup (gs : G)
/-- expressions, rows of them (nil, cons), things to be walked (sq ..) -/
inductive E where
  | nm (i : Nat) | cst (d : D) | glo (g : Nat)
  | tup (es : E) | lst (m : Bool) (es : E) | dct (kvs : E)
  | neg (a : E) | not (a : E)
  | bin (op : Nat) (a b : E) | cmp (op : Nat) (a b : E) | chn (op op' : Nat) (a b c : E)
  | and (a b : E) | or (a b : E) | ite (c a b : E)
  | ix (a b : E) | sl (a lo hi : E)
  | att (a : E) (f : Nat)
  | blt (b : Nat) (es : E) | cal (f : Nat) (es : E) | drw (es : E)
  | isi (a : E) (cs : List Nat)
  | lc (m : Bool) (own : List Nat) (g : G) (it : E) (cond : E) (elt : E)
  | nil | cons (a b : E) | one
  | sq (a : E) | rng (es : E) | enu (a : E) | zip (es : E)
/-- blocks: a statement and the rest -/
inductive B where
  | nil
  | asg (g : G) (e : E) (r : B) | aug (i op : Nat) (e : E) (r : B)
  | app (a e : E) (r : B)
  | six (a b e : E) (r : B)
  | exp (e : E) (r : B)
  | ret (e : E) | brk | cnt
  | ite (c : E) (t f r : B)
  | for_ (g : G) (it : E) (b r : B)
  | whl (c : E) (b r : B)
  | rse (c : Nat) (fs : List Nat) (es : E)
  /-- try: e | t = e | return e (m = 0, 1, 2); except c as i: j = i -/
  | tryE (m t : Nat) (e : E) (c i j : Nat) (r : B)
  /-- i, j, .. = es, by place -/
  | par (is : List Nat) (es : E) (r : B)

/-! ### what is read, tested -/
noncomputable def getN {α : Type} (n : Nat) (l : List α) : Option α := Nat.rec (motive := fun _ => List α → Option α) (fun l => List.rec none (fun x _ _ => some x) l) (fun _ ih l => List.rec none (fun _ r _ => ih r) l) n l
noncomputable def setN {α : Type} (n : Nat) (a : α) (l : List α) : List α := Nat.rec (motive := fun _ => List α → List α) (fun l => List.rec [] (fun _ r _ => a :: r) l) (fun _ ih l => List.rec [] (fun x r _ => x :: ih r) l) n l
theorem getN_eq {α : Type} : ∀ (n : Nat) (l : List α), getN n l = l[n]?
  | 0, [] => rfl
  | 0, x :: l => rfl
  | n + 1, [] => rfl
  | n + 1, x :: l => (getN_eq n l).trans (List.getElem?_cons_succ (l := l) (a := x)).symm
theorem setN_eq {α : Type} (a : α) : ∀ (n : Nat) (l : List α), setN n a l = l.set n a
  | 0, [] => rfl
  | 0, x :: l => rfl
  | n + 1, [] => rfl
  | n + 1, x :: l => congrArg (List.cons x) (setN_eq a n l)
noncomputable def lkp {α : Type} (f : Nat) (l : List (Nat × α)) : Option α := List.rec (motive := fun _ => Option α) none (fun p _ ih => Bool.rec (motive := fun _ => Option α) ih (some p.2) (Nat.beq f p.1)) l
theorem lkp_eq {α : Type} (f : Nat) : ∀ l : List (Nat × α), lkp f l = l.lookup f
  | [] => rfl
  | (g, a) :: l => by
    show Bool.rec (motive := fun _ => Option α) (lkp f l) (some a) (Nat.beq f g) = _
    rw [List.lookup_cons, lkp_eq f l]
    show _ = match f == g with | true => some a | false => _
    rw [show (f == g) = Nat.beq f g from Bool.eq_iff_iff.mpr (by rw [beq_iff_eq]; exact ⟨fun h => h ▸ Nat.beq_refl f, Nat.eq_of_beq_eq_true⟩)]
    cases Nat.beq f g <;> rfl
/-! ### what is compared -/
/-- a changing list, read -/
def rdc (s : S) : D → D
  | .cel i => match s.cells[i]? with
    | some (.lst xs) => .lst xs
    | _ => .cel i
  | d => d
/-- no dict, no object within, of few levels -/
def pln (s : S) : Nat → D → Bool
  | 0, _ => false
  | n + 1, d => match rdc s d with
    | .non => true
    | .bl _ => true
    | .int _ => true
    | .str _ => true
    | .lst xs => xs.all (pln s n)
    | .tup xs => xs.all (pln s n)
    | _ => false
def all2 (f : D → D → Bool) : List D → List D → Bool
  | [], [] => true
  | x :: xs, y :: ys => f x y && all2 f xs ys
  | _, _ => false
def b2i : Bool → Int
  | true => 1
  | false => 0
def eqs (s : S) : Nat → D → D → Bool
  | 0, _, _ => false
  | n + 1, x, y => match rdc s x, rdc s y with
    | .non, .non => true
    | .bl a, .bl b => a == b
    | .bl a, .int j => b2i a == j
    | .int i, .bl b => i == b2i b
    | .int i, .int j => i == j
    | .str x, .str y => x == y
    | .lst xs, .lst ys => all2 (eqs s n) xs ys
    | .tup xs, .tup ys => all2 (eqs s n) xs ys
    | _, _ => false
def eqOp (s : S) (x y : D) : Option Bool := if pln s 40 x && pln s 40 y then some (eqs s 40 x y) else none
/-- a list's, a tuple's items -/
def items (s : S) : D → Option (List D)
  | .lst xs => some xs
  | .tup xs => some xs
  | .cel i => match s.cells[i]? with
    | some (.lst xs) => some xs
    | _ => none
  | _ => none
def nonempty {α : Type} : List α → Bool
  | [] => false
  | _ :: _ => true
def tru (s : S) : D → Option Bool
  | .non => some false
  | .bl b => some b
  | .int i => some (i != 0)
  | .lst xs => some (nonempty xs)
  | .tup xs => some (nonempty xs)
  | .dct xs => some (nonempty xs)
  | .cel i => match s.cells[i]? with
    | some (.lst xs) => some (nonempty xs)
    | _ => none
  | _ => none
/-! ### operators -/
def okMul (i j : Int) : Bool := decide (i.natAbs.log2 + j.natAbs.log2 < 1000000)
def okLen (n : Nat) : Bool := decide (n ≤ 100000)
def isLst (s : S) : D → Option (List D)
  | .lst xs => some xs
  | .cel i => match s.cells[i]? with
    | some (.lst xs) => some xs
    | _ => none
  | _ => none
/-- + - * // % ** -/
def binOp (op : Nat) (s : S) (x y : D) : Option D :=
  match x, y with
  | .int i, .int j => match op with
    | 0 => some (.int (i + j))
    | 1 => some (.int (i - j))
    | 2 => if okMul i j then some (.int (i * j)) else none
    | 3 => if decide (j ≠ 0) && decide (j.natAbs.log2 < 9000) then some (.int (i.fdiv j)) else none
    | 4 => if decide (j ≠ 0) then some (.int (i.fmod j)) else none
    | 5 => if decide (0 ≤ j) && decide (j ≤ 1000000) && decide (i.natAbs < 2 ^ 64) then some (.int (i ^ j.toNat)) else none
    | _ => none
  | .str i, .str j => match op with
    | 0 => if okLen (i.length + j.length) then some (.str (i ++ j)) else none
    | _ => none
  | .tup xs, .tup ys => match op with
    | 0 => if okLen (xs.length + ys.length) then some (.tup (xs ++ ys)) else none
    | _ => none
  | x, y => match op with
    | 0 => match isLst s x, isLst s y with
      | some xs, some ys => if okLen (xs.length + ys.length) then some (.lst (xs ++ ys)) else none
      | _, _ => none
    | 2 => match isLst s x, y with
      | some xs, .int m => if decide (m < 100000) && okLen (xs.length * m.toNat) && decide (-100000 < m) then some (.lst (List.replicate m.toNat xs).flatten) else none
      | _, _ => none
    | _ => none
/-- < <= > >= == != -/
def cmpOp (op : Nat) (s : S) (x y : D) : Option Bool :=
  match op with
  | 0 => match x, y with
    | .int i, .int j => some (decide (i < j))
    | _, _ => none
  | 1 => match x, y with
    | .int i, .int j => some (decide (i ≤ j))
    | _, _ => none
  | 2 => match x, y with
    | .int i, .int j => some (decide (j < i))
    | _, _ => none
  | 3 => match x, y with
    | .int i, .int j => some (decide (j ≤ i))
    | _, _ => none
  | 4 => match x, y with
    | .int i, .int j => some (decide (i = j))
    | x, y => eqOp s x y
  | 5 => match x, y with
    | .int i, .int j => some (!decide (i = j))
    | x, y => (eqOp s x y).map (!·)
  | _ => none
/-- a place in a row, from the end below 0 -/
def place (n : Nat) (i : Int) : Option Nat := if 0 ≤ i then (if i < n then some i.toNat else none) else if -(n : Int) ≤ i then some (i + n).toNat else none
noncomputable def ixOp (s : S) (x y : D) : Option D := match y with
  | .int i => match items s x with
    | some xs => match place xs.length i with
      | some k => getN k xs
      | none => none
    | none => none
  | _ => none
/-! ### what names a cell -/
mutual
/-- no cell from n on -/
def below (n : Nat) : D → Bool
  | .cel i => Nat.blt i n
  | .lst xs => belows n xs
  | .tup xs => belows n xs
  | .dct kvs => belowk n kvs
  | .obj _ fs => belowf n fs
  | _ => true
def belows (n : Nat) : List D → Bool
  | [] => true
  | x :: xs => below n x && belows n xs
def belowk (n : Nat) : List (D × D) → Bool
  | [] => true
  | (k, x) :: xs => below n k && below n x && belowk n xs
def belowf (n : Nat) : List (Nat × D) → Bool
  | [] => true
  | (_, x) :: xs => below n x && belowf n xs
end
def belowC (n : Nat) : Cell → Bool
  | .lst xs => belows n xs
  | .dct kvs => belowk n kvs
  | .ins _ fs => belowf n fs
  | .exc _ fs => belowf n fs
  | .pen _ => true
def mapO {α β : Type} (f : α → Option β) : List α → Option (List β)
  | [] => some []
  | x :: xs => match f x, mapO f xs with
    | some y, some ys => some (y :: ys)
    | _, _ => none
/-- changing lists from n on become data (so many levels) -/
def fz (cells : List Cell) (n : Nat) : Nat → D → Option D
  | 0, _ => none
  | m + 1, .cel i => if Nat.blt i n then some (.cel i) else match cells[i]? with
    | some (.lst xs) => (mapO (fz cells n m) xs).map .lst
    | some (.dct kvs) => (mapO (fun (p : D × D) => (fz cells n m p.2).map fun y => (p.1, y)) kvs).map .dct
    | _ => none
  | m + 1, .tup xs => if belows n xs then some (.tup xs) else (mapO (fz cells n m) xs).map .tup
  | m + 1, d => if below n d then some d else none
/-- a call's end: what it made and nobody else names is dropped -/
def leave (n mw fb : Nat) (d : D) (s : S) : T :=
  if s.cells.length == n then .ok (.v d) ⟨s.cells, Nat.min mw s.mw, fb, s.lk⟩
  else match fz s.cells n 12 d with
    | some d' => if n ≤ s.mw then .ok (.v d') ⟨s.cells.take n, Nat.min mw s.mw, fb, s.lk⟩ else .ok (.v d) ⟨s.cells, Nat.min mw s.mw, fb, s.lk⟩
    | none => .ok (.v d) ⟨s.cells, Nat.min mw s.mw, fb, s.lk⟩
def big : Nat := 1000000000
/-! ### built-ins -/
def tyOf : D → Option Nat
  | .int _ => some 1000
  | .bl _ => some 1001
  | .str _ => some 1002
  | .lst _ => some 1003
  | .tup _ => some 1004
  | .dct _ => some 1005
  | .non => some 1006
  | _ => none
def subTy (t c : Nat) : Bool := t == c || (t == 1001 && c == 1000)
/-- what is known of the program: its calls, repr, constants, classes (sub c d: c is d or below it; exc, ins: whose instances may be asked; ty t c: a built-in type against a class) -/
structure Gl where
  cal : Nat → List D → S → T
  rp : S → D → Option D
  gd : Nat → D
  sub : Nat → Nat → Bool
  exc : Nat → Bool
  ins : Nat → Bool
  ty : Nat → Nat → Bool
def clsOf (s : S) : D → Option Nat
  | .obj c _ => some c
  | .cel i => match s.cells[i]? with
    | some (.ins c _) => some c
    | some (.exc c _) => some c
    | _ => none
  | _ => none
/-- the classes of what is read are known -/
def attC (exc ins : Nat → Bool) (s : S) : D → Bool
  | .obj c _ => ins c
  | .cel i => match s.cells[i]? with
    | some (.ins c _) => ins c
    | some (.exc c _) => exc c
    | _ => false
  | _ => false
def isiOp (g : Gl) (s : S) (d : D) (cs : List Nat) : Option Bool :=
  match tyOf d with
  | some t => if cs.all (g.ty t) then some (cs.any (subTy t)) else none
  | none => match clsOf s d with
    | some c => if attC g.exc g.ins s d then some (cs.any (g.sub c)) else none
    | none => none
noncomputable def attOp (s : S) (d : D) (f : Nat) : Option D := match d with
  | .obj _ fs => lkp f fs
  | .cel i => match s.cells[i]? with
    | some (.ins _ fs) => lkp f fs
    | some (.exc _ fs) => lkp f fs
    | _ => none
  | _ => none
def bools : List D → Option (List Bool)
  | [] => some []
  | .bl b :: xs => (bools xs).map (b :: ·)
  | _ :: _ => none
def intsOf : List D → Option (List Int)
  | [] => some []
  | .int i :: xs => (intsOf xs).map (i :: ·)
  | _ :: _ => none
def lenOf (s : S) : D → Option Nat
  | .str x => if okLen x.length then some x.length else none
  | d => (items s d).map List.length
def bltOp (g : Gl) (b : Nat) (s : S) (xs : List D) : Option D := match b, xs with
  | 0, [x] => (lenOf s x).map fun (n : Nat) => D.int (Int.ofNat n)
  | 1, [x] => g.rp s x
  | 2, [x] => (items s x).map .lst
  | 4, [.int i] => some (.int (if i < 0 then -i else i))
  | 5, [.int i] => some (.int i)
  | 5, [.bl b] => some (.int (if b then 1 else 0))
  | 6, [x] => (items s x).map .tup
  | 7, [.bl b] => some (.bl b)
  | 7, [.int i] => some (.bl (i != 0))
  | 8, [x] => match isLst s x with
    | some xs => (bools xs).map fun bs => .bl (bs.all id)
    | none => none
  | 9, [x] => match isLst s x with
    | some xs => (bools xs).map fun bs => .bl (bs.any id)
    | none => none
  | _, _ => none
/-! ### what an expression comes to -/
abbrev Kv := Rho → S → (D → S → T) → T
structure DE where
  v : Kv
  b : Rho → S → (Bool → S → T) → T
  a : Rho → S → (List D → S → T) → T
  i : Rho → S → (List D → List Nat → S → T) → T
def opt {α : Type} (x : Option α) (k : α → T) : T := match x with
  | some a => k a
  | none => .no
noncomputable def mkV (v : Kv) : DE := ⟨v, fun r s k => v r s fun d s => opt (tru s d) fun b => k b s, fun _ _ _ => .no, fun _ _ _ => .no⟩
noncomputable def mkB (b : Rho → S → (Bool → S → T) → T) : DE := ⟨fun r s k => b r s fun x s => k (.bl x) s, b, fun _ _ _ => .no, fun _ _ _ => .no⟩
noncomputable def mkA (a : Rho → S → (List D → S → T) → T) : DE := ⟨fun _ _ _ => .no, fun _ _ _ => .no, a, fun _ _ _ => .no⟩
noncomputable def mkI (i : Rho → S → (List D → List Nat → S → T) → T) : DE := ⟨fun _ _ _ => .no, fun _ _ _ => .no, fun _ _ _ => .no, i⟩
/-- the cell that is walked -/
def locks : D → List Nat
  | .cel i => [i]
  | _ => []
/-- a new cell -/
def alloc (c : Cell) (s : S) (k : D → S → T) : T := k (.cel s.cells.length) ⟨s.cells ++ [c], s.mw, s.fb, s.lk⟩
/-- a written cell -/
def write (i : Nat) (c : Cell) (d : D) (s : S) (k : S → T) : T :=
  if s.lk.contains i then .no
  else k ⟨s.cells.set i c, if Nat.blt i s.fb && !below 0 d then Nat.min s.mw i else s.mw, s.fb, s.lk⟩
def glen : G → Nat
  | .cons _ gs => glen gs + 1
  | _ => 0
noncomputable def asg (g : G) (d : D) (r : Rho) (k : Rho → T) : T :=
  G.rec (motive := fun _ => List D → Rho → (Rho → T) → T)
    (fun i ds r k => match ds with
      | [d] => k (setN i (some d) r)
      | _ => .no)
    (fun ds r k => match ds with
      | [] => k r
      | _ => .no)
    (fun _ _ g gs ds r k => match ds with
      | d :: ds => g [d] r fun r => gs ds r k
      | _ => .no)
    (fun gs ih ds r k => match ds with
      | [.tup ds] => if ds.length == glen gs then ih ds r k else .no
      | _ => .no) g [d] r k
def wipeR : List Nat → Rho → Rho
  | [], r => r
  | i :: is, r => (wipeR is r).set i none
/-- the turns of a comprehension -/
noncomputable def turns (own : List Nat) (g : G) (c : Rho → S → (Bool → S → T) → T) (e : Kv) (r : Rho) (xs : List D) : List D → S → (List D → S → T) → T :=
  List.rec (motive := fun _ => List D → S → (List D → S → T) → T) (fun acc s k => k acc s)
    (fun x _ ih acc s k => T.bindN (asg g x r fun r => c r s fun b s => Bool.rec (.ok (.ds []) s) (e r s fun d s => .ok (.v d) s) b) fun o s => match o with
      | .v d => if acc.length < 100000 then ih (acc ++ [d]) s k else .no
      | .ds _ => ih acc s k
      | _ => .no) xs
noncomputable def denE (g : Gl) (e : E) : DE :=
  E.rec (motive := fun _ => DE)
    (fun i => mkV fun r s k => opt (getN i r) fun o => opt o fun d => k d s)
    (fun d => mkV fun _ s k => k d s)
    (fun i => mkV fun _ s k => k (g.gd i) s)
    (fun _ es => mkV fun r s k => es.a r s fun xs s => if okLen xs.length then k (.tup xs) s else .no)
    (fun m _ es => mkV fun r s k => es.a r s fun xs s => if okLen xs.length then Bool.rec (k (.lst xs) s) (alloc (.lst xs) s k) m else .no)
    (fun _ es => mkV fun r s k => es.a r s fun xs s => match xs with
      | [.str x, y] => k (.dct [(.str x, y)]) s
      | _ => .no)
    (fun _ a => mkV fun r s k => a.v r s fun x s => match x with
      | .int i => k (.int (-i)) s
      | _ => .no)
    (fun _ a => ⟨fun r s k => a.v r s fun x s => match x with
      | .bl c => k (.bl (!c)) s
      | _ => .no, fun r s k => a.b r s fun x s => k (!x) s, fun _ _ _ => .no, fun _ _ _ => .no⟩)
    (fun op _ _ a b => mkV fun r s k => a.v r s fun x s => b.v r s fun y s => opt (binOp op s x y) fun d => k d s)
    (fun op _ _ a b => mkB fun r s k => a.v r s fun x s => b.v r s fun y s => opt (cmpOp op s x y) fun d => k d s)
    (fun op op' _ _ _ a b c => mkV fun r s k => a.v r s fun x s => b.v r s fun y s => opt (cmpOp op s x y) fun t => Bool.rec (k (.bl false) s) (c.v r s fun z s => opt (cmpOp op' s y z) fun t => k (.bl t) s) t)
    (fun _ _ a b => ⟨fun r s k => a.v r s fun x s => match x with
      | .bl c => Bool.rec (k (.bl false) s) (b.v r s k) c
      | _ => .no, fun r s k => a.b r s fun x s => Bool.rec (k false s) (b.b r s k) x, fun _ _ _ => .no, fun _ _ _ => .no⟩)
    (fun _ _ a b => ⟨fun r s k => a.v r s fun x s => match x with
      | .bl c => Bool.rec (b.v r s k) (k (.bl true) s) c
      | _ => .no, fun r s k => a.b r s fun x s => Bool.rec (b.b r s k) (k true s) x, fun _ _ _ => .no, fun _ _ _ => .no⟩)
    (fun _ _ _ c a b => mkV fun r s k => c.b r s fun x s => Bool.rec (b.v r s k) (a.v r s k) x)
    (fun _ _ a b => mkV fun r s k => a.v r s fun x s => b.v r s fun y s => opt (ixOp s x y) fun d => k d s)
    (fun _ _ _ _ _ _ => mkV fun _ _ _ => .no)
    (fun _ f a => mkV fun r s k => a.v r s fun x s => opt (if attC g.exc g.ins s x then attOp s x f else none) fun d => k d s)
    (fun b _ es => mkV fun r s k => es.a r s fun xs s => opt (bltOp g b s xs) fun d => k d s)
    (fun f _ es => mkV fun r s k => es.a r s fun xs s => T.bind (g.cal f xs s) fun o s => match o with
      | .v d => k d s
      | _ => .no)
    (fun _ es => mkV fun r s k => es.a r s fun xs s => match xs with
      | [.cel i, .int m] => match s.cells[i]? with
        | some (.pen c) => if c < 4000 && decide (m.natAbs.log2 < 9000) && !s.lk.contains i then .dr (Nat.max 1 m.toNat) fun v => k (.int (v : Int)) ⟨s.cells.set i (.pen (c + 1)), s.mw, s.fb, s.lk⟩ else .no
        | _ => .no
      | _ => .no)
    (fun _ cs a => mkB fun r s k => a.v r s fun x s => opt (isiOp g s x cs) fun d => k d s)
    (fun m own tg _ _ _ it c e => mkV fun r s k => it.i r s fun xs ls s => turns own tg c.b e.v (wipeR own r) xs [] ⟨s.cells, s.mw, s.fb, ls ++ s.lk⟩ fun ys s' => Bool.rec (k (.lst ys) ⟨s'.cells, s'.mw, s'.fb, s.lk⟩) (alloc (.lst ys) ⟨s'.cells, s'.mw, s'.fb, s.lk⟩ k) m)
    (mkA fun _ s k => k [] s)
    (fun _ _ a b => mkA fun r s k => a.v r s fun x s => b.a r s fun xs s => k (x :: xs) s)
    (mkB fun _ s k => k true s)
    (fun _ a => mkI fun r s k => a.v r s fun x s => opt (items s x) fun xs => k xs (locks x) s)
    (fun _ es => mkI fun r s k => es.a r s fun xs s => match xs with
      | [.int j] => if decide (j < 100000) && decide (-100000 < j) then k ((List.range j.toNat).map fun i : Nat => .int (i : Int)) [] s else .no
      | [.int i, .int j] => if decide (j < 100000) && decide (-100000 < j) && decide (i < 100000) && decide (-100000 < i) then k ((List.range (j - i).toNat).map fun m : Nat => .int (i + (m : Int))) [] s else .no
      | _ => .no)
    (fun _ _ => mkI fun _ _ _ => .no)
    (fun _ _ => mkI fun _ _ _ => .no) e
/-! ### what a block comes to -/
structure Kn where
  nx : Rho → S → T
  bk : Rho → S → T
  ct : Rho → S → T
  rt : D → S → T
/-- the plain ends -/
def k0 : Kn := ⟨fun r s => .ok (.nx r) s, fun r s => .ok (.bk r) s, fun r s => .ok (.ct r) s, fun d s => .ok (.v d) s⟩
/-- ends go on -/
def Kn.on (k : Kn) (o : Out) (s : S) : T := match o with
  | .nx r => k.nx r s
  | .bk r => k.bk r s
  | .ct r => k.ct r s
  | .v d => k.rt d s
  | .ds _ => .no
/-- ends of a turn -/
noncomputable def loopT (g : G) (body : Rho → S → Kn → T) (xs : List D) : Rho → S → T :=
  List.rec (motive := fun _ => Rho → S → T) (fun r s => .ok (.nx r) s)
    (fun x _ ih r s => T.bind (asg g x r fun r => body r s k0) fun o s => match o with
      | .nx r => ih r s
      | .ct r => ih r s
      | .bk r => .ok (.nx r) s
      | o => .ok o s) xs
noncomputable def whileT (c : Rho → S → (Bool → S → T) → T) (body : Rho → S → Kn → T) (n : Nat) : Rho → S → T :=
  Nat.rec (motive := fun _ => Rho → S → T) (fun _ _ => .no)
    (fun _ ih r s => c r s fun x s => Bool.rec (.ok (.nx r) s) (T.bind (body r s k0) fun o s => match o with
      | .nx r => ih r s
      | .ct r => ih r s
      | .bk r => .ok (.nx r) s
      | o => .ok o s) x) n
def setAll : List Nat → List D → Rho → Option Rho
  | [], [], r => some r
  | i :: is, d :: ds, r => setAll is ds (r.set i (some d))
  | _, _, _ => none
/-- x[b] = y in a changing list -/
def put (xs : List D) (b y : D) : Option (List D) := match b with
  | .int i => match place xs.length i with
    | some k => if k < xs.length then some (xs.set k y) else none
    | none => none
  | _ => none
noncomputable def denB (g : Gl) (b : B) : Rho → S → Kn → T :=
  B.rec (motive := fun _ => Rho → S → Kn → T)
    (fun r s k => k.nx r s)
    (fun tg e _ rest r s k => (denE g e).v r s fun d s => asg tg d r fun r => rest r s k)
    (fun i op e _ rest r s k => opt (getN i r) fun o => opt o fun x => (denE g e).v r s fun y s => match x, y with
      | .int x, .int y => opt (binOp op s (.int x) (.int y)) fun d => rest (setN i (some d) r) s k
      | _, _ => .no)
    (fun a e _ rest r s k => (denE g a).v r s fun x s => (denE g e).v r s fun y s => match x with
      | .cel i => match s.cells[i]? with
        | some (.lst xs) => if xs.length < 100000 then write i (.lst (xs ++ [y])) y s fun s => rest r s k else .no
        | _ => .no
      | _ => .no)
    (fun a b e _ rest r s k => (denE g e).v r s fun y s => (denE g a).v r s fun x s => (denE g b).v r s fun z s => match x with
      | .cel i => match s.cells[i]? with
        | some (.lst xs) => opt (put xs z y) fun ys => write i (.lst ys) y s fun s => rest r s k
        | _ => .no
      | _ => .no)
    (fun e _ rest r s k => (denE g e).v r s fun _ s => rest r s k)
    (fun e r s k => (denE g e).v r s fun d s => k.rt d s)
    (fun r s k => k.bk r s)
    (fun r s k => k.ct r s)
    (fun c _ _ _ t f rest r s k => (denE g c).b r s fun x s => Bool.rec (f r s ⟨fun r s => rest r s k, k.bk, k.ct, k.rt⟩) (t r s ⟨fun r s => rest r s k, k.bk, k.ct, k.rt⟩) x)
    (fun tg it _ _ body rest r s k => (denE g it).i r s fun xs ls s => T.bindX (loopT tg body xs r ⟨s.cells, s.mw, s.fb, ls ++ s.lk⟩) (fun o s' => Kn.on ⟨fun r s => rest r s k, k.bk, k.ct, k.rt⟩ o ⟨s'.cells, s'.mw, s'.fb, s.lk⟩) fun c fs s' => .ex c fs ⟨s'.cells, s'.mw, s'.fb, s.lk⟩)
    (fun c _ _ body rest r s k => T.bind (whileT (denE g c).b body 100000 r s) fun o s => Kn.on ⟨fun r s => rest r s k, k.bk, k.ct, k.rt⟩ o s)
    (fun c fs es r s _ => (denE g es).a r s fun xs s => if fs.length == xs.length then .ex c (fs.zip xs) s else .no)
    (fun m t e c i j _ rest r s k => T.bindX ((denE g e).v r s fun d s => .ok (.v d) s) (fun o s => match o with
      | .v d => (match m with
        | 0 => rest r s k
        | 1 => rest (setN t (some d) r) s k
        | _ => k.rt d s)
      | _ => .no) fun c' fs s => if g.sub c' c then rest (setN i none (setN j (some (.cel s.cells.length)) r)) ⟨s.cells ++ [.exc c' fs], s.mw, s.fb, s.lk⟩ k else .ex c' fs s)
    (fun is es _ rest r s k => (denE g es).a r s fun xs s => opt (setAll is xs r) fun r => rest r s k) b
end EV

namespace EV
/-! ### defs -/
structure Fun where
  np : Nat
  ns : Nat
  dfl : List D
  body : B
noncomputable def run (g : Gl) (F : Fun) (args : List D) (s : S) : T :=
  if args.length == F.np then
    T.bindX (denB g F.body (args.map some ++ List.replicate (F.ns - F.np) none) ⟨s.cells, big, s.cells.length, s.lk⟩ ⟨fun _ s => .ok (.v .non) s, fun _ _ => .no, fun _ _ => .no, fun d s => .ok (.v d) s⟩)
      (fun o s' => match o with
        | .v d => leave s.cells.length s.mw s.fb d ⟨s'.cells, s'.mw, s'.fb, s.lk⟩
        | _ => .no) fun c fs s' => .ex c fs ⟨s'.cells, Nat.min s.mw s'.mw, s.fb, s.lk⟩
  else .no
/-- what is known of the program, without its calls -/
structure Tab where
  fn : Nat → Option Fun
  rp : S → D → Option D
  gd : Nat → D
  sub : Nat → Nat → Bool
  exc : Nat → Bool
  ins : Nat → Bool
  ty : Nat → Nat → Bool
noncomputable def call (t : Tab) (n : Nat) : Nat → List D → S → T :=
  Nat.rec (motive := fun _ => Nat → List D → S → T) (fun _ _ _ => .no) (fun _ ih f args s => opt (t.fn f) fun F => run ⟨ih, t.rp, t.gd, t.sub, t.exc, t.ins, t.ty⟩ F (args ++ F.dfl.drop (args.length - (F.np - F.dfl.length))) s) n
noncomputable def Tab.gl (t : Tab) (n : Nat) : Gl := ⟨call t n, t.rp, t.gd, t.sub, t.exc, t.ins, t.ty⟩
end EV

/-! RD: deep data over the hand layer. What an expression comes to is told as plain data; the heap is hidden. -/
namespace RD
open PySem PySem.Spec PyProof.Rows L2

/-- plain data of any depth -/
inductive D where
  | non
  | bl (b : Bool)
  | int (i : Int)
  | str (x : Str)
  | lst (xs : List D)
  | tup (xs : List D)
  | dct (kvs : List (Key × D))
  | obj (C : Addr) (fs : List (Str × D))
  | raw (v : V)

/-- a written tuple -/
def KT (K : PySem.W.Frag) (a : Addr) (xs : List V) : Prop :=
  ∃ (o : Obj) (its : Array Value) (n : Nat), K.lookup a = some o ∧ o.cls = .type "tuple" ∧ o.data = .seq its n ∧ its.size ≤ sizeLine ∧ Vals xs its.toList

mutual
/-- the value stands for the datum; M: the addresses that may still change, none of which is within it -/
inductive Rep (K : PySem.W.Frag) (M : Addr → Prop) (H : Hp) : V → D → Prop
  | non : Rep K M H .non .non
  | bl (b : Bool) : Rep K M H (.bl b) (.bl b)
  | int (i : Int) : Rep K M H (.int i) (.int i)
  | str (x : Str) : Rep K M H (.str x) (.str x)
  | lst {a : Addr} {xs : List V} {ds : List D} : ¬ M a → H a = some (.lst xs) → RepAll K M H xs ds → Rep K M H (.ref a) (.lst ds)
  | tup {a : Addr} {xs : List V} {ds : List D} : ((¬ M a ∧ Rd H a (.tup xs)) ∨ KT K a xs) → RepAll K M H xs ds → Rep K M H (.ref a) (.tup ds)
  | dct {a : Addr} {xs : List (Key × V)} {ds : List (Key × D)} : ¬ M a → H a = some (.dK xs) → RepKV K M H xs ds → Rep K M H (.ref a) (.dct ds)
  | obj {a C dx : Addr} {fs : List (Str × V)} {ds : List (Str × D)} : ¬ M a → H a = some (.ins C dx fs) → RepF K M H fs ds → Rep K M H (.ref a) (.obj C ds)
  | raw (v : V) : Rep K M H v (.raw v)
inductive RepAll (K : PySem.W.Frag) (M : Addr → Prop) (H : Hp) : List V → List D → Prop
  | nil : RepAll K M H [] []
  | cons {v : V} {vs : List V} {d : D} {ds : List D} : Rep K M H v d → RepAll K M H vs ds → RepAll K M H (v :: vs) (d :: ds)
inductive RepKV (K : PySem.W.Frag) (M : Addr → Prop) (H : Hp) : List (Key × V) → List (Key × D) → Prop
  | nil : RepKV K M H [] []
  | cons {k : Key} {v : V} {vs : List (Key × V)} {d : D} {ds : List (Key × D)} : Rep K M H v d → RepKV K M H vs ds → RepKV K M H ((k, v) :: vs) ((k, d) :: ds)
inductive RepF (K : PySem.W.Frag) (M : Addr → Prop) (H : Hp) : List (Str × V) → List (Str × D) → Prop
  | nil : RepF K M H [] []
  | cons {k : Str} {v : V} {vs : List (Str × V)} {d : D} {ds : List (Str × D)} : Rep K M H v d → RepF K M H vs ds → RepF K M H ((k, v) :: vs) ((k, d) :: ds)
end

section
variable {K : PySem.W.Frag} {M M' : Addr → Prop} {H H' : Hp}
theorem rd_mono {a : Addr} {u : HO} (h : ∀ a o, ¬ M a → H a = some o → H' a = some o ∧ ¬ M' a) (m : ¬ M a) (r : Rd H a u) : ¬ M' a ∧ Rd H' a u := by
  rcases r with r | ⟨o, r⟩
  · obtain ⟨e, m'⟩ := h a _ m r
    exact ⟨m', .inl e⟩
  · obtain ⟨e, m'⟩ := h a _ m r
    exact ⟨m', .inr ⟨o, e⟩⟩
mutual
theorem Rep.mono (h : ∀ a o, ¬ M a → H a = some o → H' a = some o ∧ ¬ M' a) : ∀ (d : D) {v : V}, Rep K M H v d → Rep K M' H' v d
  | .non, _, r => by cases r; exact .non
  | .bl b, _, r => by cases r; exact .bl b
  | .int i, _, r => by cases r; exact .int i
  | .str x, _, r => by cases r; exact .str x
  | .lst ds, _, r => by
    cases r with
    | lst m q ra =>
      obtain ⟨e, m'⟩ := h _ _ m q
      exact .lst m' e (RepAll.mono h ds ra)
  | .tup ds, _, r => by
    cases r with
    | tup q ra =>
      refine .tup ?_ (RepAll.mono h ds ra)
      rcases q with ⟨m, q⟩ | q
      · exact .inl (rd_mono h m q)
      · exact .inr q
  | .dct ds, _, r => by
    cases r with
    | dct m q ra =>
      obtain ⟨e, m'⟩ := h _ _ m q
      exact .dct m' e (RepKV.mono h ds ra)
  | .obj C ds, _, r => by
    cases r with
    | obj m q ra =>
      obtain ⟨e, m'⟩ := h _ _ m q
      exact .obj m' e (RepF.mono h ds ra)
  | .raw v, _, r => by cases r; exact .raw v
theorem RepAll.mono (h : ∀ a o, ¬ M a → H a = some o → H' a = some o ∧ ¬ M' a) : ∀ (ds : List D) {vs : List V}, RepAll K M H vs ds → RepAll K M' H' vs ds
  | [], _, r => by cases r; exact .nil
  | d :: ds, _, r => by
    cases r with
    | cons r1 r2 => exact .cons (Rep.mono h d r1) (RepAll.mono h ds r2)
theorem RepKV.mono (h : ∀ a o, ¬ M a → H a = some o → H' a = some o ∧ ¬ M' a) : ∀ (ds : List (Key × D)) {vs : List (Key × V)}, RepKV K M H vs ds → RepKV K M' H' vs ds
  | [], _, r => by cases r; exact .nil
  | (k, d) :: ds, _, r => by
    cases r with
    | cons r1 r2 => exact .cons (Rep.mono h d r1) (RepKV.mono h ds r2)
theorem RepF.mono (h : ∀ a o, ¬ M a → H a = some o → H' a = some o ∧ ¬ M' a) : ∀ (ds : List (Str × D)) {vs : List (Str × V)}, RepF K M H vs ds → RepF K M' H' vs ds
  | [], _, r => by cases r; exact .nil
  | (k, d) :: ds, _, r => by
    cases r with
    | cons r1 r2 => exact .cons (Rep.mono h d r1) (RepF.mono h ds r2)
end
theorem RepAll.length : ∀ {vs : List V} {ds : List D}, RepAll K M H vs ds → vs.length = ds.length
  | _, _, .nil => rfl
  | _, _, .cons _ t => congrArg Nat.succ (RepAll.length t)
theorem RepAll.get : ∀ {vs : List V} {ds : List D} {i : Nat} {d : D}, RepAll K M H vs ds → ds[i]? = some d → ∃ v, vs[i]? = some v ∧ Rep K M H v d
  | _, _, _, _, .nil, e => by simp at e
  | _, _, 0, _, .cons r _, e => by simp at e; subst e; exact ⟨_, rfl, r⟩
  | _, _, i + 1, d, .cons _ t, e => by
    obtain ⟨v, h1, h2⟩ := RepAll.get (i := i) (d := d) t (by simpa using e)
    exact ⟨v, by simpa using h1, h2⟩
theorem RepAll.get' : ∀ {vs : List V} {ds : List D} {i : Nat} {v : V}, RepAll K M H vs ds → vs[i]? = some v → ∃ d, ds[i]? = some d ∧ Rep K M H v d
  | _, _, _, _, .nil, e => by simp at e
  | _, _, 0, _, .cons r _, e => by simp at e; subst e; exact ⟨_, rfl, r⟩
  | _, _, i + 1, v, .cons _ t, e => by
    obtain ⟨d, h1, h2⟩ := RepAll.get' (i := i) (v := v) t (by simpa using e)
    exact ⟨d, by simpa using h1, h2⟩
theorem RepAll.append : ∀ {vs ws : List V} {ds es : List D}, RepAll K M H vs ds → RepAll K M H ws es → RepAll K M H (vs ++ ws) (ds ++ es)
  | _, _, _, _, .nil, s => s
  | _, _, _, _, .cons r t, s => .cons r (RepAll.append t s)
theorem RepAll.take : ∀ {vs : List V} {ds : List D} (n : Nat), RepAll K M H vs ds → RepAll K M H (vs.take n) (ds.take n)
  | _, _, 0, _ => .nil
  | _, _, _ + 1, .nil => .nil
  | _, _, n + 1, .cons r t => .cons r (RepAll.take n t)
theorem RepAll.drop : ∀ {vs : List V} {ds : List D} (n : Nat), RepAll K M H vs ds → RepAll K M H (vs.drop n) (ds.drop n)
  | _, _, 0, r => r
  | _, _, _ + 1, .nil => .nil
  | _, _, n + 1, .cons _ t => RepAll.drop n t
theorem RepAll.set {v : V} {d : D} (r : Rep K M H v d) : ∀ {vs : List V} {ds : List D} (i : Nat), RepAll K M H vs ds → RepAll K M H (vs.set i v) (ds.set i d)
  | _, _, _, .nil => .nil
  | _, _, 0, .cons _ t => .cons r t
  | _, _, i + 1, .cons q t => .cons q (RepAll.set r i t)
theorem RepAll.ints : ∀ (ns : List Int), RepAll K M H (ns.map V.int) (ns.map D.int)
  | [] => .nil
  | n :: ns => .cons (.int n) (RepAll.ints ns)
end

/-! ### a def's names -/
/-- what a name holds: a datum; a list (a dict) of its own at p, which may change -/
inductive S where
  | dat (d : D)
  | own (p : Addr) (ds : List D)
  | ownK (p : Addr) (kvs : List (Key × D))
abbrev En := List (Option S)
def addrs : Option S → List Addr
  | some (.own p _) => [p]
  | some (.ownK p _) => [p]
  | _ => []
def owns : En → List Addr
  | [] => []
  | s :: ρ => addrs s ++ owns ρ
/-- what stands around: W the addresses that are others', H0 how they stood; pen: the drawing pen and its cells -/
structure Amb where
  W : List Addr
  H0 : Hp
  pen : Option (Addr × Addr)
def Mt (A : Amb) (ρ : En) : Addr → Prop := fun a => a ∈ owns ρ ∨ a ∈ A.W
def SlotR (K : PySem.W.Frag) (M : Addr → Prop) (H : Hp) : Option S → Option V → Prop
  | none, _ => True
  | some (.dat d), some v => Rep K M H v d
  | some (.own p ds), some v => v = .ref p ∧ ∃ vs, H p = some (.lst vs) ∧ RepAll K M H vs ds
  | some (.ownK p ds), some v => v = .ref p ∧ ∃ vs, H p = some (.dK vs) ∧ RepKV K M H vs ds
  | some _, none => False
/-- a pen at p, its cells at c: n draws are left -/
def PenAt (p c : Addr) (n : Nat) (H : Hp) : Prop := ∃ (at_ rest : Int) (ns : List Int), H p = some (.lst [.ref c, .int at_, .int rest]) ∧ H c = some (.lst (ns.map V.int)) ∧
  0 ≤ at_ ∧ at_ + n ≤ 1000000 ∧ 0 ≤ rest ∧ rest.natAbs < 2 ^ 1048600 ∧ ns.length ≤ 63 ∧ ∀ x ∈ ns, x.natAbs < 2 ^ 1048576
def Amb.isPen (A : Amb) (a : Addr) : Prop := match A.pen with
  | some (p, _) => a = p
  | none => False
def J (A : Amb) (n : Nat) (H : Hp) : Prop := (∀ a ∈ A.W, ¬ A.isPen a → H a = A.H0 a) ∧ (∀ a ∈ A.W, H a ≠ none) ∧ match A.pen with
  | none => True
  | some (p, c) => p ∈ A.W ∧ c ∈ A.W ∧ p ≠ c ∧ PenAt p c n H
/-- what was there and is no one's to change stands as it stood -/
def Keeps (A : Amb) (ρ : En) (H : Hp) (ρ' : En) (H' : Hp) : Prop := ∀ a o, a ∉ owns ρ → ¬ A.isPen a → H a = some o → H' a = some o ∧ a ∉ owns ρ'
theorem Keeps.refl {A : Amb} {ρ : En} {H : Hp} : Keeps A ρ H ρ H := fun _ _ h _ e => ⟨e, h⟩
theorem Keeps.trans {A : Amb} {ρ ρ1 ρ2 : En} {H H1 H2 : Hp} (a : Keeps A ρ H ρ1 H1) (b : Keeps A ρ1 H1 ρ2 H2) : Keeps A ρ H ρ2 H2 := fun x o h1 h2 e => by
  obtain ⟨e1, h3⟩ := a x o h1 h2 e
  exact b x o h3 h2 e1
structure Sat (K : PySem.W.Frag) (A : Amb) (ρ : En) (σ : L2.St) (H : Hp) : Prop where
  sl : Paired (SlotR K (Mt A ρ) H) ρ σ
  nd : (owns ρ ++ A.W).Nodup
structure Here (K : PySem.W.Frag) (A : Amb) (ρ0 : En) (H0 : Hp) (n : Nat) (ρ : En) (σ : L2.St) (H : Hp) : Prop where
  kp : Keeps A ρ0 H0 ρ H
  j : J A n H
  sat : Sat K A ρ σ H

theorem mt_pen {A : Amb} {n : Nat} {H : Hp} {ρ : En} {a : Addr} (j : J A n H) (m : ¬ Mt A ρ a) : a ∉ owns ρ ∧ ¬ A.isPen a := by
  refine ⟨fun z => m (.inl z), fun z => ?_⟩
  unfold Amb.isPen at z
  obtain ⟨_, _, q⟩ := j
  cases hp : A.pen with
  | none => rw [hp] at z; exact z
  | some pc =>
    obtain ⟨p, c⟩ := pc
    rw [hp] at z q
    exact m (.inr (by rw [show a = p from z]; exact q.1))
theorem Keeps.up {A : Amb} {n : Nat} {ρ ρ' : En} {H H' : Hp} (j : J A n H) (k : Keeps A ρ H ρ' H') : ∀ a o, ¬ Mt A ρ a → H a = some o → H' a = some o ∧ ¬ Mt A ρ' a := fun a o m e => by
  obtain ⟨h1, h2⟩ := mt_pen j m
  obtain ⟨e1, h3⟩ := k a o h1 h2 e
  refine ⟨e1, fun z => ?_⟩
  rcases z with z | z
  · exact h3 z
  · exact m (.inr z)
/-- data stay -/
theorem Rep.up {K : PySem.W.Frag} {A : Amb} {n : Nat} {ρ ρ' : En} {H H' : Hp} {v : V} {d : D} (j : J A n H) (k : Keeps A ρ H ρ' H') (r : Rep K (Mt A ρ) H v d) : Rep K (Mt A ρ') H' v d := Rep.mono (k.up j) d r
theorem RepAll.up {K : PySem.W.Frag} {A : Amb} {n : Nat} {ρ ρ' : En} {H H' : Hp} {v : List V} {d : List D} (j : J A n H) (k : Keeps A ρ H ρ' H') (r : RepAll K (Mt A ρ) H v d) : RepAll K (Mt A ρ') H' v d := RepAll.mono (k.up j) d r

/-! ### a new object -/
theorem Keeps.alloc {A : Amb} {ρ : En} {H : Hp} {p : Addr} {o : HO} (hp : H p = none) : Keeps A ρ H ρ (upd H p o) := fun a u h _ e => ⟨by rw [upd_ne (ne_of_none e hp)]; exact e, h⟩
theorem J.alloc {A : Amb} {n : Nat} {H : Hp} {p : Addr} {o : HO} (j : J A n H) (hp : H p = none) : J A n (upd H p o) := by
  obtain ⟨j1, j2, j3⟩ := j
  have ne : ∀ a ∈ A.W, a ≠ p := fun a ha z => j2 a ha (by rw [z]; exact hp)
  refine ⟨fun a ha hn => by rw [upd_ne (ne a ha)]; exact j1 a ha hn, fun a ha => by rw [upd_ne (ne a ha)]; exact j2 a ha, ?_⟩
  cases hq : A.pen with
  | none => trivial
  | some pc =>
    obtain ⟨q, c⟩ := pc
    rw [hq] at j3
    obtain ⟨h1, h2, h0, at_, rest, ns, e1, e2, r⟩ := j3
    exact ⟨h1, h2, h0, at_, rest, ns, by rw [upd_ne (ne q h1)]; exact e1, by rw [upd_ne (ne c h2)]; exact e2, r⟩
theorem slotR_mono {K : PySem.W.Frag} {M : Addr → Prop} {H H' : Hp} (h : ∀ a o, H a = some o → H' a = some o) : ∀ {s : Option S} {v : Option V}, SlotR K M H s v → SlotR K M H' s v := fun {s v} r => by
  have h' : ∀ a o, ¬ M a → H a = some o → H' a = some o ∧ ¬ M a := fun a o m e => ⟨h a o e, m⟩
  cases s with
  | none => cases v <;> trivial
  | some s =>
    cases v with
    | none => cases s <;> exact r
    | some v =>
      cases s with
      | dat d => exact Rep.mono h' d r
      | own p ds =>
        obtain ⟨e, vs, e1, e2⟩ := r
        exact ⟨e, vs, h _ _ e1, RepAll.mono h' ds e2⟩
      | ownK p ds =>
        obtain ⟨e, vs, e1, e2⟩ := r
        exact ⟨e, vs, h _ _ e1, RepKV.mono h' ds e2⟩
theorem paired_mono {α β : Type} {F G : α → β → Prop} (h : ∀ a b, F a b → G a b) : ∀ {l : List α} {m : List β}, Paired F l m → Paired G l m
  | _, _, .nil => .nil
  | _, _, .cons r t => .cons (h _ _ r) (paired_mono h t)
theorem Sat.alloc {K : PySem.W.Frag} {A : Amb} {ρ : En} {σ : L2.St} {H : Hp} {p : Addr} {o : HO} (s : Sat K A ρ σ H) (hp : H p = none) : Sat K A ρ σ (upd H p o) :=
  ⟨paired_mono (fun _ _ r => slotR_mono (fun a u e => by rw [upd_ne (ne_of_none e hp)]; exact e) r) s.sl, s.nd⟩
theorem Here.alloc {K : PySem.W.Frag} {A : Amb} {ρ0 : En} {H0 : Hp} {n : Nat} {ρ : En} {σ : L2.St} {H : Hp} {p : Addr} {o : HO} (h : Here K A ρ0 H0 n ρ σ H) (hp : H p = none) : Here K A ρ0 H0 n ρ σ (upd H p o) :=
  ⟨h.kp.trans (.alloc hp), h.j.alloc hp, h.sat.alloc hp⟩
/-- a new address is no one's -/
theorem mt_new {A : Amb} {K : PySem.W.Frag} {n : Nat} {ρ : En} {σ : L2.St} {H : Hp} {p : Addr} (j : J A n H) (s : Sat K A ρ σ H) (hp : H p = none) : ¬ Mt A ρ p := by
  intro z
  rcases z with z | z
  · have : ∀ {ρ' : En} {σ' : L2.St}, Paired (SlotR K (Mt A ρ) H) ρ' σ' → p ∉ owns ρ' := by
      intro ρ' σ' r
      induction r with
      | nil => simp [owns]
      | @cons a b l m r t ih =>
        intro hm
        simp only [owns, List.mem_append] at hm
        rcases hm with hm | hm
        · cases a with
          | none => simp [addrs] at hm
          | some s =>
            cases b with
            | none => cases s <;> exact r
            | some v =>
              cases s with
              | dat d => simp [addrs] at hm
              | own q ds =>
                simp [addrs] at hm
                subst hm
                obtain ⟨_, vs, e, _⟩ := r
                rw [hp] at e; cases e
              | ownK q ds =>
                simp [addrs] at hm
                subst hm
                obtain ⟨_, vs, e, _⟩ := r
                rw [hp] at e; cases e
        · exact ih hm
    exact this s.sl z
  · exact j.2.1 p z hp
theorem Here.new {K : PySem.W.Frag} {A : Amb} {ρ0 : En} {H0 : Hp} {n : Nat} {ρ : En} {σ : L2.St} {H : Hp} {p : Addr} (h : Here K A ρ0 H0 n ρ σ H) (hp : H p = none) : ¬ Mt A ρ p := mt_new h.j h.sat hp
theorem Rep.alloc {K : PySem.W.Frag} {M : Addr → Prop} {H : Hp} {p : Addr} {o : HO} {v : V} {d : D} (hp : H p = none) (r : Rep K M H v d) : Rep K M (upd H p o) v d :=
  Rep.mono (fun a u m e => ⟨by rw [upd_ne (ne_of_none e hp)]; exact e, m⟩) d r
theorem RepAll.alloc {K : PySem.W.Frag} {M : Addr → Prop} {H : Hp} {p : Addr} {o : HO} {v : List V} {d : List D} (hp : H p = none) (r : RepAll K M H v d) : RepAll K M (upd H p o) v d :=
  RepAll.mono (fun a u m e => ⟨by rw [upd_ne (ne_of_none e hp)]; exact e, m⟩) d r
theorem RepKV.alloc {K : PySem.W.Frag} {M : Addr → Prop} {H : Hp} {p : Addr} {o : HO} {v : List (Key × V)} {d : List (Key × D)} (hp : H p = none) (r : RepKV K M H v d) : RepKV K M (upd H p o) v d :=
  RepKV.mono (fun a u m e => ⟨by rw [upd_ne (ne_of_none e hp)]; exact e, m⟩) d r
end RD

/-! RD1: the judgements. WE: an expression, by plain data; WA: arguments; WB: a test; WF: an expression that makes a list of its own; WI: what is walked; WG: a target; WS: statements. -/
namespace RD
open PySem PySem.Spec PyProof.Rows L2

/-! ### the strongest readings -/
def canE (X : Cx) (e : Expr) : TE := fun σ H Q => ∀ (pins : List (Addr × Obj)) (s : Shared), Inv X pins σ H s → wpAny (model X.prog X.w) X.A (eval e X.env) (EP X pins σ Q) X.xe s
def canT (X : Cx) (e : Expr) : TT := fun σ H Q => ∀ (pins : List (Addr × Obj)) (s : Shared), Inv X pins σ H s → wpAny (model X.prog X.w) X.A (isTrue e X.env (eval e X.env)) (TP X pins σ Q) X.xe s
def canW (X : Cx) (e : Expr) : TT := fun σ H Q => ∀ (whole : Sem Value) (pins : List (Addr × Obj)) (s : Shared), Inv X pins σ H s → wpAny (model X.prog X.w) X.A (isTrue e X.env whole) (TP X pins σ Q) X.xe s
def canA (X : Cx) (es : List Expr) : TA := fun σ H Q => ∀ (pos : Pos) (pins : List (Addr × Obj)) (s : Shared), Inv X pins σ H s → wpAny (model X.prog X.w) X.A (spliced (backTo pos (starEach es X.env))) (AP X pins σ Q) X.xe s
def canK (X : Cx) (kws : List Keyword) : TA := fun σ H Q => ∀ (pos : Pos) (pins : List (Addr × Obj)) (s : Shared), Inv X pins σ H s → wpAny (model X.prog X.w) X.A (evalAll ((backToKw pos (keywordEach kws X.env)).map (·.2))) (AP X pins σ Q) X.xe s
def canS (X : Cx) (st : Stmt) : TS := fun D σ H => ∀ (pins : List (Addr × Obj)) (s : Shared), Inv X pins σ H s → wpAny (model X.prog X.w) X.A (exec st X.env) (SP X pins D) X.xe s
def canSs (X : Cx) (st : List Stmt) : TS := fun D σ H => ∀ (pins : List (Addr × Obj)) (s : Shared), Inv X pins σ H s → wpAny (model X.prog X.w) X.A (execs st X.env) (SP X pins D) X.xe s
def canG (X : Cx) (tg : Expr) : TG := fun v σ H Q => ∀ (pins : List (Addr × Obj)) (s : Shared) (u : Value), Inv X pins σ H s → RelV v u →
    wpAny (model X.prog X.w) X.A (assign tg X.env u) (fun _ s' => ∃ σ' H', Inv X pins σ' H' s' ∧ Q σ' H') X.xe s
def canI (X : Cx) (tg iter : Expr) : TI := fun σ H R => ∀ (pins : List (Addr × Obj)) (s : Shared), Inv X pins σ H s →
    wpAny (model X.prog X.w) X.A (eval iter X.env) (fun v s1 => wpAny (model X.prog X.w) X.A (pyIter v) (PIE X pins σ tg R) X.xe s1) X.xe s
section
variable {X : Cx}
theorem pcan {e : Expr} : PE X e (canE X e) := ⟨fun pins s _ _ _ I h => h pins s I⟩
theorem tcan {e : Expr} : PT X e (canT X e) := ⟨fun pins s _ _ _ I h => h pins s I⟩
theorem wcan {e : Expr} : PW X e (canW X e) := ⟨fun whole pins s _ _ _ I h => h whole pins s I⟩
theorem acan {es : List Expr} : PA X es (canA X es) := ⟨fun pos pins s _ _ _ I h => h pos pins s I⟩
theorem kcan {es : List Keyword} : PK X es (canK X es) := ⟨fun pos pins s _ _ _ I h => h pos pins s I⟩
theorem scan {st : Stmt} : PS X st (canS X st) := ⟨fun pins s _ _ _ I h => h pins s I⟩
theorem sscan {st : List Stmt} : PSs X st (canSs X st) := ⟨fun pins s _ _ _ I h => h pins s I⟩
theorem gcan {tg : Expr} : PG X tg (canG X tg) := ⟨fun pins s _ _ _ u _ I r h => h pins s u I r⟩
theorem icanL {tg iter : Expr} : PI X tg iter (canI X tg iter) := ⟨fun pins s _ _ _ I h => h pins s I⟩
theorem canE.of {e : Expr} {t : TE} (p : PE X e t) {σ : L2.St} {H : Hp} {Q : VK} (h : t σ H Q) : canE X e σ H Q := fun pins s I => p.run pins s σ H Q I h
theorem canT.of {e : Expr} {t : TT} (p : PT X e t) {σ : L2.St} {H : Hp} {Q : Bool → Hp → Prop} (h : t σ H Q) : canT X e σ H Q := fun pins s I => p.run pins s σ H Q I h
theorem canW.of {e : Expr} {t : TT} (p : PW X e t) {σ : L2.St} {H : Hp} {Q : Bool → Hp → Prop} (h : t σ H Q) : canW X e σ H Q := fun whole pins s I => p.run whole pins s σ H Q I h
theorem canA.of {e : List Expr} {t : TA} (p : PA X e t) {σ : L2.St} {H : Hp} {Q : List V → Hp → Prop} (h : t σ H Q) : canA X e σ H Q := fun pos pins s I => p.run pos pins s σ H Q I h
theorem canK.of {e : List Keyword} {t : TA} (p : PK X e t) {σ : L2.St} {H : Hp} {Q : List V → Hp → Prop} (h : t σ H Q) : canK X e σ H Q := fun pos pins s I => p.run pos pins s σ H Q I h
theorem canS.of {e : Stmt} {t : TS} (p : PS X e t) {σ : L2.St} {H : Hp} {D : Ends} (h : t D σ H) : canS X e D σ H := fun pins s I => p.run pins s σ H D I h
theorem canSs.of {e : List Stmt} {t : TS} (p : PSs X e t) {σ : L2.St} {H : Hp} {D : Ends} (h : t D σ H) : canSs X e D σ H := fun pins s I => p.run pins s σ H D I h
theorem canG.of {e : Expr} {t : TG} (p : PG X e t) {v : V} {σ : L2.St} {H : Hp} {Q : L2.St → Hp → Prop} (h : t v σ H Q) : canG X e v σ H Q := fun pins s u I r => p.run pins s σ H v u Q I r h
theorem canI.of {tg e : Expr} {t : TI} (p : PI X tg e t) {σ : L2.St} {H : Hp} {Q : It → Hp → Prop} (h : t σ H Q) : canI X tg e σ H Q := fun pins s I => p.run pins s σ H Q I h
end

/-! ### the judgements -/
def WE (X : Cx) (A : Amb) (e : Expr) (ρ : En) (n : Nat) (k : Nat → En → D → Prop) : Prop :=
  ∀ ρ0 H0 σ H, Here X.K A ρ0 H0 n ρ σ H → ∀ Q : VK, (∀ n' ρ' d v H', k n' ρ' d → Here X.K A ρ0 H0 n' ρ' σ H' → Keeps A ρ H ρ' H' → Rep X.K (Mt A ρ') H' v d → Q v H') → canE X e σ H Q
/-- a list of its own, at p, just made -/
structure Own1 (K : PySem.W.Frag) (A : Amb) (ρ0 : En) (H0 : Hp) (ρ : En) (σ : L2.St) (H : Hp) (p : Addr) (vs : List V) (ds : List D) : Prop where
  ob : H p = some (.lst vs)
  nm : ¬ Mt A ρ p
  nw : ∀ o, p ∉ owns ρ0 → ¬ A.isPen p → H0 p ≠ some o
  sl : Paired (SlotR K (fun a => Mt A ρ a ∨ a = p) H) ρ σ
  rp : RepAll K (fun a => Mt A ρ a ∨ a = p) H vs ds
def WF (X : Cx) (A : Amb) (e : Expr) (ρ : En) (n : Nat) (k : Nat → En → List D → Prop) : Prop :=
  ∀ ρ0 H0 σ H, Here X.K A ρ0 H0 n ρ σ H → ∀ Q : VK, (∀ n' ρ' ds p vs H', k n' ρ' ds → Here X.K A ρ0 H0 n' ρ' σ H' → Keeps A ρ H ρ' H' → Own1 X.K A ρ0 H0 ρ' σ H' p vs ds → Q (.ref p) H') → canE X e σ H Q
def WA (X : Cx) (A : Amb) (es : List Expr) (ρ : En) (n : Nat) (k : Nat → En → List D → Prop) : Prop :=
  ∀ ρ0 H0 σ H, Here X.K A ρ0 H0 n ρ σ H → ∀ Q : List V → Hp → Prop, (∀ n' ρ' ds vs H', k n' ρ' ds → Here X.K A ρ0 H0 n' ρ' σ H' → Keeps A ρ H ρ' H' → RepAll X.K (Mt A ρ') H' vs ds → Q vs H') → canA X es σ H Q
def WK (X : Cx) (A : Amb) (es : List Keyword) (ρ : En) (n : Nat) (k : Nat → En → List D → Prop) : Prop :=
  ∀ ρ0 H0 σ H, Here X.K A ρ0 H0 n ρ σ H → ∀ Q : List V → Hp → Prop, (∀ n' ρ' ds vs H', k n' ρ' ds → Here X.K A ρ0 H0 n' ρ' σ H' → Keeps A ρ H ρ' H' → RepAll X.K (Mt A ρ') H' vs ds → Q vs H') → canK X es σ H Q
def WB (X : Cx) (A : Amb) (e : Expr) (ρ : En) (n : Nat) (k : Nat → En → Bool → Prop) : Prop :=
  ∀ ρ0 H0 σ H, Here X.K A ρ0 H0 n ρ σ H → ∀ Q : Bool → Hp → Prop, (∀ n' ρ' b H', k n' ρ' b → Here X.K A ρ0 H0 n' ρ' σ H' → Keeps A ρ H ρ' H' → Q b H') → canT X e σ H Q
/-- the same for any whole (and, or) -/
def WW (X : Cx) (A : Amb) (e : Expr) (ρ : En) (n : Nat) (k : Nat → En → Bool → Prop) : Prop :=
  ∀ ρ0 H0 σ H, Here X.K A ρ0 H0 n ρ σ H → ∀ Q : Bool → Hp → Prop, (∀ n' ρ' b H', k n' ρ' b → Here X.K A ρ0 H0 n' ρ' σ H' → Keeps A ρ H ρ' H' → Q b H') → canW X e σ H Q
/-- what an iterator yields -/
def Src (K : PySem.W.Frag) (M : Addr → Prop) (H : Hp) (Jt : It) (ds : List D) : Prop := ∀ (M' : Addr → Prop) (H' : Hp), (∀ a o, ¬ M a → H a = some o → H' a = some o ∧ ¬ M' a) →
  (∀ i, i < ds.length → Jt.go i H') ∧ Jt.stop ds.length H' ∧ ∀ i d x H'', ds[i]? = some d → Jt.yld i H' x H'' → (∀ T, H' T = none → ¬ M' T) → (H'' = H' ∨ ∃ T o, H' T = none ∧ H'' = upd H' T o) ∧ Rep K M' H'' x d
def WI (X : Cx) (A : Amb) (tg iter : Expr) (ρ : En) (n : Nat) (k : Nat → En → List D → Prop) : Prop :=
  ∀ ρ0 H0 σ H, Here X.K A ρ0 H0 n ρ σ H → ∀ R : It → Hp → Prop, (∀ n' ρ' ds Jt H', k n' ρ' ds → Here X.K A ρ0 H0 n' ρ' σ H' → Keeps A ρ H ρ' H' → Src X.K (Mt A ρ') H' Jt ds → R Jt H') → canI X tg iter σ H R
def WG (X : Cx) (A : Amb) (tg : Expr) (d : D) (ρ : En) (n : Nat) (k : Nat → En → Prop) : Prop :=
  ∀ ρ0 H0 σ H v, Here X.K A ρ0 H0 n ρ σ H → Rep X.K (Mt A ρ) H v d → ∀ Q : L2.St → Hp → Prop, (∀ n' ρ' σ' H', k n' ρ' → Here X.K A ρ0 H0 n' ρ' σ' H' → Keeps A ρ H ρ' H' → Q σ' H') → canG X tg v σ H Q
/-- several targets -/
def canGs (X : Cx) (ts : List Expr) : TGs := fun vs σ H Q => ∀ (pins : List (Addr × Obj)) (s : Shared) (us : List Value), Inv X pins σ H s → Vals vs us →
    wpAny (model X.prog X.w) X.A (assignInOrder ((assignEach ts X.env).map (·.2)) us) (fun _ s' => ∃ σ' H', Inv X pins σ' H' s' ∧ Q σ' H') X.xe s
theorem gscan {X : Cx} {ts : List Expr} : PGs X ts (canGs X ts) := ⟨fun pins s _ _ _ us _ I r h => h pins s us I r⟩
theorem canGs.of {X : Cx} {e : List Expr} {t : TGs} (p : PGs X e t) {v : List V} {σ : L2.St} {H : Hp} {Q : L2.St → Hp → Prop} (h : t v σ H Q) : canGs X e v σ H Q := fun pins s u I r => p.run pins s σ H v u Q I r h
def WGs (X : Cx) (A : Amb) (ts : List Expr) (ds : List D) (ρ : En) (n : Nat) (k : Nat → En → Prop) : Prop :=
  ∀ ρ0 H0 σ H vs, Here X.K A ρ0 H0 n ρ σ H → RepAll X.K (Mt A ρ) H vs ds → ∀ Q : L2.St → Hp → Prop, (∀ n' ρ' σ' H', k n' ρ' → Here X.K A ρ0 H0 n' ρ' σ' H' → Keeps A ρ H ρ' H' → Q σ' H') → canGs X ts vs σ H Q
/-- what is wanted behind statements -/
structure En4 where
  nx : Nat → En → Prop
  rt : Nat → En → D → Prop
  bk : Nat → En → Prop := fun _ _ => False
  ct : Nat → En → Prop := fun _ _ => False
structure Fits (X : Cx) (A : Amb) (ρ0 : En) (H0 : Hp) (E : En4) (D : Ends) : Prop where
  nx : ∀ n ρ σ H, E.nx n ρ → Here X.K A ρ0 H0 n ρ σ H → D.nx σ H
  rt : ∀ n ρ σ H d v, E.rt n ρ d → Here X.K A ρ0 H0 n ρ σ H → Rep X.K (Mt A ρ) H v d → D.rt v H
  bk : ∀ n ρ σ H, E.bk n ρ → Here X.K A ρ0 H0 n ρ σ H → D.bk σ H
  ct : ∀ n ρ σ H, E.ct n ρ → Here X.K A ρ0 H0 n ρ σ H → D.ct σ H
def WS1 (X : Cx) (A : Amb) (st : Stmt) (ρ : En) (n : Nat) (E : En4) : Prop :=
  ∀ ρ0 H0 σ H, Here X.K A ρ0 H0 n ρ σ H → ∀ D : Ends, Fits X A ρ0 H0 E D → canS X st D σ H
def WS (X : Cx) (A : Amb) (sts : List Stmt) (ρ : En) (n : Nat) (E : En4) : Prop :=
  ∀ ρ0 H0 σ H, Here X.K A ρ0 H0 n ρ σ H → ∀ D : Ends, Fits X A ρ0 H0 E D → canSs X sts D σ H

/-! ### weakening -/
section
variable {X : Cx} {A : Amb} {ρ : En} {n : Nat} {e : Expr}
theorem WE.mono {k k' : Nat → En → D → Prop} (h : WE X A e ρ n k) (m : ∀ n ρ d, k n ρ d → k' n ρ d) : WE X A e ρ n k' := fun ρ0 H0 σ H hh Q q => h ρ0 H0 σ H hh Q fun n' ρ' d v H' kk => q n' ρ' d v H' (m _ _ _ kk)
theorem WB.mono {k k' : Nat → En → Bool → Prop} (h : WB X A e ρ n k) (m : ∀ n ρ d, k n ρ d → k' n ρ d) : WB X A e ρ n k' := fun ρ0 H0 σ H hh Q q => h ρ0 H0 σ H hh Q fun n' ρ' d H' kk => q n' ρ' d H' (m _ _ _ kk)
theorem WA.mono {es : List Expr} {k k' : Nat → En → List D → Prop} (h : WA X A es ρ n k) (m : ∀ n ρ d, k n ρ d → k' n ρ d) : WA X A es ρ n k' := fun ρ0 H0 σ H hh Q q => h ρ0 H0 σ H hh Q fun n' ρ' d v H' kk => q n' ρ' d v H' (m _ _ _ kk)
theorem WF.mono {k k' : Nat → En → List D → Prop} (h : WF X A e ρ n k) (m : ∀ n ρ d, k n ρ d → k' n ρ d) : WF X A e ρ n k' := fun ρ0 H0 σ H hh Q q => h ρ0 H0 σ H hh Q fun n' ρ' d p v H' kk => q n' ρ' d p v H' (m _ _ _ kk)
theorem Fits.mono {ρ0 : En} {H0 : Hp} {E E' : En4} {D : Ends} (f : Fits X A ρ0 H0 E D) (h1 : ∀ n ρ, E'.nx n ρ → E.nx n ρ) (h2 : ∀ n ρ d, E'.rt n ρ d → E.rt n ρ d) (h3 : ∀ n ρ, E'.bk n ρ → E.bk n ρ) (h4 : ∀ n ρ, E'.ct n ρ → E.ct n ρ) : Fits X A ρ0 H0 E' D :=
  ⟨fun n ρ σ H h => f.nx n ρ σ H (h1 _ _ h), fun n ρ σ H d v h => f.rt n ρ σ H d v (h2 _ _ _ h), fun n ρ σ H h => f.bk n ρ σ H (h3 _ _ h), fun n ρ σ H h => f.ct n ρ σ H (h4 _ _ h)⟩
theorem WS.mono {sts : List Stmt} {E E' : En4} (h : WS X A sts ρ n E) (h1 : ∀ n ρ, E.nx n ρ → E'.nx n ρ) (h2 : ∀ n ρ d, E.rt n ρ d → E'.rt n ρ d) (h3 : ∀ n ρ, E.bk n ρ → E'.bk n ρ := by intros; assumption) (h4 : ∀ n ρ, E.ct n ρ → E'.ct n ρ := by intros; assumption) : WS X A sts ρ n E' :=
  fun ρ0 H0 σ H hh D f => h ρ0 H0 σ H hh D (f.mono h1 h2 h3 h4)
/-- a list of one's own is data, too -/
theorem WF.we {k : Nat → En → D → Prop} (h : WF X A e ρ n fun n ρ ds => k n ρ (.lst ds)) : WE X A e ρ n k := by
  intro ρ0 H0 σ H hh Q q
  refine h ρ0 H0 σ H hh Q fun n' ρ' ds p vs H' kk h' kp o => q n' ρ' _ _ H' kk h' kp ?_
  exact .lst o.nm o.ob (RepAll.mono (fun a o ha ea => ⟨ea, fun z => ha (.inl z)⟩) _ o.rp)

/-! ### names, constants -/
theorem slot_get {K : PySem.W.Frag} {M : Addr → Prop} {H : Hp} : ∀ {ρ : En} {σ : L2.St} {i : Nat} {s : S}, Paired (SlotR K M H) ρ σ → ρ[i]? = some (some s) → ∃ v, σ[i]? = some (some v) ∧ SlotR K M H (some s) (some v)
  | _, _, _, _, .nil, e => by simp at e
  | _, _, 0, s, .cons (b := b) r _, e => by
    have e' := Option.some.inj (show some _ = some (some s) from e)
    subst e'
    cases b with
    | none => cases s <;> exact r.elim
    | some v => exact ⟨v, rfl, r⟩
  | _, _, i + 1, s, .cons _ t, e => by
    obtain ⟨v, h1, h2⟩ := slot_get (i := i) (s := s) t (by simpa using e)
    exact ⟨v, by simpa using h1, h2⟩
theorem we_name (i : Nat) {x : Str} {pos : Pos} {d : D} {k : Nat → En → D → Prop} (hd : ρ[i]? = some (some (.dat d))) (h : k n ρ d) (hN : X.N[i]? = some x := by rfl) (hv : Vis X.env.scope x := by first | exact Or.inl rfl | exact Or.inr (Or.inl rfl) | exact Or.inr (Or.inr rfl)) (hdb : (x == ("__debug__" : Str)) = false := by decide)
    (hcd : (x == ("__classdict__" : Str)) = false := by decide) : WE X A (.Name x pos) ρ n k := by
  intro ρ0 H0 σ H hh Q q
  obtain ⟨v, e, r⟩ := slot_get hh.sat.sl hd
  exact canE.of (pe_var hN hv hdb hcd) ⟨v, e, q n ρ d v H h hh .refl r⟩
theorem we_int {i : Int} {j pos} {k : Nat → En → D → Prop} (h : k n ρ (.int i)) : WE X A (.Constant (.int i) j pos) ρ n k := fun ρ0 H0 σ H hh Q q => canE.of pe_int (q n ρ _ _ H h hh .refl (.int i))
theorem we_bl {i : Bool} {j pos} {k : Nat → En → D → Prop} (h : k n ρ (.bl i)) : WE X A (.Constant (.bool i) j pos) ρ n k := fun ρ0 H0 σ H hh Q q => canE.of pe_bl (q n ρ _ _ H h hh .refl (.bl i))
theorem we_non {j pos} {k : Nat → En → D → Prop} (h : k n ρ .non) : WE X A (.Constant .none j pos) ρ n k := fun ρ0 H0 σ H hh Q q => canE.of pe_non (q n ρ _ _ H h hh .refl .non)
theorem we_str {i : Str} {j pos} {k : Nat → En → D → Prop} (h : k n ρ (.str i)) : WE X A (.Constant (.str i) j pos) ρ n k := fun ρ0 H0 σ H hh Q q => canE.of pe_str (q n ρ _ _ H h hh .refl (.str i))
/-- a name of the module, of a builtin, as it is -/
theorem we_glob {x : Str} {v : V} {u : Value} {pos : Pos} {k : Nat → En → D → Prop} (hm : X.mg x = some u) (r : RelV v u) (h : k n ρ (.raw v)) (hg : Gl X x := by rfl) (hd : (x == ("__debug__" : Str)) = false := by decide) : WE X A (.Name x pos) ρ n k :=
  fun ρ0 H0 σ H hh Q q => canE.of (pe_glob hg hm r hd) (q n ρ _ _ H h hh .refl (.raw v))

/-! ### operators -/
/-- an operation by values on data -/
def OpD (K : PySem.W.Frag) (A : Amb) (r : R2) (ρ : En) (x y : D) (k : D → Prop) : Prop := ∀ n σ ρ0 H0 H vx vy (Q : VK), Here K A ρ0 H0 n ρ σ H → Rep K (Mt A ρ) H vx x → Rep K (Mt A ρ) H vy y →
  (∀ d v H', k d → Here K A ρ0 H0 n ρ σ H' → Keeps A ρ H ρ H' → Rep K (Mt A ρ) H' v d → Q v H') → r vx vy H Q
def UnD (K : PySem.W.Frag) (A : Amb) (r : V → Hp → VK → Prop) (ρ : En) (x : D) (k : D → Prop) : Prop := ∀ n σ ρ0 H0 H vx (Q : VK), Here K A ρ0 H0 n ρ σ H → Rep K (Mt A ρ) H vx x →
  (∀ d v H', k d → Here K A ρ0 H0 n ρ σ H' → Keeps A ρ H ρ H' → Rep K (Mt A ρ) H' v d → Q v H') → r vx H Q
def CallD (K : PySem.W.Frag) (A : Amb) (r : List V → Hp → VK → Prop) (ρ : En) (xs : List D) (k : D → Prop) : Prop := ∀ n σ ρ0 H0 H vs (Q : VK), Here K A ρ0 H0 n ρ σ H → RepAll K (Mt A ρ) H vs xs →
  (∀ d v H', k d → Here K A ρ0 H0 n ρ σ H' → Keeps A ρ H ρ H' → Rep K (Mt A ρ) H' v d → Q v H') → r vs H Q
variable {a b c : Expr} {k : Nat → En → D → Prop} {pos : Pos}
theorem t2_can {r : R2} (h : WE X A a ρ n fun n1 ρ1 x => WE X A b ρ1 n1 fun n2 ρ2 y => OpD X.K A r ρ2 x y (k n2 ρ2)) : ∀ ρ0 H0 σ H, Here X.K A ρ0 H0 n ρ σ H → ∀ Q : VK, (∀ n' ρ' d v H', k n' ρ' d → Here X.K A ρ0 H0 n' ρ' σ H' → Keeps A ρ H ρ' H' → Rep X.K (Mt A ρ') H' v d → Q v H') →
    tOp r (canE X a) (canE X b) σ H Q := by
  intro ρ0 H0 σ H hh Q q
  refine h ρ0 H0 σ H hh _ fun n1 ρ1 x vx H1 h1 hh1 k1 r1 => ?_
  refine h1 ρ0 H0 σ H1 hh1 _ fun n2 ρ2 y vy H2 h2 hh2 k2 r2 => ?_
  exact h2 n2 σ ρ0 H0 H2 vx vy Q hh2 (r1.up hh1.j k2) r2 fun d v H' kk hh' k3 r3 => q n2 ρ2 d v H' kk hh' ((k1.trans k2).trans k3) r3
theorem we_op {op : Operator} {r : R2} (ho : OpR X (binaryOp op) r) (h : WE X A a ρ n fun n1 ρ1 x => WE X A b ρ1 n1 fun n2 ρ2 y => OpD X.K A r ρ2 x y (k n2 ρ2)) : WE X A (.BinOp a op b pos) ρ n k :=
  fun ρ0 H0 σ H hh Q q => canE.of (pe_op ho pcan pcan) (t2_can h ρ0 H0 σ H hh Q q)
theorem we_cmp {op : CmpOp} {r : R2} (ho : OpR X (compareOp op) r) (h : WE X A a ρ n fun n1 ρ1 x => WE X A b ρ1 n1 fun n2 ρ2 y => OpD X.K A r ρ2 x y (k n2 ρ2)) (hm : behindInMarks op b = false := by first | exact nomark _ | rfl) : WE X A (.Compare a [op] [b] pos) ρ n k :=
  fun ρ0 H0 σ H hh Q q => canE.of (pe_cmpR ho pcan pcan hm) (t2_can h ρ0 H0 σ H hh Q q)
theorem we_un {op : UnaryOp} {r : V → Hp → VK → Prop} (ho : UnR X (unaryOp op) r) (h : WE X A a ρ n fun n1 ρ1 x => UnD X.K A r ρ1 x (k n1 ρ1)) : WE X A (.UnaryOp op a pos) ρ n k := by
  intro ρ0 H0 σ H hh Q q
  refine canE.of (pe_un ho pcan) ?_
  refine h ρ0 H0 σ H hh _ fun n1 ρ1 x vx H1 h1 hh1 k1 r1 => ?_
  exact h1 n1 σ ρ0 H0 H1 vx Q hh1 r1 fun d v H' kk hh' k3 r3 => q n1 ρ1 d v H' kk hh' (k1.trans k3) r3
theorem we_ix {r : R2} (hr : IxR X r) (h : WE X A a ρ n fun n1 ρ1 x => WE X A b ρ1 n1 fun n2 ρ2 y => OpD X.K A r ρ2 x y (k n2 ρ2)) (hs : PlainIx b := by exact fun _ _ => rfl) : WE X A (.Subscript a b pos) ρ n k :=
  fun ρ0 H0 σ H hh Q q => canE.of (pe_ix hr pcan pcan hs) (t2_can h ρ0 H0 σ H hh Q q)
/-- two ints -/
theorem od_I0 {g : Int → Int → V} {d : Int → Int → D} {i j : Int} {k : D → Prop} (hg : ∀ (K : PySem.W.Frag) M H, Rep K M H (g i j) (d i j)) (h : k (d i j)) {K : PySem.W.Frag} : OpD K A (rI0 g) ρ (.int i) (.int j) k := by
  intro n σ ρ0 H0 H vx vy Q hh r1 r2 q
  cases r1; cases r2
  exact ⟨i, j, rfl, rfl, q _ _ H h hh .refl (hg _ _ _)⟩
theorem od_I {C : Int → Int → Prop} {g : Int → Int → V} {d : Int → Int → D} {i j : Int} {k : D → Prop} (hg : ∀ (K : PySem.W.Frag) M H, Rep K M H (g i j) (d i j)) (hc : C i j) (h : k (d i j)) {K : PySem.W.Frag} : OpD K A (rI C g) ρ (.int i) (.int j) k := by
  intro n σ ρ0 H0 H vx vy Q hh r1 r2 q
  cases r1; cases r2
  exact ⟨i, j, rfl, rfl, hc, q _ _ H h hh .refl (hg _ _ _)⟩
end
end RD

/-! RD2: rules: arguments, displays, tests, statements, loops. -/
namespace RD
open PySem PySem.Spec PyProof.Rows L2

/-! ### slots -/
theorem owns_set_dat : ∀ {ρ : En} {i : Nat} {s : Option S}, addrs s = [] → (owns (ρ.set i s)).Sublist (owns ρ)
  | [], _, _, _ => by simp [owns]
  | x :: ρ, 0, s, h => by
    show (addrs s ++ owns ρ).Sublist (addrs x ++ owns ρ)
    rw [h]
    exact List.sublist_append_right _ _
  | x :: ρ, i + 1, s, h => by
    show (addrs x ++ owns (ρ.set i s)).Sublist (addrs x ++ owns ρ)
    exact List.Sublist.append (List.Sublist.refl _) (owns_set_dat h)
theorem slotR_anti {K : PySem.W.Frag} {M M' : Addr → Prop} {H : Hp} (h : ∀ a, M' a → M a) : ∀ {s : Option S} {v : Option V}, SlotR K M H s v → SlotR K M' H s v := fun {s v} r => by
  have h' : ∀ a o, ¬ M a → H a = some o → H a = some o ∧ ¬ M' a := fun a o m e => ⟨e, fun z => m (h a z)⟩
  cases s with
  | none => cases v <;> trivial
  | some s =>
    cases v with
    | none => cases s <;> exact r
    | some v =>
      cases s with
      | dat d => exact Rep.mono h' d r
      | own p ds =>
        obtain ⟨e, vs, e1, e2⟩ := r
        exact ⟨e, vs, e1, RepAll.mono h' ds e2⟩
      | ownK p ds =>
        obtain ⟨e, vs, e1, e2⟩ := r
        exact ⟨e, vs, e1, RepKV.mono h' ds e2⟩
theorem paired_set {α β : Type} {F : α → β → Prop} {a : α} {b : β} (r : F a b) : ∀ {l : List α} {m : List β} (i : Nat), Paired F l m → Paired F (l.set i a) (m.set i b)
  | _, _, _, .nil => .nil
  | _, _, 0, .cons _ t => .cons r t
  | _, _, i + 1, .cons q t => .cons q (paired_set r i t)
theorem mt_sub {A : Amb} {ρ ρ' : En} (h : (owns ρ').Sublist (owns ρ)) : ∀ a, Mt A ρ' a → Mt A ρ a := fun a m => m.elim (fun z => .inl (h.subset z)) .inr
theorem Keeps.sub {A : Amb} {ρ ρ' : En} {H : Hp} (h : (owns ρ').Sublist (owns ρ)) : Keeps A ρ H ρ' H := fun a o m _ e => ⟨e, fun z => m (h.subset z)⟩
section
variable {K : PySem.W.Frag} {A : Amb} {ρ0 ρ : En} {H0 H : Hp} {n : Nat} {σ : L2.St} {v : V} {d : D}
/-- a name is given a datum -/
theorem Here.set (h : Here K A ρ0 H0 n ρ σ H) (i : Nat) (r : Rep K (Mt A ρ) H v d) : Here K A ρ0 H0 n (ρ.set i (some (.dat d))) (σ.set i (some v)) H := by
  have hs : (owns (ρ.set i (some (.dat d)))).Sublist (owns ρ) := owns_set_dat rfl
  have hm := mt_sub (A := A) hs
  refine ⟨h.kp.trans (.sub hs), h.j, ⟨paired_set (F := SlotR K (Mt A (ρ.set i (some (.dat d)))) H) ?_ i (paired_mono (fun _ _ z => slotR_anti hm z) h.sat.sl), ?_⟩⟩
  · exact Rep.mono (fun a o m e => ⟨e, fun z => m (hm a z)⟩) d r
  · exact h.sat.nd.sublist (List.Sublist.append hs (List.Sublist.refl _))
theorem owns_set_own : ∀ {ρ : En} {i : Nat} {s : Option S} {p : Addr}, addrs s = [p] → i < ρ.length → ∃ l1 l2, owns (ρ.set i s) = l1 ++ p :: l2 ∧ (l1 ++ l2).Sublist (owns ρ)
  | [], _, _, _, _, hi => absurd hi (Nat.not_lt_zero _)
  | x :: ρ, 0, s, p, h, _ => ⟨[], owns ρ, by show addrs s ++ owns ρ = _; rw [h]; rfl, by show (owns ρ).Sublist (addrs x ++ owns ρ); exact List.sublist_append_right _ _⟩
  | x :: ρ, i + 1, s, p, h, hi => by
    obtain ⟨l1, l2, e, hs⟩ := owns_set_own (ρ := ρ) (i := i) h (Nat.lt_of_succ_lt_succ hi)
    refine ⟨addrs x ++ l1, l2, ?_, ?_⟩
    · show addrs x ++ owns (ρ.set i s) = _
      rw [e, List.append_assoc]
    · show (addrs x ++ l1 ++ l2).Sublist (addrs x ++ owns ρ)
      rw [List.append_assoc]
      exact List.Sublist.append (List.Sublist.refl _) hs
theorem paired_len {α β : Type} {F : α → β → Prop} : ∀ {l : List α} {m : List β}, Paired F l m → l.length = m.length
  | _, _, .nil => rfl
  | _, _, .cons _ t => congrArg Nat.succ (paired_len t)
/-- a slot is given a list (a dict) of its own at p -/
theorem Here.setAt (h : Here K A ρ0 H0 n ρ σ H) (i : Nat) {p : Addr} {s : S} (ha : addrs (some s) = [p]) (hi : i < ρ.length) (hp : ¬ Mt A ρ p) (hf : ∀ o, p ∉ owns ρ0 → ¬ A.isPen p → H0 p ≠ some o) (r : SlotR K (fun a => Mt A ρ a ∨ a = p) H (some s) (some (.ref p)))
    (hu : Paired (SlotR K (fun a => Mt A ρ a ∨ a = p) H) ρ σ) : Here K A ρ0 H0 n (ρ.set i (some s)) (σ.set i (some (.ref p))) H := by
  obtain ⟨l1, l2, e, hs⟩ := owns_set_own (s := some s) ha hi
  have mem : ∀ a, a ∈ owns (ρ.set i (some s)) → a ∈ owns ρ ∨ a = p := fun a m => by
    rw [e] at m
    rcases List.mem_append.mp m with z | z
    · exact .inl (hs.subset (List.mem_append_left _ z))
    · rcases List.mem_cons.mp z with z | z
      · exact .inr z
      · exact .inl (hs.subset (List.mem_append_right _ z))
  have hm : ∀ a, Mt A (ρ.set i (some s)) a → Mt A ρ a ∨ a = p := fun a m => by
    rcases m with m | m
    · rcases mem a m with z | z
      · exact .inl (.inl z)
      · exact .inr z
    · exact .inl (.inr m)
  refine ⟨fun a o h1 h2 e1 => ?_, h.j, ⟨paired_set (F := SlotR K (Mt A (ρ.set i (some s))) H) (slotR_anti hm r) i (paired_mono (fun _ _ z => slotR_anti hm z) hu), ?_⟩⟩
  · obtain ⟨e2, h3⟩ := h.kp a o h1 h2 e1
    refine ⟨e2, fun z => ?_⟩
    rcases mem a z with z | z
    · exact h3 z
    · subst z; exact hf o h1 h2 e1
  · rw [e]
    have nd := h.sat.nd
    have hpO : p ∉ owns ρ := fun z => hp (.inl z)
    have hpW : p ∉ A.W := fun z => hp (.inr z)
    have nd2 : ((l1 ++ l2) ++ A.W).Nodup := nd.sublist (List.Sublist.append hs (List.Sublist.refl _))
    have hp12 : p ∉ l1 ++ l2 := fun z => hpO (hs.subset z)
    rw [List.nodup_append] at nd2 ⊢
    obtain ⟨n1, n2, n3⟩ := nd2
    refine ⟨?_, n2, ?_⟩
    · rw [List.nodup_append] at n1 ⊢
      obtain ⟨m1, m2, m3⟩ := n1
      refine ⟨m1, List.nodup_cons.mpr ⟨fun z => hp12 (List.mem_append_right _ z), m2⟩, fun a ha b hb z => ?_⟩
      rcases List.mem_cons.mp hb with q | q
      · exact hp12 (List.mem_append_left _ (by rw [← q, ← z]; exact ha))
      · exact m3 a ha b q z
    · intro a ha b hb z
      rcases List.mem_append.mp ha with q | q
      · exact n3 a (List.mem_append_left _ q) b hb z
      · rcases List.mem_cons.mp q with q | q
        · exact hpW (by rw [← q, z]; exact hb)
        · exact n3 a (List.mem_append_right _ q) b hb z
end

/-! ### arguments -/
section
variable {X : Cx} {A : Amb} {ρ : En} {n : Nat} {e a b c : Expr} {es : List Expr} {k : Nat → En → D → Prop} {kl : Nat → En → List D → Prop} {kb : Nat → En → Bool → Prop} {pos : Pos}
theorem wa_nil (h : kl n ρ []) : WA X A [] ρ n kl := fun ρ0 H0 σ H hh Q q => canA.of pa_nil (q n ρ [] [] H h hh .refl .nil)
theorem wa_cons (h : WE X A e ρ n fun n1 ρ1 d => WA X A es ρ1 n1 fun n2 ρ2 ds => kl n2 ρ2 (d :: ds)) (hs : starEach (e :: es) X.env = (false, eval e X.env) :: starEach es X.env := by rfl) : WA X A (e :: es) ρ n kl := by
  intro ρ0 H0 σ H hh Q q
  refine canA.of (pa_cons pcan acan hs) ?_
  refine h ρ0 H0 σ H hh _ fun n1 ρ1 d v H1 h1 hh1 k1 r1 => ?_
  refine h1 ρ0 H0 σ H1 hh1 _ fun n2 ρ2 ds vs H2 h2 hh2 k2 r2 => ?_
  exact q n2 ρ2 _ _ H2 h2 hh2 (k1.trans k2) (.cons (r1.up hh1.j k2) r2)
theorem wk_nil (h : kl n ρ []) : WK X A [] ρ n kl := fun ρ0 H0 σ H hh Q q => canK.of pk_nil (q n ρ [] [] H h hh .refl .nil)
theorem wk_cons {nm : Option Str} {kpos : Pos} {kws : List Keyword} (h : WE X A e ρ n fun n1 ρ1 d => WK X A kws ρ1 n1 fun n2 ρ2 ds => kl n2 ρ2 (d :: ds)) : WK X A (⟨nm, e, kpos⟩ :: kws) ρ n kl := by
  intro ρ0 H0 σ H hh Q q
  refine canK.of (pk_cons pcan kcan) ?_
  refine h ρ0 H0 σ H hh _ fun n1 ρ1 d v H1 h1 hh1 k1 r1 => ?_
  refine h1 ρ0 H0 σ H1 hh1 _ fun n2 ρ2 ds vs H2 h2 hh2 k2 r2 => ?_
  exact q n2 ρ2 _ _ H2 h2 hh2 (k1.trans k2) (.cons (r1.up hh1.j k2) r2)
theorem sz_le {m : Nat} (h : m ≤ 100000) : m ≤ sizeLine := Nat.le_trans h (by decide)
/-- (a, b, ..) -/
theorem we_tup {x1} (h : WA X A es ρ n fun n ρ ds => ds.length ≤ 100000 ∧ k n ρ (.tup ds)) : WE X A (.Tuple es x1 pos) ρ n k := by
  intro ρ0 H0 σ H hh Q q
  refine canE.of (pe_tup acan) ?_
  refine h ρ0 H0 σ H hh _ fun n1 ρ1 ds vs H1 h1 hh1 k1 r1 => ⟨?_, fun p hp => ?_⟩
  · rw [r1.length]; exact sz_le h1.1
  · exact q n1 ρ1 _ _ _ h1.2 (hh1.alloc hp) (k1.trans (.alloc hp)) (.tup (.inl ⟨hh1.new hp, .inl upd_same⟩) (r1.alloc hp))
/-- a list just made -/
theorem slotR_new {K : PySem.W.Frag} {M : Addr → Prop} {H : Hp} {p : Addr} {o : HO} (hp : H p = none) : ∀ {s : Option S} {v : Option V}, SlotR K M H s v → SlotR K (fun a => M a ∨ a = p) (upd H p o) s v := fun {s v} r => by
  have h' : ∀ a u, ¬ M a → H a = some u → upd H p o a = some u ∧ ¬ (M a ∨ a = p) := fun a u m e => ⟨by rw [upd_ne (ne_of_none e hp)]; exact e, fun z => z.elim m fun z => ne_of_none e hp z⟩
  cases s with
  | none => cases v <;> trivial
  | some s =>
    cases v with
    | none => cases s <;> exact r
    | some v =>
      cases s with
      | dat d => exact Rep.mono h' d r
      | own q ds =>
        obtain ⟨e, vs, e1, e2⟩ := r
        exact ⟨e, vs, by rw [upd_ne (ne_of_none e1 hp)]; exact e1, RepAll.mono h' ds e2⟩
      | ownK q ds =>
        obtain ⟨e, vs, e1, e2⟩ := r
        exact ⟨e, vs, by rw [upd_ne (ne_of_none e1 hp)]; exact e1, RepKV.mono h' ds e2⟩
theorem repAll_new {K : PySem.W.Frag} {M : Addr → Prop} {H : Hp} {p : Addr} {o : HO} {vs : List V} {ds : List D} (hp : H p = none) (r : RepAll K M H vs ds) : RepAll K (fun a => M a ∨ a = p) (upd H p o) vs ds :=
  RepAll.mono (fun a u m e => ⟨by rw [upd_ne (ne_of_none e hp)]; exact e, fun z => z.elim m fun z => ne_of_none e hp z⟩) ds r
theorem Here.own1 {K : PySem.W.Frag} {ρ0 : En} {H0 H : Hp} {σ : L2.St} {p : Addr} {vs : List V} {ds : List D} (h : Here K A ρ0 H0 n ρ σ H) (hp : H p = none) (r : RepAll K (Mt A ρ) H vs ds) : Own1 K A ρ0 H0 ρ σ (upd H p (.lst vs)) p vs ds :=
  ⟨upd_same, h.new hp, fun o h1 h2 e => (by
    have := (h.kp p o h1 h2 e).1
    rw [hp] at this; cases this), paired_mono (fun _ _ z => slotR_new hp z) h.sat.sl, repAll_new hp r⟩
/-- [a, b, ..] -/
theorem wf_lst (h : WA X A es ρ n fun n ρ ds => ds.length ≤ 100000 ∧ kl n ρ ds) : WF X A (.List es pos) ρ n kl := by
  intro ρ0 H0 σ H hh Q q
  refine canE.of (pe_lst acan) ?_
  refine h ρ0 H0 σ H hh _ fun n1 ρ1 ds vs H1 h1 hh1 k1 r1 => ⟨?_, fun p hp => ?_⟩
  · rw [r1.length]; exact sz_le h1.1
  · exact q n1 ρ1 _ p vs _ h1.2 (hh1.alloc hp) (k1.trans (.alloc hp)) (hh1.own1 hp r1)
theorem we_lst (h : WA X A es ρ n fun n ρ ds => ds.length ≤ 100000 ∧ k n ρ (.lst ds)) : WE X A (.List es pos) ρ n k := (wf_lst (kl := fun n ρ ds => k n ρ (.lst ds)) h).we

/-! ### tests -/
/-- a value that is a truth (a name, a call, ..) -/
theorem wb_val (h : WE X A e ρ n fun n ρ d => ∃ c, d = .bl c ∧ kb n ρ c) (he : ∀ whole, isTrue e X.env whole = (do let v ← whole; standAt e.pos; holding [v] (truthy v)) := by intro _; rfl) : WB X A e ρ n kb := by
  intro ρ0 H0 σ H hh Q q
  refine canT.of (pt_val pcan he) ?_
  refine h ρ0 H0 σ H hh _ fun n1 ρ1 d v H1 h1 hh1 k1 r1 => ?_
  obtain ⟨c, rfl, h1⟩ := h1
  cases r1
  exact ⟨c, rfl, q n1 ρ1 c H1 h1 hh1 k1⟩
theorem wb_cmp {op : CmpOp} {r : R2} (ho : OpR X (compareOp op) r) (h : WE X A a ρ n fun n1 ρ1 x => WE X A b ρ1 n1 fun n2 ρ2 y => OpD X.K A r ρ2 x y fun d => ∃ c, d = .bl c ∧ kb n2 ρ2 c) (hm : behindInMarks op b = false := by first | exact nomark _ | rfl) : WB X A (.Compare a [op] [b] pos) ρ n kb := by
  intro ρ0 H0 σ H hh Q q
  refine canT.of (pt_cmpR ho pcan pcan hm) ?_
  refine t2_can (k := fun n ρ d => ∃ c, d = .bl c ∧ kb n ρ c) h ρ0 H0 σ H hh _ fun n1 ρ1 d v H1 h1 hh1 k1 r1 => ?_
  obtain ⟨c, rfl, h1⟩ := h1
  cases r1
  exact ⟨c, rfl, q n1 ρ1 c H1 h1 hh1 k1⟩
theorem ww_wb (h : WW X A e ρ n kb) : WB X A e ρ n kb := fun ρ0 H0 σ H hh Q q => canT.of (wcan (X := X) (e := e)).pt (h ρ0 H0 σ H hh Q q)
theorem ww_and1 (h : WB X A a ρ n kb) : WW X A (.BoolOp .And [a] pos) ρ n kb := fun ρ0 H0 σ H hh Q q => canW.of (pw_and1 tcan) (h ρ0 H0 σ H hh Q q)
theorem ww_or1 (h : WB X A a ρ n kb) : WW X A (.BoolOp .Or [a] pos) ρ n kb := fun ρ0 H0 σ H hh Q q => canW.of (pw_or1 tcan) (h ρ0 H0 σ H hh Q q)
theorem ww_and (h : WB X A a ρ n fun n ρ x => (x = true → WW X A (.BoolOp .And (b :: es) pos) ρ n kb) ∧ (x = false → kb n ρ false)) : WW X A (.BoolOp .And (a :: b :: es) pos) ρ n kb := by
  intro ρ0 H0 σ H hh Q q
  refine canW.of (pw_and tcan wcan) ?_
  refine h ρ0 H0 σ H hh _ fun n1 ρ1 c H1 h1 hh1 k1 => ?_
  cases c with
  | true => rw [if_pos rfl]; exact h1.1 rfl ρ0 H0 σ H1 hh1 Q fun n2 ρ2 x H2 h2 hh2 k2 => q n2 ρ2 x H2 h2 hh2 (k1.trans k2)
  | false => rw [if_neg Bool.false_ne_true]; exact q n1 ρ1 false H1 (h1.2 rfl) hh1 k1
theorem ww_or (h : WB X A a ρ n fun n ρ x => (x = false → WW X A (.BoolOp .Or (b :: es) pos) ρ n kb) ∧ (x = true → kb n ρ true)) : WW X A (.BoolOp .Or (a :: b :: es) pos) ρ n kb := by
  intro ρ0 H0 σ H hh Q q
  refine canW.of (pw_or tcan wcan) ?_
  refine h ρ0 H0 σ H hh _ fun n1 ρ1 c H1 h1 hh1 k1 => ?_
  cases c with
  | false => rw [if_neg Bool.false_ne_true]; exact h1.1 rfl ρ0 H0 σ H1 hh1 Q fun n2 ρ2 x H2 h2 hh2 k2 => q n2 ρ2 x H2 h2 hh2 (k1.trans k2)
  | true => rw [if_pos rfl]; exact q n1 ρ1 true H1 (h1.2 rfl) hh1 k1
theorem wb_not (h : WB X A a ρ n fun n ρ x => kb n ρ (!x)) : WB X A (.UnaryOp .Not a pos) ρ n kb := by
  intro ρ0 H0 σ H hh Q q
  refine canT.of (pt_not tcan) ?_
  exact h ρ0 H0 σ H hh _ fun n1 ρ1 c H1 h1 hh1 k1 => q n1 ρ1 (!c) H1 h1 hh1 k1
/-- what is true of a value -/
def tru : D → Option Bool
  | .non => some false
  | .bl b => some b
  | .int i => some (i != 0)
  | .lst xs => some (!xs.isEmpty)
  | .tup xs => some (!xs.isEmpty)
  | .dct xs => some (!xs.isEmpty)
  | _ => none
theorem wb_truth (h : WE X A e ρ n fun n ρ d => ∃ c, tru d = some c ∧ kb n ρ c) (he : ∀ whole, isTrue e X.env whole = (do let v ← whole; standAt e.pos; holding [v] (truthy v)) := by intro _; rfl) : WB X A e ρ n kb := by
  intro ρ0 H0 σ H hh Q q
  refine canT.of (pt_truth pcan he) ?_
  refine h ρ0 H0 σ H hh _ fun n1 ρ1 d v H1 h1 hh1 k1 r1 => ?_
  obtain ⟨c, e, h1⟩ := h1
  refine ⟨c, ?_, q n1 ρ1 c H1 h1 hh1 k1⟩
  have emp : ∀ {vs : List V} {ds : List D}, RepAll X.K (Mt A ρ1) H1 vs ds → vs.isEmpty = ds.isEmpty := fun r => by cases r <;> rfl
  have empK : ∀ {vs : List (Key × V)} {ds : List (Key × D)}, RepKV X.K (Mt A ρ1) H1 vs ds → vs.isEmpty = ds.isEmpty := fun r => by cases r <;> rfl
  cases d with
  | non => cases r1; cases e; exact rfl
  | bl b => cases r1; cases e; exact rfl
  | int i => cases r1; cases e; exact rfl
  | str x => cases e
  | lst xs =>
    cases r1 with
    | lst _ hq ha =>
      cases e
      rw [← emp ha]
      exact .inl ⟨_, .of hq, rfl⟩
  | tup xs =>
    cases r1 with
    | tup hq ha =>
      cases e
      rw [← emp ha]
      rcases hq with ⟨_, hq⟩ | hq
      · exact .inr (.inl ⟨_, .inl hq, rfl⟩)
      · exact .inr (.inl ⟨_, .inr hq, rfl⟩)
  | dct xs =>
    cases r1 with
    | dct _ hq ha =>
      cases e
      rw [← empK ha]
      exact .inr (.inr ⟨_, hq, rfl⟩)
  | obj C fs => cases e
  | raw v => cases e

/-! ### and, or, not, if as values -/
theorem we_one {op} (h : WE X A a ρ n k) : WE X A (.BoolOp op [a] pos) ρ n k := fun ρ0 H0 σ H hh Q q => canE.of (pe_one pcan) (h ρ0 H0 σ H hh Q q)
theorem we_and (h : WE X A a ρ n fun n ρ x => ∃ c, x = .bl c ∧ (c = true → WE X A (.BoolOp .And (b :: es) pos) ρ n k) ∧ (c = false → k n ρ (.bl false))) : WE X A (.BoolOp .And (a :: b :: es) pos) ρ n k := by
  intro ρ0 H0 σ H hh Q q
  refine canE.of (pe_and pcan pcan) ?_
  refine h ρ0 H0 σ H hh _ fun n1 ρ1 d v H1 h1 hh1 k1 r1 => ?_
  obtain ⟨c, rfl, h1⟩ := h1
  cases r1
  refine ⟨c, rfl, ?_⟩
  cases c with
  | true => rw [if_pos rfl]; exact h1.1 rfl ρ0 H0 σ H1 hh1 Q fun n2 ρ2 x v H2 h2 hh2 k2 => q n2 ρ2 x v H2 h2 hh2 (k1.trans k2)
  | false => rw [if_neg Bool.false_ne_true]; exact q n1 ρ1 _ _ H1 (h1.2 rfl) hh1 k1 (.bl false)
theorem we_or (h : WE X A a ρ n fun n ρ x => ∃ c, x = .bl c ∧ (c = false → WE X A (.BoolOp .Or (b :: es) pos) ρ n k) ∧ (c = true → k n ρ (.bl true))) : WE X A (.BoolOp .Or (a :: b :: es) pos) ρ n k := by
  intro ρ0 H0 σ H hh Q q
  refine canE.of (pe_or pcan pcan) ?_
  refine h ρ0 H0 σ H hh _ fun n1 ρ1 d v H1 h1 hh1 k1 r1 => ?_
  obtain ⟨c, rfl, h1⟩ := h1
  cases r1
  refine ⟨c, rfl, ?_⟩
  cases c with
  | false => rw [if_neg Bool.false_ne_true]; exact h1.1 rfl ρ0 H0 σ H1 hh1 Q fun n2 ρ2 x v H2 h2 hh2 k2 => q n2 ρ2 x v H2 h2 hh2 (k1.trans k2)
  | true => rw [if_pos rfl]; exact q n1 ρ1 _ _ H1 (h1.2 rfl) hh1 k1 (.bl true)
theorem we_not (h : WE X A a ρ n fun n ρ x => ∃ c, x = .bl c ∧ k n ρ (.bl !c)) : WE X A (.UnaryOp .Not a pos) ρ n k := by
  intro ρ0 H0 σ H hh Q q
  refine canE.of (pe_not pcan) ?_
  refine h ρ0 H0 σ H hh _ fun n1 ρ1 d v H1 h1 hh1 k1 r1 => ?_
  obtain ⟨c, rfl, h1⟩ := h1
  cases r1
  exact ⟨c, rfl, q n1 ρ1 _ _ H1 h1 hh1 k1 (.bl !c)⟩
theorem we_if (h : WB X A c ρ n fun n ρ x => (x = true → WE X A a ρ n k) ∧ (x = false → WE X A b ρ n k)) : WE X A (.IfExp c a b pos) ρ n k := by
  intro ρ0 H0 σ H hh Q q
  refine canE.of (pe_ifExp tcan pcan pcan) ?_
  refine h ρ0 H0 σ H hh _ fun n1 ρ1 x H1 h1 hh1 k1 => ?_
  cases x with
  | true => rw [if_pos rfl]; exact h1.1 rfl ρ0 H0 σ H1 hh1 Q fun n2 ρ2 x v H2 h2 hh2 k2 => q n2 ρ2 x v H2 h2 hh2 (k1.trans k2)
  | false => rw [if_neg Bool.false_ne_true]; exact h1.2 rfl ρ0 H0 σ H1 hh1 Q fun n2 ρ2 x v H2 h2 hh2 k2 => q n2 ρ2 x v H2 h2 hh2 (k1.trans k2)
/-- a op b op' c -/
theorem we_chain {op op' : CmpOp} {r r' : R2} (ho : OpR X (compareOp op) r) (ho' : OpR X (compareOp op') r')
    (h : WE X A a ρ n fun n1 ρ1 x => WE X A b ρ1 n1 fun n2 ρ2 y => OpD X.K A r ρ2 x y fun d => ∃ z, d = .bl z ∧ (z = true → WE X A c ρ2 n2 fun n3 ρ3 w => OpD X.K A r' ρ3 y w (k n3 ρ3)) ∧ (z = false → k n2 ρ2 (.bl false)))
    (hm : lastMarks [op, op'] [b, c] = false := by rfl) : WE X A (.Compare a [op, op'] [b, c] pos) ρ n k := by
  intro ρ0 H0 σ H hh Q q
  refine canE.of (pe_chain ho ho' pcan pcan pcan hm) ?_
  refine h ρ0 H0 σ H hh _ fun n1 ρ1 x vx H1 h1 hh1 k1 r1 => ?_
  refine h1 ρ0 H0 σ H1 hh1 _ fun n2 ρ2 y vy H2 h2 hh2 k2 r2 => ?_
  refine h2 n2 σ ρ0 H0 H2 vx vy _ hh2 (r1.up hh1.j k2) r2 fun d v H3 kk hh3 k3 r3 => ?_
  obtain ⟨z, rfl, k4, k5⟩ := kk
  cases r3
  refine ⟨z, rfl, ?_⟩
  cases z with
  | true =>
    rw [if_pos rfl]
    refine k4 rfl ρ0 H0 σ H3 hh3 _ fun n4 ρ4 w vw H4 h4 hh4 k6 r4 => ?_
    exact h4 n4 σ ρ0 H0 H4 vy vw Q hh4 ((r2.up hh2.j k3).up hh3.j k6) r4 fun d v H' kk hh' k7 r7 => q n4 ρ4 d v H' kk hh' ((((k1.trans k2).trans k3).trans k6).trans k7) r7
  | false => rw [if_neg Bool.false_ne_true]; exact q n2 ρ2 _ _ H3 (k5 rfl) hh3 ((k1.trans k2).trans k3) (.bl false)
end

/-! ### statements -/
section
variable {X : Cx} {A : Amb} {ρ : En} {n : Nat} {e a b c : Expr} {es : List Expr} {st : Stmt} {sts body orelse : List Stmt} {E : En4} {pos : Pos}
theorem ws_nil (h : E.nx n ρ) : WS X A [] ρ n E := fun ρ0 H0 σ H hh D f => canSs.of pss_nil (f.nx n ρ σ H h hh)
theorem ws_cons (h : WS1 X A st ρ n { E with nx := fun n ρ => WS X A sts ρ n E }) : WS X A (st :: sts) ρ n E := by
  intro ρ0 H0 σ H hh D f
  refine canSs.of (pss_cons scan sscan) ?_
  exact h ρ0 H0 σ H hh _ ⟨fun n ρ σ H h1 hh1 => h1 ρ0 H0 σ H hh1 D f, f.rt, f.bk, f.ct⟩
theorem ws_one (h : WS1 X A st ρ n E) : WS X A [st] ρ n E := fun ρ0 H0 σ H hh D f => canSs.of (pss_one scan) (h ρ0 H0 σ H hh D f)
theorem ws_pass (h : E.nx n ρ) : WS1 X A (.Pass pos) ρ n E := fun ρ0 H0 σ H hh D f => canS.of ps_pass (f.nx n ρ σ H h hh)
theorem ws_break (h : E.bk n ρ) : WS1 X A (.Break pos) ρ n E := fun ρ0 H0 σ H hh D f => canS.of ps_break (f.bk n ρ σ H h hh)
theorem ws_cont (h : E.ct n ρ) : WS1 X A (.Continue pos) ρ n E := fun ρ0 H0 σ H hh D f => canS.of ps_continue (f.ct n ρ σ H h hh)
theorem ws_ret (h : WE X A e ρ n E.rt) : WS1 X A (.Return (some e) pos) ρ n E := by
  intro ρ0 H0 σ H hh D f
  refine canS.of (ps_ret pcan) ?_
  exact h ρ0 H0 σ H hh _ fun n1 ρ1 d v H1 h1 hh1 k1 r1 => f.rt n1 ρ1 σ H1 d v h1 hh1 r1
theorem ws_retN (h : E.rt n ρ .non) : WS1 X A (.Return none pos) ρ n E := fun ρ0 H0 σ H hh D f => canS.of ps_retN (f.rt n ρ σ H .non .non h hh .non)
theorem ws_expr (h : WE X A e ρ n fun n ρ _ => E.nx n ρ) (hs : swapsWith e none pos.line X.env = pure false := by rfl) : WS1 X A (.Expr e pos) ρ n E := by
  intro ρ0 H0 σ H hh D f
  refine canS.of (ps_expr pcan hs) ?_
  exact h ρ0 H0 σ H hh _ fun n1 ρ1 d v H1 h1 hh1 k1 r1 => f.nx n1 ρ1 σ H1 h1 hh1
/-- x = e -/
theorem ws_set (i : Nat) {x : Str} {pos' : Pos} (hN : X.N.Nodup) (h : WE X A e ρ n fun n ρ d => E.nx n (ρ.set i (some (.dat d)))) (hi : X.N[i]? = some x := by rfl) (hx : Loc X.env.scope x := by first | exact Or.inl rfl | exact Or.inr rfl)
    (hs : swapsWith e (some (.Name x pos')) pos.line X.env = pure false := by rfl) (hf : X.fn x = true ∨ X.env.scope.names.lookup x = some .local := by first | exact .inl rfl | exact .inr rfl) : WS1 X A (.Assign [.Name x pos'] e pos) ρ n E := by
  intro ρ0 H0 σ H hh D f
  refine canS.of (ps_set hN hi hx pcan hs hf) ?_
  exact h ρ0 H0 σ H hh _ fun n1 ρ1 d v H1 h1 hh1 k1 r1 => f.nx _ _ _ _ h1 (hh1.set i r1)
/-- x = a list of its own -/
theorem ws_setF (i : Nat) {x : Str} {pos' : Pos} (hN : X.N.Nodup) (h : WF X A e ρ n fun n ρ ds => i < ρ.length ∧ ∀ p, E.nx n (ρ.set i (some (.own p ds)))) (hi : X.N[i]? = some x := by rfl) (hx : Loc X.env.scope x := by first | exact Or.inl rfl | exact Or.inr rfl)
    (hs : swapsWith e (some (.Name x pos')) pos.line X.env = pure false := by rfl) (hf : X.fn x = true ∨ X.env.scope.names.lookup x = some .local := by first | exact .inl rfl | exact .inr rfl) : WS1 X A (.Assign [.Name x pos'] e pos) ρ n E := by
  intro ρ0 H0 σ H hh D f
  refine canS.of (ps_set hN hi hx pcan hs hf) ?_
  refine h ρ0 H0 σ H hh _ fun n1 ρ1 ds p vs H1 h1 hh1 k1 o => f.nx _ _ _ _ (h1.2 p) ?_
  exact hh1.setAt i rfl h1.1 o.nm o.nw ⟨rfl, vs, o.ob, o.rp⟩ o.sl
end
end RD

/-! RD3: if, for, targets, lists of one's own changed, list comprehensions. -/
namespace RD
open PySem PySem.Spec PyProof.Rows L2
section
variable {X : Cx} {A : Amb} {ρ : En} {n : Nat} {e a b c tg iter : Expr} {es ts : List Expr} {st : Stmt} {sts body orelse : List Stmt} {E : En4} {pos : Pos} {k : Nat → En → D → Prop} {kl : Nat → En → List D → Prop} {kb : Nat → En → Bool → Prop}
theorem ws_if (h : WB X A c ρ n fun n ρ x => (x = true → WS X A body ρ n E) ∧ (x = false → WS X A orelse ρ n E)) : WS1 X A (.If c body orelse pos) ρ n E := by
  intro ρ0 H0 σ H hh D f
  refine canS.of (ps_if tcan sscan sscan) ?_
  refine h ρ0 H0 σ H hh _ fun n1 ρ1 x H1 h1 hh1 k1 => ?_
  cases x with
  | true => rw [if_pos rfl]; exact h1.1 rfl ρ0 H0 σ H1 hh1 D f
  | false => rw [if_neg Bool.false_ne_true]; exact h1.2 rfl ρ0 H0 σ H1 hh1 D f

/-! ### targets: V the places that may be stored to -/
def WG' (X : Cx) (A : Amb) (tg : Expr) (V_ : Nat → Prop) (d : D) (ρ : En) (n : Nat) (k : Nat → En → Prop) : Prop :=
  ∀ ρ0 H0 σ H v, Here X.K A ρ0 H0 n ρ σ H → Rep X.K (Mt A ρ) H v d → ∀ Q : L2.St → Hp → Prop, (∀ n' ρ' σ' H', k n' ρ' → Here X.K A ρ0 H0 n' ρ' σ' H' → Keeps A ρ H ρ' H' → σ'.length = σ.length → (∀ j, ¬ V_ j → σ'[j]? = σ[j]?) → Q σ' H') → canG X tg v σ H Q
def WGs' (X : Cx) (A : Amb) (ts : List Expr) (V_ : Nat → Prop) (ds : List D) (ρ : En) (n : Nat) (k : Nat → En → Prop) : Prop :=
  ∀ ρ0 H0 σ H vs, Here X.K A ρ0 H0 n ρ σ H → RepAll X.K (Mt A ρ) H vs ds → ∀ Q : L2.St → Hp → Prop, (∀ n' ρ' σ' H', k n' ρ' → Here X.K A ρ0 H0 n' ρ' σ' H' → Keeps A ρ H ρ' H' → σ'.length = σ.length → (∀ j, ¬ V_ j → σ'[j]? = σ[j]?) → Q σ' H') → canGs X ts vs σ H Q
abbrev AnyV : Nat → Prop := fun _ => True
theorem wg_name (i : Nat) {x : Str} {V_ : Nat → Prop} {d : D} {k : Nat → En → Prop} (hN : X.N.Nodup) (h : k n (ρ.set i (some (.dat d)))) (hi : X.N[i]? = some x := by rfl) (hx : Loc X.env.scope x := by first | exact Or.inl rfl | exact Or.inr rfl)
    (hf : X.fn x = true ∨ X.env.scope.names.lookup x = some .local := by first | exact .inl rfl | exact .inr rfl) (hv : V_ i := by first | trivial | decide) : WG' X A (.Name x pos) V_ d ρ n k := by
  intro ρ0 H0 σ H v hh r Q q
  refine canG.of (pg_name hN hi hx hf) ?_
  refine q n _ _ H h (hh.set i r) (.sub (owns_set_dat rfl)) (by rw [List.length_set]) fun j hj => ?_
  rw [List.getElem?_set_ne]
  rintro rfl
  exact hj hv
theorem wgs_nil {V_ : Nat → Prop} {k : Nat → En → Prop} (h : k n ρ) : WGs' X A [] V_ [] ρ n k := by
  intro ρ0 H0 σ H vs hh r Q q
  cases r
  exact canGs.of pgs_nil ⟨rfl, q n ρ σ H h hh .refl rfl fun _ _ => rfl⟩
theorem wgs_cons {V_ : Nat → Prop} {d : D} {ds : List D} {k : Nat → En → Prop} (h : WG' X A e V_ d ρ n fun n ρ => WGs' X A es V_ ds ρ n k) (hs : (assignEach (e :: es) X.env).map (·.2) = assign e X.env :: (assignEach es X.env).map (·.2) := by rfl) : WGs' X A (e :: es) V_ (d :: ds) ρ n k := by
  intro ρ0 H0 σ H vs hh r Q q
  refine canGs.of (pgs_cons gcan gscan hs) ?_
  cases r with
  | cons r1 r2 =>
    refine ⟨_, _, rfl, h ρ0 H0 σ H _ hh r1 _ fun n1 ρ1 σ1 H1 h1 hh1 k1 l1 s1 => ?_⟩
    refine h1 ρ0 H0 σ1 H1 _ hh1 (r2.up hh.j k1) Q fun n2 ρ2 σ2 H2 h2 hh2 k2 l2 s2 => q n2 ρ2 σ2 H2 h2 hh2 (k1.trans k2) (l2.trans l1) fun j hj => (s2 j hj).trans (s1 j hj)
/-- (a, b, ..) = a tuple -/
theorem wg_tup {V_ : Nat → Prop} {ds : List D} {kk : Nat} {k : Nat → En → Prop} (hc : X.calm = true) (h : WGs' X A ts V_ ds ρ n k) (hn : (assignEach ts X.env).length = ds.length := by rfl) (hst : (assignEach ts X.env).findIdx? (·.1) = none := by rfl) : WG' X A (.Tuple ts kk pos) V_ (.tup ds) ρ n k := by
  intro ρ0 H0 σ H v hh r Q q
  refine canG.of (pg_tup hc gscan hn hst) ?_
  cases r with
  | tup hq ha =>
    refine ⟨_, _, rfl, ?_, ha.length, h ρ0 H0 σ H _ hh ha Q q⟩
    rcases hq with ⟨_, hq⟩ | hq
    · exact .inl hq
    · exact .inr hq

/-! ### for -/
theorem wi_range1 {p : Pos} (hm : X.mg "range" = none) (h : WA X A [a] ρ n fun n ρ ds => ∃ j : Int, ds = [.int j] ∧ -(2 ^ 62) ≤ j ∧ j < 2 ^ 62 ∧ kl n ρ ((List.range j.toNat).map fun i : Nat => .int ((i : Nat) : Int))) (hg : Gl X "range" := by rfl) (hs : starEach [a] X.env = [(false, eval a X.env)] := by rfl) : WI X A tg (.Call (.Name "range" p) [a] [] pos) ρ n kl := by
  intro ρ0 H0 σ H hh R q
  refine canI.of (pi_range1 hg hm acan hs) ?_
  refine h ρ0 H0 σ H hh _ fun n1 ρ1 ds vs H1 h1 hh1 k1 r1 => ?_
  obtain ⟨j, rfl, b1, b2, h1⟩ := h1
  cases r1 with
  | cons r1 r2 =>
    cases r1; cases r2
    refine ⟨j, rfl, b1, b2, q n1 ρ1 _ _ H1 h1 hh1 k1 ?_⟩
    intro M' H' _
    simp only [List.length_map, List.length_range]
    refine ⟨fun i hi => hi, Nat.le_refl _, fun i d x H'' hd y _ => ?_⟩
    obtain ⟨e1, e2⟩ := y
    subst e1
    refine ⟨.inl rfl, ?_⟩
    rw [e2]
    rw [List.getElem?_map] at hd
    cases z : (List.range j.toNat)[i]? with
    | none => rw [z] at hd; cases hd
    | some w =>
      rw [z] at hd
      have hi : i < j.toNat := by
        have := (List.getElem?_eq_some_iff.mp z).1
        simpa using this
      rw [List.getElem?_range hi] at z
      cases z
      cases hd
      rw [Int.zero_add]
      exact .int _
theorem wi_range2 {p : Pos} (hm : X.mg "range" = none) (h : WA X A [a, b] ρ n fun n ρ ds => ∃ i j : Int, ds = [.int i, .int j] ∧ (-(2 ^ 62) ≤ i ∧ i < 2 ^ 62 ∧ -(2 ^ 62) ≤ j ∧ j < 2 ^ 62) ∧ kl n ρ ((List.range (j - i).toNat).map fun m : Nat => .int (i + ((m : Nat) : Int)))) (hg : Gl X "range" := by rfl)
    (hs : starEach [a, b] X.env = [(false, eval a X.env), (false, eval b X.env)] := by rfl) (hs2 : starEach [b] X.env = [(false, eval b X.env)] := by rfl) : WI X A tg (.Call (.Name "range" p) [a, b] [] pos) ρ n kl := by
  intro ρ0 H0 σ H hh R q
  refine canI.of (pi_range2 hg hm acan hs hs2) ?_
  refine h ρ0 H0 σ H hh _ fun n1 ρ1 ds vs H1 h1 hh1 k1 r1 => ?_
  obtain ⟨i, j, rfl, bd, h1⟩ := h1
  cases r1 with
  | cons r1 r2 =>
    cases r1
    cases r2 with
    | cons r2 r3 =>
    cases r2; cases r3
    refine ⟨i, j, rfl, bd, q n1 ρ1 _ _ H1 h1 hh1 k1 ?_⟩
    intro M' H' _
    simp only [List.length_map, List.length_range]
    refine ⟨fun i hi => hi, Nat.le_refl _, fun m d x H'' hd y _ => ?_⟩
    obtain ⟨e1, e2⟩ := y
    subst e1
    refine ⟨.inl rfl, ?_⟩
    rw [e2]
    rw [List.getElem?_map] at hd
    cases z : (List.range (j - i).toNat)[m]? with
    | none => rw [z] at hd; cases hd
    | some w =>
      rw [z] at hd
      have hi : m < (j - i).toNat := by
        have := (List.getElem?_eq_some_iff.mp z).1
        simpa using this
      rw [List.getElem?_range hi] at z
      cases z
      cases hd
      exact .int _
theorem wi_lst (h : WE X A e ρ n fun n ρ d => ∃ ds, d = .lst ds ∧ kl n ρ ds) : WI X A tg e ρ n kl := by
  intro ρ0 H0 σ H hh R q
  refine canI.of (pi_list pcan) ?_
  refine h ρ0 H0 σ H hh _ fun n1 ρ1 d v H1 h1 hh1 k1 r1 => ?_
  obtain ⟨ds, rfl, h1⟩ := h1
  cases r1 with
  | lst m hq ha =>
    rename_i a xs
    have hL : ∀ (M' : Addr → Prop) (H' : Hp), (∀ a o, ¬ Mt A ρ1 a → H1 a = some o → H' a = some o ∧ ¬ M' a) → SqL X.K H' a xs := fun M' H' up => .of (up a _ m hq).1
    refine ⟨a, rfl, ⟨xs, hL _ H1 fun a o m e => ⟨e, m⟩⟩, q n1 ρ1 ds _ H1 h1 hh1 k1 ?_⟩
    intro M' H' up
    have hl := hL M' H' up
    have ln := ha.length
    refine ⟨fun i hi => ⟨xs, xs[i]'(by omega), hl, by simp [show i < xs.length by omega]⟩, ⟨xs, hl, by omega⟩, fun i d x H'' hd y _ => ?_⟩
    obtain ⟨e1, y⟩ := y
    subst e1
    obtain ⟨v, hv, rv⟩ := ha.get hd
    have e2 := y xs hl
    rw [hv] at e2
    cases e2
    exact ⟨.inl rfl, Rep.mono up d rv⟩
theorem wi_tup (h : WE X A e ρ n fun n ρ d => ∃ ds, d = .tup ds ∧ kl n ρ ds) : WI X A tg e ρ n kl := by
  intro ρ0 H0 σ H hh R q
  refine canI.of (pi_tup pcan) ?_
  refine h ρ0 H0 σ H hh _ fun n1 ρ1 d v H1 h1 hh1 k1 r1 => ?_
  obtain ⟨ds, rfl, h1⟩ := h1
  cases r1 with
  | tup hq ha =>
    rename_i a xs
    have hL : ∀ (M' : Addr → Prop) (H' : Hp), (∀ a o, ¬ Mt A ρ1 a → H1 a = some o → H' a = some o ∧ ¬ M' a) → SqT X.K H' a xs := fun M' H' up => by
      rcases hq with ⟨m, hq⟩ | hq
      · exact .inl (rd_mono up m hq).2
      · exact .inr hq
    refine ⟨a, rfl, ⟨xs, hL _ H1 fun a o m e => ⟨e, m⟩⟩, q n1 ρ1 ds _ H1 h1 hh1 k1 ?_⟩
    intro M' H' up
    have hl := hL M' H' up
    have ln := ha.length
    refine ⟨fun i hi => ⟨xs, xs[i]'(by omega), hl, by simp [show i < xs.length by omega]⟩, ⟨xs, hl, by omega⟩, fun i d x H'' hd y _ => ?_⟩
    obtain ⟨e1, y⟩ := y
    subst e1
    obtain ⟨v, hv, rv⟩ := ha.get hd
    have e2 := y xs hl
    rw [hv] at e2
    cases e2
    exact ⟨.inl rfl, Rep.mono up d rv⟩
theorem Here.rebase {K : PySem.W.Frag} {ρ0 ρ1 : En} {H0 H1 : Hp} {σ : L2.St} {H : Hp} (h : Here K A ρ0 H0 n ρ σ H) : Here K A ρ H n ρ σ H := ⟨.refl, h.j, h.sat⟩
theorem Here.back {K : PySem.W.Frag} {ρ0 ρ1 : En} {H0 H1 : Hp} {σ : L2.St} {H : Hp} (kp : Keeps A ρ0 H0 ρ1 H1) (h : Here K A ρ1 H1 n ρ σ H) : Here K A ρ0 H0 n ρ σ H := ⟨kp.trans h.kp, h.j, h.sat⟩
theorem ws_for (I : Nat → Nat → En → Prop) (hc : X.calm = true) (hp : PassesOwn (model X.prog X.w) X.A X.env X.xe)
    (h : WI X A tg iter ρ n fun n' ρ' ds => I 0 n' ρ' ∧ (∀ i d n ρ, ds[i]? = some d → I i n ρ → WG' X A tg AnyV d ρ n fun n ρ => WS X A body ρ n { E with nx := I (i + 1), ct := I (i + 1), bk := E.nx }) ∧ ∀ n ρ, I ds.length n ρ → E.nx n ρ)
    (hs : ∀ x, foldedSetIterable iter X.env x = pure x := by intro _; rfl) : WS1 X A (.For tg iter body [] pos) ρ n E := by
  intro ρ0 H0 σ H hh D f
  refine canS.of (ps_for hp hc icanL gcan sscan hs) ?_
  refine h ρ0 H0 σ H hh _ fun n1 ρ1 ds Jt H1 h1 hh1 k1 src => ?_
  obtain ⟨i0, turn, fin⟩ := h1
  refine ⟨fun i m σ H => m = ds.length - i ∧ i ≤ ds.length ∧ ∃ n ρ, I i n ρ ∧ Here X.K A ρ1 H1 n ρ σ H, ⟨ds.length, by simp, Nat.zero_le _, n1, ρ1, i0, hh1.rebase (ρ1 := ρ1) (H1 := H1)⟩, ?_⟩
  rintro i m σ2 H2 ⟨rfl, hi, n2, ρ2, i2, hh2⟩
  obtain ⟨go, stop, yld⟩ := src (Mt A ρ2) H2 (hh2.kp.up hh1.j)
  by_cases hlt : i < ds.length
  · refine .inr ⟨go i hlt, fun σ H => ∃ n ρ, I (i + 1) n ρ ∧ Here X.K A ρ1 H1 n ρ σ H, fun σ' H' ⟨n', ρ', z1, z2⟩ => ⟨ds.length - (i + 1), by omega, rfl, hlt, n', ρ', z1, z2⟩, fun x H3 y => ?_⟩
    have hd : ds[i]? = some ds[i] := List.getElem?_eq_getElem hlt
    obtain ⟨z, rx⟩ := yld i _ x H3 hd y (fun T hT => hh2.new hT)
    have hh3 : Here X.K A ρ1 H1 n2 ρ2 σ2 H3 := by
      rcases z with rfl | ⟨T, o, hT, rfl⟩
      · exact hh2
      · exact hh2.alloc hT
    refine turn i _ n2 ρ2 hd i2 ρ1 H1 σ2 H3 x hh3 rx _ fun n4 ρ4 σ4 H4 h4 hh4 k4 _ _ => ?_
    refine h4 ρ1 H1 σ4 H4 hh4 _ ⟨fun n ρ σ H z1 z2 => ⟨n, ρ, z1, z2⟩, fun n ρ σ H d v z1 z2 => f.rt n ρ σ H d v z1 (z2.back hh1.kp), fun n ρ σ H z1 z2 => f.nx n ρ σ H z1 (z2.back hh1.kp), fun n ρ σ H z1 z2 => ⟨n, ρ, z1, z2⟩⟩
  · have e : i = ds.length := by omega
    subst e
    exact .inl ⟨stop, f.nx n2 ρ2 σ2 H2 (fin n2 ρ2 i2) (hh2.back hh1.kp)⟩

/-! ### a, b = x, y -/
theorem ws_par (i j : Nat) {x y : Str} {px py pt : Pos} {kt k2 pt2} (hc : X.calm = true) (hN : X.N.Nodup) (h : WA X A [a, b] ρ n fun n ρ ds => ∃ d1 d2, ds = [d1, d2] ∧ E.nx n ((ρ.set i (some (.dat d1))).set j (some (.dat d2))))
    (hi : X.N[i]? = some x := by rfl) (hj : X.N[j]? = some y := by rfl) (hij : i ≠ j := by decide) (hx : X.env.scope.names.lookup x = some .local := by rfl) (hy : X.env.scope.names.lookup y = some .local := by rfl)
    (hw : swappedStores [.Tuple [.Name x px, .Name y py] kt pt] (.Tuple [a, b] k2 pt2) X.env = pure (some [x, y]) := by rfl)
    (hs : swapsWithSole [.Tuple [.Name x px, .Name y py] kt pt] (.Tuple [a, b] k2 pt2) pos.line X.env = pure false := by rfl) : WS1 X A (.Assign [.Tuple [.Name x px, .Name y py] kt pt] (.Tuple [a, b] k2 pt2) pos) ρ n E := by
  intro ρ0 H0 σ H hh D f
  refine canS.of (ps_par hc hN hi hj hij hx hy acan hw hs) ?_
  refine h ρ0 H0 σ H hh _ fun n1 ρ1 ds vs H1 h1 hh1 k1 r1 => ?_
  obtain ⟨d1, d2, rfl, h1⟩ := h1
  cases r1 with
  | cons r1 r2 =>
    cases r2 with
    | cons r2 r3 =>
      cases r3
      refine ⟨_, _, rfl, f.nx _ _ _ _ h1 ((hh1.set i r1).set j ?_)⟩
      exact Rep.mono (fun a o m e => ⟨e, fun z => m (mt_sub (owns_set_dat rfl) a z)⟩) d2 r2
/-- any target -/
theorem ws_asg (h : WE X A e ρ n fun n ρ d => WG' X A tg AnyV d ρ n E.nx) (hs : swapsWithSole [tg] e pos.line X.env = pure false := by rfl) (hw : swappedStores [tg] e X.env = pure none := by rfl)
    (h1 : (assignEach [tg] X.env).map (·.2) = [assign tg X.env] := by rfl) : WS1 X A (.Assign [tg] e pos) ρ n E := by
  intro ρ0 H0 σ H hh D f
  refine canS.of (ps_asg pcan gcan hs hw h1) ?_
  refine h ρ0 H0 σ H hh _ fun n1 ρ1 d v H1 z1 hh1 k1 r1 => ?_
  exact z1 ρ0 H0 σ H1 v hh1 r1 _ fun n2 ρ2 σ2 H2 z2 hh2 k2 _ _ => f.nx _ _ _ _ z2 hh2
/-- name op= e, ints -/
theorem ws_aug (i : Nat) {x : Str} {op : Operator} {g : Int → Int → Int} {pos' : Pos} {a : Int} (ho : PIp X op (ipI g)) (hN : X.N.Nodup) (hd : ρ[i]? = some (some (.dat (.int a)))) (h : WE X A e ρ n fun n ρ' d => ρ' = ρ ∧ ∃ b, d = .int b ∧ E.nx n (ρ.set i (some (.dat (.int (g a b))))))
    (hi : X.N[i]? = some x := by rfl) (hx : Loc X.env.scope x := by first | exact Or.inl rfl | exact Or.inr rfl) (hf : X.fn x = true ∨ X.env.scope.names.lookup x = some .local := by first | exact .inl rfl | exact .inr rfl) : WS1 X A (.AugAssign (.Name x pos') op e pos) ρ n E := by
  intro ρ0 H0 σ H hh D f
  refine canS.of (ps_aug hN hi hx pcan ho hf) ?_
  obtain ⟨v, e1, r⟩ := slot_get hh.sat.sl hd
  refine ⟨v, e1, h ρ0 H0 σ H hh _ fun n1 ρ1 d w H1 h1 hh1 k1 r1 => ?_⟩
  obtain ⟨rfl, b, rfl, h1⟩ := h1
  cases (show Rep X.K (Mt A ρ1) H v (.int a) from r)
  cases r1
  exact ⟨a, b, rfl, rfl, f.nx _ _ _ _ h1 (hh1.set i (.int _))⟩
end
end RD

/-! RDG: promises of defs that also know that no container is being shown (so repr may be told). -/
namespace RD
open PySem PySem.Spec PyProof.Rows L2

/-- room for k calls, and nothing is being shown -/
structure Rm (k : Nat) (A : Around) : Prop where
  r : Room k A
  g : A.guards = some []
theorem Rm.mono {j k : Nat} {A : Around} (h : Rm k A) (l : j ≤ k) : Rm j A := ⟨h.r.mono l, h.g⟩
/-- a def keeps its promise -/
structure Fn (P : Program) (w : World) (K : PySem.W.Frag) (mg : Str → Option Value) (base : Heap) (CX : CXT) (k : Nat) (f : Addr) (fd : FuncData) (ps : List Str) (sp : Sp) : Prop where
  arity : ∀ vs H Q E, sp vs H Q E → vs.length = ps.length
  goes : ∀ A outer s H args us vs Q E, Rm k A → Env0 P w K mg base A outer s H → BindsTo s fd args (ps.zip us) → Vals vs us → sp vs H Q E →
    codeAny (model P w) A (.call (.ref f) args) (CR CX outer P w H s Q E) s
section
variable {P : Program} {w : World} {K : PySem.W.Frag} {mg : Str → Option Value} {base : Heap} {CX : CXT} {k : Nat} {f : Addr} {fd : FuncData} {ps : List Str} {sp : Sp}
theorem Fn.mono {j : Nat} (F : Fn P w K mg base CX j f fd ps sp) (h : j ≤ k) : Fn P w K mg base CX k f fd ps sp :=
  ⟨F.arity, fun A outer s H args us vs Q E r => F.goes A outer s H args us vs Q E (r.mono h)⟩
theorem Fn.of_ok (F : FnOk P w K mg base CX k f fd ps sp) : Fn P w K mg base CX k f fd ps sp := ⟨F.len, fun A outer s H args us vs Q E r => F.run A outer s H args us vs Q E r.r⟩
/-- by its body -/
theorem Fn.by_body {x qual : Str} {params : Arguments} {body : List Stmt} {scope : Scope} {dvs : List V} {kws : List (Str × V)} {N : List Str} (F : FunD K x qual params body scope dvs kws f fd) (S : FnScope N ps scope) (len : ∀ vs H Q E, sp vs H Q E → vs.length = ps.length)
    (hb : ∀ (cdv : Value) (A : Around) (outer : List Env) (s : Shared) (H : Hp) (vs : List V) (Q : VK) (E : XK), Rm k (A.deeper (envOfC qual scope s.heap.objs.size f cdv)) → sp vs H Q E →
      canSs (cxOf CX P w K mg base N qual scope f cdv A outer s H E) body { nx := fun _ H' => Q .non H', rt := Q } (L2.start N vs) H) : Fn P w K mg base CX (k + 1) f fd ps sp := by
  obtain ⟨oc, od, dV, kV, doc, pm, an, cdv, ct, osl, rfl, lk, hcd, -, -⟩ := F.ex
  constructor
  · exact len
  · intro A outer s H args us vs Q E rm e0 bnd rv hsp
    have there := fun (b : Addr) (o : Obj) (e : base.get? b = some o) => (e0.bs b o e).1
    have kin := e0.mod.kin.keeps there
    refine codeAny_call_function rm.r.depth (kin _ _ lk) rfl S.co S.gen rfl (PySem.W.codeRec_of kin hcd) (bnd _ _ _ _ ?_)
    refine wpAny_newFunctionEnv_cells S.kind ?kinds ?go
    case kinds =>
      rintro ⟨nm, vv⟩ hm
      have hmem := (List.of_mem_zip hm).1
      cases S.par nm hmem with
      | inl z => exact Or.inl z
      | inr z => exact Or.inr ⟨z, PySem.W.cellsFrom_some _ _ _ (Or.inl z)⟩
    case go =>
      rintro env rfl s1 ent
      have st : Inv (cxOf CX P w K mg base N qual scope f cdv A outer s H E) [] (L2.start N vs) H s1 := inv_start S rm.r.hd e0 (len vs H Q E hsp) rv ent
      refine ⟨(e0.mod.nolimit.keeps there).keeps ent.toInCall.keep, codeAny_func ?_⟩
      have run := hb cdv A outer s H vs Q E ⟨rm.r.deeper _, rm.g⟩ hsp [] s1 st
      refine wpAny_mono run ?ok fun e s' z => z
      case ok =>
        intro fl s' z
        have out : ∀ {σ' H' v u}, Inv (cxOf CX P w K mg base N qual scope f cdv A outer s H E) [] σ' H' s' → RelV v u → Q v H' → CE outer P w H s Q u s' := by
          intro σ' H' v u i rr q
          exact ⟨v, H', i.os, i.bare, i.base, i.hok, rr, q⟩
        match fl, z with
        | .ret _, ⟨_, _, _, i, rr, q⟩ => exact out i rr q
        | .next, ⟨_, _, i, q⟩ => exact out (v := V.non) (u := Value.none) i rfl q
        | .brk, ⟨_, _, _, q⟩ => exact q.elim
        | .cont, ⟨_, _, _, q⟩ => exact q.elim
end
section
variable {X : Cx} {CX : CXT} {k n : Nat} {f : Addr} {fd : FuncData} {ps ks : List Str} {sp : Sp} {E : XK} {x : Str} {p pos : Pos} {e : Expr} {es : List Expr} {kws : List Keyword} {t tk : TA} {g : List Value → List Value → List Value} {gV : List V → List V → List V}
  {pins : List (Addr × Obj)} {σ : L2.St} {H : Hp} {s : Shared} {Q : VK} {us ws ds : List Value} {vs zs dvs : List V}
/-- what comes back of a call -/
theorem came {args : Args} (hx : Passes CX X E) (I : Inv X pins σ H s) (h : codeAny (model X.prog X.w) X.A (.call (.ref f) args) (CR CX X.stack X.prog X.w H s Q E) s) :
    codeAny (model X.prog X.w) X.A (.call (.ref f) args) (fun r s' => match r with | .ok (.ret u) => EP X pins σ Q u s' | .ok _ => False | .error e => X.xe e s') s := by
  refine codeAny_mono h ?_
  intro r s' z
  match r, z with
  | .error e, z => exact hx pins σ H s e s' I z
  | .ok (.ret u), z => exact I.after z
  | .ok .next, z => exact z.elim
  | .ok .brk, z => exact z.elim
  | .ok .cont, z => exact z.elim
theorem Fn.at_ (F : Fn X.prog X.w X.K X.mg X.base CX k f fd ps sp) (rm : Rm k X.A) (hb : Binds X.K fd ps ds) (hd : Vals dvs ds) (hx : Passes CX X E) (I : Inv X pins σ H s) (r : Vals vs us) (h : sp (vs ++ dvs) H Q E) :
    wpAny (model X.prog X.w) X.A (call (.ref f) us) (EP X pins σ Q) X.xe s := by
  have rr := r.append hd
  have bnd := hb s us I.kIn (rr.length.symm.trans (F.arity _ _ _ _ h))
  have z := came (args := ⟨us, []⟩) hx I (F.goes _ _ _ _ _ _ _ _ _ rm I.env0 bnd rr h)
  refine wpAny_call (codeAny_mono z ?_)
  rintro (_ | _ | _ | _ | _) s' q <;> exact q
theorem Fn.atN (F : Fn X.prog X.w X.K X.mg X.base CX k f fd ps sp) (rm : Rm k X.A) (hb : KBn X.K fd ps n ks g gV) (hx : Passes CX X E) (I : Inv X pins σ H s) (r : Vals vs us) (rz : Vals zs ws) (l1 : vs.length = n) (l2 : zs.length = ks.length) (h : sp (gV vs zs) H Q E) :
    wpAny (model X.prog X.w) X.A (call (.ref f) us (ks.zip ws)) (EP X pins σ Q) X.xe s := by
  have bnd := hb.to s us ws I.kIn (r.length.symm.trans l1) (rz.length.symm.trans l2)
  have z := came (args := ⟨us, ks.zip ws⟩) hx I (F.goes _ _ _ _ _ _ _ _ _ rm I.env0 bnd (hb.rel r rz) h)
  refine wpAny_call (codeAny_mono z ?_)
  rintro (_ | _ | _ | _ | _) s' q <;> exact q
/-- f(e, ..) -/
theorem pg_call (F : Fn X.prog X.w X.K X.mg X.base CX k f fd ps sp) (rm : Rm k X.A) (hg : Gl X x) (hm : X.mg x = some (.ref f)) (hk : PySem.W.keepIn X.K (.ref f) = true) (hb : Binds X.K fd ps ds) (hd : Vals dvs ds) (hx : Passes CX X E)
    (ha : PA X (e :: es) t) (hdb : (x == ("__debug__" : Str)) = false := by decide) (he : starEach (e :: es) X.env = (false, eval e X.env) :: starEach es X.env := by rfl) (hpl : (backTo pos (starEach es X.env)).any (·.1) = false := by rfl) :
    PE X (.Call (.Name x p) (e :: es) [] pos) (tCall sp dvs E t) := by
  constructor
  intro pins s σ H Q I h
  refine wpAny_Call_Name_kw (ld_glob I hg hm ?_ hdb)
  have args := ha.run pos pins s σ H _ I h
  refine PySem.W.callWith_K (h₀ := X.base) I.ok.mod.kin hk (thn args ?_) he hpl
  rintro us s1 ⟨vs, H1, I1, r, q⟩
  exact ⟨I1.kIn, F.at_ rm hb hd hx I1 r q⟩
/-- f() -/
theorem pg_call0 (F : Fn X.prog X.w X.K X.mg X.base CX k f fd ps sp) (rm : Rm k X.A) (hg : Gl X x) (hm : X.mg x = some (.ref f)) (hk : PySem.W.keepIn X.K (.ref f) = true) (hb : Binds X.K fd ps ds) (hd : Vals dvs ds) (hx : Passes CX X E) (hdb : (x == ("__debug__" : Str)) = false := by decide) :
    PE X (.Call (.Name x p) [] [] pos) (tCall sp dvs E tNil) := by
  constructor
  intro pins s σ H Q I h
  refine wpAny_Call_Name_kw (ld_glob I hg hm ?_ hdb)
  exact PySem.W.callWith_K0 I.kIn hk (F.at_ (us := []) (vs := []) rm hb hd hx I .nil h)
/-- f(e, .., k = v, ..) -/
theorem pg_callN (F : Fn X.prog X.w X.K X.mg X.base CX k f fd ps sp) (rm : Rm k X.A) (hg : Gl X x) (hm : X.mg x = some (.ref f)) (hk : PySem.W.keepIn X.K (.ref f) = true) (hb : KBn X.K fd ps n ks g gV) (hx : Passes CX X E)
    (ha : PA X (e :: es) t) (hkw : PK X kws tk) (hall : (backToKw pos (keywordEach kws X.env)).all (·.1.isSome) = true := by rfl) (hks : (backToKw pos (keywordEach kws X.env)).filterMap (·.1) = ks := by rfl)
    (hdb : (x == ("__debug__" : Str)) = false := by decide) (he : starEach (e :: es) X.env = (false, eval e X.env) :: starEach es X.env := by rfl)
    (hpl : ((backTo pos (starEach (e :: es) X.env)).any (·.1) || (backToKw pos (keywordEach kws X.env)).any (·.1.isNone)) = false := by rfl) :
    PE X (.Call (.Name x p) (e :: es) kws pos) (tCallN n ks.length sp gV E t tk) := by
  constructor
  intro pins s σ H Q I h
  refine wpAny_Call_Name_kw (ld_glob I hg hm ?_ hdb)
  have args := ha.run pos pins s σ H _ I h
  refine PySem.W.callWith_KW (h₀ := X.base) I.ok.mod.kin hk hall (thn args ?_) hpl he
  rintro us s1 ⟨vs, H1, I1, r, q⟩
  have more := hkw.run pos pins s1 σ H1 _ I1 q
  refine thn more ?_
  rintro ws s2 ⟨zs, H2, I2, rz, l1, l2, q2⟩
  refine ⟨I2.kIn, ?_⟩
  rw [hks]
  exact F.atN rm hb hx I2 r rz l1 l2 q2
/-- f(k = v, ..): no value by place -/
def tCallN0 (m : Nat) (sp : Sp) (gV : List V → List V → List V) (E : XK) (tk : TA) : TE := fun σ H Q => tk σ H fun zs H2 => zs.length = m ∧ sp (gV [] zs) H2 Q E
theorem pg_callN0 (F : Fn X.prog X.w X.K X.mg X.base CX k f fd ps sp) (rm : Rm k X.A) (hg : Gl X x) (hm : X.mg x = some (.ref f)) (hk : PySem.W.keepIn X.K (.ref f) = true) (hb : KBn X.K fd ps 0 ks g gV) (hx : Passes CX X E)
    (hkw : PK X kws tk) (hall : (backToKw pos (keywordEach kws X.env)).all (·.1.isSome) = true := by rfl) (hks : (backToKw pos (keywordEach kws X.env)).filterMap (·.1) = ks := by rfl)
    (hdb : (x == ("__debug__" : Str)) = false := by decide) (hpl : ((backTo pos (starEach [] X.env)).any (·.1) || (backToKw pos (keywordEach kws X.env)).any (·.1.isNone)) = false := by rfl) :
    PE X (.Call (.Name x p) [] kws pos) (tCallN0 ks.length sp gV E tk) := by
  constructor
  intro pins s σ H Q I h
  refine wpAny_Call_Name_kw (ld_glob I hg hm ?_ hdb)
  refine PySem.W.callWith_KW0 (h₀ := X.base) I.ok.mod.kin hk hall ?_ hpl
  have more := hkw.run pos pins s σ H _ I h
  refine thn more ?_
  rintro ws s2 ⟨zs, H2, I2, rz, l2, q2⟩
  refine ⟨I2.kIn, ?_⟩
  rw [hks]
  exact F.atN (us := []) (vs := []) rm hb hx I2 .nil rz rfl l2 q2
end

/-! ### the end of a law -/
section
variable {P : Program} {w : World} {K : PySem.W.Frag} {mg mb : Str → Option Value} {k : Nat} {fa a : Addr} {fd : FuncData} {x : Str} {sp : Sp} {s₁ : Shared} {vs : List Value} {ns : List Int}
/-- from a heap where at most the script is tracked -/
theorem law_from (KX : K.In s₁.heap) (hns : s₁.heap.Ns mainGlobals mg) (hb : s₁.heap.Ns builtinsNs mb) (hbb : ∀ y : Str, y ≠ "__name__" → mb y = bootBuiltins y) (hlim : s₁.heap.NoLimit) (hg : s₁.gens = #[])
    (ha : s₁.heap.get? a = some { cls := .type "list", data := .seq vs.toArray }) (rm : Rm k callerA)
    (F : ∀ base : Heap, K.In base → base.Ns mainGlobals mg → Fn P w K mg base CX0 k fa fd [x] sp) (bnd : ∀ (s : Shared) (u : Value), BindsTo s fd ⟨[u], []⟩ [(x, u)])
    (H : Hp) (only : ∀ b, H b = none ∨ (b = a ∧ ∃ o xs, H b = some (.frz o (.lst xs)))) (hok : HOk P w H s₁.heap) (hK : H a ≠ none → K.lookup a = none) (hsp : sp [.ref a] H (fun v _ => v = .bl true) fun _ _ _ => False) :
    codeAny (model P w) callerA (.call (.ref fa) ⟨[.ref a], []⟩) (fun r s' => r = .ok (.ret (.bool true)) ∧ OldK s₁.heap s'.heap ∧ s'.os = s₁.os ∧ AllBare s'.gens) s₁ := by
  have isA : ∀ b, H b ≠ none → b = a := fun b z => (only b).elim (fun y => absurd y z) fun y => y.1
  have off : ∀ b o, s₁.heap.get? b = some o → (b = a → False) → (hidT s₁.heap H).get? b = some o := fun b o e z => hidT_get e (by
    cases q : H b with
    | none => rfl
    | some u => exact (z (isA b (by simp [q]))).elim)
  have ns' : ∀ {b : Addr} {m : Str → Option Value}, s₁.heap.Ns b m → (hidT s₁.heap H).Ns b m := by
    rintro b m ⟨o, es, ep, e, d, r⟩
    refine ⟨o, es, ep, off b o e ?_, d, r⟩
    rintro rfl
    cases ha.symm.trans e
    cases d
  have kin' : K.In (hidT s₁.heap H) := fun b o e => by
    cases q : H b with
    | none => exact hidT_get (KX b o e) q
    | some u =>
      have e' := isA b (by simp [q])
      subst e'
      cases (hK (by simp [q])).symm.trans e
  have md : Mod K mg (hidT s₁.heap H) := by
    obtain ⟨mc, l1, l2⟩ := hlim
    exact ⟨kin', ns' hns, ⟨mb, ns' hb, hbb⟩, ⟨mc, ns' l1, l2⟩⟩
  have e0 : Env0 P w K mg (hidT s₁.heap H) callerA [] s₁ H := by
    refine ⟨rfl, md, fun b o => of_hidT, Nat.le_of_eq (hidT_size _ _), trivial, ?_, hok, .of_eq hg⟩
    intro b z
    cases z
  have run := (F _ kin' (ns' hns)).goes callerA [] s₁ H ⟨[.ref a], []⟩ [.ref a] [.ref a] _ _ rm e0 (bnd s₁ (.ref a)) (.cons rfl .nil) hsp
  refine codeAny_mono run ?_
  intro r s' z
  match r, z with
  | .error _, z => exact z.elim
  | .ok .next, z => exact z.elim
  | .ok .brk, z => exact z.elim
  | .ok .cont, z => exact z.elim
  | .ok (.ret u), ⟨v, H', os, bare, un, hok', rv, q⟩ =>
    cases (show v = .bl true from q)
    cases (show u = Value.bool true from rv)
    refine ⟨rfl, .of_keep ?_, os, bare⟩
    intro b o e
    rcases only b with q | ⟨_, ob, xs, q⟩
    · exact un.keep b o e q (fun y => nomatch y) (fun y => nomatch y)
    · have e1 := (hok b _ q).1
      have e2 := (hok' b _ (un.frzs b ob _ q)).1
      cases e1.symm.trans e
      exact e2
theorem law_all (KX : K.In s₁.heap) (hns : s₁.heap.Ns mainGlobals mg) (hb : s₁.heap.Ns builtinsNs mb) (hbb : ∀ y : Str, y ≠ "__name__" → mb y = bootBuiltins y) (hlim : s₁.heap.NoLimit) (hg : s₁.gens = #[])
    (ha : s₁.heap.get? a = some { cls := .type "list", data := .seq vs.toArray }) (hi : IntsAre vs ns) (hl : ns.length ≤ sizeLine) (rm : Rm k callerA)
    (F : ∀ base : Heap, K.In base → base.Ns mainGlobals mg → Fn P w K mg base CX0 k fa fd [x] sp) (bnd : ∀ (s : Shared) (u : Value), BindsTo s fd ⟨[u], []⟩ [(x, u)])
    (hsp : ∀ H : Hp, SqL K H a (ns.map V.int) → (H a = none ∨ ∃ o xs, H a = some (.frz o (.lst xs))) → (∀ b, b ≠ a → H b = none) → sp [.ref a] H (fun v _ => v = .bl true) fun _ _ _ => False) :
    codeAny (model P w) callerA (.call (.ref fa) ⟨[.ref a], []⟩) (fun r s' => r = .ok (.ret (.bool true)) ∧ OldK s₁.heap s'.heap ∧ s'.os = s₁.os ∧ AllBare s'.gens) s₁ := by
  have rv := vals_ints hi
  cases hk : K.lookup a with
  | some o =>
    have e := KX a o hk
    cases ha.symm.trans e
    have sq : SqL K (fun _ => none) a (ns.map V.int) := Or.inr ⟨_, vs.toArray, _, hk, rfl, rfl, rfl, by rw [List.size_toArray, hi.length]; exact hl, by simpa using rv⟩
    exact law_from KX hns hb hbb hlim hg ha rm F bnd (fun _ => none) (fun _ => Or.inl rfl) (fun _ _ z => nomatch z) (fun z => absurd rfl z) (hsp _ sq (Or.inl rfl) fun _ _ => rfl)
  | none =>
    let H1 : Hp := fun b => if b = a then some (.frz { cls := .type "list", data := .seq vs.toArray } (.lst (ns.map V.int))) else none
    have at_a : H1 a = some (.frz { cls := .type "list", data := .seq vs.toArray } (.lst (ns.map V.int))) := if_pos rfl
    have at_b : ∀ b, b ≠ a → H1 b = none := fun b z => if_neg z
    refine law_from KX hns hb hbb hlim hg ha rm F bnd H1 ?_ ?_ (fun _ => hk) (hsp H1 (Or.inl (Or.inr ⟨_, at_a⟩)) (Or.inr ⟨_, _, at_a⟩) at_b)
    · intro b
      by_cases z : b = a
      · subst z; exact Or.inr ⟨rfl, _, _, at_a⟩
      · exact Or.inl (at_b b z)
    · intro b u e
      by_cases z : b = a
      · subst z
        cases at_a.symm.trans e
        refine ⟨ha, ?_, vs, _, rv, ha⟩
        rw [List.length_map]; exact hl
      · cases (at_b b z).symm.trans e
end
/-- the goal that the head leaves, from the law's promise; the script's bits are told -/
theorem law_end {l : PySem.W.OpenLaw} {n k : Nat} {q : Program} {loose : List Str} {XP : (Str → Option Value) → Heap → Prop} {YP : World → Heap → Prop} {d : DefRec} {K : Params → PySem.W.Frag} {sp : World → Sp} {x : Str}
    (hn : l.most = some n) (hn2 : n ≤ sizeLine) (hdf : d.params.defaults = []) (hr : Room k callerA) (hY : ∀ w h, YP w h → (K w.params).In h)
    (F : ∀ (w : World) (mg : Str → Option Value) (fa : Addr) (h : Heap), (K w.params).In h → h.Ns mainGlobals mg → mg d.name = some (.ref fa) → ∃ fd : FuncData, (∀ (s : Shared) (u : Value), BindsTo s fd ⟨[u], []⟩ [(x, u)]) ∧ ∀ base : Heap, (K w.params).In base → base.Ns mainGlobals mg → Fn l.prog w (K w.params) mg base CX0 k fa fd [x] (sp w))
    (hsp : ∀ (w : World) (H : Hp) (a : Addr) (ns : List Int), ns.length ≤ n → (∀ z ∈ ns, Builtin.Int.intBits z ≤ 1048576) → SqL (K w.params) H a (ns.map V.int) → (H a = none ∨ ∃ o xs, H a = some (.frz o (.lst xs))) → (∀ b, b ≠ a → H b = none) → sp w [.ref a] H (fun v _ => v = .bl true) fun _ _ _ => False) :
    PySem.W.WalkO q loose XP YP l.row.toRowW d [] (fun f vs => PySem.call f vs) := by
  refine Att.attach_callB hn hdf ?_
  intro w s₀ s₁ mg mb fa o pm cd doc a vs ns G Y _ _ _ hmg hobj hints hlen hbits hg
  obtain ⟨fd, bnd, hF⟩ := F w mg fa _ (hY w _ Y) G.T.g hmg
  exact law_all (hY w _ Y) G.T.g G.T.b G.T.builtins G.T.nolimit hg hobj hints (Nat.le_trans hlen hn2) ⟨hr, rfl⟩ hF bnd fun H h1 h2 h3 => hsp w H a ns hlen hbits h1 h2 h3
end RD

/-! RD4: calls, defs; lists of one's own changed; list comprehensions. -/
namespace RD
open PySem PySem.Spec PyProof.Rows L2

/-! ### the promise of a def -/
/-- a def that changes nothing: R tells what it may come to, from its arguments -/
def spF (K : PySem.W.Frag) (R : List D → (D → Prop) → Prop) : Sp := fun vs H Q _ => ∃ (W : List Addr) (ds : List D) (k : D → Prop), (∀ a ∈ W, H a ≠ none) ∧ W.Nodup ∧ RepAll K (· ∈ W) H vs ds ∧ R ds k ∧
  ∀ d v H', k d → (∀ a o, H a = some o → H' a = some o) → Rep K (· ∈ W) H' v d → Q v H'
/-- a def that draws: p the pen, n the draws that are left -/
def spP (K : PySem.W.Frag) (R : Addr → Nat → List D → (Nat → D → Prop) → Prop) : Sp := fun vs H Q _ => ∃ (W : List Addr) (p c : Addr) (n : Nat) (ds : List D) (k : Nat → D → Prop), (∀ a ∈ W, H a ≠ none) ∧ W.Nodup ∧ p ∈ W ∧ c ∈ W ∧ p ≠ c ∧ PenAt p c n H ∧
  RepAll K (· ∈ W) H vs ds ∧ R p n ds k ∧ ∀ n' d v H', k n' d → (∀ a o, a ≠ p → H a = some o → H' a = some o) → PenAt p c n' H' → Rep K (· ∈ W) H' v d → Q v H'

/-- the names at the entry -/
def startD (N : List Str) (ds : List D) : En := ds.map (fun d => some (.dat d)) ++ List.replicate (N.length - ds.length) none
theorem owns_startD (N : List Str) (ds : List D) : owns (startD N ds) = [] := by
  unfold startD
  have h1 : ∀ m, owns (List.replicate m none) = [] := by
    intro m
    induction m with
    | zero => rfl
    | succ m ih => rw [List.replicate_succ]; show [] ++ owns (List.replicate m none) = []; rw [ih]; rfl
  induction ds generalizing N with
  | nil => exact h1 _
  | cons d ds ih =>
    show [] ++ owns (ds.map (fun d => some (.dat d)) ++ List.replicate (N.length - (ds.length + 1)) none) = []
    rw [List.nil_append]
    cases N with
    | nil => simpa [startD] using ih []
    | cons x N => have := ih N; simpa [startD] using this
theorem paired_startD {K : PySem.W.Frag} {M : Addr → Prop} {H : Hp} (N : List Str) : ∀ {ds : List D} {vs : List V}, RepAll K M H vs ds → Paired (SlotR K M H) (startD N ds) (L2.start N vs) := fun {ds vs} r => by
  unfold startD L2.start
  have h1 : ∀ m, Paired (SlotR K M H) (List.replicate m none) (List.replicate m none) := by
    intro m
    induction m with
    | zero => exact .nil
    | succ m ih => exact .cons trivial ih
  rw [r.length]
  have : ∀ {ds : List D} {vs : List V} (l : En) (m : L2.St), RepAll K M H vs ds → Paired (SlotR K M H) l m → Paired (SlotR K M H) (ds.map (fun d => some (.dat d)) ++ l) (vs.map some ++ m) := by
    intro ds vs l m r hl
    induction vs generalizing ds with
    | nil => cases r; exact hl
    | cons v vs ih =>
      cases r with
      | cons r1 r2 => exact .cons r1 (ih r2)
  exact this _ _ r (h1 _)
theorem mt_start {A : Amb} {N : List Str} {ds : List D} : ∀ a, Mt A (startD N ds) a ↔ a ∈ A.W := fun a => by
  unfold Mt
  rw [owns_startD]
  simp
section
variable {P : Program} {w : World} {K : PySem.W.Frag} {mg : Str → Option Value} {base : Heap} {x qual : Str} {params : Arguments} {body : List Stmt} {scope : Scope} {dvs : List V} {kws : List (Str × V)} {f : Addr} {fd : FuncData} {N ps : List Str} {k : Nat}
/-- THE RULE for a def that changes nothing -/
theorem fn_pure {R : List D → (D → Prop) → Prop} (F : FunD K x qual params body scope dvs kws f fd) (S : FnScope N ps scope) (len : ∀ ds kk, R ds kk → ds.length = ps.length)
    (hbody : ∀ (cdv : Value) (A0 : Around) (outer : List Env) (s : Shared) (H : Hp) (E : XK) (A : Amb) (ds : List D) (kk : D → Prop), Rm k (A0.deeper (envOfC qual scope s.heap.objs.size f cdv)) → A.pen = none → R ds kk →
      WS (cxOf CX0 P w K mg base N qual scope f cdv A0 outer s H E).nox A body (startD N ds) 0 { nx := fun _ _ => kk .non, rt := fun _ _ d => kk d }) : Fn P w K mg base CX0 (k + 1) f fd ps (spF K R) := by
  refine Fn.by_body F S (fun vs H Q E h => ?_) fun cdv A0 outer s H vs Q E hr h => ?_
  · obtain ⟨W, ds, kk, _, _, r, hR, _⟩ := h
    rw [r.length]
    exact len ds kk hR
  · obtain ⟨W, ds, kk, htr, hnd, r, hR, q⟩ := h
    have hA : ∀ {D_ : Ends}, D_ = ({ nx := fun _ H' => Q .non H', rt := Q } : Ends) → canSs (cxOf CX0 P w K mg base N qual scope f cdv A0 outer s H E).nox body D_ (L2.start N vs) H := by
      rintro _ rfl
      have mt : ∀ a, Mt { W := W, H0 := H, pen := none } (startD N ds) a ↔ a ∈ W := mt_start
      have r' : RepAll K (Mt { W := W, H0 := H, pen := none } (startD N ds)) H vs ds := RepAll.mono (fun a o m e => ⟨e, fun z => m ((mt a).mp z)⟩) ds r
      have fin : ∀ {n : Nat} {ρ : En} {σ : L2.St} {H' : Hp} {v : V} {d : D}, kk d → Here K { W := W, H0 := H, pen := none } (startD N ds) H n ρ σ H' → Rep K (Mt { W := W, H0 := H, pen := none } ρ) H' v d → Q v H' := fun {n ρ σ H' v d} hk hh rr => by
        refine q d v H' hk (fun a o e => (hh.kp a o ?_ (fun z => z) e).1) (Rep.mono (fun a o m e => ⟨e, fun z => m (.inr z)⟩) d rr)
        rw [owns_startD]; simp
      refine hbody cdv A0 outer s H E { W := W, H0 := H, pen := none } ds kk hr rfl hR (startD N ds) H (L2.start N vs) H ⟨.refl, ⟨fun _ _ _ => rfl, htr, trivial⟩, ⟨paired_startD N r', ?_⟩⟩ _ ⟨?_, ?_, ?_, ?_⟩
      · rw [owns_startD]; simpa using hnd
      · intro n ρ σ H' h1 hh
        exact fin h1 hh .non
      · intro n ρ σ H' d v h1 hh rr
        exact fin h1 hh rr
      · intro n ρ σ H' h1 _
        exact h1
      · intro n ρ σ H' h1 _
        exact h1
    exact canSs.of (sscan (X := (cxOf CX0 P w K mg base N qual scope f cdv A0 outer s H E).nox) (st := body)).nox (hA rfl)
/-- THE RULE for a def that draws -/
theorem fn_pen {R : Addr → Nat → List D → (Nat → D → Prop) → Prop} (F : FunD K x qual params body scope dvs kws f fd) (S : FnScope N ps scope) (len : ∀ p n ds kk, R p n ds kk → ds.length = ps.length)
    (hbody : ∀ (cdv : Value) (A0 : Around) (outer : List Env) (s : Shared) (H : Hp) (E : XK) (A : Amb) (p c : Addr) (n : Nat) (ds : List D) (kk : Nat → D → Prop), Rm k (A0.deeper (envOfC qual scope s.heap.objs.size f cdv)) → A.pen = some (p, c) → R p n ds kk →
      WS (cxOf CX0 P w K mg base N qual scope f cdv A0 outer s H E).nox A body (startD N ds) n { nx := fun n _ => kk n .non, rt := fun n _ d => kk n d }) : Fn P w K mg base CX0 (k + 1) f fd ps (spP K R) := by
  refine Fn.by_body F S (fun vs H Q E h => ?_) fun cdv A0 outer s H vs Q E hr h => ?_
  · obtain ⟨W, p, c, n, ds, kk, _, _, _, _, _, _, r, hR, _⟩ := h
    rw [r.length]
    exact len p n ds kk hR
  · obtain ⟨W, p, c, n, ds, kk, htr, hnd, hp, hc, hpc, pen, r, hR, q⟩ := h
    have hA : ∀ {D_ : Ends}, D_ = ({ nx := fun _ H' => Q .non H', rt := Q } : Ends) → canSs (cxOf CX0 P w K mg base N qual scope f cdv A0 outer s H E).nox body D_ (L2.start N vs) H := by
      rintro _ rfl
      have mt : ∀ a, Mt { W := W, H0 := H, pen := some (p, c) } (startD N ds) a ↔ a ∈ W := mt_start
      have r' : RepAll K (Mt { W := W, H0 := H, pen := some (p, c) } (startD N ds)) H vs ds := RepAll.mono (fun a o m e => ⟨e, fun z => m ((mt a).mp z)⟩) ds r
      have fin : ∀ {n : Nat} {ρ : En} {σ : L2.St} {H' : Hp} {v : V} {d : D}, kk n d → Here K { W := W, H0 := H, pen := some (p, c) } (startD N ds) H n ρ σ H' → Rep K (Mt { W := W, H0 := H, pen := some (p, c) } ρ) H' v d → Q v H' := fun {n ρ σ H' v d} hk hh rr => by
        refine q n d v H' hk (fun a o hne e => (hh.kp a o ?_ hne e).1) hh.j.2.2.2.2.2 (Rep.mono (fun a o m e => ⟨e, fun z => m (.inr z)⟩) d rr)
        rw [owns_startD]; simp
      refine hbody cdv A0 outer s H E { W := W, H0 := H, pen := some (p, c) } p c n ds kk hr rfl hR (startD N ds) H (L2.start N vs) H ⟨.refl, ⟨fun _ _ _ => rfl, htr, hp, hc, hpc, pen⟩, ⟨paired_startD N r', ?_⟩⟩ _ ⟨?_, ?_, ?_, ?_⟩
      · rw [owns_startD]; simpa using hnd
      · intro n ρ σ H' h1 hh
        exact fin h1 hh .non
      · intro n ρ σ H' d v h1 hh rr
        exact fin h1 hh rr
      · intro n ρ σ H' h1 _
        exact h1
      · intro n ρ σ H' h1 _
        exact h1
    exact canSs.of (sscan (X := (cxOf CX0 P w K mg base N qual scope f cdv A0 outer s H E).nox) (st := body)).nox (hA rfl)
end

/-! ### the calls -/
theorem owns_there {K : PySem.W.Frag} {M : Addr → Prop} {H : Hp} : ∀ {ρ : En} {σ : L2.St}, Paired (SlotR K M H) ρ σ → ∀ a ∈ owns ρ, H a ≠ none := by
  intro ρ σ r
  induction r with
  | nil => intro a h; simp [owns] at h
  | @cons s v l m r t ih =>
    intro a h
    rcases List.mem_append.mp (show a ∈ addrs s ++ owns l from h) with h | h
    · cases s with
      | none => simp [addrs] at h
      | some s =>
        cases v with
        | none => cases s <;> exact r.elim
        | some v =>
          cases s with
          | dat d => simp [addrs] at h
          | own q ds =>
            simp [addrs] at h
            subst h
            obtain ⟨_, vs, e, _⟩ := r
            rw [e]; simp
          | ownK q ds =>
            simp [addrs] at h
            subst h
            obtain ⟨_, vs, e, _⟩ := r
            rw [e]; simp
    · exact ih a h
/-- all that was there stands -/
theorem Here.stay {K : PySem.W.Frag} {A : Amb} {ρ0 : En} {H0 H H' : Hp} {n : Nat} {ρ : En} {σ : L2.St} (h : Here K A ρ0 H0 n ρ σ H) (e : ∀ a o, H a = some o → H' a = some o) : Here K A ρ0 H0 n ρ σ H' ∧ Keeps A ρ H ρ H' := by
  have kp : Keeps A ρ H ρ H' := fun a o m _ q => ⟨e a o q, m⟩
  have same : ∀ a, H a ≠ none → H' a = H a := fun a z => by
    cases q : H a with
    | none => exact absurd q z
    | some o => exact e a o q
  refine ⟨⟨h.kp.trans kp, ⟨fun a ha hp => (same a (h.j.2.1 a ha)).trans (h.j.1 a ha hp), fun a ha => by rw [same a (h.j.2.1 a ha)]; exact h.j.2.1 a ha, ?_⟩, ⟨paired_mono (fun _ _ r => slotR_mono e r) h.sat.sl, h.sat.nd⟩⟩, kp⟩
  have j := h.j.2.2
  cases hq : A.pen with
  | none => trivial
  | some pc =>
    obtain ⟨p, c⟩ := pc
    rw [hq] at j
    obtain ⟨h1, h2, h3, at_, rest, ns, e1, e2, r⟩ := j
    exact ⟨h1, h2, h3, at_, rest, ns, e _ _ e1, e _ _ e2, r⟩
/-- all but the pen stands -/
theorem Here.drawn {K : PySem.W.Frag} {A : Amb} {ρ0 : En} {H0 H H' : Hp} {n n' : Nat} {ρ : En} {σ : L2.St} {p c : Addr} (h : Here K A ρ0 H0 n ρ σ H) (hp : A.pen = some (p, c)) (e : ∀ a o, a ≠ p → H a = some o → H' a = some o) (pen : PenAt p c n' H') : Here K A ρ0 H0 n' ρ σ H' ∧ Keeps A ρ H ρ H' := by
  have isp : ∀ a, A.isPen a ↔ a = p := fun a => by unfold Amb.isPen; rw [hp]
  have kp : Keeps A ρ H ρ H' := fun a o m z q => ⟨e a o (fun y => z ((isp a).mpr y)) q, m⟩
  have same : ∀ a, a ≠ p → H a ≠ none → H' a = H a := fun a y z => by
    cases q : H a with
    | none => exact absurd q z
    | some o => exact e a o y q
  have j := h.j.2.2
  rw [hp] at j
  obtain ⟨h1, h2, h3, _⟩ := j
  have pnone : H' p ≠ none := by
    obtain ⟨at_, rest, ns, e1, _⟩ := pen
    rw [e1]; simp
  refine ⟨⟨h.kp.trans kp, ⟨fun a ha hn => (same a (fun z => hn ((isp a).mpr z)) (h.j.2.1 a ha)).trans (h.j.1 a ha hn), fun a ha => ?_, ?_⟩, ⟨?_, h.sat.nd⟩⟩, kp⟩
  · by_cases z : a = p
    · rw [z]; exact pnone
    · rw [same a z (h.j.2.1 a ha)]; exact h.j.2.1 a ha
  · rw [hp]; exact ⟨h1, h2, h3, pen⟩
  · have hM : Mt A ρ p := .inr h1
    have hno : ∀ a ∈ owns ρ, a ≠ p := fun a ha z => by
      have := h.sat.nd
      rw [List.nodup_append] at this
      exact this.2.2 a ha p h1 z
    have up : ∀ a o, ¬ Mt A ρ a → H a = some o → H' a = some o ∧ ¬ Mt A ρ a := fun a o m q => ⟨e a o (fun z => m (by rw [z]; exact hM)) q, m⟩
    have : ∀ {ρ' : En} {σ' : L2.St}, Paired (SlotR K (Mt A ρ) H) ρ' σ' → (∀ a ∈ owns ρ', a ≠ p) → Paired (SlotR K (Mt A ρ) H') ρ' σ' := by
      intro ρ' σ' r
      induction r with
      | nil => intro _; exact .nil
      | @cons s v l m r t ih =>
        intro hn
        refine .cons ?_ (ih fun a ha => hn a (by show a ∈ addrs s ++ owns l; exact List.mem_append_right _ ha))
        cases s with
        | none => cases v <;> trivial
        | some s =>
          cases v with
          | none => cases s <;> exact r
          | some v =>
            cases s with
            | dat d => exact Rep.mono up d r
            | own q ds =>
              obtain ⟨e0, vs, e1, e2⟩ := r
              exact ⟨e0, vs, e _ _ (hn q (by show q ∈ [q] ++ owns l; simp)) e1, RepAll.mono up ds e2⟩
            | ownK q ds =>
              obtain ⟨e0, vs, e1, e2⟩ := r
              exact ⟨e0, vs, e _ _ (hn q (by show q ∈ [q] ++ owns l; simp)) e1, RepKV.mono up ds e2⟩
    exact this h.sat.sl hno
theorem mt_mem {A : Amb} {ρ : En} : ∀ a, Mt A ρ a ↔ a ∈ owns ρ ++ A.W := fun a => List.mem_append.symm
theorem Here.tracked {K : PySem.W.Frag} {A : Amb} {ρ0 : En} {H0 H : Hp} {n : Nat} {ρ : En} {σ : L2.St} (h : Here K A ρ0 H0 n ρ σ H) : ∀ a ∈ owns ρ ++ A.W, H a ≠ none := fun a ha => by
  rcases List.mem_append.mp ha with z | z
  · exact owns_there h.sat.sl a z
  · exact h.j.2.1 a z
section
variable {X : Cx} {A : Amb} {ρ : En} {n lv : Nat} {e : Expr} {es : List Expr} {kws : List Keyword} {x : Str} {p pos : Pos} {f : Addr} {fd : FuncData} {ps ks : List Str} {R : List D → (D → Prop) → Prop} {RP : Addr → Nat → List D → (Nat → D → Prop) → Prop} {k : Nat → En → D → Prop} {dvs : List V} {dds : List D} {us : List Value}
theorem spF_of {Q : VK} {E : XK} {ρ0 : En} {H0 H1 : Hp} {σ : L2.St} {vs : List V} {ds : List D} {kk : D → Prop} (hh : Here X.K A ρ0 H0 n ρ σ H1) (r : RepAll X.K (Mt A ρ) H1 vs ds) (hR : R ds kk)
    (q : ∀ d v H', kk d → Here X.K A ρ0 H0 n ρ σ H' → Keeps A ρ H1 ρ H' → Rep X.K (Mt A ρ) H' v d → Q v H') : spF X.K R vs H1 Q E := by
  refine ⟨owns ρ ++ A.W, ds, kk, hh.tracked, hh.sat.nd, RepAll.mono (fun a o m e => ⟨e, fun z => m ((mt_mem a).mpr z)⟩) ds r, hR, fun d v H' hk st rr => ?_⟩
  obtain ⟨h1, h2⟩ := hh.stay st
  exact q d v H' hk h1 h2 (Rep.mono (fun a o m e => ⟨e, fun z => m ((mt_mem a).mp z)⟩) d rr)
/-- f(e, ..); dds: the defaults that fill up -/
theorem we_call (F : Fn X.prog X.w X.K X.mg X.base CX0 lv f fd ps (spF X.K R)) (hr : Rm lv X.A) (hm : X.mg x = some (.ref f)) (hk : PySem.W.keepIn X.K (.ref f) = true) (hb : Binds X.K fd ps us) (hd : Vals dvs us) (hdd : ∀ M H, RepAll X.K M H dvs dds)
    (h : WA X A (e :: es) ρ n fun n ρ ds => R (ds ++ dds) (k n ρ)) (hg : Gl X x := by rfl) (hdb : (x == ("__debug__" : Str)) = false := by decide) (he : starEach (e :: es) X.env = (false, eval e X.env) :: starEach es X.env := by rfl) (hpl : (backTo pos (starEach es X.env)).any (·.1) = false := by rfl) :
    WE X A (.Call (.Name x p) (e :: es) [] pos) ρ n k := by
  intro ρ0 H0 σ H hh Q q
  refine canE.of (pg_call F hr hg hm hk hb hd pass0 acan hdb he hpl) ?_
  refine h ρ0 H0 σ H hh _ fun n1 ρ1 ds vs H1 h1 hh1 k1 r1 => ?_
  exact spF_of hh1 (r1.append (hdd _ _)) h1 fun d v H' hk hh' kp rr => q n1 ρ1 d v H' hk hh' (k1.trans kp) rr
/-- f(e, .., k = v, ..) -/
theorem we_callN {gV : List V → List V → List V} {g : List Value → List Value → List Value} {m : Nat} (gD : List D → List D → List D) (F : Fn X.prog X.w X.K X.mg X.base CX0 lv f fd ps (spF X.K R)) (hr : Rm lv X.A) (hm : X.mg x = some (.ref f)) (hk : PySem.W.keepIn X.K (.ref f) = true) (hb : KBn X.K fd ps m ks g gV)
    (hgD : ∀ M H vs ds zs es, RepAll X.K M H vs ds → RepAll X.K M H zs es → vs.length = m → zs.length = ks.length → RepAll X.K M H (gV vs zs) (gD ds es))
    (h : WA X A (e :: es) ρ n fun n ρ ds => ds.length = m ∧ WK X A kws ρ n fun n ρ zs => zs.length = ks.length ∧ R (gD ds zs) (k n ρ)) (hg : Gl X x := by rfl) (hall : (backToKw pos (keywordEach kws X.env)).all (·.1.isSome) = true := by rfl) (hks : (backToKw pos (keywordEach kws X.env)).filterMap (·.1) = ks := by rfl)
    (hdb : (x == ("__debug__" : Str)) = false := by decide) (he : starEach (e :: es) X.env = (false, eval e X.env) :: starEach es X.env := by rfl)
    (hpl : ((backTo pos (starEach (e :: es) X.env)).any (·.1) || (backToKw pos (keywordEach kws X.env)).any (·.1.isNone)) = false := by rfl) : WE X A (.Call (.Name x p) (e :: es) kws pos) ρ n k := by
  intro ρ0 H0 σ H hh Q q
  refine canE.of (pg_callN F hr hg hm hk hb pass0 acan kcan hall hks hdb he hpl) ?_
  refine h ρ0 H0 σ H hh _ fun n1 ρ1 ds vs H1 h1 hh1 k1 r1 => ?_
  refine h1.2 ρ0 H0 σ H1 hh1 _ fun n2 ρ2 es' zs H2 h2 hh2 k2 r2 => ?_
  have l1 : vs.length = m := r1.length.trans h1.1
  have l2 : zs.length = ks.length := r2.length.trans h2.1
  refine ⟨l1, l2, ?_⟩
  exact spF_of hh2 (hgD _ _ _ _ _ _ (r1.up hh1.j k2) r2 l1 l2) h2.2 fun d v H' hk hh' kp rr => q n2 ρ2 d v H' hk hh' ((k1.trans k2).trans kp) rr
/-- f(k = v, ..): no value by place -/
theorem we_callN0 {gV : List V → List V → List V} {g : List Value → List Value → List Value} (gD : List D → List D) (F : Fn X.prog X.w X.K X.mg X.base CX0 lv f fd ps (spF X.K R)) (hr : Rm lv X.A) (hm : X.mg x = some (.ref f)) (hk : PySem.W.keepIn X.K (.ref f) = true) (hb : KBn X.K fd ps 0 ks g gV)
    (hgD : ∀ M H zs es, RepAll X.K M H zs es → zs.length = ks.length → RepAll X.K M H (gV [] zs) (gD es))
    (h : WK X A kws ρ n fun n ρ zs => zs.length = ks.length ∧ R (gD zs) (k n ρ)) (hg : Gl X x := by rfl) (hall : (backToKw pos (keywordEach kws X.env)).all (·.1.isSome) = true := by rfl) (hks : (backToKw pos (keywordEach kws X.env)).filterMap (·.1) = ks := by rfl)
    (hdb : (x == ("__debug__" : Str)) = false := by decide)
    (hpl : ((backTo pos (starEach [] X.env)).any (·.1) || (backToKw pos (keywordEach kws X.env)).any (·.1.isNone)) = false := by rfl) : WE X A (.Call (.Name x p) [] kws pos) ρ n k := by
  intro ρ0 H0 σ H hh Q q
  refine canE.of (pg_callN0 F hr hg hm hk hb pass0 kcan hall hks hdb hpl) ?_
  refine h ρ0 H0 σ H hh _ fun n2 ρ2 es' zs H2 h2 hh2 k2 r2 => ?_
  have l2 : zs.length = ks.length := r2.length.trans h2.1
  refine ⟨l2, ?_⟩
  exact spF_of hh2 (hgD _ _ _ _ r2 l2) h2.2 fun d v H' hk hh' kp rr => q n2 ρ2 d v H' hk hh' (k2.trans kp) rr
/-- f(pen, ..) -/
theorem we_pen {pn cn : Addr} (F : Fn X.prog X.w X.K X.mg X.base CX0 lv f fd ps (spP X.K RP)) (hr : Rm lv X.A) (hm : X.mg x = some (.ref f)) (hk : PySem.W.keepIn X.K (.ref f) = true) (hb : Binds X.K fd ps us) (hd : Vals dvs us) (hdd : ∀ M H, RepAll X.K M H dvs dds) (hA : A.pen = some (pn, cn))
    (h : WA X A (e :: es) ρ n fun n ρ ds => RP pn n (ds ++ dds) (fun n' d => k n' ρ d)) (hg : Gl X x := by rfl) (hdb : (x == ("__debug__" : Str)) = false := by decide) (he : starEach (e :: es) X.env = (false, eval e X.env) :: starEach es X.env := by rfl) (hpl : (backTo pos (starEach es X.env)).any (·.1) = false := by rfl) :
    WE X A (.Call (.Name x p) (e :: es) [] pos) ρ n k := by
  intro ρ0 H0 σ H hh Q q
  refine canE.of (pg_call F hr hg hm hk hb hd pass0 acan hdb he hpl) ?_
  refine h ρ0 H0 σ H hh _ fun n1 ρ1 ds vs H1 h1 hh1 k1 r1 => ?_
  have j := hh1.j.2.2
  rw [hA] at j
  obtain ⟨j1, j2, j3, pen⟩ := j
  refine ⟨owns ρ1 ++ A.W, pn, cn, n1, ds ++ dds, _, hh1.tracked, hh1.sat.nd, List.mem_append_right _ j1, List.mem_append_right _ j2, j3, pen, RepAll.mono (fun a o m e => ⟨e, fun z => m ((mt_mem a).mpr z)⟩) _ (r1.append (hdd _ _)), h1, fun n' d v H' hk st pen' rr => ?_⟩
  obtain ⟨z1, z2⟩ := hh1.drawn hA st pen'
  exact q n' ρ1 d v H' hk z1 (k1.trans z2) (Rep.mono (fun a o m e => ⟨e, fun z => m ((mt_mem a).mp z)⟩) d rr)
/-- a built-in function, a built-in type, by values -/
theorem we_callB {id : String} {r : List V → Hp → VK → Prop} (hc : CallR X (.builtin id) r) (hm : X.mg x = none) (hv : bootBuiltins x = some (.builtin id)) (h : WA X A (e :: es) ρ n fun n ρ ds => CallD X.K A r ρ ds (k n ρ)) (hg : Gl X x := by rfl) (hn : x ≠ "__name__" := by decide) (hdb : (x == ("__debug__" : Str)) = false := by decide)
    (he : starEach (e :: es) X.env = (false, eval e X.env) :: starEach es X.env := by rfl) (hpl : (backTo pos (starEach es X.env)).any (·.1) = false := by rfl) : WE X A (.Call (.Name x p) (e :: es) [] pos) ρ n k := by
  intro ρ0 H0 σ H hh Q q
  refine canE.of (pe_callB hc hg hm hv acan hn hdb he hpl) ?_
  refine h ρ0 H0 σ H hh _ fun n1 ρ1 ds vs H1 h1 hh1 k1 r1 => ?_
  exact h1 n1 σ ρ0 H0 H1 vs Q hh1 r1 fun d v H' hk hh' kp rr => q n1 ρ1 d v H' hk hh' (k1.trans kp) rr
theorem we_callTy {id : String} {r : List V → Hp → VK → Prop} (hc : CallR X (.type id) r) (hm : X.mg x = none) (hv : bootBuiltins x = some (.type id)) (h : WA X A (e :: es) ρ n fun n ρ ds => CallD X.K A r ρ ds (k n ρ)) (hg : Gl X x := by rfl) (hn : x ≠ "__name__" := by decide) (hdb : (x == ("__debug__" : Str)) = false := by decide)
    (he : starEach (e :: es) X.env = (false, eval e X.env) :: starEach es X.env := by rfl) (hpl : (backTo pos (starEach es X.env)).any (·.1) = false := by rfl) : WE X A (.Call (.Name x p) (e :: es) [] pos) ρ n k := by
  intro ρ0 H0 σ H hh Q q
  refine canE.of (pe_callTy hc hg hm hv acan hn hdb he hpl) ?_
  refine h ρ0 H0 σ H hh _ fun n1 ρ1 ds vs H1 h1 hh1 k1 r1 => ?_
  exact h1 n1 σ ρ0 H0 H1 vs Q hh1 r1 fun d v H' hk hh' kp rr => q n1 ρ1 d v H' hk hh' (k1.trans kp) rr
/-- a module's name for a built-in function -/
theorem we_callBf {id : String} {r : List V → Hp → VK → Prop} (hc : CallR X (.builtin id) r) (hm : X.mg x = some (.builtin id)) (h : WA X A (e :: es) ρ n fun n ρ ds => CallD X.K A r ρ ds (k n ρ)) (hg : Gl X x := by rfl) (hdb : (x == ("__debug__" : Str)) = false := by decide)
    (he : starEach (e :: es) X.env = (false, eval e X.env) :: starEach es X.env := by rfl) (hpl : (backTo pos (starEach es X.env)).any (·.1) = false := by rfl) : WE X A (.Call (.Name x p) (e :: es) [] pos) ρ n k := by
  intro ρ0 H0 σ H hh Q q
  refine canE.of (pe_callBfun hc hg hm acan hdb he hpl) ?_
  refine h ρ0 H0 σ H hh _ fun n1 ρ1 ds vs H1 h1 hh1 k1 r1 => ?_
  exact h1 n1 σ ρ0 H0 H1 vs Q hh1 r1 fun d v H' hk hh' kp rr => q n1 ρ1 d v H' hk hh' (k1.trans kp) rr
end
end RD

/-! RD5: operations on data: ==, repr, len, subscripts, int(), abs(), list(), + of lists, math.gcd. -/
namespace RD
open PySem PySem.Spec PyProof.Rows L2

/-! ### as the library's data -/
mutual
def py : D → PyData
  | .non => .none
  | .bl b => .bool b
  | .int i => .int i
  | .str x => .str x
  | .lst xs => .list (pys xs)
  | .tup xs => .tuple (pys xs)
  | .dct kvs => .dict (pyk kvs)
  | .obj _ _ => .none
  | .raw _ => .none
def pys : List D → List PyData
  | [] => []
  | x :: xs => py x :: pys xs
def pyk : List (Key × D) → List (PyData × PyData)
  | [] => []
  | (.inl i, x) :: xs => (.int i, py x) :: pyk xs
  | (.inr s, x) :: xs => (.str s, py x) :: pyk xs
end
mutual
/-- no dict, no object, nothing raw within -/
def plain : D → Bool
  | .lst xs => plains xs
  | .tup xs => plains xs
  | .dct _ => false
  | .obj _ _ => false
  | .raw _ => false
  | _ => true
def plains : List D → Bool
  | [] => true
  | x :: xs => plain x && plains xs
end
section
variable {K : PySem.W.Frag} {M : Addr → Prop} {H : Hp}
mutual
theorem Rep.dp : ∀ (d : D) {v : V}, plain d = true → Rep K M H v d → Dp K H v (py d)
  | .non, _, _, r => by cases r; exact .non
  | .bl b, _, _, r => by cases r; exact .bl b
  | .int i, _, _, r => by cases r; exact .int i
  | .str x, _, _, r => by cases r; exact .str x
  | .lst xs, _, h, r => by
    cases r with
    | lst _ q ra => exact .lst (.of q) (RepAll.dp xs h ra)
  | .tup xs, _, h, r => by
    cases r with
    | tup q ra =>
      refine .tup ?_ (RepAll.dp xs h ra)
      rcases q with ⟨_, q⟩ | q
      · exact .inl q
      · exact .inr q
  | .dct _, _, h, _ => by simp [plain] at h
  | .obj _ _, _, h, _ => by simp [plain] at h
  | .raw _, _, h, _ => by simp [plain] at h
theorem RepAll.dp : ∀ (ds : List D) {vs : List V}, plains ds = true → RepAll K M H vs ds → DpAll K H vs (pys ds)
  | [], _, _, r => by cases r; exact .nil
  | d :: ds, _, h, r => by
    have h' : plain d = true ∧ plains ds = true := by simpa [plains] using h
    cases r with
    | cons r1 r2 => exact .cons (Rep.dp d h'.1 r1) (RepAll.dp ds h'.2 r2)
end
end
/-- == of data -/
def eqD (x y : D) : Bool := PyData.eqv (py x) (py y)
/-- of few levels, the texts in it well -/
def shp (x : D) : Bool := SeqAt.shaped (py x)
theorem of_ints (ns : List Int) : pys (ns.map D.int) = ns.map PyData.int := by
  induction ns with
  | nil => simp [pys]
  | cons n ns ih => simp [pys, py, ih]
section
variable {X : Cx} {K : PySem.W.Frag} {A : Amb} {ρ : En} {x y : D} {k : D → Prop}
theorem od_eq (px : plain x = true) (py_ : plain y = true) (sx : shp x = true) (sy : shp y = true) (h : k (.bl (eqD x y))) : OpD K A (rEqD K) ρ x y k := by
  intro n σ ρ0 H0 H vx vy Q hh r1 r2 q
  exact ⟨_, _, r1.dp _ px, r2.dp _ py_, sx, sy, q _ _ H h hh .refl (.bl _)⟩
theorem od_ne (px : plain x = true) (py_ : plain y = true) (sx : shp x = true) (sy : shp y = true) (h : k (.bl (!eqD x y))) : OpD K A (rNeD K) ρ x y k := by
  intro n σ ρ0 H0 H vx vy Q hh r1 r2 q
  exact ⟨_, _, r1.dp _ px, r2.dp _ py_, sx, sy, q _ _ H h hh .refl (.bl _)⟩

/-! ### repr -/
def rRepr (K : PySem.W.Frag) : List V → Hp → VK → Prop := fun xs H Q => ∃ x d, xs = [x] ∧ Dp K H x d ∧ d.showable = true ∧ d.hasDict = false ∧ d.depth ≤ 60 ∧ d.shown.length ≤ sizeLine ∧ Q (.str d.shown) H
theorem call_repr (rm : Rm 0 X.A) : CallR X (.builtin "repr") (rRepr X.K) := by
  intro pins s σ H xs us Q I r h
  obtain ⟨x, d, rfl, hd, hs, hk, hdep, hz, q⟩ := h
  obtain ⟨u, rfl, rx⟩ := vals1 r
  have un := rm.r.units
  cases hd with
  | non =>
    cases rx
    exact PySem.P.repr_of_none ⟨.str _, H, I.tok _, ⟨s.toks, by simp only [PyData.shown]⟩, q⟩
  | bl b =>
    cases rx
    exact PySem.P.repr_of_bool ⟨.str _, H, I.tok _, ⟨s.toks, by simp only [PyData.shown]⟩, q⟩
  | int i =>
    obtain ⟨t, rfl⟩ := rx
    exact PySem.P.repr_of_int (by simpa [PyData.showable] using hs) ⟨.str _, H, I.tok _, ⟨s.toks, by simp only [PyData.shown]⟩, q⟩
  | str z =>
    obtain ⟨t, rfl⟩ := rx
    exact PySem.P.repr_of_str ⟨.str _, H, I.tok _, ⟨s.toks, by simp only [PyData.shown]⟩, q⟩ (by simpa only [PyData.shown] using hz)
  | lst hq ha =>
    cases rx
    obtain ⟨as, rd⟩ := Dp.reads I _ _ _ (.lst hq ha) rfl
    refine repr_of_reads' rd hs (fun z => by rw [hk] at z; cases z) rm.g (by omega) (fun _ _ e => e) (fun h' u tk kp => ⟨.str _, H, I.kept kp, ⟨u, rfl⟩, q⟩) hz
  | tup hq ha =>
    cases rx
    obtain ⟨as, rd⟩ := Dp.reads I _ _ _ (.tup hq ha) rfl
    refine repr_of_reads' rd hs (fun z => by rw [hk] at z; cases z) rm.g (by omega) (fun _ _ e => e) (fun h' u tk kp => ⟨.str _, H, I.kept kp, ⟨u, rfl⟩, q⟩) hz
/-- what may be shown -/
def shw (d : D) : Bool := plain d && (py d).showable && !(py d).hasDict && decide ((py d).depth ≤ 60)
theorem cd_repr {d : D} (hp : shw d = true) (hz : (py d).shown.length ≤ sizeLine) (h : k (.str (py d).shown)) : CallD K A (rRepr K) ρ [d] k := by
  intro n σ ρ0 H0 H vs Q hh r q
  cases r with
  | cons r1 r2 =>
    cases r2
    unfold shw at hp
    simp only [Bool.and_eq_true, Bool.not_eq_true', decide_eq_true_eq] at hp
    obtain ⟨⟨⟨h1, h2⟩, h3⟩, h4⟩ := hp
    exact ⟨_, _, rfl, r1.dp _ h1, h2, h3, h4, hz, q _ _ H h hh .refl (.str _)⟩

/-! ### built-ins -/
theorem Rep.sqT {M : Addr → Prop} {H : Hp} {v : V} {ds : List D} (r : Rep K M H v (.tup ds)) : ∃ a xs, v = .ref a ∧ SqT K H a xs ∧ RepAll K M H xs ds := by
  cases r with
  | tup e ra =>
    refine ⟨_, _, rfl, ?_, ra⟩
    rcases e with ⟨_, e⟩ | e
    · exact .inl e
    · exact .inr e
theorem cd_len {ds : List D} (h : k (.int (ds.length : Int))) (hx : x = .lst ds ∨ x = .tup ds) : CallD K A (fun xs H Q => ∃ p ys, xs = [.ref p] ∧ (SqL K H p ys ∨ SqT K H p ys) ∧ Q (.int ys.length) H) ρ [x] k := by
  intro n σ ρ0 H0 H vs Q hh r q
  cases r with
  | cons r1 r2 =>
    cases r2
    rcases hx with rfl | rfl
    · cases r1 with
      | lst m e ra =>
        refine ⟨_, _, rfl, .inl (.of e), ?_⟩
        rw [ra.length]
        exact q _ _ H h hh .refl (.int _)
    · obtain ⟨a, zs, rfl, e, ra⟩ := r1.sqT
      refine ⟨a, zs, rfl, .inr e, ?_⟩
      rw [ra.length]
      exact q _ _ H h hh .refl (.int _)
theorem cd_int {i : Int} (h : k (.int i)) : CallD K A (fun xs H Q => (∃ i, xs = [.int i] ∧ Q (.int i) H) ∨ ∃ b, xs = [.bl b] ∧ Q (.int (if b then 1 else 0)) H) ρ [.int i] k := by
  intro n σ ρ0 H0 H vs Q hh r q
  cases r with
  | cons r1 r2 =>
    cases r1; cases r2
    exact .inl ⟨i, rfl, q _ _ H h hh .refl (.int _)⟩
theorem cd_intb {b : Bool} (h : k (.int (if b then 1 else 0))) : CallD K A (fun xs H Q => (∃ i, xs = [.int i] ∧ Q (.int i) H) ∨ ∃ b, xs = [.bl b] ∧ Q (.int (if b then 1 else 0)) H) ρ [.bl b] k := by
  intro n σ ρ0 H0 H vs Q hh r q
  cases r with
  | cons r1 r2 =>
    cases r1; cases r2
    exact .inr ⟨b, rfl, q _ _ H h hh .refl (.int _)⟩
theorem cd_abs {i : Int} (h : k (.int (if i < 0 then -i else i))) : CallD K A (fun xs H Q => ∃ i, xs = [.int i] ∧ Q (.int (if i < 0 then -i else i)) H) ρ [.int i] k := by
  intro n σ ρ0 H0 H vs Q hh r q
  cases r with
  | cons r1 r2 =>
    cases r1; cases r2
    exact ⟨i, rfl, q _ _ H h hh .refl (.int _)⟩
theorem cd_gcd {i j : Int} (h : k (.int ((Nat.gcd i.natAbs j.natAbs : Nat) : Int))) : CallD K A rGcd ρ [.int i, .int j] k := by
  intro n σ ρ0 H0 H vs Q hh r q
  cases r with
  | cons r1 r2 =>
    cases r1
    cases r2 with
    | cons r2 r3 =>
      cases r2; cases r3
      exact ⟨i, j, rfl, q _ _ H h hh .refl (.int _)⟩
theorem cd_list {ds : List D} (hx : x = .lst ds ∨ x = .tup ds) (h : k (.lst ds)) : CallD K A (fun xs H Q => ∃ p ys, xs = [.ref p] ∧ (SqL K H p ys ∨ SqT K H p ys) ∧ ∀ l, H l = none → Q (.ref l) (upd H l (.lst ys))) ρ [x] k := by
  intro n σ ρ0 H0 H vs Q hh r q
  cases r with
  | cons r1 r2 =>
    cases r2
    rcases hx with rfl | rfl
    · cases r1 with
      | lst m e ra => exact ⟨_, _, rfl, .inl (.of e), fun l hl => q _ _ _ h (hh.alloc hl) (.alloc hl) (.lst (hh.new hl) upd_same (ra.alloc hl))⟩
    · obtain ⟨a, zs, rfl, e, ra⟩ := r1.sqT
      exact ⟨a, zs, rfl, .inr e, fun l hl => q _ _ _ h (hh.alloc hl) (.alloc hl) (.lst (hh.new hl) upd_same (ra.alloc hl))⟩

/-! ### subscripts, + and * of lists -/
theorem RepAll.atI {M : Addr → Prop} {H : Hp} {vs : List V} {ds : List D} {i : Int} {d : D} (r : RepAll K M H vs ds) (h : L2.atI ds i = some d) : ∃ v, L2.atI vs i = some v ∧ Rep K M H v d := by
  unfold L2.atI at h ⊢
  rw [r.length]
  cases e : ixN ds.length i with
  | none => rw [e] at h; cases h
  | some j =>
    rw [e] at h
    exact r.get h
theorem od_ixL {ds : List D} {i : Int} {d : D} (hi : L2.atI ds i = some d) (h : k d) : OpD K A (rIxL K) ρ (.lst ds) (.int i) k := by
  intro n σ ρ0 H0 H vx vy Q hh r1 r2 q
  cases r2
  cases r1 with
  | lst m e ra =>
    obtain ⟨v, hv, rv⟩ := ra.atI hi
    exact ⟨_, _, i, v, rfl, rfl, .of e, hv, q _ _ H h hh .refl rv⟩
theorem od_ixT {ds : List D} {i : Int} {d : D} (hi : L2.atI ds i = some d) (h : k d) : OpD K A (rIxT K) ρ (.tup ds) (.int i) k := by
  intro n σ ρ0 H0 H vx vy Q hh r1 r2 q
  cases r2
  obtain ⟨a, zs, rfl, e, ra⟩ := r1.sqT
  obtain ⟨v, hv, rv⟩ := ra.atI hi
  exact ⟨a, zs, i, v, rfl, rfl, e, hv, q _ _ H h hh .refl rv⟩
theorem od_cat {xs ys : List D} (hz : xs.length + ys.length ≤ 100000) (h : k (.lst (xs ++ ys))) : OpD K A rCat ρ (.lst xs) (.lst ys) k := by
  intro n σ ρ0 H0 H vx vy Q hh r1 r2 q
  cases r1 with
  | lst m e ra =>
    cases r2 with
    | lst m' e' ra' =>
      refine ⟨_, _, _, _, rfl, rfl, e, e', by rw [ra.length, ra'.length]; exact sz_le hz, fun p hp => q _ _ _ h (hh.alloc hp) (.alloc hp) (.lst (hh.new hp) upd_same ((ra.append ra').alloc hp))⟩
theorem repAll_flat {M : Addr → Prop} {H : Hp} {vs : List V} {ds : List D} (r : RepAll K M H vs ds) : ∀ m : Nat, RepAll K M H (List.replicate m vs).flatten (List.replicate m ds).flatten
  | 0 => .nil
  | m + 1 => by
    rw [List.replicate_succ, List.replicate_succ, List.flatten_cons, List.flatten_cons]
    exact r.append (repAll_flat r m)
theorem od_rep {xs : List D} {m : Int} (h1 : -(2 ^ 63) ≤ m) (h2 : m < 2 ^ 63) (hz : xs.length * m.toNat ≤ 100000) (h : k (.lst (List.replicate m.toNat xs).flatten)) : OpD K A rRep ρ (.lst xs) (.int m) k := by
  intro n σ ρ0 H0 H vx vy Q hh r1 r2 q
  cases r2
  cases r1 with
  | lst _ e ra =>
    refine ⟨_, m, _, rfl, rfl, e, h1, h2, by rw [ra.length]; exact sz_le hz, fun p hp => q _ _ _ h (hh.alloc hp) (.alloc hp) (.lst (hh.new hp) upd_same ((repAll_flat ra _).alloc hp))⟩

/-! ### whole numbers -/
theorem rep_int {M : Addr → Prop} {H : Hp} {i : Int} : Rep K M H (.int i) (.int i) := .int i
theorem od_add {i j : Int} (h : k (.int (i + j))) : OpD K A (rI0 fun i j => .int (i + j)) ρ (.int i) (.int j) k := od_I0 (d := fun i j => .int (i + j)) (fun _ _ _ => .int _) h
theorem od_sub {i j : Int} (h : k (.int (i - j))) : OpD K A (rI0 fun i j => .int (i - j)) ρ (.int i) (.int j) k := od_I0 (d := fun i j => .int (i - j)) (fun _ _ _ => .int _) h
theorem od_mulW {i j : Int} (hc : CMulW i j) (h : k (.int (i * j))) : OpD K A (rI CMulW fun i j => .int (i * j)) ρ (.int i) (.int j) k := od_I (d := fun i j => .int (i * j)) (fun _ _ _ => .int _) hc h
theorem od_mul {i j : Int} (hc : CMul i j) (h : k (.int (i * j))) : OpD K A (rI CMul fun i j => .int (i * j)) ρ (.int i) (.int j) k := od_I (d := fun i j => .int (i * j)) (fun _ _ _ => .int _) hc h
theorem od_mod {i j : Int} (hc : 0 < j) (h : k (.int (i % j))) : OpD K A (rI (fun _ j => 0 < j) fun i j => .int (i % j)) ρ (.int i) (.int j) k := od_I (C := fun _ j => 0 < j) (d := fun i j => .int (i % j)) (fun _ _ _ => .int _) hc h
theorem od_pow {i j : Int} (hc : CPow i j) (h : k (.int (i ^ j.toNat))) : OpD K A (rI CPow fun i j => .int (i ^ j.toNat)) ρ (.int i) (.int j) k := od_I (d := fun i j => .int (i ^ j.toNat)) (fun _ _ _ => .int _) hc h
/-- // by any divisor but 0, of at most 9000 bits -/
def CDivZ (_ j : Int) : Prop := j ≠ 0 ∧ j.natAbs.log2 < 9000
theorem op_fdivZ : OpR X (binaryOp .FloorDiv) (rI CDivZ fun i j => .int (i.fdiv j)) := opI fun _ _ _ _ _ _ _ hc q => floordiv_int hc.1 q (Or.inl (PyProof.noPylong_of_log2 hc.2))
theorem od_fdivZ {i j : Int} (hc : CDivZ i j) (h : k (.int (i.fdiv j))) : OpD K A (rI CDivZ fun i j => .int (i.fdiv j)) ρ (.int i) (.int j) k := od_I (d := fun i j => .int (i.fdiv j)) (fun _ _ _ => .int _) hc h
theorem od_lt {i j : Int} (h : k (.bl (decide (i < j)))) : OpD K A (rI0 fun i j => .bl (decide (i < j))) ρ (.int i) (.int j) k := od_I0 (d := fun i j => .bl (decide (i < j))) (fun _ _ _ => .bl _) h
theorem od_le {i j : Int} (h : k (.bl (decide (i ≤ j)))) : OpD K A (rI0 fun i j => .bl (decide (i ≤ j))) ρ (.int i) (.int j) k := od_I0 (d := fun i j => .bl (decide (i ≤ j))) (fun _ _ _ => .bl _) h
theorem od_gt {i j : Int} (h : k (.bl (decide (j < i)))) : OpD K A (rI0 fun i j => .bl (decide (j < i))) ρ (.int i) (.int j) k := od_I0 (d := fun i j => .bl (decide (j < i))) (fun _ _ _ => .bl _) h
theorem od_ge {i j : Int} (h : k (.bl (decide (j ≤ i)))) : OpD K A (rI0 fun i j => .bl (decide (j ≤ i))) ρ (.int i) (.int j) k := od_I0 (d := fun i j => .bl (decide (j ≤ i))) (fun _ _ _ => .bl _) h
theorem ud_neg {i : Int} (h : k (.int (-i))) : UnD K A (rU fun i => .int (-i)) ρ (.int i) k := by
  intro n σ ρ0 H0 H vx Q hh r1 q
  cases r1
  exact ⟨i, rfl, q _ _ H h hh .refl (.int _)⟩
/-- == of scalars (ints, texts, truths, of one kind) -/
theorem od_eqI {i j : Int} (h : k (.bl (decide (i = j)))) : OpD K A rEq ρ (.int i) (.int j) k := by
  intro n σ ρ0 H0 H vx vy Q hh r1 r2 q
  cases r1; cases r2
  refine ⟨rfl, ?_⟩
  rw [show decide (V.int i = V.int j) = decide (i = j) by rw [dec_int]; rfl]
  exact q _ _ H h hh .refl (.bl _)
theorem od_neI {i j : Int} (h : k (.bl (!decide (i = j)))) : OpD K A rNe ρ (.int i) (.int j) k := by
  intro n σ ρ0 H0 H vx vy Q hh r1 r2 q
  cases r1; cases r2
  refine ⟨rfl, ?_⟩
  rw [show decide (V.int i = V.int j) = decide (i = j) by rw [dec_int]; rfl]
  exact q _ _ H h hh .refl (.bl _)
theorem od_eqS {i j : Str} (h : k (.bl (decide (i = j)))) : OpD K A rEq ρ (.str i) (.str j) k := by
  intro n σ ρ0 H0 H vx vy Q hh r1 r2 q
  cases r1; cases r2
  refine ⟨rfl, ?_⟩
  rw [show decide (V.str i = V.str j) = decide (i = j) by rw [dec_str]; exact Bool.beq_eq_decide_eq i j]
  exact q _ _ H h hh .refl (.bl _)
theorem od_neS {i j : Str} (h : k (.bl (!decide (i = j)))) : OpD K A rNe ρ (.str i) (.str j) k := by
  intro n σ ρ0 H0 H vx vy Q hh r1 r2 q
  cases r1; cases r2
  refine ⟨rfl, ?_⟩
  rw [show decide (V.str i = V.str j) = decide (i = j) by rw [dec_str]; exact Bool.beq_eq_decide_eq i j]
  exact q _ _ H h hh .refl (.bl _)
end
end RD

/-! RD6: each operator once, whatever its operands; slices. -/
namespace RD
open PySem PySem.Spec PyProof.Rows L2

def rAddS : R2 := fun x y H Q => ∃ i j, x = .str i ∧ y = .str j ∧ i.length + j.length ≤ sizeLine ∧ Q (.str (i ++ j)) H
def rAddU (K : PySem.W.Frag) : R2 := fun x y H Q => (rI0 fun i j => .int (i + j)) x y H Q ∨ (rCat x y H Q ∨ (rAddS x y H Q ∨ rCatA K x y H Q))
def rMulU : R2 := fun x y H Q => (rI CMul fun i j => .int (i * j)) x y H Q ∨ ((rI CMulW fun i j => .int (i * j)) x y H Q ∨ rRep x y H Q)
def rFdU : R2 := fun x y H Q => (rI CDivW fun i j => .int (i / j)) x y H Q ∨ (rI CDivZ fun i j => .int (i.fdiv j)) x y H Q
def rModU : R2 := fun x y H Q => (rI (fun _ j => 0 < j) fun i j => .int (i % j)) x y H Q ∨ (rI (fun _ j => j ≠ 0) fun i j => .int (i.fmod j)) x y H Q
def rLtU (K : PySem.W.Frag) : R2 := fun x y H Q => (rI0 fun i j => .bl (decide (i < j))) x y H Q ∨ rLtT K x y H Q
section
variable {X : Cx}
theorem op_addU : OpR X (binaryOp .Add) (rAddU X.K) := op_add.or (op_cat.or (op_add_str.or op_catA))
theorem op_mulU : OpR X (binaryOp .Mult) rMulU := op_mul.or (op_mulW.or op_rep)
theorem op_fdU : OpR X (binaryOp .FloorDiv) rFdU := op_fdivW.or op_fdivZ
theorem op_modU : OpR X (binaryOp .Mod) rModU := op_mod.or op_modN
variable {K : PySem.W.Frag} {A : Amb} {ρ : En} {x y : D} {k : D → Prop}
theorem od_or1 {r r' : R2} (h : OpD K A r ρ x y k) : OpD K A (fun x y H Q => r x y H Q ∨ r' x y H Q) ρ x y k := fun n σ ρ0 H0 H vx vy Q hh r1 r2 q => .inl (h n σ ρ0 H0 H vx vy Q hh r1 r2 q)
theorem od_or2 {r r' : R2} (h : OpD K A r' ρ x y k) : OpD K A (fun x y H Q => r x y H Q ∨ r' x y H Q) ρ x y k := fun n σ ρ0 H0 H vx vy Q hh r1 r2 q => .inr (h n σ ρ0 H0 H vx vy Q hh r1 r2 q)
theorem od_addI {i j : Int} (h : k (.int (i + j))) : OpD K A (rAddU K) ρ (.int i) (.int j) k := od_or1 (od_add h)
theorem od_addL {xs ys : List D} (h : k (.lst (xs ++ ys))) (hz : xs.length + ys.length ≤ 100000) : OpD K A (rAddU K) ρ (.lst xs) (.lst ys) k := od_or2 (r := rI0 fun i j => .int (i + j)) (od_or1 (od_cat hz h))
theorem od_addS0 {i j : Str} (hz : i.length + j.length ≤ 100000) (h : k (.str (i ++ j))) : OpD K A rAddS ρ (.str i) (.str j) k := by
  intro n σ ρ0 H0 H vx vy Q hh r1 r2 q
  cases r1; cases r2
  exact ⟨i, j, rfl, rfl, sz_le hz, q _ _ H h hh .refl (.str _)⟩
theorem od_addS {i j : Str} (h : k (.str (i ++ j))) (hz : i.length + j.length ≤ 100000) : OpD K A (rAddU K) ρ (.str i) (.str j) k := od_or2 (r := rI0 fun i j => .int (i + j)) (od_or2 (r := rCat) (od_or1 (od_addS0 hz h)))
theorem od_addT0 {xs ys : List D} (hz : xs.length + ys.length ≤ 100000) (h : k (.tup (xs ++ ys))) : OpD K A (rCatA K) ρ (.tup xs) (.tup ys) k := by
  intro n σ ρ0 H0 H vx vy Q hh r1 r2 q
  have r1' := r1
  have r2' := r2
  obtain ⟨a, vs, rfl, e1, q1⟩ := r1.sqT
  obtain ⟨b, ws, rfl, e2, q2⟩ := r2.sqT
  refine ⟨a, b, vs, ws, rfl, rfl, e1, e2, by rw [q1.length, q2.length]; exact sz_le hz, fun z => ?_, fun z1 z2 => ?_, fun z1 z2 p hp => ?_⟩
  · have : xs = [] := by
      subst z
      cases q1; rfl
    subst this
    exact q _ _ H h hh .refl r2'
  · have : ys = [] := by
      subst z2
      cases q2; rfl
    subst this
    rw [List.append_nil] at h
    exact q _ _ H h hh .refl r1'
  · exact q _ _ _ h (hh.alloc hp) (.alloc hp) (.tup (.inl ⟨hh.new hp, .inl upd_same⟩) ((q1.append q2).alloc hp))
theorem od_addT {xs ys : List D} (h : k (.tup (xs ++ ys))) (hz : xs.length + ys.length ≤ 100000) : OpD K A (rAddU K) ρ (.tup xs) (.tup ys) k := od_or2 (r := rI0 fun i j => .int (i + j)) (od_or2 (r := rCat) (od_or2 (r := rAddS) (od_addT0 hz h)))
theorem od_mulI {i j : Int} (h : k (.int (i * j))) (hc : CMul i j ∨ CMulW i j) : OpD K A rMulU ρ (.int i) (.int j) k := hc.elim (fun c => od_or1 (od_mul c h)) fun c => od_or2 (r := rI CMul fun i j => .int (i * j)) (od_or1 (od_mulW c h))
theorem od_mulL {xs : List D} {m : Int} (h : k (.lst (List.replicate m.toNat xs).flatten)) (hz : xs.length * m.toNat ≤ 100000) (h1 : -(2 ^ 63) ≤ m) (h2 : m < 2 ^ 63) : OpD K A rMulU ρ (.lst xs) (.int m) k := od_or2 (r := rI CMul fun i j => .int (i * j)) (od_or2 (r := rI CMulW fun i j => .int (i * j)) (od_rep h1 h2 hz h))
theorem od_fdP {i j : Int} (h : k (.int (i / j))) (h1 : 0 < j) (h2 : j.natAbs.log2 < 9000) : OpD K A rFdU ρ (.int i) (.int j) k := od_or1 (od_I (d := fun i j => .int (i / j)) (fun _ _ _ => .int _) ⟨h1, h2⟩ h)
theorem od_fdN {i j : Int} (h : k (.int (i.fdiv j))) (h1 : j ≠ 0) (h2 : j.natAbs.log2 < 9000) : OpD K A rFdU ρ (.int i) (.int j) k := od_or2 (r := rI CDivW fun i j => .int (i / j)) (od_fdivZ ⟨h1, h2⟩ h)
theorem od_modP {i j : Int} (h : k (.int (i % j))) (h1 : 0 < j) : OpD K A rModU ρ (.int i) (.int j) k := od_or1 (od_mod h1 h)
theorem od_powI {i j : Int} (h : k (.int (i ^ j.toNat))) (h1 : CPow i j) : OpD K A (rI CPow fun i j => .int (i ^ j.toNat)) ρ (.int i) (.int j) k := od_pow h1 h
theorem od_xL {ds : List D} {i : Int} {d : D} (h : k d) (hi : L2.atI ds i = some d) : OpD K A (rIx K) ρ (.lst ds) (.int i) k := od_or1 (od_ixL hi h)
theorem od_xT {ds : List D} {i : Int} {d : D} (h : k d) (hi : L2.atI ds i = some d) : OpD K A (rIx K) ρ (.tup ds) (.int i) k := od_or2 (r := rIxL K) (od_or1 (od_ixT hi h))
theorem od_xS0 {z : Str} {i : Int} {c : Nat} (hz : z.length ≤ 100000) (hi : L2.atI z.cps.toList i = some c) (h : k (.str ⟨#[c]⟩)) : OpD K A rIxS ρ (.str z) (.int i) k := by
  intro n σ ρ0 H0 H vx vy Q hh r1 r2 q
  cases r1; cases r2
  exact ⟨z, i, c, rfl, rfl, sz_le hz, hi, q _ _ H h hh .refl (.str _)⟩
theorem od_xS {z : Str} {i : Int} {c : Nat} (h : k (.str ⟨#[c]⟩)) (hz : z.length ≤ 100000) (hi : L2.atI z.cps.toList i = some c) : OpD K A (rIx K) ρ (.str z) (.int i) k := od_or2 (r := rIxL K) (od_or2 (r := rIxT K) (od_xS0 hz hi h))

/-! ### slices -/
/-- xs[lo:hi] by data -/
def cutD (xs : List D) (lo hi : Option Int) : List D := (xs.drop (HT.sIx xs.length 0 lo)).take (HT.sIx xs.length xs.length hi - HT.sIx xs.length 0 lo)
theorem RepAll.cut {M : Addr → Prop} {H : Hp} {vs : List V} {ds : List D} (r : RepAll K M H vs ds) (lo hi : Option Int) : RepAll K M H (cutV vs lo hi) (cutD ds lo hi) := by
  unfold cutV cutD
  rw [r.length]
  exact (r.drop _).take _
/-- a part of a slice: none, or an int -/
def WO (X : Cx) (A : Amb) (e : Option Expr) (ρ : En) (n : Nat) (k : Nat → En → Option Int → Prop) : Prop := match e with
  | none => k n ρ none
  | some e => WE X A e ρ n fun n ρ d => ∃ i, d = .int i ∧ k n ρ (some i)
def SlD (K : PySem.W.Frag) (A : Amb) (r : V → Option Int → Option Int → Hp → VK → Prop) (ρ : En) (x : D) (lo hi : Option Int) (k : D → Prop) : Prop := ∀ n σ ρ0 H0 H vx (Q : VK), Here K A ρ0 H0 n ρ σ H → Rep K (Mt A ρ) H vx x →
  (∀ d v H', k d → Here K A ρ0 H0 n ρ σ H' → Keeps A ρ H ρ H' → Rep K (Mt A ρ) H' v d → Q v H') → r vx lo hi H Q
theorem wo_none {n : Nat} {k : Nat → En → Option Int → Prop} (h : k n ρ none) : WO X A none ρ n k := h
theorem wo_some {n : Nat} {e : Expr} {k : Nat → En → Option Int → Prop} (h : WE X A e ρ n fun n ρ d => ∃ i, d = .int i ∧ k n ρ (some i)) : WO X A (some e) ρ n k := h
/-- what po_none, po_some tell of a part -/
def tO (X : Cx) (e : Option Expr) : TO := match e with
  | none => tNoPart
  | some e => tPart (canE X e)
theorem po_any {e : Option Expr} : PO X e (tO X e) := by
  cases e with
  | none => exact po_none
  | some e => exact po_some pcan
theorem tO_of {e : Option Expr} {n : Nat} {k : Nat → En → Option Int → Prop} (h : WO X A e ρ n k) : ∀ ρ0 H0 σ H, Here X.K A ρ0 H0 n ρ σ H → ∀ Q : Option Int → Hp → Prop, (∀ n' ρ' i H', k n' ρ' i → Here X.K A ρ0 H0 n' ρ' σ H' → Keeps A ρ H ρ' H' → Q i H') → tO X e σ H Q := by
  intro ρ0 H0 σ H hh Q q
  cases e with
  | none => exact q n ρ none H h hh .refl
  | some e =>
    refine h ρ0 H0 σ H hh _ fun n1 ρ1 d v H1 h1 hh1 k1 r1 => ?_
    obtain ⟨i, rfl, h1⟩ := h1
    cases r1
    exact ⟨i, rfl, q n1 ρ1 _ H1 h1 hh1 k1⟩
theorem we_slice {n : Nat} {e : Expr} {lo hi : Option Expr} {p2 pos : Pos} {k : Nat → En → D → Prop} {r : V → Option Int → Option Int → Hp → VK → Prop} (hr : SlR X r) (h : WE X A e ρ n fun n1 ρ1 x => WO X A lo ρ1 n1 fun n2 ρ2 l => WO X A hi ρ2 n2 fun n3 ρ3 u => SlD X.K A r ρ3 x l u (k n3 ρ3)) :
    WE X A (.Subscript e (.Slice lo hi none p2) pos) ρ n k := by
  intro ρ0 H0 σ H hh Q q
  refine canE.of (pe_slice hr pcan po_any po_any) ?_
  refine h ρ0 H0 σ H hh _ fun n1 ρ1 x v H1 h1 hh1 k1 r1 => ?_
  refine tO_of h1 ρ0 H0 σ H1 hh1 _ fun n2 ρ2 l H2 h2 hh2 k2 => ?_
  refine tO_of h2 ρ0 H0 σ H2 hh2 _ fun n3 ρ3 u H3 h3 hh3 k3 => ?_
  exact h3 n3 σ ρ0 H0 H3 v Q hh3 ((r1.up hh1.j k2).up hh2.j k3) fun d v H' kk hh' k4 r4 => q n3 ρ3 d v H' kk hh' (((k1.trans k2).trans k3).trans k4) r4
def rSlU (K : PySem.W.Frag) : V → Option Int → Option Int → Hp → VK → Prop := fun x lo hi H Q => rSlL K x lo hi H Q ∨ (rSlA K x lo hi H Q ∨ rSlS x lo hi H Q)
theorem sl_U : SlR X (rSlU X.K) := sl_list.or (sl_tupA.or sl_str)
theorem sd_L {ds : List D} {lo hi : Option Int} (h : k (.lst (cutD ds lo hi))) : SlD K A (rSlU K) ρ (.lst ds) lo hi k := by
  intro n σ ρ0 H0 H vx Q hh r1 q
  cases r1 with
  | lst m e ra => exact .inl ⟨_, _, rfl, .of e, fun p hp => q _ _ _ h (hh.alloc hp) (.alloc hp) (.lst (hh.new hp) upd_same ((ra.cut lo hi).alloc hp))⟩
theorem sd_T {ds : List D} {lo hi : Option Int} (h : k (.tup (cutD ds lo hi))) : SlD K A (rSlU K) ρ (.tup ds) lo hi k := by
  intro n σ ρ0 H0 H vx Q hh r1 q
  have r0 := r1
  obtain ⟨a, vs, rfl, e, ra⟩ := r1.sqT
  refine .inr (.inl ⟨a, vs, rfl, e, fun z => ?_, fun z p hp => q _ _ _ h (hh.alloc hp) (.alloc hp) (.tup (.inl ⟨hh.new hp, .inl upd_same⟩) ((ra.cut lo hi).alloc hp))⟩)
  have : cutD ds lo hi = ds := by
    unfold cutD
    rw [← ra.length, z.1, z.2, List.drop_zero, Nat.sub_zero, ra.length]
    exact List.take_length
  rw [this] at h
  exact q _ _ H h hh .refl r0
theorem sd_S {z : Str} {lo hi : Option Int} (h : k (.str (cutS z lo hi))) (hz : z.length ≤ 100000) : SlD K A (rSlU K) ρ (.str z) lo hi k := by
  intro n σ ρ0 H0 H vx Q hh r1 q
  cases r1
  exact .inr (.inr ⟨z, rfl, sz_le hz, q _ _ H h hh .refl (.str _)⟩)
end
end RD

/-! RD7: how arguments bind; the law's pen. -/
namespace RD
open PySem PySem.Spec PyProof.Rows L2
section
variable {K : PySem.W.Frag} {x qual : Str} {params : Arguments} {body : List Stmt} {scope : Scope} {dvs : List V} {f : Addr} {fd : FuncData} {ps : List Str}
/-- f(.., k = v): no defaults; g puts the values in the parameters' order -/
theorem kb_none (F : FunD K x qual params body scope [] [] f fd) (n : Nat) (ks : List Str) (g : {α : Type} → List α → List α → List α) (hrel : ∀ {vs zs : List V} {us ws : List Value}, Vals vs us → Vals zs ws → Vals (g vs zs) (g us ws))
    (h : ∀ (kV doc pm : Value) (an : Option Addr) (cdv ct : Value) (us ws : List Value), us.length = n → ws.length = ks.length → bindArgs (PySem.W.fnOf x qual params body scope .none kV doc pm an cdv ct) ⟨us, ks.zip ws⟩ = pure (ps.zip (g us ws))) :
    KBn K fd ps n ks (fun us ws => g us ws) (fun vs zs => g vs zs) := by
  obtain ⟨oc, od, dV, kV, doc, pm, an, cdv, ct, osl, rfl, lk, hcd, hD, hK⟩ := F.ex
  rcases hD with ⟨_, rfl⟩ | ⟨e, _⟩
  · exact ⟨fun s us ws _ l1 l2 => .of_eq (h kV doc pm an cdv ct us ws l1 l2), fun r1 r2 => hrel r1 r2⟩
  · exact absurd rfl e
/-- the same where defaults stand -/
theorem kb_dfl (F : FunD K x qual params body scope dvs [] f fd) (hd : dvs ≠ []) (n : Nat) (ks : List Str) (g : {α : Type} → List α → List α → List α → List α) (hrel : ∀ {vs ds zs : List V} {us its ws : List Value}, Vals vs us → Vals ds its → Vals zs ws → Vals (g vs ds zs) (g us its ws))
    (h : ∀ (T : Addr) (kV doc pm : Value) (an : Option Addr) (cdv ct : Value) (us its ws : List Value), us.length = n → its.length = dvs.length → ws.length = ks.length →
      ∃ k, bindArgs (PySem.W.fnOf x qual params body scope (.ref T) kV doc pm an cdv ct) ⟨us, ks.zip ws⟩ = seqItems? (.ref T) >>= k ∧ k (some its.toArray) = pure (ps.zip (g us its ws))) :
    ∃ its : List Value, KBn K fd ps n ks (fun us ws => g us its ws) (fun vs zs => g vs dvs zs) := by
  obtain ⟨oc, od, dV, kV, doc, pm, an, cdv, ct, osl, rfl, lk, hcd, hD, hK⟩ := F.ex
  rcases hD with ⟨e, _⟩ | ⟨_, T, o, its, m, rfl, lT, oT, rT⟩
  · exact absurd e hd
  · refine ⟨its, fun s us ws kin l1 l2 => ?_, fun r1 r2 => hrel r1 rT r2⟩
    obtain ⟨k, e1, e2⟩ := h T kV doc pm an cdv ct us its ws l1 rT.length.symm l2
    refine BindsTo.of_looks fun M => ?_
    rw [e1]
    exact looks_items kin lT oT (.of_pure e2)
end
section
variable {M : Addr → Prop} {H : Hp} {K : PySem.W.Frag}
theorem RepAll.two {a b : V} {ds : List D} (r : RepAll K M H [a, b] ds) : ∃ x y, ds = [x, y] ∧ Rep K M H a x ∧ Rep K M H b y := by
  cases r with
  | cons r1 r2 =>
    cases r2 with
    | cons r2 r3 => cases r3; exact ⟨_, _, rfl, r1, r2⟩
end
theorem two_of {α : Type} {l : List α} (h : l.length = 2) : ∃ a b, l = [a, b] := by
  match l, h with
  | [a, b], _ => exact ⟨a, b, rfl⟩
theorem one_of {α : Type} {l : List α} (h : l.length = 1) : ∃ a, l = [a] := by
  match l, h with
  | [a], _ => exact ⟨a, rfl⟩
theorem nil_of {α : Type} {l : List α} (h : l.length = 0) : l = [] := List.length_eq_zero_iff.mp h

/-! ### the pen is made -/
section
variable {P : Program} {w : World} {K : PySem.W.Frag} {mg : Str → Option Value} {base : Heap}
/-- the pen of a script of ints -/
def spPen (K : PySem.W.Frag) : Sp := fun vs H Q _ => ∃ (a : Addr) (ns : List Int), vs = [.ref a] ∧ SqL K H a (ns.map V.int) ∧ ns.length ≤ 63 ∧ (∀ z ∈ ns, z.natAbs < 2 ^ 1048576) ∧
  ∀ p c H', (∀ b o, H b = some o → H' b = some o) → H p = none → H c = none → p ≠ c → PenAt p c 1000000 H' → Q (.ref p) H'
end
theorem cut_all {xs : List V} (h : xs.length ≤ 63) : cutV xs none (some 63) = xs := by
  unfold cutV
  have e1 : HT.sIx xs.length 0 none = 0 := HT.sIx_none ..
  have e2 : HT.sIx xs.length xs.length (some 63) = xs.length := by
    have := HT.sIx_nat xs.length xs.length 63
    rw [show (some (63 : Int)) = some ((63 : Nat) : Int) from rfl, this]
    omega
  rw [e1, e2, List.drop_zero, Nat.sub_zero]
  exact List.take_length
theorem bits_abs {z : Int} (h : Builtin.Int.intBits z ≤ 1048576) : z.natAbs < 2 ^ 1048576 := by
  unfold Builtin.Int.intBits at h
  split at h
  · rename_i h0
    have : z = 0 := by simpa using h0
    subst this
    exact Nat.pow_pos (by decide)
  · have h1 : z.natAbs.log2 < 1048576 := by omega
    have hz : z.natAbs ≠ 0 := by
      rename_i h0
      intro e
      have : z = 0 := by omega
      subst this
      simp at h0
    exact (Nat.log2_lt hz).mp h1
end RD

/-! RD8: data that may be shown and compared: how deep, how great. -/
namespace RD
open PySem PySem.Spec PyProof.Rows L2
/-- of at most e levels, of weight at most w, the ints of at most 120 digits -/
structure Sh (e w : Nat) (x : D) : Prop where
  pl : plain x = true
  sb : (py x).showable = true
  cl : (py x).canLay0 = true
  dp : (py x).depth ≤ e
  wt : (py x).weight ≤ w
  ls : (py x).intsShort 121 = true
theorem Sh.mono {e w e' w' : Nat} {x : D} (h : Sh e w x) (h1 : e ≤ e') (h2 : w ≤ w') : Sh e' w' x := ⟨h.pl, h.sb, h.cl, Nat.le_trans h.dp h1, Nat.le_trans h.wt h2, h.ls⟩
theorem log_of {n k : Nat} (hk : 0 < k) (h : n < 2 ^ k) : n.log2 < k := PySem.Flt.log2_lt_of hk h
theorem ten120 : (10 : Nat) ^ 120 < 2 ^ 399 := by decide +kernel
theorem Sh.int {e w : Nat} {i : Int} (h : i.natAbs < 10 ^ 120) (hw : 400 ≤ w := by omega) : Sh e w (.int i) := by
  have h1 : i.natAbs < 2 ^ 399 := Nat.lt_trans h ten120
  have h2 : i.natAbs.log2 < 399 := log_of (by decide) h1
  refine ⟨rfl, ?_, rfl, ?_, ?_, ?_⟩
  · show decide (i.natAbs.log2 < 1920) = true
    exact decide_eq_true (by omega)
  · exact Nat.zero_le _
  · show (if i == 0 then 0 else i.natAbs.log2 + 1) ≤ w
    split <;> omega
  · show decide ((PyData.shown (.int i)).length ≤ 121) = true
    have e := int_text_length_le10 (k := 120) (by decide) h
    refine decide_eq_true ?_
    show (Str.ofString (toString i)).length ≤ 121
    rw [PySem.ofString_length]; exact e
theorem Sh.bl {e w : Nat} (b : Bool) : Sh e w (.bl b) := ⟨rfl, rfl, rfl, Nat.zero_le _, Nat.zero_le _, rfl⟩
theorem Sh.non {e w : Nat} : Sh e w .non := ⟨rfl, rfl, rfl, Nat.zero_le _, Nat.zero_le _, rfl⟩
theorem Sh.str {e w : Nat} {x : Str} (h : PyData.canLay0 (.str x) = true) (hw : x.length ≤ w) : Sh e w (.str x) := ⟨rfl, rfl, h, Nat.zero_le _, hw, rfl⟩
theorem Sh.all {e w : Nat} : ∀ {xs : List D}, (∀ x ∈ xs, Sh e w x) → plains xs = true ∧ PyData.showableAll (pys xs) = true ∧ PyData.canLayAll0 (pys xs) = true ∧ PyData.depthAll (pys xs) ≤ e ∧ PyData.weightAll (pys xs) ≤ xs.length * (w + 1) ∧ PyData.intsShortAll 121 (pys xs) = true
  | [], _ => ⟨rfl, rfl, rfl, Nat.zero_le _, Nat.zero_le _, rfl⟩
  | x :: xs, h => by
    have h0 := h x (List.mem_cons_self ..)
    obtain ⟨h1, h2, h3, h4, h5, h6⟩ := Sh.all (xs := xs) fun y hy => h y (List.mem_cons_of_mem _ hy)
    refine ⟨?_, ?_, ?_, ?_, ?_, ?_⟩
    · show (plain x && plains xs) = true
      rw [h0.pl, h1]; rfl
    · show (PyData.showable (py x) && PyData.showableAll (pys xs)) = true
      rw [h0.sb, h2]; rfl
    · show (PyData.canLay0 (py x) && PyData.canLayAll0 (pys xs)) = true
      rw [h0.cl, h3]; rfl
    · have := h0.dp
      simp only [pys, PyData.depthAll]
      omega
    · have := h0.wt
      simp only [pys, PyData.weightAll, List.length_cons]
      rw [Nat.succ_mul]
      omega
    · show (PyData.intsShort 121 (py x) && PyData.intsShortAll 121 (pys xs)) = true
      rw [h0.ls, h6]; rfl
theorem Sh.lst {e w m e' w' : Nat} {xs : List D} (h : ∀ x ∈ xs, Sh e w x) (hm : xs.length ≤ m) (he : e + 1 ≤ e' := by omega) (hw : m * (w + 1) ≤ w' := by omega) : Sh e' w' (.lst xs) := by
  obtain ⟨h1, h2, h3, h4, h5, h6⟩ := Sh.all h
  refine ⟨h1, h2, h3, ?_, Nat.le_trans h5 (Nat.le_trans (Nat.mul_le_mul_right _ hm) hw), h6⟩
  simp only [py, PyData.depth]
  omega
theorem Sh.tup {e w m e' w' : Nat} {xs : List D} (h : ∀ x ∈ xs, Sh e w x) (hm : xs.length ≤ m) (he : e + 1 ≤ e' := by omega) (hw : m * (w + 1) ≤ w' := by omega) : Sh e' w' (.tup xs) := by
  obtain ⟨h1, h2, h3, h4, h5, h6⟩ := Sh.all h
  refine ⟨h1, h2, h3, ?_, Nat.le_trans h5 (Nat.le_trans (Nat.mul_le_mul_right _ hm) hw), h6⟩
  simp only [py, PyData.depth]
  omega
theorem Sh.hp {e w : Nat} {x : D} (h : Sh e w x) (he : e ≤ 60) : shp x = true := by
  unfold shp SeqAt.shaped
  rw [h.cl]
  exact decide_eq_true (Nat.le_trans h.dp (by omega))
theorem Sh.shw {e w : Nat} {x : D} (h : Sh e w x) (he : e ≤ 60) : shw x = true := by
  unfold RD.shw
  rw [h.pl, h.sb, PyData.hasDict_of_canLay _ h.cl]
  exact decide_eq_true (Nat.le_trans h.dp he)
theorem Sh.len {e w : Nat} {x : D} (h : Sh e w x) (hw : w ≤ 100000) : (py x).shown.length ≤ sizeLine := by
  have h1 := PyData.shown_le 121 (by decide) _ (PyData.leavesShort_of_canLay0 121 _ h.cl h.ls)
  have h2 := h.wt
  rw [sizeLine_eq]
  omega
section
variable {X : Cx} {K : PySem.W.Frag} {A : Amb} {ρ : En} {x y : D} {k : D → Prop}
/-- the text of a datum -/
def rp (x : D) : Str := (py x).shown
theorem cd_repr' {e w : Nat} (h : k (.str (rp x))) (hx : Sh e w x) (he : e ≤ 60 := by decide) (hw : w ≤ 100000 := by decide) : CallD K A (rRepr K) ρ [x] k := cd_repr (hx.shw he) (hx.len hw) h
theorem od_eq' {e w e' w' : Nat} (h : k (.bl (eqD x y))) (hx : Sh e w x) (hy : Sh e' w' y) (he : e ≤ 60 := by decide) (he' : e' ≤ 60 := by decide) : OpD K A (rEqD K) ρ x y k := od_eq hx.pl hy.pl (hx.hp he) (hy.hp he') h
theorem od_ne' {e w e' w' : Nat} (h : k (.bl (!eqD x y))) (hx : Sh e w x) (hy : Sh e' w' y) (he : e ≤ 60 := by decide) (he' : e' ≤ 60 := by decide) : OpD K A (rNeD K) ρ x y k := od_ne hx.pl hy.pl (hx.hp he) (hy.hp he') h
/-- the same datum on both sides -/
theorem eqD_self {e w : Nat} {x : D} (h : Sh e w x) : eqD x x = true := PySem.SeqAt.eqv_refl_plain _ (PyData.plain_of_canLay0 _ h.cl)
end
end RD
namespace RD
open PySem PySem.Spec PyProof.Rows L2
section
variable {X : Cx} {A : Amb} {ρ : En} {n : Nat} {st : Stmt} {sts : List Stmt} {E : En4}
/-- ways that join again -/
theorem ws_cut (I : Nat → En → Prop) (h : WS1 X A st ρ n { E with nx := I }) (h2 : ∀ n ρ, I n ρ → WS X A sts ρ n E) : WS X A (st :: sts) ρ n E := by
  refine ws_cons ?_
  intro ρ0 H0 σ H hh D f
  exact h ρ0 H0 σ H hh D (f.mono h2 (fun _ _ _ z => z) (fun _ _ z => z) fun _ _ z => z)
end
end RD

/-! RD9: the law's def: the pen is made, then all is deep data. -/
namespace RD
open PySem PySem.Spec PyProof.Rows L2
/-- the law's promise -/
def spLaw (K : PySem.W.Frag) : Sp := fun vs H Q _ => ∃ (a : Addr) (ns : List Int), vs = [.ref a] ∧ SqL K H a (ns.map V.int) ∧ ns.length ≤ 63 ∧ (∀ z ∈ ns, z.natAbs < 2 ^ 1048576) ∧ ∀ H', Q (.bl true) H'
theorem paired_none {K : PySem.W.Frag} {M : Addr → Prop} {H : Hp} : ∀ m : Nat, Paired (SlotR K M H) (List.replicate m none) (List.replicate m none)
  | 0 => .nil
  | m + 1 => .cons trivial (paired_none m)
theorem owns_none : ∀ m : Nat, owns (List.replicate m none) = []
  | 0 => rfl
  | m + 1 => by rw [List.replicate_succ]; show [] ++ owns (List.replicate m none) = []; rw [owns_none m]; rfl
/-- the names behind the pen's making; script at 0, pen at 1 -/
def startL (m : Nat) (v : V) (p : Addr) : En := some (.dat (.raw v)) :: some (.dat (.raw (.ref p))) :: List.replicate m none
section
variable {X : Cx} {K : PySem.W.Frag} {rest : List Stmt} {D : Ends} {H : Hp} {m : Nat} {N : List Str} {a : Addr} {ns : List Int}
theorem law_start (hN : N.length = m + 2) (hS : SqL X.K H a (ns.map V.int)) (hlen : ns.length ≤ 63) (hbits : ∀ z ∈ ns, z.natAbs < 2 ^ 1048576)
    (hrest : ∀ (A : Amb) (p c : Addr) (v : V), A.pen = some (p, c) → WS X A rest (startL m v p) 1000000 { nx := fun _ _ => False, rt := fun _ _ d => d = .bl true }) (hD : ∀ H', D.rt (.bl true) H') :
    tSeq (tAsg (tCall (spPen X.K) [] E0 (tCons (tVar 0) tNil)) (gName 1)) (canSs X rest) D (L2.start N [.ref a]) H := by
  refine ⟨.ref a, ?_, a, ns, rfl, hS, hlen, hbits, fun p c H' old hp hc hpc pen => ?_⟩
  · rfl
  · obtain ⟨at_, rst, cs, e1, e2, r⟩ := pen
    have hs : (L2.start N [.ref a]).set 1 (some (.ref p)) = some (.ref a) :: some (.ref p) :: List.replicate m none := by
      unfold L2.start
      rw [hN]
      rfl
    show canSs X rest D ((L2.start N [.ref a]).set 1 (some (.ref p))) H'
    rw [hs]
    have ho : owns (startL m (.ref a) p) = [] := by
      show [] ++ ([] ++ owns (List.replicate m none)) = []
      rw [owns_none]; rfl
    refine hrest ⟨[p, c], H', some (p, c)⟩ p c (.ref a) rfl (startL m (.ref a) p) H' (some (.ref a) :: some (.ref p) :: List.replicate m none) H' ⟨.refl, ⟨fun _ _ _ => rfl, ?_, by simp, by simp, hpc, at_, rst, cs, e1, e2, r⟩, ⟨.cons (Rep.raw _) (.cons (Rep.raw _) (paired_none m)), ?_⟩⟩ D ⟨?_, ?_, ?_, ?_⟩
    · intro b hb
      rcases List.mem_cons.mp hb with rfl | hb
      · rw [e1]; simp
      · rw [List.mem_singleton.mp hb, e2]; simp
    · rw [ho]
      simpa using hpc
    · intro n ρ σ H h _
      exact h.elim
    · intro n ρ σ H d v h _ rr
      cases h
      cases rr
      exact hD _
    · intro n ρ σ H h _
      exact h.elim
    · intro n ρ σ H h _
      exact h.elim
end
/-- what the pen's making leaves -/
theorem pen_made {H : Hp} {p c : Addr} {ns : List Int} (h1 : H c = none) (h2 : upd H c (.lst (ns.map V.int)) p = none) (hl : ns.length ≤ 63) (hb : ∀ z ∈ ns, z.natAbs < 2 ^ 1048576) :
    (∀ b o, H b = some o → upd (upd H c (.lst (ns.map V.int))) p (.lst [.ref c, .int 0, .int 0]) b = some o) ∧ H p = none ∧ p ≠ c ∧ PenAt p c 1000000 (upd (upd H c (.lst (ns.map V.int))) p (.lst [.ref c, .int 0, .int 0])) := by
  have hpc : p ≠ c := fun e => by rw [e, upd_same] at h2; cases h2
  have hp : H p = none := by rwa [upd_ne hpc] at h2
  refine ⟨fun b o e => ?_, hp, hpc, 0, 0, ns, upd_same, by rw [upd_ne hpc.symm, upd_same], by decide, by decide, by decide, by show 0 < 2 ^ 1048600; exact Nat.two_pow_pos _, hl, hb⟩
  rw [upd_ne (ne_of_none e hp), upd_ne (ne_of_none e h1)]
  exact e
end RD
namespace RD
open PySem PySem.Spec PyProof.Rows L2
theorem RepAll.reverse {K : PySem.W.Frag} {M : Addr → Prop} {H : Hp} : ∀ {vs : List V} {ds : List D}, RepAll K M H vs ds → RepAll K M H vs.reverse ds.reverse
  | _, _, .nil => .nil
  | _, _, .cons r t => by
    rw [List.reverse_cons, List.reverse_cons]
    exact (RepAll.reverse t).append (.cons r .nil)
section
variable {X : Cx} {A : Amb} {ρ : En} {n : Nat} {st : Stmt} {sts : List Stmt} {E : En4} {K : PySem.W.Frag} {x y : D} {k : D → Prop}
/-- a statement that changes nothing if it goes on -/
theorem ws_stay (h : WS1 X A st ρ n { E with nx := fun n' ρ' => n' = n ∧ ρ' = ρ }) (h2 : WS X A sts ρ n E) : WS X A (st :: sts) ρ n E :=
  ws_cut (fun n' ρ' => n' = n ∧ ρ' = ρ) h fun _ _ z => by
    obtain ⟨rfl, rfl⟩ := z
    exact h2
/-- two of the same -/
theorem od_ne_same {e w : Nat} (h : k (.bl false)) (hx : Sh e w x) (hy : y = x) (he : e ≤ 60 := by decide) : OpD K A (rNeD K) ρ x y k := by
  subst hy
  refine od_ne' ?_ hx hx he he
  rw [eqD_self hx]
  exact h
theorem od_eq_same {e w : Nat} (h : k (.bl true)) (hx : Sh e w x) (hy : y = x) (he : e ≤ 60 := by decide) : OpD K A (rEqD K) ρ x y k := by
  subst hy
  refine od_eq' ?_ hx hx he he
  rw [eqD_self hx]
  exact h
theorem od_ne_str {i j : Str} (h : k (.bl false)) (e : i = j) : OpD K A rNe ρ (.str i) (.str j) k := by
  subst e
  refine od_neS ?_
  rw [decide_eq_true rfl]
  exact h
end
theorem Sh.two {e w e' w' : Nat} {x y : D} (hx : Sh e w x) (hy : Sh e w y) (he : e + 1 ≤ e' := by omega) (hw : 2 * (w + 1) ≤ w' := by omega) : Sh e' w' (.tup [x, y]) := Sh.tup (m := 2) (e := e) (w := w) (fun z hz => by
  rcases List.mem_cons.mp hz with rfl | hz
  · exact hx
  · rw [List.mem_singleton.mp hz]; exact hy) (Nat.le_refl _) he hw
theorem all_nil {α : Type} {p : α → Prop} : ∀ x ∈ ([] : List α), p x := fun x h => nomatch h
theorem all_cons {α : Type} {p : α → Prop} {a : α} {l : List α} (h : p a) (t : ∀ x ∈ l, p x) : ∀ x ∈ a :: l, p x := fun x hx => by
  rcases List.mem_cons.mp hx with rfl | hx
  · exact h
  · exact t x hx
end RD
namespace RD
open PySem PySem.Spec PyProof.Rows L2
section
variable {K : PySem.W.Frag} {x q : Str} {params : Arguments} {body : List Stmt} {scope : Scope} {f T : Addr} {oc kV doc pm cdv ct oc2 : Value} {od an od2 : Option Addr} {osl sl2 : Array (Option Value)} {fd : FuncData}
/-- a def without defaults -/
theorem fd_mk (l : K.lookup f = some ⟨oc, od, .func (PySem.W.fnOf x q params body scope .none kV doc pm an cdv ct), osl⟩) (c : PySem.W.codeIn K cdv q = true) (k : PySem.W.keepIn K (.ref f) = true) : FunD K x q params body scope [] [] f (PySem.W.fnOf x q params body scope .none kV doc pm an cdv ct) :=
  ⟨⟨oc, od, .none, kV, doc, pm, an, cdv, ct, osl, rfl, l, c, .inl ⟨rfl, rfl⟩, .inl rfl⟩, k⟩
/-- a def with defaults -/
theorem fd_mkD {v : V} {dvs : List V} {its : Array Value} {n : Nat} (l : K.lookup f = some ⟨oc, od, .func (PySem.W.fnOf x q params body scope (.ref T) kV doc pm an cdv ct), osl⟩) (c : PySem.W.codeIn K cdv q = true) (k : PySem.W.keepIn K (.ref f) = true)
    (lT : K.lookup T = some ⟨oc2, od2, .seq its n, sl2⟩) (r : Vals (v :: dvs) its.toList) : FunD K x q params body scope (v :: dvs) [] f (PySem.W.fnOf x q params body scope (.ref T) kV doc pm an cdv ct) :=
  ⟨⟨oc, od, .ref T, kV, doc, pm, an, cdv, ct, osl, rfl, l, c, .inr ⟨List.cons_ne_nil _ _, T, _, its.toList, n, rfl, lT, by simp, r⟩, .inl rfl⟩, k⟩
end
end RD

/-! RD10: list comprehensions. -/
namespace RD
open PySem PySem.Spec PyProof.Rows L2
/-- what the block may read: one's own lists are hidden, the block's own names are unset -/
def hid : En → En := List.map fun s => match s with
  | some (.dat d) => some (.dat d)
  | _ => none
def wipeD (ρ : En) : List Nat → En
  | [] => ρ
  | v :: vs => (wipeD ρ vs).set v none
theorem owns_hid : ∀ ρ : En, owns (hid ρ) = []
  | [] => rfl
  | s :: ρ => by
    show addrs _ ++ owns (hid ρ) = []
    rw [owns_hid ρ, List.append_nil]
    match s with
    | none => rfl
    | some (.dat d) => rfl
    | some (.own p ds) => rfl
    | some (.ownK p ds) => rfl
theorem owns_wipeD (ρ : En) (h : owns ρ = []) : ∀ vs : List Nat, owns (wipeD ρ vs) = []
  | [] => h
  | v :: vs => by
    have h1 := owns_wipeD ρ h vs
    have h2 : (owns ((wipeD ρ vs).set v none)).Sublist (owns (wipeD ρ vs)) := owns_set_dat rfl
    rw [h1] at h2
    exact List.sublist_nil.mp h2
section
variable {K : PySem.W.Frag} {M : Addr → Prop} {H : Hp}
theorem paired_hid : ∀ {ρ : En} {σ : L2.St}, Paired (SlotR K M H) ρ σ → Paired (SlotR K M H) (hid ρ) σ
  | _, _, .nil => .nil
  | _, _, .cons (a := s) (b := v) r t => by
    refine .cons ?_ (paired_hid t)
    match s, v, r with
    | none, _, _ => trivial
    | some (.dat d), some v, r => exact r
    | some (.dat d), none, r => exact r
    | some (.own p ds), _, _ => trivial
    | some (.ownK p ds), _, _ => trivial
theorem paired_wipe {ρ : En} {σ : L2.St} (h : Paired (SlotR K M H) ρ σ) : ∀ vs : List Nat, Paired (SlotR K M H) (wipeD ρ vs) (L2.wipe σ vs)
  | [] => h
  | v :: vs => paired_set (F := SlotR K M H) (a := none) (b := none) trivial v (paired_wipe h vs)
end
theorem wipe_same : ∀ {σ τ : L2.St} {vs : List Nat}, σ.length = τ.length → (∀ j, ¬ j ∈ vs → σ[j]? = τ[j]?) → L2.wipe σ vs = L2.wipe τ vs := fun {σ τ vs} hl h => by
  have key : ∀ (vs : List Nat) (j : Nat) (σ : L2.St), (L2.wipe σ vs)[j]? = if j ∈ vs then (if j < σ.length then some none else none) else σ[j]? := by
    intro vs
    induction vs with
    | nil => intro j σ; rfl
    | cons v vs ih =>
      intro j σ
      unfold L2.wipe
      by_cases e : v = j
      · subst e
        rw [if_pos (List.mem_cons_self ..)]
        by_cases hv : v < σ.length
        · rw [if_pos hv, List.getElem?_set_self (by rw [L2.wipe_length]; exact hv)]
        · rw [if_neg hv, List.getElem?_eq_none (by rw [List.length_set, L2.wipe_length]; omega)]
      · rw [List.getElem?_set_ne e, ih]
        by_cases hm : j ∈ vs
        · rw [if_pos hm, if_pos (List.mem_cons_of_mem _ hm)]
        · rw [if_neg hm, if_neg (fun z => (List.mem_cons.mp z).elim (fun q => e q.symm) hm)]
  apply List.ext_getElem?
  intro j
  rw [key, key, hl]
  by_cases hm : j ∈ vs
  · rw [if_pos hm, if_pos hm]
  · rw [if_neg hm, if_neg hm]; exact h j hm
theorem wipe_idem (σ : L2.St) (vs : List Nat) : L2.wipe (L2.wipe σ vs) vs = L2.wipe σ vs := by
  refine wipe_same (L2.wipe_length σ vs) fun j hj => ?_
  have : ∀ (vs : List Nat), ¬ j ∈ vs → (L2.wipe σ vs)[j]? = σ[j]? := by
    intro vs
    induction vs with
    | nil => intro _; rfl
    | cons v vs ih =>
      intro h
      unfold L2.wipe
      rw [List.getElem?_set_ne (fun z => h (by rw [z]; exact List.mem_cons_self ..)), ih fun z => h (List.mem_cons_of_mem _ z)]
  exact this vs hj
/-- a clause's tests: none, one -/
def WTs (X : Cx) (A : Amb) (ifs : List Expr) (ρ : En) (n : Nat) (k : Nat → En → Bool → Prop) : Prop := match ifs with
  | [] => k n ρ true
  | [c] => WB X A c ρ n k
  | _ => False
section
variable {X : Cx} {A : Amb} {ρ : En} {n : Nat} {elt tg iter : Expr} {ifs : List Expr} {scope : Scope} {own : List (Str × Nat)} {pos : Pos} {kl : Nat → En → List D → Prop}
abbrev Blk (X : Cx) (scope : Scope) (s : Shared) (H : Hp) (C : Addr) (cl : List (Str × Addr)) (fp : List Addr) : Cx := X.blk s H scope (compEnvC scope cl C X.env) fp
theorem wts_nil {k : Nat → En → Bool → Prop} (h : k n ρ true) : WTs X A [] ρ n k := h
theorem wts_one {c : Expr} {k : Nat → En → Bool → Prop} (h : WB X A c ρ n k) : WTs X A [c] ρ n k := h
def tIfs (X : Cx) (scope : Scope) (ifs : List Expr) : TT := match ifs with
  | [] => tYes
  | [c] => fun σ H Q => ∀ s H0 C cl fp, canT (Blk X scope s H0 C cl fp) c σ H Q
  | _ => fun _ _ _ => False
theorem pts_any (s : Shared) (H : Hp) (C : Addr) (cl : List (Str × Addr)) (fp : List Addr) : PTs (Blk X scope s H C cl fp) ifs (tIfs X scope ifs) := by
  match ifs with
  | [] => exact pts_nil
  | [c] => exact pts_one ⟨fun pins s' σ H' Q I h => (tcan (X := Blk X scope s H C cl fp) (e := c)).run pins s' σ H' Q I (h s H C cl fp)⟩
  | a :: b :: r => exact ⟨fun _ _ _ _ _ _ h => h.elim⟩
/-- all contexts of the block -/
def AllB (X : Cx) (scope : Scope) (P : Cx → Prop) : Prop := ∀ (s : Shared) (H : Hp) (C : Addr) (cl : List (Str × Addr)) (fp : List Addr), P (Blk X scope s H C cl fp)
/-- the state in which a turn of the block begins -/
theorem Here.block {K : PySem.W.Frag} {ρ1 ρ0 : En} {H1 H0 H : Hp} {σ : L2.St} {D : Addr} {ds : List RD.D} {vs : List V} (h : Here K A ρ1 H1 n ρ σ H) (o : Own1 K A ρ0 H0 ρ σ H D vs ds) (ws : List Nat) :
    Here K { W := D :: (owns ρ ++ A.W), H0 := H, pen := A.pen } (wipeD (hid ρ) ws) H n (wipeD (hid ρ) ws) (L2.wipe σ ws) H ∧ ∀ a, Mt { W := D :: (owns ρ ++ A.W), H0 := H, pen := A.pen } (wipeD (hid ρ) ws) a ↔ (Mt A ρ a ∨ a = D) := by
  have ho : owns (wipeD (hid ρ) ws) = [] := owns_wipeD _ (owns_hid ρ) ws
  have hm : ∀ a, Mt { W := D :: (owns ρ ++ A.W), H0 := H, pen := A.pen } (wipeD (hid ρ) ws) a ↔ (Mt A ρ a ∨ a = D) := fun a => by
    unfold Mt
    rw [ho]
    simp only [List.not_mem_nil, false_or, List.mem_cons, List.mem_append]
    constructor
    · rintro (z | z | z)
      · exact .inr z
      · exact .inl (.inl z)
      · exact .inl (.inr z)
    · rintro ((z | z) | z)
      · exact .inr (.inl z)
      · exact .inr (.inr z)
      · exact .inl z
  refine ⟨⟨.refl, ⟨fun _ _ _ => rfl, fun a ha => ?_, ?_⟩, ⟨?_, ?_⟩⟩, hm⟩
  · rcases List.mem_cons.mp ha with rfl | ha
    · rw [o.ob]; simp
    · exact h.tracked a ha
  · have j := h.j.2.2
    show match A.pen with
      | none => True
      | some (p, c) => p ∈ D :: (owns ρ ++ A.W) ∧ c ∈ D :: (owns ρ ++ A.W) ∧ p ≠ c ∧ PenAt p c n H
    cases hp : A.pen with
    | none => trivial
    | some pc =>
      obtain ⟨p, c⟩ := pc
      rw [hp] at j
      obtain ⟨j1, j2, j3, j4⟩ := j
      exact ⟨List.mem_cons_of_mem _ (List.mem_append_right _ j1), List.mem_cons_of_mem _ (List.mem_append_right _ j2), j3, j4⟩
  · refine paired_mono (fun a b r => slotR_anti (fun x hx => (hm x).mp hx) r) (paired_wipe (paired_hid o.sl) ws)
  · rw [ho, List.nil_append]
    exact List.nodup_cons.mpr ⟨fun z => o.nm (List.mem_append.mp z), h.sat.nd⟩
/-- the list one longer, behind a turn of the block -/
theorem Here.grown {K : PySem.W.Frag} {ρ1 ρ0 ρ4 : En} {H1 H0 H H4 : Hp} {σ σ4 : L2.St} {D : Addr} {ds : List RD.D} {vs : List V} {n' : Nat} {y : V} {d : RD.D} (h : Here K A ρ1 H1 n ρ σ H) (o : Own1 K A ρ0 H0 ρ σ H D vs ds) (hD : H1 D = none) (ws : List Nat)
    (h4 : Here K { W := D :: (owns ρ ++ A.W), H0 := H, pen := A.pen } (wipeD (hid ρ) ws) H n' ρ4 σ4 H4) (r : Rep K (Mt { W := D :: (owns ρ ++ A.W), H0 := H, pen := A.pen } ρ4) H4 y d) :
    H4 D = some (.lst vs) ∧ Here K A ρ1 H1 n' ρ σ (upd H4 D (.lst (vs ++ [y]))) ∧ Own1 K A ρ0 H0 ρ σ (upd H4 D (.lst (vs ++ [y]))) D (vs ++ [y]) (ds ++ [d]) ∧ (Here K A ρ1 H1 n' ρ σ H4 ∧ Own1 K A ρ0 H0 ρ σ H4 D vs ds) := by
  have isp : ∀ a, Amb.isPen { W := D :: (owns ρ ++ A.W), H0 := H, pen := A.pen } a ↔ A.isPen a := fun a => Iff.rfl
  have ho : owns (wipeD (hid ρ) ws) = [] := owns_wipeD _ (owns_hid ρ) ws
  have penM : ∀ a, A.isPen a → a ∈ A.W := fun a z => by
    have j := h.j.2.2
    unfold Amb.isPen at z
    cases hp : A.pen with
    | none => rw [hp] at z; exact z.elim
    | some pc =>
      obtain ⟨p, c⟩ := pc
      rw [hp] at z j
      rw [show a = p from z]; exact j.1
  have nd := h.sat.nd
  have ownP : ∀ a ∈ owns ρ, ¬ A.isPen a := fun a ha z => (List.nodup_append.mp nd).2.2 a ha a (penM a z) rfl
  have dP : ¬ A.isPen D := fun z => o.nm (.inr (penM D z))
  have st : ∀ a u, ¬ A.isPen a → H a = some u → H4 a = some u := fun a u hp e => (h4.kp a u (by rw [ho]; simp) hp e).1
  have hDv : H4 D = some (.lst vs) := st _ _ dP o.ob
  have up : ∀ a u, ¬ (Mt A ρ a ∨ a = D) → H a = some u → upd H4 D (.lst (vs ++ [y])) a = some u ∧ ¬ (Mt A ρ a ∨ a = D) := fun a u m e => by
    refine ⟨?_, m⟩
    rw [upd_ne fun z => m (.inr z)]
    exact st a u (fun z => m (.inl (.inr (penM a z)))) e
  have up4 : ∀ a u, ¬ (Mt A ρ a ∨ a = D) → H a = some u → H4 a = some u ∧ ¬ (Mt A ρ a ∨ a = D) := fun a u m e => ⟨st a u (fun z => m (.inl (.inr (penM a z)))) e, m⟩
  have slots : ∀ {H' : Hp}, (∀ a u, ¬ (Mt A ρ a ∨ a = D) → H a = some u → H' a = some u ∧ ¬ (Mt A ρ a ∨ a = D)) → (∀ a ∈ owns ρ, H' a = H a) → Paired (SlotR K (fun a => Mt A ρ a ∨ a = D) H') ρ σ := fun {H'} upp same => by
    have : ∀ {ρ' : En} {σ' : L2.St}, Paired (SlotR K (fun a => Mt A ρ a ∨ a = D) H) ρ' σ' → (∀ a ∈ owns ρ', H' a = H a) → Paired (SlotR K (fun a => Mt A ρ a ∨ a = D) H') ρ' σ' := by
      intro ρ' σ' r
      induction r with
      | nil => intro _; exact .nil
      | @cons s v l m r t ih =>
        intro hn
        refine .cons ?_ (ih fun a ha => hn a (by show a ∈ addrs s ++ owns l; exact List.mem_append_right _ ha))
        cases s with
        | none => cases v <;> trivial
        | some s =>
          cases v with
          | none => cases s <;> exact r
          | some v =>
            cases s with
            | dat d => exact Rep.mono upp d r
            | own q ds =>
              obtain ⟨e0, vs, e1, e2⟩ := r
              exact ⟨e0, vs, by rw [hn q (by show q ∈ [q] ++ owns l; simp)]; exact e1, RepAll.mono upp ds e2⟩
            | ownK q ds =>
              obtain ⟨e0, vs, e1, e2⟩ := r
              exact ⟨e0, vs, by rw [hn q (by show q ∈ [q] ++ owns l; simp)]; exact e1, RepKV.mono upp ds e2⟩
    exact this o.sl same
  have same4 : ∀ a ∈ owns ρ, H4 a = H a := fun a ha => by
    have := h4.j.1 a (List.mem_cons_of_mem _ (List.mem_append_left _ ha)) (ownP a ha)
    exact this
  have ownD : ∀ a ∈ owns ρ, a ≠ D := fun a ha z => o.nm (.inl (z ▸ ha))
  have wD : ∀ a ∈ A.W, a ≠ D := fun a ha z => o.nm (.inr (z ▸ ha))
  have sl4 := slots up4 same4
  have slU := slots up (fun a ha => by rw [upd_ne (ownD a ha)]; exact same4 a ha)
  have here : ∀ {H' : Hp}, (∀ a u, a ≠ D → ¬ A.isPen a → H a = some u → H' a = some u) → (∀ a ∈ A.W, H' a = H4 a) → Paired (SlotR K (fun a => Mt A ρ a ∨ a = D) H') ρ σ → Here K A ρ1 H1 n' ρ σ H' := fun {H'} k w sl => by
    refine ⟨fun a u h1 h2 e => ?_, ⟨fun a ha hp => ?_, fun a ha => ?_, ?_⟩, ⟨paired_mono (fun _ _ r => slotR_anti (fun x hx => .inl hx) r) sl, nd⟩⟩
    · obtain ⟨e1, h3⟩ := h.kp a u h1 h2 e
      exact ⟨k a u (fun z => by rw [z, hD] at e; cases e) h2 e1, h3⟩
    · rw [w a ha, h4.j.1 a (List.mem_cons_of_mem _ (List.mem_append_right _ ha)) hp]
      exact h.j.1 a ha hp
    · rw [w a ha]
      exact h4.j.2.1 a (List.mem_cons_of_mem _ (List.mem_append_right _ ha))
    · have j4 := h4.j.2.2
      have j := h.j.2.2
      cases hp : A.pen with
      | none => trivial
      | some pc =>
        obtain ⟨p, c⟩ := pc
        rw [hp] at j
        have j4' : p ∈ D :: (owns ρ ++ A.W) ∧ c ∈ D :: (owns ρ ++ A.W) ∧ p ≠ c ∧ PenAt p c n' H4 := by
          have z := j4
          simp only [hp] at z
          exact z
        obtain ⟨at_, rest, ns, e1, e2, rr⟩ := j4'.2.2.2
        exact ⟨j.1, j.2.1, j.2.2.1, at_, rest, ns, by rw [w p j.1]; exact e1, by rw [w c j.2.1]; exact e2, rr⟩
  have mtU : ∀ a, (Mt A ρ a ∨ a = D) → Mt { W := D :: (owns ρ ++ A.W), H0 := H, pen := A.pen } ρ4 a := fun a z => by
    refine .inr ?_
    rcases z with (z | z) | z
    · exact List.mem_cons_of_mem _ (List.mem_append_left _ z)
    · exact List.mem_cons_of_mem _ (List.mem_append_right _ z)
    · rw [z]; exact List.mem_cons_self ..
  have upR : ∀ a u, ¬ Mt { W := D :: (owns ρ ++ A.W), H0 := H, pen := A.pen } ρ4 a → H4 a = some u → upd H4 D (.lst (vs ++ [y])) a = some u ∧ ¬ (Mt A ρ a ∨ a = D) := fun a u m e => ⟨by rw [upd_ne fun z => m (mtU a (.inr z))]; exact e, fun z => m (mtU a z)⟩
  refine ⟨hDv, here (fun a u h1 h2 e => by rw [upd_ne h1]; exact st a u h2 e) (fun a ha => upd_ne (wD a ha)) slU, ⟨upd_same, o.nm, o.nw, slU, ?_⟩, here (fun a u _ h2 e => st a u h2 e) (fun _ _ => rfl) sl4, ⟨hDv, o.nm, o.nw, sl4, RepAll.mono up4 ds o.rp⟩⟩
  exact (RepAll.mono up ds o.rp).append (.cons (Rep.mono upR d r) .nil)
theorem lc_run (own : List (Str × Nat)) (I : Nat → Nat → List D → Prop)
    (h : WI X A tg iter ρ n fun n' ρ' ds => I 0 n' [] ∧ (∀ (i : Nat) (d : D) (n : Nat) (acc : List D), ds[i]? = some d → I i n acc → ∀ (A' : Amb), A'.pen = A.pen →
        AllB X scope fun Y => WG' Y A' tg (fun j => j ∈ own.map (·.2)) d (wipeD (hid ρ') (own.map (·.2))) n fun n ρ2 => AllB X scope fun Y => WTs Y A' ifs ρ2 n fun n ρ3 b =>
          (b = true → AllB X scope fun Y => WE Y A' elt ρ3 n fun n _ y => acc.length < 100000 ∧ I (i + 1) n (acc ++ [y])) ∧ (b = false → I (i + 1) n acc)) ∧ ∀ n acc, I ds.length n acc → kl n ρ' acc)
    {ρ0 : En} {H0 : Hp} {σ : L2.St} {H : Hp} (hh : Here X.K A ρ0 H0 n ρ σ H) (Q : VK) (q : ∀ n' ρ' ds p vs H', kl n' ρ' ds → Here X.K A ρ0 H0 n' ρ' σ H' → Keeps A ρ H ρ' H' → Own1 X.K A ρ0 H0 ρ' σ H' p vs ds → Q (.ref p) H') :
    tLc (canI X tg iter) (fun v σ H Q => ∀ s H0 C cl fp, canG (Blk X scope s H0 C cl fp) tg v σ H Q) (tIfs X scope ifs) (fun σ H Q => ∀ s H0 C cl fp, canE (Blk X scope s H0 C cl fp) elt σ H Q) (own.map (·.2)) σ H Q := by
  refine h ρ0 H0 σ H hh _ fun n1 ρ1 ds Jt H1 h1 hh1 k1 src => ?_
  obtain ⟨i0, turn, fin⟩ := h1
  intro D hD
  have o1 : Own1 X.K A ρ0 H0 ρ1 σ (upd H1 D (.lst [])) D [] [] := hh1.own1 hD .nil
  refine ⟨fun i m H => m = ds.length - i ∧ i ≤ ds.length ∧ ∃ n acc vs, I i n acc ∧ Here X.K A ρ1 H1 n ρ1 σ H ∧ Own1 X.K A ρ0 H0 ρ1 σ H D vs acc, ⟨ds.length, by simp, Nat.zero_le _, n1, [], [], i0, hh1.rebase (ρ1 := ρ1) (H1 := H1) |>.alloc hD, o1⟩, ?_⟩
  rintro i m H2 ⟨rfl, hi, n2, acc, vs, i2, hh2, o2⟩
  obtain ⟨go, stop, yld⟩ := src (Mt A ρ1) H2 (hh2.kp.up hh1.j)
  by_cases hlt : i < ds.length
  · refine .inr ⟨go i hlt, fun H => ∃ n acc vs, I (i + 1) n acc ∧ Here X.K A ρ1 H1 n ρ1 σ H ∧ Own1 X.K A ρ0 H0 ρ1 σ H D vs acc, fun H' ⟨n', acc', vs', z1, z2, z3⟩ => ⟨ds.length - (i + 1), by omega, rfl, hlt, n', acc', vs', z1, z2, z3⟩, fun x H3 y => ?_⟩
    have hd : ds[i]? = some ds[i] := List.getElem?_eq_getElem hlt
    have yy := src (fun a => Mt A ρ1 a ∨ a = D) H2 (fun a u m e => by
      obtain ⟨e1, m1⟩ := hh2.kp.up hh1.j a u m e
      refine ⟨e1, fun z => ?_⟩
      rcases z with z | z
      · exact m1 z
      · rw [z, hD] at e; cases e)
    obtain ⟨z, rx⟩ := yy.2.2 i _ x H3 hd y (fun T hT zz => by
      rcases zz with zz | zz
      · exact hh2.new hT zz
      · rw [zz, o2.ob] at hT; cases hT)
    have hh3 : Here X.K A ρ1 H1 n2 ρ1 σ H3 ∧ Own1 X.K A ρ0 H0 ρ1 σ H3 D vs acc := by
      rcases z with rfl | ⟨T, u, hT, rfl⟩
      · exact ⟨hh2, o2⟩
      · refine ⟨hh2.alloc hT, ⟨by rw [upd_ne (ne_of_none o2.ob hT)]; exact o2.ob, o2.nm, o2.nw, paired_mono (fun _ _ r => slotR_mono (fun a v e => by rw [upd_ne (ne_of_none e hT)]; exact e) r) o2.sl, o2.rp.alloc hT⟩⟩
    obtain ⟨hh3, o3⟩ := hh3
    obtain ⟨hb, hm⟩ := hh3.block o3 (own.map (·.2))
    intro s4 H4 C4 cl4 fp4
    refine turn i _ n2 acc hd i2 { W := D :: (owns ρ1 ++ A.W), H0 := H3, pen := A.pen } rfl s4 H4 C4 cl4 fp4 _ _ _ _ x hb (Rep.mono (fun a u m e => ⟨e, fun w => m ((hm a).mp w)⟩) _ rx) _ fun n5 ρ5 σ5 H5 h5 hh5 k5 l5 s5 => ?_
    refine ⟨(wipe_same l5 s5).trans (wipe_idem _ _), ?_⟩
    have step : ∀ (b : Bool) (n6 : Nat) (ρ6 : En) (H6 : Hp), ((b = true → AllB X scope fun Y => WE Y { W := D :: (owns ρ1 ++ A.W), H0 := H3, pen := A.pen } elt ρ6 n6 fun n _ y => acc.length < 100000 ∧ I (i + 1) n (acc ++ [y])) ∧ (b = false → I (i + 1) n6 acc)) →
        Here X.K { W := D :: (owns ρ1 ++ A.W), H0 := H3, pen := A.pen } (wipeD (hid ρ1) (own.map (·.2))) H3 n6 ρ6 σ5 H6 →
        if b = true then (∀ s Hz C cl fp, canE (Blk X scope s Hz C cl fp) elt σ5 H6 fun y H4 => ∃ acc, H4 D = some (.lst acc) ∧ acc.length < sizeLine ∧ ∃ n acc' vs, I (i + 1) n acc' ∧ Here X.K A ρ1 H1 n ρ1 σ (upd H4 D (.lst (acc ++ [y]))) ∧ Own1 X.K A ρ0 H0 ρ1 σ (upd H4 D (.lst (acc ++ [y]))) D vs acc') else
          (∃ n acc vs, I (i + 1) n acc ∧ Here X.K A ρ1 H1 n ρ1 σ H6 ∧ Own1 X.K A ρ0 H0 ρ1 σ H6 D vs acc) := by
      intro b n6 ρ6 H6 hb6 hh6
      cases b with
      | true =>
        rw [if_pos rfl]
        intro s7 H7 C7 cl7 fp7
        refine hb6.1 rfl s7 H7 C7 cl7 fp7 _ _ _ _ hh6 _ fun n8 ρ8 d8 v8 H8 h8 hh8 k8 r8 => ?_
        obtain ⟨g1, g2, g3, _⟩ := hh3.grown o3 hD (own.map (·.2)) hh8 r8
        exact ⟨vs, g1, by rw [o3.rp.length]; exact Nat.lt_of_lt_of_le h8.1 (sz_le (Nat.le_refl _)), n8, acc ++ [d8], vs ++ [v8], h8.2, g2, g3⟩
      | false =>
        rw [if_neg Bool.false_ne_true]
        obtain ⟨_, _, _, g4, g5⟩ := hh3.grown o3 hD (own.map (·.2)) hh6 (.int 0)
        exact ⟨n6, acc, vs, hb6.2 rfl, g4, g5⟩
    match ifs, h5 with
    | [], h5 => exact step true n5 ρ5 H5 (h5 s4 H4 C4 cl4 fp4) hh5
    | [c], h5 =>
      intro s6 H6 C6 cl6 fp6
      refine h5 s6 H6 C6 cl6 fp6 _ _ _ _ hh5 _ fun n7 ρ7 b H7 h7 hh7 k7 => ?_
      exact step b n7 ρ7 H7 h7 hh7
    | a :: b :: r, h5 => exact (h5 s4 H4 C4 cl4 fp4).elim
  · have e : i = ds.length := by omega
    subst e
    exact .inl ⟨stop, q n2 ρ1 acc D vs H2 (fin n2 acc i2) (hh2.back hh1.kp) (k1.trans hh2.kp) o2⟩
/-- THE RULE for [elt for tg in iter if ..]: I what is so ahead of turn i, with the new list's data so far -/
theorem wf_lc (own : List (Str × Nat)) (I : Nat → Nat → List D → Prop) (hc : X.calm = true) (hN : X.N.Nodup)
    (h : WI X A tg iter ρ n fun n' ρ' ds => I 0 n' [] ∧ (∀ (i : Nat) (d : D) (n : Nat) (acc : List D), ds[i]? = some d → I i n acc → ∀ (A' : Amb), A'.pen = A.pen →
        AllB X scope fun Y => WG' Y A' tg (fun j => j ∈ own.map (·.2)) d (wipeD (hid ρ') (own.map (·.2))) n fun n ρ2 => AllB X scope fun Y => WTs Y A' ifs ρ2 n fun n ρ3 b =>
          (b = true → AllB X scope fun Y => WE Y A' elt ρ3 n fun n _ y => acc.length < 100000 ∧ I (i + 1) n (acc ++ [y])) ∧ (b = false → I (i + 1) n acc)) ∧ ∀ n acc, I ds.length n acc → kl n ρ' acc)
    (hok : blkC X.N X.env.scope scope own = true := by rfl) (hs : ∀ x, foldedSetIterable iter X.env x = pure x := by intro _; rfl) : WF X A (.ListComp elt [⟨tg, iter, ifs, 0⟩] scope pos) ρ n kl := by
  intro ρ0 H0 σ H hh Q q
  refine canE.of (pe_lc (own := own) (tt := tIfs X scope ifs) (g := fun v σ H Q => ∀ s H0 C cl fp, canG (Blk X scope s H0 C cl fp) tg v σ H Q) (te := fun σ H Q => ∀ s H0 C cl fp, canE (Blk X scope s H0 C cl fp) elt σ H Q) hc hN icanL (blkOk_by hok)
    (fun s H C cl fp => ⟨fun pins s' σ H' v u Q I r h => (gcan (X := Blk X scope s H C cl fp) (tg := tg)).run pins s' σ H' v u Q I r (h s H C cl fp)⟩)
    (fun s H C cl fp => pts_any s H C cl fp) (fun s H C cl fp => ⟨fun pins s' σ H' Q I h => (pcan (X := Blk X scope s H C cl fp) (e := elt)).run pins s' σ H' Q I (h s H C cl fp)⟩) hs) ?_
  exact lc_run own I h hh Q q
/-- name = [..] on one line -/
theorem ws_setLc (i : Nat) {y : Str} {py spos : Pos} {E : En4} (own : List (Str × Nat)) (I : Nat → Nat → List D → Prop) (hc : X.calm = true) (hN : X.N.Nodup)
    (h : WI X A tg iter ρ n fun n' ρ' ds => I 0 n' [] ∧ (∀ (i : Nat) (d : D) (n : Nat) (acc : List D), ds[i]? = some d → I i n acc → ∀ (A' : Amb), A'.pen = A.pen →
        AllB X scope fun Y => WG' Y A' tg (fun j => j ∈ own.map (·.2)) d (wipeD (hid ρ') (own.map (·.2))) n fun n ρ2 => AllB X scope fun Y => WTs Y A' ifs ρ2 n fun n ρ3 b =>
          (b = true → AllB X scope fun Y => WE Y A' elt ρ3 n fun n _ y => acc.length < 100000 ∧ I (i + 1) n (acc ++ [y])) ∧ (b = false → I (i + 1) n acc)) ∧ ∀ n acc, I ds.length n acc → E.nx n (ρ'.set i (some (.dat (.lst acc)))))
    (hy : X.N[i]? = some y := by rfl) (hyl : X.env.scope.names.lookup y = some .local := by rfl) (hsw : swapsWith (.ListComp elt [⟨tg, iter, ifs, 0⟩] scope pos) (some (.Name y py)) spos.line X.env = pure true := by rfl)
    (hok : blkC X.N X.env.scope scope own = true := by rfl) (hs : ∀ x, foldedSetIterable iter X.env x = pure x := by intro _; rfl) : WS1 X A (.Assign [.Name y py] (.ListComp elt [⟨tg, iter, ifs, 0⟩] scope pos) spos) ρ n E := by
  intro ρ0 H0 σ H hh D f
  refine canS.of (ps_setLc (own := own) (tt := tIfs X scope ifs) (g := fun v σ H Q => ∀ s H0 C cl fp, canG (Blk X scope s H0 C cl fp) tg v σ H Q) (te := fun σ H Q => ∀ s H0 C cl fp, canE (Blk X scope s H0 C cl fp) elt σ H Q) hc hN hy hyl hsw icanL (blkOk_by hok)
    (fun s H C cl fp => ⟨fun pins s' σ H' v u Q I r h => (gcan (X := Blk X scope s H C cl fp) (tg := tg)).run pins s' σ H' v u Q I r (h s H C cl fp)⟩)
    (fun s H C cl fp => pts_any s H C cl fp) (fun s H C cl fp => ⟨fun pins s' σ H' Q I h => (pcan (X := Blk X scope s H C cl fp) (e := elt)).run pins s' σ H' Q I (h s H C cl fp)⟩) hs) ?_
  refine lc_run (kl := fun n ρ' acc => E.nx n (ρ'.set i (some (.dat (.lst acc))))) own I h hh _ fun n' ρ' ds p vs H' kk h' kp o => f.nx _ _ _ _ kk (h'.set i (.lst o.nm o.ob (RepAll.mono (fun a o ha ea => ⟨ea, fun z => ha (.inl z)⟩) _ o.rp)))
end
end RD

/-! RD11: isinstance by built-in types; tuple(), bool(), all(); zip, enumerate. -/
namespace RD
open PySem PySem.Spec PyProof.Rows L2
/-- the built-in type of a datum -/
def tyD : D → Option String
  | .non => some "NoneType"
  | .bl _ => some "bool"
  | .int _ => some "int"
  | .str _ => some "str"
  | .lst _ => some "list"
  | .tup _ => some "tuple"
  | .dct _ => some "dict"
  | _ => none
theorem Rep.ty {K : PySem.W.Frag} {M : Addr → Prop} {H : Hp} {v : V} {d : D} {t : String} (r : Rep K M H v d) (h : tyD d = some t) : TyX K H v (.type t) := by
  cases r with
  | non => cases h; exact .base .non
  | bl b => cases h; exact .base (.bl b)
  | int i => cases h; exact .base (.int i)
  | str x => cases h; exact .base (.str x)
  | lst m q ra => cases h; exact .base (.lst q)
  | tup q ra =>
    cases h
    rcases q with ⟨_, q | ⟨o, q⟩⟩ | ⟨o, its, n, q, c, _⟩
    · exact .base (.tup q)
    · exact .fTuple q
    · exact .kTuple q c
  | dct m q ra => cases h; exact .base (.dK q)
  | obj m q ra => cases h
  | raw v => cases h
section
variable {X : Cx} {A : Amb} {ρ : En} {n : Nat} {e a b : Expr} {es : List Expr} {p p2 pos tpos : Pos} {k : Nat → En → D → Prop} {kl : Nat → En → List D → Prop}
/-- a built-in name -/
theorem we_bltn {x : Str} {v : V} {u : Value} (hm : X.mg x = none) (hv : bootBuiltins x = some u) (r : RelV v u) (h : k n ρ (.raw v)) (hg : Gl X x := by rfl) (hn : x ≠ "__name__" := by decide) (hd : (x == ("__debug__" : Str)) = false := by decide) : WE X A (.Name x pos) ρ n k :=
  fun ρ0 H0 σ H hh Q q => canE.of (pe_bltn hg hm hv r hn hd) (q n ρ _ _ H h hh .refl (.raw v))
/-- isinstance(e, T), T a built-in type -/
theorem we_isi {T : Str} {N : String} (hm : X.mg "isinstance" = none) (hT : X.mg T = none) (hv : bootBuiltins T = some (.type N)) (h : WE X A e ρ n fun n ρ d => ∃ t c, tyD d = some t ∧ kitB t N = some c ∧ k n ρ (.bl c)) (hg : Gl X "isinstance" := by rfl) (hgT : Gl X T := by rfl) (hnT : T ≠ "__name__" := by decide) (hdT : (T == ("__debug__" : Str)) = false := by decide)
    (he : starEach [e, .Name T p2] X.env = (false, eval e X.env) :: starEach [.Name T p2] X.env := by rfl) (he2 : starEach [.Name T p2] X.env = (false, eval (.Name T p2) X.env) :: starEach [] X.env := by rfl) (hpl : (backTo pos (starEach [.Name T p2] X.env)).any (·.1) = false := by rfl) :
    WE X A (.Call (.Name "isinstance" p) [e, .Name T p2] [] pos) ρ n k := by
  intro ρ0 H0 σ H hh Q q
  refine canE.of (pe_callB call_isi hg hm boot_isinstance (pa_cons pcan (pa_cons (pe_bltn (v := .ty N) hgT hT hv rfl hnT hdT) pa_nil he2) he) (by decide) (by decide) he hpl) ?_
  refine h ρ0 H0 σ H hh _ fun n1 ρ1 d v H1 h1 hh1 k1 r1 => ?_
  obtain ⟨t, c, e1, e2, h1⟩ := h1
  exact ⟨v, .ty N, .type t, .type N, c, rfl, .ty N, r1.ty e1, kit_ty e2, q n1 ρ1 _ _ H1 h1 hh1 k1 (.bl _)⟩
/-- isinstance(e, (S, T)) -/
theorem we_isi2 {S T : Str} {NS NT : String} {pS pT : Pos} {kk : Nat} (hm : X.mg "isinstance" = none) (hS : X.mg S = none) (hT : X.mg T = none) (hvS : bootBuiltins S = some (.type NS)) (hvT : bootBuiltins T = some (.type NT))
    (h : WE X A e ρ n fun n ρ d => ∃ t c c', tyD d = some t ∧ kitB t NS = some c ∧ kitB t NT = some c' ∧ k n ρ (.bl (c || c'))) (hg : Gl X "isinstance" := by rfl) (hgS : Gl X S := by rfl) (hgT : Gl X T := by rfl) (hnS : S ≠ "__name__" := by decide) (hdS : (S == ("__debug__" : Str)) = false := by decide) (hnT : T ≠ "__name__" := by decide) (hdT : (T == ("__debug__" : Str)) = false := by decide)
    (he : starEach [e, .Tuple [.Name S pS, .Name T pT] kk tpos] X.env = (false, eval e X.env) :: starEach [.Tuple [.Name S pS, .Name T pT] kk tpos] X.env := by rfl)
    (he2 : starEach [.Tuple [.Name S pS, .Name T pT] kk tpos] X.env = (false, eval (.Tuple [.Name S pS, .Name T pT] kk tpos) X.env) :: starEach [] X.env := by rfl) (hpl : (backTo pos (starEach [.Tuple [.Name S pS, .Name T pT] kk tpos] X.env)).any (·.1) = false := by rfl)
    (he3 : starEach [.Name S pS, .Name T pT] X.env = (false, eval (.Name S pS) X.env) :: starEach [.Name T pT] X.env := by rfl) (he4 : starEach [.Name T pT] X.env = (false, eval (.Name T pT) X.env) :: starEach [] X.env := by rfl) :
    WE X A (.Call (.Name "isinstance" p) [e, .Tuple [.Name S pS, .Name T pT] kk tpos] [] pos) ρ n k := by
  intro ρ0 H0 σ H hh Q q
  refine canE.of (pe_callB call_isiT hg hm boot_isinstance (pa_cons pcan (pa_cons (pe_tup (pa_cons (pe_bltn (v := .ty NS) hgS hS hvS rfl hnS hdS) (pa_cons (pe_bltn (v := .ty NT) hgT hT hvT rfl hnT hdT) pa_nil he4) he3)) pa_nil he2) he) (by decide) (by decide) he hpl) ?_
  refine h ρ0 H0 σ H hh _ fun n1 ρ1 d v H1 h1 hh1 k1 r1 => ?_
  obtain ⟨t, c, c', e1, e2, e3, h1⟩ := h1
  refine ⟨sz_le (Nat.le_of_ble_eq_true rfl), fun tp htp => ?_⟩
  refine ⟨v, tp, [.ty NS, .ty NT], .type t, [.type NS, .type NT], c || c', rfl, upd_same, .cons (.ty _) (.cons (.ty _) .nil), (r1.alloc htp).ty e1, ?_, q n1 ρ1 _ _ _ h1 (hh1.alloc htp) (k1.trans (.alloc htp)) (.bl _)⟩
  refine kitAny_cons (kit_ty e2) (fun hc => ?_) (fun hc => by rw [hc]; rfl)
  refine kitAny_cons (kit_ty e3) (fun hc' => by rw [hc, hc']; rfl) (fun hc' => by rw [hc']; simp)
end
section
variable {K : PySem.W.Frag} {A : Amb} {ρ : En} {x : D} {k : D → Prop}
/-- tuple(list) -/
theorem cd_tupL {ds : List D} (h : k (.tup ds)) : CallD K A (fun xs H Q => ∃ p ys, xs = [.ref p] ∧ ((SqL K H p ys ∧ ∀ l, H l = none → Q (.ref l) (upd H l (.tup ys))) ∨ (SqT K H p ys ∧ Q (.ref p) H))) ρ [.lst ds] k := by
  intro n σ ρ0 H0 H vs Q hh r q
  cases r with
  | cons r1 r2 =>
    cases r2
    cases r1 with
    | lst m e ra => exact ⟨_, _, rfl, .inl ⟨.of e, fun l hl => q _ _ _ h (hh.alloc hl) (.alloc hl) (.tup (.inl ⟨hh.new hl, .inl upd_same⟩) (ra.alloc hl))⟩⟩
theorem cd_tupT {ds : List D} (h : k (.tup ds)) : CallD K A (fun xs H Q => ∃ p ys, xs = [.ref p] ∧ ((SqL K H p ys ∧ ∀ l, H l = none → Q (.ref l) (upd H l (.tup ys))) ∨ (SqT K H p ys ∧ Q (.ref p) H))) ρ [.tup ds] k := by
  intro n σ ρ0 H0 H vs Q hh r q
  cases r with
  | cons r1 r2 =>
    cases r2
    have r0 := r1
    obtain ⟨a, zs, rfl, e, ra⟩ := r1.sqT
    exact ⟨a, zs, rfl, .inr ⟨e, q _ _ H h hh .refl r0⟩⟩
theorem cd_boolB {b : Bool} (h : k (.bl b)) : CallD K A (fun xs H Q => (∃ i, xs = [.int i] ∧ Q (.bl (i != 0)) H) ∨ ∃ k, xs = [.bl k] ∧ Q (.bl k) H) ρ [.bl b] k := by
  intro n σ ρ0 H0 H vs Q hh r q
  cases r with
  | cons r1 r2 =>
    cases r1; cases r2
    exact .inr ⟨b, rfl, q _ _ H h hh .refl (.bl _)⟩
theorem cd_boolI {i : Int} (h : k (.bl (i != 0))) : CallD K A (fun xs H Q => (∃ i, xs = [.int i] ∧ Q (.bl (i != 0)) H) ∨ ∃ k, xs = [.bl k] ∧ Q (.bl k) H) ρ [.int i] k := by
  intro n σ ρ0 H0 H vs Q hh r q
  cases r with
  | cons r1 r2 =>
    cases r1; cases r2
    exact .inl ⟨i, rfl, q _ _ H h hh .refl (.bl _)⟩
theorem bools_of {M : Addr → Prop} {H : Hp} : ∀ {vs : List V} {bs : List Bool}, RepAll K M H vs (bs.map D.bl) → vs = bs.map V.bl
  | _, [], .nil => rfl
  | _, b :: bs, .cons r t => by
    cases r
    rw [bools_of t]; rfl
theorem cd_all {bs : List Bool} (h : k (.bl (bs.all id))) : CallD K A (rAll K) ρ [.lst (bs.map D.bl)] k := by
  intro n σ ρ0 H0 H vs Q hh r q
  cases r with
  | cons r1 r2 =>
    cases r2
    cases r1 with
    | lst m e ra =>
      rw [bools_of ra] at e
      exact ⟨_, bs, rfl, .of e, q _ _ H h hh .refl (.bl _)⟩
theorem cd_any {bs : List Bool} (h : k (.bl (bs.any id))) : CallD K A (rAny K) ρ [.lst (bs.map D.bl)] k := by
  intro n σ ρ0 H0 H vs Q hh r q
  cases r with
  | cons r1 r2 =>
    cases r2
    cases r1 with
    | lst m e ra =>
      rw [bools_of ra] at e
      exact ⟨_, bs, rfl, .of e, q _ _ H h hh .refl (.bl _)⟩
end
section
variable {X : Cx} {A : Amb} {ρ : En} {n : Nat} {e a b : Expr} {elts : List Expr} {kk : Nat} {p pos tpos : Pos} {kl : Nat → En → List D → Prop}
def zipD (xs ys : List D) : List D := List.zipWith (fun x y => .tup [x, y]) xs ys
theorem zipD_get {xs ys : List D} {i : Nat} {d : D} (h : (zipD xs ys)[i]? = some d) : ∃ x y, xs[i]? = some x ∧ ys[i]? = some y ∧ d = .tup [x, y] := by
  unfold zipD at h
  rw [List.getElem?_zipWith] at h
  cases e1 : xs[i]? with
  | none => rw [e1] at h; cases h
  | some x =>
    cases e2 : ys[i]? with
    | none => rw [e1, e2] at h; cases h
    | some y =>
      rw [e1, e2] at h
      exact ⟨x, y, rfl, rfl, (Option.some.inj h).symm⟩
/-- for a, b in zip(x, y): two lists, two tuples -/
theorem wi_zip (hm : X.mg "zip" = none) (h : WA X A [a, b] ρ n fun n ρ ds => ∃ xs ys, (ds = [.lst xs, .lst ys] ∨ ds = [.tup xs, .tup ys]) ∧ kl n ρ (zipD xs ys)) (hg : Gl X "zip" := by rfl)
    (hs : starEach [a, b] X.env = (false, eval a X.env) :: starEach [b] X.env := by rfl) (hpl : (backTo pos (starEach [b] X.env)).any (·.1) = false := by rfl) : WI X A (.Tuple elts kk tpos) (.Call (.Name "zip" p) [a, b] [] pos) ρ n kl := by
  intro ρ0 H0 σ H hh R q
  refine canI.of (RZ.pi_zipA hg hm acan hs hpl) ?_
  refine h ρ0 H0 σ H hh _ fun n1 ρ1 ds vs H1 h1 hh1 k1 r1 => ?_
  obtain ⟨xs, ys, hd, h1⟩ := h1
  have two : ∃ x y, vs = [x, y] := by
    rcases hd with rfl | rfl <;> exact two_of r1.length
  obtain ⟨vx, vy, rfl⟩ := two
  have last : ∀ {vxs vys : List V} {M' : Addr → Prop} {H' H'' : Hp} {i : Nat} {d : D} {T : Addr} {x y : V}, RepAll X.K M' H' vxs xs → RepAll X.K M' H' vys ys → (zipD xs ys)[i]? = some d → H' T = none → H'' = upd H' T (.tup [x, y]) → vxs[i]? = some x → vys[i]? = some y → (∀ T, H' T = none → ¬ M' T) → (H'' = H' ∨ ∃ T o, H' T = none ∧ H'' = upd H' T o) ∧ Rep X.K M' H'' (.ref T) d := by
    intro vxs vys M' H' H'' i d T x y rx ry hdd hT e1 gx gy hn
    subst e1
    obtain ⟨dx, dy, g1, g2, rfl⟩ := zipD_get hdd
    obtain ⟨v1, z1, w1⟩ := rx.get g1
    obtain ⟨v2, z2, w2⟩ := ry.get g2
    rw [gx] at z1; rw [gy] at z2
    cases z1; cases z2
    exact ⟨.inr ⟨T, _, hT, rfl⟩, .tup (.inl ⟨hn T hT, .inl upd_same⟩) (.cons (w1.alloc hT) (.cons (w2.alloc hT) .nil))⟩
  have hlen : (zipD xs ys).length = min xs.length ys.length := by unfold zipD; rw [List.length_zipWith]
  rcases hd with rfl | rfl
  · obtain ⟨ra, rb⟩ : Rep X.K (Mt A ρ1) H1 vx (.lst xs) ∧ Rep X.K (Mt A ρ1) H1 vy (.lst ys) := by
      cases r1 with
      | cons r1 r2 => cases r2 with
        | cons r2 r3 => exact ⟨r1, r2⟩
    cases ra with
    | @lst pa vxs _ ma ea rra =>
      cases rb with
      | @lst pb vys _ mb eb rrb =>
        refine ⟨pa, pb, vxs, vys, rfl, .inl ⟨.of ea, .of eb, q n1 ρ1 _ _ H1 h1 hh1 k1 ?_⟩⟩
        intro M' H' up
        have la := (up pa _ ma ea).1
        have lb := (up pb _ mb eb).1
        have l1 := rra.length
        have l2 := rrb.length
        refine ⟨fun i hi => ⟨vxs, vys, vxs[i]'(by omega), vys[i]'(by omega), .of la, .of lb, List.getElem?_eq_getElem _, List.getElem?_eq_getElem _⟩, ⟨vxs, vys, .of la, .of lb, by omega⟩, fun i d x H'' hdd y hn => ?_⟩
        obtain ⟨T, x1, y1, rfl, hT, e1, gx, gy⟩ := y
        exact last (RepAll.mono up _ rra) (RepAll.mono up _ rrb) hdd hT e1 (gx _ (.of la)) (gy _ (.of lb)) hn
  · obtain ⟨ra, rb⟩ : Rep X.K (Mt A ρ1) H1 vx (.tup xs) ∧ Rep X.K (Mt A ρ1) H1 vy (.tup ys) := by
      cases r1 with
      | cons r1 r2 => cases r2 with
        | cons r2 r3 => exact ⟨r1, r2⟩
    cases ra with
    | @tup pa vxs _ qa rra =>
      cases rb with
      | @tup pb vys _ qb rrb =>
        have sq : ∀ {pp : Addr} {zs : List V} {M' : Addr → Prop} {H' : Hp}, (∀ a o, ¬ Mt A ρ1 a → H1 a = some o → H' a = some o ∧ ¬ M' a) → ((¬ Mt A ρ1 pp ∧ Rd H1 pp (.tup zs)) ∨ KT X.K pp zs) → SqT X.K H' pp zs := fun {pp zs M' H'} up z => by
          rcases z with ⟨m, z⟩ | z
          · exact .inl (rd_mono up m z).2
          · exact .inr z
        refine ⟨pa, pb, vxs, vys, rfl, .inr ⟨sq (M' := Mt A ρ1) (fun a o m e => ⟨e, m⟩) qa, sq (M' := Mt A ρ1) (fun a o m e => ⟨e, m⟩) qb, q n1 ρ1 _ _ H1 h1 hh1 k1 ?_⟩⟩
        intro M' H' up
        have la := sq up qa
        have lb := sq up qb
        have l1 := rra.length
        have l2 := rrb.length
        refine ⟨fun i hi => ⟨vxs, vys, vxs[i]'(by omega), vys[i]'(by omega), la, lb, List.getElem?_eq_getElem _, List.getElem?_eq_getElem _⟩, ⟨vxs, vys, la, lb, by omega⟩, fun i d x H'' hdd y hn => ?_⟩
        obtain ⟨T, x1, y1, rfl, hT, e1, gx, gy⟩ := y
        exact last (RepAll.mono up _ rra) (RepAll.mono up _ rrb) hdd hT e1 (gx _ la) (gy _ lb) hn
end
end RD

/-! RD12: repr of data with dicts in it. -/
namespace RD
open PySem PySem.Spec PyProof.Rows L2
mutual
/-- no object, nothing raw within -/
def plk : D → Bool
  | .lst xs => plks xs
  | .tup xs => plks xs
  | .dct kvs => plkv kvs
  | .obj _ _ => false
  | .raw _ => false
  | _ => true
def plks : List D → Bool
  | [] => true
  | x :: xs => plk x && plks xs
def plkv : List (Key × D) → Bool
  | [] => true
  | (_, x) :: xs => plk x && plkv xs
end
theorem pyk_keys : ∀ kvs : List (Key × D), (pyk kvs).map (·.1) = kvs.map fun q => match q.1 with
    | .inl i => PyData.int i
    | .inr s => PyData.str s
  | [] => rfl
  | (.inl i, x) :: r => by simp only [pyk, List.map_cons, pyk_keys r]
  | (.inr s, x) :: r => by simp only [pyk, List.map_cons, pyk_keys r]
theorem pyk_vals : ∀ kvs : List (Key × D), (pyk kvs).map (·.2) = pys (kvs.map (·.2))
  | [] => rfl
  | (.inl i, x) :: r => by simp only [pyk, List.map_cons, pys, pyk_vals r]
  | (.inr s, x) :: r => by simp only [pyk, List.map_cons, pys, pyk_vals r]
theorem plkv_vals : ∀ kvs : List (Key × D), plkv kvs = true → plks (kvs.map (·.2)) = true
  | [], _ => rfl
  | (_, x) :: r, h => by
    have h' : plk x = true ∧ plkv r = true := by simpa [plkv] using h
    simp only [List.map_cons, plks, h'.1, plkv_vals r h'.2, Bool.and_self]
theorem repKV_vals {K : PySem.W.Frag} {M : Addr → Prop} {H : Hp} : ∀ {xs : List (Key × V)} {ds : List (Key × D)}, RepKV K M H xs ds → RepAll K M H (xs.map (·.2)) (ds.map (·.2)) ∧ xs.map (·.1) = ds.map (·.1)
  | _, _, .nil => ⟨.nil, rfl⟩
  | _, _, .cons r t => ⟨.cons r (repKV_vals t).1, by simp only [List.map_cons, (repKV_vals t).2]⟩
section
variable {X : Cx} {pins : List (Addr × Obj)} {σ : L2.St} {H : Hp} {s : Shared} {M : Addr → Prop}
/-- the keys of a dict -/
theorem keys_read {prog : Program} {w : World} {h : Heap} : ∀ {es : List DictEntry} {vs : List (Key × Value)} {ks : List Key}, Pairs (mixKind prog w) es vs → vs.map (·.1) = ks →
    ∃ as, ReadsAll h (es.map (·.key)) (ks.map fun k => match k with
      | .inl i => PyData.int i
      | .inr z => PyData.str z) as ∧ ((PyData.showableAll (ks.map fun k => match k with
      | .inl i => PyData.int i
      | .inr z => PyData.str z) = true) → (∀ t ∈ PyData.shownAll (ks.map fun k => match k with
      | .inl i => PyData.int i
      | .inr z => PyData.str z), t.length ≤ sizeLine) → ReprAllK prog w [] h (PyData.depthAll (ks.map fun k => match k with
      | .inl i => PyData.int i
      | .inr z => PyData.str z)) (es.map (·.key)) (PyData.shownAll (ks.map fun k => match k with
      | .inl i => PyData.int i
      | .inr z => PyData.str z)))
  | _, _, [], .nil, _ => ⟨[], .nil, fun _ _ => by simp only [List.map_nil, PyData.shownAll]; exact .nil⟩
  | _, _, _ :: _, .nil, e => by cases e
  | _, _, [], .cons _ _ _, e => by cases e
  | _, _, k :: ks, .cons (e := en) (kv := kv) h1 h2 t, e => by
    simp only [List.map_cons, List.cons.injEq] at e
    obtain ⟨e1, e2⟩ := e
    obtain ⟨as, r1, r2⟩ := keys_read t e2
    subst e1
    rcases keyIs_shape (show keyIs kv.1 en.key = true from h1) with ⟨i, tk, e3, e4⟩ | ⟨z, tk, e3, e4⟩
    · refine ⟨[] ++ as, ?_, fun hs hz => ?_⟩
      · simp only [List.map_cons, e3, e4]
        exact .cons (.int i tk) r1
      · have hs' : PyData.showable (.int i) = true ∧ PyData.showableAll (ks.map fun k => match k with
            | .inl i => PyData.int i
            | .inr z => PyData.str z) = true := by simpa only [List.map_cons, e3, PyData.showableAll, Bool.and_eq_true] using hs
        have r3 := r2 hs'.2 fun t ht => hz t (by simp only [List.map_cons, PyData.shownAll]; exact List.mem_cons_of_mem _ ht)
        simp only [List.map_cons, e3, e4, PyData.shownAll, PyData.depthAll]
        refine .cons ?_ (r3.more_le (fun _ q => q) (Nat.le_max_right _ _))
        simp only [PyData.shown]
        exact .of_is (ReprIs.int tk (by simpa [PyData.showable] using hs'.1)) _ _ _
    · refine ⟨[] ++ as, ?_, fun hs hz => ?_⟩
      · simp only [List.map_cons, e3, e4]
        exact .cons (.str z tk) r1
      · have hs' : PyData.showable (.str z) = true ∧ PyData.showableAll (ks.map fun k => match k with
            | .inl i => PyData.int i
            | .inr z => PyData.str z) = true := by simpa only [List.map_cons, e3, PyData.showableAll, Bool.and_eq_true] using hs
        have r3 := r2 hs'.2 fun t ht => hz t (by simp only [List.map_cons, PyData.shownAll]; exact List.mem_cons_of_mem _ ht)
        have hz0 := hz (PyData.shown (.str z)) (by simp only [List.map_cons, e3, PyData.shownAll]; exact List.mem_cons_self ..)
        simp only [List.map_cons, e3, e4, PyData.shownAll, PyData.depthAll]
        refine .cons ?_ (r3.more_le (fun _ q => q) (Nat.le_max_right _ _))
        simp only [PyData.shown] at hz0 ⊢
        exact .of_is (ReprIs.str z tk hz0) _ _ _
theorem vals_of_pairs {prog : Program} {w : World} : ∀ {es : List DictEntry} {vs : List (Key × Value)} {kvs : List (Key × V)}, Pairs (mixKind prog w) es vs → KV kvs vs → Vals (kvs.map (·.2)) (es.map (·.val)) ∧ vs.map (·.1) = kvs.map (·.1)
  | _, _, _, .nil, .nil => ⟨.nil, rfl⟩
  | _, _, _, .cons h1 h2 t, .cons r rs => by
    obtain ⟨q1, q2⟩ := vals_of_pairs t rs
    refine ⟨.cons (by show L2.RelV _ (DictEntry.val _); rw [h2]; exact r.2) q1, ?_⟩
    simp only [List.map_cons, q2, r.1]
mutual
theorem repr_core (I : Inv X pins σ H s) : ∀ (d : D) {v : V} {u : Value}, plk d = true → Rep X.K M H v d → RelV v u → ∃ as, Reads s.heap u (py d) as ∧
    ((py d).showable = true → (py d).shown.length ≤ sizeLine → ∃ bs, ReadAtMost s.heap (py d).depth bs ∧ ReprK X.prog X.w bs s.heap (py d).depth u (py d).shown)
  | .non, _, _, _, r, z => by
    cases r; cases z
    exact ⟨_, Reads.none, fun _ _ => ⟨[], (fun _ h => nomatch h), by simp only [py, PyData.shown]; exact .of_is ReprIs.none _ _ _⟩⟩
  | .bl b, _, _, _, r, z => by
    cases r; cases z
    exact ⟨_, Reads.bool b, fun _ _ => ⟨[], (fun _ h => nomatch h), by simp only [py, PyData.shown]; exact .of_is (ReprIs.bool b) _ _ _⟩⟩
  | .int i, _, _, _, r, z => by
    cases r
    obtain ⟨t, rfl⟩ := z
    exact ⟨_, Reads.int i t, fun hs _ => ⟨[], (fun _ h => nomatch h), by simp only [py, PyData.shown]; exact .of_is (ReprIs.int t (by simpa [py, PyData.showable] using hs)) _ _ _⟩⟩
  | .str x, _, _, _, r, z => by
    cases r
    obtain ⟨t, rfl⟩ := z
    exact ⟨_, Reads.str x t, fun _ hz => ⟨[], (fun _ h => nomatch h), by simp only [py, PyData.shown] at hz ⊢; exact .of_is (ReprIs.str x t hz) _ _ _⟩⟩
  | .lst ds, _, _, hp, r, z => by
    cases r with
    | lst m q ra =>
      cases z
      obtain ⟨its, rv, ⟨o, n, ho, hc, _, hd⟩, _⟩ := I.list (.of q)
      obtain ⟨as, r4, kk⟩ := repr_all I ds hp ra rv
      have rr : Reads s.heap (.ref _) (.list (pys ds)) _ := Reads.list ho hc hd r4
      refine ⟨_, rr, fun hs hz => ?_⟩
      have hz' : (listText (PyData.shownAll (pys ds))).length ≤ sizeLine := by simpa only [py, PyData.shown] using hz
      obtain ⟨bs, hb, hk⟩ := kk (by simpa [py, PyData.showable] using hs) fun t ht => Nat.le_trans (listText_mem_le ht) hz'
      have hna := not_mem_of_deeper rr (n := PyData.depthAll (pys ds)) (Nat.lt_succ_self _) hb
      refine ⟨_ :: bs, ReadAtMost.cons rr (Nat.le_succ _) hb, ?_⟩
      simp only [py, PyData.depth, PyData.shown]
      cases its with
      | nil =>
        have hds : ds = [] := by
          cases rv
          cases ra
          rfl
        rw [hds]
        simp only [pys, PyData.shownAll, listText_nil]
        exact ReprK.listEmpty ho hc hd
      | cons x l => exact ReprK.list ho hc hd hna (by simpa using hk.length_eq) (fun i y e => hk.item i y (by simpa using e))
  | .tup ds, _, _, hp, r, z => by
    obtain ⟨a, vs, rfl, q, ra⟩ := r.sqT
    cases z
    obtain ⟨its, rv, ⟨o, ho, hc, n, hd⟩, _⟩ := I.tuple q
    obtain ⟨as, r4, kk⟩ := repr_all I ds hp ra rv
    have rr : Reads s.heap (.ref a) (.tuple (pys ds)) _ := Reads.tuple ho hc hd r4
    refine ⟨_, rr, fun hs hz => ?_⟩
    have hz' : (tupleText (PyData.shownAll (pys ds))).length ≤ sizeLine := by simpa only [py, PyData.shown] using hz
    obtain ⟨bs, hb, hk⟩ := kk (by simpa [py, PyData.showable] using hs) fun t ht => Nat.le_trans (tupleText_mem_le ht) hz'
    have hna := not_mem_of_deeper rr (n := PyData.depthAll (pys ds)) (Nat.lt_succ_self _) hb
    refine ⟨a :: bs, ReadAtMost.cons rr (Nat.le_succ _) hb, ?_⟩
    simp only [py, PyData.depth, PyData.shown]
    exact ReprK.tuple ho hc hd hna hk
  | .dct kvs, _, _, hp, r, z => by
    cases r with
    | @dct a xs _ m q ra =>
      cases z
      obtain ⟨_, hsys, vs, rel, o, es, ep, ho, hx, hd, _, pr, _⟩ := I.hok a _ q
      obtain ⟨rv, ek⟩ := vals_of_pairs pr rel
      obtain ⟨rw1, rk⟩ := repKV_vals ra
      have ev : kvs.map (·.2) = kvs.map (·.2) := rfl
      obtain ⟨as, r5, kk⟩ := repr_vals I kvs hp rw1 rv
      obtain ⟨as1, r4, k1⟩ := keys_read (h := s.heap) pr (ek.trans rk)
      have e1 : (pyk kvs).map (·.1) = (kvs.map (·.1)).map fun k => match k with
          | .inl i => PyData.int i
          | .inr z => PyData.str z := by rw [pyk_keys, List.map_map]; rfl
      have rr : Reads s.heap (.ref a) (.dict (pyk kvs)) _ := Reads.dict ho hx.1 hd (by rw [e1]; exact r4) (by rw [pyk_vals]; exact r5)
      refine ⟨_, rr, fun hs hz => ?_⟩
      have hz' : (dictText (PyData.shownKv (pyk kvs))).length ≤ sizeLine := by simpa only [py, PyData.shown] using hz
      obtain ⟨hs1, hs2⟩ := PyData.showableKv_split (pyk kvs) (by simpa [py, PyData.showable] using hs)
      have keys := k1 (by rw [← e1]; exact hs1) fun t ht => by
        obtain ⟨p, hp1, hl⟩ := PyData.shownKv_key_le (pyk kvs) t (by rw [e1]; exact ht)
        exact Nat.le_trans hl (Nat.le_trans (dictText_mem_le hp1) hz')
      rw [← e1] at keys
      rw [pyk_vals] at hs2
      obtain ⟨b2, hb2, vals⟩ := kk hs2 fun t ht => by
        obtain ⟨p, hp1, hl⟩ := PyData.shownKv_val_le (pyk kvs) t (by rw [pyk_vals]; exact ht)
        exact Nat.le_trans hl (Nat.le_trans (dictText_mem_le hp1) hz')
      rw [← pyk_vals] at vals hb2
      have hb : ReadAtMost s.heap (PyData.depthKv (pyk kvs)) b2 := hb2.mono (PyData.depthAll_vals_le _)
      have hna := not_mem_of_deeper rr (n := PyData.depthKv (pyk kvs)) (Nat.lt_succ_self _) hb
      refine ⟨a :: b2, ReadAtMost.cons rr (Nat.le_succ _) hb, ?_⟩
      simp only [py, PyData.depth, PyData.shown, PyData.shownKv_eq]
      exact ReprK.dict ho hx.1 hd hsys hna (ReprEntriesK.of_two es.toList _ _ (keys.more_le (fun b hb => by simp at hb) (PyData.depthAll_keys_le _)) (vals.more_le (fun b hb => hb) (PyData.depthAll_vals_le _)))
  | .obj _ _, _, _, hp, _, _ => by simp [plk] at hp
  | .raw _, _, _, hp, _, _ => by simp [plk] at hp
theorem repr_all (I : Inv X pins σ H s) : ∀ (ds : List D) {vs : List V} {us : List Value}, plks ds = true → RepAll X.K M H vs ds → Vals vs us → ∃ as, ReadsAll s.heap us (pys ds) as ∧
    (PyData.showableAll (pys ds) = true → (∀ t ∈ PyData.shownAll (pys ds), t.length ≤ sizeLine) → ∃ bs, ReadAtMost s.heap (PyData.depthAll (pys ds)) bs ∧ ReprAllK X.prog X.w bs s.heap (PyData.depthAll (pys ds)) us (PyData.shownAll (pys ds)))
  | [], _, _, _, r, z => by
    cases r; cases z
    exact ⟨_, ReadsAll.nil, fun _ _ => ⟨[], (fun _ h => nomatch h), by simp only [pys, PyData.shownAll]; exact .nil⟩⟩
  | d :: ds, _, _, hp, r, z => by
    have hp' : plk d = true ∧ plks ds = true := by simpa [plks] using hp
    cases r with
    | cons r1 r2 =>
      cases z with
      | cons z1 z2 =>
        obtain ⟨as, q1, f1⟩ := repr_core I d hp'.1 r1 z1
        obtain ⟨bs, q2, f2⟩ := repr_all I ds hp'.2 r2 z2
        refine ⟨_, ReadsAll.cons q1 q2, fun hs hz => ?_⟩
        have hs' : (py d).showable = true ∧ PyData.showableAll (pys ds) = true := by simpa [pys, PyData.showableAll] using hs
        obtain ⟨b1, h1, k1⟩ := f1 hs'.1 (hz _ (by simp only [pys, PyData.shownAll]; exact List.mem_cons_self ..))
        obtain ⟨b2, h2, k2⟩ := f2 hs'.2 fun t ht => hz t (by simp only [pys, PyData.shownAll]; exact List.mem_cons_of_mem _ ht)
        refine ⟨b1 ++ b2, (h1.mono (by simp only [pys, PyData.depthAll]; exact Nat.le_max_left _ _)).append (h2.mono (by simp only [pys, PyData.depthAll]; exact Nat.le_max_right _ _)), ?_⟩
        simp only [pys, PyData.depthAll, PyData.shownAll]
        exact .cons ((k1.more fun b hb => List.mem_append_left _ hb).level_le (Nat.le_max_left _ _)) (k2.more_le (fun b hb => List.mem_append_right _ hb) (Nat.le_max_right _ _))
theorem repr_vals (I : Inv X pins σ H s) : ∀ (kvs : List (Key × D)) {vs : List V} {us : List Value}, plkv kvs = true → RepAll X.K M H vs (kvs.map (·.2)) → Vals vs us → ∃ as, ReadsAll s.heap us (pys (kvs.map (·.2))) as ∧
    (PyData.showableAll (pys (kvs.map (·.2))) = true → (∀ t ∈ PyData.shownAll (pys (kvs.map (·.2))), t.length ≤ sizeLine) → ∃ bs, ReadAtMost s.heap (PyData.depthAll (pys (kvs.map (·.2)))) bs ∧ ReprAllK X.prog X.w bs s.heap (PyData.depthAll (pys (kvs.map (·.2)))) us (PyData.shownAll (pys (kvs.map (·.2)))))
  | [], _, _, _, r, z => by
    cases r; cases z
    exact ⟨_, ReadsAll.nil, fun _ _ => ⟨[], (fun _ h => nomatch h), by simp only [List.map_nil, pys, PyData.shownAll]; exact .nil⟩⟩
  | (_, d) :: ds, _, _, hp, r, z => by
    have hp' : plk d = true ∧ plkv ds = true := by simpa [plkv] using hp
    cases r with
    | cons r1 r2 =>
      cases z with
      | cons z1 z2 =>
        obtain ⟨as, q1, f1⟩ := repr_core I d hp'.1 r1 z1
        obtain ⟨bs, q2, f2⟩ := repr_vals I ds hp'.2 r2 z2
        refine ⟨_, ReadsAll.cons q1 q2, fun hs hz => ?_⟩
        have hs' : (py d).showable = true ∧ PyData.showableAll (pys (ds.map (·.2))) = true := by simpa [pys, PyData.showableAll] using hs
        obtain ⟨b1, h1, k1⟩ := f1 hs'.1 (hz _ (by simp only [List.map_cons, pys, PyData.shownAll]; exact List.mem_cons_self ..))
        obtain ⟨b2, h2, k2⟩ := f2 hs'.2 fun t ht => hz t (by simp only [List.map_cons, pys, PyData.shownAll]; exact List.mem_cons_of_mem _ ht)
        refine ⟨b1 ++ b2, (h1.mono (by simp only [List.map_cons, pys, PyData.depthAll]; exact Nat.le_max_left _ _)).append (h2.mono (by simp only [List.map_cons, pys, PyData.depthAll]; exact Nat.le_max_right _ _)), ?_⟩
        simp only [List.map_cons, pys, PyData.depthAll, PyData.shownAll]
        exact .cons ((k1.more fun b hb => List.mem_append_left _ hb).level_le (Nat.le_max_left _ _)) (k2.more_le (fun b hb => List.mem_append_right _ hb) (Nat.le_max_right _ _))
end
end
end RD
namespace RD
open PySem PySem.Spec PyProof.Rows L2
/-- repr of a datum -/
def rReprP (K : PySem.W.Frag) : List V → Hp → VK → Prop := fun xs H Q => ∃ x d M, xs = [x] ∧ Rep K M H x d ∧ plk d = true ∧ tyD d ≠ some "dict" ∧ (py d).showable = true ∧ (py d).depth ≤ 60 ∧ (py d).shown.length ≤ sizeLine ∧ Q (.str (py d).shown) H
theorem call_reprP {X : Cx} (rm : Rm 0 X.A) : CallR X (.builtin "repr") (rReprP X.K) := by
  intro pins s σ H xs us Q I r h
  obtain ⟨x, d, M, rfl, hd, hp, hk, hs, hdep, hz, q⟩ := h
  obtain ⟨u, rfl, rx⟩ := vals1 r
  have un := rm.r.units
  cases d with
  | non =>
    cases hd; cases rx
    exact PySem.P.repr_of_none ⟨.str _, H, I.tok _, ⟨s.toks, by simp only [py, PyData.shown]⟩, q⟩
  | bl b =>
    cases hd; cases rx
    exact PySem.P.repr_of_bool ⟨.str _, H, I.tok _, ⟨s.toks, by simp only [py, PyData.shown]⟩, q⟩
  | int i =>
    cases hd
    obtain ⟨t, rfl⟩ := rx
    exact PySem.P.repr_of_int (by simpa [py, PyData.showable] using hs) ⟨.str _, H, I.tok _, ⟨s.toks, by simp only [py, PyData.shown]⟩, q⟩
  | str z =>
    cases hd
    obtain ⟨t, rfl⟩ := rx
    exact PySem.P.repr_of_str ⟨.str _, H, I.tok _, ⟨s.toks, by simp only [py, PyData.shown]⟩, q⟩ (by simpa only [py, PyData.shown] using hz)
  | lst ds =>
    cases hd with
    | @lst a vs _ m e ra =>
      cases rx
      obtain ⟨its, rv, ⟨o, n, ho, hc, _, hdat⟩, _⟩ := I.list (.of e)
      obtain ⟨as, r4, kk⟩ := repr_all I ds hp ra rv
      have hz' : (listText (PyData.shownAll (pys ds))).length ≤ sizeLine := by simpa only [py, PyData.shown] using hz
      obtain ⟨bs, hb, hkk⟩ := kk (by simpa [py, PyData.showable] using hs) fun t ht => Nat.le_trans (listText_mem_le ht) hz'
      have hna := not_mem_of_deeper (Reads.list ho hc hdat r4) (n := PyData.depthAll (pys ds)) (Nat.lt_succ_self _) hb
      have hdp : PyData.depthAll (pys ds) + 1 ≤ 60 := hdep
      refine PySem.call_repr_slot (by omega) ⟨o, ho, hc⟩ PySem.F.slot_list_repr.toG ?_
      cases its with
      | nil =>
        have hds : ds = [] := by
          cases rv
          cases ra
          rfl
        subst hds
        exact PySem.call_list_repr_empty ⟨o, ho, hc⟩ ho hdat ⟨_, _, rfl, .str _, H, I.tok _, ⟨s.toks, by simp only [py, pys, PyData.shown, PyData.shownAll, listText_nil]⟩, q⟩
      | cons y l =>
        refine PySem.call_list_reprK ho hc hdat hna (by simpa using hkk.length_eq) (fun i y e => hkk.item i y (by simpa using e)) rm.g (fun b _ => Clear.nil b) (by show X.A.units + 1 + _ < cLine; omega) (fun _ _ e => e) (fun h' u tk kp => ⟨_, _, rfl, .str _, H, I.kept kp, ⟨u, rfl⟩, q⟩) hz'
  | tup ds =>
    obtain ⟨a, vs, rfl, e, ra⟩ := hd.sqT
    cases rx
    obtain ⟨its, rv, ⟨o, ho, hc, n, hdat⟩, _⟩ := I.tuple e
    obtain ⟨as, r4, kk⟩ := repr_all I ds hp ra rv
    have hz' : (tupleText (PyData.shownAll (pys ds))).length ≤ sizeLine := by simpa only [py, PyData.shown] using hz
    obtain ⟨bs, hb, hkk⟩ := kk (by simpa [py, PyData.showable] using hs) fun t ht => Nat.le_trans (tupleText_mem_le ht) hz'
    have hna := not_mem_of_deeper (Reads.tuple ho hc hdat r4) (n := PyData.depthAll (pys ds)) (Nat.lt_succ_self _) hb
    have hdp : PyData.depthAll (pys ds) + 1 ≤ 60 := hdep
    refine PySem.call_repr_slot (by omega) ⟨o, ho, hc⟩ PySem.F.slot_tuple_repr ?_
    exact PySem.call_tuple_reprK ho hc hdat hna hkk rm.g (fun b _ => Clear.nil b) (by show X.A.units + 1 + _ < cLine; omega) (fun _ _ e => e) (fun h' u tk kp => ⟨_, _, rfl, .str _, H, I.kept kp, ⟨u, rfl⟩, q⟩) hz'
  | dct kvs => exact absurd rfl hk
  | obj C fs => cases hp
  | raw v => cases hp
/-- what may be shown: the ints small, the texts well, few levels, not too great; dicts may stand in it -/
structure Shk (e w : Nat) (x : D) : Prop where
  pl : plk x = true
  sb : (py x).showable = true
  dp : (py x).depth ≤ e
  wt : (py x).weight ≤ w
  ls : (py x).leavesShort 121 = true
mutual
theorem plk_of : ∀ d : D, plain d = true → plk d = true
  | .non, _ => rfl
  | .bl _, _ => rfl
  | .int _, _ => rfl
  | .str _, _ => rfl
  | .lst xs, h => plks_of xs h
  | .tup xs, h => plks_of xs h
  | .dct _, h => by simp [plain] at h
  | .obj _ _, h => by simp [plain] at h
  | .raw _, h => by simp [plain] at h
theorem plks_of : ∀ xs : List D, plains xs = true → plks xs = true
  | [], _ => rfl
  | x :: xs, h => by
    have h' : plain x = true ∧ plains xs = true := by simpa [plains] using h
    show (plk x && plks xs) = true
    rw [plk_of x h'.1, plks_of xs h'.2]; rfl
end
theorem Sh.k {e w : Nat} {x : D} (h : Sh e w x) : Shk e w x := ⟨plk_of x h.pl, h.sb, h.dp, h.wt, PyData.leavesShort_of_canLay0 121 _ h.cl h.ls⟩
theorem Shk.mono {e w e' w' : Nat} {x : D} (h : Shk e w x) (h1 : e ≤ e') (h2 : w ≤ w') : Shk e' w' x := ⟨h.pl, h.sb, Nat.le_trans h.dp h1, Nat.le_trans h.wt h2, h.ls⟩
theorem Shk.all {e w : Nat} : ∀ {xs : List D}, (∀ x ∈ xs, Shk e w x) → plks xs = true ∧ PyData.showableAll (pys xs) = true ∧ PyData.depthAll (pys xs) ≤ e ∧ PyData.weightAll (pys xs) ≤ xs.length * (w + 1) ∧ PyData.leavesShortAll 121 (pys xs) = true
  | [], _ => ⟨rfl, rfl, Nat.zero_le _, Nat.zero_le _, rfl⟩
  | x :: xs, h => by
    have h0 := h x (List.mem_cons_self ..)
    obtain ⟨h1, h2, h4, h5, h6⟩ := Shk.all (xs := xs) fun y hy => h y (List.mem_cons_of_mem _ hy)
    refine ⟨?_, ?_, ?_, ?_, ?_⟩
    · show (plk x && plks xs) = true
      rw [h0.pl, h1]; rfl
    · show (PyData.showable (py x) && PyData.showableAll (pys xs)) = true
      rw [h0.sb, h2]; rfl
    · have := h0.dp
      simp only [pys, PyData.depthAll]
      omega
    · have := h0.wt
      simp only [pys, PyData.weightAll, List.length_cons]
      rw [Nat.succ_mul]
      omega
    · show (PyData.leavesShort 121 (py x) && PyData.leavesShortAll 121 (pys xs)) = true
      rw [h0.ls, h6]; rfl
theorem Shk.lst {e w m e' w' : Nat} {xs : List D} (h : ∀ x ∈ xs, Shk e w x) (hm : xs.length ≤ m) (he : e + 1 ≤ e' := by omega) (hw : m * (w + 1) ≤ w' := by omega) : Shk e' w' (.lst xs) := by
  obtain ⟨h1, h2, h4, h5, h6⟩ := Shk.all h
  refine ⟨h1, h2, ?_, Nat.le_trans h5 (Nat.le_trans (Nat.mul_le_mul_right _ hm) hw), h6⟩
  simp only [py, PyData.depth]
  omega
theorem Shk.tup {e w m e' w' : Nat} {xs : List D} (h : ∀ x ∈ xs, Shk e w x) (hm : xs.length ≤ m) (he : e + 1 ≤ e' := by omega) (hw : m * (w + 1) ≤ w' := by omega) : Shk e' w' (.tup xs) := by
  obtain ⟨h1, h2, h4, h5, h6⟩ := Shk.all h
  refine ⟨h1, h2, ?_, Nat.le_trans h5 (Nat.le_trans (Nat.mul_le_mul_right _ hm) hw), h6⟩
  simp only [py, PyData.depth]
  omega
theorem Shk.len {e w : Nat} {x : D} (h : Shk e w x) (hw : w ≤ 100000) : (py x).shown.length ≤ sizeLine := by
  have h1 := PyData.shown_le 121 (by decide) _ h.ls
  have h2 := h.wt
  rw [sizeLine_eq]
  omega
section
variable {K : PySem.W.Frag} {A : Amb} {ρ : En} {x : D} {k : D → Prop}
theorem cd_reprP {e w : Nat} (h : k (.str (rp x))) (hx : Shk e w x) (hk : tyD x ≠ some "dict" := by simp [tyD]) (he : e ≤ 60 := by decide) (hw : w ≤ 100000 := by decide) : CallD K A (rReprP K) ρ [x] k := by
  intro n σ ρ0 H0 H vs Q hh r q
  cases r with
  | cons r1 r2 =>
    cases r2
    exact ⟨_, x, _, rfl, r1, hx.pl, hk, hx.sb, Nat.le_trans hx.dp he, hx.len hw, q _ _ H h hh .refl (.str _)⟩
end
end RD

/-! RD13: == where one of the two is a dict. -/
namespace PySem.SeqAt
open AutoSeq1 (wpAny_loadPart')
open MeetsSeq PySem.Calls
section
variable {prog : Program} {w : World} {M : Model} {A : Around} {E : Value → Shared → Prop} {s : Shared}
theorem tuple_vs_dict (l a : Addr) (items : Array Value) (n : Nat) (dd : Option Addr) (sl : Array (Option Value)) (es : Array DictEntry) (m : Nat) (d2 : Option Addr) (s2 : Array (Option Value)) :
    Meets (Builtin.«tuple.__eq__» ⟨[.ref l, .ref a], []⟩) (fun _ R s => s.heap.get? l = some { cls := .type "tuple", dict := dd, data := .seq items n, slots := sl } ∧ s.heap.get? a = some { cls := .type "dict", dict := d2, data := .dict es m, slots := s2 } ∧ R (.ok (.ret .notImplemented)) s) :=
  .of_wp fun prog w A R s h => by obtain ⟨hp, g, d, tk, os⟩ := s; obtain ⟨hl, ha, h⟩ := h; have f1 := F.sub_dict_tuple; wp_walk using wpAny_loadPart' hl, wpAny_loadPart' ha, wpAny_load ha; exact ⟨_, rfl, h⟩
theorem int_vs_dict (i : Int) (u : Tok) (a : Addr) (es : Array DictEntry) (m : Nat) (d2 : Option Addr) (s2 : Array (Option Value)) :
    Meets (Builtin.«int.__eq__» ⟨[.int i u, .ref a], []⟩) (fun _ R s => s.heap.get? a = some { cls := .type "dict", dict := d2, data := .dict es m, slots := s2 } ∧ R (.ok (.ret .notImplemented)) s) :=
  .of_wp fun prog w A R s h => by obtain ⟨hp, g, d, tk, os⟩ := s; obtain ⟨ha, h⟩ := h; wp_walk using wpAny_loadPart' ha, wpAny_load ha; exact ⟨_, rfl, h⟩
theorem bool_vs_dict (b : Bool) (a : Addr) (es : Array DictEntry) (m : Nat) (d2 : Option Addr) (s2 : Array (Option Value)) :
    Meets (Builtin.«int.__eq__» ⟨[.bool b, .ref a], []⟩) (fun _ R s => s.heap.get? a = some { cls := .type "dict", dict := d2, data := .dict es m, slots := s2 } ∧ R (.ok (.ret .notImplemented)) s) :=
  .of_wp fun prog w A R s h => by obtain ⟨hp, g, d, tk, os⟩ := s; obtain ⟨ha, h⟩ := h; wp_walk using wpAny_loadPart' ha, wpAny_load ha; exact ⟨_, rfl, h⟩
theorem str_vs_dict (x : Str) (u : Tok) (a : Addr) (es : Array DictEntry) (m : Nat) (d2 : Option Addr) (s2 : Array (Option Value)) :
    Meets (Builtin.«str.__eq__» ⟨[.str x u, .ref a], []⟩) (fun _ R s => s.heap.get? a = some { cls := .type "dict", dict := d2, data := .dict es m, slots := s2 } ∧ R (.ok (.ret .notImplemented)) s) :=
  .of_wp fun prog w A R s h => by obtain ⟨hp, g, d, tk, os⟩ := s; obtain ⟨ha, h⟩ := h; wp_walk using wpAny_loadPart' ha, wpAny_load ha; exact ⟨_, rfl, h⟩
theorem dict_vs {a : Addr} {v : Value} {T : String} {Q : Value → Shared → Prop} (ta : s.TypeIs (.ref a) "dict") (tv : s.TypeIs v T) (hs : isSubtype (.type T) (.type "dict") = pure false) (q : Q .notImplemented s) :
    wpAny (model prog w) A (call (.builtin "dict.__eq__") [.ref a, v]) Q E s := by
  refine wpAny_call_entry PySem.F.slot_dict_eq ta PySem.F.entry_dict_eq ?_ (PySem.F.args_dict_eq_2 _ _)
  show wpAny _ _ (Builtin.Dict.dictSlotArgs "__eq__" ⟨[.ref a, v], []⟩ >>= _) _ _ s
  refine wpAny_bind ?_
  unfold Builtin.Dict.dictSlotArgs
  refine wpAny_bind (wpAny_notOrdered_dict ta ?_)
  show wpAny _ _ (pure (Value.ref a, v)) _ _ s
  refine wpAny_pure ?_
  refine wpAny_bind (wpAny_isInstance (T := T) tv hs ?_)
  simp only [Bool.not_false, if_true]
  exact wpAny_bind (wpAny_rule (wpAny_pure ⟨_, rfl, q⟩))
/-- what is no dict, and how it stands in the heap -/
inductive Oth (h : Heap) : Value → String → Prop
  | non : Oth h .none "NoneType"
  | bl (b : Bool) : Oth h (.bool b) "bool"
  | int (i : Int) (t : Tok) : Oth h (.int i t) "int"
  | str (x : Str) (t : Tok) : Oth h (.str x t) "str"
  | tup {l : Addr} {items : Array Value} {n : Nat} {dd : Option Addr} {sl : Array (Option Value)} : h.get? l = some { cls := .type "tuple", dict := dd, data := .seq items n, slots := sl } → Oth h (.ref l) "tuple"
theorem rc_dict_oth {a : Addr} {es : Array DictEntry} {m : Nat} {d2 : Option Addr} {s2 : Array (Option Value)} {v : Value} {T : String} (ha : s.heap.get? a = some { cls := .type "dict", dict := d2, data := .dict es m, slots := s2 }) (o : Oth s.heap v T) (hu : A.units < cLine) :
    RcAt A s (.ref a) v false ∧ RcAt A s v (.ref a) false := by
  have ta : s.TypeIs (.ref a) "dict" := ⟨_, ha, rfl⟩
  cases o with
  | non =>
    exact ⟨fun prog w E Q h => rc_eq_decline_or (k := false) ta rfl (by decide) F.sub_NoneType_dict F.slot_dict_eq F.slot_NoneType_eq_refl (fun _ hq => dict_vs ta rfl F.sub_NoneType_dict hq)
        (fun _ hq => call_gives F.slot_NoneType_eq_refl rfl F.entry_NoneType_eq (F.args_NoneType_eq_2 _ _) (NoneType___eq___none_ref_0 a) hq) (fun _ hq => wpAny_of_eq (rfl : isSame (.ref a) .none = pure false) hq) (.inr hu) h,
      fun prog w E Q h => rc_eq_decline_or (k := false) rfl ta (by decide) F.sub_dict_NoneType F.slot_NoneType_eq F.slot_dict_eq_refl (fun _ hq => call_gives F.slot_NoneType_eq rfl F.entry_NoneType_eq (F.args_NoneType_eq_2 _ _) (NoneType___eq___none_ref_0 a) hq)
        (fun _ hq => dict_vs ta rfl F.sub_NoneType_dict hq) (fun _ hq => wpAny_of_eq (rfl : isSame .none (.ref a) = pure false) hq) (.inr hu) h⟩
  | bl b =>
    exact ⟨fun prog w E Q h => rc_eq_decline_or (k := false) ta rfl (by decide) F.sub_bool_dict F.slot_dict_eq F.slot_bool_eq_refl (fun _ hq => dict_vs ta rfl F.sub_bool_dict hq)
        (fun _ hq => call_meets F.slot_bool_eq_refl rfl F.entry_int_eq (F.args_int_eq_2 _ _) (bool_vs_dict b a es m d2 s2) ⟨ha, hq⟩) (fun _ hq => wpAny_of_eq (rfl : isSame (.ref a) (.bool b) = pure false) hq) (.inr hu) h,
      fun prog w E Q h => rc_eq_decline_or (k := false) rfl ta (by decide) F.sub_dict_bool F.slot_bool_eq F.slot_dict_eq_refl (fun _ hq => call_meets F.slot_bool_eq rfl F.entry_int_eq (F.args_int_eq_2 _ _) (bool_vs_dict b a es m d2 s2) ⟨ha, hq⟩)
        (fun _ hq => dict_vs ta rfl F.sub_bool_dict hq) (fun _ hq => wpAny_of_eq (rfl : isSame (.bool b) (.ref a) = pure false) hq) (.inr hu) h⟩
  | int i t =>
    exact ⟨fun prog w E Q h => rc_eq_decline_or (k := false) ta (typeIs_int s i t) (by decide) F.sub_int_dict F.slot_dict_eq F.slot_int_eq_refl (fun _ hq => dict_vs ta (typeIs_int s i t) F.sub_int_dict hq)
        (fun _ hq => call_meets F.slot_int_eq_refl (typeIs_int s i t) F.entry_int_eq (F.args_int_eq_2 _ _) (int_vs_dict i t a es m d2 s2) ⟨ha, hq⟩) (fun _ hq => wpAny_of_eq (rfl : isSame (.ref a) (.int i t) = pure false) hq) (.inr hu) h,
      fun prog w E Q h => rc_eq_decline_or (k := false) (typeIs_int s i t) ta (by decide) F.sub_dict_int F.slot_int_eq F.slot_dict_eq_refl (fun _ hq => call_meets F.slot_int_eq (typeIs_int s i t) F.entry_int_eq (F.args_int_eq_2 _ _) (int_vs_dict i t a es m d2 s2) ⟨ha, hq⟩)
        (fun _ hq => dict_vs ta (typeIs_int s i t) F.sub_int_dict hq) (fun _ hq => wpAny_of_eq (rfl : isSame (.int i t) (.ref a) = pure false) hq) (.inr hu) h⟩
  | str x t =>
    exact ⟨fun prog w E Q h => rc_eq_decline_or (k := false) ta (typeIs_str s x t) (by decide) F.sub_str_dict F.slot_dict_eq F.slot_str_eq_refl (fun _ hq => dict_vs ta (typeIs_str s x t) F.sub_str_dict hq)
        (fun _ hq => call_meets F.slot_str_eq_refl (typeIs_str s x t) F.entry_str_eq (F.args_str_eq_2 _ _) (str_vs_dict x t a es m d2 s2) ⟨ha, hq⟩) (fun _ hq => wpAny_of_eq (rfl : isSame (.ref a) (.str x t) = pure false) hq) (.inr hu) h,
      fun prog w E Q h => rc_eq_decline_or (k := false) (typeIs_str s x t) ta (by decide) F.sub_dict_str F.slot_str_eq F.slot_dict_eq_refl (fun _ hq => call_meets F.slot_str_eq (typeIs_str s x t) F.entry_str_eq (F.args_str_eq_2 _ _) (str_vs_dict x t a es m d2 s2) ⟨ha, hq⟩)
        (fun _ hq => dict_vs ta (typeIs_str s x t) F.sub_str_dict hq) (fun _ hq => wpAny_of_eq (rfl : isSame (.str x t) (.ref a) = pure false) hq) (.inr hu) h⟩
  | @tup l items n dd sl hl =>
    have tl : s.TypeIs (.ref l) "tuple" := ⟨_, hl, rfl⟩
    have hne : a ≠ l := fun e => by rw [e, hl] at ha; simp at ha
    exact ⟨fun prog w E Q h => rc_eq_decline_or (k := false) ta tl (by decide) F.sub_tuple_dict F.slot_dict_eq F.slot_tuple_eq_refl (fun _ hq => dict_vs ta tl F.sub_tuple_dict hq)
        (fun _ hq => call_meets F.slot_tuple_eq_refl tl F.entry_tuple_eq (F.args_tuple_eq_2 _ _) (tuple_vs_dict l a items n dd sl es m d2 s2) ⟨hl, ha, hq⟩) (fun _ hq => wpAny_isSame_ref_other hne ha hl (by simp) hq) (.inr hu) h,
      fun prog w E Q h => rc_eq_decline_or (k := false) tl ta (by decide) F.sub_dict_tuple F.slot_tuple_eq F.slot_dict_eq_refl (fun _ hq => call_meets F.slot_tuple_eq tl F.entry_tuple_eq (F.args_tuple_eq_2 _ _) (tuple_vs_dict l a items n dd sl es m d2 s2) ⟨hl, ha, hq⟩)
        (fun _ hq => dict_vs ta tl F.sub_tuple_dict hq) (fun _ hq => wpAny_isSame_ref_other' hne.symm hl ha (by simp) hq) (.inr hu) h⟩
end
end PySem.SeqAt
namespace RD
open PySem PySem.Spec PyProof.Rows L2
/-- a dict and something else that is none, either way about -/
def rDictOth (K : PySem.W.Frag) : R2 := fun x y H Q => ∃ (a : Addr) (kvs : List (Key × V)) (z : V), ((x = .ref a ∧ y = z) ∨ (x = z ∧ y = .ref a)) ∧ H a = some (.dK kvs) ∧ (z = .non ∨ (∃ b, z = .bl b) ∨ (∃ i, z = .int i) ∨ (∃ t, z = .str t) ∨ ∃ l xs, z = .ref l ∧ SqT K H l xs) ∧ Q (.bl false) H
theorem op_dictOth {X : Cx} (hu : X.A.units + 64 < cLine) : OpR X (compareOp .Eq) (rDictOth X.K) := by
  intro pins s σ H x y v u Q I rx ry h
  obtain ⟨a, kvs, z, hxy, ha, hz, q⟩ := h
  obtain ⟨_, hsys, vs, rel, ⟨oc, od, dt, sl⟩, es, ep, ho, hx, hd, _, pr, _⟩ := I.hok a _ ha
  have hc : oc = .type "dict" := hx.1
  simp only at hd
  subst hc hd
  have oth : ∀ {uz : Value}, RelV z uz → ∃ T, SeqAt.Oth s.heap uz T := fun {uz} rz => by
    rcases hz with rfl | ⟨b, rfl⟩ | ⟨i, rfl⟩ | ⟨t, rfl⟩ | ⟨l, xs, rfl, hl⟩
    · cases rz; exact ⟨_, .non⟩
    · cases rz; exact ⟨_, .bl b⟩
    · obtain ⟨tk, rfl⟩ := rz; exact ⟨_, .int i tk⟩
    · obtain ⟨tk, rfl⟩ := rz; exact ⟨_, .str t tk⟩
    · cases rz
      obtain ⟨its, rv, ⟨⟨oc2, od2, dt2, sl2⟩, ho2, hc2, n, hd2⟩, _⟩ := I.tuple hl
      simp only at hc2 hd2
      subst hc2 hd2
      exact ⟨_, .tup ho2⟩
  rcases hxy with ⟨rfl, rfl⟩ | ⟨rfl, rfl⟩
  · cases rx
    obtain ⟨T, o⟩ := oth ry
    exact (SeqAt.rc_dict_oth ho o (A := X.A) (by omega)).1 _ _ _ _ ⟨.bl false, H, I, rfl, q⟩
  · cases ry
    obtain ⟨T, o⟩ := oth rx
    exact (SeqAt.rc_dict_oth ho o (A := X.A) (by omega)).2 _ _ _ _ ⟨.bl false, H, I, rfl, q⟩
/-- == of any two data: no dict; two equal dicts; a dict and no dict -/
def rEqK (K : PySem.W.Frag) : R2 := fun x y H Q => rEqD K x y H Q ∨ (rEqV K x y H Q ∨ rDictOth K x y H Q)
theorem op_eqK {X : Cx} (hu : X.A.units + 64 < cLine) : OpR X (compareOp .Eq) (rEqK X.K) := (op_eqD hu).or ((op_eqV hu).or (op_dictOth hu))
section
variable {K : PySem.W.Frag} {M : Addr → Prop} {H : Hp}
mutual
/-- atoms and lists of such -/
def lsD : D → Bool
  | .non => true
  | .bl _ => true
  | .int _ => true
  | .str _ => true
  | .lst xs => lsDs xs
  | _ => false
def lsDs : List D → Bool
  | [] => true
  | x :: xs => lsD x && lsDs xs
end
/-- equal data are equal -/
theorem eqV_refl : ∀ (n : Nat) (d : D) {v u : V}, lsD d = true → (py d).depth < n → Rep K M H v d → Rep K M H u d → EqV K H n v u
  | 0, _, _, _, _, h, _, _ => absurd h (Nat.not_lt_zero _)
  | n + 1, d, v, u, hp, h, r, z => by
    have all : ∀ (ds : List D) {vs us : List V}, lsDs ds = true → PyData.depthAll (pys ds) < n → RepAll K M H vs ds → RepAll K M H us ds → Paired (EqV K H n) vs us := by
      intro ds
      induction ds with
      | nil => intro vs us _ _ a b; cases a; cases b; exact .nil
      | cons x xs ih =>
        intro vs us hp hd a b
        have hp' : lsD x = true ∧ lsDs xs = true := by simpa [lsDs] using hp
        have hd' : (py x).depth < n ∧ PyData.depthAll (pys xs) < n := by
          simp only [pys, PyData.depthAll] at hd
          omega
        cases a with
        | cons a1 a2 => cases b with
          | cons b1 b2 => exact .cons (eqV_refl n x hp'.1 hd'.1 a1 b1) (ih hp'.2 hd'.2 a2 b2)
    cases d with
    | non => cases r; cases z; exact .inl ⟨rfl, rfl⟩
    | bl b => cases r; cases z; exact .inl ⟨rfl, rfl⟩
    | int i => cases r; cases z; exact .inl ⟨rfl, rfl⟩
    | str x => cases r; cases z; exact .inl ⟨rfl, rfl⟩
    | lst ds =>
      cases r with
      | lst m e ra =>
        cases z with
        | lst m' e' ra' =>
          have hd : PyData.depthAll (pys ds) + 1 < n + 1 := h
          exact .inr (.inr (.inl ⟨_, _, _, _, rfl, rfl, .of e, .of e', all ds hp (by omega) ra ra'⟩))
    | tup ds => cases hp
    | dct kvs => cases hp
    | obj C fs => cases hp
    | raw v => cases hp
end
section
variable {K : PySem.W.Frag} {A : Amb} {ρ : En} {x y : D} {k : D → Prop}
/-- a dict of one key and its like -/
theorem od_eqD1 {key : Key} {d : D} (h : k (.bl true)) (hl : lsD d = true) (hd : (py d).depth ≤ 50) : OpD K A (rEqK K) ρ (.dct [(key, d)]) (.dct [(key, d)]) k := by
  intro n σ ρ0 H0 H vx vy Q hh r1 r2 q
  cases r1 with
  | dct m e ra =>
    cases r2 with
    | dct m' e' ra' =>
      cases ra with
      | cons a1 a2 =>
        cases a2
        cases ra' with
        | cons b1 b2 =>
          cases b2
          refine .inr (.inl ⟨51, by decide, .inr ⟨_, _, _, _, rfl, rfl, e, e', rfl, fun p hp => ?_⟩, q _ _ H h hh .refl (.bl _)⟩)
          rw [List.mem_singleton.mp hp]
          exact ⟨_, by simp [valV], eqV_refl 51 d hl (by omega) a1 b1⟩
/-- no dict -/
def othD : D → Bool
  | .non => true
  | .bl _ => true
  | .int _ => true
  | .str _ => true
  | .tup _ => true
  | _ => false
theorem oth_rep {M : Addr → Prop} {H : Hp} {z : V} {d : D} (r : Rep K M H z d) (h : othD d = true) : z = .non ∨ (∃ b, z = .bl b) ∨ (∃ i, z = .int i) ∨ (∃ t, z = .str t) ∨ ∃ l xs, z = .ref l ∧ SqT K H l xs := by
  cases d with
  | non => cases r; exact .inl rfl
  | bl b => cases r; exact .inr (.inl ⟨_, rfl⟩)
  | int i => cases r; exact .inr (.inr (.inl ⟨_, rfl⟩))
  | str x => cases r; exact .inr (.inr (.inr (.inl ⟨_, rfl⟩)))
  | tup ds =>
    obtain ⟨a, vs, rfl, q, ra⟩ := r.sqT
    exact .inr (.inr (.inr (.inr ⟨a, vs, rfl, q⟩)))
  | lst ds => cases h
  | dct kvs => cases h
  | obj C fs => cases h
  | raw v => cases h
theorem od_eqDX {kvs : List (Key × D)} (h : k (.bl false)) (ho : othD y = true) : OpD K A (rEqK K) ρ (.dct kvs) y k := by
  intro n σ ρ0 H0 H vx vy Q hh r1 r2 q
  cases r1 with
  | dct m e ra => exact .inr (.inr ⟨_, _, vy, .inl ⟨rfl, rfl⟩, e, oth_rep r2 ho, q _ _ H h hh .refl (.bl _)⟩)
theorem od_eqXD {kvs : List (Key × D)} (h : k (.bl false)) (ho : othD x = true) : OpD K A (rEqK K) ρ x (.dct kvs) k := by
  intro n σ ρ0 H0 H vx vy Q hh r1 r2 q
  cases r2 with
  | dct m e ra => exact .inr (.inr ⟨_, _, vx, .inr ⟨rfl, rfl⟩, e, oth_rep r1 ho, q _ _ H h hh .refl (.bl _)⟩)
theorem od_eqK {e w e' w' : Nat} (h : k (.bl (eqD x y))) (hx : Sh e w x) (hy : Sh e' w' y) (he : e ≤ 60 := by decide) (he' : e' ≤ 60 := by decide) : OpD K A (rEqK K) ρ x y k := od_or1 (od_eq' h hx hy he he')
end
end RD

/-! RD14: promises of defs where a container may be being shown (no repr in them); objects. -/
namespace RD
open PySem PySem.Spec PyProof.Rows L2
section
variable {P : Program} {w : World} {K : PySem.W.Frag} {mg : Str → Option Value} {base : Heap} {x qual : Str} {params : Arguments} {body : List Stmt} {scope : Scope} {dvs : List V} {kws : List (Str × V)} {f : Addr} {fd : FuncData} {N ps : List Str} {k : Nat}
/-- a def that changes nothing, by its body, where there is room alone -/
theorem fn_pureR {R : List D → (D → Prop) → Prop} (F : FunD K x qual params body scope dvs kws f fd) (S : FnScope N ps scope) (len : ∀ ds kk, R ds kk → ds.length = ps.length)
    (hbody : ∀ (cdv : Value) (A0 : Around) (outer : List Env) (s : Shared) (H : Hp) (E : XK) (A : Amb) (ds : List D) (kk : D → Prop), Room k (A0.deeper (envOfC qual scope s.heap.objs.size f cdv)) → A.pen = none → R ds kk →
      WS (cxOf CX0 P w K mg base N qual scope f cdv A0 outer s H E).nox A body (startD N ds) 0 { nx := fun _ _ => kk .non, rt := fun _ _ d => kk d }) : FnOk P w K mg base CX0 (k + 1) f fd ps (spF K R) := by
  refine F.ok S (fun vs H Q E h => ?_) fun cdv A0 outer s H vs Q E hr h => ?_
  · obtain ⟨W, ds, kk, _, _, r, hR, _⟩ := h
    rw [r.length]
    exact len ds kk hR
  · obtain ⟨W, ds, kk, htr, hnd, r, hR, q⟩ := h
    refine ⟨_, PSs.nox sscan, ?_⟩
    have mt : ∀ a, Mt { W := W, H0 := H, pen := none } (startD N ds) a ↔ a ∈ W := mt_start
    have r' : RepAll K (Mt { W := W, H0 := H, pen := none } (startD N ds)) H vs ds := RepAll.mono (fun a o m e => ⟨e, fun z => m ((mt a).mp z)⟩) ds r
    have fin : ∀ {n : Nat} {ρ : En} {σ : L2.St} {H' : Hp} {v : V} {d : D}, kk d → Here K { W := W, H0 := H, pen := none } (startD N ds) H n ρ σ H' → Rep K (Mt { W := W, H0 := H, pen := none } ρ) H' v d → Q v H' := fun {n ρ σ H' v d} hk hh rr => by
      refine q d v H' hk (fun a o e => (hh.kp a o ?_ (fun z => z) e).1) (Rep.mono (fun a o m e => ⟨e, fun z => m (.inr z)⟩) d rr)
      rw [owns_startD]; simp
    refine hbody cdv A0 outer s H E { W := W, H0 := H, pen := none } ds kk hr rfl hR (startD N ds) H (L2.start N vs) H ⟨.refl, ⟨fun _ _ _ => rfl, htr, trivial⟩, ⟨paired_startD N r', ?_⟩⟩ _ ⟨?_, ?_, ?_, ?_⟩
    · rw [owns_startD]; simpa using hnd
    · intro n ρ σ H' h1 hh
      exact fin h1 hh .non
    · intro n ρ σ H' d v h1 hh rr
      exact fin h1 hh rr
    · intro n ρ σ H' h1 _
      exact h1
    · intro n ρ σ H' h1 _
      exact h1
end
section
variable {X : Cx} {A : Amb} {ρ : En} {n lv : Nat} {e : Expr} {es : List Expr} {x : Str} {p pos : Pos} {f : Addr} {fd : FuncData} {ps : List Str} {R : List D → (D → Prop) → Prop} {k : Nat → En → D → Prop} {dvs : List V} {dds : List D} {us : List Value}
/-- f(e, ..) by such a promise -/
theorem we_callR (F : FnOk X.prog X.w X.K X.mg X.base CX0 lv f fd ps (spF X.K R)) (hr : Room lv X.A) (hm : X.mg x = some (.ref f)) (hk : PySem.W.keepIn X.K (.ref f) = true) (hb : Binds X.K fd ps us) (hd : Vals dvs us) (hdd : ∀ M H, RepAll X.K M H dvs dds)
    (h : WA X A (e :: es) ρ n fun n ρ ds => R (ds ++ dds) (k n ρ)) (hg : Gl X x := by rfl) (hdb : (x == ("__debug__" : Str)) = false := by decide) (he : starEach (e :: es) X.env = (false, eval e X.env) :: starEach es X.env := by rfl) (hpl : (backTo pos (starEach es X.env)).any (·.1) = false := by rfl) :
    WE X A (.Call (.Name x p) (e :: es) [] pos) ρ n k := by
  intro ρ0 H0 σ H hh Q q
  refine canE.of (pe_call F hr hg hm hk hb hd pass0 acan hdb he hpl) ?_
  refine h ρ0 H0 σ H hh _ fun n1 ρ1 ds vs H1 h1 hh1 k1 r1 => ?_
  exact spF_of hh1 (r1.append (hdd _ _)) h1 fun d v H' hk hh' kp rr => q n1 ρ1 d v H' hk hh' (k1.trans kp) rr
end

/-! ### fields -/
section
variable {K : PySem.W.Frag} {M : Addr → Prop} {H : Hp}
theorem repF_get : ∀ {fs : List (Str × V)} {ds : List (Str × D)} {f : Str} {d : D}, RepF K M H fs ds → ds.lookup f = some d → ∃ v, fs.lookup f = some v ∧ Rep K M H v d
  | _, _, f, d, .nil, e => by simp at e
  | _, _, f, d, .cons (k := g) r t, e => by
    rw [List.lookup_cons] at e ⊢
    cases hb : f == g with
    | true => rw [hb] at e; cases e; exact ⟨_, rfl, r⟩
    | false => rw [hb] at e; exact repF_get t e
end
section
variable {X : Cx} {A : Amb} {ρ : En} {n : Nat} {e : Expr} {f : Str} {pos : Pos} {k : Nat → En → D → Prop}
/-- e.f -/
theorem we_fld (h : WE X A e ρ n fun n ρ x => ∃ C fs d, x = .obj C fs ∧ Cls X.K C ∧ NoAttr X.K C f ∧ fs.lookup f = some d ∧ k n ρ d) (hb : attributeBase e f X.env (eval e X.env) = eval e X.env := by rfl) : WE X A (.Attribute e f pos) ρ n k := by
  intro ρ0 H0 σ H hh Q q
  refine canE.of (pe_fld pcan hb) ?_
  refine h ρ0 H0 σ H hh _ fun n1 ρ1 d v H1 h1 hh1 k1 r1 => ?_
  obtain ⟨C, fs, d', rfl, hc, hn, hl, h1⟩ := h1
  cases r1 with
  | @obj a _ dx vs _ m ea ra =>
    obtain ⟨v', e1, r'⟩ := repF_get ra hl
    exact ⟨a, C, dx, vs, v', rfl, ea, hc, hn, e1, q n1 ρ1 _ _ H1 h1 hh1 k1 r'⟩
end
end RD

namespace PySem.W
open PySem PySem.Calls PyProof.Rows Builtin
section
variable {prog : Program} {w : World} {A A₀ : Around} {E : Value → Shared → Prop} {s : Shared} {K : Frag} {x y C C' L f : Addr} {h₀ : Heap} {m : Str → Option Value} {ox oy : Obj} {od od' : Option Obj}
/-- the right one's class is below the left one's: the right one's method is asked first -/
theorem rd_first {op : CmpOp} {Q : Value → Shared → Prop} (hu : A.units < cLine) (X : K.In s.heap) (I : InstAt s.heap x ox C od) (J : InstAt s.heap y oy C' od') (hne : C' ≠ C) (hsub : subIn K (.ref C') (.ref C) = some true)
    (hs : findIn K (.ref C') (cmpInfo op).2.2 = some (some (.ref f))) (hf : isFn K (.ref f) = true)
    (h : wpAny (model prog w) A (call (.ref f) [.ref y, .ref x]) (CmpBack Q) E s) : wpAny (model prog w) A (richCompare op (.ref x) (.ref y)) Q E s := by
  have one : wpAny (model prog w) A (tryCompare (.ref y) (cmpInfo op).2.2 (.ref x)) (fun r s' => ∃ v, r = some v ∧ Q v s') E s := by
    unfold tryCompare
    refine wpAny_bind (ifBound_K X J hs hf (wpAny_mono h (fun v s' hv => ?_) fun _ _ e => e))
    cases v <;> first | exact hv.elim | exact wpAny_pure ⟨_, rfl, hv⟩
  unfold richCompare
  simp only [oneThing_ref]
  refine wpAny_holding (wpAny_bind (wpAny_cRoomFor hu ?_))
  refine wpAny_bind (I.type.here (wpAny_bind (J.type.here ?_)))
  split
  · refine wpAny_bind ((looks_subIn X hsub).here ?_)
    simp only [if_true]
    refine wpAny_bind (wpAny_mono one (fun r s' z => ?_) fun _ _ e => e)
    obtain ⟨v, rfl, hq⟩ := z
    exact wpAny_bind (wpAny_rule (wpAny_pure hq))
  · rename_i q
    exact absurd (by simpa using fun e => hne e.symm) q
theorem rd_neBound {args : List Value} {Q : Option Value → Shared → Prop} {M : Model} (X : K.In s.heap) (I : InstAt s.heap x ox C od) (hs : findIn K (.ref C) "__ne__" = some (some (.builtin "object.__ne__")))
    (h : wpAny M A (call (.builtin "object.__ne__") (.ref x :: args)) (fun v => Q (some v)) E s) : wpAny M A (callSpecialIfBound? (.ref x) "__ne__" args) Q E s := by
  simp only [callSpecialIfBound?, bindSpecialIfBound?]
  refine wpAny_holding (wpAny_bind (wpAny_bind (wpAny_bind (I.type.here ((looks_findIn X hs).here ?_)))))
  refine wpAny_bind (wpAny_askSetting (wpAny_ite ?_))
  have fin : wpAny M A (call (.builtin "object.__ne__") ([.ref x] ++ args) >>= fun v => pure (some v)) Q E s := wpAny_bind (wpAny_mono h (fun v s' h' => wpAny_pure h') fun _ _ h' => h')
  split
  · exact wpAny_bind (wpAny_of_eq (F.cmp_object.ne.bind _) (wpAny_pure (by exact fin)))
  · exact wpAny_tryCatch (wpAny_bind (wpAny_of_eq (F.cmp_object.ne.bind _) (wpAny_pure (by exact fin))))
/-- x != y of two of one class with an own == and no own != -/
theorem rd_ne {Q : Value → Shared → Prop} (hu : A.units + 1 < cLine) (X : K.In s.heap) (I : InstAt s.heap x ox C od) (J : InstAt s.heap y oy C od') (hm : mroIn K C (.type "object") = some true) (hn : findIn K (.ref C) "__ne__" = some (some (.builtin "object.__ne__")))
    (hs : findIn K (.ref C) "__eq__" = some (some (.ref f))) (hf : isFn K (.ref f) = true)
    (h : wpAny (model prog w) A.in1 (call (.ref f) [.ref x, .ref y]) (fun v s' => ∃ b, v = .bool b ∧ Q (.bool (!b)) s') E s) : wpAny (model prog w) A (richCompare .NotEq (.ref x) (.ref y)) Q E s := by
  have entry : ∀ {R : Fin → Shared → Prop}, (∀ b s', Q (.bool (!b)) s' → R (.done (.ret (.bool (!b)))) s') → wpAny (model prog w) A.in1 (Builtin.«object.__ne__» ⟨[.ref x, .ref y], []⟩) R E s := fun {R} hR => by
    unfold Builtin.«object.__ne__»
    repeat (first
      | with_reducible refine wpAny_cRoomFor (show A.in1.units < cLine from hu) ?_
      | (refine wpAny_bind (m := callSpecialIfBound? (.ref x) (Str.ofString "__eq__") [.ref y]) (ifBound_K X I hs hf (wpAny_mono h (fun r s' hr => by
          obtain ⟨b, rfl, hq⟩ := hr
          repeat (first | exact hR b _ hq | exact wpAny_pure (hR b _ hq) | exact wpAny_truthy_bool (hR b _ hq) | (refine wpAny_bind (m := truthy (.bool _)) (wpAny_truthy_bool ?_)) | wp_step)) fun _ _ e => e)))
      | wp_step)
  have one : wpAny (model prog w) A (tryCompare (.ref x) "__ne__" (.ref y)) (fun r s' => ∃ v, r = some v ∧ Q v s') E s := by
    unfold tryCompare
    refine wpAny_bind (rd_neBound X I hn (wpAny_call (codeAny_call_builtin F.cmp_object.ne.plain F.cmpEntry_ne (check_slot F.cmpKind_ne F.cmpSplit_ne (I.type.andThen (looks_mroIn X hm)) (F.cmpArgs_ne _ _) (entry fun b s' hq => ?_)))))
    exact wpAny_pure ⟨_, rfl, hq⟩
  unfold richCompare
  simp only [oneThing_ref]
  refine wpAny_holding (wpAny_bind (wpAny_cRoomFor (by omega) ?_))
  refine wpAny_bind (I.type.here (wpAny_bind (J.type.here ?_)))
  split
  · rename_i q
    exact absurd q (by simp)
  · refine wpAny_bind (wpAny_pure ?_)
    simp only [Bool.false_eq_true, if_false]
    refine wpAny_bind (m := tryCompare (.ref x) _ (.ref y)) (wpAny_mono one (fun r s' z => ?_) fun _ _ e => e)
    obtain ⟨v, rfl, hq⟩ := z
    exact wpAny_pure hq
end
end PySem.W

/-! RD15: ==, != and the truth of instances by the text's own methods; isinstance of instances. -/
namespace RD
open PySem PySem.Spec PyProof.Rows L2
theorem vr1 (a : Addr) : Vals [V.ref a] [Value.ref a] := .cons rfl .nil
theorem vr2 (a b : Addr) : Vals [V.ref a, V.ref b] [Value.ref a, Value.ref b] := .cons rfl (.cons rfl .nil)
section
variable {X : Cx} {n : Nat} {f : Addr} {fd : FuncData} {ps : List Str} {sp : Sp}
/-- a call from within a built-in -/
theorem run_at {A : Around} {pins : List (Addr × Obj)} {σ : L2.St} {H : Hp} {s : Shared} {Q : VK} {us : List Value} {vs : List V} (F : FnOk X.prog X.w X.K X.mg X.base CX0 n f fd ps sp) (sb : Sub X n A) (hb : Binds X.K fd ps []) (I : Inv X pins σ H s) (r : Vals vs us) (h : sp vs H Q E0) :
    wpAny (model X.prog X.w) A (call (.ref f) us) (EP X pins σ Q) X.xe s := by
  have e0 : Env0 X.prog X.w X.K X.mg X.base A X.stack s H := by
    have e := I.env0
    exact ⟨by rw [sb.fr]; exact e.frames, e.mod, e.bs, e.bsz, e.funs, e.frf, e.hok, e.bare⟩
  have hl := F.len _ _ _ _ h
  refine wpAny_call (codeAny_mono (F.run A X.stack s H ⟨us, []⟩ us vs _ E0 sb.room e0 (by
    have := hb s us I.kIn (by rw [List.append_nil, ← r.length]; exact hl)
    simpa using this) r h) fun r s' hq => ?_)
  cases r with
  | error e => exact hq.elim
  | ok fl =>
    cases fl with
    | ret w => exact I.after hq
    | next => exact False.elim hq
    | brk => exact False.elim hq
    | cont => exact False.elim hq
/-- x == y: x an instance with an own ==; y an instance of a class that is not below x's, a tuple; or y's class is below x's, and y's own == is asked -/
def rEqOwn (K : PySem.W.Frag) (f : Addr) (sp : Sp) : R2 := fun x y H Q => ∃ a C dx fs, x = .ref a ∧ H a = some (.ins C dx fs) ∧ PySem.W.findIn K (.ref C) "__eq__" = some (some (.ref f)) ∧
  ((∃ b C' dy gs, y = .ref b ∧ H b = some (.ins C' dy gs) ∧ PySem.W.notFirst K C (.ref C') = true ∧ sp [x, y] H (fun v H' => ∃ c, v = .bl c ∧ Q (.bl c) H') E0) ∨
   (∃ b ys, y = .ref b ∧ SqT K H b ys ∧ PySem.W.notFirst K C (.type "tuple") = true ∧ sp [x, y] H (fun v H' => ∃ c, v = .bl c ∧ Q (.bl c) H') E0) ∨
   ∃ b C' dy gs, y = .ref b ∧ H b = some (.ins C' dy gs) ∧ C' ≠ C ∧ PySem.W.subIn K (.ref C') (.ref C) = some true ∧ PySem.W.findIn K (.ref C') "__eq__" = some (some (.ref f)) ∧ sp [y, x] H (fun v H' => ∃ c, v = .bl c ∧ Q (.bl c) H') E0)
theorem op_eqOwn (F : FnOk X.prog X.w X.K X.mg X.base CX0 n f fd ps sp) (hr : Room n X.A) (hb : Binds X.K fd ps []) (hf : PySem.W.isFn X.K (.ref f) = true) : OpR X (compareOp .Eq) (rEqOwn X.K f sp) := by
  intro pins s σ H x y v u Q I rx ry h
  obtain ⟨a, C, dx, fs, rfl, ha, hs, h⟩ := h
  cases rx
  obtain ⟨mA, J, _⟩ := ins_get I.hok ha
  obtain ⟨od, J, _⟩ := J.look
  obtain ⟨m, hF⟩ := I.fr
  have back : ∀ {us : List Value} {vs : List V}, Vals vs us → sp vs H (fun v H' => ∃ c, v = .bl c ∧ Q (.bl c) H') E0 → wpAny (model X.prog X.w) X.A (call (.ref f) us) (PySem.W.CmpBack (EP X pins σ Q)) X.xe s := fun {us vs} r hsp => by
    refine wpAny_mono (run_at F ⟨hr, rfl⟩ hb I r hsp) (fun w s' hw => ?_) fun _ _ e => e
    obtain ⟨v, H', I', rv, c, rfl, q⟩ := hw
    cases rv
    exact ⟨.bl c, H', I', rfl, q⟩
  rcases h with ⟨b, C', dy, gs, rfl, hb', hn, hsp⟩ | ⟨b, ys, rfl, hb', hn, hsp⟩ | ⟨b, C', dy, gs, rfl, hb', hne, hsub, hs', hsp⟩
  · cases ry
    obtain ⟨mB, J', _⟩ := ins_get I.hok hb'
    obtain ⟨od', J', _⟩ := J'.look
    exact PySem.W.cmp_K (op := .Eq) (tb := .ref C') hr.units0 hF I.ok.mod.kin J J'.type hn hs hf (back (vr2 a b) hsp)
  · cases ry
    obtain ⟨its, rv, ⟨o, ho, hc, _, _⟩, _⟩ := I.tuple hb'
    have L : PySem.W.Looks (model X.prog X.w) s.heap (typeOf (.ref b)) (.type "tuple") := fun A Q E s k q => wpAny_typeOf_ref (k _ _ ho) (by rw [hc]; exact q)
    exact PySem.W.cmp_K (op := .Eq) (tb := .type "tuple") hr.units0 hF I.ok.mod.kin J L hn hs hf (back (vr2 a b) hsp)
  · cases ry
    obtain ⟨mB, J', _⟩ := ins_get I.hok hb'
    obtain ⟨od', J', _⟩ := J'.look
    exact PySem.W.rd_first (op := .Eq) hr.units0 I.kIn J J' hne hsub hs' hf (back (vr2 b a) hsp)
/-- x != y, both of one class with an own == and no own != -/
def rNeOwn (K : PySem.W.Frag) (f : Addr) (sp : Sp) : R2 := fun x y H Q => ∃ a b C dx dy fs gs, x = .ref a ∧ y = .ref b ∧ H a = some (.ins C dx fs) ∧ H b = some (.ins C dy gs) ∧ PySem.W.mroIn K C (.type "object") = some true ∧
  PySem.W.findIn K (.ref C) "__ne__" = some (some (.builtin "object.__ne__")) ∧ PySem.W.findIn K (.ref C) "__eq__" = some (some (.ref f)) ∧ sp [x, y] H (fun v H' => ∃ c, v = .bl c ∧ Q (.bl (!c)) H') E0
theorem op_neOwn (F : FnOk X.prog X.w X.K X.mg X.base CX0 n f fd ps sp) (hr : Room (n + 1) X.A) (hb : Binds X.K fd ps []) (hf : PySem.W.isFn X.K (.ref f) = true) : OpR X (compareOp .NotEq) (rNeOwn X.K f sp) := by
  intro pins s σ H x y v u Q I rx ry h
  obtain ⟨a, b, C, dx, dy, fs, gs, rfl, rfl, ha, hb', hm, hn, hs, hsp⟩ := h
  cases rx
  cases ry
  obtain ⟨mA, J, _⟩ := ins_get I.hok ha
  obtain ⟨od, J, _⟩ := J.look
  obtain ⟨mB, J', _⟩ := ins_get I.hok hb'
  obtain ⟨od', J', _⟩ := J'.look
  have un := hr.units
  refine PySem.W.rd_ne (by omega) I.kIn J J' hm hn hs hf ?_
  have sb : Sub X (n + 1) X.A := ⟨hr, rfl⟩
  refine wpAny_mono (run_at F sb.in1 hb I (vr2 a b) hsp) (fun w s' hw => ?_) fun _ _ e => e
  obtain ⟨v, H', I', rv, c, rfl, q⟩ := hw
  cases rv
  exact ⟨c, rfl, .bl _, H', I', rfl, q⟩
/-- the truth by an own __bool__ -/
def rTruOwn (K : PySem.W.Frag) (C f : Addr) (sp : Sp) : V → Hp → (Bool → Hp → Prop) → Prop := fun x H Q => ∃ a dx fs, x = .ref a ∧ H a = some (.ins C dx fs) ∧ sp [x] H (fun v H' => ∃ c, v = .bl c ∧ Q c H') E0
theorem tru_own {C : Addr} (F : FnOk X.prog X.w X.K X.mg X.base CX0 n f fd ps sp) (hr : Room n X.A) (hb : Binds X.K fd ps []) (hf : PySem.W.isFn X.K (.ref f) = true) (hs : PySem.W.findIn X.K (.ref C) "__bool__" = some (some (.ref f))) : TruR X (rTruOwn X.K C f sp) := by
  intro pins s σ H x v Q I rx h
  obtain ⟨a, dx, fs, rfl, ha, hsp⟩ := h
  cases rx
  obtain ⟨mA, J, _⟩ := ins_get I.hok ha
  obtain ⟨od, J, _⟩ := J.look
  obtain ⟨m, hF⟩ := I.fr
  refine PySem.W.truthy_K hF I.ok.mod.kin J hs hf ?_
  refine wpAny_mono (run_at F ⟨hr, rfl⟩ hb I (vr1 a) hsp) (fun w s' hw => ?_) fun _ _ e => e
  obtain ⟨v, H', I', rv, c, rfl, q⟩ := hw
  cases rv
  exact ⟨H', I', q⟩
end

/-! ### by data -/
section
variable {K : PySem.W.Frag} {A : Amb} {ρ : En} {x y : D} {k : D → Prop} {f : Addr} {R : List D → (D → Prop) → Prop}
theorem spF_at {n : Nat} {σ : L2.St} {ρ0 : En} {H0 H1 : Hp} {Q : VK} {E : XK} {vs : List V} {ds : List D} {kk : D → Prop} (hh : Here K A ρ0 H0 n ρ σ H1) (r : RepAll K (Mt A ρ) H1 vs ds) (hR : R ds kk)
    (q : ∀ d v H', kk d → Here K A ρ0 H0 n ρ σ H' → Keeps A ρ H1 ρ H' → Rep K (Mt A ρ) H' v d → Q v H') : spF K R vs H1 Q E := by
  refine ⟨owns ρ ++ A.W, ds, kk, hh.tracked, hh.sat.nd, RepAll.mono (fun a o m e => ⟨e, fun z => m ((mt_mem a).mpr z)⟩) ds r, hR, fun d v H' hk st rr => ?_⟩
  obtain ⟨h1, h2⟩ := hh.stay st
  exact q d v H' hk h1 h2 (Rep.mono (fun a o m e => ⟨e, fun z => m ((mt_mem a).mp z)⟩) d rr)
/-- an instance against an instance, a tuple -/
theorem od_eqOwn {C : Addr} {fs : List (Str × D)} (hs : PySem.W.findIn K (.ref C) "__eq__" = some (some (.ref f))) (hy : (∃ C' gs, y = .obj C' gs ∧ PySem.W.notFirst K C (.ref C') = true) ∨ ((∃ ds, y = .tup ds) ∧ PySem.W.notFirst K C (.type "tuple") = true)) (h : R [.obj C fs, y] fun d => ∃ c, d = .bl c ∧ k (.bl c)) : OpD K A (rEqOwn K f (spF K R)) ρ (.obj C fs) y k := by
  intro n σ ρ0 H0 H vx vy Q hh r1 r2 q
  have rr := RepAll.cons r1 (.cons r2 .nil)
  have sp : spF K R [vx, vy] H (fun v H' => ∃ c, v = .bl c ∧ Q (.bl c) H') E0 := spF_at hh rr h fun d v H' hk hh' kp rv => by
    obtain ⟨c, rfl, hk⟩ := hk
    cases rv
    exact ⟨c, rfl, q _ _ H' hk hh' kp (.bl c)⟩
  cases r1 with
  | @obj a _ dx vs _ m ea ra =>
    refine ⟨a, C, dx, vs, rfl, ea, hs, ?_⟩
    rcases hy with ⟨C', gs, rfl, hn⟩ | ⟨⟨ds, rfl⟩, hn⟩
    · cases r2 with
      | @obj b _ dy ws _ m' eb rb => exact .inl ⟨b, C', dy, ws, rfl, eb, hn, sp⟩
    · obtain ⟨b, ws, rfl, e, _⟩ := r2.sqT
      exact .inr (.inl ⟨b, ws, rfl, e, hn, sp⟩)
/-- the right one's class is below -/
theorem od_eqOwnR {C C' : Addr} {fs gs : List (Str × D)} (hs : PySem.W.findIn K (.ref C) "__eq__" = some (some (.ref f))) (hs' : PySem.W.findIn K (.ref C') "__eq__" = some (some (.ref f))) (hne : C' ≠ C) (hsub : PySem.W.subIn K (.ref C') (.ref C) = some true)
    (h : R [.obj C' gs, .obj C fs] fun d => ∃ c, d = .bl c ∧ k (.bl c)) : OpD K A (rEqOwn K f (spF K R)) ρ (.obj C fs) (.obj C' gs) k := by
  intro n σ ρ0 H0 H vx vy Q hh r1 r2 q
  have rr := RepAll.cons r2 (.cons r1 .nil)
  have sp : spF K R [vy, vx] H (fun v H' => ∃ c, v = .bl c ∧ Q (.bl c) H') E0 := spF_at hh rr h fun d v H' hk hh' kp rv => by
    obtain ⟨c, rfl, hk⟩ := hk
    cases rv
    exact ⟨c, rfl, q _ _ H' hk hh' kp (.bl c)⟩
  cases r1 with
  | @obj a _ dx vs _ m ea ra =>
    cases r2 with
    | @obj b _ dy ws _ m' eb rb => exact ⟨a, C, dx, vs, rfl, ea, hs, .inr (.inr ⟨b, C', dy, ws, rfl, eb, hne, hsub, hs', sp⟩)⟩
theorem od_neOwn {C : Addr} {fs gs : List (Str × D)} (hm : PySem.W.mroIn K C (.type "object") = some true) (hn : PySem.W.findIn K (.ref C) "__ne__" = some (some (.builtin "object.__ne__"))) (hs : PySem.W.findIn K (.ref C) "__eq__" = some (some (.ref f)))
    (h : R [.obj C fs, .obj C gs] fun d => ∃ c, d = .bl c ∧ k (.bl (!c))) : OpD K A (rNeOwn K f (spF K R)) ρ (.obj C fs) (.obj C gs) k := by
  intro n σ ρ0 H0 H vx vy Q hh r1 r2 q
  have rr := RepAll.cons r1 (.cons r2 .nil)
  have sp : spF K R [vx, vy] H (fun v H' => ∃ c, v = .bl c ∧ Q (.bl (!c)) H') E0 := spF_at hh rr h fun d v H' hk hh' kp rv => by
    obtain ⟨c, rfl, hk⟩ := hk
    cases rv
    exact ⟨c, rfl, q _ _ H' hk hh' kp (.bl _)⟩
  cases r1 with
  | @obj a _ dx vs _ m ea ra =>
    cases r2 with
    | @obj b _ dy ws _ m' eb rb => exact ⟨a, b, C, dx, dy, vs, ws, rfl, rfl, ea, eb, hm, hn, hs, sp⟩
end
section
variable {X : Cx} {A : Amb} {ρ : En} {n lv : Nat} {e : Expr} {kb : Nat → En → Bool → Prop} {f : Addr} {fd : FuncData} {ps : List Str} {R : List D → (D → Prop) → Prop} {C : Addr}
/-- a test of an instance -/
theorem wb_own (F : FnOk X.prog X.w X.K X.mg X.base CX0 lv f fd ps (spF X.K R)) (hr : Room lv X.A) (hb : Binds X.K fd ps []) (hf : PySem.W.isFn X.K (.ref f) = true) (hs : PySem.W.findIn X.K (.ref C) "__bool__" = some (some (.ref f)))
    (h : WE X A e ρ n fun n ρ d => ∃ fs, d = .obj C fs ∧ R [d] fun d => ∃ c, d = .bl c ∧ kb n ρ c) (he : ∀ whole, isTrue e X.env whole = (do let v ← whole; standAt e.pos; holding [v] (truthy v)) := by intro _; rfl) : WB X A e ρ n kb := by
  intro ρ0 H0 σ H hh Q q
  refine canT.of (pt_truthR pcan (tru_own (C := C) F hr hb hf hs) he) ?_
  refine h ρ0 H0 σ H hh _ fun n1 ρ1 d v H1 h1 hh1 k1 r1 => ?_
  obtain ⟨fs, rfl, hR⟩ := h1
  have rr := RepAll.cons r1 .nil
  have sp : spF X.K R [v] H1 (fun v H' => ∃ c, v = .bl c ∧ Q c H') E0 := spF_at hh1 rr hR fun d v H' hk hh' kp rv => by
    obtain ⟨c, rfl, hk⟩ := hk
    cases rv
    exact ⟨c, rfl, q _ _ c H' hk hh' (k1.trans kp)⟩
  cases r1 with
  | @obj a _ dx vs _ m ea ra => exact ⟨a, dx, vs, rfl, ea, sp⟩
end
end RD

/-! RD16: e.__class__.__name__, isinstance by own classes, instances made. -/
namespace PySem.W
open Lean PySem PySem.Calls PyProof.Rows Builtin Builtin.ObjectAttr Builtin.Getset_descriptor
section
variable {prog : Program} {w : World} {A : Around} {E : Value → Shared → Prop} {s : Shared} {K : Frag} {R : Result → Shared → Prop} {C : Addr}
/-- what an own class must have that its name is read -/
structure RdNm (K : Frag) (C : Addr) (nm : Str) : Prop where
  op : nsIn K cStatics "thirdparty.any" = some none
  ty : typeIn K (.ref C) = some (.type "type")
  sl : ∃ o t, K.lookup C = some o ∧ o.slots[2]? = some (some (.str nm t))
theorem rd_dga (d tp : Value) (C : Addr) : descrGetArgs ⟨[d, .ref C, tp], []⟩ = pure (d, some (.ref C), given tp) := by kernel_rfl
theorem rd_nameGet {tp : Value} {nm : Str} (X : K.In s.heap) (T : RdNm K C nm) (h : ∀ t, R (.ok (.ret (.str nm t))) s) :
    codeAny (model prog w) A (.call (.builtin "getset_descriptor.__get__") ⟨[.builtin "type.__name__", .ref C, tp], []⟩) R s := by
  obtain ⟨o, t, hk, hsl⟩ := T.sl
  have ho := X _ _ hk
  have L0 : Looks (model prog w) s.heap (typeOf (.ref C)) (.type "type") := looks_typeIn X T.ty
  obtain ⟨hh, g, dr, t, os⟩ := s
  have L1 : Looks (model prog w) hh (isSubtype (.type "type") (.type "type")) true := Looks.of_pure (by rw [isSubtype_type]; kernel_rfl)
  refine codeAny_call_builtin KF.slot_gs.plain KF.entry_gs (KF.slot_gs.check _ _ _ _ _ _ _ _ ktyn_type (KF.args_gs _ _ _) ?_)
  unfold Builtin.«getset_descriptor.__get__» descrGet
  rw [rd_dga]
  refine wpAny_bind (wpAny_pure ?_)
  unfold descrGetter descrCheckInstance descrNameAndClass isInstance
  simp only [ktyn_owner]
  repeat lk
  refine ⟨Code.quiet_builtin _ (by decide +kernel), codeAny_builtin ktyn_entry ?_⟩
  unfold Builtin.«type.__name__» keptObject slotAt
  dsimp only
  refine wpAny_bind (wpAny_bind (wpAny_loadPart ho ?_))
  rw [hsl]
  exact wpAny_pure (wpAny_pure (h _))
theorem rd_findName {K : Frag} {C : Addr} : findCls K (.ref C) (.type "type") "__name__" = some (.get (.builtin "getset_descriptor.__get__") (.builtin "type.__name__") (.ref C) (.type "type")) := by
  first | rfl | kernel_rfl
theorem rd_className {expr : Bool} {nm : Str} {Q : Value → Shared → Prop} (X : K.In s.heap) (T : RdNm K C nm) (h : ∀ t u, Q (.str nm t) { s with toks := u }) : wpAny (model prog w) A (getAttr (.ref C) "__name__" expr) Q E s := by
  have hg : findIn K (.type "type") "__getattribute__" = some (some (.builtin "type.__getattribute__")) := type_tga
  refine cls_open X (looks_opaque X T.op) (looks_typeIn X T.ty) hg (looks_hook X (r := none) (by rfl)) (by show subIn K _ _ = _; rfl) rd_findName ?_
  show wpAny _ _ (do ret (← holding [Value.builtin "type.__name__"] (call (.builtin "getset_descriptor.__get__") [.builtin "type.__name__", .ref C, .type "type"]))) _ _ _
  refine wpAny_bind (wpAny_holding (wpAny_call (rd_nameGet (s := { s with toks := s.toks + 1 }) X T fun t => ?_)))
  exact wpAny_pure (handed_on rfl (h _ _))
end
end PySem.W
namespace RD
open PySem PySem.Spec PyProof.Rows L2
section
variable {X : Cx} {A : Amb} {ρ : En} {n lv : Nat} {e : Expr} {es : List Expr} {p p2 pos apos : Pos} {k : Nat → En → D → Prop} {C : Addr}
/-- e.__class__.__name__ -/
theorem we_clsName (h : WE X A e ρ n fun n ρ d => ∃ C fs nm, d = .obj C fs ∧ C8.InsC X.K C ∧ PySem.W.RdNm X.K C nm ∧ k n ρ (.str nm)) (hb : attributeBase e "__class__" X.env (eval e X.env) = eval e X.env := by rfl)
    (hb2 : attributeBase (.Attribute e "__class__" apos) "__name__" X.env (eval (.Attribute e "__class__" apos) X.env) = eval (.Attribute e "__class__" apos) X.env := by rfl) : WE X A (.Attribute (.Attribute e "__class__" apos) "__name__" pos) ρ n k := by
  intro ρ0 H0 σ H hh Q q
  intro pins s I
  refine attr_of hb2 ?_
  refine attr_of hb ?_
  refine thn ((h ρ0 H0 σ H hh (fun v H' => ∃ a C dx fs nm, v = .ref a ∧ H' a = some (.ins C dx fs) ∧ C8.InsC X.K C ∧ PySem.W.RdNm X.K C nm ∧ Q (.str nm) H') fun n1 ρ1 d v H1 h1 hh1 k1 r1 => ?_) pins s I) fun u s1 ⟨v, H1, I1, rv, a, C, dx, fs, nm, ev, ea, ci, nmF, q1⟩ => ?_
  · obtain ⟨C, fs, nm, rfl, ci, nmF, h1⟩ := h1
    cases r1 with
    | @obj a _ dx vs _ m ea ra => exact ⟨a, C, dx, vs, nm, rfl, ea, ci, nmF, q n1 ρ1 _ _ H1 h1 hh1 k1 (.str _)⟩
  · subst ev
    cases rv
    obtain ⟨mA, J, _⟩ := ins_get I1.hok ea
    obtain ⟨od, J, _⟩ := J.look
    obtain ⟨m, hF⟩ := I1.fr
    refine PySem.W.get_class hF I1.ok.mod.kin J (ci.cl.get _) ci.cl.hd ci.ha ci.hn ci.htk ci.hm ?_
    exact PySem.W.rd_className (s := { s1 with toks := s1.toks + 1 }) I1.kIn nmF fun t u => ⟨.str nm, H1, I1.tok _, ⟨t, rfl⟩, q1⟩
/-- isinstance(e, C), C an own class -/
theorem we_isC {T : Str} (hm : X.mg "isinstance" = none) (hT : X.mg T = some (.ref C))
    (h : WE X A e ρ n fun n ρ d => ∃ c, ((∃ t, tyD d = some t ∧ PySem.W.kitOne X.K (.type t) (.ref C) = some c) ∨ ∃ C' fs, d = .obj C' fs ∧ C8.InsC X.K C' ∧ PySem.W.kitOne X.K (.ref C') (.ref C) = some c) ∧ k n ρ (.bl c)) (hg : Gl X "isinstance" := by rfl) (hgT : Gl X T := by rfl) (hdT : (T == ("__debug__" : Str)) = false := by decide)
    (he : starEach [e, .Name T p2] X.env = (false, eval e X.env) :: starEach [.Name T p2] X.env := by rfl) (he2 : starEach [.Name T p2] X.env = (false, eval (.Name T p2) X.env) :: starEach [] X.env := by rfl) (hpl : (backTo pos (starEach [.Name T p2] X.env)).any (·.1) = false := by rfl) :
    WE X A (.Call (.Name "isinstance" p) [e, .Name T p2] [] pos) ρ n k := by
  intro ρ0 H0 σ H hh Q q
  refine canE.of (pe_callB call_isi hg hm boot_isinstance (pa_cons pcan (pa_cons (pe_glob (v := .ref C) hgT hT rfl hdT) pa_nil he2) he) (by decide) (by decide) he hpl) ?_
  refine h ρ0 H0 σ H hh _ fun n1 ρ1 d v H1 h1 hh1 k1 r1 => ?_
  obtain ⟨c, h0, h1⟩ := h1
  rcases h0 with ⟨t, e1, e2⟩ | ⟨C', fs, rfl, ci, e2⟩
  · exact ⟨v, .ref C, .type t, .ref C, c, rfl, .own C, r1.ty e1, e2, q n1 ρ1 _ _ H1 h1 hh1 k1 (.bl _)⟩
  · cases r1 with
    | @obj a _ dx vs _ m ea ra => exact ⟨.ref a, .ref C, .ref C', .ref C, c, rfl, .own C, .base (.ins ea ci.cl ci.ha ci.hn ci.htk ci.hm), e2, q n1 ρ1 _ _ H1 h1 hh1 k1 (.bl _)⟩
/-- the promise of an __init__(self, a, *b) by data: what the instance then is -/
def spNew (K : PySem.W.Frag) (C : Addr) (R : List D → (List (Str × D) → Prop) → Prop) : Sp := fun vs H Q _ => ∃ (x dx : Addr) (ws : List V) (W : List Addr) (ds : List D) (k : List (Str × D) → Prop), vs = .ref x :: ws ∧ H x = some (.ins C dx []) ∧ H dx = some (.own x) ∧ x ∉ W ∧ (∀ a ∈ W, H a ≠ none) ∧ W.Nodup ∧ RepAll K (· ∈ W) H ws ds ∧
  RepAll K (fun a => a ∈ W ∨ a = x) H ws ds ∧ R ds k ∧ ∀ fs gs H', k gs → (∀ a o, a ≠ x → H a = some o → H' a = some o) → H' x = some (.ins C dx fs) → RepF K (fun a => a ∈ W ∨ a = x) H' fs gs → Q .non H'
end
end RD

/-! RD17: == and != of any data without dicts; a tuple and an atom; truths. -/
namespace RD
open PySem PySem.Spec PyProof.Rows L2
mutual
theorem py_plain : ∀ d : D, plain d = true → (py d).plain = true
  | .non, _ => rfl
  | .bl _, _ => rfl
  | .int _, _ => rfl
  | .str _, _ => rfl
  | .lst xs, h => pys_plain xs h
  | .tup xs, h => pys_plain xs h
  | .dct _, h => by simp [plain] at h
  | .obj _ _, h => by simp [plain] at h
  | .raw _, h => by simp [plain] at h
theorem pys_plain : ∀ xs : List D, plains xs = true → PyData.plainAll (pys xs) = true
  | [], _ => rfl
  | x :: xs, h => by
    have h' : plain x = true ∧ plains xs = true := by simpa [plains] using h
    show ((py x).plain && PyData.plainAll (pys xs)) = true
    rw [py_plain x h'.1, pys_plain xs h'.2]; rfl
end
def rEqP (K : PySem.W.Frag) : R2 := fun x y H Q => ∃ d e, Dp K H x d ∧ Dp K H y e ∧ d.plain = true ∧ e.plain = true ∧ min d.depth e.depth ≤ 60 ∧ Q (.bl (PyData.eqv d e)) H
def rNeP (K : PySem.W.Frag) : R2 := fun x y H Q => ∃ d e, Dp K H x d ∧ Dp K H y e ∧ d.plain = true ∧ e.plain = true ∧ min d.depth e.depth ≤ 60 ∧ Q (.bl (!PyData.eqv d e)) H
/-- a tuple and an atom, either way about -/
def rTupAt (K : PySem.W.Frag) : R2 := fun x y H Q => ∃ (l : Addr) (xs : List V) (z : V), ((x = .ref l ∧ y = z) ∨ (x = z ∧ y = .ref l)) ∧ SqT K H l xs ∧ (z = .non ∨ (∃ b, z = .bl b) ∨ (∃ i, z = .int i) ∨ ∃ t, z = .str t) ∧ Q (.bl false) H
section
variable {X : Cx}
theorem op_eqP (hu : X.A.units + 64 < cLine) : OpR X (compareOp .Eq) (rEqP X.K) := by
  intro pins s σ H x y v u Q I rx ry h
  obtain ⟨d, e, hd, he, sd, se, hm, q⟩ := h
  obtain ⟨as, r1⟩ := Dp.reads I d x v hd rx
  obtain ⟨bs, r2⟩ := Dp.reads I e y u he ry
  exact SeqAt.rcAt_plain r1 r2 sd se (A := X.A) (by omega) _ _ _ _ ⟨.bl _, H, I, rfl, q⟩
theorem op_neP (hu : X.A.units + 64 < cLine) : OpR X (compareOp .NotEq) (rNeP X.K) := by
  intro pins s σ H x y v u Q I rx ry h
  obtain ⟨d, e, hd, he, sd, se, hm, q⟩ := h
  obtain ⟨as, r1⟩ := Dp.reads I d x v hd rx
  obtain ⟨bs, r2⟩ := Dp.reads I e y u he ry
  exact SeqAt.rcNe_plain r1 r2 sd se (A := X.A) (by omega) _ _ _ _ ⟨.bl _, H, I, rfl, q⟩
theorem op_tupAt (hu : X.A.units + 64 < cLine) : OpR X (compareOp .Eq) (rTupAt X.K) := by
  intro pins s σ H x y v u Q I rx ry h
  obtain ⟨l, xs, z, hxy, hl, hz, q⟩ := h
  obtain ⟨its, rv, ⟨o, ho, hc, n, hd⟩, _⟩ := I.tuple hl
  have ht : s.heap.IsTuple l its.toArray := ⟨o, ho, hc, n, hd⟩
  have hu' : X.A.units < cLine := by omega
  have both : ∀ {uz : Value}, RelV z uz → SeqAt.RcAt X.A s (.ref l) uz false ∧ SeqAt.RcAt X.A s uz (.ref l) false := fun {uz} rz => by
    rcases hz with rfl | ⟨b, rfl⟩ | ⟨i, rfl⟩ | ⟨t, rfl⟩
    · cases rz; exact ⟨SeqAt.RcAt.tuple_none ht hu', SeqAt.RcAt.none_tuple ht hu'⟩
    · cases rz; exact ⟨SeqAt.RcAt.tuple_bool b ht hu', SeqAt.RcAt.bool_tuple b ht hu'⟩
    · obtain ⟨tk, rfl⟩ := rz; exact ⟨SeqAt.RcAt.tuple_int i tk ht hu', SeqAt.RcAt.int_tuple i tk ht hu'⟩
    · obtain ⟨tk, rfl⟩ := rz; exact ⟨SeqAt.RcAt.tuple_str t tk ht hu', SeqAt.RcAt.str_tuple t tk ht hu'⟩
  rcases hxy with ⟨rfl, rfl⟩ | ⟨rfl, rfl⟩
  · cases rx
    exact (both ry).1 _ _ _ _ ⟨.bl false, H, I, rfl, q⟩
  · cases ry
    exact (both rx).2 _ _ _ _ ⟨.bl false, H, I, rfl, q⟩
/-- == of any two data -/
def rEqL (K : PySem.W.Frag) : R2 := fun x y H Q => rEqP K x y H Q ∨ (rTupAt K x y H Q ∨ (rEqV K x y H Q ∨ rDictOth K x y H Q))
theorem op_eqL (hu : X.A.units + 64 < cLine) : OpR X (compareOp .Eq) (rEqL X.K) := (op_eqP hu).or ((op_tupAt hu).or ((op_eqV hu).or (op_dictOth hu)))
end
section
variable {K : PySem.W.Frag} {A : Amb} {ρ : En} {x y : D} {k : D → Prop}
theorem od_eqP (h : k (.bl (eqD x y))) (hx : plain x = true) (hy : plain y = true) (hd : min (py x).depth (py y).depth ≤ 60) : OpD K A (rEqP K) ρ x y k := by
  intro n σ ρ0 H0 H vx vy Q hh r1 r2 q
  exact ⟨_, _, r1.dp _ hx, r2.dp _ hy, py_plain _ hx, py_plain _ hy, hd, q _ _ H h hh .refl (.bl _)⟩
theorem od_neP (h : k (.bl (!eqD x y))) (hx : plain x = true) (hy : plain y = true) (hd : min (py x).depth (py y).depth ≤ 60) : OpD K A (rNeP K) ρ x y k := by
  intro n σ ρ0 H0 H vx vy Q hh r1 r2 q
  exact ⟨_, _, r1.dp _ hx, r2.dp _ hy, py_plain _ hx, py_plain _ hy, hd, q _ _ H h hh .refl (.bl _)⟩
theorem eqD_refl {x : D} (h : plain x = true) : eqD x x = true := PySem.SeqAt.eqv_refl_plain _ (py_plain x h)
theorem od_neP_same (h : k (.bl false)) (hx : plain x = true) (e : y = x) (hd : (py x).depth ≤ 60) : OpD K A (rNeP K) ρ x y k := by
  subst e
  refine od_neP ?_ hx hx (by omega)
  rw [eqD_refl hx]
  exact h
/-- atoms -/
def atm : D → Bool
  | .non => true
  | .bl _ => true
  | .int _ => true
  | .str _ => true
  | _ => false
theorem atm_rep {M : Addr → Prop} {H : Hp} {z : V} {d : D} (r : Rep K M H z d) (h : atm d = true) : z = .non ∨ (∃ b, z = .bl b) ∨ (∃ i, z = .int i) ∨ ∃ t, z = .str t := by
  cases d with
  | non => cases r; exact .inl rfl
  | bl b => cases r; exact .inr (.inl ⟨_, rfl⟩)
  | int i => cases r; exact .inr (.inr (.inl ⟨_, rfl⟩))
  | str x => cases r; exact .inr (.inr (.inr ⟨_, rfl⟩))
  | tup ds => cases h
  | lst ds => cases h
  | dct kvs => cases h
  | obj C fs => cases h
  | raw v => cases h
theorem od_L_at (h : k (.bl (eqD x y))) (hx : atm x = true) (hy : atm y = true) : OpD K A (rEqL K) ρ x y k := by
  have px : ∀ z : D, atm z = true → plain z = true ∧ (py z).depth = 0 := fun z hz => by cases z <;> first | exact ⟨rfl, rfl⟩ | cases hz
  exact od_or1 (od_eqP h (px x hx).1 (px y hy).1 (by rw [(px x hx).2]; exact Nat.le_trans (Nat.min_le_left _ _) (Nat.zero_le _)))
theorem od_L_TX {xs : List D} (h : k (.bl false)) (hy : atm y = true) : OpD K A (rEqL K) ρ (.tup xs) y k := by
  intro n σ ρ0 H0 H vx vy Q hh r1 r2 q
  obtain ⟨a, vs, rfl, e, _⟩ := r1.sqT
  exact .inr (.inl ⟨a, vs, vy, .inl ⟨rfl, rfl⟩, e, atm_rep r2 hy, q _ _ H h hh .refl (.bl _)⟩)
theorem od_L_XT {ys : List D} (h : k (.bl false)) (hx : atm x = true) : OpD K A (rEqL K) ρ x (.tup ys) k := by
  intro n σ ρ0 H0 H vx vy Q hh r1 r2 q
  obtain ⟨a, vs, rfl, e, _⟩ := r2.sqT
  exact .inr (.inl ⟨a, vs, vx, .inr ⟨rfl, rfl⟩, e, atm_rep r1 hx, q _ _ H h hh .refl (.bl _)⟩)
theorem od_L_K {r : R2} (h : OpD K A (rEqK K) ρ x y k) (hq : ∀ vx vy H Q, rEqD K vx vy H Q → False) : OpD K A (rEqL K) ρ x y k := fun n σ ρ0 H0 H vx vy Q hh r1 r2 q => by
  rcases h n σ ρ0 H0 H vx vy Q hh r1 r2 q with z | z | z
  · exact (hq _ _ _ _ z).elim
  · exact .inr (.inr (.inl z))
  · exact .inr (.inr (.inr z))
theorem od_L_D1 {key : Key} {d : D} (h : k (.bl true)) (hl : lsD d = true) (hd : (py d).depth ≤ 50) : OpD K A (rEqL K) ρ (.dct [(key, d)]) (.dct [(key, d)]) k := by
  intro n σ ρ0 H0 H vx vy Q hh r1 r2 q
  have z := od_eqD1 (K := K) (A := A) (ρ := ρ) (k := fun d => d = .bl true) rfl hl hd n σ ρ0 H0 H vx vy (fun v H' => v = .bl true ∧ H' = H) hh r1 r2
  cases r1 with
  | dct m e ra =>
    cases r2 with
    | dct m' e' ra' =>
      cases ra with
      | cons a1 a2 =>
        cases a2
        cases ra' with
        | cons b1 b2 =>
          cases b2
          refine .inr (.inr (.inl ⟨51, by decide, .inr ⟨_, _, _, _, rfl, rfl, e, e', rfl, fun p hp => ?_⟩, q _ _ H h hh .refl (.bl _)⟩))
          rw [List.mem_singleton.mp hp]
          exact ⟨_, by simp [valV], eqV_refl 51 d hl (by omega) a1 b1⟩
theorem od_L_DX {kvs : List (Key × D)} (h : k (.bl false)) (ho : othD y = true) : OpD K A (rEqL K) ρ (.dct kvs) y k := by
  intro n σ ρ0 H0 H vx vy Q hh r1 r2 q
  cases r1 with
  | dct m e ra => exact .inr (.inr (.inr ⟨_, _, vy, .inl ⟨rfl, rfl⟩, e, oth_rep r2 ho, q _ _ H h hh .refl (.bl _)⟩))
theorem od_L_XD {kvs : List (Key × D)} (h : k (.bl false)) (ho : othD x = true) : OpD K A (rEqL K) ρ x (.dct kvs) k := by
  intro n σ ρ0 H0 H vx vy Q hh r1 r2 q
  cases r2 with
  | dct m e ra => exact .inr (.inr (.inr ⟨_, _, vx, .inr ⟨rfl, rfl⟩, e, oth_rep r1 ho, q _ _ H h hh .refl (.bl _)⟩))
/-- truths -/
theorem od_eqB {b c : Bool} (h : k (.bl (b == c))) : OpD K A rEq ρ (.bl b) (.bl c) k := by
  intro n σ ρ0 H0 H vx vy Q hh r1 r2 q
  cases r1; cases r2
  refine ⟨rfl, ?_⟩
  rw [show decide (V.bl b = V.bl c) = (b == c) by cases b <;> cases c <;> decide]
  exact q _ _ H h hh .refl (.bl _)
theorem od_neB {b c : Bool} (h : k (.bl (!(b == c)))) : OpD K A rNe ρ (.bl b) (.bl c) k := by
  intro n σ ρ0 H0 H vx vy Q hh r1 r2 q
  cases r1; cases r2
  refine ⟨rfl, ?_⟩
  rw [show decide (V.bl b = V.bl c) = (b == c) by cases b <;> cases c <;> decide]
  exact q _ _ H h hh .refl (.bl _)
end
end RD

/-! EVr: data read through, as RD's data; repr. -/
namespace EV
open PySem
def toStr (x : List Nat) : Str := ⟨x.toArray⟩
/-- changing lists read as they are (so many levels) -/
def rdD (s : S) : Nat → D → Option RD.D
  | 0, _ => none
  | n + 1, d => match rdc s d with
    | .non => some .non
    | .bl b => some (.bl b)
    | .int i => some (.int i)
    | .str x => some (.str (toStr x))
    | .lst xs => (mapO (rdD s n) xs).map .lst
    | .tup xs => (mapO (rdD s n) xs).map .tup
    | .dct kvs => (mapO (fun p => match p.1 with
      | .int i => (rdD s n p.2).map fun y => ((.inl i : L2.Key), y)
      | .str i => (rdD s n p.2).map fun y => ((.inr (toStr i) : L2.Key), y)
      | _ => none) kvs).map .dct
    | _ => none
def isDct : RD.D → Bool
  | .dct _ => true
  | _ => false
def reprOp (s : S) (d : D) : Option D := match rdD s 60 d with
  | some r => if RD.plk r && !isDct r && (RD.py r).showable && decide ((RD.py r).depth ≤ 60) && decide ((RD.py r).shown.length ≤ 100000) then some (.str (RD.py r).shown.cps.toList) else none
  | none => none
end EV

/-! raise C(..): what the raiser must show. -/
namespace RD
open PySem PySem.Spec PyProof.Rows L2
theorem del_back {H : Hp} {a dx : Addr} {o0 o1 o2 o3 : HO} (ha : H a = none) (hd : dx ≠ a) : upd (L2.del (upd (upd (upd H a o0) dx o1) a o2) a) dx o3 = upd H dx o3 := by
  funext b
  by_cases h1 : b = dx
  · rw [h1, upd_same, upd_same]
  · rw [upd_ne h1, upd_ne h1]
    by_cases h2 : b = a
    · rw [h2, L2.del_same, ha]
    · rw [L2.del_ne h2, upd_ne h2, upd_ne h1, upd_ne h2]
theorem del_back2 {H : Hp} {a dx : Addr} {o0 o1 o2 o3 o4 : HO} (ha : H a = none) (hd : dx ≠ a) : upd (L2.del (upd (upd (upd (upd H a o0) dx o1) a o2) dx o3) a) dx o4 = upd H dx o4 := by
  funext b
  by_cases h1 : b = dx
  · rw [h1, upd_same, upd_same]
  · rw [upd_ne h1, upd_ne h1]
    by_cases h2 : b = a
    · rw [h2, L2.del_same, ha]
    · rw [L2.del_ne h2, upd_ne h1, upd_ne h2, upd_ne h1, upd_ne h2]
/-- one field -/
theorem mk1 {C : Addr} {f1 : Str} {y : V} {H : Hp} {Q : XK} (h : ∀ dx, H dx = none → Q (.ref C) (some dx) (upd H dx (.xd [(f1, y)]))) (a : Addr) (ha : H a = none) :
    spI1 C f1 [.ref a, y] (upd H a (exo a C none)) (fun v H2 => v = .non ∧ ∃ (d : Addr) (fs : List (Str × V)), H2 a = some (exo a C (some d)) ∧ H2 d = some (exd d fs) ∧ H d = none ∧ Q (.ref C) (some d) (upd (L2.del H2 a) d (.xd fs))) (fun _ _ _ => False) := by
  refine ⟨a, y, rfl, upd_same, fun dx n hd => ⟨rfl, dx, [(f1, y)], upd_same, (upd_ne hd).trans upd_same, (upd_ne hd).symm.trans n, ?_⟩⟩
  rw [del_back ha hd]
  exact h dx ((upd_ne hd).symm.trans n)
/-- two fields -/
theorem mk2 {C : Addr} {f1 f2 : Str} {y z : V} {H : Hp} {Q : XK} (h : ∀ dx, H dx = none → Q (.ref C) (some dx) (upd H dx (.xd [(f2, z), (f1, y)]))) (a : Addr) (ha : H a = none) :
    spI2 C f1 f2 [.ref a, y, z] (upd H a (exo a C none)) (fun v H2 => v = .non ∧ ∃ (d : Addr) (fs : List (Str × V)), H2 a = some (exo a C (some d)) ∧ H2 d = some (exd d fs) ∧ H d = none ∧ Q (.ref C) (some d) (upd (L2.del H2 a) d (.xd fs))) (fun _ _ _ => False) := by
  refine ⟨a, y, z, rfl, upd_same, fun dx n hd => ⟨rfl, dx, [(f2, z), (f1, y)], (upd_ne (Ne.symm hd)).trans upd_same, upd_same, (upd_ne hd).symm.trans n, ?_⟩⟩
  rw [del_back2 ha hd]
  exact h dx ((upd_ne hd).symm.trans n)
end RD

/-! if x == n: raise .. -/
namespace RD
open PySem PySem.Spec PyProof.Rows L2
theorem ps_ifRaise {X : Cx} {W : WX} {i : Nat} {x : Str} {n : Int} {j : Nat} {e : Expr} {t : L2.St → Hp → XK → Prop} {p1 p2 p3 p4 p5 : Pos} (hN : X.N[i]? = some x) (hv : Vis X.env.scope x) (hc : X.calm = true) (tk : Takes X W) (he : PMk X e t)
    (hd : (x == ("__debug__" : Str)) = false := by decide) (hcd : (x == ("__classdict__" : Str)) = false := by decide) :
    PS X (.If (.Compare (.Name x p1) [.Eq] [.Constant (.int n) j p2] p3) [.Raise (some e) none p4] [] p5) (tIfS (tB (tEqI (tVar i) (tC (.int n)))) (fun _ σ H => t σ H fun cls d H' => W cls d σ H') tNext) :=
  ps_if (pt_cmp (pc_eqI (pe_var hN hv hd hcd) pe_int)) (pss_one (ps_raise hc tk he)) pss_nil
/-- the test fails: on to the next statement -/
theorem step_no {i : Nat} {n m : Int} {R rest : TS} {D : Ends} {σ : L2.St} {H : Hp} (hσ : σ[i]? = some (some (.int m))) (ne : m ≠ n) (h : rest D σ H) : tSeq (tIfS (tB (tEqI (tVar i) (tC (.int n)))) R tNext) rest D σ H := by
  refine ⟨_, hσ, m, n, rfl, rfl, _, rfl, ?_⟩
  dsimp only
  rw [if_neg (by simpa using ne)]
  exact h
theorem step_yes {i : Nat} {n : Int} {R rest : TS} {D : Ends} {σ : L2.St} {H : Hp} (hσ : σ[i]? = some (some (.int n))) (h : R { D with nx := rest D } σ H) : tSeq (tIfS (tB (tEqI (tVar i) (tC (.int n)))) R tNext) rest D σ H := by
  refine ⟨_, hσ, n, n, rfl, rfl, _, rfl, ?_⟩
  dsimp only
  rw [if_pos (by simp)]
  exact h
end RD

/-! RD18: a small dict display; the law's last statements (a list changed); instances with a star parameter. -/
namespace RD
open PySem PySem.Spec PyProof.Rows L2
section
variable {X : Cx} {A : Amb} {ρ : En} {n : Nat} {k : Nat → En → D → Prop} {pos p1 p2 p3 : Pos} {j1 j2 : Nat}
/-- {'z': [i]} -/
theorem we_dict1 {z : Str} {i : Int} (h : k n ρ (.dct [(.inr z, .lst [.int i])])) : WE X A (.Dict [some (.Constant (.str z) j1 p1)] [.List [.Constant (.int i) j2 p2] p3] pos) ρ n k := by
  intro ρ0 H0 σ H hh Q q
  refine canE.of (pe_disp (pps_cons pe_str (pe_lst (pa_cons pe_int pa_nil)) pps_nil) rfl rfl (by simp) (Nat.le_of_ble_eq_true rfl)) ?_
  intro p hp
  refine ⟨sz_le (Nat.le_of_ble_eq_true rfl), fun r hr => ?_⟩
  have hpr : p ≠ r := fun e => by rw [e, upd_same] at hr; cases hr
  have hr' : H r = none := by rwa [upd_ne hpr.symm] at hr
  have e : upd (upd (upd H p (.dK [])) r (.lst [.int i])) p (.dK (mergeK [] [(.inr z, .ref r)])) = upd (upd H r (.lst [.int i])) p (.dK [(.inr z, .ref r)]) := by
    funext b
    by_cases h1 : b = p
    · subst h1; rw [upd_same, upd_same]; rfl
    · rw [upd_ne h1, upd_ne h1]
      by_cases h2 : b = r
      · subst h2; rw [upd_same, upd_same]
      · rw [upd_ne h2, upd_ne h2, upd_ne h1]
  refine ⟨by rw [upd_ne hpr, upd_same], [(.inr z, .ref r)], rfl, Nat.le_of_ble_eq_true rfl, ?_⟩
  rw [e]
  have hp2 : upd H r (.lst [.int i]) p = none := by rw [upd_ne hpr]; exact hp
  have h1 := hh.alloc (o := .lst [.int i]) hr'
  have h2 := h1.alloc (o := .dK [(.inr z, .ref r)]) hp2
  refine q n ρ _ _ _ h h2 ((Keeps.alloc hr').trans (.alloc hp2)) (.dct (h1.new hp2) upd_same (.cons (.lst (hh.new hr') (by rw [upd_ne hpr.symm, upd_same]) (.cons (.int i) .nil)) .nil))
/-! ### the law's statements: only that it ends in True is asked -/
def WSL (X : Cx) (A : Amb) (sts : List Stmt) (ρ : En) (n : Nat) : Prop := ∀ ρ0 H0 σ H, Here X.K A ρ0 H0 n ρ σ H → ∀ D : Ends, (∀ H', D.rt (.bl true) H') → canSs X sts D σ H
def LawE (I : Nat → En → Prop) : En4 := { nx := I, rt := fun _ _ d => d = .bl true }
theorem wsl_of {sts : List Stmt} (h : WS X A sts ρ n (LawE fun _ _ => False)) : WSL X A sts ρ n := fun ρ0 H0 σ H hh D hD => h ρ0 H0 σ H hh D
  ⟨fun _ _ _ _ z _ => z.elim, fun _ _ _ H' d v z _ r => by cases z; cases r; exact hD H', fun _ _ _ _ z _ => z.elim, fun _ _ _ _ z _ => z.elim⟩
theorem wsl_cons {st : Stmt} {sts : List Stmt} (h : WS1 X A st ρ n (LawE fun n ρ => WSL X A sts ρ n)) : WSL X A (st :: sts) ρ n := fun ρ0 H0 σ H hh D hD => by
  refine canSs.of (pss_cons scan sscan) ?_
  exact h ρ0 H0 σ H hh _ ⟨fun n' ρ' σ' H' z hh' => z ρ0 H0 σ' H' hh' D hD, fun _ _ _ H' d v z _ r => by cases z; cases r; exact hD H', fun _ _ _ _ z _ => z.elim, fun _ _ _ _ z _ => z.elim⟩
mutual
/-- no list within -/
def noL : D → Bool
  | .lst _ => false
  | .tup xs => noLs xs
  | .dct kvs => noLk kvs
  | .obj _ fs => noLf fs
  | _ => true
def noLs : List D → Bool
  | [] => true
  | x :: xs => noL x && noLs xs
def noLk : List (Key × D) → Bool
  | [] => true
  | (_, x) :: xs => noL x && noLk xs
def noLf : List (Str × D) → Bool
  | [] => true
  | (_, x) :: xs => noL x && noLf xs
end
section
variable {K : PySem.W.Frag} {M : Addr → Prop} {H H' : Hp} {q : Addr} {vs : List V}
mutual
theorem Rep.noL (hq : H q = some (.lst vs)) (hH : ∀ a, a ≠ q → H' a = H a) : ∀ (d : D) {v : V}, RD.noL d = true → Rep K M H v d → Rep K M H' v d
  | .non, _, _, r => by cases r; exact .non
  | .bl b, _, _, r => by cases r; exact .bl b
  | .int i, _, _, r => by cases r; exact .int i
  | .str x, _, _, r => by cases r; exact .str x
  | .raw v, _, _, r => by cases r; exact .raw v
  | .lst ds, _, h, r => by simp [RD.noL] at h
  | .tup ds, _, h, r => by
    cases r with
    | @tup a xs _ e ra =>
      refine .tup ?_ (RepAll.noL hq hH ds h ra)
      rcases e with ⟨m, e⟩ | e
      · have ne : a ≠ q := fun z => by
          rcases e with e | ⟨o, e⟩ <;> (rw [z, hq] at e; cases e)
        refine .inl ⟨m, ?_⟩
        rcases e with e | ⟨o, e⟩
        · exact .inl (by rw [hH a ne]; exact e)
        · exact .inr ⟨o, by rw [hH a ne]; exact e⟩
      · exact .inr e
  | .dct ds, _, h, r => by
    cases r with
    | @dct a xs _ m e ra => exact .dct m (by rw [hH a fun z => by rw [z, hq] at e; cases e]; exact e) (RepKV.noL hq hH ds h ra)
  | .obj C ds, _, h, r => by
    cases r with
    | @obj a _ dx xs _ m e ra => exact .obj m (by rw [hH a fun z => by rw [z, hq] at e; cases e]; exact e) (RepF.noL hq hH ds h ra)
theorem RepAll.noL (hq : H q = some (.lst vs)) (hH : ∀ a, a ≠ q → H' a = H a) : ∀ (ds : List D) {ws : List V}, noLs ds = true → RepAll K M H ws ds → RepAll K M H' ws ds
  | [], _, _, r => by cases r; exact .nil
  | d :: ds, _, h, r => by
    have h' : RD.noL d = true ∧ noLs ds = true := by simpa [noLs] using h
    cases r with
    | cons r1 r2 => exact .cons (Rep.noL hq hH d h'.1 r1) (RepAll.noL hq hH ds h'.2 r2)
theorem RepKV.noL (hq : H q = some (.lst vs)) (hH : ∀ a, a ≠ q → H' a = H a) : ∀ (ds : List (Key × D)) {ws : List (Key × V)}, noLk ds = true → RepKV K M H ws ds → RepKV K M H' ws ds
  | [], _, _, r => by cases r; exact .nil
  | (_, d) :: ds, _, h, r => by
    have h' : RD.noL d = true ∧ noLk ds = true := by simpa [noLk] using h
    cases r with
    | cons r1 r2 => exact .cons (Rep.noL hq hH d h'.1 r1) (RepKV.noL hq hH ds h'.2 r2)
theorem RepF.noL (hq : H q = some (.lst vs)) (hH : ∀ a, a ≠ q → H' a = H a) : ∀ (ds : List (Str × D)) {ws : List (Str × V)}, noLf ds = true → RepF K M H ws ds → RepF K M H' ws ds
  | [], _, _, r => by cases r; exact .nil
  | (_, d) :: ds, _, h, r => by
    have h' : RD.noL d = true ∧ noLf ds = true := by simpa [noLf] using h
    cases r with
    | cons r1 r2 => exact .cons (Rep.noL hq hH d h'.1 r1) (RepF.noL hq hH ds h'.2 r2)
end
end
/-- the names that no change of a list can touch -/
def keepL : En → En := List.map fun s => match s with
  | some (.dat d) => if noL d then some (.dat d) else none
  | _ => none
theorem owns_keepL : ∀ ρ : En, owns (keepL ρ) = []
  | [] => rfl
  | s :: ρ => by
    show addrs _ ++ owns (keepL ρ) = []
    rw [owns_keepL ρ, List.append_nil]
    match s with
    | none => rfl
    | some (.dat d) => dsimp only; split <;> rfl
    | some (.own p ds) => rfl
    | some (.ownK p ds) => rfl
theorem paired_keepL {K : PySem.W.Frag} {M M' : Addr → Prop} {H H' : Hp} {q : Addr} {vs : List V} (hM : ∀ a, M' a → M a) (hq : H q = some (.lst vs)) (hH : ∀ a, a ≠ q → H' a = H a) : ∀ {ρ : En} {σ : L2.St}, Paired (SlotR K M H) ρ σ → Paired (SlotR K M' H') (keepL ρ) σ
  | _, _, .nil => .nil
  | _, _, .cons (a := s) (b := v) r t => by
    refine .cons ?_ (paired_keepL hM hq hH t)
    match s, v, r with
    | none, _, _ => trivial
    | some (.own p ds), _, _ => trivial
    | some (.ownK p ds), _, _ => trivial
    | some (.dat d), none, r => exact r.elim
    | some (.dat d), some v, r =>
      show SlotR K M' H' (if noL d = true then some (.dat d) else none) (some v)
      by_cases h : noL d = true
      · rw [if_pos h]
        exact Rep.mono (fun a o m e => ⟨e, fun z => m (hM a z)⟩) d (Rep.noL hq hH d h r)
      · rw [if_neg h]; trivial
/-- o.append(e), o a list within other data; the names that hold no list stay -/
theorem wsl_append {o e : Expr} {apos cpos spos : Pos} {sts : List Stmt} (hl : WE X A o ρ n fun n' ρ' d => ∃ xs, d = .lst xs ∧ xs.length ≤ 1000 ∧ WE X A e ρ' n' fun n'' ρ'' y => WSL X A sts (keepL ρ'') n'')
    (hbase : attributeBase o "append" X.env (eval o X.env) = eval o X.env := by rfl)
    (hfew : ((backTo cpos (starEach [e] X.env)).all (fun x => !x.1) && (backToKw cpos (keywordEach [] X.env)).all (fun x => x.1.isSome)
      && decide (([e] : List Expr).length + ([] : List Keyword).length + (if ([] : List Keyword).isEmpty then 0 else 1) < 30)) = true := by rfl)
    (hline : (apos.endLine == cpos.line) = true := by rfl) (hs : starEach [e] X.env = (false, eval e X.env) :: starEach [] X.env := by rfl) (hplain : (backTo cpos (starEach [] X.env)).any (·.1) = false := by rfl)
    (hsw : swapsWith (.Call (.Attribute o "append" apos) [e] [] cpos) none spos.line X.env = pure false := by rfl) : WSL X A (.Expr (.Call (.Attribute o "append" apos) [e] [] cpos) spos :: sts) ρ n := by
  intro ρ0 H0 σ H hh D hD
  refine canSs.of (pss_cons (ps_expr (pe_bm PySem.F.plainAttrs_list PySem.F.slot_list_append PySem.F.type_list_append mt_append pcan (pa_cons pcan pa_nil hs) hbase hfew hline hs hplain) hsw) sscan) ?_
  refine hl ρ0 H0 σ H hh _ fun n1 ρ1 d v H1 h1 hh1 k1 r1 => ?_
  obtain ⟨xs, rfl, hz, h1⟩ := h1
  have r1' := r1
  cases r1 with
  | @lst q vs _ m e1 ra =>
    refine ⟨?_, ?_⟩
    · exact Or.inl ⟨rfl, vs, .of e1⟩
    · refine h1 ρ0 H0 σ H1 hh1 _ fun n2 ρ2 y w H2 h2 hh2 k2 r2 => ?_
      have e2 := (k2.up hh1.j q _ m e1)
      refine ⟨q, vs, w, rfl, rfl, e2.1, ?_, ?_⟩
      · rw [ra.length]; exact Nat.lt_of_le_of_lt hz (by rw [sizeLine_eq]; decide)
      · have same : ∀ a, a ≠ q → upd H2 q (.lst (vs ++ [w])) a = H2 a := fun a ha => upd_ne ha
        have hqW : ∀ a ∈ A.W, a ≠ q := fun a ha z => e2.2 (.inr (z ▸ ha))
        have mt : ∀ a, Mt A (keepL ρ2) a → Mt A ρ2 a := fun a z => by
          rcases z with z | z
          · rw [owns_keepL] at z; cases z
          · exact .inr z
        refine h2 (keepL ρ2) (upd H2 q (.lst (vs ++ [w]))) σ _ ⟨.refl, ⟨fun a ha hp => ?_, fun a ha => ?_, ?_⟩, ⟨paired_keepL mt e2.1 same hh2.sat.sl, ?_⟩⟩ D hD
        · rw [same a (hqW a ha)]; exact hh2.j.1 a ha hp
        · rw [same a (hqW a ha)]; exact hh2.j.2.1 a ha
        · have j := hh2.j.2.2
          cases hp : A.pen with
          | none => trivial
          | some pc =>
            obtain ⟨p, c⟩ := pc
            rw [hp] at j
            obtain ⟨j1, j2, j3, at_, rest, ns, f1, f2, rr⟩ := j
            exact ⟨j1, j2, j3, at_, rest, ns, by rw [same p (hqW p j1)]; exact f1, by rw [same c (hqW c j2)]; exact f2, rr⟩
        · rw [owns_keepL, List.nil_append]
          have := hh2.sat.nd
          rw [List.nodup_append] at this
          exact this.2.1
/-- the law behind the pen's making -/
theorem law_startL {rest : List Stmt} {D : Ends} {H : Hp} {m : Nat} {N : List Str} {a : Addr} {ns : List Int} (hN : N.length = m + 2) (hS : SqL X.K H a (ns.map V.int)) (hlen : ns.length ≤ 63) (hbits : ∀ z ∈ ns, z.natAbs < 2 ^ 1048576)
    (hrest : ∀ (A : Amb) (p c : Addr) (v : V), A.pen = some (p, c) → WSL X A rest (startL m v p) 1000000) (hD : ∀ H', D.rt (.bl true) H') :
    tSeq (tAsg (tCall (spPen X.K) [] E0 (tCons (tVar 0) tNil)) (gName 1)) (canSs X rest) D (L2.start N [.ref a]) H := by
  refine ⟨.ref a, ?_, a, ns, rfl, hS, hlen, hbits, fun p c H' old hp hc hpc pen => ?_⟩
  · rfl
  · obtain ⟨at_, rst, cs, e1, e2, r⟩ := pen
    have hs : (L2.start N [.ref a]).set 1 (some (.ref p)) = some (.ref a) :: some (.ref p) :: List.replicate m none := by
      unfold L2.start
      rw [hN]
      rfl
    show canSs X rest D ((L2.start N [.ref a]).set 1 (some (.ref p))) H'
    rw [hs]
    have ho : owns (startL m (.ref a) p) = [] := by
      show [] ++ ([] ++ owns (List.replicate m none)) = []
      rw [owns_none]; rfl
    refine hrest ⟨[p, c], H', some (p, c)⟩ p c (.ref a) rfl (startL m (.ref a) p) H' (some (.ref a) :: some (.ref p) :: List.replicate m none) H' ⟨.refl, ⟨fun _ _ _ => rfl, ?_, by simp, by simp, hpc, at_, rst, cs, e1, e2, r⟩, ⟨.cons (Rep.raw _) (.cons (Rep.raw _) (paired_none m)), ?_⟩⟩ D hD
    · intro b hb
      rcases List.mem_cons.mp hb with rfl | hb
      · rw [e1]; simp
      · rw [List.mem_singleton.mp hb, e2]; simp
    · rw [ho]
      simpa using hpc
end
end RD

/-! EV1: how data stand in the heap. -/
namespace EV
open PySem PySem.Spec PyProof.Rows L2
open RD (canE canT canW canA canK canS canSs canG canI PenAt KT ExK pcan tcan wcan acan sscan)

/-- what the data's numbers mean: classes, fields; how many draws a pen has -/
structure Wd where
  C : Nat → Addr
  fl : Nat → Str
  n0 : Nat
/-- the cells' addresses; others that may change and are no one's data -/
structure Ad where
  l : List Addr
  g : Addr → Prop
instance : Membership Addr Ad := ⟨fun φ a => a ∈ φ.l ∨ φ.g a⟩
def Ad.add (φ : Ad) (p : Addr) : Ad := ⟨φ.l ++ [p], φ.g⟩
theorem Ad.mem {φ : Ad} {a : Addr} : a ∈ φ ↔ a ∈ φ.l ∨ φ.g a := Iff.rfl
def keyD : D → Option Key
  | .int i => some (.inl i)
  | .str x => some (.inr (toStr x))
  | _ => none
mutual
inductive Rep (K : PySem.W.Frag) (W : Wd) (φ : Ad) (H : Hp) : V → D → Prop
  | non : Rep K W φ H .non .non
  | bl (b : Bool) : Rep K W φ H (.bl b) (.bl b)
  | int (i : Int) : Rep K W φ H (.int i) (.int i)
  | str (x : List Nat) : Rep K W φ H (.str (toStr x)) (.str x)
  | lst {a : Addr} {xs : List V} {ds : List D} : a ∉ φ → H a = some (.lst xs) → RepAll K W φ H xs ds → Rep K W φ H (.ref a) (.lst ds)
  | tup {a : Addr} {xs : List V} {ds : List D} : ((a ∉ φ ∧ Rd H a (.tup xs)) ∨ KT K a xs) → RepAll K W φ H xs ds → Rep K W φ H (.ref a) (.tup ds)
  | dct {a : Addr} {xs : List (Key × V)} {ds : List (D × D)} : a ∉ φ → H a = some (.dK xs) → RepKV K W φ H xs ds → Rep K W φ H (.ref a) (.dct ds)
  | obj {a dx : Addr} {c : Nat} {fs : List (Str × V)} {ds : List (Nat × D)} : a ∉ φ → H a = some (.ins (W.C c) dx fs) → RepF K W φ H fs ds → Rep K W φ H (.ref a) (.obj c ds)
  | cel {a : Addr} {i : Nat} : φ.l[i]? = some a → Rep K W φ H (.ref a) (.cel i)
inductive RepAll (K : PySem.W.Frag) (W : Wd) (φ : Ad) (H : Hp) : List V → List D → Prop
  | nil : RepAll K W φ H [] []
  | cons {v : V} {vs : List V} {d : D} {ds : List D} : Rep K W φ H v d → RepAll K W φ H vs ds → RepAll K W φ H (v :: vs) (d :: ds)
inductive RepKV (K : PySem.W.Frag) (W : Wd) (φ : Ad) (H : Hp) : List (Key × V) → List (D × D) → Prop
  | nil : RepKV K W φ H [] []
  | cons {q : Key} {k : D} {v : V} {vs : List (Key × V)} {d : D} {ds : List (D × D)} : keyD k = some q → Rep K W φ H v d → RepKV K W φ H vs ds → RepKV K W φ H ((q, v) :: vs) ((k, d) :: ds)
inductive RepF (K : PySem.W.Frag) (W : Wd) (φ : Ad) (H : Hp) : List (Str × V) → List (Nat × D) → Prop
  | nil : RepF K W φ H [] []
  | cons {k : Nat} {v : V} {vs : List (Str × V)} {d : D} {ds : List (Nat × D)} : Rep K W φ H v d → RepF K W φ H vs ds → RepF K W φ H ((W.fl k, v) :: vs) ((k, d) :: ds)
end
section
variable {K : PySem.W.Frag} {W : Wd} {φ φ' : Ad} {H H' : Hp}
/-- nothing of what is data has changed -/
structure Kp (φ : Ad) (H : Hp) (φ' : Ad) (H' : Hp) : Prop where
  pre : ∀ (i : Nat) (a : Addr), φ.l[i]? = some a → φ'.l[i]? = some a
  keep : ∀ (a : Addr) (o : HO), a ∉ φ → H a = some o → H' a = some o ∧ a ∉ φ'
theorem Kp.refl : Kp φ H φ H := ⟨fun _ _ h => h, fun _ _ h e => ⟨e, h⟩⟩
theorem Kp.trans {φ'' : Ad} {H'' : Hp} (a : Kp φ H φ' H') (b : Kp φ' H' φ'' H'') : Kp φ H φ'' H'' :=
  ⟨fun i x h => b.pre i x (a.pre i x h), fun x o h e => by
    obtain ⟨e1, h1⟩ := a.keep x o h e
    exact b.keep x o h1 e1⟩
theorem Kp.rd {a : Addr} {u : HO} (h : Kp φ H φ' H') (m : a ∉ φ) (r : Rd H a u) : a ∉ φ' ∧ Rd H' a u := by
  rcases r with r | ⟨o, r⟩
  · obtain ⟨e, m'⟩ := h.keep a _ m r
    exact ⟨m', .inl e⟩
  · obtain ⟨e, m'⟩ := h.keep a _ m r
    exact ⟨m', .inr ⟨o, e⟩⟩
mutual
theorem Rep.up (h : Kp φ H φ' H') : ∀ (d : D) {v : V}, Rep K W φ H v d → Rep K W φ' H' v d
  | .non, _, r => by cases r; exact .non
  | .bl b, _, r => by cases r; exact .bl b
  | .int i, _, r => by cases r; exact .int i
  | .str x, _, r => by cases r; exact .str x
  | .lst ds, _, r => by
    cases r with
    | lst m q ra =>
      obtain ⟨e, m'⟩ := h.keep _ _ m q
      exact .lst m' e (RepAll.up h ds ra)
  | .tup ds, _, r => by
    cases r with
    | tup q ra =>
      refine .tup ?_ (RepAll.up h ds ra)
      rcases q with ⟨m, q⟩ | q
      · exact .inl (h.rd m q)
      · exact .inr q
  | .dct ds, _, r => by
    cases r with
    | dct m q ra =>
      obtain ⟨e, m'⟩ := h.keep _ _ m q
      exact .dct m' e (RepKV.up h ds ra)
  | .obj c ds, _, r => by
    cases r with
    | obj m q ra =>
      obtain ⟨e, m'⟩ := h.keep _ _ m q
      exact .obj m' e (RepF.up h ds ra)
  | .cel i, _, r => by
    cases r with
    | cel e => exact .cel (h.pre _ _ e)
theorem RepAll.up (h : Kp φ H φ' H') : ∀ (ds : List D) {vs : List V}, RepAll K W φ H vs ds → RepAll K W φ' H' vs ds
  | [], _, r => by cases r; exact .nil
  | d :: ds, _, r => by
    cases r with
    | cons r1 r2 => exact .cons (Rep.up h d r1) (RepAll.up h ds r2)
theorem RepKV.up (h : Kp φ H φ' H') : ∀ (ds : List (D × D)) {vs : List (Key × V)}, RepKV K W φ H vs ds → RepKV K W φ' H' vs ds
  | [], _, r => by cases r; exact .nil
  | (k, d) :: ds, _, r => by
    cases r with
    | cons e r1 r2 => exact .cons e (Rep.up h d r1) (RepKV.up h ds r2)
theorem RepF.up (h : Kp φ H φ' H') : ∀ (ds : List (Nat × D)) {vs : List (Str × V)}, RepF K W φ H vs ds → RepF K W φ' H' vs ds
  | [], _, r => by cases r; exact .nil
  | (k, d) :: ds, _, r => by
    cases r with
    | cons r1 r2 => exact .cons (Rep.up h d r1) (RepF.up h ds r2)
end
theorem RepAll.length : ∀ {vs : List V} {ds : List D}, RepAll K W φ H vs ds → vs.length = ds.length
  | _, _, .nil => rfl
  | _, _, .cons _ t => congrArg Nat.succ (RepAll.length t)
theorem RepAll.get : ∀ {vs : List V} {ds : List D} {i : Nat} {d : D}, RepAll K W φ H vs ds → ds[i]? = some d → ∃ v, vs[i]? = some v ∧ Rep K W φ H v d
  | _, _, _, _, .nil, e => by simp at e
  | _, _, 0, _, .cons r _, e => by simp at e; subst e; exact ⟨_, rfl, r⟩
  | _, _, i + 1, d, .cons _ t, e => by
    obtain ⟨v, h1, h2⟩ := RepAll.get (i := i) (d := d) t (by simpa using e)
    exact ⟨v, by simpa using h1, h2⟩
theorem RepAll.append : ∀ {vs ws : List V} {ds es : List D}, RepAll K W φ H vs ds → RepAll K W φ H ws es → RepAll K W φ H (vs ++ ws) (ds ++ es)
  | _, _, _, _, .nil, s => s
  | _, _, _, _, .cons r t, s => .cons r (RepAll.append t s)
theorem RepAll.set {v : V} {d : D} (r : Rep K W φ H v d) : ∀ {vs : List V} {ds : List D} (i : Nat), RepAll K W φ H vs ds → RepAll K W φ H (vs.set i v) (ds.set i d)
  | _, _, _, .nil => .nil
  | _, _, 0, .cons _ t => .cons r t
  | _, _, i + 1, .cons q t => .cons q (RepAll.set r i t)
theorem RepAll.flat {vs : List V} {ds : List D} (r : RepAll K W φ H vs ds) : ∀ m : Nat, RepAll K W φ H (List.replicate m vs).flatten (List.replicate m ds).flatten
  | 0 => .nil
  | m + 1 => by
    rw [List.replicate_succ, List.replicate_succ, List.flatten_cons, List.flatten_cons]
    exact r.append (RepAll.flat r m)

/-! ### cells -/
/-- an exception's fields: by name, in no order -/
def FldR (K : PySem.W.Frag) (W : Wd) (φ : Ad) (H : Hp) (vs : List (Str × V)) (fs : List (Nat × D)) : Prop := (∀ p, p ∈ fs → ∃ v, Rep K W φ H v p.2) ∧ ∀ f d, fs.lookup f = some d → ∃ v, vs.lookup (W.fl f) = some v ∧ Rep K W φ H v d
theorem FldR.up {vs : List (Str × V)} {fs : List (Nat × D)} (h : Kp φ H φ' H') (r : FldR K W φ H vs fs) : FldR K W φ' H' vs fs :=
  ⟨fun p m => (r.1 p m).imp fun _ q => q.up h, fun f d l => (r.2 f d l).imp fun _ q => ⟨q.1, q.2.up h⟩⟩
def CellR (K : PySem.W.Frag) (W : Wd) (φ : Ad) (H : Hp) (a : Addr) : Cell → Prop
  | .lst ds => ∃ vs, H a = some (.lst vs) ∧ RepAll K W φ H vs ds
  | .dct kvs => ∃ vs, H a = some (.dK vs) ∧ RepKV K W φ H vs kvs
  | .ins c fs => ∃ dx vs, H a = some (.ins (W.C c) dx vs) ∧ RepF K W φ H vs fs
  | .exc c fs => ∃ dx vs, H a = some (ExK (.ref (W.C c)) (some dx) a) ∧ dx ∉ φ ∧ H dx = some (.xd vs) ∧ FldR K W φ H vs fs
  | .pen k => k ≤ W.n0 ∧ ∃ c, c ∉ φ ∧ PenAt a c (W.n0 - k) H
theorem CellR.some {a : Addr} {c : Cell} (h : CellR K W φ H a c) : H a ≠ none := by
  cases c with
  | lst ds => obtain ⟨_, e, _⟩ := h; rw [e]; simp
  | dct ds => obtain ⟨_, e, _⟩ := h; rw [e]; simp
  | ins c ds => obtain ⟨_, _, e, _⟩ := h; rw [e]; simp
  | exc c ds => obtain ⟨_, _, e, _⟩ := h; rw [e]; simp
  | pen k => obtain ⟨_, _, _, _, _, _, e, _⟩ := h; rw [e]; simp
structure State (K : PySem.W.Frag) (W : Wd) (φ : Ad) (s : S) (H : Hp) : Prop where
  len : φ.l.length = s.cells.length
  nd : φ.l.Nodup
  at_ : ∀ (i : Nat) (c : Cell) (a : Addr), s.cells[i]? = some c → φ.l[i]? = some a → CellR K W φ H a c
  gh : ∀ a, φ.g a → H a ≠ none
  ng : ∀ a, φ.g a → a ∉ φ.l
theorem State.some {s : S} (h : State K W φ s H) {a : Addr} (m : a ∈ φ) : H a ≠ none := by
  rcases m with m | m
  · obtain ⟨i, hi, e⟩ := List.getElem_of_mem m
    have h1 : i < s.cells.length := by rw [← h.len]; exact hi
    exact (h.at_ i _ a (List.getElem?_eq_getElem h1) (by rw [List.getElem?_eq_getElem hi, e])).some
  · exact h.gh a m
theorem State.new {s : S} {p : Addr} (h : State K W φ s H) (hp : H p = none) : p ∉ φ := fun m => h.some m hp
/-- cells whose own objects stand -/
theorem CellR.up {a : Addr} {c : Cell} (h : Kp φ H φ' H') (e : H' a = H a) (x : CellR K W φ H a c) : CellR K W φ' H' a c := by
  cases c with
  | lst ds => obtain ⟨vs, e1, r⟩ := x; exact ⟨vs, e.trans e1, r.up h⟩
  | dct ds => obtain ⟨vs, e1, r⟩ := x; exact ⟨vs, e.trans e1, r.up h⟩
  | ins c ds => obtain ⟨dx, vs, e1, r⟩ := x; exact ⟨dx, vs, e.trans e1, r.up h⟩
  | exc c ds =>
    obtain ⟨dx, vs, e1, m, e2, r⟩ := x
    obtain ⟨e3, m3⟩ := h.keep _ _ m e2
    exact ⟨dx, vs, e.trans e1, m3, e3, r.up h⟩
  | pen k =>
    obtain ⟨hk, c, m, at_, rest, ns, e1, e2, r⟩ := x
    obtain ⟨e3, m3⟩ := h.keep _ _ m e2
    exact ⟨hk, c, m3, at_, rest, ns, e.trans e1, e3, r⟩
/-- a new object that is no cell -/
theorem Kp.alloc {p : Addr} {o : HO} (hp : H p = none) : Kp φ H φ (upd H p o) := ⟨fun _ _ h => h, fun a u h e => ⟨by rw [upd_ne (ne_of_none e hp)]; exact e, h⟩⟩
theorem State.alloc {s : S} {p : Addr} {o : HO} (h : State K W φ s H) (hp : H p = none) : State K W φ s (upd H p o) :=
  ⟨h.len, h.nd, fun i c a h1 h2 => (h.at_ i c a h1 h2).up (.alloc hp) (upd_ne fun e => (h.at_ i c a h1 h2).some (by rw [e]; exact hp)), fun a ha => by rw [upd_ne fun e => h.gh a ha (by rw [e]; exact hp)]; exact h.gh a ha, h.ng⟩
theorem Ad.mem_add {φ : Ad} {p a : Addr} (h : a ∈ φ.add p) : a ∈ φ ∨ a = p := by
  rcases h with h | h
  · rcases List.mem_append.mp (show a ∈ φ.l ++ [p] from h) with z | z
    · exact .inl (.inl z)
    · exact .inr (List.mem_singleton.mp z)
  · exact .inl (.inr h)
theorem Ad.get_add {φ : Ad} {p : Addr} {i : Nat} (hi : i < φ.l.length) : (φ.add p).l[i]? = φ.l[i]? := List.getElem?_append_left hi
/-- a new object that is a cell -/
theorem Kp.cell {s : S} {p : Addr} {o : HO} (h : State K W φ s H) (hp : H p = none) : Kp φ H (φ.add p) (upd H p o) := by
  refine ⟨fun i a e => ?_, fun a u m e => ⟨by rw [upd_ne (ne_of_none e hp)]; exact e, fun z => ?_⟩⟩
  · rw [Ad.get_add (List.getElem?_eq_some_iff.mp e).1]; exact e
  · rcases Ad.mem_add z with z | z
    · exact m z
    · exact ne_of_none e hp z
theorem State.cell {s : S} {p : Addr} {o : HO} {c : Cell} (h : State K W φ s H) (hp : H p = none) (hc : CellR K W (φ.add p) (upd H p o) p c) : State K W (φ.add p) ⟨s.cells ++ [c], s.mw, s.fb, s.lk⟩ (upd H p o) := by
  refine ⟨by simp [Ad.add, h.len], ?_, fun i c' a h1 h2 => ?_, fun a ha => ?_, fun a ha hm => ?_⟩
  · show (φ.l ++ [p]).Nodup
    rw [List.nodup_append]
    refine ⟨h.nd, by simp, fun a ha b hb => ?_⟩
    rw [List.mem_singleton] at hb
    subst hb
    exact fun e => h.new hp (.inl (e ▸ ha))
  · by_cases hi : i < s.cells.length
    · rw [show (⟨s.cells ++ [c], s.mw, s.fb, s.lk⟩ : S).cells = s.cells ++ [c] from rfl, List.getElem?_append_left hi] at h1
      rw [Ad.get_add (by rw [h.len]; exact hi)] at h2
      exact (h.at_ i c' a h1 h2).up (.cell h hp) (upd_ne fun e => (h.at_ i c' a h1 h2).some (by rw [e]; exact hp))
    · rw [show (⟨s.cells ++ [c], s.mw, s.fb, s.lk⟩ : S).cells = s.cells ++ [c] from rfl, List.getElem?_append_right (by omega)] at h1
      rw [show (φ.add p).l = φ.l ++ [p] from rfl, List.getElem?_append_right (by rw [h.len]; omega), h.len] at h2
      cases q : i - s.cells.length with
      | zero =>
        rw [q] at h1 h2
        cases h1; cases h2
        exact hc
      | succ n => rw [q] at h1; cases h1
  · rw [upd_ne fun e => h.gh a ha (by rw [e]; exact hp)]; exact h.gh a ha
  · rcases List.mem_append.mp (show a ∈ φ.l ++ [p] from hm) with z | z
    · exact h.ng a ha z
    · rw [List.mem_singleton.mp z] at ha
      exact h.gh p ha hp
end

/-! ### from one state to a later one -/
structure St3 where
  φ : Ad
  s : S
  H : Hp
structure Up (a b : St3) : Prop where
  kp : Kp a.φ a.H b.φ b.H
  ge : b.φ.g = a.φ.g
  gk : ∀ (x : Addr) (o : HO), a.φ.g x → a.H x = some o → b.H x = some o
  fb : b.s.fb = a.s.fb
  lk : b.s.lk = a.s.lk
  mw : b.s.mw ≤ a.s.mw
  wr : ∀ (i : Nat) (c c' : Cell), i < a.s.fb → i < b.s.mw → a.s.cells[i]? = some c → b.s.cells[i]? = some c' → ∀ n, belowC n c = true → belowC n c' = true
  lkd : ∀ (i : Nat) (c : Cell), i ∈ a.s.lk → a.s.cells[i]? = some c → b.s.cells[i]? = some c
theorem Up.refl (a : St3) : Up a a := ⟨.refl, rfl, fun _ _ _ e => e, rfl, rfl, Nat.le_refl _, fun i c c' _ _ e e' n h => by rw [e] at e'; cases e'; exact h, fun _ _ _ e => e⟩
theorem Up.len {K : PySem.W.Frag} {W : Wd} {a b : St3} (h : Kp a.φ a.H b.φ b.H) (ha : State K W a.φ a.s a.H) (hb : State K W b.φ b.s b.H) : a.s.cells.length ≤ b.s.cells.length := by
  rw [← ha.len, ← hb.len]
  cases q : a.φ.l.length with
  | zero => exact Nat.zero_le _
  | succ n =>
    have hn : n < a.φ.l.length := by omega
    have := h.pre n a.φ.l[n] (List.getElem?_eq_getElem hn)
    have := (List.getElem?_eq_some_iff.mp this).1
    omega
theorem Up.trans {K : PySem.W.Frag} {W : Wd} {a b c : St3} (hb : State K W b.φ b.s b.H) (x : Up a b) (y : Up b c) (ha : State K W a.φ a.s a.H) : Up a c := by
  refine ⟨x.kp.trans y.kp, y.ge.trans x.ge, fun a o m e => y.gk a o (by rw [x.ge]; exact m) (x.gk a o m e), y.fb.trans x.fb, y.lk.trans x.lk, Nat.le_trans y.mw x.mw, fun i q q' h1 h2 e e' n hn => ?_, fun i q hi e => ?_⟩
  · have hl : i < b.s.cells.length := Nat.lt_of_lt_of_le (List.getElem?_eq_some_iff.mp e).1 (Up.len x.kp ha hb)
    have e2 := List.getElem?_eq_getElem hl
    refine y.wr i _ q' (by rw [x.fb]; exact h1) h2 e2 e' n ?_
    exact x.wr i q _ h1 (Nat.lt_of_lt_of_le h2 y.mw) e e2 n hn
  · exact y.lkd i q (by rw [x.lk]; exact hi) (x.lkd i q hi e)
theorem Up.alloc {φ : Ad} {s : S} {H : Hp} {p : Addr} {o : HO} (hp : H p = none) : Up ⟨φ, s, H⟩ ⟨φ, s, upd H p o⟩ := ⟨.alloc hp, rfl, fun a o _ e => (upd_ne (ne_of_none e hp)).trans e, rfl, rfl, Nat.le_refl _, fun i c c' _ _ e e' n h => by rw [e] at e'; cases e'; exact h, fun _ _ _ e => e⟩
theorem Up.cell {K : PySem.W.Frag} {W : Wd} {φ : Ad} {s : S} {H : Hp} {p : Addr} {o : HO} {c : Cell} (h : State K W φ s H) (hp : H p = none) : Up ⟨φ, s, H⟩ ⟨φ.add p, ⟨s.cells ++ [c], s.mw, s.fb, s.lk⟩, upd H p o⟩ := by
  have g : ∀ i q, s.cells[i]? = some q → (s.cells ++ [c])[i]? = some q := fun i q e => by
    rw [List.getElem?_append_left (List.getElem?_eq_some_iff.mp e).1]; exact e
  refine ⟨.cell h hp, rfl, fun a o _ e => (upd_ne (ne_of_none e hp)).trans e, rfl, rfl, Nat.le_refl _, fun i q q' _ _ e e' n hn => ?_, fun i q _ e => g i q e⟩
  have := g i q e
  rw [show (⟨s.cells ++ [c], s.mw, s.fb, s.lk⟩ : S).cells = s.cells ++ [c] from rfl] at e'
  rw [this] at e'
  cases e'
  exact hn

/-! ### slots -/
def SlotR (K : PySem.W.Frag) (W : Wd) (φ : Ad) (H : Hp) : Option D → Option V → Prop
  | none, _ => True
  | some d, some v => Rep K W φ H v d
  | some _, none => False
theorem SlotR.up {K : PySem.W.Frag} {W : Wd} {φ φ' : Ad} {H H' : Hp} (h : Kp φ H φ' H') : ∀ {o : Option D} {v : Option V}, SlotR K W φ H o v → SlotR K W φ' H' o v
  | none, none, _ => trivial
  | none, some _, _ => trivial
  | some d, some v, r => Rep.up h d r
theorem slot_get {K : PySem.W.Frag} {W : Wd} {φ : Ad} {H : Hp} : ∀ {ρ : Rho} {σ : L2.St} {i : Nat} {d : D}, Paired (SlotR K W φ H) ρ σ → ρ[i]? = some (some d) → ∃ v, σ[i]? = some (some v) ∧ Rep K W φ H v d
  | _, _, _, _, .nil, e => by simp at e
  | _, _, 0, d, .cons (b := b) r _, e => by
    have e' := Option.some.inj (show some _ = some (some d) from e)
    subst e'
    cases b with
    | none => exact r.elim
    | some v => exact ⟨v, rfl, r⟩
  | _, _, i + 1, d, .cons _ t, e => by
    obtain ⟨v, h1, h2⟩ := slot_get (i := i) (d := d) t (by simpa using e)
    exact ⟨v, by simpa using h1, h2⟩

/-! ### the judgements -/
/-- what is wished of an exception -/
def wish (K : PySem.W.Frag) (W : Wd) (b : St3) (Ef : Nat → List (Nat × D) → S → Prop) : XK := fun cls d H' => ∃ (c : Nat) (fs : List (Nat × D)) (φ' : Ad) (s' : S) (dx : Addr) (vs : List (Str × V)),
  cls = .ref (W.C c) ∧ d = some dx ∧ Ef c fs s' ∧ State K W φ' s' H' ∧ Up b ⟨φ', s', H'⟩ ∧ dx ∉ φ' ∧ H' dx = some (.xd vs) ∧ FldR K W φ' H' vs fs
/-- an exception of a call reaches what is wanted -/
def XP (X : Cx) (W : Wd) (σ : L2.St) (b : St3) (Ef : Nat → List (Nat × D) → S → Prop) : Prop := ∀ (pins : List (Addr × Obj)) (H : Hp) (s : Shared) (e : Value) (s1 : Shared), Inv X pins σ H s → CX X.prog X.w X.stack H s (wish X.K W b Ef) e s1 → X.xe e s1
theorem XP.never {X : Cx} {W : Wd} {σ : L2.St} {b : St3} : XP X W σ b fun _ _ _ => False := by
  rintro pins H s e s1 I ⟨_, _, _, _, _, _, _, _, _, _, _, _, ⟨_, _, _, _, _, _, _, _, f, _⟩⟩
  exact f.elim
structure Here (X : Cx) (W : Wd) (b : St3) (φ : Ad) (ρ : Rho) (s : S) (σ : L2.St) (H : Hp) : Prop where
  st : State X.K W φ s H
  sl : Paired (SlotR X.K W φ H) ρ σ
  up : Up b ⟨φ, s, H⟩
  b0 : State X.K W b.φ b.s b.H
theorem Here.on {X : Cx} {W : Wd} {b : St3} {φ φ' : Ad} {ρ : Rho} {s s' : S} {σ : L2.St} {H H' : Hp} (h : Here X W b φ ρ s σ H) (st : State X.K W φ' s' H') (u : Up ⟨φ, s, H⟩ ⟨φ', s', H'⟩) : Here X W b φ' ρ s' σ H' :=
  ⟨st, RD.paired_mono (fun _ _ r => r.up u.kp) h.sl, Up.trans (b := ⟨φ, s, H⟩) h.st h.up u h.b0, h.b0⟩
theorem Here.alloc {X : Cx} {W : Wd} {b : St3} {φ : Ad} {ρ : Rho} {s : S} {σ : L2.St} {H : Hp} {p : Addr} {o : HO} (h : Here X W b φ ρ s σ H) (hp : H p = none) : Here X W b φ ρ s σ (upd H p o) := h.on (h.st.alloc hp) (.alloc hp)
def CE (X : Cx) (W : Wd) (e : Expr) (f : Kv) : Prop := ∀ (b : St3) (φ : Ad) (ρ : Rho) (s : S) (σ : L2.St) (H : Hp) (k : D → S → T) (P : Out → S → Prop) (Ef : Nat → List (Nat × D) → S → Prop) (Q : VK), Here X W b φ ρ s σ H → XP X W σ b Ef → Good P Ef (f ρ s k) →
  (∀ φ' d v s' H', Here X W b φ' ρ s' σ H' → Up ⟨φ, s, H⟩ ⟨φ', s', H'⟩ → Rep X.K W φ' H' v d → Good P Ef (k d s') → Q v H') → canE X e σ H Q
def CA (X : Cx) (W : Wd) (es : List Expr) (f : Rho → S → (List D → S → T) → T) : Prop := ∀ (b : St3) (φ : Ad) (ρ : Rho) (s : S) (σ : L2.St) (H : Hp) (k : List D → S → T) (P : Out → S → Prop) (Ef : Nat → List (Nat × D) → S → Prop) (Q : List V → Hp → Prop), Here X W b φ ρ s σ H → XP X W σ b Ef → Good P Ef (f ρ s k) →
  (∀ φ' d v s' H', d.length = es.length → Here X W b φ' ρ s' σ H' → Up ⟨φ, s, H⟩ ⟨φ', s', H'⟩ → RepAll X.K W φ' H' v d → Good P Ef (k d s') → Q v H') → canA X es σ H Q
def CT (X : Cx) (W : Wd) (e : Expr) (f : Rho → S → (Bool → S → T) → T) : Prop := ∀ (b : St3) (φ : Ad) (ρ : Rho) (s : S) (σ : L2.St) (H : Hp) (k : Bool → S → T) (P : Out → S → Prop) (Ef : Nat → List (Nat × D) → S → Prop) (Q : Bool → Hp → Prop), Here X W b φ ρ s σ H → XP X W σ b Ef → Good P Ef (f ρ s k) →
  (∀ φ' x s' H', Here X W b φ' ρ s' σ H' → Up ⟨φ, s, H⟩ ⟨φ', s', H'⟩ → Good P Ef (k x s') → Q x H') → canT X e σ H Q
def CW (X : Cx) (W : Wd) (e : Expr) (f : Rho → S → (Bool → S → T) → T) : Prop := ∀ (b : St3) (φ : Ad) (ρ : Rho) (s : S) (σ : L2.St) (H : Hp) (k : Bool → S → T) (P : Out → S → Prop) (Ef : Nat → List (Nat × D) → S → Prop) (Q : Bool → Hp → Prop), Here X W b φ ρ s σ H → XP X W σ b Ef → Good P Ef (f ρ s k) →
  (∀ φ' x s' H', Here X W b φ' ρ s' σ H' → Up ⟨φ, s, H⟩ ⟨φ', s', H'⟩ → Good P Ef (k x s') → Q x H') → canW X e σ H Q
end EV

/-! EV2: expressions: what the small language tells is what the machine does. -/
namespace EV
open PySem PySem.Spec PyProof.Rows L2
open RD (canE canT canW canA canK canS canSs canG canI PenAt KT ExK pcan tcan wcan acan sscan Rm)

section
variable {X : Cx} {W : Wd} {b : St3} {φ : Ad} {ρ : Rho} {s : S} {σ : L2.St} {H : Hp}
/-- what an operation may come to: the same data state, at most new objects -/
def Fin (X : Cx) (W : Wd) (b : St3) (φ : Ad) (ρ : Rho) (s : S) (σ : L2.St) (H : Hp) (d : D) (Q : VK) : Prop := ∀ v H', Here X W b φ ρ s σ H' → Up ⟨φ, s, H⟩ ⟨φ, s, H'⟩ → Rep X.K W φ H' v d → Q v H'
theorem Fin.now {d : D} {v : V} {Q : VK} (f : Fin X W b φ ρ s σ H d Q) (h : Here X W b φ ρ s σ H) (r : Rep X.K W φ H v d) : Q v H := f v H h (.refl _) r
theorem Fin.new {d : D} {v : V} {p : Addr} {o : HO} {Q : VK} (f : Fin X W b φ ρ s σ H d Q) (h : Here X W b φ ρ s σ H) (hp : H p = none) (r : Rep X.K W φ (upd H p o) v d) : Q v (upd H p o) := f v _ (h.alloc hp) (.alloc hp) r
theorem RepKV.length {K : PySem.W.Frag} : ∀ {vs : List (Key × V)} {ds : List (D × D)}, RepKV K W φ H vs ds → vs.length = ds.length
  | _, _, .nil => rfl
  | _, _, .cons _ _ t => congrArg Nat.succ (RepKV.length t)
/-- a list to be read -/
theorem items_lst {d : D} {xs : List D} {v : V} (h : Here X W b φ ρ s σ H) (r : Rep X.K W φ H v d) (e : isLst s d = some xs) : ∃ a vs, v = .ref a ∧ H a = some (.lst vs) ∧ RepAll X.K W φ H vs xs := by
  cases d with
  | lst ds =>
    cases e
    cases r with
    | lst m q ra => exact ⟨_, _, rfl, q, ra⟩
  | cel i =>
    cases r with
    | cel z =>
      simp only [isLst] at e
      split at e
      · rename_i ys hc
        cases e
        obtain ⟨vs, q, ra⟩ := h.st.at_ i _ _ hc z
        exact ⟨_, vs, rfl, q, ra⟩
      · cases e
  | _ => simp [isLst] at e
theorem items_seq {d : D} {xs : List D} {v : V} (h : Here X W b φ ρ s σ H) (r : Rep X.K W φ H v d) (e : items s d = some xs) : ∃ a vs, v = .ref a ∧ (SqL X.K H a vs ∨ SqT X.K H a vs) ∧ RepAll X.K W φ H vs xs := by
  cases d with
  | tup ds =>
    cases e
    cases r with
    | tup q ra =>
      refine ⟨_, _, rfl, .inr ?_, ra⟩
      rcases q with ⟨_, q⟩ | q
      · exact .inl q
      · exact .inr q
  | lst ds =>
    obtain ⟨a, vs, e1, e2, e3⟩ := items_lst h r (show isLst s (.lst ds) = some xs from e)
    exact ⟨a, vs, e1, .inl (.of e2), e3⟩
  | cel i =>
    obtain ⟨a, vs, e1, e2, e3⟩ := items_lst h r (show isLst s (.cel i) = some xs from e)
    exact ⟨a, vs, e1, .inl (.of e2), e3⟩
  | _ => simp [items] at e
theorem Here.notin (h : Here X W b φ ρ s σ H) {p : Addr} (hp : H p = none) : p ∉ φ := h.st.new hp
theorem lst_new {p : Addr} {vs : List V} {ds : List D} (h : Here X W b φ ρ s σ H) (hp : H p = none) (ra : RepAll X.K W φ H vs ds) : Rep X.K W φ (upd H p (.lst vs)) (.ref p) (.lst ds) := .lst (h.notin hp) upd_same (ra.up (.alloc hp))
theorem tup_new {p : Addr} {vs : List V} {ds : List D} (h : Here X W b φ ρ s σ H) (hp : H p = none) (ra : RepAll X.K W φ H vs ds) : Rep X.K W φ (upd H p (.tup vs)) (.ref p) (.tup ds) := .tup (.inl ⟨h.notin hp, .inl upd_same⟩) (ra.up (.alloc hp))
theorem okLen_le {n : Nat} (h : okLen n = true) : n ≤ 100000 := of_decide_eq_true h
/-- data read through -/
theorem rdc_rep {d : D} {v : V} (h : Here X W b φ ρ s σ H) (r : Rep X.K W φ H v d) : (∃ xs a vs, rdc s d = .lst xs ∧ v = .ref a ∧ H a = some (.lst vs) ∧ RepAll X.K W φ H vs xs) ∨ (rdc s d = d ∧ ∀ xs, d ≠ .lst xs) := by
  cases d with
  | lst ds =>
    obtain ⟨a, vs, e1, e2, e3⟩ := items_lst h r (show isLst s (.lst ds) = some ds from rfl)
    exact .inl ⟨ds, a, vs, rfl, e1, e2, e3⟩
  | cel i =>
    cases hc : s.cells[i]? with
    | none => exact .inr ⟨by simp [rdc, hc], by simp⟩
    | some c =>
      cases c with
      | lst xs =>
        obtain ⟨a, vs, e1, e2, e3⟩ := items_lst h r (show isLst s (.cel i) = some xs by simp [isLst, hc])
        exact .inl ⟨xs, a, vs, by simp [rdc, hc], e1, e2, e3⟩
      | dct _ => exact .inr ⟨by simp [rdc, hc], by simp⟩
      | ins _ _ => exact .inr ⟨by simp [rdc, hc], by simp⟩
      | exc _ _ => exact .inr ⟨by simp [rdc, hc], by simp⟩
      | pen _ => exact .inr ⟨by simp [rdc, hc], by simp⟩
  | _ => exact .inr ⟨rfl, by simp⟩
theorem repAll_map {γ : Type} {f : D → Option γ} {Rv : V → γ → Prop} : ∀ {ds : List D} {vs : List V} {ys : List γ}, RepAll X.K W φ H vs ds → mapO f ds = some ys → (∀ d v y, d ∈ ds → Rep X.K W φ H v d → f d = some y → Rv v y) → Paired Rv vs ys
  | [], _, _, .nil, e, _ => by cases e; exact .nil
  | d :: ds, _, _, .cons r t, e, h => by
    simp only [mapO] at e
    split at e
    · rename_i y ys e1 e2
      cases e
      exact .cons (h _ _ _ (List.mem_cons_self ..) r e1) (repAll_map t e2 fun d v y hd => h d v y (List.mem_cons_of_mem _ hd))
    · cases e
theorem rd_all {M : Addr → Prop} : ∀ {vs : List V} {ys : List RD.D}, Paired (RD.Rep X.K M H) vs ys → RD.RepAll X.K M H vs ys
  | _, _, .nil => .nil
  | _, _, .cons r t => .cons r (rd_all t)
theorem rd_kv {g : D → Option RD.D} (hg : ∀ d v y, Rep X.K W φ H v d → g d = some y → RD.Rep X.K (fun _ => False) H v y) : ∀ {kvs : List (D × D)} {vs : List (Key × V)} {ys : List (Key × RD.D)}, RepKV X.K W φ H vs kvs → mapO (fun p => match p.1 with
      | .int i => (g p.2).map fun y => ((.inl i : Key), y)
      | .str i => (g p.2).map fun y => ((.inr (toStr i) : Key), y)
      | _ => none) kvs = some ys → RD.RepKV X.K (fun _ => False) H vs ys
  | [], _, _, .nil, e => by cases e; exact .nil
  | (k, d) :: kvs, _, _, .cons hk r t, e => by
    simp only [mapO] at e
    split at e
    · rename_i y ys e1 e2
      cases e
      have t2 := rd_kv hg t e2
      cases k with
      | int i =>
        cases hk
        simp only [Option.map_eq_some_iff] at e1
        obtain ⟨y', e1, rfl⟩ := e1
        exact .cons (hg _ _ _ r e1) t2
      | str i =>
        cases hk
        simp only [Option.map_eq_some_iff] at e1
        obtain ⟨y', e1, rfl⟩ := e1
        exact .cons (hg _ _ _ r e1) t2
      | _ => simp [keyD] at hk
    · cases e
theorem rdD_rep (h : Here X W b φ ρ s σ H) : ∀ (n : Nat) (d : D) {v : V} {y : RD.D}, Rep X.K W φ H v d → rdD s n d = some y → RD.Rep X.K (fun _ => False) H v y
  | 0, _, _, _, _, e => by cases e
  | n + 1, d, v, y, r, e => by
    have ih := rdD_rep h n
    have all : ∀ {xs : List D} {vs : List V} {ys : List RD.D}, RepAll X.K W φ H vs xs → mapO (rdD s n) xs = some ys → RD.RepAll X.K (fun _ => False) H vs ys := fun ra e => rd_all (repAll_map (Rv := RD.Rep X.K (fun _ => False) H) ra e fun d v y _ r e => ih d r e)
    rcases rdc_rep h r with ⟨xs, a, vs, e0, rfl, q, ra⟩ | ⟨e0, hn⟩
    · simp only [rdD, e0] at e
      simp only [Option.map_eq_some_iff] at e
      obtain ⟨ys, e1, rfl⟩ := e
      exact .lst (fun z => z) q (all ra e1)
    · simp only [rdD, e0] at e
      cases d with
      | non => cases e; cases r; exact .non
      | bl c => cases e; cases r; exact .bl c
      | int i => cases e; cases r; exact .int i
      | str x => cases e; cases r; exact .str _
      | lst ds => exact absurd rfl (hn ds)
      | tup ds =>
        simp only [Option.map_eq_some_iff] at e
        obtain ⟨ys, e1, rfl⟩ := e
        cases r with
        | tup q ra =>
          refine .tup ?_ (all ra e1)
          rcases q with ⟨_, q⟩ | q
          · exact .inl ⟨fun z => z, q⟩
          · exact .inr q
      | dct ds =>
        simp only [Option.map_eq_some_iff] at e
        obtain ⟨ys, e1, rfl⟩ := e
        cases r with
        | dct m q ra => exact .dct (fun z => z) q (rd_kv (fun d v y r e => ih d r e) ra e1)
      | obj c fs => cases e
      | cel i => cases e
/-! ### == -/
theorem all2_eqv {f : D → D → Bool} {g : D → PyData} : ∀ {xs ys : List D}, (∀ x y, x ∈ xs → y ∈ ys → f x y = PyData.eqv (g x) (g y)) → all2 f xs ys = PyData.eqvAll (xs.map g) (ys.map g)
  | [], [], _ => by simp [all2, PyData.eqvAll]
  | [], y :: ys, _ => by simp [all2, PyData.eqvAll]
  | x :: xs, [], _ => by simp [all2, PyData.eqvAll]
  | x :: xs, y :: ys, h => by
    simp only [all2, List.map_cons, PyData.eqvAll]
    rw [h x y (List.mem_cons_self ..) (List.mem_cons_self ..), all2_eqv fun a c ha hc => h a c (List.mem_cons_of_mem _ ha) (List.mem_cons_of_mem _ hc)]
/-- as the library's data, changing lists read -/
def pyd (s : S) : Nat → D → PyData
  | 0, _ => .none
  | n + 1, d => match rdc s d with
    | .bl b => .bool b
    | .int i => .int i
    | .str x => .str (toStr x)
    | .lst xs => .list (xs.map (pyd s n))
    | .tup xs => .tuple (xs.map (pyd s n))
    | _ => .none
theorem toStr_inj {x y : List Nat} : (toStr x == toStr y) = (x == y) := by
  rw [Bool.eq_iff_iff, beq_iff_eq, beq_iff_eq]
  refine ⟨fun e => ?_, fun e => by rw [e]⟩
  have : (toStr x).cps.toList = (toStr y).cps.toList := by rw [e]
  simpa [toStr] using this
theorem eqs_pyd : ∀ (n : Nat) (x y : D), pln s n x = true → pln s n y = true → eqs s n x y = PyData.eqv (pyd s n x) (pyd s n y)
  | 0, x, y, h, _ => by simp [pln] at h
  | n + 1, x, y, hx, hy => by
    have ih := eqs_pyd n
    simp only [pln] at hx hy
    simp only [eqs, pyd]
    generalize rdc s x = x' at *
    generalize rdc s y = y' at *
    have all : ∀ {xs ys : List D}, xs.all (pln s n) = true → ys.all (pln s n) = true → all2 (eqs s n) xs ys = PyData.eqvAll (xs.map (pyd s n)) (ys.map (pyd s n)) := fun h1 h2 => all2_eqv fun a c ha hc => ih a c (List.all_eq_true.mp h1 a ha) (List.all_eq_true.mp h2 c hc)
    cases x' with
    | non => cases y' <;> first | rfl | (simp at hy)
    | bl p => cases y' <;> first | rfl | (cases p <;> rfl) | (simp at hy; done)
    | int i => cases y' <;> first | rfl | (rename_i c; cases c <;> rfl) | (simp at hy; done)
    | str z =>
      cases y' with
      | str w => exact toStr_inj.symm
      | _ => first | rfl | (simp at hy)
    | lst xs =>
      cases y' with
      | lst ys => exact all hx hy
      | _ => first | rfl | (simp at hy)
    | tup xs =>
      cases y' with
      | tup ys => exact all hx hy
      | _ => first | rfl | (simp at hy)
    | _ => simp at hx
theorem dpAll {f : D → PyData} : ∀ {ds : List D} {vs : List V}, RepAll X.K W φ H vs ds → (∀ d v, d ∈ ds → Rep X.K W φ H v d → Dp X.K H v (f d)) → DpAll X.K H vs (ds.map f)
  | [], _, .nil, _ => .nil
  | d :: ds, _, .cons r t, h => .cons (h _ _ (List.mem_cons_self ..) r) (dpAll t fun d v hd => h d v (List.mem_cons_of_mem _ hd))
theorem depthAll_le {m : Nat} : ∀ {ds : List PyData}, (∀ d ∈ ds, d.depth ≤ m) → PyData.depthAll ds ≤ m
  | [], _ => by simp [PyData.depthAll]
  | d :: ds, h => by
    have := h d (List.mem_cons_self ..)
    have := depthAll_le (ds := ds) fun e he => h e (List.mem_cons_of_mem _ he)
    simp only [PyData.depthAll]
    omega
theorem plainAll_of : ∀ {ds : List PyData}, (∀ d ∈ ds, d.plain = true) → PyData.plainAll ds = true
  | [], _ => rfl
  | d :: ds, h => by
    show (d.plain && PyData.plainAll ds) = true
    rw [h d (List.mem_cons_self ..), plainAll_of fun e he => h e (List.mem_cons_of_mem _ he)]; rfl
theorem pyd_dp (h : Here X W b φ ρ s σ H) : ∀ (n : Nat) (d : D) {v : V}, pln s n d = true → Rep X.K W φ H v d → Dp X.K H v (pyd s n d)
  | 0, _, _, e, _ => by simp [pln] at e
  | n + 1, d, v, e, r => by
    have ih := pyd_dp h n
    simp only [pln] at e
    simp only [pyd]
    rcases rdc_rep h r with ⟨xs, a, vs, e0, rfl, q, ra⟩ | ⟨e0, hn⟩
    · rw [e0] at e ⊢
      exact .lst (.of q) (dpAll ra fun d v hd r => ih d (List.all_eq_true.mp e d hd) r)
    · rw [e0] at e ⊢
      cases d with
      | non => cases r; exact .non
      | bl c => cases r; exact .bl c
      | int i => cases r; exact .int i
      | str x => cases r; exact .str _
      | lst ds => exact absurd rfl (hn ds)
      | tup ds =>
        cases r with
        | tup q ra =>
          refine .tup ?_ (dpAll ra fun d v hd r => ih d (List.all_eq_true.mp e d hd) r)
          rcases q with ⟨_, q⟩ | q
          · exact .inl q
          · exact .inr q
      | _ => simp at e
theorem pyd_ok : ∀ (n : Nat) (d : D), pln s n d = true → (pyd s n d).plain = true ∧ (pyd s n d).depth ≤ n
  | 0, d, h => by simp [pln] at h
  | n + 1, d, h => by
    have ih := pyd_ok n
    simp only [pln] at h
    simp only [pyd]
    generalize rdc s d = x at *
    have all : ∀ {xs : List D}, xs.all (pln s n) = true → PyData.plainAll (xs.map (pyd s n)) = true ∧ PyData.depthAll (xs.map (pyd s n)) ≤ n := fun e => by
      refine ⟨plainAll_of fun d hd => ?_, depthAll_le fun d hd => ?_⟩
      · obtain ⟨c, hc, rfl⟩ := List.mem_map.mp hd
        exact (ih c (List.all_eq_true.mp e c hc)).1
      · obtain ⟨c, hc, rfl⟩ := List.mem_map.mp hd
        exact (ih c (List.all_eq_true.mp e c hc)).2
    cases x with
    | non => exact ⟨rfl, Nat.zero_le _⟩
    | bl _ => exact ⟨rfl, Nat.zero_le _⟩
    | int _ => exact ⟨rfl, Nat.zero_le _⟩
    | str _ => exact ⟨rfl, Nat.zero_le _⟩
    | lst xs =>
      obtain ⟨h1, h2⟩ := all h
      exact ⟨h1, by simp only [PyData.depth]; omega⟩
    | tup xs =>
      obtain ⟨h1, h2⟩ := all h
      exact ⟨h1, by simp only [PyData.depth]; omega⟩
    | _ => simp at h
theorem eqOp_ok {x y : D} {c : Bool} {vx vy : V} (h : Here X W b φ ρ s σ H) (rx : Rep X.K W φ H vx x) (ry : Rep X.K W φ H vy y) (e : eqOp s x y = some c) : ∃ d e, Dp X.K H vx d ∧ Dp X.K H vy e ∧ d.plain = true ∧ e.plain = true ∧ min d.depth e.depth ≤ 60 ∧ PyData.eqv d e = c := by
  unfold eqOp at e
  split at e
  · rename_i hh
    simp only [Bool.and_eq_true] at hh
    obtain ⟨h1, h2⟩ := hh
    cases e
    obtain ⟨p1, d1⟩ := pyd_ok 40 x h1
    obtain ⟨p2, d2⟩ := pyd_ok 40 y h2
    exact ⟨_, _, pyd_dp h 40 x h1 rx, pyd_dp h 40 y h2 ry, p1, p2, by omega, (eqs_pyd 40 x y h1 h2).symm⟩
  · cases e
end
end EV

/-! EV3: expressions, rule by rule. -/
namespace EV
open PySem PySem.Spec PyProof.Rows L2
open RD (canE canT canW canA canK canS canSs canG canI PenAt KT ExK pcan tcan wcan acan sscan Rm)
theorem good_opt {P : Out → S → Prop} {Ef : Nat → List (Nat × D) → S → Prop} {α : Type} {x : Option α} {k : α → T} (h : Good P Ef (opt x k)) : ∃ a, x = some a ∧ Good P Ef (k a) := by
  cases x with
  | none => exact h.elim
  | some a => exact ⟨a, rfl, h⟩
section
variable {X : Cx} {W : Wd}
/-- an operation by the small language -/
def OpOk (X : Cx) (W : Wd) (F : S → D → D → Option D) (r : R2) : Prop := ∀ (b : St3) (φ : Ad) (ρ : Rho) (s : S) (σ : L2.St) (H : Hp) (vx vy : V) (x y d : D) (Q : VK), Here X W b φ ρ s σ H → Rep X.K W φ H vx x → Rep X.K W φ H vy y → F s x y = some d → Fin X W b φ ρ s σ H d Q → r vx vy H Q
/-- two operands, an operation -/
theorem two {a c : Expr} {fa fc : Kv} {F : S → D → D → Option D} {r : R2} (ha : CE X W a fa) (hc : CE X W c fc) (ho : OpOk X W F r) {b : St3} {φ : Ad} {ρ : Rho} {s : S} {σ : L2.St} {H : Hp} {k : D → S → T} {P : Out → S → Prop} {Ef : Nat → List (Nat × D) → S → Prop} {Q : VK}
    (h : Here X W b φ ρ s σ H) (xp : XP X W σ b Ef) (g : Good P Ef (fa ρ s fun x s => fc ρ s fun y s => opt (F s x y) fun d => k d s))
    (q : ∀ φ' d v s' H', Here X W b φ' ρ s' σ H' → Up ⟨φ, s, H⟩ ⟨φ', s', H'⟩ → Rep X.K W φ' H' v d → Good P Ef (k d s') → Q v H') : tOp r (canE X a) (canE X c) σ H Q := by
  refine ha b φ ρ s σ H _ P Ef _ h xp g fun φ1 x vx s1 H1 h1 u1 r1 g1 => ?_
  refine hc b φ1 ρ s1 σ H1 _ P Ef _ h1 xp g1 fun φ2 y vy s2 H2 h2 u2 r2 g2 => ?_
  obtain ⟨d, e, g3⟩ := good_opt g2
  refine ho b φ2 ρ s2 σ H2 vx vy x y d Q h2 (r1.up u2.kp) r2 e fun v H' h' u' r' => ?_
  exact q φ2 d v s2 H' h' (Up.trans (b := ⟨φ1, s1, H1⟩) h1.st u1 (Up.trans (b := ⟨φ2, s2, H2⟩) h2.st u2 u' h1.st) h.st) r' g3
theorem ce_bin {a c : Expr} {fa fc : Kv} {n : Nat} {op : Operator} {r : R2} {pos : Pos} (ha : CE X W a fa) (hc : CE X W c fc) (hr : OpR X (binaryOp op) r) (ho : OpOk X W (binOp n) r) : CE X W (.BinOp a op c pos) fun ρ s k => fa ρ s fun x s => fc ρ s fun y s => opt (binOp n s x y) fun d => k d s :=
  fun b φ ρ s σ H k P Ef Q h xp g q => canE.of (pe_op hr pcan pcan) (two ha hc ho h xp g q)
theorem ce_ix {a c : Expr} {fa fc : Kv} {pos : Pos} (ha : CE X W a fa) (hc : CE X W c fc) (ho : OpOk X W ixOp (rIx X.K)) (hs : PlainIx c) : CE X W (.Subscript a c pos) fun ρ s k => fa ρ s fun x s => fc ρ s fun y s => opt (ixOp s x y) fun d => k d s :=
  fun b φ ρ s σ H k P Ef Q h xp g q => canE.of (pe_ix ix_seq pcan pcan hs) (two ha hc ho h xp g q)
/-- a comparison by the small language -/
def cmpD (n : Nat) (s : S) (x y : D) : Option D := (cmpOp n s x y).map .bl
theorem opt_map {α β : Type} {x : Option α} {f : α → β} {k : β → T} : opt (x.map f) k = opt x fun a => k (f a) := by cases x <;> rfl
theorem ce_cmp {a c : Expr} {fa fc : Kv} {n : Nat} {op : CmpOp} {r : R2} {pos : Pos} (ha : CE X W a fa) (hc : CE X W c fc) (hr : OpR X (compareOp op) r) (ho : OpOk X W (cmpD n) r) (hm : behindInMarks op c = false) :
    CE X W (.Compare a [op] [c] pos) (fun ρ s k => fa ρ s fun x s => fc ρ s fun y s => opt (cmpOp n s x y) fun d => k (.bl d) s) ∧ CT X W (.Compare a [op] [c] pos) (fun ρ s k => fa ρ s fun x s => fc ρ s fun y s => opt (cmpOp n s x y) fun d => k d s) := by
  constructor
  · intro b φ ρ s σ H k P Ef Q h xp g q
    refine canE.of (pe_cmpR hr pcan pcan hm) (two (F := cmpD n) (k := k) ha hc ho h xp ?_ q)
    simpa only [cmpD, opt_map] using g
  · intro b φ ρ s σ H k P Ef Q h xp g q
    refine canT.of (pt_cmpR hr pcan pcan hm) ?_
    refine two (F := cmpD n) (k := fun d s => match d with
      | .bl c => k c s
      | _ => .no) ha hc ho h xp (by simpa only [cmpD, opt_map] using g) fun φ' d v s' H' h' u r gg => ?_
    cases d with
    | bl c =>
      cases r
      exact ⟨c, rfl, q φ' c s' H' h' u gg⟩
    | _ => exact False.elim gg

/-! ### the operators -/
theorem ok_add : OpOk X W (binOp 0) (RD.rAddU X.K) := by
  intro b φ ρ s σ H vx vy x y d Q h rx ry e f
  have lists : ∀ {x y : D}, Rep X.K W φ H vx x → Rep X.K W φ H vy y → (match isLst s x, isLst s y with
      | some xs, some ys => if okLen (xs.length + ys.length) then some (.lst (xs ++ ys)) else none
      | _, _ => none) = some d → RD.rAddU X.K vx vy H Q := fun {x y} rx ry e => by
    split at e
    · rename_i xs ys e1 e2
      split at e
      · rename_i hz
        cases e
        obtain ⟨a, vs, rfl, q1, ra⟩ := items_lst h rx e1
        obtain ⟨c, ws, rfl, q2, rc⟩ := items_lst h ry e2
        refine .inr (.inl ⟨a, c, vs, ws, rfl, rfl, q1, q2, by rw [ra.length, rc.length]; exact RD.sz_le (okLen_le hz), fun p hp => ?_⟩)
        exact f.new h hp (lst_new h hp (ra.append rc))
      · cases e
    · cases e
  cases x with
  | int i =>
    cases y with
    | int j =>
      cases e; cases rx; cases ry
      exact .inl ⟨i, j, rfl, rfl, f.now h (.int _)⟩
    | _ => exact lists rx ry e
  | str i =>
    cases y with
    | str j =>
      simp only [binOp] at e
      split at e
      · rename_i hz
        cases e; cases rx; cases ry
        refine .inr (.inr (.inl ⟨toStr i, toStr j, rfl, rfl, ?_, ?_⟩))
        · show i.toArray.size + j.toArray.size ≤ sizeLine
          simpa using RD.sz_le (okLen_le hz)
        · have e : toStr i ++ toStr j = toStr (i ++ j) := by
            show Str.append _ _ = _
            simp [Str.append, toStr]
          rw [e]
          exact f.now h (.str _)
      · cases e
    | _ => exact lists rx ry e
  | tup xs =>
    cases y with
    | tup ys =>
      simp only [binOp] at e
      split at e
      · rename_i hz
        cases e
        have rx0 := rx
        have ry0 := ry
        cases rx with
        | tup q1 ra =>
          cases ry with
          | tup q2 rc =>
            have sq : ∀ {a : Addr} {vs : List V}, ((a ∉ φ ∧ Rd H a (.tup vs)) ∨ KT X.K a vs) → SqT X.K H a vs := fun z => z.elim (fun z => .inl z.2) .inr
            refine .inr (.inr (.inr ⟨_, _, _, _, rfl, rfl, sq q1, sq q2, by rw [ra.length, rc.length]; exact RD.sz_le (okLen_le hz), fun z => ?_, fun z1 z2 => ?_, fun z1 z2 p hp => ?_⟩))
            · subst z
              have : xs = [] := by cases ra; rfl
              subst this
              exact f.now h ry0
            · subst z2
              have : ys = [] := by cases rc; rfl
              subst this
              rw [List.append_nil] at f
              exact f.now h rx0
            · exact f.new h hp (tup_new h hp (ra.append rc))
      · cases e
    | _ => exact lists rx ry e
  | _ => exact lists rx ry e
theorem ok_sub : OpOk X W (binOp 1) (rI0 fun i j => .int (i - j)) := by
  intro b φ ρ s σ H vx vy x y d Q h rx ry e f
  cases x with
  | int i =>
    cases y with
    | int j => cases e; cases rx; cases ry; exact ⟨i, j, rfl, rfl, f.now h (.int _)⟩
    | _ => cases e
  | str _ => cases y <;> cases e
  | tup _ => cases y <;> cases e
  | _ => cases e
theorem ok_mul : OpOk X W (binOp 2) RD.rMulU := by
  intro b φ ρ s σ H vx vy x y d Q h rx ry e f
  have lists : ∀ {x y : D}, Rep X.K W φ H vx x → Rep X.K W φ H vy y → (match isLst s x, y with
      | some xs, .int m => if decide (m < 100000) && okLen (xs.length * m.toNat) && decide (-100000 < m) then some (.lst (List.replicate m.toNat xs).flatten) else none
      | _, _ => none) = some d → RD.rMulU vx vy H Q := fun {x y} rx ry e => by
    split at e
    · rename_i xs m e1
      split at e
      · rename_i hz
        simp only [Bool.and_eq_true, decide_eq_true_eq] at hz
        cases e; cases ry
        obtain ⟨a, vs, rfl, q1, ra⟩ := items_lst h rx e1
        refine .inr (.inr ⟨a, m, vs, rfl, rfl, q1, by omega, by omega, by rw [ra.length]; exact RD.sz_le (okLen_le hz.1.2), fun p hp => ?_⟩)
        exact f.new h hp (lst_new h hp (ra.flat _))
      · cases e
    · cases e
  cases x with
  | int i =>
    cases y with
    | int j =>
      simp only [binOp] at e
      split at e
      · rename_i hz
        cases e; cases rx; cases ry
        exact .inr (.inl ⟨i, j, rfl, rfl, (of_decide_eq_true hz : i.natAbs.log2 + j.natAbs.log2 < 1000000), f.now h (.int _)⟩)
      · cases e
    | _ => exact lists rx ry e
  | str i => cases y <;> first | exact lists rx ry e | cases e
  | tup i => cases y <;> first | exact lists rx ry e | cases e
  | _ => exact lists rx ry e
theorem ok_fdiv : OpOk X W (binOp 3) RD.rFdU := by
  intro b φ ρ s σ H vx vy x y d Q h rx ry e f
  cases x with
  | int i =>
    cases y with
    | int j =>
      simp only [binOp] at e
      split at e
      · rename_i hz
        simp only [Bool.and_eq_true, decide_eq_true_eq] at hz
        cases e; cases rx; cases ry
        exact .inr ⟨i, j, rfl, rfl, ⟨hz.1, hz.2⟩, f.now h (.int _)⟩
      · cases e
    | _ => cases e
  | str _ => cases y <;> cases e
  | tup _ => cases y <;> cases e
  | _ => cases e
theorem ok_mod : OpOk X W (binOp 4) RD.rModU := by
  intro b φ ρ s σ H vx vy x y d Q h rx ry e f
  cases x with
  | int i =>
    cases y with
    | int j =>
      simp only [binOp] at e
      split at e
      · rename_i hz
        cases e; cases rx; cases ry
        exact .inr ⟨i, j, rfl, rfl, of_decide_eq_true hz, f.now h (.int _)⟩
      · cases e
    | _ => cases e
  | str _ => cases y <;> cases e
  | tup _ => cases y <;> cases e
  | _ => cases e
theorem ok_pow : OpOk X W (binOp 5) (rI CPow fun i j => .int (i ^ j.toNat)) := by
  intro b φ ρ s σ H vx vy x y d Q h rx ry e f
  cases x with
  | int i =>
    cases y with
    | int j =>
      simp only [binOp] at e
      split at e
      · rename_i hz
        simp only [Bool.and_eq_true, decide_eq_true_eq] at hz
        cases e; cases rx; cases ry
        exact ⟨i, j, rfl, rfl, ⟨hz.1.1, hz.1.2, hz.2⟩, f.now h (.int _)⟩
      · cases e
    | _ => cases e
  | str _ => cases y <;> cases e
  | tup _ => cases y <;> cases e
  | _ => cases e
theorem ok_ints {n : Nat} {p : Int → Int → Bool} (hn : ∀ s x y, cmpOp n s x y = match x, y with
    | .int i, .int j => some (p i j)
    | _, _ => none) : OpOk X W (cmpD n) (rI0 fun i j => .bl (p i j)) := by
  intro b φ ρ s σ H vx vy x y d Q h rx ry e f
  simp only [cmpD, hn] at e
  cases x with
  | int i =>
    cases y with
    | int j => cases e; cases rx; cases ry; exact ⟨i, j, rfl, rfl, f.now h (.bl _)⟩
    | _ => cases e
  | _ => cases e
theorem eq_shape {s : S} {x y : D} {c : Bool} (e : cmpOp 4 s x y = some c) : (∃ i j, x = .int i ∧ y = .int j ∧ c = decide (i = j)) ∨ eqOp s x y = some c := by
  cases x with
  | int i =>
    cases y with
    | int j => cases e; exact .inl ⟨i, j, rfl, rfl, rfl⟩
    | _ => exact .inr e
  | _ => exact .inr e
theorem ne_shape {s : S} {x y : D} {c : Bool} (e : cmpOp 5 s x y = some c) : (∃ i j, x = .int i ∧ y = .int j ∧ c = !decide (i = j)) ∨ ∃ c', eqOp s x y = some c' ∧ c = !c' := by
  have two : ∀ {o : Option Bool}, o.map (!·) = some c → ∃ c', o = some c' ∧ c = !c' := fun {o} e => by
    cases o with
    | none => cases e
    | some v => cases e; exact ⟨v, rfl, rfl⟩
  cases x with
  | int i =>
    cases y with
    | int j => cases e; exact .inl ⟨i, j, rfl, rfl, rfl⟩
    | _ => exact .inr (two e)
  | _ => exact .inr (two e)
theorem int_eqv {i j : Int} : PyData.eqv (.int i) (.int j) = decide (i = j) := by
  show (i == j) = decide (i = j)
  exact Bool.beq_eq_decide_eq i j
theorem ok_eq : OpOk X W (cmpD 4) (RD.rEqP X.K) := by
  intro b φ ρ s σ H vx vy x y d Q h rx ry e f
  simp only [cmpD, Option.map_eq_some_iff] at e
  obtain ⟨c, e, rfl⟩ := e
  rcases eq_shape e with ⟨i, j, rfl, rfl, rfl⟩ | e
  · cases rx; cases ry
    refine ⟨_, _, .int i, .int j, rfl, rfl, by simp [PyData.depth], ?_⟩
    rw [int_eqv]
    exact f.now h (.bl _)
  · obtain ⟨d1, d2, h1, h2, h3, h4, h5, h6⟩ := eqOp_ok h rx ry e
    exact ⟨d1, d2, h1, h2, h3, h4, h5, by rw [h6]; exact f.now h (.bl _)⟩
theorem ok_ne : OpOk X W (cmpD 5) (RD.rNeP X.K) := by
  intro b φ ρ s σ H vx vy x y d Q h rx ry e f
  simp only [cmpD, Option.map_eq_some_iff] at e
  obtain ⟨c, e, rfl⟩ := e
  rcases ne_shape e with ⟨i, j, rfl, rfl, rfl⟩ | ⟨c', e2, rfl⟩
  · cases rx; cases ry
    refine ⟨_, _, .int i, .int j, rfl, rfl, by simp [PyData.depth], ?_⟩
    rw [int_eqv]
    exact f.now h (.bl _)
  · obtain ⟨d1, d2, h1, h2, h3, h4, h5, h6⟩ := eqOp_ok h rx ry e2
    exact ⟨d1, d2, h1, h2, h3, h4, h5, by rw [h6]; exact f.now h (.bl _)⟩
theorem place_at {α : Type} {xs : List α} {i : Int} {k : Nat} {d : α} (e1 : place xs.length i = some k) (e2 : getN k xs = some d) : L2.atI xs i = some d := by
  show ((place xs.length i).bind fun j => xs[j]?) = some d
  rw [e1]
  show xs[k]? = some d
  rw [← getN_eq]
  exact e2
theorem ok_ix : OpOk X W ixOp (rIx X.K) := by
  intro b φ ρ s σ H vx vy x y d Q h rx ry e f
  cases y with
  | int i =>
    simp only [ixOp] at e
    split at e
    · rename_i xs e1
      split at e
      · rename_i k e2
        cases ry
        obtain ⟨a, vs, rfl, sq, ra⟩ := items_seq h rx e1
        have e3 : place vs.length i = some k := by rw [ra.length]; exact e2
        rw [getN_eq] at e
        obtain ⟨v, hv, rv⟩ := ra.get e
        have e4 := place_at (d := v) e3 (by rw [getN_eq]; exact hv)
        rcases sq with sq | sq
        · exact .inl ⟨a, vs, i, v, rfl, rfl, sq, e4, f.now h rv⟩
        · exact .inr (.inl ⟨a, vs, i, v, rfl, rfl, sq, e4, f.now h rv⟩)
      · cases e
    · cases e
  | _ => cases e
end
end EV

/-! EV4: expressions, the other rules. -/
namespace EV
open PySem PySem.Spec PyProof.Rows L2
open RD (canE canT canW canA canK canS canSs canG canI PenAt KT ExK pcan tcan wcan acan sscan Rm)
section
variable {X : Cx} {W : Wd}
/-- values as tests -/
theorem tru_ok {b : St3} {φ : Ad} {ρ : Rho} {s : S} {σ : L2.St} {H : Hp} {v : V} {d : D} {c : Bool} (h : Here X W b φ ρ s σ H) (r : Rep X.K W φ H v d) (e : tru s d = some c) : TruV X.K v H c := by
  have emp : ∀ {α β : Type} {xs : List α} {ys : List β}, xs.length = ys.length → (!xs.isEmpty) = nonempty ys := fun {α β xs ys} e => by cases xs <;> cases ys <;> first | rfl | cases e
  cases d with
  | non => cases r; cases e; exact rfl
  | bl b => cases r; cases e; exact rfl
  | int i => cases r; cases e; exact rfl
  | lst xs =>
    obtain ⟨a, vs, rfl, q, ra⟩ := items_lst h r (show isLst s (.lst xs) = some xs from rfl)
    cases e
    rw [← emp ra.length]
    exact .inl ⟨_, .of q, rfl⟩
  | tup xs =>
    cases r with
    | tup q ra =>
      cases e
      rw [← emp ra.length]
      rcases q with ⟨_, q⟩ | q
      · exact .inr (.inl ⟨_, .inl q, rfl⟩)
      · exact .inr (.inl ⟨_, .inr q, rfl⟩)
  | dct xs =>
    cases r with
    | @dct a vs _ m q ra =>
      cases e
      rw [← emp (RepKV.length ra)]
      exact .inr (.inr ⟨_, q, rfl⟩)
  | cel i =>
    simp only [tru] at e
    split at e
    · rename_i xs hc
      cases e
      obtain ⟨a, vs, rfl, q, ra⟩ := items_lst h r (show isLst s (.cel i) = some xs by simp [isLst, hc])
      rw [← emp ra.length]
      exact .inl ⟨_, .of q, rfl⟩
    · cases e
  | _ => cases e
theorem ct_val {e : Expr} {f : Kv} (he : CE X W e f) (hp : ∀ whole, isTrue e X.env whole = (do let v ← whole; standAt e.pos; holding [v] (truthy v))) : CT X W e fun r s k => f r s fun d s => opt (tru s d) fun b => k b s := by
  intro b φ ρ s σ H k P Ef Q h xp g q
  refine canT.of (pt_truth pcan hp) ?_
  refine he b φ ρ s σ H _ P Ef _ h xp g fun φ1 d v s1 H1 h1 u1 r1 g1 => ?_
  obtain ⟨c, e, g2⟩ := good_opt g1
  exact ⟨c, tru_ok h1 r1 e, q φ1 c s1 H1 h1 u1 g2⟩
theorem ct_bool {e : Expr} {f : Rho → S → (Bool → S → T) → T} (he : CE X W e fun r s k => f r s fun x s => k (.bl x) s) (hp : ∀ whole, isTrue e X.env whole = (do let v ← whole; standAt e.pos; holding [v] (truthy v))) : CT X W e f := by
  intro b φ ρ s σ H k P Ef Q h xp g q
  refine canT.of (pt_truth pcan hp) ?_
  refine he b φ ρ s σ H (fun d s => match d with
    | .bl c => k c s
    | _ => .no) P Ef _ h xp g fun φ1 d v s1 H1 h1 u1 r1 g1 => ?_
  cases d with
  | bl c =>
    cases r1
    exact ⟨c, rfl, q φ1 c s1 H1 h1 u1 g1⟩
  | _ => exact False.elim g1
/-! ### names, constants -/
theorem ce_nm {i : Nat} {x : Str} {pos : Pos} (hN : X.N[i]? = some x) (hv : Vis X.env.scope x) (hd : (x == ("__debug__" : Str)) = false) (hcd : (x == ("__classdict__" : Str)) = false) : CE X W (.Name x pos) fun r s k => opt (getN i r) fun o => opt o fun d => k d s := by
  intro b φ ρ s σ H k P Ef Q h xp g q
  obtain ⟨o, e1, g1⟩ := good_opt g
  obtain ⟨d, rfl, g2⟩ := good_opt g1
  rw [getN_eq] at e1
  obtain ⟨v, e2, r⟩ := slot_get h.sl e1
  exact canE.of (pe_var hN hv hd hcd) ⟨v, e2, q φ d v s H h (.refl _) r g2⟩
/-- a constant's datum -/
def cstD : Const → D → Bool
  | .none, .non => true
  | .bool a, .bl b => a == b
  | .int i, .int j => decide (i = j)
  | .str x, .str y => decide (x = toStr y)
  | _, _ => false
theorem ce_cst {c : Const} {d : D} {j : Nat} {pos : Pos} (hc : cstD c d = true) : CE X W (.Constant c j pos) fun _ s k => k d s := by
  intro b φ ρ s σ H k P Ef Q h xp g q
  cases c with
  | none =>
    cases d with
    | non => exact canE.of pe_non (q φ _ _ s H h (.refl _) .non g)
    | _ => cases hc
  | bool a =>
    cases d with
    | bl c =>
      have : a = c := eq_of_beq hc
      subst this
      exact canE.of pe_bl (q φ _ _ s H h (.refl _) (.bl _) g)
    | _ => cases hc
  | int i =>
    cases d with
    | int j =>
      have : i = j := of_decide_eq_true hc
      subst this
      exact canE.of pe_int (q φ _ _ s H h (.refl _) (.int _) g)
    | _ => cases hc
  | str x =>
    cases d with
    | str y =>
      have : x = toStr y := of_decide_eq_true hc
      subst this
      exact canE.of pe_str (q φ _ _ s H h (.refl _) (.str _) g)
    | _ => cases hc
  | _ => cases d <;> cases hc
/-! ### arguments, displays -/
theorem ca_nil : CA X W [] fun _ s k => k [] s := fun b φ ρ s σ H k P Ef Q h xp g q => canA.of pa_nil (q φ [] [] s H rfl h (.refl _) .nil g)
theorem ca_cons {e : Expr} {es : List Expr} {f : Kv} {fs : Rho → S → (List D → S → T) → T} (he : CE X W e f) (hes : CA X W es fs) (hs : starEach (e :: es) X.env = (false, eval e X.env) :: starEach es X.env) : CA X W (e :: es) fun r s k => f r s fun x s => fs r s fun xs s => k (x :: xs) s := by
  intro b φ ρ s σ H k P Ef Q h xp g q
  refine canA.of (pa_cons pcan acan hs) ?_
  refine he b φ ρ s σ H _ P Ef _ h xp g fun φ1 d v s1 H1 h1 u1 r1 g1 => ?_
  refine hes b φ1 ρ s1 σ H1 _ P Ef _ h1 xp g1 fun φ2 ds vs s2 H2 l2 h2 u2 r2 g2 => ?_
  exact q φ2 (d :: ds) _ s2 H2 (by rw [List.length_cons, List.length_cons, l2]) h2 (Up.trans (b := ⟨φ1, s1, H1⟩) h1.st u1 u2 h.st) (.cons (r1.up u2.kp) r2) g2
theorem ce_tup {es : List Expr} {fs : Rho → S → (List D → S → T) → T} {x1 : Nat} {pos : Pos} (h0 : CA X W es fs) : CE X W (.Tuple es x1 pos) fun r s k => fs r s fun xs s => if okLen xs.length then k (.tup xs) s else .no := by
  intro b φ ρ s σ H k P Ef Q h xp g q
  refine canE.of (pe_tup acan) ?_
  refine h0 b φ ρ s σ H _ P Ef _ h xp g fun φ1 ds vs s1 H1 l1 h1 u1 r1 g1 => ?_
  by_cases hz : okLen ds.length = true
  · rw [if_pos hz] at g1
    refine ⟨by rw [r1.length]; exact RD.sz_le (okLen_le hz), fun p hp => ?_⟩
    exact q φ1 _ _ s1 _ (h1.alloc hp) (Up.trans (b := ⟨φ1, s1, H1⟩) h1.st u1 (.alloc hp) h.st) (tup_new h1 hp r1) g1
  · rw [if_neg hz] at g1; exact g1.elim
/-- a new list: data, or a cell -/
theorem mk_list {b : St3} {φ φ1 : Ad} {ρ : Rho} {s s1 : S} {σ : L2.St} {H H1 : Hp} {m : Bool} {k : D → S → T} {P : Out → S → Prop} {Ef : Nat → List (Nat × D) → S → Prop} {Q : VK} {ds : List D} {vs : List V} {p : Addr} (st : State X.K W φ s H) (h1 : Here X W b φ1 ρ s1 σ H1) (u1 : Up ⟨φ, s, H⟩ ⟨φ1, s1, H1⟩) (r1 : RepAll X.K W φ1 H1 vs ds) (hp : H1 p = none)
    (g1 : Good P Ef (Bool.rec (k (.lst ds) s1) (alloc (.lst ds) s1 k) m)) (q : ∀ φ' d v s' H', Here X W b φ' ρ s' σ H' → Up ⟨φ, s, H⟩ ⟨φ', s', H'⟩ → Rep X.K W φ' H' v d → Good P Ef (k d s') → Q v H') : Q (.ref p) (upd H1 p (.lst vs)) := by
  cases m with
  | false => exact q φ1 _ _ s1 _ (h1.alloc hp) (Up.trans (b := ⟨φ1, s1, H1⟩) h1.st u1 (.alloc hp) st) (lst_new h1 hp r1) g1
  | true =>
    have u2 : Up ⟨φ1, s1, H1⟩ ⟨φ1.add p, ⟨s1.cells ++ [.lst ds], s1.mw, s1.fb, s1.lk⟩, upd H1 p (.lst vs)⟩ := .cell h1.st hp
    have st2 : State X.K W (φ1.add p) ⟨s1.cells ++ [.lst ds], s1.mw, s1.fb, s1.lk⟩ (upd H1 p (.lst vs)) := h1.st.cell hp ⟨vs, upd_same, r1.up u2.kp⟩
    refine q (φ1.add p) (.cel s1.cells.length) _ _ _ (h1.on st2 u2) (Up.trans (b := ⟨φ1, s1, H1⟩) h1.st u1 u2 st) (.cel ?_) g1
    show (φ1.l ++ [p])[s1.cells.length]? = some p
    rw [List.getElem?_append_right (by rw [h1.st.len]; exact Nat.le_refl _), h1.st.len, Nat.sub_self]; rfl
theorem ce_lst {es : List Expr} {fs : Rho → S → (List D → S → T) → T} {m : Bool} {pos : Pos} (h0 : CA X W es fs) : CE X W (.List es pos) fun r s k => fs r s fun xs s => if okLen xs.length then Bool.rec (k (.lst xs) s) (alloc (.lst xs) s k) m else .no := by
  intro b φ ρ s σ H k P Ef Q h xp g q
  refine canE.of (pe_lst acan) ?_
  refine h0 b φ ρ s σ H _ P Ef _ h xp g fun φ1 ds vs s1 H1 l1 h1 u1 r1 g1 => ?_
  by_cases hz : okLen ds.length = true
  · rw [if_pos hz] at g1
    exact ⟨by rw [r1.length]; exact RD.sz_le (okLen_le hz), fun p hp => mk_list h.st h1 u1 r1 hp g1 q⟩
  · rw [if_neg hz] at g1; exact g1.elim
/-- {'z': 1} -/
theorem ce_dct {z : List Nat} {i : Int} {pos p1 p2 : Pos} {j1 j2 : Nat} : CE X W (.Dict [some (.Constant (.str (toStr z)) j1 p1)] [.Constant (.int i) j2 p2] pos) fun _ s k => k (.dct [(.str z, .int i)]) s := by
  intro b φ ρ s σ H k P Ef Q h xp g q
  refine canE.of (pe_disp (pps_cons pe_str pe_int pps_nil) rfl rfl (by simp) (Nat.le_of_ble_eq_true rfl)) ?_
  intro p hp
  refine ⟨upd_same, [(.inr (toStr z), .int i)], rfl, Nat.le_of_ble_eq_true rfl, ?_⟩
  rw [upd_upd]
  exact q φ _ _ s _ (h.alloc hp) (.alloc hp) (.dct (h.notin hp) upd_same (.cons rfl (.int i) .nil)) g
/-! ### - and not, and, or, if -/
theorem ce_neg {a : Expr} {f : Kv} {pos : Pos} (ha : CE X W a f) : CE X W (.UnaryOp .USub a pos) fun r s k => f r s fun x s => match x with
      | .int i => k (.int (-i)) s
      | _ => .no := by
  intro b φ ρ s σ H k P Ef Q h xp g q
  refine canE.of (pe_un un_neg pcan) ?_
  refine ha b φ ρ s σ H _ P Ef _ h xp g fun φ1 d v s1 H1 h1 u1 r1 g1 => ?_
  cases d with
  | int i =>
    cases r1
    exact ⟨i, rfl, q φ1 _ _ s1 H1 h1 u1 (.int _) g1⟩
  | _ => exact False.elim g1
theorem ce_not {a : Expr} {f : Kv} {pos : Pos} (ha : CE X W a f) : CE X W (.UnaryOp .Not a pos) fun r s k => f r s fun x s => match x with
      | .bl c => k (.bl (!c)) s
      | _ => .no := by
  intro b φ ρ s σ H k P Ef Q h xp g q
  refine canE.of (pe_not pcan) ?_
  refine ha b φ ρ s σ H _ P Ef _ h xp g fun φ1 d v s1 H1 h1 u1 r1 g1 => ?_
  cases d with
  | bl c =>
    cases r1
    exact ⟨c, rfl, q φ1 _ _ s1 H1 h1 u1 (.bl _) g1⟩
  | _ => exact False.elim g1
theorem ct_not {a : Expr} {f : Rho → S → (Bool → S → T) → T} {pos : Pos} (ha : CT X W a f) : CT X W (.UnaryOp .Not a pos) fun r s k => f r s fun x s => k (!x) s := by
  intro b φ ρ s σ H k P Ef Q h xp g q
  refine canT.of (pt_not tcan) ?_
  exact ha b φ ρ s σ H _ P Ef _ h xp g fun φ1 x s1 H1 h1 u1 g1 => q φ1 _ s1 H1 h1 u1 g1
theorem ce_one {op : BoolOp} {a : Expr} {f : Kv} {pos : Pos} (ha : CE X W a f) : CE X W (.BoolOp op [a] pos) f := fun b φ ρ s σ H k P Ef Q h xp g q => canE.of (pe_one pcan) (ha b φ ρ s σ H k P Ef Q h xp g q)
theorem ce_and {a c : Expr} {r : List Expr} {fa fc : Kv} {pos : Pos} (ha : CE X W a fa) (hc : CE X W (.BoolOp .And (c :: r) pos) fc) : CE X W (.BoolOp .And (a :: c :: r) pos) fun r s k => fa r s fun x s => match x with
      | .bl c => Bool.rec (k (.bl false) s) (fc r s k) c
      | _ => .no := by
  intro b φ ρ s σ H k P Ef Q h xp g q
  refine canE.of (pe_and pcan pcan) ?_
  refine ha b φ ρ s σ H _ P Ef _ h xp g fun φ1 d v s1 H1 h1 u1 r1 g1 => ?_
  cases d with
  | bl c =>
    cases r1
    refine ⟨c, rfl, ?_⟩
    cases c with
    | true =>
      rw [if_pos rfl]
      exact hc b φ1 ρ s1 σ H1 k P Ef Q h1 xp g1 fun φ2 d v s2 H2 h2 u2 r2 g2 => q φ2 d v s2 H2 h2 (Up.trans (b := ⟨φ1, s1, H1⟩) h1.st u1 u2 h.st) r2 g2
    | false =>
      rw [if_neg Bool.false_ne_true]
      exact q φ1 _ _ s1 H1 h1 u1 (.bl _) g1
  | _ => exact False.elim g1
theorem ce_or {a c : Expr} {r : List Expr} {fa fc : Kv} {pos : Pos} (ha : CE X W a fa) (hc : CE X W (.BoolOp .Or (c :: r) pos) fc) : CE X W (.BoolOp .Or (a :: c :: r) pos) fun r s k => fa r s fun x s => match x with
      | .bl c => Bool.rec (fc r s k) (k (.bl true) s) c
      | _ => .no := by
  intro b φ ρ s σ H k P Ef Q h xp g q
  refine canE.of (pe_or pcan pcan) ?_
  refine ha b φ ρ s σ H _ P Ef _ h xp g fun φ1 d v s1 H1 h1 u1 r1 g1 => ?_
  cases d with
  | bl c =>
    cases r1
    refine ⟨c, rfl, ?_⟩
    cases c with
    | false =>
      rw [if_neg Bool.false_ne_true]
      exact hc b φ1 ρ s1 σ H1 k P Ef Q h1 xp g1 fun φ2 d v s2 H2 h2 u2 r2 g2 => q φ2 d v s2 H2 h2 (Up.trans (b := ⟨φ1, s1, H1⟩) h1.st u1 u2 h.st) r2 g2
    | true =>
      rw [if_pos rfl]
      exact q φ1 _ _ s1 H1 h1 u1 (.bl _) g1
  | _ => exact False.elim g1
theorem cw_and1 {a : Expr} {f : Rho → S → (Bool → S → T) → T} {pos : Pos} (ha : CT X W a f) : CW X W (.BoolOp .And [a] pos) f := fun b φ ρ s σ H k P Ef Q h xp g q => canW.of (pw_and1 tcan) (ha b φ ρ s σ H k P Ef Q h xp g q)
theorem cw_or1 {a : Expr} {f : Rho → S → (Bool → S → T) → T} {pos : Pos} (ha : CT X W a f) : CW X W (.BoolOp .Or [a] pos) f := fun b φ ρ s σ H k P Ef Q h xp g q => canW.of (pw_or1 tcan) (ha b φ ρ s σ H k P Ef Q h xp g q)
theorem cw_and {a c : Expr} {r : List Expr} {fa fc : Rho → S → (Bool → S → T) → T} {pos : Pos} (ha : CT X W a fa) (hc : CW X W (.BoolOp .And (c :: r) pos) fc) : CW X W (.BoolOp .And (a :: c :: r) pos) fun r s k => fa r s fun x s => Bool.rec (k false s) (fc r s k) x := by
  intro b φ ρ s σ H k P Ef Q h xp g q
  refine canW.of (pw_and tcan wcan) ?_
  refine ha b φ ρ s σ H _ P Ef _ h xp g fun φ1 x s1 H1 h1 u1 g1 => ?_
  cases x with
  | true =>
    rw [if_pos rfl]
    exact hc b φ1 ρ s1 σ H1 k P Ef Q h1 xp g1 fun φ2 d s2 H2 h2 u2 g2 => q φ2 d s2 H2 h2 (Up.trans (b := ⟨φ1, s1, H1⟩) h1.st u1 u2 h.st) g2
  | false =>
    rw [if_neg Bool.false_ne_true]
    exact q φ1 _ s1 H1 h1 u1 g1
theorem cw_or {a c : Expr} {r : List Expr} {fa fc : Rho → S → (Bool → S → T) → T} {pos : Pos} (ha : CT X W a fa) (hc : CW X W (.BoolOp .Or (c :: r) pos) fc) : CW X W (.BoolOp .Or (a :: c :: r) pos) fun r s k => fa r s fun x s => Bool.rec (fc r s k) (k true s) x := by
  intro b φ ρ s σ H k P Ef Q h xp g q
  refine canW.of (pw_or tcan wcan) ?_
  refine ha b φ ρ s σ H _ P Ef _ h xp g fun φ1 x s1 H1 h1 u1 g1 => ?_
  cases x with
  | false =>
    rw [if_neg Bool.false_ne_true]
    exact hc b φ1 ρ s1 σ H1 k P Ef Q h1 xp g1 fun φ2 d s2 H2 h2 u2 g2 => q φ2 d s2 H2 h2 (Up.trans (b := ⟨φ1, s1, H1⟩) h1.st u1 u2 h.st) g2
  | true =>
    rw [if_pos rfl]
    exact q φ1 _ s1 H1 h1 u1 g1
theorem ct_w {e : Expr} {f : Rho → S → (Bool → S → T) → T} (h0 : CW X W e f) : CT X W e f := fun b φ ρ s σ H k P Ef Q h xp g q => canT.of (wcan (X := X) (e := e)).pt (h0 b φ ρ s σ H k P Ef Q h xp g q)
theorem ce_ite {c a a' : Expr} {fc : Rho → S → (Bool → S → T) → T} {fa fb : Kv} {pos : Pos} (hc : CT X W c fc) (ha : CE X W a fa) (hb : CE X W a' fb) : CE X W (.IfExp c a a' pos) fun r s k => fc r s fun x s => Bool.rec (fb r s k) (fa r s k) x := by
  intro b φ ρ s σ H k P Ef Q h xp g q
  refine canE.of (pe_ifExp tcan pcan pcan) ?_
  refine hc b φ ρ s σ H _ P Ef _ h xp g fun φ1 x s1 H1 h1 u1 g1 => ?_
  cases x with
  | true =>
    rw [if_pos rfl]
    exact ha b φ1 ρ s1 σ H1 k P Ef Q h1 xp g1 fun φ2 d v s2 H2 h2 u2 r2 g2 => q φ2 d v s2 H2 h2 (Up.trans (b := ⟨φ1, s1, H1⟩) h1.st u1 u2 h.st) r2 g2
  | false =>
    rw [if_neg Bool.false_ne_true]
    exact hb b φ1 ρ s1 σ H1 k P Ef Q h1 xp g1 fun φ2 d v s2 H2 h2 u2 r2 g2 => q φ2 d v s2 H2 h2 (Up.trans (b := ⟨φ1, s1, H1⟩) h1.st u1 u2 h.st) r2 g2
/-- a op b op' c -/
theorem ce_chn {a a' c : Expr} {fa fb fc : Kv} {n n' : Nat} {op op' : CmpOp} {r r' : R2} {pos : Pos} (ha : CE X W a fa) (hb : CE X W a' fb) (hc : CE X W c fc) (hr : OpR X (compareOp op) r) (ho : OpOk X W (cmpD n) r) (hr' : OpR X (compareOp op') r') (ho' : OpOk X W (cmpD n') r') (hm : lastMarks [op, op'] [a', c] = false) :
    CE X W (.Compare a [op, op'] [a', c] pos) fun r s k => fa r s fun x s => fb r s fun y s => opt (cmpOp n s x y) fun t => Bool.rec (k (.bl false) s) (fc r s fun z s => opt (cmpOp n' s y z) fun t => k (.bl t) s) t := by
  intro b φ ρ s σ H k P Ef Q h xp g q
  refine canE.of (pe_chain hr hr' pcan pcan pcan hm) ?_
  refine ha b φ ρ s σ H _ P Ef _ h xp g fun φ1 x vx s1 H1 h1 u1 r1 g1 => ?_
  refine hb b φ1 ρ s1 σ H1 _ P Ef _ h1 xp g1 fun φ2 y vy s2 H2 h2 u2 r2 g2 => ?_
  obtain ⟨t, e, g3⟩ := good_opt g2
  have u12 := Up.trans (b := ⟨φ1, s1, H1⟩) h1.st u1 u2 h.st
  refine ho b φ2 ρ s2 σ H2 vx vy x y (.bl t) _ h2 (r1.up u2.kp) r2 (by simp [cmpD, e]) fun v H3 h3 u3 r3 => ?_
  cases r3
  refine ⟨t, rfl, ?_⟩
  have u13 := Up.trans (b := ⟨φ2, s2, H2⟩) h2.st u12 u3 h.st
  cases t with
  | true =>
    rw [if_pos rfl]
    refine hc b φ2 ρ s2 σ H3 _ P Ef _ h3 xp g3 fun φ4 z vz s4 H4 h4 u4 r4 g4 => ?_
    obtain ⟨t', e', g5⟩ := good_opt g4
    refine ho' b φ4 ρ s4 σ H4 vy vz y z (.bl t') Q h4 ((r2.up u3.kp).up u4.kp) r4 (by simp [cmpD, e']) fun v H5 h5 u5 r5 => ?_
    exact q φ4 _ v s4 H5 h5 (Up.trans (b := ⟨φ4, s4, H4⟩) h4.st (Up.trans (b := ⟨φ2, s2, H3⟩) h3.st u13 u4 h.st) u5 h.st) r5 g5
  | false =>
    rw [if_neg Bool.false_ne_true]
    exact q φ2 _ _ s2 H3 h3 u13 (.bl _) g3
end
end EV

/-! EV5: fields, built-ins, isinstance, calls, draws. -/
namespace EV
open PySem PySem.Spec PyProof.Rows L2
open RD (canE canT canW canA canK canS canSs canG canI PenAt KT ExK pcan tcan wcan acan sscan Rm Fn)
section
variable {X : Cx} {W : Wd}
/-! ### fields -/
/-- e.f of an instance, of a kept exception -/
def tAttU (K : PySem.W.Frag) (f : Str) (te : TE) : TE := fun σ H Q => te σ H fun x H1 => (∃ (a C dx : Addr) (fs : List (Str × V)) (v : V), x = .ref a ∧ H1 a = some (.ins C dx fs) ∧ Cls K C ∧ NoAttr K C f ∧ fs.lookup f = some v ∧ Q v H1) ∨
  ∃ (C a dd : Addr) (fs : List (Str × V)) (v : V), XfC K C ∧ PySem.W.findIn K (.ref C) f = some none ∧ x = .ref a ∧ H1 a = some (ExK (.ref C) (some dd) a) ∧ H1 dd = some (.xd fs) ∧ fs.lookup f = some v ∧ Q v H1
theorem pe_attU {e : Expr} {te : TE} {pos : Pos} {n : Str} (he : PE X e te) (hb : attributeBase e n X.env (eval e X.env) = eval e X.env) : PE X (.Attribute e n pos) (tAttU X.K n te) := by
  refine ⟨fun pins s σ H Q I h => ?_⟩
  refine attr_of hb (thn (he.run pins s σ H _ I h) fun u s1 hh => ?_)
  obtain ⟨x, H1, I1, rx, hh⟩ := hh
  rcases hh with ⟨a, C, dx, fs, v, ex, ea, c, n, l, q⟩ | ⟨C, a, dd, fs, v, T, hno, ex, ha, ea, l, q⟩
  · subst ex
    obtain rfl : u = Value.ref a := rx
    exact getattr_ok I1 ea c n l fun u' s2 I2 ru => ⟨v, H1, I2, ru, q⟩
  · subst ex
    obtain rfl : u = Value.ref a := rx
    obtain ⟨oe, vs, hget, hz, hd⟩ := RD.exK_at I1.hok ha
    have hx : ObjOk X.prog X.w H1 s1.heap dd (.xd fs) := I1.hok dd _ ea
    obtain ⟨mA, hns, hr⟩ := hx
    obtain ⟨od, ho, hl⟩ := lookIn_ns hns
    obtain ⟨u, hu, ru⟩ := RelO.some_of (v := v) (o := mA n) (by rw [← l]; exact hr n)
    have J : PySem.W.InstAt s1.heap a oe C (some od) := ⟨hget, hz.1, by unfold PySem.W.notCls; rw [hd] <;> rfl, by rw [hz.2]; exact ho⟩
    exact HandSPX.exc_get I1.kIn J T.ga T.gg T.exC (PySem.W.findObj_own T.hdC hno rfl (by rw [hl, hu])) (handed_of ru) ⟨v, H1, I1.tok _, ru, q⟩
/-- what must be known of the classes, fields -/
structure ClsF (K : PySem.W.Frag) (W : Wd) (exc ins fld : Nat → Bool) : Prop where
  eC : ∀ c, exc c = true → XfC K (W.C c) ∧ ExcC K (W.C c)
  iC : ∀ c, ins c = true → Cls K (W.C c)
  iI : ∀ c, ins c = true → C8.InsC K (W.C c)
  eF : ∀ c f, exc c = true → fld f = true → PySem.W.findIn K (.ref (W.C c)) (W.fl f) = some none
  iF : ∀ c f, ins c = true → fld f = true → NoAttr K (W.C c) (W.fl f)
  inj : ∀ f g, fld f = true → W.fl f = W.fl g → f = g
theorem repF_get {K : PySem.W.Frag} {φ : Ad} {H : Hp} {f : Nat} (inj : ∀ g, W.fl f = W.fl g → f = g) : ∀ {fs : List (Str × V)} {ds : List (Nat × D)} {d : D}, RepF K W φ H fs ds → ds.lookup f = some d → ∃ v, fs.lookup (W.fl f) = some v ∧ Rep K W φ H v d
  | _, _, d, .nil, e => by simp at e
  | _, _, d, .cons (k := g) r t, e => by
    rw [List.lookup_cons] at e ⊢
    cases hb : f == g with
    | true =>
      have : f = g := by simpa using hb
      subst this
      rw [hb] at e
      cases e
      exact ⟨_, by simp, r⟩
    | false =>
      rw [hb] at e
      have hn : (W.fl f == W.fl g) = false := by
        rw [beq_eq_false_iff_ne]
        intro z
        have := inj g z
        subst this
        simp at hb
      rw [hn]
      exact repF_get inj t e
theorem ce_att {exc ins fld : Nat → Bool} (F : ClsF X.K W exc ins fld) {e : Expr} {fe : Kv} {f : Nat} {pos : Pos} (hf : fld f = true) (he : CE X W e fe) (hb : attributeBase e (W.fl f) X.env (eval e X.env) = eval e X.env) : CE X W (.Attribute e (W.fl f) pos) fun r s k => fe r s fun x s => opt (if attC exc ins s x then attOp s x f else none) fun d => k d s := by
  intro b φ ρ s σ H k P Ef Q h xp g q
  refine canE.of (pe_attU pcan hb) ?_
  refine he b φ ρ s σ H _ P Ef _ h xp g fun φ1 x v s1 H1 h1 u1 r1 g1 => ?_
  obtain ⟨d, e1, g2⟩ := good_opt g1
  split at e1
  · rename_i hc
    cases x with
    | obj c fs =>
      cases r1 with
      | @obj a dx _ vs _ m ea ra =>
        simp only [attOp, lkp_eq] at e1
        obtain ⟨v', l, r'⟩ := repF_get (fun g => F.inj f g hf) ra e1
        exact .inl ⟨a, _, dx, vs, v', rfl, ea, F.iC c hc, F.iF c f hc hf, l, q φ1 d v' s1 H1 h1 u1 r' g2⟩
    | cel i =>
      cases r1 with
      | @cel a _ z =>
        simp only [attC] at hc
        simp only [attOp] at e1
        split at hc
        · rename_i c fs hcell
          rw [hcell] at e1
          simp only [lkp_eq] at e1
          obtain ⟨dx, vs, ea, ra⟩ := h1.st.at_ i _ a hcell z
          obtain ⟨v', l, r'⟩ := repF_get (fun g => F.inj f g hf) ra e1
          exact .inl ⟨a, _, dx, vs, v', rfl, ea, F.iC c hc, F.iF c f hc hf, l, q φ1 d v' s1 H1 h1 u1 r' g2⟩
        · rename_i c fs hcell
          rw [hcell] at e1
          simp only [lkp_eq] at e1
          obtain ⟨dx, vs, ea, m, ed, ra⟩ := h1.st.at_ i _ a hcell z
          obtain ⟨v', l, r'⟩ := ra.2 f d e1
          exact .inr ⟨W.C c, a, dx, vs, v', (F.eC c hc).1, F.eF c f hc hf, rfl, ea, ed, l, q φ1 d v' s1 H1 h1 u1 r' g2⟩
        · cases hc
    | _ => cases hc
  · cases e1
/-! ### built-ins -/
/-- a built-in by the small language -/
def BltOk (X : Cx) (W : Wd) (F : S → List D → Option D) (r : List V → Hp → VK → Prop) : Prop := ∀ (b : St3) (φ : Ad) (ρ : Rho) (s : S) (σ : L2.St) (H : Hp) (vs : List V) (ds : List D) (d : D) (Q : VK), Here X W b φ ρ s σ H → RepAll X.K W φ H vs ds → F s ds = some d → Fin X W b φ ρ s σ H d Q → r vs H Q
theorem blt_core {es : List Expr} {fs : Rho → S → (List D → S → T) → T} {F : S → List D → Option D} {r : List V → Hp → VK → Prop} (h0 : CA X W es fs) (ho : BltOk X W F r) {b : St3} {φ : Ad} {ρ : Rho} {s : S} {σ : L2.St} {H : Hp} {k : D → S → T} {P : Out → S → Prop} {Ef : Nat → List (Nat × D) → S → Prop} {Q : VK}
    (h : Here X W b φ ρ s σ H) (xp : XP X W σ b Ef) (g : Good P Ef (fs ρ s fun xs s => opt (F s xs) fun d => k d s)) (q : ∀ φ' d v s' H', Here X W b φ' ρ s' σ H' → Up ⟨φ, s, H⟩ ⟨φ', s', H'⟩ → Rep X.K W φ' H' v d → Good P Ef (k d s') → Q v H') : tCB r (canA X es) σ H Q := by
  refine h0 b φ ρ s σ H _ P Ef _ h xp g fun φ1 ds vs s1 H1 l1 h1 u1 r1 g1 => ?_
  obtain ⟨d, e, g2⟩ := good_opt g1
  exact ho b φ1 ρ s1 σ H1 vs ds d Q h1 r1 e fun v H' h' u' r' => q φ1 d v s1 H' h' (Up.trans (b := ⟨φ1, s1, H1⟩) h1.st u1 u' h.st) r' g2
theorem ce_blt {x : Str} {id : String} {e : Expr} {es : List Expr} {p pos : Pos} {fs : Rho → S → (List D → S → T) → T} {F : S → List D → Option D} {r : List V → Hp → VK → Prop} (hc : CallR X (.builtin id) r) (hg : L2.Gl X x) (hm : X.mg x = none) (hv : bootBuiltins x = some (.builtin id)) (h0 : CA X W (e :: es) fs) (ho : BltOk X W F r) (hn : x ≠ "__name__") (hdb : (x == ("__debug__" : Str)) = false)
    (he : starEach (e :: es) X.env = (false, eval e X.env) :: starEach es X.env) (hpl : (backTo pos (starEach es X.env)).any (·.1) = false) : CE X W (.Call (.Name x p) (e :: es) [] pos) fun ρ s k => fs ρ s fun xs s => opt (F s xs) fun d => k d s :=
  fun b φ ρ s σ H k P Ef Q h xp g q => canE.of (pe_callB hc hg hm hv acan hn hdb he hpl) (blt_core h0 ho h xp g q)
theorem ce_bltTy {x : Str} {id : String} {e : Expr} {es : List Expr} {p pos : Pos} {fs : Rho → S → (List D → S → T) → T} {F : S → List D → Option D} {r : List V → Hp → VK → Prop} (hc : CallR X (.type id) r) (hg : L2.Gl X x) (hm : X.mg x = none) (hv : bootBuiltins x = some (.type id)) (h0 : CA X W (e :: es) fs) (ho : BltOk X W F r) (hn : x ≠ "__name__") (hdb : (x == ("__debug__" : Str)) = false)
    (he : starEach (e :: es) X.env = (false, eval e X.env) :: starEach es X.env) (hpl : (backTo pos (starEach es X.env)).any (·.1) = false) : CE X W (.Call (.Name x p) (e :: es) [] pos) fun ρ s k => fs ρ s fun xs s => opt (F s xs) fun d => k d s :=
  fun b φ ρ s σ H k P Ef Q h xp g q => canE.of (pe_callTy hc hg hm hv acan hn hdb he hpl) (blt_core h0 ho h xp g q)
theorem one_of {K : PySem.W.Frag} {φ : Ad} {H : Hp} {vs : List V} {d : D} (r : RepAll K W φ H vs [d]) : ∃ v, vs = [v] ∧ Rep K W φ H v d := by
  cases r with
  | cons r t => cases t; exact ⟨_, rfl, r⟩
def rLenU (K : PySem.W.Frag) : List V → Hp → VK → Prop := fun xs H Q => (∃ p ys, xs = [.ref p] ∧ (SqL K H p ys ∨ SqT K H p ys) ∧ Q (.int ys.length) H) ∨ ∃ z, xs = [.str z] ∧ z.length ≤ sizeLine ∧ Q (.int z.length) H
theorem call_lenU : CallR X (.builtin "len") (rLenU X.K) := by
  intro pins s σ H xs us Q I r h
  rcases h with h | h
  · exact call_len_seq pins s σ H xs us Q I r h
  · exact call_len_str pins s σ H xs us Q I r h
theorem blt_len {g : Gl} : BltOk X W (bltOp g 0) (rLenU X.K) := by
  intro b φ ρ s σ H vs ds d Q h r e f
  match ds, r, e with
  | [x], r, e0 =>
    obtain ⟨v, ev, r1⟩ := one_of r
    subst ev
    clear r
    simp only [bltOp, Option.map_eq_some_iff] at e0
    obtain ⟨n, e1, e2⟩ := e0
    subst e2
    have seq : (items s x).map List.length = some n →  rLenU X.K [v] H Q := fun e3 => by
      simp only [Option.map_eq_some_iff] at e3
      obtain ⟨xs, e5, e4⟩ := e3
      subst e4
      obtain ⟨a, ws, rfl, sq, ra⟩ := items_seq h r1 e5
      refine .inl ⟨a, ws, rfl, sq, ?_⟩
      rw [ra.length]
      exact f.now h (.int _)
    unfold lenOf at e1
    split at e1
    · rename_i z
      split at e1
      · rename_i hz
        cases e1; cases r1
        refine .inr ⟨toStr z, rfl, ?_, ?_⟩
        · show z.toArray.size ≤ sizeLine
          simpa using RD.sz_le (okLen_le hz)
        · show Q (.int ((z.toArray.size : Nat) : Int)) H
          rw [show z.toArray.size = z.length by simp]
          exact f.now h (.int _)
      · cases e1
    · exact seq e1
theorem blt_repr {g : Gl} (hg : g.rp = reprOp) : BltOk X W (bltOp g 1) (RD.rReprP X.K) := by
  intro b φ ρ s σ H vs ds d Q h r e f
  match ds, r, e with
  | [x], r, e0 =>
    obtain ⟨v, ev, r1⟩ := one_of r
    subst ev
    clear r
    simp only [bltOp, hg, reprOp] at e0
    split at e0
    · rename_i y e1
      split at e0
      · rename_i hz
        simp only [Bool.and_eq_true, Bool.not_eq_true', decide_eq_true_eq] at hz
        obtain ⟨⟨⟨⟨z1, z2⟩, z3⟩, z4⟩, z5⟩ := hz
        cases e0
        refine ⟨v, y, _, rfl, rdD_rep h 60 x r1 e1, z1, ?_, z3, z4, RD.sz_le z5, ?_⟩
        · intro z
          cases y <;> simp [RD.tyD] at z
          simp [isDct] at z2
        · have e2 : toStr (RD.py y).shown.cps.toList = (RD.py y).shown := by simp [toStr]
          rw [← e2]
          exact f.now h (.str _)
      · cases e0
    · cases e0
theorem blt_list {g : Gl} : BltOk X W (bltOp g 2) (fun xs H Q => ∃ p ys, xs = [.ref p] ∧ (SqL X.K H p ys ∨ SqT X.K H p ys) ∧ ∀ l, H l = none → Q (.ref l) (upd H l (.lst ys))) := by
  intro b φ ρ s σ H vs ds d Q h r e f
  match ds, r, e with
  | [x], r, e0 =>
    obtain ⟨v, ev, r1⟩ := one_of r
    subst ev
    clear r
    simp only [bltOp, Option.map_eq_some_iff] at e0
    obtain ⟨xs, e1, e2⟩ := e0
    subst e2
    obtain ⟨a, ws, rfl, sq, ra⟩ := items_seq h r1 e1
    exact ⟨a, ws, rfl, sq, fun l hl => f.new h hl (lst_new h hl ra)⟩
theorem blt_tuple {g : Gl} : BltOk X W (bltOp g 6) (fun xs H Q => ∃ p ys, xs = [.ref p] ∧ ((SqL X.K H p ys ∧ ∀ l, H l = none → Q (.ref l) (upd H l (.tup ys))) ∨ (SqT X.K H p ys ∧ Q (.ref p) H))) := by
  intro b φ ρ s σ H vs ds d Q h r e f
  match ds, r, e with
  | [x], r, e0 =>
    obtain ⟨v, ev, r1⟩ := one_of r
    subst ev
    clear r
    simp only [bltOp, Option.map_eq_some_iff] at e0
    obtain ⟨xs, e1, e2⟩ := e0
    subst e2
    have lst : isLst s x = some xs → ∃ p ys, [v] = [.ref p] ∧ ((SqL X.K H p ys ∧ ∀ l, H l = none → Q (.ref l) (upd H l (.tup ys))) ∨ (SqT X.K H p ys ∧ Q (.ref p) H)) := fun e1 => by
      obtain ⟨a, ws, rfl, q, ra⟩ := items_lst h r1 e1
      exact ⟨a, ws, rfl, .inl ⟨.of q, fun l hl => f.new h hl (tup_new h hl ra)⟩⟩
    cases x with
    | tup ys =>
      cases e1
      have r0 := r1
      cases r1 with
      | @tup a ws _ q ra =>
        refine ⟨a, ws, rfl, .inr ⟨?_, f.now h r0⟩⟩
        rcases q with ⟨_, q⟩ | q
        · exact .inl q
        · exact .inr q
    | lst ys => exact lst e1
    | cel i => exact lst e1
    | _ => cases e1
theorem blt_abs {g : Gl} : BltOk X W (bltOp g 4) (fun xs H Q => ∃ i, xs = [.int i] ∧ Q (.int (if i < 0 then -i else i)) H) := by
  intro b φ ρ s σ H vs ds d Q h r e f
  match ds, r, e with
  | [.int i], r, e0 =>
    obtain ⟨v, ev, r1⟩ := one_of r
    subst ev
    clear r
    cases e0; cases r1
    exact ⟨i, rfl, f.now h (.int _)⟩
theorem blt_int {g : Gl} : BltOk X W (bltOp g 5) (fun xs H Q => (∃ i, xs = [.int i] ∧ Q (.int i) H) ∨ ∃ b, xs = [.bl b] ∧ Q (.int (if b then 1 else 0)) H) := by
  intro b φ ρ s σ H vs ds d Q h r e f
  match ds, r, e with
  | [.int i], r, e0 =>
    obtain ⟨v, ev, r1⟩ := one_of r
    subst ev
    clear r
    cases e0; cases r1
    exact .inl ⟨i, rfl, f.now h (.int _)⟩
  | [.bl c], r, e0 =>
    obtain ⟨v, ev, r1⟩ := one_of r
    subst ev
    clear r
    cases e0; cases r1
    exact .inr ⟨c, rfl, f.now h (.int _)⟩
theorem blt_bool {g : Gl} : BltOk X W (bltOp g 7) (fun xs H Q => (∃ i, xs = [.int i] ∧ Q (.bl (i != 0)) H) ∨ ∃ b, xs = [.bl b] ∧ Q (.bl b) H) := by
  intro b φ ρ s σ H vs ds d Q h r e f
  match ds, r, e with
  | [.int i], r, e0 =>
    obtain ⟨v, ev, r1⟩ := one_of r
    subst ev
    clear r
    cases e0; cases r1
    exact .inl ⟨i, rfl, f.now h (.bl _)⟩
  | [.bl c], r, e0 =>
    obtain ⟨v, ev, r1⟩ := one_of r
    subst ev
    clear r
    cases e0; cases r1
    exact .inr ⟨c, rfl, f.now h (.bl _)⟩
theorem bools_of {K : PySem.W.Frag} {φ : Ad} {H : Hp} : ∀ {ds : List D} {vs : List V} {bs : List Bool}, RepAll K W φ H vs ds → bools ds = some bs → vs = bs.map V.bl
  | [], _, _, .nil, e => by cases e; rfl
  | .bl b :: ds, _, bs, .cons r t, e => by
    simp only [bools, Option.map_eq_some_iff] at e
    obtain ⟨cs, e, rfl⟩ := e
    cases r
    rw [bools_of t e]; rfl
  | .non :: _, _, _, _, e => by cases e
  | .int _ :: _, _, _, _, e => by cases e
  | .str _ :: _, _, _, _, e => by cases e
  | .lst _ :: _, _, _, _, e => by cases e
  | .tup _ :: _, _, _, _, e => by cases e
  | .dct _ :: _, _, _, _, e => by cases e
  | .obj _ _ :: _, _, _, _, e => by cases e
  | .cel _ :: _, _, _, _, e => by cases e
theorem blt_all {g : Gl} : BltOk X W (bltOp g 8) (rAll X.K) := by
  intro b φ ρ s σ H vs ds d Q h r e f
  match ds, r, e with
  | [x], r, e0 =>
    obtain ⟨v, ev, r1⟩ := one_of r
    subst ev
    clear r
    simp only [bltOp] at e0
    split at e0
    · rename_i xs e1
      simp only [Option.map_eq_some_iff] at e0
      obtain ⟨bs, e2, e3⟩ := e0
      subst e3
      obtain ⟨a, ws, rfl, q, ra⟩ := items_lst h r1 e1
      rw [bools_of ra e2] at q
      exact ⟨a, bs, rfl, .of q, f.now h (.bl _)⟩
    · cases e0
theorem blt_any {g : Gl} : BltOk X W (bltOp g 9) (rAny X.K) := by
  intro b φ ρ s σ H vs ds d Q h r e f
  match ds, r, e with
  | [x], r, e0 =>
    obtain ⟨v, ev, r1⟩ := one_of r
    subst ev
    clear r
    simp only [bltOp] at e0
    split at e0
    · rename_i xs e1
      simp only [Option.map_eq_some_iff] at e0
      obtain ⟨bs, e2, e3⟩ := e0
      subst e3
      obtain ⟨a, ws, rfl, q, ra⟩ := items_lst h r1 e1
      rw [bools_of ra e2] at q
      exact ⟨a, bs, rfl, .of q, f.now h (.bl _)⟩
    · cases e0
/-! ### isinstance -/
def rIsU (K : PySem.W.Frag) : List V → Hp → VK → Prop := fun xs H Q => rIsi K xs H Q ∨ ∃ D, ExcC K D ∧ RD.rIsK K D xs H Q
theorem call_isU : CallR X (.builtin "isinstance") (rIsU X.K) := by
  intro pins s σ H xs us Q I r h
  rcases h with h | ⟨D, C, h⟩
  · exact call_isi pins s σ H xs us Q I r h
  · exact RD.call_isK C pins s σ H xs us Q I r h
/-- a class's value -/
inductive ClsOf (W : Wd) : Nat → V → Value → Prop
  | own (c : Nat) : ClsOf W c (.ref (W.C c)) (.ref (W.C c))
  | bt (n : Nat) (t : String) : ClsOf W n (.ty t) (.type t)
def tyName : Nat → Option String
  | 1000 => some "int"
  | 1001 => some "bool"
  | 1002 => some "str"
  | 1003 => some "list"
  | 1004 => some "tuple"
  | 1005 => some "dict"
  | 1006 => some "NoneType"
  | _ => none
theorem tyOf_x {K : PySem.W.Frag} {φ : Ad} {H : Hp} {v : V} {d : D} {t : Nat} (r : Rep K W φ H v d) (e : tyOf d = some t) : ∃ n, tyName t = some n ∧ TyX K H v (.type n) := by
  cases r with
  | non => cases e; exact ⟨_, rfl, .base .non⟩
  | bl b => cases e; exact ⟨_, rfl, .base (.bl b)⟩
  | int i => cases e; exact ⟨_, rfl, .base (.int i)⟩
  | str x => cases e; exact ⟨_, rfl, .base (.str _)⟩
  | lst m q ra => cases e; exact ⟨_, rfl, .base (.lst q)⟩
  | tup q ra =>
    cases e
    refine ⟨_, rfl, ?_⟩
    rcases q with ⟨_, q | ⟨o, q⟩⟩ | ⟨o, its, n, q, c, _⟩
    · exact .base (.tup q)
    · exact .fTuple q
    · exact .kTuple q c
  | dct m q ra => cases e; exact ⟨_, rfl, .base (.dK q)⟩
  | obj m q ra => cases e
  | cel z => cases e
end
end EV

/-! EV6: isinstance, calls, draws, what is walked, comprehensions. -/
namespace EV
open PySem PySem.Spec PyProof.Rows L2
open RD (canE canT canW canA canK canS canSs canG canI PenAt KT ExK pcan tcan wcan acan sscan Rm Fn)
section
variable {X : Cx} {W : Wd}
/-- a class that is asked for -/
structure TestOk (K : PySem.W.Frag) (W : Wd) (sub : Nat → Nat → Bool) (exc ins : Nat → Bool) (kn : Nat → Nat → Bool) (c : Nat) (u : Value) : Prop where
  ty : ∀ t n, kn t c = true → tyName t = some n → PySem.W.kitOne K (.type n) u = some (subTy t c)
  own : ∀ d, exc d = true ∨ ins d = true → PySem.W.kitOne K (.ref (W.C d)) u = some (sub d c)
theorem ce_isi {g : EV.Gl} {fld : Nat → Bool} (F : ClsF X.K W g.exc g.ins fld) {c : Nat} {u : Value} {vc : V} (ok : TestOk X.K W g.sub g.exc g.ins g.ty c u) {e : Expr} {T : Str} {p p2 pos : Pos} {fe : Kv} (hm : X.mg "isinstance" = none) (hg : L2.Gl X "isinstance") (hT : PE X (.Name T p2) (tC vc)) (hv : ClsV vc u) (hvu : ∀ w, RelV vc w → w = u)
    (h0 : CE X W e fe) (he : starEach [e, .Name T p2] X.env = (false, eval e X.env) :: starEach [.Name T p2] X.env) (he2 : starEach [.Name T p2] X.env = (false, eval (.Name T p2) X.env) :: starEach [] X.env) (hpl : (backTo pos (starEach [.Name T p2] X.env)).any (·.1) = false) :
    CE X W (.Call (.Name "isinstance" p) [e, .Name T p2] [] pos) fun r s k => fe r s fun x s => opt (isiOp g s x [c]) fun d => k (.bl d) s := by
  intro b φ ρ s σ H k P Ef Q h xp gd q
  refine canE.of (pe_callB call_isU hg hm boot_isinstance (pa_cons pcan (pa_cons hT pa_nil he2) he) (by decide) (by decide) he hpl) ?_
  refine h0 b φ ρ s σ H _ P Ef _ h xp gd fun φ1 x v s1 H1 h1 u1 r1 g1 => ?_
  obtain ⟨d, e1, g2⟩ := good_opt g1
  have fin : Q (.bl d) H1 := q φ1 _ _ s1 H1 h1 u1 (.bl _) g2
  unfold isiOp at e1
  split at e1
  · rename_i t et
    split at e1
    · rename_i hk
      cases e1
      obtain ⟨n, hn, ty⟩ := tyOf_x r1 et
      refine .inl ⟨v, vc, .type n, u, subTy t c, rfl, hv, ty, ok.ty t n (by simpa using hk) hn, ?_⟩
      simpa using fin
    · cases e1
  · rename_i et
    split at e1
    · rename_i c0 ec
      split at e1
      · rename_i hc
        cases e1
        cases x with
        | obj c1 fs =>
          cases ec
          cases r1 with
          | @obj a dx _ vs _ m ea ra =>
            have ci := F.iI c0 hc
            refine .inl ⟨.ref a, vc, .ref (W.C c0), u, g.sub c0 c, rfl, hv, .base (.ins ea ci.cl ci.ha ci.hn ci.htk ci.hm), ok.own c0 (.inr hc), ?_⟩
            simpa using fin
        | cel i =>
          cases r1 with
          | @cel a _ z =>
            simp only [clsOf] at ec
            simp only [attC] at hc
            split at ec
            · rename_i c2 fs hcell
              cases ec
              rw [hcell] at hc
              obtain ⟨dx, vs, ea, ra⟩ := h1.st.at_ i _ a hcell z
              have ci := F.iI c0 hc
              refine .inl ⟨.ref a, vc, .ref (W.C c0), u, g.sub c0 c, rfl, hv, .base (.ins ea ci.cl ci.ha ci.hn ci.htk ci.hm), ok.own c0 (.inr hc), ?_⟩
              simpa using fin
            · rename_i c2 fs hcell
              cases ec
              rw [hcell] at hc
              obtain ⟨dx, vs, ea, m, ed, ra⟩ := h1.st.at_ i _ a hcell z
              refine .inr ⟨W.C c0, (F.eC c0 hc).2, a, dx, vs, vc, u, g.sub c0 c, rfl, ea, ed, hvu, ok.own c0 (.inl hc), ?_⟩
              simpa using fin
            · cases ec
        | _ => cases ec
      · cases e1
    · cases e1
/-! ### calls -/
/-- what a def promises: as the small language tells -/
def spEV (K : PySem.W.Frag) (W : Wd) (t : Tab) (n f : Nat) : Sp := fun vs H Q E => ∃ (φ : Ad) (s : S) (ds : List D) (Ef : Nat → List (Nat × D) → S → Prop), State K W φ s H ∧ RepAll K W φ H vs ds ∧ (∃ F, t.fn f = some F ∧ ds.length = F.np) ∧
  Good (fun o s' => match o with
    | .v d => ∀ φ' v H', State K W φ' s' H' → Up ⟨φ, s, H⟩ ⟨φ', s', H'⟩ → Rep K W φ' H' v d → Q v H'
    | _ => False) Ef (call t n f ds s) ∧ ∀ cls d H', wish K W ⟨φ, s, H⟩ Ef cls d H' → E cls d H'
theorem wish_trans {K : PySem.W.Frag} {b c : St3} {Ef : Nat → List (Nat × D) → S → Prop} {cls : Value} {d : Option Addr} {H' : Hp} (hb : State K W b.φ b.s b.H) (hc : State K W c.φ c.s c.H) (u : Up b c) (w : wish K W c Ef cls d H') : wish K W b Ef cls d H' := by
  obtain ⟨c', fs, φ', s', dx, vs, h1, h2, h3, h4, h5, h6⟩ := w
  exact ⟨c', fs, φ', s', dx, vs, h1, h2, h3, h4, Up.trans (b := c) hc u h5 hb, h6⟩
/-- the callee runs, its exceptions are taken here -/
theorem at1 {n : Nat} {f : Addr} {fd : FuncData} {ps : List Str} {sp : Sp} {E : XK} {pins : List (Addr × Obj)} {σ : L2.St} {H : Hp} {s : Shared} {Q : VK} {us ds : List Value} {vs dvs : List V} (F : Fn X.prog X.w X.K X.mg X.base (CX X.prog X.w) n f fd ps sp) (rm : Rm n X.A) (hb : Binds X.K fd ps ds) (hd : Vals dvs ds)
    (hx : ∀ e s', CX X.prog X.w X.stack H s E e s' → X.xe e s') (I : Inv X pins σ H s) (r : Vals vs us) (h : sp (vs ++ dvs) H Q E) : wpAny (model X.prog X.w) X.A (PySem.call (.ref f) us) (EP X pins σ Q) X.xe s := by
  have rr := r.append hd
  have bnd := hb s us I.kIn (rr.length.symm.trans (F.arity _ _ _ _ h))
  have z := F.goes _ _ _ _ ⟨us, []⟩ _ _ _ _ rm I.env0 bnd rr h
  refine wpAny_call (codeAny_mono z ?_)
  intro r s' q
  match r, q with
  | .error e, q => exact hx e s' q
  | .ok (.ret u), q => exact I.after q
  | .ok .next, q => exact q.elim
  | .ok .brk, q => exact q.elim
  | .ok .cont, q => exact q.elim
/-- f(e, ..) -/
theorem call_at {n : Nat} {f : Addr} {fd : FuncData} {ps : List Str} {sp : Sp} {E : XK} {σ : L2.St} {H : Hp} {Q : VK} {ds : List Value} {dvs : List V} {x : Str} {e : Expr} {es : List Expr} {p pos : Pos} (F : Fn X.prog X.w X.K X.mg X.base (CX X.prog X.w) n f fd ps sp) (rm : Rm n X.A) (hg : L2.Gl X x) (hm : X.mg x = some (.ref f)) (hk : PySem.W.keepIn X.K (.ref f) = true) (hb : Binds X.K fd ps ds) (hd : Vals dvs ds)
    (h : canA X (e :: es) σ H fun vs H1 => ∃ E, sp (vs ++ dvs) H1 Q E ∧ ∀ pins s e s', Inv X pins σ H1 s → CX X.prog X.w X.stack H1 s E e s' → X.xe e s') (hdb : (x == ("__debug__" : Str)) = false) (he : starEach (e :: es) X.env = (false, eval e X.env) :: starEach es X.env) (hpl : (backTo pos (starEach es X.env)).any (·.1) = false) :
    canE X (.Call (.Name x p) (e :: es) [] pos) σ H Q := by
  intro pins s I
  refine wpAny_Call_Name_kw (ld_glob I hg hm ?_ hdb)
  refine PySem.W.callWith_K (h₀ := X.base) I.ok.mod.kin hk (thn (h pos pins s I) ?_) he hpl
  rintro us s1 ⟨vs, H1, I1, r, E, q, hx⟩
  exact ⟨I1.kIn, at1 F rm hb hd (fun e s' c => hx pins s1 e s' I1 c) I1 r q⟩
theorem call_at0 {n : Nat} {f : Addr} {fd : FuncData} {ps : List Str} {sp : Sp} {E : XK} {σ : L2.St} {H : Hp} {Q : VK} {ds : List Value} {dvs : List V} {x : Str} {p pos : Pos} (F : Fn X.prog X.w X.K X.mg X.base (CX X.prog X.w) n f fd ps sp) (rm : Rm n X.A) (hg : L2.Gl X x) (hm : X.mg x = some (.ref f)) (hk : PySem.W.keepIn X.K (.ref f) = true) (hb : Binds X.K fd ps ds) (hd : Vals dvs ds)
    (h : ∃ E, sp dvs H Q E ∧ ∀ pins s e s', Inv X pins σ H s → CX X.prog X.w X.stack H s E e s' → X.xe e s') (hdb : (x == ("__debug__" : Str)) = false) : canE X (.Call (.Name x p) [] [] pos) σ H Q := by
  intro pins s I
  refine wpAny_Call_Name_kw (ld_glob I hg hm ?_ hdb)
  obtain ⟨E, q, hx⟩ := h
  exact PySem.W.callWith_K0 I.kIn hk (at1 (us := []) (vs := []) F rm hb hd (fun e s' c => hx pins s e s' I c) I .nil q)
/-- a def, as it may be called with some arguments left out -/
structure FnAt (P : Program) (w : World) (K : PySem.W.Frag) (mg : Str → Option Value) (base : Heap) (W : Wd) (t : Tab) (n f : Nat) (m : Nat) (x : Str) : Prop where
  ex : ∃ (fa : Addr) (fd : FuncData) (ps : List Str) (us : List Value) (dvs : List V) (F : Fun), mg x = some (.ref fa) ∧ PySem.W.keepIn K (.ref fa) = true ∧ Fn P w K mg base (CX P w) n fa fd ps (spEV K W t n f) ∧ Binds K fd ps us ∧ Vals dvs us ∧ t.fn f = some F ∧
    (∀ φ H, RepAll K W φ H dvs (F.dfl.drop (m - (F.np - F.dfl.length)))) ∧ F.np - F.dfl.length ≤ m ∧ m ≤ F.np ∧ F.dfl.length ≤ F.np
theorem call_fill {t : Tab} {n f : Nat} {F : Fun} {ds : List D} {s : S} (hF : t.fn f = some F) (h1 : F.np - F.dfl.length ≤ ds.length) (h2 : ds.length ≤ F.np) (h3 : F.dfl.length ≤ F.np) : call t n f (ds ++ F.dfl.drop (ds.length - (F.np - F.dfl.length))) s = call t n f ds s := by
  cases n with
  | zero => rfl
  | succ n =>
    show opt (t.fn f) _ = opt (t.fn f) _
    rw [hF]
    show run _ F _ s = run _ F _ s
    have e : (ds ++ F.dfl.drop (ds.length - (F.np - F.dfl.length))).length = F.np := by
      rw [List.length_append, List.length_drop]
      omega
    rw [e, show F.np - (F.np - F.dfl.length) = F.dfl.length by omega, List.drop_length, List.append_nil]
theorem call_core {t : Tab} {n f : Nat} {b : St3} {φ φ1 : Ad} {ρ : Rho} {s s1 : S} {σ : L2.St} {H H1 : Hp} {k : D → S → T} {P : Out → S → Prop} {Ef : Nat → List (Nat × D) → S → Prop} {Q : VK} {ds : List D} {vs : List V} (st : State X.K W φ s H) (xp : XP X W σ b Ef) (h1 : Here X W b φ1 ρ s1 σ H1) (u1 : Up ⟨φ, s, H⟩ ⟨φ1, s1, H1⟩) (r1 : RepAll X.K W φ1 H1 vs ds) (hnp : ∃ F, t.fn f = some F ∧ ds.length = F.np)
    (g1 : Good P Ef (T.bind (call t n f ds s1) fun o s => match o with
      | .v d => k d s
      | _ => .no)) (q : ∀ φ' d v s' H', Here X W b φ' ρ s' σ H' → Up ⟨φ, s, H⟩ ⟨φ', s', H'⟩ → Rep X.K W φ' H' v d → Good P Ef (k d s') → Q v H') : ∃ E, spEV X.K W t n f vs H1 Q E ∧ ∀ pins s e s', Inv X pins σ H1 s → CX X.prog X.w X.stack H1 s E e s' → X.xe e s' := by
  refine ⟨wish X.K W b Ef, ⟨φ1, s1, ds, Ef, h1.st, r1, hnp, ?_, fun cls d H' w => wish_trans h1.b0 h1.st h1.up w⟩, fun pins s e s' I c => xp pins H1 s e s' I c⟩
  refine Good.mono (fun o s' z => ?_) (fun _ _ _ z => z) (good_bind.mp g1)
  cases o with
  | v d => exact fun φ' v H' st' u' r' => q φ' d v s' H' (h1.on st' u') (Up.trans (b := ⟨φ1, s1, H1⟩) h1.st u1 u' st) r' z
  | _ => exact False.elim z
theorem ce_cal {t : Tab} {n f : Nat} {x : Str} {e : Expr} {es : List Expr} {p pos : Pos} {fs : Rho → S → (List D → S → T) → T} (F : FnAt X.prog X.w X.K X.mg X.base W t n f (es.length + 1) x) (rm : Rm n X.A) (hg : L2.Gl X x) (h0 : CA X W (e :: es) fs)
    (hdb : (x == ("__debug__" : Str)) = false) (he : starEach (e :: es) X.env = (false, eval e X.env) :: starEach es X.env) (hpl : (backTo pos (starEach es X.env)).any (·.1) = false) :
    CE X W (.Call (.Name x p) (e :: es) [] pos) fun r s k => fs r s fun xs s => T.bind (call t n f xs s) fun o s => match o with
      | .v d => k d s
      | _ => .no := by
  intro b φ ρ s σ H k P Ef Q h xp g q
  obtain ⟨fa, fd, ps, us, dvs, F, hm, hk, hF, hb, hd, ht, hdv, l1, l2, l3⟩ := F.ex
  refine call_at (E := wish X.K W b Ef) hF rm hg hm hk hb hd ?_ hdb he hpl
  refine h0 b φ ρ s σ H _ P Ef _ h xp g fun φ1 ds vs s1 H1 hz h1 u1 r1 g1 => ?_
  have hz : ds.length = es.length + 1 := hz
  refine call_core (ds := ds ++ F.dfl.drop (es.length + 1 - (F.np - F.dfl.length))) h.st xp h1 u1 (r1.append (hdv _ _)) ⟨F, ht, by rw [List.length_append, List.length_drop, hz]; omega⟩ ?_ q
  rw [← hz]
  rw [call_fill ht (by omega) (by omega) l3]
  exact g1
theorem ce_cal0 {t : Tab} {n f : Nat} {x : Str} {p pos : Pos} (F : FnAt X.prog X.w X.K X.mg X.base W t n f 0 x) (rm : Rm n X.A) (hg : L2.Gl X x) (hdb : (x == ("__debug__" : Str)) = false) :
    CE X W (.Call (.Name x p) [] [] pos) fun r s k => T.bind (call t n f [] s) fun o s => match o with
      | .v d => k d s
      | _ => .no := by
  intro b φ ρ s σ H k P Ef Q h xp g q
  obtain ⟨fa, fd, ps, us, dvs, F, hm, hk, hF, hb, hd, ht, hdv, l1, l2, l3⟩ := F.ex
  refine call_at0 (E := wish X.K W b Ef) hF rm hg hm hk hb hd ?_ hdb
  refine call_core (ds := [] ++ F.dfl.drop (0 - (F.np - F.dfl.length))) h.st xp h (.refl _) (hdv _ _) ⟨F, ht, by rw [List.length_append, List.length_drop, List.length_nil]; omega⟩ ?_ q
  rw [show (0 : Nat) = ([] : List D).length from rfl, call_fill ht (by simpa using l1) (Nat.zero_le _) l3]
  exact g
/-! ### a number drawn -/
def R_draw (p : Addr) (n : Nat) (ds : List RD.D) (k : Nat → RD.D → Prop) : Prop := ∃ (many : Int) (n0 : Nat), n = n0 + 1 ∧ ds = [.raw (.ref p), .int many] ∧ many < 2 ^ 9000 ∧ ∀ v : Int, 0 ≤ v → (v < many ∨ v = 0) → k n0 (.int v)
theorem st_write {K : PySem.W.Frag} {φ : Ad} {s : S} {H H' : Hp} {i : Nat} {a : Addr} {c : Cell} (st : State K W φ s H) (ha : φ.l[i]? = some a) (k : ∀ x o, x ≠ a → H x = some o → H' x = some o) (hc : CellR K W φ H' a c) (hn : ∀ x, x ∈ φ → H' x ≠ none) (hx : ∀ x, x ≠ a → x ∈ φ.l → H' x = H x) (mw : Nat) : State K W φ ⟨s.cells.set i c, mw, s.fb, s.lk⟩ H' := by
  have kp : Kp φ H φ H' := ⟨fun _ _ e => e, fun x o m e => ⟨k x o (fun z => m (.inl (by rw [z]; exact List.mem_of_getElem? ha))) e, m⟩⟩
  refine ⟨by simp [st.len], st.nd, fun j c' x h1 h2 => ?_, fun x hg => hn x (.inr hg), st.ng⟩
  by_cases e : j = i
  · subst e
    rw [ha] at h2
    cases h2
    have hi : j < s.cells.length := by rw [← st.len]; exact (List.getElem?_eq_some_iff.mp ha).1
    rw [show (⟨s.cells.set j c, mw, s.fb, s.lk⟩ : S).cells = s.cells.set j c from rfl, List.getElem?_set_self hi] at h1
    cases h1
    exact hc
  · rw [show (⟨s.cells.set i c, mw, s.fb, s.lk⟩ : S).cells = s.cells.set i c from rfl, List.getElem?_set_ne (Ne.symm e)] at h1
    have ne : x ≠ a := fun z => by
      subst z
      have b1 := (List.getElem?_eq_some_iff.mp h2)
      have b2 := (List.getElem?_eq_some_iff.mp ha)
      obtain ⟨b1, e1⟩ := b1
      obtain ⟨b2, e2⟩ := b2
      exact e ((List.getElem_inj st.nd).mp (e1.trans e2.symm))
    exact (st.at_ j c' x h1 h2).up kp (hx x ne (List.mem_of_getElem? h2))
theorem up_write {φ : Ad} {s : S} {H H' : Hp} {i mw : Nat} {a : Addr} {c c0 : Cell} (ha : φ.l[i]? = some a) (hg : ∀ x, φ.g x → x ≠ a) (k : ∀ x o, x ≠ a → H x = some o → H' x = some o) (h0 : s.cells[i]? = some c0) (hm : mw ≤ s.mw) (hw : i < s.fb → i < mw → ∀ n, belowC n c0 = true → belowC n c = true) (hl : i ∈ s.lk → c = c0) :
    Up ⟨φ, s, H⟩ ⟨φ, ⟨s.cells.set i c, mw, s.fb, s.lk⟩, H'⟩ := by
  have hi : i < s.cells.length := (List.getElem?_eq_some_iff.mp h0).1
  refine ⟨⟨fun _ _ e => e, fun x o m e => ⟨k x o (fun z => m (.inl (by rw [z]; exact List.mem_of_getElem? ha))) e, m⟩⟩, rfl, fun x o m e => k x o (hg x m) e, rfl, rfl, hm, fun j q q' h1 h2 e e' n hn => ?_, fun j q hj e => ?_⟩
  · by_cases z : j = i
    · subst z
      rw [show (⟨s.cells.set j c, mw, s.fb, s.lk⟩ : S).cells = s.cells.set j c from rfl, List.getElem?_set_self hi] at e'
      cases e'
      rw [h0] at e
      cases e
      exact hw h1 h2 n hn
    · rw [show (⟨s.cells.set i c, mw, s.fb, s.lk⟩ : S).cells = s.cells.set i c from rfl, List.getElem?_set_ne (Ne.symm z)] at e'
      rw [show (s.cells[j]? : Option Cell) = some q from e] at e'
      cases e'
      exact hn
  · show (s.cells.set i c)[j]? = some q
    by_cases z : j = i
    · subst z
      rw [List.getElem?_set_self hi]
      rw [show (s.cells[j]? : Option Cell) = some q from e] at h0
      cases h0
      rw [hl hj]
    · rw [List.getElem?_set_ne (Ne.symm z)]
      exact e
theorem ce_drw {x : Str} {fd : FuncData} {fa : Addr} {e : Expr} {es : List Expr} {p pos : Pos} {fs : Rho → S → (List D → S → T) → T} {lv : Nat} (hn0 : 4000 ≤ W.n0) (hm : X.mg x = some (.ref fa)) (hk : PySem.W.keepIn X.K (.ref fa) = true) (F : FnOk X.prog X.w X.K X.mg X.base CX0 lv fa fd ["pen", "many"] (RD.spP X.K R_draw)) (hb : Binds X.K fd ["pen", "many"] [])
    (rm : Room lv X.A) (hg : L2.Gl X x) (h0 : CA X W (e :: es) fs) (hdb : (x == ("__debug__" : Str)) = false) (he : starEach (e :: es) X.env = (false, eval e X.env) :: starEach es X.env) (hpl : (backTo pos (starEach es X.env)).any (·.1) = false) :
    CE X W (.Call (.Name x p) (e :: es) [] pos) fun r s k => fs r s fun xs s => match xs with
      | [.cel i, .int m] => match s.cells[i]? with
        | some (.pen c) => if c < 4000 && decide (m.natAbs.log2 < 9000) && !s.lk.contains i then .dr (Nat.max 1 m.toNat) fun v => k (.int (v : Int)) ⟨s.cells.set i (.pen (c + 1)), s.mw, s.fb, s.lk⟩ else .no
        | _ => .no
      | _ => .no := by
  intro b φ ρ s σ H k P Ef Q h xp g q
  refine canE.of (pe_call F rm hg hm hk hb .nil pass0 acan hdb he hpl) ?_
  refine h0 b φ ρ s σ H _ P Ef _ h xp g fun φ1 ds vs s1 H1 l1 h1 u1 r1 g1 => ?_
  match ds, r1, g1 with
  | [.cel i, .int m], r1, g1 =>
    cases r1 with
    | cons rp rq =>
      cases rq with
      | cons rw r3 =>
        cases rw; cases r3
        cases rp with
        | @cel a _ z =>
          simp only at g1
          split at g1
          · rename_i c hcell
            split at g1
            · rename_i hc
              simp only [Bool.and_eq_true, decide_eq_true_eq, Bool.not_eq_true'] at hc
              obtain ⟨hk0, cc, mcc, pen⟩ := h1.st.at_ i _ a hcell z
              obtain ⟨at_, rest, ns, e1, e2, rr⟩ := id pen
              have hac : a ≠ cc := fun y => mcc (.inl (by rw [← y]; exact List.mem_of_getElem? z))
              have hm9 : m < 2 ^ 9000 := by
                have b1 : m.natAbs < 2 ^ 9000 := by
                  rcases Nat.eq_zero_or_pos m.natAbs with y | y
                  · rw [y]; exact Nat.two_pow_pos _
                  · exact (Nat.log2_lt (by omega)).mp hc.1.2
                have b2 : ((m.natAbs : Nat) : Int) < ((2 ^ 9000 : Nat) : Int) := Int.ofNat_lt.mpr b1
                have b3 : ((2 ^ 9000 : Nat) : Int) = (2 : Int) ^ 9000 := by rw [Int.natCast_pow]; rfl
                rw [b3] at b2
                omega
              refine ⟨[a, cc], a, cc, W.n0 - c, [.raw (.ref a), .int m], fun n' d => n' = W.n0 - (c + 1) ∧ ∃ v : Nat, d = .int v ∧ v < Nat.max 1 m.toNat, fun y hy => ?_, ?_, List.mem_cons_self .., by simp, hac, pen, .cons (.raw _) (.cons (.int _) .nil), ⟨m, W.n0 - (c + 1), by omega, rfl, hm9, fun v v0 v1 => ⟨rfl, v.toNat, by rw [Int.toNat_of_nonneg v0], ?_⟩⟩, ?_⟩
              · rcases List.mem_cons.mp hy with rfl | hy
                · rw [e1]; simp
                · rw [List.mem_singleton] at hy; rw [hy, e2]; simp
              · simp [hac]
              · have : v.toNat < Nat.max 1 m.toNat := by
                  have : v.toNat < max 1 m.toNat := by omega
                  exact this
                exact this
              · rintro n' d v H' ⟨rfl, w, rfl, hw⟩ st pen' rd
                cases rd
                have g2 := g1 w hw
                have hx : ∀ y, y ≠ a → y ∈ φ1.l → H' y = H1 y := fun y hy hm => by
                  cases e : H1 y with
                  | none => exact absurd e (h1.st.some (.inl hm))
                  | some o => exact st y o hy e
                have hnn : ∀ y, y ∈ φ1 → H' y ≠ none := fun y hy => by
                  by_cases e : y = a
                  · obtain ⟨_, _, _, e3, _⟩ := pen'
                    rw [e, e3]; simp
                  · cases e2 : H1 y with
                    | none => exact absurd e2 (h1.st.some hy)
                    | some o => rw [st y o e e2]; simp
                have st2 : State X.K W φ1 ⟨s1.cells.set i (.pen (c + 1)), s1.mw, s1.fb, s1.lk⟩ H' := st_write (c := .pen (c + 1)) h1.st z st (show CellR X.K W φ1 H' a (.pen (c + 1)) from ⟨by omega, cc, mcc, pen'⟩) hnn hx _
                have u2 : Up ⟨φ1, s1, H1⟩ ⟨φ1, ⟨s1.cells.set i (.pen (c + 1)), s1.mw, s1.fb, s1.lk⟩, H'⟩ := by
                  refine up_write z (fun y hy e => h1.st.ng y hy (by rw [e]; exact List.mem_of_getElem? z)) st hcell (Nat.le_refl _) (fun _ _ _ _ => rfl) fun hl => ?_
                  exact absurd (List.contains_iff_mem.mpr hl) (by rw [hc.2]; simp)
                exact q φ1 _ _ _ H' (h1.on st2 u2) (Up.trans (b := ⟨φ1, s1, H1⟩) h1.st u1 u2 h.st) (.int _) g2
            · exact g1.elim
          · exact g1.elim
end
end EV

/-! EV7: targets, what is walked, comprehensions. -/
namespace EV
open PySem PySem.Spec PyProof.Rows L2
open RD (canE canT canW canA canK canS canSs canG canGs canI PenAt KT ExK pcan tcan wcan acan sscan gcan gscan icanL Rm Fn Blk)
section
variable {X : Cx} {W : Wd}
/-! ### targets -/
def gslots : G → List Nat
  | .nm i => [i]
  | .nil => []
  | .cons g gs => gslots g ++ gslots gs
  | .tup gs => gslots gs
/-- what asg does, to a row of data -/
noncomputable def asgs (g : G) : List D → Rho → (Rho → T) → T := G.rec (motive := fun _ => List D → Rho → (Rho → T) → T)
    (fun i ds r k => match ds with
      | [d] => k (setN i (some d) r)
      | _ => .no)
    (fun ds r k => match ds with
      | [] => k r
      | _ => .no)
    (fun _ _ g gs ds r k => match ds with
      | d :: ds => g [d] r fun r => gs ds r k
      | _ => .no)
    (fun gs ih ds r k => match ds with
      | [.tup ds] => if ds.length == glen gs then ih ds r k else .no
      | _ => .no) g
theorem asg_eq (g : G) (d : D) (r : Rho) (k : Rho → T) : asg g d r k = asgs g [d] r k := rfl
/-- a target: V_ the slots that may be stored to -/
def CG (X : Cx) (W : Wd) (tg : Expr) (g : G) (V_ : Nat → Prop) : Prop := ∀ (b : St3) (φ : Ad) (ρ : Rho) (s : S) (σ : L2.St) (H : Hp) (k : Rho → T) (P : Out → S → Prop) (Ef : Nat → List (Nat × D) → S → Prop) (v : V) (d : D) (Q : L2.St → Hp → Prop), Here X W b φ ρ s σ H → Rep X.K W φ H v d → Good P Ef (asg g d ρ k) →
  (∀ ρ' σ', Here X W b φ ρ' s σ' H → σ'.length = σ.length → (∀ j, ¬ V_ j → σ'[j]? = σ[j]?) → Good P Ef (k ρ') → Q σ' H) → canG X tg v σ H Q
def CGs (X : Cx) (W : Wd) (ts : List Expr) (g : G) (V_ : Nat → Prop) : Prop := ∀ (b : St3) (φ : Ad) (ρ : Rho) (s : S) (σ : L2.St) (H : Hp) (k : Rho → T) (P : Out → S → Prop) (Ef : Nat → List (Nat × D) → S → Prop) (vs : List V) (ds : List D) (Q : L2.St → Hp → Prop), Here X W b φ ρ s σ H → RepAll X.K W φ H vs ds → ds.length = ts.length → Good P Ef (asgs g ds ρ k) →
  (∀ ρ' σ', Here X W b φ ρ' s σ' H → σ'.length = σ.length → (∀ j, ¬ V_ j → σ'[j]? = σ[j]?) → Good P Ef (k ρ') → Q σ' H) → canGs X ts vs σ H Q
theorem Here.set {b : St3} {φ : Ad} {ρ : Rho} {s : S} {σ : L2.St} {H : Hp} {v : V} {d : D} (h : Here X W b φ ρ s σ H) (i : Nat) (r : Rep X.K W φ H v d) : Here X W b φ (ρ.set i (some d)) s (σ.set i (some v)) H :=
  ⟨h.st, RD.paired_set (F := SlotR X.K W φ H) (a := some d) (b := some v) r i h.sl, h.up, h.b0⟩
theorem cg_name {i : Nat} {x : Str} {pos : Pos} {V_ : Nat → Prop} (hN : X.N.Nodup) (hi : X.N[i]? = some x) (hx : Loc X.env.scope x) (hf : X.fn x = true ∨ X.env.scope.names.lookup x = some .local) (hv : V_ i) : CG X W (.Name x pos) (.nm i) V_ := by
  intro b φ ρ s σ H k P Ef v d Q h r g q
  refine canG.of (pg_name hN hi hx hf) ?_
  have g' : Good P Ef (k (setN i (some d) ρ)) := g
  rw [setN_eq] at g'
  refine q _ _ (h.set i r) (by rw [List.length_set]) (fun j hj => ?_) g'
  rw [List.getElem?_set_ne]
  rintro rfl
  exact hj hv
theorem cgs_nil {V_ : Nat → Prop} : CGs X W [] .nil V_ := by
  intro b φ ρ s σ H k P Ef vs ds Q h r hl g q
  cases ds with
  | nil =>
    cases r
    exact RD.canGs.of pgs_nil ⟨rfl, q ρ σ h rfl (fun _ _ => rfl) g⟩
  | cons d ds => cases hl
theorem cgs_cons {e : Expr} {es : List Expr} {g gs : G} {V_ : Nat → Prop} (h1 : CG X W e g V_) (h2 : CGs X W es gs V_) (hs : (assignEach (e :: es) X.env).map (·.2) = assign e X.env :: (assignEach es X.env).map (·.2)) : CGs X W (e :: es) (.cons g gs) V_ := by
  intro b φ ρ s σ H k P Ef vs ds Q h r hl gd q
  cases ds with
  | nil => cases hl
  | cons d ds =>
    cases r with
    | cons r1 r2 =>
      refine RD.canGs.of (pgs_cons gcan gscan hs) ?_
      refine ⟨_, _, rfl, h1 b φ ρ s σ H (fun r => asgs gs ds r k) P Ef _ d _ h r1 gd fun ρ1 σ1 hh1 l1 s1 g1 => ?_⟩
      exact h2 b φ ρ1 s σ1 H k P Ef _ ds Q hh1 r2 (by simpa using hl) g1 fun ρ2 σ2 hh2 l2 s2 g2 => q ρ2 σ2 hh2 (l2.trans l1) (fun j hj => (s2 j hj).trans (s1 j hj)) g2
theorem cg_tup {ts : List Expr} {kk : Nat} {pos : Pos} {gs : G} {V_ : Nat → Prop} (hc : X.calm = true) (h0 : CGs X W ts gs V_) (hl : glen gs = ts.length) (hn : (assignEach ts X.env).length = ts.length) (hst : (assignEach ts X.env).findIdx? (·.1) = none) : CG X W (.Tuple ts kk pos) (.tup gs) V_ := by
  intro b φ ρ s σ H k P Ef v d Q h r g q
  refine canG.of (pg_tup (n := ts.length) hc gscan hn hst) ?_
  cases d with
  | tup ds =>
    have g' : Good P Ef (if ds.length == glen gs then asgs gs ds ρ k else .no) := g
    by_cases hz : ds.length = glen gs
    · rw [if_pos (by simpa using hz)] at g'
      cases r with
      | @tup a vs _ hq ha =>
        refine ⟨a, vs, rfl, ?_, by rw [ha.length, hz, hl], h0 b φ ρ s σ H k P Ef vs ds Q h ha (by rw [hz, hl]) g' q⟩
        rcases hq with ⟨_, hq⟩ | hq
        · exact .inl hq
        · exact .inr hq
    · rw [if_neg (by simpa using hz)] at g'
      exact g'.elim
  | _ => exact False.elim g
/-! ### what is walked -/
def Src (K : PySem.W.Frag) (W : Wd) (φ : Ad) (s : S) (H : Hp) (ls : List Nat) (Jt : It) (ds : List D) : Prop := ∀ (φ' : Ad) (s' : S) (H' : Hp), State K W φ' s' H' → Kp φ H φ' H' → (∀ i c, i ∈ ls → s.cells[i]? = some c → s'.cells[i]? = some c) →
  (∀ i, i < ds.length → Jt.go i H') ∧ Jt.stop ds.length H' ∧ ∀ i d x H'', ds[i]? = some d → Jt.yld i H' x H'' → (H'' = H' ∨ ∃ T o, H' T = none ∧ H'' = upd H' T o) ∧ Rep K W φ' H'' x d
def CI (X : Cx) (W : Wd) (tg iter : Expr) (f : Rho → S → (List D → List Nat → S → T) → T) : Prop := ∀ (b : St3) (φ : Ad) (ρ : Rho) (s : S) (σ : L2.St) (H : Hp) (k : List D → List Nat → S → T) (P : Out → S → Prop) (Ef : Nat → List (Nat × D) → S → Prop) (R : It → Hp → Prop), Here X W b φ ρ s σ H → XP X W σ b Ef → Good P Ef (f ρ s k) →
  (∀ φ' ds ls s' H' Jt, Here X W b φ' ρ s' σ H' → Up ⟨φ, s, H⟩ ⟨φ', s', H'⟩ → Src X.K W φ' s' H' ls Jt ds → Good P Ef (k ds ls s') → R Jt H') → canI X tg iter σ H R
def iSeqU (K : PySem.W.Frag) (tl : TE) : TI := fun σ H R => tl σ H fun x H1 => ∃ a, x = .ref a ∧ (((∃ xs, SqL K H1 a xs) ∧ R (Itl K a) H1) ∨ ((∃ xs, SqT K H1 a xs) ∧ R (Itt K a) H1))
theorem pi_seqU {tg l : Expr} {tl : TE} (hl : PE X l tl) : PI X tg l (iSeqU X.K tl) := by
  refine ⟨fun pins s σ H R I h => ?_⟩
  refine thn (hl.run pins s σ H _ I h) fun v s1 ⟨x, H1, I1, r1, q1⟩ => ?_
  obtain ⟨a, e, q1⟩ := q1
  subst e
  cases r1
  have fp : ∀ b ∈ [s1.heap.objs.size], FpOk X pins H1 b := fun b hb => by
    have e : b = s1.heap.objs.size := by simpa using hb
    subst e
    exact I1.fpOk (Nat.le_refl _) (I1.hok.fresh (Nat.le_refl _))
  rcases q1 with ⟨⟨xs, hq⟩, q⟩ | ⟨⟨xs, hq⟩, q⟩
  · obtain ⟨its, rv, p, hz⟩ := I1.list hq
    refine wpAny_pyIter_list p.isList ?_
    exact ⟨s1.heap.objs.size, [s1.heap.objs.size], _, _, H1, rfl, I1.kept (t' := s1.toks) fun b o e => Heap.get?_push_of_some _ e, turn_list a _, ⟨_, Heap.get?_push_size _ rfl, rfl, rfl⟩, fp, q⟩
  · obtain ⟨its, rv, p, hz⟩ := I1.tuple hq
    refine wpAny_pyIter_tuple (show s1.heap.IsTuple a its.toArray from p) ?_
    exact ⟨s1.heap.objs.size, [s1.heap.objs.size], _, _, H1, rfl, I1.kept (t' := s1.toks) fun b o e => Heap.get?_push_of_some _ e, turn_tuple a _, ⟨_, Heap.get?_push_size _ rfl, rfl, rfl⟩, fp, q⟩
theorem src_lst {K : PySem.W.Frag} {φ : Ad} {s : S} {H : Hp} {ls : List Nat} {a : Addr} {ds : List D} (h : ∀ (φ' : Ad) (s' : S) (H' : Hp), State K W φ' s' H' → Kp φ H φ' H' → (∀ i c, i ∈ ls → s.cells[i]? = some c → s'.cells[i]? = some c) → ∃ xs, H' a = some (.lst xs) ∧ RepAll K W φ' H' xs ds) : Src K W φ s H ls (Itl K a) ds := by
  intro φ' s' H' st kp lk
  obtain ⟨xs, e, ra⟩ := h φ' s' H' st kp lk
  have ln := ra.length
  refine ⟨fun i hi => ⟨xs, xs[i]'(by omega), .of e, by simp [show i < xs.length by omega]⟩, ⟨xs, .of e, by omega⟩, fun i d x H'' hd y => ?_⟩
  obtain ⟨e1, y⟩ := y
  subst e1
  obtain ⟨v, hv, rv⟩ := ra.get hd
  have e2 := y xs (.of e)
  rw [hv] at e2
  cases e2
  exact ⟨.inl rfl, rv⟩
theorem src_tup {K : PySem.W.Frag} {φ : Ad} {s : S} {H : Hp} {ls : List Nat} {a : Addr} {ds : List D} (h : ∀ (φ' : Ad) (H' : Hp), Kp φ H φ' H' → ∃ xs, SqT K H' a xs ∧ RepAll K W φ' H' xs ds) : Src K W φ s H ls (Itt K a) ds := by
  intro φ' s' H' st kp lk
  obtain ⟨xs, e, ra⟩ := h φ' H' kp
  have ln := ra.length
  refine ⟨fun i hi => ⟨xs, xs[i]'(by omega), e, by simp [show i < xs.length by omega]⟩, ⟨xs, e, by omega⟩, fun i d x H'' hd y => ?_⟩
  obtain ⟨e1, y⟩ := y
  subst e1
  obtain ⟨v, hv, rv⟩ := ra.get hd
  have e2 := y xs e
  rw [hv] at e2
  cases e2
  exact ⟨.inl rfl, rv⟩
theorem ci_sq {tg e : Expr} {f : Kv} (he : CE X W e f) : CI X W tg e fun r s k => f r s fun x s => opt (items s x) fun xs => k xs (locks x) s := by
  intro b φ ρ s σ H k P Ef R h xp g q
  refine canI.of (pi_seqU pcan) ?_
  refine he b φ ρ s σ H _ P Ef _ h xp g fun φ1 x v s1 H1 h1 u1 r1 g1 => ?_
  obtain ⟨ds, e1, g2⟩ := good_opt g1
  cases x with
  | lst ys =>
    cases e1
    cases r1 with
    | @lst a xs _ m hq ha =>
      refine ⟨a, rfl, .inl ⟨⟨xs, .of hq⟩, q φ1 _ _ s1 H1 _ h1 u1 (src_lst fun φ' s' H' st kp lk => ⟨xs, (kp.keep _ _ m hq).1, ha.up kp⟩) g2⟩⟩
  | tup ys =>
    cases e1
    cases r1 with
    | @tup a xs _ hq ha =>
      have sq : ∀ {φ' H'}, Kp φ1 H1 φ' H' → SqT X.K H' a xs := fun kp => by
        rcases hq with ⟨m, hq⟩ | hq
        · exact .inl (kp.rd m hq).2
        · exact .inr hq
      exact ⟨a, rfl, .inr ⟨⟨xs, sq .refl⟩, q φ1 _ _ s1 H1 _ h1 u1 (src_tup fun φ' H' kp => ⟨xs, sq kp, ha.up kp⟩) g2⟩⟩
  | cel i =>
    cases r1 with
    | @cel a _ z =>
      simp only [items] at e1
      split at e1
      · rename_i ys hc
        cases e1
        obtain ⟨vs, hq, ha⟩ := h1.st.at_ i _ a hc z
        refine ⟨a, rfl, .inl ⟨⟨vs, .of hq⟩, q φ1 _ _ s1 H1 _ h1 u1 (src_lst fun φ' s' H' st kp lk => ?_) g2⟩⟩
        exact st.at_ i _ a (lk i _ (List.mem_singleton.mpr rfl) hc) (kp.pre _ _ z)
      · cases e1
  | _ => cases e1
theorem range_get {m i : Nat} {f : Nat → D} {d : D} (h : ((List.range m).map f)[i]? = some d) : i < m ∧ d = f i := by
  rw [List.getElem?_map] at h
  cases z : (List.range m)[i]? with
  | none => rw [z] at h; cases h
  | some w =>
    rw [z] at h
    have hi : i < m := by
      have := (List.getElem?_eq_some_iff.mp z).1
      simpa using this
    rw [List.getElem?_range hi] at z
    cases z
    cases h
    exact ⟨hi, rfl⟩
theorem ci_rng1 {tg a : Expr} {p pos : Pos} {fs : Rho → S → (List D → S → T) → T} (hm : X.mg "range" = none) (hg : L2.Gl X "range") (h0 : CA X W [a] fs) (hs : starEach [a] X.env = [(false, eval a X.env)]) : CI X W tg (.Call (.Name "range" p) [a] [] pos) fun r s k => fs r s fun xs s => match xs with
      | [.int j] => if decide (j < 100000) && decide (-100000 < j) then k ((List.range j.toNat).map fun i : Nat => .int (i : Int)) [] s else .no
      | [.int i, .int j] => if decide (j < 100000) && decide (-100000 < j) && decide (i < 100000) && decide (-100000 < i) then k ((List.range (j - i).toNat).map fun m : Nat => .int (i + (m : Int))) [] s else .no
      | _ => .no := by
  intro b φ ρ s σ H k P Ef R h xp g q
  refine canI.of (pi_range1 hg hm acan hs) ?_
  refine h0 b φ ρ s σ H _ P Ef _ h xp g fun φ1 ds vs s1 H1 hl h1 u1 r1 g1 => ?_
  match ds, hl, r1, g1 with
  | [.int j], _, r1, g1 =>
    cases r1 with
    | cons ra rb =>
      cases ra; cases rb
      simp only at g1
      split at g1
      · rename_i hz
        simp only [Bool.and_eq_true, decide_eq_true_eq] at hz
        refine ⟨j, rfl, by omega, by omega, q φ1 _ _ s1 H1 _ h1 u1 ?_ g1⟩
        intro φ' s' H' st kp lk
        simp only [List.length_map, List.length_range]
        refine ⟨fun i hi => hi, Nat.le_refl _, fun i d x H'' hd y => ?_⟩
        obtain ⟨e1, e2⟩ := y
        subst e1
        obtain ⟨hi, rfl⟩ := range_get hd
        rw [e2, Int.zero_add]
        exact ⟨.inl rfl, .int _⟩
      · exact g1.elim
theorem ci_rng2 {tg a c : Expr} {p pos : Pos} {fs : Rho → S → (List D → S → T) → T} (hm : X.mg "range" = none) (hg : L2.Gl X "range") (h0 : CA X W [a, c] fs) (hs : starEach [a, c] X.env = [(false, eval a X.env), (false, eval c X.env)]) (hs2 : starEach [c] X.env = [(false, eval c X.env)]) : CI X W tg (.Call (.Name "range" p) [a, c] [] pos) fun r s k => fs r s fun xs s => match xs with
      | [.int j] => if decide (j < 100000) && decide (-100000 < j) then k ((List.range j.toNat).map fun i : Nat => .int (i : Int)) [] s else .no
      | [.int i, .int j] => if decide (j < 100000) && decide (-100000 < j) && decide (i < 100000) && decide (-100000 < i) then k ((List.range (j - i).toNat).map fun m : Nat => .int (i + (m : Int))) [] s else .no
      | _ => .no := by
  intro b φ ρ s σ H k P Ef R h xp g q
  refine canI.of (pi_range2 hg hm acan hs hs2) ?_
  refine h0 b φ ρ s σ H _ P Ef _ h xp g fun φ1 ds vs s1 H1 hl h1 u1 r1 g1 => ?_
  match ds, hl, r1, g1 with
  | [.int i, .int j], _, r1, g1 =>
    cases r1 with
    | cons ra rb =>
      cases rb with
      | cons rb rc =>
        cases ra; cases rb; cases rc
        simp only at g1
        split at g1
        · rename_i hz
          simp only [Bool.and_eq_true, decide_eq_true_eq] at hz
          refine ⟨i, j, rfl, ⟨by omega, by omega, by omega, by omega⟩, q φ1 _ _ s1 H1 _ h1 u1 ?_ g1⟩
          intro φ' s' H' st kp lk
          simp only [List.length_map, List.length_range]
          refine ⟨fun i hi => hi, Nat.le_refl _, fun m d x H'' hd y => ?_⟩
          obtain ⟨e1, e2⟩ := y
          subst e1
          obtain ⟨hi, rfl⟩ := range_get hd
          rw [e2]
          exact ⟨.inl rfl, .int _⟩
        · exact g1.elim
  | [.int j], hl, _, _ => cases hl
end
end EV

/-! EV8: list comprehensions. -/
namespace EV
open PySem PySem.Spec PyProof.Rows L2
open RD (canE canT canW canA canK canS canSs canG canGs canI PenAt KT ExK pcan tcan wcan acan sscan gcan gscan icanL Rm Fn Blk tIfs pts_any)
/-- with one more ghost -/
def Ad.gst (φ : Ad) (p : Addr) : Ad := ⟨φ.l, fun a => φ.g a ∨ a = p⟩
theorem Ad.not_gst {φ : Ad} {p a : Addr} (h : a ∉ φ) (n : a ≠ p) : a ∉ φ.gst p := fun z => z.elim (fun z => h (.inl z)) fun z => z.elim (fun z => h (.inr z)) n
theorem Ad.of_gst {φ : Ad} {p a : Addr} (h : a ∉ φ.gst p) : a ∉ φ ∧ a ≠ p := ⟨fun z => h (z.elim .inl fun z => .inr (.inl z)), fun z => h (.inr (.inr z))⟩
section
variable {K : PySem.W.Frag} {W : Wd}
/-- a ghost is written -/
theorem ghost_upd {φ : Ad} {s : S} {H : Hp} {p : Addr} {o : HO} (st : State K W φ s H) (hg : φ.g p) : State K W φ s (upd H p o) ∧ Kp φ H φ (upd H p o) := by
  have kp : Kp φ H φ (upd H p o) := ⟨fun _ _ e => e, fun a u m e => ⟨by rw [upd_ne fun z => m (.inr (by rw [z]; exact hg))]; exact e, m⟩⟩
  refine ⟨⟨st.len, st.nd, fun i c a h1 h2 => (st.at_ i c a h1 h2).up kp (upd_ne fun z => st.ng p hg (by rw [← z]; exact List.mem_of_getElem? h2)), fun a ha => ?_, st.ng⟩, kp⟩
  by_cases e : a = p
  · rw [e, upd_same]; simp
  · rw [upd_ne e]; exact st.gh a ha
/-- fewer ghosts -/
theorem st_strip {φ : Ad} {s : S} {H : Hp} {p : Addr} (st : State K W (φ.gst p) s H) : State K W φ s H := by
  have kp : Kp (φ.gst p) H φ H := ⟨fun _ _ e => e, fun a o m e => ⟨e, (Ad.of_gst m).1⟩⟩
  exact ⟨st.len, st.nd, fun i c a h1 h2 => (st.at_ i c a h1 h2).up kp rfl, fun a ha => st.gh a (.inl ha), fun a ha => st.ng a (.inl ha)⟩
theorem kp_strip {φ : Ad} {H : Hp} {p : Addr} : Kp (φ.gst p) H φ H := ⟨fun _ _ e => e, fun a o m e => ⟨e, (Ad.of_gst m).1⟩⟩
theorem st_ghost {φ : Ad} {s : S} {H : Hp} {p : Addr} {o : HO} (st : State K W φ s H) (hp : H p = none) : State K W (φ.gst p) s (upd H p o) ∧ Kp φ H (φ.gst p) (upd H p o) := by
  have kp : Kp φ H (φ.gst p) (upd H p o) := ⟨fun _ _ e => e, fun a u m e => ⟨by rw [upd_ne (ne_of_none e hp)]; exact e, Ad.not_gst m (ne_of_none e hp)⟩⟩
  refine ⟨⟨st.len, st.nd, fun i c a h1 h2 => (st.at_ i c a h1 h2).up kp (upd_ne fun z => (st.at_ i c a h1 h2).some (by rw [z]; exact hp)), fun a ha => ?_, fun a ha hm => ?_⟩, kp⟩
  · rcases ha with ha | ha
    · rw [upd_ne fun z => st.gh a ha (by rw [z]; exact hp)]; exact st.gh a ha
    · rw [show a = p from ha, upd_same]; simp
  · rcases ha with ha | ha
    · exact st.ng a ha hm
    · exact st.some (.inl hm) (by rw [show a = p from ha]; exact hp)
/-- a ghost becomes a cell -/
theorem st_adopt {φ : Ad} {s : S} {H : Hp} {p : Addr} {vs : List V} {ds : List D} {lk : List Nat} (st : State K W (φ.gst p) s H) (hp : H p = some (.lst vs)) (ra : RepAll K W (φ.gst p) H vs ds) (hn : ¬ φ.g p) : State K W (φ.add p) ⟨s.cells ++ [.lst ds], s.mw, s.fb, lk⟩ H ∧ Kp (φ.gst p) H (φ.add p) H := by
  have kp : Kp (φ.gst p) H (φ.add p) H := by
    refine ⟨fun i a e => ?_, fun a o m e => ⟨e, fun z => ?_⟩⟩
    · have e' : φ.l[i]? = some a := e
      rw [Ad.get_add (List.getElem?_eq_some_iff.mp e').1]; exact e'
    · obtain ⟨m1, m2⟩ := Ad.of_gst m
      exact (Ad.mem_add z).elim m1 m2
  refine ⟨⟨by have := st.len; simp [Ad.add, Ad.gst] at this ⊢; exact this, ?_, fun i c a h1 h2 => ?_, fun a ha => st.gh a (.inl ha), fun a ha hm => ?_⟩, kp⟩
  · show (φ.l ++ [p]).Nodup
    rw [List.nodup_append]
    refine ⟨st.nd, by simp, fun a ha b hb => ?_⟩
    rw [List.mem_singleton] at hb
    subst hb
    rintro rfl
    exact st.ng a (.inr rfl) ha
  · have hl : φ.l.length = s.cells.length := st.len
    by_cases hi : i < s.cells.length
    · rw [show (⟨s.cells ++ [.lst ds], s.mw, s.fb, lk⟩ : S).cells = s.cells ++ [.lst ds] from rfl, List.getElem?_append_left hi] at h1
      rw [Ad.get_add (by rw [hl]; exact hi)] at h2
      exact (st.at_ i c a h1 h2).up kp rfl
    · rw [show (⟨s.cells ++ [.lst ds], s.mw, s.fb, lk⟩ : S).cells = s.cells ++ [.lst ds] from rfl, List.getElem?_append_right (by omega)] at h1
      rw [show (φ.add p).l = φ.l ++ [p] from rfl, List.getElem?_append_right (by rw [hl]; omega), hl] at h2
      cases q : i - s.cells.length with
      | zero =>
        rw [q] at h1 h2
        cases h1; cases h2
        exact ⟨vs, hp, ra.up kp⟩
      | succ n => rw [q] at h1; cases h1
  · rcases List.mem_append.mp (show a ∈ φ.l ++ [p] from hm) with z | z
    · exact st.ng a (.inl ha) z
    · rw [List.mem_singleton.mp z] at ha
      exact hn ha
end
theorem paired_wipe {K : PySem.W.Frag} {W : Wd} {φ : Ad} {H : Hp} {ρ : Rho} {σ : L2.St} (h : Paired (SlotR K W φ H) ρ σ) : ∀ vs : List Nat, Paired (SlotR K W φ H) (wipeR vs ρ) (L2.wipe σ vs)
  | [] => h
  | v :: vs => RD.paired_set (F := SlotR K W φ H) (a := none) (b := none) trivial v (paired_wipe h vs)
section
variable {X : Cx} {W : Wd}
/-- all contexts of a comprehension's block -/
def AllB (X : Cx) (scope : Scope) (P : Cx → Prop) : Prop := ∀ (s : Shared) (H : Hp) (C : Addr) (cl : List (Str × Addr)) (fp : List Addr), P (Blk X scope s H C cl fp)
/-- a clause's tests -/
def CTs (X : Cx) (W : Wd) (scope : Scope) (ifs : List Expr) (c : Rho → S → (Bool → S → T) → T) : Prop := match ifs with
  | [] => c = fun _ s k => k true s
  | [e] => AllB X scope fun Y => CT Y W e c
  | _ => False
structure LcI (X : Cx) (W : Wd) (φ1 : Ad) (sL : S) (H1 : Hp) (p : Addr) (ρ : Rho) (σ : L2.St) (φ : Ad) (s : S) (H : Hp) (vs : List V) (acc : List D) : Prop where
  st : State X.K W (φ.gst p) s H
  at_ : H p = some (.lst vs)
  ra : RepAll X.K W (φ.gst p) H vs acc
  sl : Paired (SlotR X.K W (φ.gst p) H) ρ σ
  up : Up ⟨φ1, sL, H1⟩ ⟨φ, s, H⟩
/-- behind a turn -/
theorem LcI.turn {φ1 : Ad} {sL : S} {H1 : Hp} {p : Addr} {ρ : Rho} {σ : L2.St} {φ : Ad} {s : S} {H : Hp} {vs : List V} {acc : List D} (L : LcI X W φ1 sL H1 p ρ σ φ s H vs acc) (s1 : State X.K W φ1 sL H1) (hp1 : H1 p = none) {φ3 : Ad} {s3 : S} {H3 : Hp} (st : State X.K W φ3 s3 H3) (u : Up ⟨φ.gst p, s, H⟩ ⟨φ3, s3, H3⟩) : ∃ φ4 : Ad, φ3 = φ4.gst p ∧ φ4.g = φ.g ∧ H3 p = some (.lst vs) ∧ LcI X W φ1 sL H1 p ρ σ φ4 s3 H3 vs acc ∧
    ∀ (y : V) (d : D), Rep X.K W φ3 H3 y d → LcI X W φ1 sL H1 p ρ σ φ4 s3 (upd H3 p (.lst (vs ++ [y]))) (vs ++ [y]) (acc ++ [d]) := by
  obtain ⟨l3, g3⟩ := φ3
  have ge : g3 = (φ.gst p).g := u.ge
  subst ge
  have e3 : (⟨l3, (φ.gst p).g⟩ : Ad) = (⟨l3, φ.g⟩ : Ad).gst p := rfl
  have a3 : H3 p = some (.lst vs) := u.gk p _ (.inr rfl) L.at_
  have up3 : ∀ H4 : Hp, (∀ a, a ≠ p → H4 a = H3 a) → Up ⟨φ1, sL, H1⟩ ⟨⟨l3, φ.g⟩, s3, H4⟩ := fun H4 h4 => by
    refine ⟨⟨fun i a e => u.kp.pre i a (L.up.kp.pre i a e), fun a o m e => ?_⟩, L.up.ge, fun a o m e => ?_, u.fb.trans L.up.fb, u.lk.trans L.up.lk, Nat.le_trans u.mw L.up.mw, fun i q q' h1 h2 e e' n hn => ?_, fun i q hi e => u.lkd i q (by rw [L.up.lk]; exact hi) (L.up.lkd i q hi e)⟩
    · have ne : a ≠ p := ne_of_none e hp1
      obtain ⟨e1, m1⟩ := L.up.kp.keep a o m e
      obtain ⟨e2, m2⟩ := u.kp.keep a o (Ad.not_gst m1 ne) e1
      exact ⟨(h4 a ne).trans e2, (Ad.of_gst (φ := ⟨l3, φ.g⟩) m2).1⟩
    · have ne : a ≠ p := ne_of_none e hp1
      exact (h4 a ne).trans (u.gk a o (.inl (by rw [L.up.ge]; exact m)) (L.up.gk a o m e))
    · have hl : i < s.cells.length := Nat.lt_of_lt_of_le (List.getElem?_eq_some_iff.mp e).1 (Up.len L.up.kp s1 (st_strip L.st))
      have e2 := List.getElem?_eq_getElem hl
      refine u.wr i _ q' (by rw [L.up.fb]; exact h1) h2 e2 e' n ?_
      exact L.up.wr i q _ h1 (Nat.lt_of_lt_of_le h2 u.mw) e e2 n hn
  refine ⟨⟨l3, φ.g⟩, e3, rfl, a3, ⟨st, a3, L.ra.up u.kp, RD.paired_mono (fun _ _ r => r.up u.kp) L.sl, up3 H3 fun _ _ => rfl⟩, fun y d r => ?_⟩
  obtain ⟨st4, k4⟩ := ghost_upd (o := .lst (vs ++ [y])) st (p := p) (.inr rfl)
  have k34 := u.kp.trans k4
  exact ⟨st4, upd_same, (L.ra.up k34).append (.cons (r.up k4) .nil), RD.paired_mono (fun _ _ r => r.up k34) L.sl, up3 _ fun a ne => upd_ne ne⟩
theorem LcI.alloc {φ1 : Ad} {sL : S} {H1 : Hp} {p T : Addr} {o : HO} {ρ : Rho} {σ : L2.St} {φ : Ad} {s : S} {H : Hp} {vs : List V} {acc : List D} (L : LcI X W φ1 sL H1 p ρ σ φ s H vs acc) (hT : H T = none) (s1 : State X.K W φ1 sL H1) : LcI X W φ1 sL H1 p ρ σ φ s (upd H T o) vs acc :=
  ⟨L.st.alloc hT, by rw [upd_ne (ne_of_none L.at_ hT)]; exact L.at_, L.ra.up (.alloc hT), RD.paired_mono (fun _ _ r => r.up (.alloc hT)) L.sl, Up.trans (b := ⟨φ, s, H⟩) (st_strip L.st) L.up (.alloc hT) s1⟩
theorem lc_run {tg iter elt : Expr} {ifs : List Expr} {scope : Scope} {own : List Nat} {g : G} {fi : Rho → S → (List D → List Nat → S → T) → T} {fc : Rho → S → (Bool → S → T) → T} {fe : Kv} {m : Bool} (hi : CI X W tg iter fi) (hg : AllB X scope fun Y => CG Y W tg g (· ∈ own)) (hc : CTs X W scope ifs fc) (he : AllB X scope fun Y => CE Y W elt fe)
    {b : St3} {φ : Ad} {ρ : Rho} {s : S} {σ : L2.St} {H : Hp} {k : D → S → T} {P : Out → S → Prop} {Ef : Nat → List (Nat × D) → S → Prop} {Q : VK} (h : Here X W b φ ρ s σ H) (xp : XP X W σ b Ef)
    (gd : Good P Ef (fi ρ s fun xs ls s => turns own g fc fe (wipeR own ρ) xs [] ⟨s.cells, s.mw, s.fb, ls ++ s.lk⟩ fun ys s' => Bool.rec (k (.lst ys) ⟨s'.cells, s'.mw, s'.fb, s.lk⟩) (alloc (.lst ys) ⟨s'.cells, s'.mw, s'.fb, s.lk⟩ k) m))
    (q : ∀ φ' d v s' H', Here X W b φ' ρ s' σ H' → Up ⟨φ, s, H⟩ ⟨φ', s', H'⟩ → Rep X.K W φ' H' v d → Good P Ef (k d s') → Q v H') :
    tLc (canI X tg iter) (fun v σ H Q => ∀ s H0 C cl fp, canG (Blk X scope s H0 C cl fp) tg v σ H Q) (tIfs X scope ifs) (fun σ H Q => ∀ s H0 C cl fp, canE (Blk X scope s H0 C cl fp) elt σ H Q) own σ H Q := by
  refine hi b φ ρ s σ H _ P Ef _ h xp gd fun φ1 ds ls s1 H1 Jt h1 u1 src g1 => ?_
  intro p hp
  let sL : S := ⟨s1.cells, s1.mw, s1.fb, ls ++ s1.lk⟩
  have stL : State X.K W φ1 sL H1 := ⟨h1.st.len, h1.st.nd, h1.st.at_, h1.st.gh, h1.st.ng⟩
  have np : p ∉ φ1 := h1.st.new hp
  obtain ⟨stG, kG⟩ := st_ghost (o := .lst []) stL hp
  have L0 : LcI X W φ1 sL H1 p ρ σ φ1 sL (upd H1 p (.lst [])) [] [] := ⟨stG, upd_same, .nil, RD.paired_mono (fun _ _ r => r.up kG) h1.sl, Up.alloc (φ := φ1) (s := sL) hp⟩
  let kk : List D → S → T := fun ys s' => Bool.rec (k (.lst ys) ⟨s'.cells, s'.mw, s'.fb, s1.lk⟩) (alloc (.lst ys) ⟨s'.cells, s'.mw, s'.fb, s1.lk⟩ k) m
  refine ⟨fun i n H => n = ds.length - i ∧ i ≤ ds.length ∧ ∃ φ2 s2 vs acc, LcI X W φ1 sL H1 p ρ σ φ2 s2 H vs acc ∧ φ2.g = φ1.g ∧ Good P Ef (turns own g fc fe (wipeR own ρ) (ds.drop i) acc s2 kk), ⟨ds.length, by simp, Nat.zero_le _, φ1, sL, [], [], L0, rfl, g1⟩, ?_⟩
  rintro i n H2 ⟨rfl, hi, φ2, s2, vs, acc, L, ge, g2⟩
  have kp2 : Kp φ1 H1 (φ2.gst p) H2 := ⟨L.up.kp.pre, fun a o m e => by
    obtain ⟨e1, m1⟩ := L.up.kp.keep a o m e
    exact ⟨e1, Ad.not_gst m1 (ne_of_none e hp)⟩⟩
  have lkd : ∀ j c, j ∈ ls → s1.cells[j]? = some c → s2.cells[j]? = some c := fun j c hj e => L.up.lkd j c (List.mem_append_left _ hj) e
  obtain ⟨go, stop, yld⟩ := src (φ2.gst p) s2 H2 L.st kp2 lkd
  by_cases hlt : i < ds.length
  · refine .inr ⟨go i hlt, fun H => ∃ φ2 s2 vs acc, LcI X W φ1 sL H1 p ρ σ φ2 s2 H vs acc ∧ φ2.g = φ1.g ∧ Good P Ef (turns own g fc fe (wipeR own ρ) (ds.drop (i + 1)) acc s2 kk), fun H' ⟨a1, a2, a3, a4, a5, a6, a7⟩ => ⟨ds.length - (i + 1), by omega, rfl, hlt, a1, a2, a3, a4, a5, a6, a7⟩, fun x H3 y => ?_⟩
    have hd : ds[i]? = some ds[i] := List.getElem?_eq_getElem hlt
    obtain ⟨z, rx⟩ := yld i _ x H3 hd y
    have L3 : LcI X W φ1 sL H1 p ρ σ φ2 s2 H3 vs acc := by
      rcases z with rfl | ⟨T, o, hT, rfl⟩
      · exact L
      · exact L.alloc hT stL
    rw [List.drop_eq_getElem_cons hlt] at g2
    have g3 := good_bindN.mp (show Good P Ef (T.bindN (asg g ds[i] (wipeR own ρ) fun r => fc r s2 fun b s => Bool.rec (.ok (.ds []) s) (fe r s fun d s => .ok (.v d) s) b) fun o s => match o with
      | .v d => if acc.length < 100000 then turns own g fc fe (wipeR own ρ) (ds.drop (i + 1)) (acc ++ [d]) s kk else .no
      | .ds _ => turns own g fc fe (wipeR own ρ) (ds.drop (i + 1)) acc s kk
      | _ => .no) from g2)
    intro sb Hb Cb clb fpb
    have hT : Here (Blk X scope sb Hb Cb clb fpb) W ⟨φ2.gst p, s2, H3⟩ (φ2.gst p) (wipeR own ρ) s2 (L2.wipe σ own) H3 := ⟨L3.st, paired_wipe L3.sl own, .refl _, L3.st⟩
    refine hg sb Hb Cb clb fpb ⟨φ2.gst p, s2, H3⟩ (φ2.gst p) (wipeR own ρ) s2 (L2.wipe σ own) H3 _ _ _ x ds[i] _ hT rx g3 fun ρ4 σ4 h4 l4 same4 g4 => ?_
    refine ⟨(RD.wipe_same l4 same4).trans (RD.wipe_idem _ _), ?_⟩
    have fin : ∀ (bb : Bool) (φ5 : Ad) (s5 : S) (H5 : Hp), Here (Blk X scope sb Hb Cb clb fpb) W ⟨φ2.gst p, s2, H3⟩ φ5 ρ4 s5 σ4 H5 → Good (fun o s => Good P Ef (match o with
      | .v d => if acc.length < 100000 then turns own g fc fe (wipeR own ρ) (ds.drop (i + 1)) (acc ++ [d]) s kk else .no
      | .ds _ => turns own g fc fe (wipeR own ρ) (ds.drop (i + 1)) acc s kk
      | _ => .no)) (fun _ _ _ => False) (Bool.rec (.ok (.ds []) s5) (fe ρ4 s5 fun d s => .ok (.v d) s) bb) →
        if bb = true then (∀ s Hz C cl fp, canE (Blk X scope s Hz C cl fp) elt σ4 H5 fun y H4 => ∃ acc, H4 p = some (.lst acc) ∧ acc.length < sizeLine ∧ ∃ φ2 s2 vs acc', LcI X W φ1 sL H1 p ρ σ φ2 s2 (upd H4 p (.lst (acc ++ [y]))) vs acc' ∧ φ2.g = φ1.g ∧ Good P Ef (turns own g fc fe (wipeR own ρ) (ds.drop (i + 1)) acc' s2 kk)) else
          ∃ φ2 s2 vs acc, LcI X W φ1 sL H1 p ρ σ φ2 s2 H5 vs acc ∧ φ2.g = φ1.g ∧ Good P Ef (turns own g fc fe (wipeR own ρ) (ds.drop (i + 1)) acc s2 kk) := by
      intro bb φ5 s5 H5 h5 g5
      cases bb with
      | true =>
        rw [if_pos rfl]
        intro s7 H7 C7 cl7 fp7
        have h5' : Here (Blk X scope s7 H7 C7 cl7 fp7) W ⟨φ2.gst p, s2, H3⟩ φ5 ρ4 s5 σ4 H5 := ⟨h5.st, h5.sl, h5.up, h5.b0⟩
        refine he s7 H7 C7 cl7 fp7 _ φ5 ρ4 s5 σ4 H5 _ _ _ _ h5' XP.never g5 fun φ6 d v s6 H6 h6 u6 r6 g6 => ?_
        have g7 : Good P Ef (if acc.length < 100000 then turns own g fc fe (wipeR own ρ) (ds.drop (i + 1)) (acc ++ [d]) s6 kk else .no) := g6
        by_cases hz : acc.length < 100000
        · rw [if_pos hz] at g7
          obtain ⟨φ7, e7, ge7, a7, _, L7⟩ := L3.turn stL hp h6.st h6.up
          exact ⟨vs, a7, by rw [L3.ra.length]; exact Nat.lt_of_lt_of_le hz (RD.sz_le (Nat.le_refl _)), φ7, s6, _, _, L7 v d r6, ge7.trans ge, g7⟩
        · rw [if_neg hz] at g7; exact g7.elim
      | false =>
        rw [if_neg Bool.false_ne_true]
        obtain ⟨φ7, e7, ge7, a7, L7, _⟩ := L3.turn stL hp h5.st h5.up
        exact ⟨φ7, s5, vs, acc, L7, ge7.trans ge, g5⟩
    match ifs, hc with
    | [], hc =>
      have hfc : fc = fun _ s k => k true s := hc
      have g5 := g4
      simp only [hfc] at g5
      exact fin true _ s2 H3 h4 (by simp only [hfc]; exact g5)
    | [c], hc =>
      intro s6 H6 C6 cl6 fp6
      have h4' : Here (Blk X scope s6 H6 C6 cl6 fp6) W ⟨φ2.gst p, s2, H3⟩ (φ2.gst p) ρ4 s2 σ4 H3 := ⟨h4.st, h4.sl, h4.up, h4.b0⟩
      exact hc s6 H6 C6 cl6 fp6 _ (φ2.gst p) ρ4 s2 σ4 H3 _ _ _ _ h4' XP.never g4 fun φ5 x5 s5 H5 h5 u5 g5 => fin x5 φ5 s5 H5 ⟨h5.st, h5.sl, h5.up, h5.b0⟩ g5
    | _ :: _ :: _, hc => exact hc.elim
  · have e : i = ds.length := by omega
    subst e
    refine .inl ⟨stop, ?_⟩
    rw [List.drop_length] at g2
    have g3 : Good P Ef (kk acc s2) := g2
    have up2 : ∀ (φ' : Ad) (s' : S), (∀ i a, φ2.l[i]? = some a → φ'.l[i]? = some a) → (∀ a, a ∉ φ2 → a ≠ p → a ∉ φ') → φ'.g = φ2.g → s'.fb = s2.fb → s'.lk = s1.lk → s'.mw = s2.mw → (∀ i c, i < s2.cells.length → s2.cells[i]? = some c → s'.cells[i]? = some c) → Up ⟨φ1, s1, H1⟩ ⟨φ', s', H2⟩ := fun φ' s' p1 p2 p3 p4 p5 p6 p7 => by
      refine ⟨⟨fun i a e => p1 i a (L.up.kp.pre i a e), fun a o m e => ?_⟩, p3.trans L.up.ge, fun a o m e => L.up.gk a o m e, p4.trans L.up.fb, p5, by rw [p6]; exact L.up.mw, fun i c c' h1 h2 e e' n hn => ?_, fun i c hi e => ?_⟩
      · obtain ⟨e1, m1⟩ := L.up.kp.keep a o m e
        exact ⟨e1, p2 a m1 (ne_of_none e hp)⟩
      · have hl : i < s2.cells.length := Nat.lt_of_lt_of_le (List.getElem?_eq_some_iff.mp e).1 (Up.len L.up.kp stL (st_strip L.st))
        have e2 := List.getElem?_eq_getElem hl
        have e3 := p7 i _ hl e2
        rw [show (s'.cells[i]? : Option Cell) = some c' from e'] at e3
        cases e3
        exact L.up.wr i c _ h1 (by rw [p6] at h2; exact h2) e e2 n hn
      · have e1 := L.up.lkd i c (List.mem_append_right _ hi) e
        exact p7 i c (List.getElem?_eq_some_iff.mp e1).1 e1
    have ngp : ¬ φ2.g p := fun z => np (.inr (by rw [← L.up.ge]; exact z))
    have nl : p ∉ φ2.l := L.st.ng p (.inr rfl)
    cases m with
    | false =>
      have u2 : Up ⟨φ1, s1, H1⟩ ⟨φ2, ⟨s2.cells, s2.mw, s2.fb, s1.lk⟩, H2⟩ := up2 φ2 _ (fun _ _ e => e) (fun _ m _ => m) rfl rfl rfl rfl fun _ _ _ e => e
      have st2 : State X.K W φ2 ⟨s2.cells, s2.mw, s2.fb, s1.lk⟩ H2 := by
        have z := st_strip L.st
        exact ⟨z.len, z.nd, z.at_, z.gh, z.ng⟩
      have hh : Here X W b φ2 ρ ⟨s2.cells, s2.mw, s2.fb, s1.lk⟩ σ H2 := ⟨st2, RD.paired_mono (fun _ _ r => r.up kp_strip) L.sl, Up.trans (b := ⟨φ1, s1, H1⟩) h1.st h1.up u2 h1.b0, h1.b0⟩
      exact q φ2 (.lst acc) (.ref p) _ H2 hh (Up.trans (b := ⟨φ1, s1, H1⟩) h1.st u1 u2 h.st) (.lst (fun z => z.elim nl ngp) L.at_ (L.ra.up kp_strip)) g3
    | true =>
      obtain ⟨st2, kp3⟩ := st_adopt (lk := s1.lk) L.st L.at_ L.ra ngp
      have u2 : Up ⟨φ1, s1, H1⟩ ⟨φ2.add p, ⟨s2.cells ++ [.lst acc], s2.mw, s2.fb, s1.lk⟩, H2⟩ := by
        refine up2 (φ2.add p) _ (fun i a e => ?_) (fun a m ne z => (Ad.mem_add z).elim m ne) rfl rfl rfl rfl fun i c hl e => ?_
        · rw [Ad.get_add (List.getElem?_eq_some_iff.mp e).1]; exact e
        · show (s2.cells ++ [.lst acc])[i]? = some c
          rw [List.getElem?_append_left hl]; exact e
      have hh : Here X W b (φ2.add p) ρ ⟨s2.cells ++ [.lst acc], s2.mw, s2.fb, s1.lk⟩ σ H2 := ⟨st2, RD.paired_mono (fun _ _ r => r.up kp3) L.sl, Up.trans (b := ⟨φ1, s1, H1⟩) h1.st h1.up u2 h1.b0, h1.b0⟩
      refine q (φ2.add p) (.cel s2.cells.length) (.ref p) _ H2 hh (Up.trans (b := ⟨φ1, s1, H1⟩) h1.st u1 u2 h.st) (.cel ?_) g3
      have hl : φ2.l.length = s2.cells.length := L.st.len
      show (φ2.l ++ [p])[s2.cells.length]? = some p
      rw [List.getElem?_append_right (by rw [hl]; exact Nat.le_refl _), hl, Nat.sub_self]; rfl
theorem ce_lc {tg iter elt : Expr} {ifs : List Expr} {scope : Scope} {own : List Nat} {own' : List (Str × Nat)} {pos : Pos} {g : G} {fi : Rho → S → (List D → List Nat → S → T) → T} {fc : Rho → S → (Bool → S → T) → T} {fe : Kv} {m : Bool} (hcm : X.calm = true) (hN : X.N.Nodup) (hi : CI X W tg iter fi) (hg : AllB X scope fun Y => CG Y W tg g (· ∈ own)) (hc : CTs X W scope ifs fc) (he : AllB X scope fun Y => CE Y W elt fe)
    (hown : own'.map (·.2) = own) (hok : blkC X.N X.env.scope scope own' = true) (hs : ∀ x, foldedSetIterable iter X.env x = pure x) : CE X W (.ListComp elt [⟨tg, iter, ifs, 0⟩] scope pos) fun r s k => fi r s fun xs ls s => turns own g fc fe (wipeR own r) xs [] ⟨s.cells, s.mw, s.fb, ls ++ s.lk⟩ fun ys s' => Bool.rec (k (.lst ys) ⟨s'.cells, s'.mw, s'.fb, s.lk⟩) (alloc (.lst ys) ⟨s'.cells, s'.mw, s'.fb, s.lk⟩ k) m := by
  intro b φ ρ s σ H k P Ef Q h xp gd q
  subst hown
  refine canE.of (pe_lc (own := own') (tt := tIfs X scope ifs) (g := fun v σ H Q => ∀ s H0 C cl fp, canG (Blk X scope s H0 C cl fp) tg v σ H Q) (te := fun σ H Q => ∀ s H0 C cl fp, canE (Blk X scope s H0 C cl fp) elt σ H Q) hcm hN icanL (blkOk_by hok)
    (fun s H C cl fp => ⟨fun pins s' σ H' v u Q I r h => (gcan (X := Blk X scope s H C cl fp) (tg := tg)).run pins s' σ H' v u Q I r (h s H C cl fp)⟩)
    (fun s H C cl fp => pts_any s H C cl fp) (fun s H C cl fp => ⟨fun pins s' σ H' Q I h => (pcan (X := Blk X scope s H C cl fp) (e := elt)).run pins s' σ H' Q I (h s H C cl fp)⟩) hs) ?_
  exact lc_run hi hg hc he h xp gd q
end
end EV

/-! EV9: statements. -/
namespace EV
open PySem PySem.Spec PyProof.Rows L2
open RD (canE canT canW canA canK canS canSs canG canGs canI PenAt KT ExK pcan tcan wcan acan scan sscan gcan gscan icanL Rm Fn Blk tIfs pts_any)
section
variable {X : Cx} {W : Wd}
/-- exceptions that leave the code here -/
def TK (X : Cx) (W : Wd) (b : St3) (Ef : Nat → List (Nat × D) → S → Prop) : Prop := ∃ V : WX, Takes X V ∧ ∀ σ cls d H', wish X.K W b Ef cls d H' → V cls d σ H'
theorem TK.xp {b : St3} {Ef : Nat → List (Nat × D) → S → Prop} (t : TK X W b Ef) (σ : L2.St) : XP X W σ b Ef := by
  obtain ⟨V, tk, hw⟩ := t
  exact fun pins H s e s1 I c => tk e s1 (XE.of_call I (fun cls d H' h => hw σ cls d H' h) c)
/-- what follows a block -/
structure Fit (X : Cx) (W : Wd) (b : St3) (P : Out → S → Prop) (Ef : Nat → List (Nat × D) → S → Prop) (k : Kn) (E : Ends) : Prop where
  nx : ∀ φ ρ s σ H, Here X W b φ ρ s σ H → Good P Ef (k.nx ρ s) → E.nx σ H
  bk : ∀ φ ρ s σ H, Here X W b φ ρ s σ H → Good P Ef (k.bk ρ s) → E.bk σ H
  ct : ∀ φ ρ s σ H, Here X W b φ ρ s σ H → Good P Ef (k.ct ρ s) → E.ct σ H
  rt : ∀ φ s H d v, State X.K W φ s H → Up b ⟨φ, s, H⟩ → Rep X.K W φ H v d → Good P Ef (k.rt d s) → E.rt v H
def CB (X : Cx) (W : Wd) (sts : List Stmt) (f : Rho → S → Kn → T) : Prop := ∀ (b : St3) (φ : Ad) (ρ : Rho) (s : S) (σ : L2.St) (H : Hp) (k : Kn) (P : Out → S → Prop) (Ef : Nat → List (Nat × D) → S → Prop) (E : Ends), Here X W b φ ρ s σ H → TK X W b Ef → Good P Ef (f ρ s k) → Fit X W b P Ef k E → canSs X sts E σ H
theorem cb_nil : CB X W [] fun ρ s k => k.nx ρ s := fun b φ ρ s σ H k P Ef E h tk g f => canSs.of pss_nil (f.nx φ ρ s σ H h g)
theorem st_first {st : Stmt} {sts : List Stmt} {E : Ends} {σ : L2.St} {H : Hp} (h : canS X st { E with nx := fun σ H => canSs X sts E σ H } σ H) : canSs X (st :: sts) E σ H := canSs.of (pss_cons scan sscan) h
/-- e; rest -/
theorem cb_exp {e : Expr} {sts : List Stmt} {fe : Kv} {fr : Rho → S → Kn → T} {pos : Pos} (he : CE X W e fe) (hr : CB X W sts fr) (hs : swapsWith e none pos.line X.env = pure false) : CB X W (.Expr e pos :: sts) fun ρ s k => fe ρ s fun _ s => fr ρ s k := by
  intro b φ ρ s σ H k P Ef E h tk g f
  refine st_first (canS.of (ps_expr pcan hs) ?_)
  exact he b φ ρ s σ H _ P Ef _ h (tk.xp σ) g fun φ1 d v s1 H1 h1 u1 r1 g1 => hr b φ1 ρ s1 σ H1 k P Ef E h1 tk g1 f
/-- return e -/
theorem cb_ret {e : Expr} {sts : List Stmt} {fe : Kv} {pos : Pos} (he : CE X W e fe) : CB X W (.Return (some e) pos :: sts) fun ρ s k => fe ρ s fun d s => k.rt d s := by
  intro b φ ρ s σ H k P Ef E h tk g f
  refine st_first (canS.of (ps_ret pcan) ?_)
  exact he b φ ρ s σ H _ P Ef _ h (tk.xp σ) g fun φ1 d v s1 H1 h1 u1 r1 g1 => f.rt φ1 s1 H1 d v h1.st h1.up r1 g1
theorem cb_retN {sts : List Stmt} {pos : Pos} : CB X W (.Return none pos :: sts) fun ρ s k => k.rt .non s := by
  intro b φ ρ s σ H k P Ef E h tk g f
  exact st_first (canS.of ps_retN (f.rt φ s H .non .non h.st h.up .non g))
theorem cb_brk {sts : List Stmt} {pos : Pos} : CB X W (.Break pos :: sts) fun ρ s k => k.bk ρ s := fun b φ ρ s σ H k P Ef E h tk g f => st_first (canS.of ps_break (f.bk φ ρ s σ H h g))
theorem cb_cnt {sts : List Stmt} {pos : Pos} : CB X W (.Continue pos :: sts) fun ρ s k => k.ct ρ s := fun b φ ρ s σ H k P Ef E h tk g f => st_first (canS.of ps_continue (f.ct φ ρ s σ H h g))
theorem cb_pass {sts : List Stmt} {fr : Rho → S → Kn → T} {pos : Pos} (hr : CB X W sts fr) : CB X W (.Pass pos :: sts) fr := fun b φ ρ s σ H k P Ef E h tk g f => st_first (canS.of ps_pass (hr b φ ρ s σ H k P Ef E h tk g f))
/-- if -/
theorem cb_ite {c : Expr} {body orelse sts : List Stmt} {fc : Rho → S → (Bool → S → T) → T} {ft ff fr : Rho → S → Kn → T} {pos : Pos} (hc : CT X W c fc) (ht : CB X W body ft) (hf : CB X W orelse ff) (hr : CB X W sts fr) : CB X W (.If c body orelse pos :: sts) fun r s k => fc r s fun x s => Bool.rec (ff r s ⟨fun r s => fr r s k, k.bk, k.ct, k.rt⟩) (ft r s ⟨fun r s => fr r s k, k.bk, k.ct, k.rt⟩) x := by
  intro b φ ρ s σ H k P Ef E h tk g f
  refine st_first (canS.of (ps_if tcan sscan sscan) ?_)
  have f2 : Fit X W b P Ef ⟨fun r s => fr r s k, k.bk, k.ct, k.rt⟩ { E with nx := fun σ H => canSs X sts E σ H } := ⟨fun φ ρ s σ H h g => hr b φ ρ s σ H k P Ef E h tk g f, f.bk, f.ct, f.rt⟩
  refine hc b φ ρ s σ H _ P Ef _ h (tk.xp σ) g fun φ1 x s1 H1 h1 u1 g1 => ?_
  cases x with
  | true => rw [if_pos rfl]; exact ht b φ1 ρ s1 σ H1 _ P Ef _ h1 tk g1 f2
  | false => rw [if_neg Bool.false_ne_true]; exact hf b φ1 ρ s1 σ H1 _ P Ef _ h1 tk g1 f2
/-- name = e -/
theorem cb_set {x : Str} {i : Nat} {e : Expr} {sts : List Stmt} {fe : Kv} {fr : Rho → S → Kn → T} {pos' pos : Pos} (hN : X.N.Nodup) (hi : X.N[i]? = some x) (hx : Loc X.env.scope x) (hf : X.fn x = true ∨ X.env.scope.names.lookup x = some .local) (he : CE X W e fe) (hr : CB X W sts fr) (hs : swapsWith e (some (.Name x pos')) pos.line X.env = pure false) :
    CB X W (.Assign [.Name x pos'] e pos :: sts) fun ρ s k => fe ρ s fun d s => asg (.nm i) d ρ fun r => fr r s k := by
  intro b φ ρ s σ H k P Ef E h tk g f
  refine st_first (canS.of (ps_set hN hi hx pcan hs hf) ?_)
  refine he b φ ρ s σ H _ P Ef _ h (tk.xp σ) g fun φ1 d v s1 H1 h1 u1 r1 g1 => ?_
  have g2 : Good P Ef (fr (setN i (some d) ρ) s1 k) := g1
  rw [setN_eq] at g2
  exact hr b φ1 _ s1 _ H1 k P Ef E (h1.set i r1) tk g2 f
/-- name = [..] on one line -/
theorem cb_setLc {x : Str} {i : Nat} {tg iter elt : Expr} {ifs : List Expr} {scope : Scope} {own : List Nat} {own' : List (Str × Nat)} {py pos spos : Pos} {g : G} {fi : Rho → S → (List D → List Nat → S → T) → T} {fc : Rho → S → (Bool → S → T) → T} {fe : Kv} {m : Bool} {sts : List Stmt} {fr : Rho → S → Kn → T} (hcm : X.calm = true) (hN : X.N.Nodup) (hy : X.N[i]? = some x) (hyl : X.env.scope.names.lookup x = some .local)
    (hsw : swapsWith (.ListComp elt [⟨tg, iter, ifs, 0⟩] scope pos) (some (.Name x py)) spos.line X.env = pure true) (hi : CI X W tg iter fi) (hg : AllB X scope fun Y => CG Y W tg g (· ∈ own)) (hc : CTs X W scope ifs fc) (he : AllB X scope fun Y => CE Y W elt fe) (hown : own'.map (·.2) = own) (hok : blkC X.N X.env.scope scope own' = true) (hs : ∀ x, foldedSetIterable iter X.env x = pure x) (hr : CB X W sts fr) :
    CB X W (.Assign [.Name x py] (.ListComp elt [⟨tg, iter, ifs, 0⟩] scope pos) spos :: sts) fun r s k => fi r s fun xs ls s => turns own g fc fe (wipeR own r) xs [] ⟨s.cells, s.mw, s.fb, ls ++ s.lk⟩ fun ys s' => Bool.rec (asg (.nm i) (.lst ys) r fun r => fr r ⟨s'.cells, s'.mw, s'.fb, s.lk⟩ k) (alloc (.lst ys) ⟨s'.cells, s'.mw, s'.fb, s.lk⟩ fun d s => asg (.nm i) d r fun r => fr r s k) m := by
  intro b φ ρ s σ H k P Ef E h tk gd f
  subst hown
  refine st_first (canS.of (ps_setLc (own := own') (tt := tIfs X scope ifs) (g := fun v σ H Q => ∀ s H0 C cl fp, canG (Blk X scope s H0 C cl fp) tg v σ H Q) (te := fun σ H Q => ∀ s H0 C cl fp, canE (Blk X scope s H0 C cl fp) elt σ H Q) hcm hN hy hyl hsw icanL (blkOk_by hok)
    (fun s H C cl fp => ⟨fun pins s' σ H' v u Q I r h => (gcan (X := Blk X scope s H C cl fp) (tg := tg)).run pins s' σ H' v u Q I r (h s H C cl fp)⟩)
    (fun s H C cl fp => pts_any s H C cl fp) (fun s H C cl fp => ⟨fun pins s' σ H' Q I h => (pcan (X := Blk X scope s H C cl fp) (e := elt)).run pins s' σ H' Q I (h s H C cl fp)⟩) hs) ?_)
  refine lc_run (k := fun d s => asg (.nm i) d ρ fun r => fr r s k) (m := m) hi hg hc he h (tk.xp σ) gd fun φ1 d v s1 H1 h1 u1 r1 g1 => ?_
  have g2 : Good P Ef (fr (setN i (some d) ρ) s1 k) := g1
  rw [setN_eq] at g2
  exact hr b φ1 _ s1 _ H1 k P Ef E (h1.set i r1) tk g2 f
/-- any target -/
theorem cb_asg {tg e : Expr} {tgt : G} {V_ : Nat → Prop} {sts : List Stmt} {fe : Kv} {fr : Rho → S → Kn → T} {pos : Pos} (he : CE X W e fe) (hg : CG X W tg tgt V_) (hr : CB X W sts fr) (hs : swapsWithSole [tg] e pos.line X.env = pure false) (hw : swappedStores [tg] e X.env = pure none) (h1 : (assignEach [tg] X.env).map (·.2) = [assign tg X.env]) :
    CB X W (.Assign [tg] e pos :: sts) fun ρ s k => fe ρ s fun d s => asg tgt d ρ fun r => fr r s k := by
  intro b φ ρ s σ H k P Ef E h tk g f
  refine st_first (canS.of (ps_asg pcan gcan hs hw h1) ?_)
  refine he b φ ρ s σ H _ P Ef _ h (tk.xp σ) g fun φ1 d v s1 H1 hh1 u1 r1 g1 => ?_
  exact hg b φ1 ρ s1 σ H1 _ P Ef v d _ hh1 r1 g1 fun ρ2 σ2 h2 _ _ g2 => hr b φ1 ρ2 s1 σ2 H1 k P Ef E h2 tk g2 f
/-- x, y = a, c -/
theorem cb_par2 {x y : Str} {i j : Nat} {a c : Expr} {sts : List Stmt} {fs : Rho → S → (List D → S → T) → T} {fr : Rho → S → Kn → T} {px py pt pos : Pos} {kt k2 : Nat} {pt2 : Pos} (hc : X.calm = true) (hN : X.N.Nodup) (hi : X.N[i]? = some x) (hj : X.N[j]? = some y) (hij : i ≠ j) (hx : X.env.scope.names.lookup x = some .local) (hy : X.env.scope.names.lookup y = some .local)
    (h0 : CA X W [a, c] fs) (hr : CB X W sts fr) (hw : swappedStores [.Tuple [.Name x px, .Name y py] kt pt] (.Tuple [a, c] k2 pt2) X.env = pure (some [x, y])) (hs : swapsWithSole [.Tuple [.Name x px, .Name y py] kt pt] (.Tuple [a, c] k2 pt2) pos.line X.env = pure false) :
    CB X W (.Assign [.Tuple [.Name x px, .Name y py] kt pt] (.Tuple [a, c] k2 pt2) pos :: sts) fun r s k => fs r s fun xs s => opt (setAll [i, j] xs r) fun r => fr r s k := by
  intro b φ ρ s σ H k P Ef E h tk g f
  refine st_first (canS.of (ps_par hc hN hi hj hij hx hy acan hw hs) ?_)
  refine h0 b φ ρ s σ H _ P Ef _ h (tk.xp σ) g fun φ1 ds vs s1 H1 l1 h1 u1 r1 g1 => ?_
  match ds, l1, r1, g1 with
  | [d1, d2], _, r1, g1 =>
    cases r1 with
    | cons ra rb =>
      cases rb with
      | cons rb rc =>
        cases rc
        exact ⟨_, _, rfl, hr b φ1 _ s1 _ H1 k P Ef E ((h1.set i ra).set j rb) tk g1 f⟩
theorem cb_par3 {x y z : Str} {i j l : Nat} {a c d : Expr} {sts : List Stmt} {fs : Rho → S → (List D → S → T) → T} {fr : Rho → S → Kn → T} {px py pz pt pos : Pos} {kt k2 : Nat} {pt2 : Pos} (hc : X.calm = true) (hN : X.N.Nodup) (hi : X.N[i]? = some x) (hj : X.N[j]? = some y) (hl : X.N[l]? = some z) (hij : i ≠ j) (hil : i ≠ l) (hjl : j ≠ l) (hx : X.env.scope.names.lookup x = some .local) (hy : X.env.scope.names.lookup y = some .local) (hz : X.env.scope.names.lookup z = some .local)
    (h0 : CA X W [a, c, d] fs) (hr : CB X W sts fr) (hw : swappedStores [.Tuple [.Name x px, .Name y py, .Name z pz] kt pt] (.Tuple [a, c, d] k2 pt2) X.env = pure (some [x, y, z])) (hs : swapsWithSole [.Tuple [.Name x px, .Name y py, .Name z pz] kt pt] (.Tuple [a, c, d] k2 pt2) pos.line X.env = pure false) :
    CB X W (.Assign [.Tuple [.Name x px, .Name y py, .Name z pz] kt pt] (.Tuple [a, c, d] k2 pt2) pos :: sts) fun r s k => fs r s fun xs s => opt (setAll [i, j, l] xs r) fun r => fr r s k := by
  intro b φ ρ s σ H k P Ef E h tk g f
  refine st_first (canS.of (ps_par3 hc hN hi hj hl hij hil hjl hx hy hz acan hw hs) ?_)
  refine h0 b φ ρ s σ H _ P Ef _ h (tk.xp σ) g fun φ1 ds vs s1 H1 l1 h1 u1 r1 g1 => ?_
  match ds, l1, r1, g1 with
  | [d1, d2, d3], _, r1, g1 =>
    cases r1 with
    | cons ra rb =>
      cases rb with
      | cons rb rc =>
        cases rc with
        | cons rc rd =>
          cases rd
          exact ⟨_, _, _, rfl, hr b φ1 _ s1 _ H1 k P Ef E (((h1.set i ra).set j rb).set l rc) tk g1 f⟩
end
end EV

/-! EV10: for, raise, try. -/
namespace EV
open PySem PySem.Spec PyProof.Rows L2
open RD (canE canT canW canA canK canS canSs canG canGs canI PenAt KT ExK pcan tcan wcan acan scan sscan gcan gscan kcan icanL Rm Fn Blk tIfs pts_any)
section
variable {X : Cx} {W : Wd}
/-! ### for -/
theorem st_lk {K : PySem.W.Frag} {φ : Ad} {s : S} {H : Hp} (st : State K W φ s H) (lk : List Nat) : State K W φ ⟨s.cells, s.mw, s.fb, lk⟩ H := ⟨st.len, st.nd, st.at_, st.gh, st.ng⟩
/-- from a state with more locks on, to one with the old ones -/
theorem up_unlk {φ φ' : Ad} {s s' : S} {H H' : Hp} {ls : List Nat} (u : Up ⟨φ, ⟨s.cells, s.mw, s.fb, ls ++ s.lk⟩, H⟩ ⟨φ', s', H'⟩) : Up ⟨φ, s, H⟩ ⟨φ', ⟨s'.cells, s'.mw, s'.fb, s.lk⟩, H'⟩ :=
  ⟨u.kp, u.ge, u.gk, u.fb, rfl, u.mw, u.wr, fun i c hi e => u.lkd i c (List.mem_append_right _ hi) e⟩
theorem cb_for {tg iter : Expr} {tgt : G} {V_ : Nat → Prop} {body sts : List Stmt} {fi : Rho → S → (List D → List Nat → S → T) → T} {fb fr : Rho → S → Kn → T} {pos : Pos} (hcm : X.calm = true) (hp : PassesOwn (model X.prog X.w) X.A X.env X.xe) (hi : CI X W tg iter fi) (hg : CG X W tg tgt V_) (hb : CB X W body fb) (hr : CB X W sts fr) (hs : ∀ x, foldedSetIterable iter X.env x = pure x) :
    CB X W (.For tg iter body [] pos :: sts) fun r s k => fi r s fun xs ls s => T.bindX (loopT tgt fb xs r ⟨s.cells, s.mw, s.fb, ls ++ s.lk⟩) (fun o s' => Kn.on ⟨fun r s => fr r s k, k.bk, k.ct, k.rt⟩ o ⟨s'.cells, s'.mw, s'.fb, s.lk⟩) fun c fs s' => .ex c fs ⟨s'.cells, s'.mw, s'.fb, s.lk⟩ := by
  intro b φ ρ s σ H k P Ef E h tk g f
  refine st_first (canS.of (ps_for hp hcm icanL gcan sscan hs) ?_)
  refine hi b φ ρ s σ H _ P Ef _ h (tk.xp σ) g fun φ1 ds ls s1 H1 Jt h1 u1 src g1 => ?_
  have g2 := good_bindX.mp g1
  let sL : S := ⟨s1.cells, s1.mw, s1.fb, ls ++ s1.lk⟩
  let b1 : St3 := ⟨φ1, sL, H1⟩
  have stL : State X.K W φ1 sL H1 := st_lk h1.st _
  let P1 : Out → S → Prop := fun o s' => Good P Ef (Kn.on ⟨fun r s => fr r s k, k.bk, k.ct, k.rt⟩ o ⟨s'.cells, s'.mw, s'.fb, s1.lk⟩)
  let E1 : Nat → List (Nat × D) → S → Prop := fun c fs s' => Good P Ef (.ex c fs ⟨s'.cells, s'.mw, s'.fb, s1.lk⟩)
  -- back to the outer base
  have back : ∀ {φ' : Ad} {s' : S} {H' : Hp}, Up b1 ⟨φ', s', H'⟩ → Up b ⟨φ', ⟨s'.cells, s'.mw, s'.fb, s1.lk⟩, H'⟩ := fun u => Up.trans (b := ⟨φ1, s1, H1⟩) h1.st h1.up (up_unlk (ls := ls) u) h1.b0
  have tk1 : TK X W b1 E1 := by
    obtain ⟨V, tk, hw⟩ := tk
    refine ⟨V, tk, fun σ cls d H' w => hw σ cls d H' ?_⟩
    obtain ⟨c, fs, φ', s', dx, vs, h1', h2', h3', h4', h5', h6', h7', h8'⟩ := w
    exact ⟨c, fs, φ', ⟨s'.cells, s'.mw, s'.fb, s1.lk⟩, dx, vs, h1', h2', h3', st_lk h4' _, back h5', h6', h7', h8'⟩
  have here_back : ∀ {φ' : Ad} {ρ' : Rho} {s' : S} {σ' : L2.St} {H' : Hp}, Here X W b1 φ' ρ' s' σ' H' → Here X W b φ' ρ' ⟨s'.cells, s'.mw, s'.fb, s1.lk⟩ σ' H' := fun h => ⟨st_lk h.st _, h.sl, back h.up, h1.b0⟩
  have nx1 : ∀ {φ' : Ad} {ρ' : Rho} {s' : S} {σ' : L2.St} {H' : Hp}, Here X W b1 φ' ρ' s' σ' H' → P1 (.nx ρ') s' → canSs X sts E σ' H' := fun h g => hr b _ _ _ _ _ k P Ef E (here_back h) tk g f
  refine ⟨fun i n σ H => n = ds.length - i ∧ i ≤ ds.length ∧ ∃ φ2 ρ2 s2, Here X W b1 φ2 ρ2 s2 σ H ∧ Good P1 E1 (loopT tgt fb (ds.drop i) ρ2 s2), ⟨ds.length, by simp, Nat.zero_le _, φ1, ρ, sL, ⟨stL, h1.sl, .refl _, stL⟩, g2⟩, ?_⟩
  rintro i n σ2 H2 ⟨rfl, hi2, φ2, ρ2, s2, h2, g3⟩
  obtain ⟨go, stop, yld⟩ := src φ2 s2 H2 h2.st h2.up.kp fun j c hj e => h2.up.lkd j c (List.mem_append_left _ hj) e
  by_cases hlt : i < ds.length
  · refine .inr ⟨go i hlt, fun σ H => ∃ φ2 ρ2 s2, Here X W b1 φ2 ρ2 s2 σ H ∧ Good P1 E1 (loopT tgt fb (ds.drop (i + 1)) ρ2 s2), fun σ' H' ⟨a1, a2, a3, a4, a5⟩ => ⟨ds.length - (i + 1), by omega, rfl, hlt, a1, a2, a3, a4, a5⟩, fun x H3 y => ?_⟩
    have hd : ds[i]? = some ds[i] := List.getElem?_eq_getElem hlt
    obtain ⟨z, rx⟩ := yld i _ x H3 hd y
    have h3 : Here X W b1 φ2 ρ2 s2 σ2 H3 := by
      rcases z with rfl | ⟨T, o, hT, rfl⟩
      · exact h2
      · exact h2.alloc hT
    rw [List.drop_eq_getElem_cons hlt] at g3
    have g4 := good_bind.mp (show Good P1 E1 (T.bind (asg tgt ds[i] ρ2 fun r => fb r s2 k0) fun o s => match o with
      | .nx r => loopT tgt fb (ds.drop (i + 1)) r s
      | .ct r => loopT tgt fb (ds.drop (i + 1)) r s
      | .bk r => .ok (.nx r) s
      | o => .ok o s) from g3)
    refine hg b1 φ2 ρ2 s2 σ2 H3 _ _ _ x ds[i] _ h3 rx g4 fun ρ4 σ4 h4 _ _ g5 => ?_
    refine hb b1 φ2 ρ4 s2 σ4 H3 k0 _ E1 _ h4 tk1 g5 ⟨fun φ ρ s σ H h g => ⟨φ, ρ, s, h, g⟩, fun φ ρ s σ H h g => nx1 h g, fun φ ρ s σ H h g => ⟨φ, ρ, s, h, g⟩, fun φ s H d v st u r g => f.rt φ _ H d v (st_lk st _) (back u) r g⟩
  · have e : i = ds.length := by omega
    subst e
    rw [List.drop_length] at g3
    exact .inl ⟨stop, nx1 h2 g3⟩
/-! ### raise -/
theorem zip_lookup : ∀ {fs : List Nat} {ds : List D} {f : Nat} {d : D}, (fs.zip ds).lookup f = some d → ∃ i : Nat, fs[i]? = some f ∧ ds[i]? = some d
  | [], _, _, _, e => by simp at e
  | _ :: _, [], _, _, e => by simp at e
  | g :: fs, c :: ds, f, d, e => by
    rw [List.zip_cons_cons, List.lookup_cons] at e
    cases hb : f == g with
    | true =>
      rw [hb] at e
      have : f = g := by simpa using hb
      cases e
      exact ⟨0, by rw [this]; rfl, rfl⟩
    | false =>
      rw [hb] at e
      obtain ⟨i, h1, h2⟩ := zip_lookup e
      exact ⟨i + 1, h1, h2⟩
/-- a written exception: its class, its fields by the order of the written values -/
def RsP (X : Cx) (W : Wd) (c : Nat) (fs : List Nat) (run : TA) (mk : Expr) : Prop := PMk X mk fun σ H Q => run σ H fun vs H1 => vs.length = fs.length ∧ ∀ dx gs, H1 dx = none → (∀ (i : Nat) (f : Nat) (y : V), fs[i]? = some f → vs[i]? = some y → gs.lookup (W.fl f) = some y) → Q (.ref (W.C c)) (some dx) (upd H1 dx (.xd gs))
def CK (X : Cx) (W : Wd) (es : List Keyword) (f : Rho → S → (List D → S → T) → T) : Prop := ∀ (b : St3) (φ : Ad) (ρ : Rho) (s : S) (σ : L2.St) (H : Hp) (k : List D → S → T) (P : Out → S → Prop) (Ef : Nat → List (Nat × D) → S → Prop) (Q : List V → Hp → Prop), Here X W b φ ρ s σ H → XP X W σ b Ef → Good P Ef (f ρ s k) →
  (∀ φ' d v s' H', d.length = es.length → Here X W b φ' ρ s' σ H' → Up ⟨φ, s, H⟩ ⟨φ', s', H'⟩ → RepAll X.K W φ' H' v d → Good P Ef (k d s') → Q v H') → canK X es σ H Q
theorem ck_nil : CK X W [] fun _ s k => k [] s := fun b φ ρ s σ H k P Ef Q h xp g q => RD.canK.of pk_nil (q φ [] [] s H rfl h (.refl _) .nil g)
theorem ck_cons {nm : Option Str} {e : Expr} {kp : Pos} {es : List Keyword} {f : Kv} {fs : Rho → S → (List D → S → T) → T} (he : CE X W e f) (hes : CK X W es fs) : CK X W (⟨nm, e, kp⟩ :: es) fun r s k => f r s fun x s => fs r s fun xs s => k (x :: xs) s := by
  intro b φ ρ s σ H k P Ef Q h xp g q
  refine RD.canK.of (pk_cons pcan kcan) ?_
  refine he b φ ρ s σ H _ P Ef _ h xp g fun φ1 d v s1 H1 h1 u1 r1 g1 => ?_
  refine hes b φ1 ρ s1 σ H1 _ P Ef _ h1 xp g1 fun φ2 ds vs s2 H2 l2 h2 u2 r2 g2 => ?_
  exact q φ2 (d :: ds) _ s2 H2 (by rw [List.length_cons, List.length_cons, l2]) h2 (Up.trans (b := ⟨φ1, s1, H1⟩) h1.st u1 u2 h.st) (.cons (r1.up u2.kp) r2) g2
/-- what the raised exception is -/
theorem rs_wish {c : Nat} {fs : List Nat} {b : St3} {φ φ1 : Ad} {ρ : Rho} {s s1 : S} {σ : L2.St} {H H1 : Hp} {P : Out → S → Prop} {Ef : Nat → List (Nat × D) → S → Prop} {ds : List D} {vs : List V} (h1 : Here X W b φ1 ρ s1 σ H1) (r1 : RepAll X.K W φ1 H1 vs ds) (g1 : Good P Ef (if fs.length == ds.length then .ex c (fs.zip ds) s1 else .no)) :
    vs.length = fs.length ∧ ∀ dx gs, H1 dx = none → (∀ (i : Nat) (f : Nat) (y : V), fs[i]? = some f → vs[i]? = some y → gs.lookup (W.fl f) = some y) → wish X.K W b Ef (.ref (W.C c)) (some dx) (upd H1 dx (.xd gs)) := by
  by_cases hz : fs.length = ds.length
  · rw [if_pos (by simpa using hz)] at g1
    refine ⟨by rw [r1.length, hz], fun dx gs hdx hgs => ⟨c, fs.zip ds, φ1, s1, dx, gs, rfl, rfl, g1, h1.st.alloc hdx, Up.trans (b := ⟨φ1, s1, H1⟩) h1.st h1.up (.alloc hdx) h1.b0, h1.st.new hdx, upd_same, fun p m => ?_, fun f d e => ?_⟩⟩
    · obtain ⟨i, hi, e⟩ := List.getElem_of_mem (List.of_mem_zip (a := p.1) (b := p.2) m).2
      obtain ⟨v, e3, r⟩ := r1.get (List.getElem?_eq_some_iff.mpr ⟨hi, e⟩)
      exact ⟨v, r.up (.alloc hdx)⟩
    obtain ⟨i, e1, e2⟩ := zip_lookup e
    obtain ⟨v, e3, r⟩ := r1.get e2
    exact ⟨v, hgs i f v e1 e3, r.up (.alloc hdx)⟩
  · rw [if_neg (by simpa using hz)] at g1; exact g1.elim
theorem cb_rse {c : Nat} {fs : List Nat} {mk : Expr} {es : List Expr} {sts : List Stmt} {fa : Rho → S → (List D → S → T) → T} {pos : Pos} (hcm : X.calm = true) (h0 : CA X W es fa) (rp : RsP X W c fs (canA X es) mk) : CB X W (.Raise (some mk) none pos :: sts) fun ρ s _ => fa ρ s fun xs s => if fs.length == xs.length then .ex c (fs.zip xs) s else .no := by
  intro b φ ρ s σ H k P Ef E h tk g f
  have xp := tk.xp σ
  obtain ⟨V, tkV, hw⟩ := tk
  refine st_first (canS.of (ps_raise hcm tkV rp) ?_)
  refine h0 b φ ρ s σ H _ P Ef _ h xp g fun φ1 ds vs s1 H1 l1 h1 u1 r1 g1 => ?_
  obtain ⟨z1, z2⟩ := rs_wish (φ := φ) (s := s) (H := H) h1 r1 g1
  exact ⟨z1, fun dx gs hd hg => hw σ _ _ _ (z2 dx gs hd hg)⟩
theorem cb_rseK {c : Nat} {fs : List Nat} {mk : Expr} {es : List Keyword} {sts : List Stmt} {fa : Rho → S → (List D → S → T) → T} {pos : Pos} (hcm : X.calm = true) (h0 : CK X W es fa) (rp : RsP X W c fs (canK X es) mk) : CB X W (.Raise (some mk) none pos :: sts) fun ρ s _ => fa ρ s fun xs s => if fs.length == xs.length then .ex c (fs.zip xs) s else .no := by
  intro b φ ρ s σ H k P Ef E h tk g f
  have xp := tk.xp σ
  obtain ⟨V, tkV, hw⟩ := tk
  refine st_first (canS.of (ps_raise hcm tkV rp) ?_)
  refine h0 b φ ρ s σ H _ P Ef _ h xp g fun φ1 ds vs s1 H1 l1 h1 u1 r1 g1 => ?_
  obtain ⟨z1, z2⟩ := rs_wish (φ := φ) (s := s) (H := H) h1 r1 g1
  exact ⟨z1, fun dx gs hd hg => hw σ _ _ _ (z2 dx gs hd hg)⟩
/-! ### try -/
/-- the kept exception -/
theorem kept_here {b : St3} {φ φ' : Ad} {ρ : Rho} {s s' : S} {σ : L2.St} {H H' : Hp} {c : Nat} {fs : List (Nat × D)} {a dx : Addr} {vs : List (Str × V)} {i j : Nat} (h : Here X W b φ ρ s σ H) (ha : H' a = none) (h4 : State X.K W φ' s' H') (h5 : Up ⟨φ, s, H⟩ ⟨φ', s', H'⟩) (h6 : dx ∉ φ') (h7 : H' dx = some (.xd vs)) (h8 : FldR X.K W φ' H' vs fs) :
    Here X W b (φ'.add a) ((ρ.set j (some (.cel s'.cells.length))).set i none) ⟨s'.cells ++ [.exc c fs], s'.mw, s'.fb, s'.lk⟩ (((σ.set i (some (.ref a))).set j (some (.ref a))).set i none) (upd H' a (ExK (.ref (W.C c)) (some dx) a)) := by
  have ne : dx ≠ a := ne_of_none h7 ha
  have u2 : Up ⟨φ', s', H'⟩ ⟨φ'.add a, ⟨s'.cells ++ [.exc c fs], s'.mw, s'.fb, s'.lk⟩, upd H' a (ExK (.ref (W.C c)) (some dx) a)⟩ := .cell h4 ha
  have st2 : State X.K W (φ'.add a) ⟨s'.cells ++ [.exc c fs], s'.mw, s'.fb, s'.lk⟩ (upd H' a (ExK (.ref (W.C c)) (some dx) a)) := by
    refine h4.cell ha ⟨dx, vs, upd_same, fun z => (Ad.mem_add z).elim h6 ne, by rw [upd_ne ne]; exact h7, h8.up u2.kp⟩
  have h2 := h.on st2 (Up.trans (b := ⟨φ', s', H'⟩) h4 h5 u2 h.st)
  have rc : Rep X.K W (φ'.add a) (upd H' a (ExK (.ref (W.C c)) (some dx) a)) (.ref a) (.cel s'.cells.length) := by
    refine .cel ?_
    show (φ'.l ++ [a])[s'.cells.length]? = some a
    rw [List.getElem?_append_right (by rw [h4.len]; exact Nat.le_refl _), h4.len, Nat.sub_self]; rfl
  have p1 : Paired (SlotR X.K W (φ'.add a) (upd H' a (ExK (.ref (W.C c)) (some dx) a))) (ρ.set i none) (σ.set i (some (.ref a))) := RD.paired_set (F := SlotR X.K W (φ'.add a) (upd H' a (ExK (.ref (W.C c)) (some dx) a))) (a := none) (b := some (.ref a)) trivial i h2.sl
  have p2 := RD.paired_set (F := SlotR X.K W (φ'.add a) (upd H' a (ExK (.ref (W.C c)) (some dx) a))) (a := some (.cel s'.cells.length)) (b := some (.ref a)) rc j p1
  have p3 := RD.paired_set (F := SlotR X.K W (φ'.add a) (upd H' a (ExK (.ref (W.C c)) (some dx) a))) (a := none) (b := none) trivial i p2
  have e : ((ρ.set i none).set j (some (.cel s'.cells.length))).set i none = (ρ.set j (some (.cel s'.cells.length))).set i none := by
    by_cases z : i = j
    · subst z; simp
    · rw [List.set_comm _ _ z, List.set_set]
  rw [e] at p3
  exact ⟨st2, p3, h2.up, h2.b0⟩
/-- the suite: t = n -/
theorem suite_ok {n t : Str} {i j : Nat} {a : Addr} {oe : Obj} {pn : List (Addr × Obj)} {p1 p2 pos : Pos} (hN : X.N.Nodup) (hi : X.N[i]? = some n) (hj : X.N[j]? = some t) (hv : Vis X.env.scope n) (hx : Loc X.env.scope t) (hf : X.fn t = true ∨ X.env.scope.names.lookup t = some .local) (hd : (n == ("__debug__" : Str)) = false) (hcd : (n == ("__classdict__" : Str)) = false) :
    PSs (X.suite a ((a, oe) :: pn)) [.Assign [.Name t p1] (.Name n p2) pos] (tAsg (tVar i) (gName j)) :=
  pss_one (ps_set hN hj hx (pe_var hi hv hd hcd) rfl hf)
/-- what must stand for a try here -/
structure TryOk (X : Cx) (W : Wd) (sub : Nat → Nat → Bool) (c i j : Nat) (x n t : Str) : Prop where
  ex : X.ex = []
  stk : X.stack = X.env :: X.outer
  fr : X.env.frame = some X.env.locals
  nd : X.N.Nodup
  hi : X.N[i]? = some n
  hj : X.N[j]? = some t
  ln : X.env.kindOf n = some .local
  lt : Loc X.env.scope t
  ft : X.fn t = true ∨ X.env.scope.names.lookup t = some .local
  d : (n == ("__debug__" : Str)) = false
  cd : (n == ("__classdict__" : Str)) = false
  nm : Names X x (.ref (W.C c))
  sb : ∀ c', PySem.W.exmOne X.K (.ref (W.C c')) (.ref (W.C c)) = some (sub c' c)
/-- one statement st tried: fT what it comes to; in what follows from it the rest goes on -/
theorem try_core {sub : Nat → Nat → Bool} {c i j : Nat} {x n t : Str} {st : Stmt} {sts : List Stmt} {fr : Rho → S → Kn → T} {np pos pos' p1 p2 ps : Pos} (O : TryOk X W sub c i j x n t) (hr : CB X W sts fr) {b : St3} {φ : Ad} {ρ : Rho} {s : S} {σ : L2.St} {H : Hp} {k : Kn} {P : Out → S → Prop} {Ef : Nat → List (Nat × D) → S → Prop} {E : Ends} {f0 : Out → S → T} {t0 : T}
    (h : Here X W b φ ρ s σ H) (tk : TK X W b Ef) (f : Fit X W b P Ef k E)
    (g : Good P Ef (T.bindX t0 f0 fun c' fs s => if sub c' c then fr (setN i none (setN j (some (.cel s.cells.length)) ρ)) ⟨s.cells ++ [.exc c' fs], s.mw, s.fb, s.lk⟩ k else .ex c' fs s))
    (hb : ∀ (pn : List (Addr × Obj)) (xe : Value → Shared → Prop) (EfB : Nat → List (Nat × D) → S → Prop), PassesOwn (model X.prog X.w) X.A X.env xe → XP (X.tr pn xe) W σ ⟨φ, s, H⟩ EfB → Good (fun o s => Good P Ef (f0 o s)) EfB t0 → canSs (X.tr pn xe) [st] { E with nx := fun σ H => canSs X sts E σ H } σ H) :
    canSs X (.Try [st] [.ExceptHandler (some (.Name x np)) (some n) [.Assign [.Name t p1] (.Name n p2) ps] pos'] [] [] pos :: sts) E σ H := by
  obtain ⟨V, tkV, hw⟩ := id tk
  have g2 := good_bindX.mp g
  refine st_first (canS.of (RD.ps_try_keep (tb := fun Wx D σ H => ∀ pn xe, Takes (X.tr pn xe) Wx → PassesOwn (model X.prog X.w) X.A X.env xe → canSs (X.tr pn xe) [st] D σ H) (ts := fun a cls d => tAsg (tVar i) (gName j)) (Wout := V) O.ex O.stk O.fr O.nd O.hi O.ln O.nm tkV
    (fun Wx pn xe tk po => ⟨fun pins s σ H D I h => (sscan (X := X.tr pn xe) (st := [st])).run pins s σ H D I (h pn xe tk po)⟩) (fun a oe cls d pn _ _ => suite_ok O.nd O.hi O.hj (.inl O.ln) O.lt O.ft O.d O.cd)) ?_)
  intro pn xe tkB po
  refine hb pn xe _ po ?_ g2
  intro pins H1 s1 e s2 I cx
  refine tkB e s2 (XE.of_call I (fun cls d H' w => ?_) cx)
  obtain ⟨c', fs, φ', s', dx, vs, rfl, rfl, h3, h4, h5, h6, h7, h8⟩ := w
  refine ⟨sub c' c, O.sb c', fun yes a ha => ?_, fun no => ?_⟩
  · rw [if_pos yes] at h3
    have hl : i < σ.length := by
      have := I.len
      rw [this]
      exact (List.getElem?_eq_some_iff.mp O.hi).1
    refine ⟨.ref a, List.getElem?_set_self hl, ?_⟩
    rw [setN_eq, setN_eq] at h3
    exact hr b _ _ _ _ _ k P Ef E (kept_here h ha h4 h5 h6 h7 h8) tk h3 f
  · rw [if_neg (by rw [no]; simp)] at h3
    exact hw σ _ _ H' ⟨c', fs, φ', s', dx, vs, rfl, rfl, h3, h4, Up.trans (b := ⟨φ, s, H⟩) h.st h.up h5 h.b0, h6, h7, h8⟩
theorem cb_try0 {sub : Nat → Nat → Bool} {c i j : Nat} {x n t : Str} {e : Expr} {sts : List Stmt} {fe : Kv} {fr : Rho → S → Kn → T} {np pos pos' p1 p2 ps pe : Pos} (O : TryOk X W sub c i j x n t) (he : ∀ pn xe, CE (X.tr pn xe) W e fe) (hr : CB X W sts fr) (hsw : swapsWith e none pe.line X.env = pure false) :
    CB X W (.Try [.Expr e pe] [.ExceptHandler (some (.Name x np)) (some n) [.Assign [.Name t p1] (.Name n p2) ps] pos'] [] [] pos :: sts) fun r s k => T.bindX (fe r s fun d s => .ok (.v d) s) (fun o s => match o with
      | .v d => fr r s k
      | _ => .no) fun c' fs s => if sub c' c then fr (setN i none (setN j (some (.cel s.cells.length)) r)) ⟨s.cells ++ [.exc c' fs], s.mw, s.fb, s.lk⟩ k else .ex c' fs s := by
  intro b φ ρ s σ H k P Ef E h tk g f
  refine try_core O hr h tk f g fun pn xe EfB po xp g2 => ?_
  refine canSs.of (pss_one (ps_expr (X := X.tr pn xe) pcan hsw)) ?_
  refine he pn xe ⟨φ, s, H⟩ φ ρ s σ H _ _ EfB _ ⟨h.st, h.sl, .refl _, h.st⟩ xp g2 fun φ1 d v s1 H1 h1 u1 r1 g1 => ?_
  exact hr b φ1 ρ s1 σ H1 k P Ef E (h.on h1.st u1) tk g1 f
theorem cb_try1 {sub : Nat → Nat → Bool} {c i j l : Nat} {x n t y : Str} {e : Expr} {sts : List Stmt} {fe : Kv} {fr : Rho → S → Kn → T} {np pos pos' p1 p2 ps pe py : Pos} (O : TryOk X W sub c i j x n t) (hl : X.N[l]? = some y) (hy : Loc X.env.scope y) (hfy : X.fn y = true ∨ X.env.scope.names.lookup y = some .local) (he : ∀ pn xe, CE (X.tr pn xe) W e fe) (hr : CB X W sts fr) (hsw : swapsWith e (some (.Name y py)) pe.line X.env = pure false) :
    CB X W (.Try [.Assign [.Name y py] e pe] [.ExceptHandler (some (.Name x np)) (some n) [.Assign [.Name t p1] (.Name n p2) ps] pos'] [] [] pos :: sts) fun r s k => T.bindX (fe r s fun d s => .ok (.v d) s) (fun o s => match o with
      | .v d => fr (setN l (some d) r) s k
      | _ => .no) fun c' fs s => if sub c' c then fr (setN i none (setN j (some (.cel s.cells.length)) r)) ⟨s.cells ++ [.exc c' fs], s.mw, s.fb, s.lk⟩ k else .ex c' fs s := by
  intro b φ ρ s σ H k P Ef E h tk g f
  refine try_core O hr h tk f g fun pn xe EfB po xp g2 => ?_
  refine canSs.of (pss_one (ps_set (X := X.tr pn xe) O.nd hl hy pcan hsw hfy)) ?_
  refine he pn xe ⟨φ, s, H⟩ φ ρ s σ H _ _ EfB _ ⟨h.st, h.sl, .refl _, h.st⟩ xp g2 fun φ1 d v s1 H1 h1 u1 r1 g1 => ?_
  have g3 : Good P Ef (fr (setN l (some d) ρ) s1 k) := g1
  rw [setN_eq] at g3
  exact hr b φ1 _ s1 _ H1 k P Ef E ((h.on h1.st u1).set l r1) tk g3 f
theorem cb_try2 {sub : Nat → Nat → Bool} {c i j : Nat} {x n t : Str} {e : Expr} {sts : List Stmt} {fe : Kv} {fr : Rho → S → Kn → T} {np pos pos' p1 p2 ps pe : Pos} (O : TryOk X W sub c i j x n t) (he : ∀ pn xe, CE (X.tr pn xe) W e fe) (hr : CB X W sts fr) :
    CB X W (.Try [.Return (some e) pe] [.ExceptHandler (some (.Name x np)) (some n) [.Assign [.Name t p1] (.Name n p2) ps] pos'] [] [] pos :: sts) fun r s k => T.bindX (fe r s fun d s => .ok (.v d) s) (fun o s => match o with
      | .v d => k.rt d s
      | _ => .no) fun c' fs s => if sub c' c then fr (setN i none (setN j (some (.cel s.cells.length)) r)) ⟨s.cells ++ [.exc c' fs], s.mw, s.fb, s.lk⟩ k else .ex c' fs s := by
  intro b φ ρ s σ H k P Ef E h tk g f
  refine try_core O hr h tk f g fun pn xe EfB po xp g2 => ?_
  refine canSs.of (pss_one (ps_ret (X := X.tr pn xe) pcan)) ?_
  refine he pn xe ⟨φ, s, H⟩ φ ρ s σ H _ _ EfB _ ⟨h.st, h.sl, .refl _, h.st⟩ xp g2 fun φ1 d v s1 H1 h1 u1 r1 g1 => ?_
  exact f.rt φ1 s1 H1 d v h1.st (Up.trans (b := ⟨φ, s, H⟩) h.st h.up u1 h.b0) r1 g1
end
end EV

/-! EV11: defs. -/
namespace EV
open PySem PySem.Spec PyProof.Rows L2
open RD (canE canT canW canA canK canS canSs canG canGs canI PenAt KT ExK pcan tcan wcan acan scan sscan gcan gscan kcan icanL Rm Fn Blk tIfs pts_any)
section
variable {K : PySem.W.Frag} {W : Wd}
/-! ### what a datum names -/
mutual
theorem rep_below {φ : Ad} {H : Hp} {n : Nat} (hn : φ.l.length ≤ n) : ∀ (d : D) {v : V}, Rep K W φ H v d → below n d = true
  | .non, _, _ => rfl
  | .bl _, _, _ => rfl
  | .int _, _, _ => rfl
  | .str _, _, _ => rfl
  | .lst ds, _, r => by
    cases r with
    | lst m q ra => exact repAll_below hn ds ra
  | .tup ds, _, r => by
    cases r with
    | tup q ra => exact repAll_below hn ds ra
  | .dct ds, _, r => by
    cases r with
    | dct m q ra => exact repKV_below hn ds ra
  | .obj c ds, _, r => by
    cases r with
    | obj m q ra => exact repF_below hn ds ra
  | .cel i, _, r => by
    cases r with
    | cel e =>
      have := (List.getElem?_eq_some_iff.mp e).1
      show Nat.blt i n = true
      rw [Nat.blt_eq]
      omega
theorem repAll_below {φ : Ad} {H : Hp} {n : Nat} (hn : φ.l.length ≤ n) : ∀ (ds : List D) {vs : List V}, RepAll K W φ H vs ds → belows n ds = true
  | [], _, _ => rfl
  | d :: ds, _, r => by
    cases r with
    | cons r1 r2 =>
      show (below n d && belows n ds) = true
      rw [rep_below hn d r1, repAll_below hn ds r2]; rfl
theorem repKV_below {φ : Ad} {H : Hp} {n : Nat} (hn : φ.l.length ≤ n) : ∀ (ds : List (D × D)) {vs : List (Key × V)}, RepKV K W φ H vs ds → belowk n ds = true
  | [], _, _ => rfl
  | (k, d) :: ds, _, r => by
    cases r with
    | cons e r1 r2 =>
      show (below n k && below n d && belowk n ds) = true
      rw [rep_below hn d r1, repKV_below hn ds r2]
      cases k with
      | int _ => rfl
      | str _ => rfl
      | _ => cases e
theorem repF_below {φ : Ad} {H : Hp} {n : Nat} (hn : φ.l.length ≤ n) : ∀ (ds : List (Nat × D)) {vs : List (Str × V)}, RepF K W φ H vs ds → belowf n ds = true
  | [], _, _ => rfl
  | (k, d) :: ds, _, r => by
    cases r with
    | cons r1 r2 =>
      show (below n d && belowf n ds) = true
      rw [rep_below hn d r1, repF_below hn ds r2]; rfl
end
/-- the first cells of a state -/
structure Cut (φ ψ : Ad) (n : Nat) : Prop where
  l : φ.l = ψ.l.take n
  g : φ.g = ψ.g
theorem Cut.notin {φ ψ : Ad} {n : Nat} (c : Cut φ ψ n) {a : Addr} (h : a ∉ ψ) : a ∉ φ := fun z => z.elim (fun z => h (.inl (by rw [c.l] at z; exact List.mem_of_mem_take z))) fun z => h (.inr (by rw [c.g] at z; exact z))
theorem Cut.get {φ ψ : Ad} {n i : Nat} (c : Cut φ ψ n) (hi : i < n) : φ.l[i]? = ψ.l[i]? := by rw [c.l, List.getElem?_take_of_lt hi]
mutual
theorem rep_cut {φ ψ : Ad} {H : Hp} {n : Nat} (c : Cut φ ψ n) : ∀ (d : D) {v : V}, Rep K W ψ H v d → below n d = true → Rep K W φ H v d
  | .non, _, r, _ => by cases r; exact .non
  | .bl b, _, r, _ => by cases r; exact .bl b
  | .int i, _, r, _ => by cases r; exact .int i
  | .str x, _, r, _ => by cases r; exact .str x
  | .lst ds, _, r, h => by
    cases r with
    | lst m q ra => exact .lst (c.notin m) q (repAll_cut c ds ra h)
  | .tup ds, _, r, h => by
    cases r with
    | tup q ra =>
      refine .tup ?_ (repAll_cut c ds ra h)
      rcases q with ⟨m, q⟩ | q
      · exact .inl ⟨c.notin m, q⟩
      · exact .inr q
  | .dct ds, _, r, h => by
    cases r with
    | dct m q ra => exact .dct (c.notin m) q (repKV_cut c ds ra h)
  | .obj k ds, _, r, h => by
    cases r with
    | obj m q ra => exact .obj (c.notin m) q (repF_cut c ds ra h)
  | .cel i, _, r, h => by
    cases r with
    | cel e =>
      have hi : i < n := by
        have : Nat.blt i n = true := h
        rw [Nat.blt_eq] at this
        exact this
      exact .cel ((c.get hi).trans e)
theorem repAll_cut {φ ψ : Ad} {H : Hp} {n : Nat} (c : Cut φ ψ n) : ∀ (ds : List D) {vs : List V}, RepAll K W ψ H vs ds → belows n ds = true → RepAll K W φ H vs ds
  | [], _, r, _ => by cases r; exact .nil
  | d :: ds, _, r, h => by
    have h' := Bool.and_eq_true_iff.mp (show (below n d && belows n ds) = true from h)
    cases r with
    | cons r1 r2 => exact .cons (rep_cut c d r1 h'.1) (repAll_cut c ds r2 h'.2)
theorem repKV_cut {φ ψ : Ad} {H : Hp} {n : Nat} (c : Cut φ ψ n) : ∀ (ds : List (D × D)) {vs : List (Key × V)}, RepKV K W ψ H vs ds → belowk n ds = true → RepKV K W φ H vs ds
  | [], _, r, _ => by cases r; exact .nil
  | (k, d) :: ds, _, r, h => by
    have h' := Bool.and_eq_true_iff.mp (show (below n k && below n d && belowk n ds) = true from h)
    have h2 := Bool.and_eq_true_iff.mp h'.1
    cases r with
    | cons e r1 r2 => exact .cons e (rep_cut c d r1 h2.2) (repKV_cut c ds r2 h'.2)
theorem repF_cut {φ ψ : Ad} {H : Hp} {n : Nat} (c : Cut φ ψ n) : ∀ (ds : List (Nat × D)) {vs : List (Str × V)}, RepF K W ψ H vs ds → belowf n ds = true → RepF K W φ H vs ds
  | [], _, r, _ => by cases r; exact .nil
  | (k, d) :: ds, _, r, h => by
    have h' := Bool.and_eq_true_iff.mp (show (below n d && belowf n ds) = true from h)
    cases r with
    | cons r1 r2 => exact .cons (rep_cut c d r1 h'.1) (repF_cut c ds r2 h'.2)
end
theorem belowf_lookup {n : Nat} : ∀ {fs : List (Nat × D)} {f : Nat} {d : D}, belowf n fs = true → fs.lookup f = some d → below n d = true
  | [], _, _, _, e => by simp at e
  | (g, c) :: fs, f, d, h, e => by
    have h' := Bool.and_eq_true_iff.mp (show (below n c && belowf n fs) = true from h)
    rw [List.lookup_cons] at e
    cases hb : f == g with
    | true => rw [hb] at e; cases e; exact h'.1
    | false => rw [hb] at e; exact belowf_lookup h'.2 e
theorem belowf_mem {n : Nat} : ∀ {fs : List (Nat × D)} {p : Nat × D}, belowf n fs = true → p ∈ fs → below n p.2 = true
  | [], _, _, m => by simp at m
  | (g, c) :: fs, p, h, m => by
    have h' := Bool.and_eq_true_iff.mp (show (below n c && belowf n fs) = true from h)
    rcases List.mem_cons.mp m with e | m
    · rw [e]; exact h'.1
    · exact belowf_mem h'.2 m
theorem belowf_of {n : Nat} : ∀ {fs : List (Nat × D)}, (∀ p, p ∈ fs → below n p.2 = true) → belowf n fs = true
  | [], _ => rfl
  | (g, c) :: fs, h => by
    show (below n c && belowf n fs) = true
    rw [h (g, c) (List.mem_cons_self ..), belowf_of fun p m => h p (List.mem_cons_of_mem _ m)]; rfl
theorem cell_cut {φ ψ : Ad} {H : Hp} {n : Nat} (c : Cut φ ψ n) {a : Addr} {x : Cell} (r : CellR K W ψ H a x) (h : belowC n x = true) : CellR K W φ H a x := by
  cases x with
  | lst ds => obtain ⟨vs, e, r⟩ := r; exact ⟨vs, e, repAll_cut c ds r h⟩
  | dct ds => obtain ⟨vs, e, r⟩ := r; exact ⟨vs, e, repKV_cut c ds r h⟩
  | ins k ds => obtain ⟨dx, vs, e, r⟩ := r; exact ⟨dx, vs, e, repF_cut c ds r h⟩
  | exc k ds =>
    obtain ⟨dx, vs, e, m, e2, r⟩ := r
    refine ⟨dx, vs, e, c.notin m, e2, fun p hp => (r.1 p hp).imp fun _ q => rep_cut c p.2 q (belowf_mem h hp), fun f d l => ?_⟩
    obtain ⟨v, l2, r2⟩ := r.2 f d l
    exact ⟨v, l2, rep_cut c d r2 (belowf_lookup h l)⟩
  | pen k =>
    obtain ⟨hk, cc, m, p⟩ := r
    exact ⟨hk, cc, c.notin m, p⟩
/-- below, as the state tells -/
theorem cell_below {φ : Ad} {H : Hp} {n : Nat} {a : Addr} {x : Cell} (hn : φ.l.length ≤ n) (r : CellR K W φ H a x) : belowC n x = true := by
  cases x with
  | lst ds => obtain ⟨vs, e, r⟩ := r; exact repAll_below hn ds r
  | dct ds => obtain ⟨vs, e, r⟩ := r; exact repKV_below hn ds r
  | ins k ds => obtain ⟨dx, vs, e, r⟩ := r; exact repF_below hn ds r
  | exc k ds =>
    obtain ⟨dx, vs, e, m, e2, r⟩ := r
    refine belowf_of fun p hp => ?_
    obtain ⟨v, q⟩ := r.1 p hp
    exact rep_below hn p.2 q
  | pen k => rfl
/-! ### what is frozen -/
theorem mapO_all {f : D → Option D} {φ ψ : Ad} {H : Hp} : ∀ {ds ds' : List D} {vs : List V}, (∀ d d' v, d ∈ ds → f d = some d' → Rep K W ψ H v d → Rep K W φ H v d') → mapO f ds = some ds' → RepAll K W ψ H vs ds → RepAll K W φ H vs ds'
  | [], ds', vs, hf, e, r => by
    cases r; cases e; exact .nil
  | d :: ds, ds', vs, hf, e, r => by
    cases r with
    | cons r1 r2 =>
      simp only [mapO] at e
      split at e
      · rename_i y ys e1 e2
        cases e
        exact .cons (hf d y _ (List.mem_cons_self ..) e1 r1) (mapO_all (fun d d' v m => hf d d' v (List.mem_cons_of_mem _ m)) e2 r2)
      · cases e
theorem mapO_kv {f : D → Option D} {φ ψ : Ad} {H : Hp} : ∀ {ds ds' : List (D × D)} {vs : List (Key × V)}, (∀ d d' v, f d = some d' → Rep K W ψ H v d → Rep K W φ H v d') → mapO (fun (p : D × D) => (f p.2).map fun y => (p.1, y)) ds = some ds' → RepKV K W ψ H vs ds → RepKV K W φ H vs ds'
  | [], ds', vs, hf, e, r => by
    cases r; cases e; exact .nil
  | (k, d) :: ds, ds', vs, hf, e, r => by
    cases r with
    | cons q r1 r2 =>
      simp only [mapO] at e
      split at e
      · rename_i y ys e1 e2
        cases e
        obtain ⟨z, e3, e4⟩ := Option.map_eq_some_iff.mp e1
        cases e4
        exact .cons q (hf d z _ e3 r1) (mapO_kv hf e2 r2)
      · cases e
/-- what was a cell and is none more -/
theorem Cut.out {φ ψ : Ad} {n i : Nat} {a : Addr} {s : S} {H : Hp} (c : Cut φ ψ n) (st : State K W ψ s H) (e : ψ.l[i]? = some a) (hi : n ≤ i) : a ∉ φ := by
  intro m
  rcases m with m | m
  · rw [c.l] at m
    obtain ⟨j, hj, e2⟩ := List.getElem_of_mem m
    have hj1 : j < n := by rw [List.length_take] at hj; omega
    have hj2 : j < ψ.l.length := by rw [List.length_take] at hj; omega
    rw [List.getElem_take] at e2
    obtain ⟨hi2, e3⟩ := List.getElem?_eq_some_iff.mp e
    have := (List.getElem_inj st.nd).mp (e2.trans e3.symm)
    omega
  · rw [c.g] at m
    exact st.ng a m (List.mem_of_getElem? e)
theorem fz_rep {φ ψ : Ad} {s : S} {H : Hp} {n : Nat} (c : Cut φ ψ n) (st : State K W ψ s H) : ∀ (m : Nat) (d d' : D) (v : V), fz s.cells n m d = some d' → Rep K W ψ H v d → Rep K W φ H v d'
  | 0, d, d', v, e, _ => by simp [fz] at e
  | m + 1, d, d', v, e, r => by
    have plain : (if below n d then some d else none) = some d' → Rep K W φ H v d' := by
      intro e
      split at e
      · cases e; exact rep_cut c d r (by assumption)
      · cases e
    cases d with
    | cel i =>
      cases r with
      | @cel a _ z =>
        simp only [fz] at e
        split at e
        · rename_i hb
          cases e
          exact .cel ((c.get (by rw [Nat.blt_eq] at hb; exact hb)).trans z)
        · rename_i hb
          have hi : n ≤ i := by
            have : ¬ i < n := fun y => hb (by rw [Nat.blt_eq]; exact y)
            omega
          split at e
          · rename_i xs ec
            obtain ⟨ys, e1, e2⟩ := Option.map_eq_some_iff.mp e
            cases e2
            obtain ⟨vs, ea, ra⟩ := st.at_ i _ a ec z
            exact .lst (c.out st z hi) ea (mapO_all (fun d d' v _ => fz_rep c st m d d' v) e1 ra)
          · rename_i xs ec
            obtain ⟨ys, e1, e2⟩ := Option.map_eq_some_iff.mp e
            cases e2
            obtain ⟨vs, ea, ra⟩ := st.at_ i _ a ec z
            exact .dct (c.out st z hi) ea (mapO_kv (fun d d' v => fz_rep c st m d d' v) e1 ra)
          · cases e
    | tup xs =>
      simp only [fz] at e
      split at e
      · rename_i hb
        cases e
        exact rep_cut c (.tup xs) r hb
      · obtain ⟨ys, e1, e2⟩ := Option.map_eq_some_iff.mp e
        cases e2
        cases r with
        | tup q ra =>
          refine .tup ?_ (mapO_all (fun d d' v _ => fz_rep c st m d d' v) e1 ra)
          rcases q with ⟨q1, q2⟩ | q
          · exact .inl ⟨c.notin q1, q2⟩
          · exact .inr q
    | non => exact plain e
    | bl b => exact plain e
    | int b => exact plain e
    | str b => exact plain e
    | lst b => exact plain e
    | dct b => exact plain e
    | obj k b => exact plain e
end
end EV

/-! EV12: a def keeps what the small language tells of it. -/
namespace EV
open PySem PySem.Spec PyProof.Rows L2
open RD (canE canT canW canA canK canS canSs canG canGs canI PenAt KT ExK pcan tcan wcan acan scan sscan gcan gscan kcan icanL Rm Fn Blk tIfs pts_any)
section
variable {K : PySem.W.Frag} {W : Wd}
theorem cut_pre {φ ψ : Ad} {n : Nat} (hn : φ.l.length = n) (hp : ∀ (i : Nat) (a : Addr), φ.l[i]? = some a → ψ.l[i]? = some a) (hg : ψ.g = φ.g) : Cut φ ψ n := by
  refine ⟨?_, hg.symm⟩
  apply List.ext_getElem?
  intro i
  by_cases hi : i < n
  · rw [List.getElem?_take_of_lt hi]
    have h1 : i < φ.l.length := by omega
    rw [List.getElem?_eq_getElem h1]
    exact (hp i _ (List.getElem?_eq_getElem h1)).symm
  · rw [List.getElem?_eq_none (by omega), List.getElem?_eq_none (by rw [List.length_take]; omega)]
/-- back from a call's own state -/
theorem up_leave {K : PySem.W.Frag} {W : Wd} {φ φ' : Ad} {s s' : S} {H H' : Hp} (u : Up ⟨φ, ⟨s.cells, big, s.cells.length, s.lk⟩, H⟩ ⟨φ', s', H'⟩) : Up ⟨φ, s, H⟩ ⟨φ', ⟨s'.cells, Nat.min s.mw s'.mw, s.fb, s.lk⟩, H'⟩ := by
  refine ⟨u.kp, u.ge, u.gk, rfl, rfl, Nat.min_le_left _ _, fun i c c' h1 h2 e e' => ?_, fun i c hi e => u.lkd i c hi e⟩
  have h3 : i < Nat.min s.mw s'.mw := h2
  exact u.wr i c c' (List.getElem?_eq_some_iff.mp e).1 (Nat.lt_of_lt_of_le h3 (Nat.min_le_right _ _)) e e'
theorem leave_ok {φ φ' : Ad} {s s' : S} {H H' : Hp} {d : D} {v : V} {Q : VK} {Ef : Nat → List (Nat × D) → S → Prop} (st0 : State K W φ s H) (st : State K W φ' s' H') (u : Up ⟨φ, ⟨s.cells, big, s.cells.length, s.lk⟩, H⟩ ⟨φ', s', H'⟩) (r : Rep K W φ' H' v d)
    (g : Good (fun o s' => match o with
      | .v d => ∀ φ' v H', State K W φ' s' H' → Up ⟨φ, s, H⟩ ⟨φ', s', H'⟩ → Rep K W φ' H' v d → Q v H'
      | _ => False) Ef (leave s.cells.length s.mw s.fb d ⟨s'.cells, s'.mw, s'.fb, s.lk⟩)) : Q v H' := by
  have ul := up_leave (K := K) (W := W) u
  have kept : ∀ mw lk, State K W φ' ⟨s'.cells, mw, s.fb, lk⟩ H' := fun _ _ => ⟨st.len, st.nd, st.at_, st.gh, st.ng⟩
  unfold leave at g
  split at g
  · exact g φ' v H' (kept _ _) ul r
  · split at g
    · rename_i d' hz
      split at g
      · rename_i hmw
        have hmw : s.cells.length ≤ s'.mw := hmw
        have c : Cut φ φ' s.cells.length := cut_pre st0.len u.kp.pre u.ge
        have r' : Rep K W φ H' v d' := fz_rep (s := s') c st 12 d d' v hz r
        have hlen : s.cells.length ≤ s'.cells.length := Up.len (a := ⟨φ, s, H⟩) (b := ⟨φ', s', H'⟩) u.kp st0 st
        refine g φ v H' ⟨?_, st0.nd, fun i x a h1 h2 => ?_, fun a ha => ?_, st0.ng⟩ ⟨⟨fun _ _ e => e, fun a o m e => ⟨(u.kp.keep a o m e).1, m⟩⟩, rfl, u.gk, rfl, rfl, Nat.min_le_left _ _, fun i x x' h1 h2 e e' => ?_, fun i x hi e => ?_⟩ r'
        · show φ.l.length = (s'.cells.take s.cells.length).length
          rw [List.length_take, st0.len]; omega
        · have hi : i < s.cells.length := by rw [← st0.len]; exact (List.getElem?_eq_some_iff.mp h2).1
          have h1' : s'.cells[i]? = some x := by
            have : (s'.cells.take s.cells.length)[i]? = some x := h1
            rwa [List.getElem?_take_of_lt hi] at this
          refine cell_cut c (st.at_ i x a h1' ((c.get hi).symm.trans h2)) ?_
          have e0 := List.getElem?_eq_getElem hi
          exact u.wr i _ x hi (Nat.lt_of_lt_of_le hi hmw) e0 h1' _ (cell_below (Nat.le_of_eq st0.len) (st0.at_ i _ a e0 h2))
        · exact st.gh a (by rw [u.ge]; exact ha)
        · have hi : i < s.cells.length := (List.getElem?_eq_some_iff.mp e).1
          have e1 : s'.cells[i]? = some x' := by
            have : (s'.cells.take s.cells.length)[i]? = some x' := e'
            rwa [List.getElem?_take_of_lt hi] at this
          exact ul.wr i x x' h1 h2 e e1
        · have hi2 : i < s.cells.length := (List.getElem?_eq_some_iff.mp e).1
          show (s'.cells.take s.cells.length)[i]? = some x
          rw [List.getElem?_take_of_lt hi2]
          exact u.lkd i x hi e
      · exact g φ' v H' (kept _ _) ul r
    · exact g φ' v H' (kept _ _) ul r
theorem paired_start {φ : Ad} {H : Hp} {vs : List V} {ds : List D} (N : List Str) (r : RepAll K W φ H vs ds) : Paired (SlotR K W φ H) (ds.map some ++ List.replicate (N.length - ds.length) none) (L2.start N vs) := by
  unfold L2.start
  have h1 : ∀ m, Paired (SlotR K W φ H) (List.replicate m none) (List.replicate m none) := by
    intro m
    induction m with
    | zero => exact .nil
    | succ m ih => exact .cons trivial ih
  rw [r.length]
  have : ∀ {ds : List D} {vs : List V} (l : Rho) (m : L2.St), RepAll K W φ H vs ds → Paired (SlotR K W φ H) l m → Paired (SlotR K W φ H) (ds.map some ++ l) (vs.map some ++ m) := by
    intro ds vs l m r hl
    induction vs generalizing ds with
    | nil => cases r; exact hl
    | cons v vs ih =>
      cases r with
      | cons r1 r2 => exact .cons r1 (ih r2)
  exact this _ _ r (h1 _)
theorem fn_ev {P : Program} {w : World} {mg : Str → Option Value} {base : Heap} {t : Tab} {n f : Nat} {fa : Addr} {fd : FuncData} {x qual : Str} {params : Arguments} {body : List Stmt} {scope : Scope} {dvs : List V} {kws : List (Str × V)} {N ps : List Str} {F : Fun} (FD : FunD K x qual params body scope dvs kws fa fd) (SC : FnScope N ps scope)
    (hF : t.fn f = some F) (hnp : F.np = ps.length) (hns : F.ns = N.length) (hdl : F.dfl.length ≤ F.np)
    (hb : ∀ cdv A outer s H E, Rm n (A.deeper (envOfC qual scope s.heap.objs.size fa cdv)) → CB (cxOf (CX P w) P w K mg base N qual scope fa cdv A outer s H E) W body (denB (t.gl n) F.body)) : Fn P w K mg base (CX P w) (n + 1) fa fd ps (spEV K W t (n + 1) f) := by
  refine Fn.by_body FD SC (fun vs H Q E h => ?_) fun cdv A outer sh H vs Q E rm h => ?_
  · obtain ⟨φ, s, ds, Ef, _, r, ⟨F', e, l⟩, _⟩ := h
    rw [hF] at e; cases e
    rw [r.length, l, hnp]
  · obtain ⟨φ, s, ds, Ef, st, r, ⟨F', e, l⟩, g, hE⟩ := h
    rw [hF] at e; cases e
    have g1 : Good _ Ef (opt (t.fn f) fun F => run ⟨call t n, t.rp, t.gd, t.sub, t.exc, t.ins, t.ty⟩ F (ds ++ F.dfl.drop (ds.length - (F.np - F.dfl.length))) s) := g
    rw [hF] at g1
    have g1 : Good _ Ef (run ⟨call t n, t.rp, t.gd, t.sub, t.exc, t.ins, t.ty⟩ F (ds ++ F.dfl.drop (ds.length - (F.np - F.dfl.length))) s) := g1
    have hnil : F.dfl.drop (ds.length - (F.np - F.dfl.length)) = [] := List.drop_eq_nil_of_le (by omega)
    rw [hnil, List.append_nil] at g1
    unfold run at g1
    rw [if_pos (by simpa using l)] at g1
    have g2 := good_bindX.mp g1
    rw [show F.ns - F.np = N.length - ds.length by omega] at g2
    let b : St3 := ⟨φ, ⟨s.cells, big, s.cells.length, s.lk⟩, H⟩
    have stb : State K W b.φ b.s b.H := ⟨st.len, st.nd, st.at_, st.gh, st.ng⟩
    refine hb cdv A outer sh H E rm b φ _ _ _ H _ _ _ _ ⟨stb, paired_start N r, .refl _, stb⟩ ⟨fun cls d _ H => E cls d H, takes_of rfl rfl rfl rfl, fun _ cls d H' hw => hE cls d H' ?_⟩ g2 ⟨?_, ?_, ?_, ?_⟩
    · obtain ⟨c, fs, φ', s', dx, vs, h1, h2, h3, h4, h5, h6, h7, h8⟩ := hw
      exact ⟨c, fs, φ', ⟨s'.cells, Nat.min s.mw s'.mw, s.fb, s.lk⟩, dx, vs, h1, h2, h3, ⟨h4.len, h4.nd, h4.at_, h4.gh, h4.ng⟩, up_leave (K := K) (W := W) h5, h6, h7, h8⟩
    · intro φ' ρ' s' σ' H' h' g'
      exact leave_ok st h'.st h'.up .non g'
    · intro φ' ρ' s' σ' H' h' g'
      exact g'.elim
    · intro φ' ρ' s' σ' H' h' g'
      exact g'.elim
    · intro φ' s' H' d v st' u' r' g'
      exact leave_ok st st' u' r' g'
end
end EV

/-! EV13: the rules by the small language's terms. -/
namespace EV
open PySem PySem.Spec PyProof.Rows L2
open RD (canE canT canW canA canK canS canSs canG canGs canI PenAt KT ExK pcan tcan wcan acan scan sscan gcan gscan kcan icanL Rm Fn Blk tIfs pts_any)
section
variable {X : Cx} {W : Wd} {t : Tab} {n : Nat}
/-! the judgements, each in a box (so that no one looks into them) -/
structure NE (X : Cx) (W : Wd) (e : Expr) (f : Kv) : Prop where out : CE X W e f
structure NA (X : Cx) (W : Wd) (e : List Expr) (f : Rho → S → (List D → S → T) → T) : Prop where out : CA X W e f
structure NT (X : Cx) (W : Wd) (e : Expr) (f : Rho → S → (Bool → S → T) → T) : Prop where out : CT X W e f
structure NW (X : Cx) (W : Wd) (e : Expr) (f : Rho → S → (Bool → S → T) → T) : Prop where out : CW X W e f
structure NI (X : Cx) (W : Wd) (tg e : Expr) (f : Rho → S → (List D → List Nat → S → T) → T) : Prop where out : CI X W tg e f
structure NG (X : Cx) (W : Wd) (tg : Expr) (g : G) (V_ : Nat → Prop) : Prop where out : CG X W tg g V_
structure NB (X : Cx) (W : Wd) (sts : List Stmt) (f : Rho → S → Kn → T) : Prop where out : CB X W sts f
structure NK (X : Cx) (W : Wd) (es : List Keyword) (f : Rho → S → (List D → S → T) → T) : Prop where out : CK X W es f
structure NR (X : Cx) (W : Wd) (c : Nat) (fs : List Nat) (run : TA) (mk : Expr) : Prop where out : RsP X W c fs run mk
structure NTs (X : Cx) (W : Wd) (scope : Scope) (ifs : List Expr) (c : Rho → S → (Bool → S → T) → T) : Prop where out : CTs X W scope ifs c
theorem n_nm {i : Nat} {x : Str} {pos : Pos} (hN : X.N[i]? = some x := by rfl) (hv : Vis X.env.scope x := by first | exact Or.inl rfl | exact Or.inr (Or.inl rfl) | exact Or.inr (Or.inr rfl)) (hd : (x == ("__debug__" : Str)) = false := by decide) (hcd : (x == ("__classdict__" : Str)) = false := by decide) : NE X W (.Name x pos) (denE (t.gl n) (.nm i)).v := ⟨ce_nm hN hv hd hcd⟩
theorem n_cst {c : Const} {d : D} {j : Nat} {pos : Pos} (hc : cstD c d = true := by rfl) : NE X W (.Constant c j pos) (denE (t.gl n) (.cst d)).v := ⟨ce_cst hc⟩
theorem n_nil : NA X W [] (denE (t.gl n) .nil).a := ⟨ca_nil⟩
theorem n_cons {e : Expr} {es : List Expr} {a as : E} (he : NE X W e (denE (t.gl n) a).v) (hes : NA X W es (denE (t.gl n) as).a) (hs : starEach (e :: es) X.env = (false, eval e X.env) :: starEach es X.env := by rfl) : NA X W (e :: es) (denE (t.gl n) (.cons a as)).a := ⟨ca_cons he.out hes.out hs⟩
theorem n_tup {es : List Expr} {as : E} {x1 : Nat} {pos : Pos} (h0 : NA X W es (denE (t.gl n) as).a) : NE X W (.Tuple es x1 pos) (denE (t.gl n) (.tup as)).v := ⟨ce_tup h0.out⟩
theorem n_lst {es : List Expr} {as : E} {m : Bool} {pos : Pos} (h0 : NA X W es (denE (t.gl n) as).a) : NE X W (.List es pos) (denE (t.gl n) (.lst m as)).v := ⟨ce_lst h0.out⟩
theorem n_dct {x : Str} {z : List Nat} {i : Int} {pos p1 p2 : Pos} {j1 j2 : Nat} (hx : x = toStr z := by rfl) : NE X W (.Dict [some (.Constant (.str x) j1 p1)] [.Constant (.int i) j2 p2] pos) (denE (t.gl n) (.dct (.cons (.cst (.str z)) (.cons (.cst (.int i)) .nil)))).v := by subst hx; exact ⟨ce_dct⟩
theorem n_neg {e : Expr} {a : E} {pos : Pos} (ha : NE X W e (denE (t.gl n) a).v) : NE X W (.UnaryOp .USub e pos) (denE (t.gl n) (.neg a)).v := ⟨ce_neg ha.out⟩
theorem n_not {e : Expr} {a : E} {pos : Pos} (ha : NE X W e (denE (t.gl n) a).v) : NE X W (.UnaryOp .Not e pos) (denE (t.gl n) (.not a)).v := ⟨ce_not ha.out⟩
theorem n_add {e e' : Expr} {a a' : E} {pos : Pos} (h1 : NE X W e (denE (t.gl n) a).v) (h2 : NE X W e' (denE (t.gl n) a').v) : NE X W (.BinOp e .Add e' pos) (denE (t.gl n) (.bin 0 a a')).v := ⟨ce_bin h1.out h2.out RD.op_addU ok_add⟩
theorem n_sub {e e' : Expr} {a a' : E} {pos : Pos} (h1 : NE X W e (denE (t.gl n) a).v) (h2 : NE X W e' (denE (t.gl n) a').v) : NE X W (.BinOp e .Sub e' pos) (denE (t.gl n) (.bin 1 a a')).v := ⟨ce_bin h1.out h2.out op_sub ok_sub⟩
theorem n_mul {e e' : Expr} {a a' : E} {pos : Pos} (h1 : NE X W e (denE (t.gl n) a).v) (h2 : NE X W e' (denE (t.gl n) a').v) : NE X W (.BinOp e .Mult e' pos) (denE (t.gl n) (.bin 2 a a')).v := ⟨ce_bin h1.out h2.out RD.op_mulU ok_mul⟩
theorem n_fdiv {e e' : Expr} {a a' : E} {pos : Pos} (h1 : NE X W e (denE (t.gl n) a).v) (h2 : NE X W e' (denE (t.gl n) a').v) : NE X W (.BinOp e .FloorDiv e' pos) (denE (t.gl n) (.bin 3 a a')).v := ⟨ce_bin h1.out h2.out RD.op_fdU ok_fdiv⟩
theorem n_mod {e e' : Expr} {a a' : E} {pos : Pos} (h1 : NE X W e (denE (t.gl n) a).v) (h2 : NE X W e' (denE (t.gl n) a').v) : NE X W (.BinOp e .Mod e' pos) (denE (t.gl n) (.bin 4 a a')).v := ⟨ce_bin h1.out h2.out RD.op_modU ok_mod⟩
theorem n_pow {e e' : Expr} {a a' : E} {pos : Pos} (h1 : NE X W e (denE (t.gl n) a).v) (h2 : NE X W e' (denE (t.gl n) a').v) : NE X W (.BinOp e .Pow e' pos) (denE (t.gl n) (.bin 5 a a')).v := ⟨ce_bin h1.out h2.out op_pow ok_pow⟩
/-- a comparison, as a value and as a test -/
theorem n_cmp {op : CmpOp} {k : Nat} {r : R2} {e e' : Expr} {a a' : E} {pos : Pos} (hr : OpR X (compareOp op) r) (ho : OpOk X W (cmpD k) r) (h1 : NE X W e (denE (t.gl n) a).v) (h2 : NE X W e' (denE (t.gl n) a').v) (hm : behindInMarks op e' = false := by rfl) : NE X W (.Compare e [op] [e'] pos) (denE (t.gl n) (.cmp k a a')).v := ⟨(ce_cmp h1.out h2.out hr ho hm).1⟩
theorem t_cmp {op : CmpOp} {k : Nat} {r : R2} {e e' : Expr} {a a' : E} {pos : Pos} (hr : OpR X (compareOp op) r) (ho : OpOk X W (cmpD k) r) (h1 : NE X W e (denE (t.gl n) a).v) (h2 : NE X W e' (denE (t.gl n) a').v) (hm : behindInMarks op e' = false := by rfl) : NT X W (.Compare e [op] [e'] pos) (denE (t.gl n) (.cmp k a a')).b := ⟨(ce_cmp h1.out h2.out hr ho hm).2⟩
theorem o_lt : OpOk X W (cmpD 0) (rI0 fun i j => .bl (decide (i < j))) := ok_ints fun _ _ _ => rfl
theorem o_le : OpOk X W (cmpD 1) (rI0 fun i j => .bl (decide (i ≤ j))) := ok_ints fun _ _ _ => rfl
theorem o_gt : OpOk X W (cmpD 2) (rI0 fun i j => .bl (decide (j < i))) := ok_ints fun _ _ _ => rfl
theorem o_ge : OpOk X W (cmpD 3) (rI0 fun i j => .bl (decide (j ≤ i))) := ok_ints fun _ _ _ => rfl
theorem n_chn {op op' : CmpOp} {k k' : Nat} {r r' : R2} {e e' e2 : Expr} {a a' a2 : E} {pos : Pos} (hr : OpR X (compareOp op) r) (ho : OpOk X W (cmpD k) r) (hr' : OpR X (compareOp op') r') (ho' : OpOk X W (cmpD k') r') (h1 : NE X W e (denE (t.gl n) a).v) (h2 : NE X W e' (denE (t.gl n) a').v) (h3 : NE X W e2 (denE (t.gl n) a2).v) (hm : lastMarks [op, op'] [e', e2] = false := by rfl) : NE X W (.Compare e [op, op'] [e', e2] pos) (denE (t.gl n) (.chn k k' a a' a2)).v := ⟨ce_chn h1.out h2.out h3.out hr ho hr' ho' hm⟩
theorem n_one {op : BoolOp} {e : Expr} {a : E} {pos : Pos} (ha : NE X W e (denE (t.gl n) a).v) : NE X W (.BoolOp op [e] pos) (denE (t.gl n) a).v := ⟨ce_one ha.out⟩
theorem n_and {e e' : Expr} {r : List Expr} {a a' : E} {pos : Pos} (ha : NE X W e (denE (t.gl n) a).v) (hc : NE X W (.BoolOp .And (e' :: r) pos) (denE (t.gl n) a').v) : NE X W (.BoolOp .And (e :: e' :: r) pos) (denE (t.gl n) (.and a a')).v := ⟨ce_and ha.out hc.out⟩
theorem n_or {e e' : Expr} {r : List Expr} {a a' : E} {pos : Pos} (ha : NE X W e (denE (t.gl n) a).v) (hc : NE X W (.BoolOp .Or (e' :: r) pos) (denE (t.gl n) a').v) : NE X W (.BoolOp .Or (e :: e' :: r) pos) (denE (t.gl n) (.or a a')).v := ⟨ce_or ha.out hc.out⟩
theorem n_ite {c e e' : Expr} {a b b' : E} {pos : Pos} (hc : NT X W c (denE (t.gl n) a).b) (h1 : NE X W e (denE (t.gl n) b).v) (h2 : NE X W e' (denE (t.gl n) b').v) : NE X W (.IfExp c e e' pos) (denE (t.gl n) (.ite a b b')).v := ⟨ce_ite hc.out h1.out h2.out⟩
theorem n_ix {e e' : Expr} {a a' : E} {pos : Pos} (h1 : NE X W e (denE (t.gl n) a).v) (h2 : NE X W e' (denE (t.gl n) a').v) (hs : PlainIx e' := by exact fun _ _ => rfl) : NE X W (.Subscript e e' pos) (denE (t.gl n) (.ix a a')).v := ⟨ce_ix h1.out h2.out ok_ix hs⟩
theorem n_att {fld : Nat → Bool} (F : ClsF X.K W t.exc t.ins fld) {x : Str} {e : Expr} {a : E} {f : Nat} {pos : Pos} (hx : W.fl f = x) (hf : fld f = true) (he : NE X W e (denE (t.gl n) a).v) (hb : attributeBase e x X.env (eval e X.env) = eval e X.env := by rfl) : NE X W (.Attribute e x pos) (denE (t.gl n) (.att a f)).v := by
  subst hx
  exact ⟨ce_att F hf he.out hb⟩
/-- a built-in -/
theorem n_blt {x : Str} {id : String} {e : Expr} {es : List Expr} {as : E} {b : Nat} {p pos : Pos} {r : List V → Hp → VK → Prop} (hc : CallR X (.builtin id) r) (hm : X.mg x = none) (hv : bootBuiltins x = some (.builtin id)) (ho : BltOk X W (bltOp (t.gl n) b) r) (h0 : NA X W (e :: es) (denE (t.gl n) as).a) (hg : L2.Gl X x := by rfl) (hn : x ≠ "__name__" := by decide) (hdb : (x == ("__debug__" : Str)) = false := by decide)
    (he : starEach (e :: es) X.env = (false, eval e X.env) :: starEach es X.env := by rfl) (hpl : (backTo pos (starEach es X.env)).any (·.1) = false := by rfl) : NE X W (.Call (.Name x p) (e :: es) [] pos) (denE (t.gl n) (.blt b as)).v := ⟨ce_blt hc hg hm hv h0.out ho hn hdb he hpl⟩
theorem n_bltTy {x : Str} {id : String} {e : Expr} {es : List Expr} {as : E} {b : Nat} {p pos : Pos} {r : List V → Hp → VK → Prop} (hc : CallR X (.type id) r) (hm : X.mg x = none) (hv : bootBuiltins x = some (.type id)) (ho : BltOk X W (bltOp (t.gl n) b) r) (h0 : NA X W (e :: es) (denE (t.gl n) as).a) (hg : L2.Gl X x := by rfl) (hn : x ≠ "__name__" := by decide) (hdb : (x == ("__debug__" : Str)) = false := by decide)
    (he : starEach (e :: es) X.env = (false, eval e X.env) :: starEach es X.env := by rfl) (hpl : (backTo pos (starEach es X.env)).any (·.1) = false := by rfl) : NE X W (.Call (.Name x p) (e :: es) [] pos) (denE (t.gl n) (.blt b as)).v := ⟨ce_bltTy hc hg hm hv h0.out ho hn hdb he hpl⟩
theorem n_cal {f : Nat} {x : Str} {e : Expr} {es : List Expr} {as : E} {p pos : Pos} (F : FnAt X.prog X.w X.K X.mg X.base W t n f (es.length + 1) x) (rm : Rm n X.A) (h0 : NA X W (e :: es) (denE (t.gl n) as).a) (hg : L2.Gl X x := by rfl) (hdb : (x == ("__debug__" : Str)) = false := by decide)
    (he : starEach (e :: es) X.env = (false, eval e X.env) :: starEach es X.env := by rfl) (hpl : (backTo pos (starEach es X.env)).any (·.1) = false := by rfl) : NE X W (.Call (.Name x p) (e :: es) [] pos) (denE (t.gl n) (.cal f as)).v := ⟨ce_cal F rm hg h0.out hdb he hpl⟩
theorem n_cal0 {f : Nat} {x : Str} {p pos : Pos} (F : FnAt X.prog X.w X.K X.mg X.base W t n f 0 x) (rm : Rm n X.A) (hg : L2.Gl X x := by rfl) (hdb : (x == ("__debug__" : Str)) = false := by decide) : NE X W (.Call (.Name x p) [] [] pos) (denE (t.gl n) (.cal f .nil)).v := ⟨ce_cal0 F rm hg hdb⟩
/-- what must stand for _law_draw -/
structure DrawAt (P : Program) (w : World) (K : PySem.W.Frag) (mg : Str → Option Value) (base : Heap) (W : Wd) (lv : Nat) : Prop where
  n0 : 4000 ≤ W.n0
  ex : ∃ (fa : Addr) (fd : FuncData), mg "_law_draw" = some (.ref fa) ∧ PySem.W.keepIn K (.ref fa) = true ∧ FnOk P w K mg base CX0 lv fa fd ["pen", "many"] (RD.spP K R_draw) ∧ Binds K fd ["pen", "many"] []
theorem n_drw {e : Expr} {es : List Expr} {as : E} {p pos : Pos} {lv : Nat} (F : DrawAt X.prog X.w X.K X.mg X.base W lv) (rm : Room lv X.A) (h0 : NA X W (e :: es) (denE (t.gl n) as).a) (hg : L2.Gl X "_law_draw" := by rfl)
    (he : starEach (e :: es) X.env = (false, eval e X.env) :: starEach es X.env := by rfl) (hpl : (backTo pos (starEach es X.env)).any (·.1) = false := by rfl) : NE X W (.Call (.Name "_law_draw" p) (e :: es) [] pos) (denE (t.gl n) (.drw as)).v := by
  obtain ⟨fa, fd, hm, hk, F1, hb⟩ := F.ex
  exact ⟨ce_drw F.n0 hm hk F1 hb rm hg h0.out (by decide) he hpl⟩
/-- isinstance(e, T) -/
structure IsAt (X : Cx) (W : Wd) (t : Tab) (c : Nat) (T : Str) (p2 : Pos) : Prop where
  ex : ∃ (u : Value) (vc : V), TestOk X.K W t.sub t.exc t.ins t.ty c u ∧ PE X (.Name T p2) (tC vc) ∧ ClsV vc u ∧ ∀ w, RelV vc w → w = u
theorem n_isi {fld : Nat → Bool} (F : ClsF X.K W t.exc t.ins fld) {c : Nat} {e : Expr} {a : E} {T : Str} {p p2 pos : Pos} (hm : X.mg "isinstance" = none) (I : IsAt X W t c T p2) (h0 : NE X W e (denE (t.gl n) a).v) (hg : L2.Gl X "isinstance" := by rfl) (he : starEach [e, .Name T p2] X.env = (false, eval e X.env) :: starEach [.Name T p2] X.env := by rfl) (he2 : starEach [.Name T p2] X.env = (false, eval (.Name T p2) X.env) :: starEach [] X.env := by rfl) (hpl : (backTo pos (starEach [.Name T p2] X.env)).any (·.1) = false := by rfl) :
    NE X W (.Call (.Name "isinstance" p) [e, .Name T p2] [] pos) (denE (t.gl n) (.isi a [c])).v := by
  obtain ⟨u, vc, ok, hT, hv, hvu⟩ := I.ex
  exact ⟨ce_isi (g := t.gl n) F ok hm hg hT hv hvu h0.out he he2 hpl⟩
theorem n_lc {tg iter elt : Expr} {ifs : List Expr} {scope : Scope} {own' : List (Str × Nat)} {own : List Nat} {pos : Pos} {g : G} {it c el : E} {m : Bool} (own'0 : own'.map (·.2) = own) (hcm : X.calm = true) (hN : X.N.Nodup) (hi : NI X W tg iter (denE (t.gl n) it).i) (hg : AllB X scope fun Y => NG Y W tg g (· ∈ own)) (hc : NTs X W scope ifs (denE (t.gl n) c).b) (he : AllB X scope fun Y => NE Y W elt (denE (t.gl n) el).v)
    (hok : blkC X.N X.env.scope scope own' = true := by rfl) (hs : ∀ x, foldedSetIterable iter X.env x = pure x := by intro _; rfl) : NE X W (.ListComp elt [⟨tg, iter, ifs, 0⟩] scope pos) (denE (t.gl n) (.lc m own g it c el)).v := ⟨ce_lc hcm hN hi.out (fun s H C cl fp => (hg s H C cl fp).out) hc.out (fun s H C cl fp => (he s H C cl fp).out) own'0 hok hs⟩
/-! tests -/
theorem t_val {e : Expr} {a : E} (hv : (denE (t.gl n) a).b = fun r s k => (denE (t.gl n) a).v r s fun d s => opt (tru s d) fun b => k b s) (he : NE X W e (denE (t.gl n) a).v) (hp : ∀ whole, isTrue e X.env whole = (do let v ← whole; standAt e.pos; holding [v] (truthy v)) := by intro _; rfl) : NT X W e (denE (t.gl n) a).b := by
  refine ⟨?_⟩
  rw [hv]
  exact ct_val he.out hp
theorem t_isi {fld : Nat → Bool} (F : ClsF X.K W t.exc t.ins fld) {c : Nat} {e : Expr} {a : E} {T : Str} {p p2 pos : Pos} (hm : X.mg "isinstance" = none) (I : IsAt X W t c T p2) (h0 : NE X W e (denE (t.gl n) a).v) (hg : L2.Gl X "isinstance" := by rfl) (he : starEach [e, .Name T p2] X.env = (false, eval e X.env) :: starEach [.Name T p2] X.env := by rfl) (he2 : starEach [.Name T p2] X.env = (false, eval (.Name T p2) X.env) :: starEach [] X.env := by rfl) (hpl : (backTo pos (starEach [.Name T p2] X.env)).any (·.1) = false := by rfl)
    (hp : ∀ whole, isTrue (.Call (.Name "isinstance" p) [e, .Name T p2] [] pos) X.env whole = (do let v ← whole; standAt (Expr.pos (.Call (.Name "isinstance" p) [e, .Name T p2] [] pos)); holding [v] (truthy v)) := by intro _; rfl) : NT X W (.Call (.Name "isinstance" p) [e, .Name T p2] [] pos) (denE (t.gl n) (.isi a [c])).b := ⟨ct_bool (f := (denE (t.gl n) (.isi a [c])).b) (n_isi F hm I h0 hg he he2 hpl).out hp⟩
theorem t_not {e : Expr} {a : E} {pos : Pos} (ha : NT X W e (denE (t.gl n) a).b) : NT X W (.UnaryOp .Not e pos) (denE (t.gl n) (.not a)).b := ⟨ct_not ha.out⟩
theorem w_and1 {e : Expr} {a : E} {pos : Pos} (ha : NT X W e (denE (t.gl n) a).b) : NW X W (.BoolOp .And [e] pos) (denE (t.gl n) a).b := ⟨cw_and1 ha.out⟩
theorem w_or1 {e : Expr} {a : E} {pos : Pos} (ha : NT X W e (denE (t.gl n) a).b) : NW X W (.BoolOp .Or [e] pos) (denE (t.gl n) a).b := ⟨cw_or1 ha.out⟩
theorem w_and {e e' : Expr} {r : List Expr} {a a' : E} {pos : Pos} (ha : NT X W e (denE (t.gl n) a).b) (hc : NW X W (.BoolOp .And (e' :: r) pos) (denE (t.gl n) a').b) : NW X W (.BoolOp .And (e :: e' :: r) pos) (denE (t.gl n) (.and a a')).b := ⟨cw_and ha.out hc.out⟩
theorem w_or {e e' : Expr} {r : List Expr} {a a' : E} {pos : Pos} (ha : NT X W e (denE (t.gl n) a).b) (hc : NW X W (.BoolOp .Or (e' :: r) pos) (denE (t.gl n) a').b) : NW X W (.BoolOp .Or (e :: e' :: r) pos) (denE (t.gl n) (.or a a')).b := ⟨cw_or ha.out hc.out⟩
theorem t_w {e : Expr} {a : E} (h0 : NW X W e (denE (t.gl n) a).b) : NT X W e (denE (t.gl n) a).b := ⟨ct_w h0.out⟩
theorem ts_nil {scope : Scope} : NTs X W scope [] (denE (t.gl n) .one).b := ⟨rfl⟩
theorem ts_one {scope : Scope} {e : Expr} {a : E} (h : AllB X scope fun Y => NT Y W e (denE (t.gl n) a).b) : NTs X W scope [e] (denE (t.gl n) a).b := ⟨(fun s H C cl fp => (h s H C cl fp).out)⟩
/-! what is walked -/
theorem i_sq {tg e : Expr} {a : E} (he : NE X W e (denE (t.gl n) a).v) : NI X W tg e (denE (t.gl n) (.sq a)).i := ⟨ci_sq he.out⟩
theorem i_rng1 {tg e : Expr} {as : E} {p pos : Pos} (hm : X.mg "range" = none) (h0 : NA X W [e] (denE (t.gl n) as).a) (hg : L2.Gl X "range" := by rfl) (hs : starEach [e] X.env = [(false, eval e X.env)] := by rfl) : NI X W tg (.Call (.Name "range" p) [e] [] pos) (denE (t.gl n) (.rng as)).i := ⟨ci_rng1 hm hg h0.out hs⟩
theorem i_rng2 {tg e e' : Expr} {as : E} {p pos : Pos} (hm : X.mg "range" = none) (h0 : NA X W [e, e'] (denE (t.gl n) as).a) (hg : L2.Gl X "range" := by rfl) (hs : starEach [e, e'] X.env = [(false, eval e X.env), (false, eval e' X.env)] := by rfl) (hs2 : starEach [e'] X.env = [(false, eval e' X.env)] := by rfl) : NI X W tg (.Call (.Name "range" p) [e, e'] [] pos) (denE (t.gl n) (.rng as)).i := ⟨ci_rng2 hm hg h0.out hs hs2⟩
/-! targets -/
theorem g_nm {i : Nat} {x : Str} {pos : Pos} {V_ : Nat → Prop} (hN : X.N.Nodup) (hv : V_ i) (hi : X.N[i]? = some x := by rfl) (hx : Loc X.env.scope x := by first | exact Or.inl rfl | exact Or.inr rfl) (hf : X.fn x = true ∨ X.env.scope.names.lookup x = some .local := by first | exact Or.inl rfl | exact Or.inr rfl) : NG X W (.Name x pos) (.nm i) V_ := ⟨cg_name hN hi hx hf hv⟩
/-! statements -/
theorem s_nil : NB X W [] (denB (t.gl n) .nil) := ⟨cb_nil⟩
theorem s_exp {e : Expr} {sts : List Stmt} {a : E} {r : B} {pos : Pos} (he : NE X W e (denE (t.gl n) a).v) (hr : NB X W sts (denB (t.gl n) r)) (hs : swapsWith e none pos.line X.env = pure false := by rfl) : NB X W (.Expr e pos :: sts) (denB (t.gl n) (.exp a r)) := ⟨cb_exp he.out hr.out hs⟩
theorem s_ret {e : Expr} {sts : List Stmt} {a : E} {pos : Pos} (he : NE X W e (denE (t.gl n) a).v) : NB X W (.Return (some e) pos :: sts) (denB (t.gl n) (.ret a)) := ⟨cb_ret he.out⟩
theorem s_retN {sts : List Stmt} {pos : Pos} : NB X W (.Return none pos :: sts) (denB (t.gl n) (.ret (.cst .non))) := ⟨cb_retN⟩
theorem s_brk {sts : List Stmt} {pos : Pos} : NB X W (.Break pos :: sts) (denB (t.gl n) .brk) := ⟨cb_brk⟩
theorem s_cnt {sts : List Stmt} {pos : Pos} : NB X W (.Continue pos :: sts) (denB (t.gl n) .cnt) := ⟨cb_cnt⟩
theorem s_pass {sts : List Stmt} {r : B} {pos : Pos} (hr : NB X W sts (denB (t.gl n) r)) : NB X W (.Pass pos :: sts) (denB (t.gl n) r) := ⟨cb_pass hr.out⟩
theorem s_ite {c : Expr} {body orelse sts : List Stmt} {a : E} {b b' r : B} {pos : Pos} (hc : NT X W c (denE (t.gl n) a).b) (ht : NB X W body (denB (t.gl n) b)) (hf : NB X W orelse (denB (t.gl n) b')) (hr : NB X W sts (denB (t.gl n) r)) : NB X W (.If c body orelse pos :: sts) (denB (t.gl n) (.ite a b b' r)) := ⟨cb_ite hc.out ht.out hf.out hr.out⟩
theorem s_set {x : Str} {i : Nat} {e : Expr} {sts : List Stmt} {a : E} {r : B} {pos' pos : Pos} (hN : X.N.Nodup) (he : NE X W e (denE (t.gl n) a).v) (hr : NB X W sts (denB (t.gl n) r)) (hi : X.N[i]? = some x := by rfl) (hx : Loc X.env.scope x := by first | exact Or.inl rfl | exact Or.inr rfl) (hf : X.fn x = true ∨ X.env.scope.names.lookup x = some .local := by first | exact Or.inl rfl | exact Or.inr rfl) (hs : swapsWith e (some (.Name x pos')) pos.line X.env = pure false := by rfl) :
    NB X W (.Assign [.Name x pos'] e pos :: sts) (denB (t.gl n) (.asg (.nm i) a r)) := ⟨cb_set hN hi hx hf he.out hr.out hs⟩
theorem s_par2 {x y : Str} {i j : Nat} {a c : Expr} {sts : List Stmt} {as : E} {r : B} {px py pt pos : Pos} {kt k2 : Nat} {pt2 : Pos} (hc : X.calm = true) (hN : X.N.Nodup) (h0 : NA X W [a, c] (denE (t.gl n) as).a) (hr : NB X W sts (denB (t.gl n) r)) (hi : X.N[i]? = some x := by rfl) (hj : X.N[j]? = some y := by rfl) (hij : i ≠ j := by decide) (hx : X.env.scope.names.lookup x = some .local := by rfl) (hy : X.env.scope.names.lookup y = some .local := by rfl)
    (hw : swappedStores [.Tuple [.Name x px, .Name y py] kt pt] (.Tuple [a, c] k2 pt2) X.env = pure (some [x, y]) := by rfl) (hs : swapsWithSole [.Tuple [.Name x px, .Name y py] kt pt] (.Tuple [a, c] k2 pt2) pos.line X.env = pure false := by rfl) :
    NB X W (.Assign [.Tuple [.Name x px, .Name y py] kt pt] (.Tuple [a, c] k2 pt2) pos :: sts) (denB (t.gl n) (.par [i, j] as r)) := ⟨cb_par2 hc hN hi hj hij hx hy h0.out hr.out hw hs⟩
theorem s_par3 {x y z : Str} {i j l : Nat} {a c d : Expr} {sts : List Stmt} {as : E} {r : B} {px py pz pt pos : Pos} {kt k2 : Nat} {pt2 : Pos} (hc : X.calm = true) (hN : X.N.Nodup) (h0 : NA X W [a, c, d] (denE (t.gl n) as).a) (hr : NB X W sts (denB (t.gl n) r)) (hi : X.N[i]? = some x := by rfl) (hj : X.N[j]? = some y := by rfl) (hl : X.N[l]? = some z := by rfl) (hij : i ≠ j := by decide) (hil : i ≠ l := by decide) (hjl : j ≠ l := by decide) (hx : X.env.scope.names.lookup x = some .local := by rfl) (hy : X.env.scope.names.lookup y = some .local := by rfl) (hz : X.env.scope.names.lookup z = some .local := by rfl)
    (hw : swappedStores [.Tuple [.Name x px, .Name y py, .Name z pz] kt pt] (.Tuple [a, c, d] k2 pt2) X.env = pure (some [x, y, z]) := by rfl) (hs : swapsWithSole [.Tuple [.Name x px, .Name y py, .Name z pz] kt pt] (.Tuple [a, c, d] k2 pt2) pos.line X.env = pure false := by rfl) :
    NB X W (.Assign [.Tuple [.Name x px, .Name y py, .Name z pz] kt pt] (.Tuple [a, c, d] k2 pt2) pos :: sts) (denB (t.gl n) (.par [i, j, l] as r)) := ⟨cb_par3 hc hN hi hj hl hij hil hjl hx hy hz h0.out hr.out hw hs⟩
theorem s_for {tg iter : Expr} {g : G} {V_ : Nat → Prop} {body sts : List Stmt} {it : E} {b r : B} {pos : Pos} (hcm : X.calm = true) (hp : PassesOwn (model X.prog X.w) X.A X.env X.xe) (hi : NI X W tg iter (denE (t.gl n) it).i) (hg : NG X W tg g V_) (hb : NB X W body (denB (t.gl n) b)) (hr : NB X W sts (denB (t.gl n) r)) (hs : ∀ x, foldedSetIterable iter X.env x = pure x := by intro _; rfl) : NB X W (.For tg iter body [] pos :: sts) (denB (t.gl n) (.for_ g it b r)) := ⟨cb_for hcm hp hi.out hg.out hb.out hr.out hs⟩
theorem s_rse {c : Nat} {fs : List Nat} {mk : Expr} {es : List Expr} {sts : List Stmt} {as : E} {pos : Pos} (hcm : X.calm = true) (rp : NR X W c fs (canA X es) mk) (h0 : NA X W es (denE (t.gl n) as).a) : NB X W (.Raise (some mk) none pos :: sts) (denB (t.gl n) (.rse c fs as)) := ⟨cb_rse hcm h0.out rp.out⟩
theorem s_rseK {c : Nat} {fs : List Nat} {mk : Expr} {es : List Keyword} {sts : List Stmt} {as : E} {pos : Pos} (hcm : X.calm = true) (rp : NR X W c fs (canK X es) mk) (h0 : NK X W es (denE (t.gl n) as).a) : NB X W (.Raise (some mk) none pos :: sts) (denB (t.gl n) (.rse c fs as)) := ⟨cb_rseK hcm h0.out rp.out⟩
theorem k_nil : NK X W [] (denE (t.gl n) .nil).a := ⟨ck_nil⟩
theorem k_cons {nm : Option Str} {e : Expr} {kp : Pos} {es : List Keyword} {a as : E} (he : NE X W e (denE (t.gl n) a).v) (hes : NK X W es (denE (t.gl n) as).a) : NK X W (⟨nm, e, kp⟩ :: es) (denE (t.gl n) (.cons a as)).a := ⟨ck_cons he.out hes.out⟩
theorem s_try0 {c i j : Nat} {x n' y : Str} {e : Expr} {sts : List Stmt} {a : E} {r : B} {np pos pos' p1 p2 ps pe : Pos} (O : TryOk X W t.sub c i j x n' y) (he : ∀ pn xe, NE (X.tr pn xe) W e (denE (t.gl n) a).v) (hr : NB X W sts (denB (t.gl n) r)) (hsw : swapsWith e none pe.line X.env = pure false := by rfl) :
    NB X W (.Try [.Expr e pe] [.ExceptHandler (some (.Name x np)) (some n') [.Assign [.Name y p1] (.Name n' p2) ps] pos'] [] [] pos :: sts) (denB (t.gl n) (.tryE 0 0 a c i j r)) := ⟨cb_try0 O (fun pn xe => (he pn xe).out) hr.out hsw⟩
theorem TK.none (b : St3) : TK X W b fun _ _ _ => False := ⟨fun _ _ _ _ => False, fun e s x => by
  obtain ⟨_, _, _, _, _, _, _, _, _, _, _, _, _, _, _, _, f⟩ := x
  exact f.elim, fun σ cls d H' w => by
  obtain ⟨_, _, _, _, _, _, _, _, f, _⟩ := w
  exact f⟩
theorem fn_evN {K : PySem.W.Frag} {P : Program} {w : World} {mg : Str → Option Value} {base : Heap} {t : Tab} {n f : Nat} {fa : Addr} {fd : FuncData} {x qual : Str} {params : Arguments} {body : List Stmt} {scope : Scope} {dvs : List V} {kws : List (Str × V)} {N ps : List Str} {F : Fun} (FD : FunD K x qual params body scope dvs kws fa fd) (SC : FnScope N ps scope)
    (hF : t.fn f = some F) (hnp : F.np = ps.length) (hns : F.ns = N.length) (hdl : F.dfl.length ≤ F.np)
    (hb : ∀ cdv A outer s H E, Rm n (A.deeper (envOfC qual scope s.heap.objs.size fa cdv)) → NB (cxOf (L2.CX P w) P w K mg base N qual scope fa cdv A outer s H E) W body (denB (t.gl n) F.body)) : Fn P w K mg base (L2.CX P w) (n + 1) fa fd ps (spEV K W t (n + 1) f) := fn_ev FD SC hF hnp hns hdl fun cdv A outer s H E rm => (hb cdv A outer s H E rm).out
theorem NB.run {sts : List Stmt} {f : Rho → S → Kn → T} (h : NB X W sts f) (b : St3) (φ : Ad) (ρ : Rho) (s : S) (σ : L2.St) (H : Hp) (k : Kn) (P : Out → S → Prop) (Ef : Nat → List (Nat × D) → S → Prop) (E : Ends) (h1 : Here X W b φ ρ s σ H) (h2 : TK X W b Ef) (h3 : Good P Ef (f ρ s k)) (h4 : Fit X W b P Ef k E) : RD.canSs X sts E σ H := h.out b φ ρ s σ H k P Ef E h1 h2 h3 h4
theorem no_good {P : Out → S → Prop} {Ef : Nat → List (Nat × D) → S → Prop} (g : Good P Ef .no) : False := g
theorem ok_good {P : Out → S → Prop} {Ef : Nat → List (Nat × D) → S → Prop} {o : Out} {s : S} (g : Good P Ef (.ok o s)) : P o s := g
end
end EV

/-! EV14: a loop that forgets what its turns have made; the law's first statement. -/
namespace EV
open PySem PySem.Spec PyProof.Rows L2
open RD (canE canT canW canA canK canS canSs canG canGs canI PenAt KT ExK pcan tcan wcan acan scan sscan gcan gscan kcan icanL Rm Fn Blk tIfs pts_any)
/-- a slot names no cell from m on -/
def slotB (m : Nat) : Option D → Bool
  | none => true
  | some d => below m d
/-- the slots is are forgotten; then, if no one names them, the cells from m on -/
def fgt (is : List Nat) (m : Nat) (r : Rho) (s : S) : Rho × S :=
  if (wipeR is r).all (slotB m) && (s.cells.take m).all (belowC m) then (wipeR is r, ⟨s.cells.take m, s.mw, s.fb, s.lk⟩) else (wipeR is r, s)
/-- a loop that forgets behind each turn -/
noncomputable def loopK (is : List Nat) (m : Nat) (g : G) (body : Rho → S → Kn → T) (xs : List D) : Rho → S → T :=
  List.rec (motive := fun _ => Rho → S → T) (fun r s => .ok (.nx r) s)
    (fun x _ ih r s => T.bind (asg g x r fun r => body r s k0) fun o s => match o with
      | .nx r => ih (fgt is m r s).1 (fgt is m r s).2
      | .ct r => ih (fgt is m r s).1 (fgt is m r s).2
      | .bk r => .ok (.nx r) s
      | o => .ok o s) xs
section
variable {X : Cx} {W : Wd}
theorem paired_none {K : PySem.W.Frag} {φ : Ad} {H : Hp} : ∀ {ρ : Rho} {σ : L2.St} (i : Nat), Paired (SlotR K W φ H) ρ σ → Paired (SlotR K W φ H) (ρ.set i none) σ
  | _, _, _, .nil => .nil
  | _, _, 0, .cons r t => .cons trivial t
  | _, _, i + 1, .cons r t => .cons r (paired_none i t)
theorem paired_wipe1 {K : PySem.W.Frag} {φ : Ad} {H : Hp} {ρ : Rho} {σ : L2.St} (h : Paired (SlotR K W φ H) ρ σ) : ∀ is : List Nat, Paired (SlotR K W φ H) (wipeR is ρ) σ
  | [] => h
  | i :: is => paired_none i (paired_wipe1 h is)
theorem paired_cut {K : PySem.W.Frag} {φ ψ : Ad} {H : Hp} {m : Nat} (c : Cut φ ψ m) : ∀ {ρ : Rho} {σ : L2.St}, Paired (SlotR K W ψ H) ρ σ → ρ.all (slotB m) = true → Paired (SlotR K W φ H) ρ σ
  | _, _, .nil, _ => .nil
  | _, _, .cons (a := o) (b := v) r t, h => by
    have h' := Bool.and_eq_true_iff.mp h
    refine .cons ?_ (paired_cut c t h'.2)
    cases o with
    | none => trivial
    | some d =>
      cases v with
      | none => exact r.elim
      | some v => exact rep_cut c d r h'.1
theorem Here.fgt {b : St3} {φ : Ad} {ρ : Rho} {s : S} {σ : L2.St} {H : Hp} {m : Nat} (h : Here X W b φ ρ s σ H) (is : List Nat) (hm : b.s.cells.length = m) : ∃ φ', Here X W b φ' (EV.fgt is m ρ s).1 (EV.fgt is m ρ s).2 σ H := by
  subst hm
  unfold EV.fgt
  by_cases hz : ((wipeR is ρ).all (slotB b.s.cells.length) && (s.cells.take b.s.cells.length).all (belowC b.s.cells.length)) = true
  · rw [if_pos hz]
    have hz' := Bool.and_eq_true_iff.mp hz
    have st0 := h.b0
    have st := h.st
    have u := h.up
    have c : Cut b.φ φ b.s.cells.length := cut_pre st0.len u.kp.pre u.ge
    have hlen : b.s.cells.length ≤ s.cells.length := Up.len (a := b) (b := ⟨φ, s, H⟩) u.kp st0 st
    have tk : ∀ {i : Nat} {x : Cell}, i < b.s.cells.length → (s.cells.take b.s.cells.length)[i]? = some x → s.cells[i]? = some x := fun hi e => by
      rwa [List.getElem?_take_of_lt hi] at e
    refine ⟨b.φ, ⟨?_, st0.nd, fun i x a h1 h2 => ?_, fun a ha => ?_, st0.ng⟩, paired_cut c (paired_wipe1 h.sl is) hz'.1, ⟨⟨fun _ _ e => e, fun a o m e => ⟨(u.kp.keep a o m e).1, m⟩⟩, rfl, u.gk, u.fb, u.lk, u.mw, fun i x x' h1 h2 e e' => ?_, fun i x hi e => ?_⟩, st0⟩
    · show b.φ.l.length = (s.cells.take b.s.cells.length).length
      rw [List.length_take, st0.len]; omega
    · have hi : i < b.s.cells.length := by rw [← st0.len]; exact (List.getElem?_eq_some_iff.mp h2).1
      have h1 : (s.cells.take b.s.cells.length)[i]? = some x := h1
      refine cell_cut c (st.at_ i x a (tk hi h1) ((c.get hi).symm.trans h2)) ?_
      exact List.all_eq_true.mp hz'.2 x (List.mem_of_getElem? h1)
    · exact st.gh a (by rw [u.ge]; exact ha)
    · have hi : i < b.s.cells.length := (List.getElem?_eq_some_iff.mp e).1
      exact u.wr i x x' h1 h2 e (tk hi e')
    · have hi2 : i < b.s.cells.length := (List.getElem?_eq_some_iff.mp e).1
      show (s.cells.take b.s.cells.length)[i]? = some x
      rw [List.getElem?_take_of_lt hi2]
      exact u.lkd i x hi e
  · rw [if_neg hz]
    exact ⟨φ, h.st, paired_wipe1 h.sl is, h.up, h.b0⟩
theorem cb_forK (is : List Nat) {tg iter : Expr} {tgt : G} {V_ : Nat → Prop} {body sts : List Stmt} {fi : Rho → S → (List D → List Nat → S → T) → T} {fb fr : Rho → S → Kn → T} {pos : Pos} (hcm : X.calm = true) (hp : PassesOwn (model X.prog X.w) X.A X.env X.xe) (hi : CI X W tg iter fi) (hg : CG X W tg tgt V_) (hb : CB X W body fb) (hr : CB X W sts fr) (hs : ∀ x, foldedSetIterable iter X.env x = pure x) :
    CB X W (.For tg iter body [] pos :: sts) fun r s k => fi r s fun xs ls s => T.bindX (loopK is s.cells.length tgt fb xs r ⟨s.cells, s.mw, s.fb, ls ++ s.lk⟩) (fun o s' => Kn.on ⟨fun r s => fr r s k, k.bk, k.ct, k.rt⟩ o ⟨s'.cells, s'.mw, s'.fb, s.lk⟩) fun c fs s' => .ex c fs ⟨s'.cells, s'.mw, s'.fb, s.lk⟩ := by
  intro b φ ρ s σ H k P Ef E h tk g f
  refine st_first (canS.of (ps_for hp hcm icanL gcan sscan hs) ?_)
  refine hi b φ ρ s σ H _ P Ef _ h (tk.xp σ) g fun φ1 ds ls s1 H1 Jt h1 u1 src g1 => ?_
  have g2 := good_bindX.mp g1
  let sL : S := ⟨s1.cells, s1.mw, s1.fb, ls ++ s1.lk⟩
  let b1 : St3 := ⟨φ1, sL, H1⟩
  have stL : State X.K W φ1 sL H1 := st_lk h1.st _
  let P1 : Out → S → Prop := fun o s' => Good P Ef (Kn.on ⟨fun r s => fr r s k, k.bk, k.ct, k.rt⟩ o ⟨s'.cells, s'.mw, s'.fb, s1.lk⟩)
  let E1 : Nat → List (Nat × D) → S → Prop := fun c fs s' => Good P Ef (.ex c fs ⟨s'.cells, s'.mw, s'.fb, s1.lk⟩)
  -- back to the outer base
  have back : ∀ {φ' : Ad} {s' : S} {H' : Hp}, Up b1 ⟨φ', s', H'⟩ → Up b ⟨φ', ⟨s'.cells, s'.mw, s'.fb, s1.lk⟩, H'⟩ := fun u => Up.trans (b := ⟨φ1, s1, H1⟩) h1.st h1.up (up_unlk (ls := ls) u) h1.b0
  have tk1 : TK X W b1 E1 := by
    obtain ⟨V, tk, hw⟩ := tk
    refine ⟨V, tk, fun σ cls d H' w => hw σ cls d H' ?_⟩
    obtain ⟨c, fs, φ', s', dx, vs, h1', h2', h3', h4', h5', h6', h7', h8'⟩ := w
    exact ⟨c, fs, φ', ⟨s'.cells, s'.mw, s'.fb, s1.lk⟩, dx, vs, h1', h2', h3', st_lk h4' _, back h5', h6', h7', h8'⟩
  have here_back : ∀ {φ' : Ad} {ρ' : Rho} {s' : S} {σ' : L2.St} {H' : Hp}, Here X W b1 φ' ρ' s' σ' H' → Here X W b φ' ρ' ⟨s'.cells, s'.mw, s'.fb, s1.lk⟩ σ' H' := fun h => ⟨st_lk h.st _, h.sl, back h.up, h1.b0⟩
  have nx1 : ∀ {φ' : Ad} {ρ' : Rho} {s' : S} {σ' : L2.St} {H' : Hp}, Here X W b1 φ' ρ' s' σ' H' → P1 (.nx ρ') s' → canSs X sts E σ' H' := fun h g => hr b _ _ _ _ _ k P Ef E (here_back h) tk g f
  refine ⟨fun i n σ H => n = ds.length - i ∧ i ≤ ds.length ∧ ∃ φ2 ρ2 s2, Here X W b1 φ2 ρ2 s2 σ H ∧ Good P1 E1 (loopK is s1.cells.length tgt fb (ds.drop i) ρ2 s2), ⟨ds.length, by simp, Nat.zero_le _, φ1, ρ, sL, ⟨stL, h1.sl, .refl _, stL⟩, g2⟩, ?_⟩
  rintro i n σ2 H2 ⟨rfl, hi2, φ2, ρ2, s2, h2, g3⟩
  obtain ⟨go, stop, yld⟩ := src φ2 s2 H2 h2.st h2.up.kp fun j c hj e => h2.up.lkd j c (List.mem_append_left _ hj) e
  by_cases hlt : i < ds.length
  · refine .inr ⟨go i hlt, fun σ H => ∃ φ2 ρ2 s2, Here X W b1 φ2 ρ2 s2 σ H ∧ Good P1 E1 (loopK is s1.cells.length tgt fb (ds.drop (i + 1)) ρ2 s2), fun σ' H' ⟨a1, a2, a3, a4, a5⟩ => ⟨ds.length - (i + 1), by omega, rfl, hlt, a1, a2, a3, a4, a5⟩, fun x H3 y => ?_⟩
    have hd : ds[i]? = some ds[i] := List.getElem?_eq_getElem hlt
    obtain ⟨z, rx⟩ := yld i _ x H3 hd y
    have h3 : Here X W b1 φ2 ρ2 s2 σ2 H3 := by
      rcases z with rfl | ⟨T, o, hT, rfl⟩
      · exact h2
      · exact h2.alloc hT
    rw [List.drop_eq_getElem_cons hlt] at g3
    have g4 := good_bind.mp (show Good P1 E1 (T.bind (asg tgt ds[i] ρ2 fun r => fb r s2 k0) fun o s => match o with
      | .nx r => loopK is s1.cells.length tgt fb (ds.drop (i + 1)) (fgt is s1.cells.length r s).1 (fgt is s1.cells.length r s).2
      | .ct r => loopK is s1.cells.length tgt fb (ds.drop (i + 1)) (fgt is s1.cells.length r s).1 (fgt is s1.cells.length r s).2
      | .bk r => .ok (.nx r) s
      | o => .ok o s) from g3)
    refine hg b1 φ2 ρ2 s2 σ2 H3 _ _ _ x ds[i] _ h3 rx g4 fun ρ4 σ4 h4 _ _ g5 => ?_
    refine hb b1 φ2 ρ4 s2 σ4 H3 k0 _ E1 _ h4 tk1 g5 ⟨fun φ ρ s σ H h g => let ⟨φ', h'⟩ := h.fgt is rfl; ⟨φ', _, _, h', g⟩, fun φ ρ s σ H h g => nx1 h g, fun φ ρ s σ H h g => let ⟨φ', h'⟩ := h.fgt is rfl; ⟨φ', _, _, h', g⟩, fun φ s H d v st u r g => f.rt φ _ H d v (st_lk st _) (back u) r g⟩
  · have e : i = ds.length := by omega
    subst e
    rw [List.drop_length] at g3
    exact .inl ⟨stop, nx1 h2 g3⟩
theorem s_forK (is : List Nat) {t : Tab} {n : Nat} {tg iter : Expr} {g : G} {V_ : Nat → Prop} {body sts : List Stmt} {it : E} {b r : B} {pos : Pos} (hcm : X.calm = true) (hp : PassesOwn (model X.prog X.w) X.A X.env X.xe) (hi : NI X W tg iter (denE (t.gl n) it).i) (hg : NG X W tg g V_) (hb : NB X W body (denB (t.gl n) b)) (hr : NB X W sts (denB (t.gl n) r)) (hs : ∀ x, foldedSetIterable iter X.env x = pure x) :
    NB X W (.For tg iter body [] pos :: sts) fun r' s k => (denE (t.gl n) it).i r' s fun xs ls s => T.bindX (loopK is s.cells.length g (denB (t.gl n) b) xs r' ⟨s.cells, s.mw, s.fb, ls ++ s.lk⟩) (fun o s' => Kn.on ⟨fun r' s => denB (t.gl n) r r' s k, k.bk, k.ct, k.rt⟩ o ⟨s'.cells, s'.mw, s'.fb, s.lk⟩) fun c fs s' => .ex c fs ⟨s'.cells, s'.mw, s'.fb, s.lk⟩ :=
  ⟨cb_forK is hcm hp hi.out hg.out hb.out hr.out hs⟩
/-- loops by what holds between their turns -/
theorem good_loopK {is : List Nat} {m : Nat} {g : G} {body : Rho → S → Kn → T} {P : Out → S → Prop} {Ef : Nat → List (Nat × D) → S → Prop} (I : Nat → Rho → S → Prop) : ∀ (xs : List D) (j : Nat) {r : Rho} {s : S}, I j r s →
    (∀ (i : Nat) (x : D) (r : Rho) (s : S), xs[i]? = some x → I (j + i) r s → Good (fun o s => match o with
      | .nx r => I (j + i + 1) (fgt is m r s).1 (fgt is m r s).2
      | .ct r => I (j + i + 1) (fgt is m r s).1 (fgt is m r s).2
      | .bk r => P (.nx r) s
      | o => P o s) Ef (asg g x r fun r => body r s k0)) → (∀ r s, I (j + xs.length) r s → P (.nx r) s) → Good P Ef (loopK is m g body xs r s)
  | [], j, r, s, h, _, hend => hend r s h
  | x :: xs, j, r, s, h, hb, hend => by
    refine good_bind.mpr (Good.mono (fun o s q => ?_) (fun _ _ _ q => q) (hb 0 x r s rfl h))
    have go : ∀ {r : Rho} {s : S}, I (j + 0 + 1) r s → Good P Ef (loopK is m g body xs r s) := fun {r s} h => by
      refine good_loopK I xs (j + 1) h (fun i x r s e hI => ?_) fun r s hI => ?_
      · have e1 : j + 1 + i = j + (i + 1) := by omega
        rw [e1] at hI ⊢
        exact hb (i + 1) x r s (by simpa using e) hI
      · refine hend r s ?_
        rw [List.length_cons, show j + (xs.length + 1) = j + 1 + xs.length by omega]
        exact hI
    cases o with
    | nx r => exact go q
    | ct r => exact go q
    | bk r => exact q
    | v d => exact q
    | ds d => exact q
/-- the law behind the pen's making -/
theorem law_startE {rest : List Stmt} {D : Ends} {H : Hp} {m : Nat} {N : List Str} {a : Addr} {ns : List Int} (hn0 : W.n0 = 1000000) (hN : N.length = m + 2) (hS : SqL X.K H a (ns.map V.int)) (hlen : ns.length ≤ 63) (hbits : ∀ z ∈ ns, z.natAbs < 2 ^ 1048576)
    (hrest : ∀ (b : St3) (σ : L2.St), b.s = ⟨[.pen 0], big, 0, []⟩ → Here X W b b.φ (none :: some (.cel 0) :: List.replicate m none) b.s σ b.H → canSs X rest D σ b.H) :
    tSeq (tAsg (tCall (RD.spPen X.K) [] E0 (tCons (tVar 0) tNil)) (gName 1)) (canSs X rest) D (L2.start N [.ref a]) H := by
  refine ⟨.ref a, ?_, a, ns, rfl, hS, hlen, hbits, fun p c H' old hp hc hpc pen => ?_⟩
  · rfl
  · obtain ⟨at_, rst, cs, e1, e2, r⟩ := pen
    have hs : (L2.start N [.ref a]).set 1 (some (.ref p)) = some (.ref a) :: some (.ref p) :: List.replicate m none := by
      unfold L2.start
      rw [hN]
      rfl
    show canSs X rest D ((L2.start N [.ref a]).set 1 (some (.ref p))) H'
    rw [hs]
    let φ : Ad := ⟨[p], fun _ => False⟩
    have st : State X.K W φ ⟨[.pen 0], big, 0, []⟩ H' := by
      refine ⟨rfl, List.nodup_cons.mpr ⟨List.not_mem_nil, List.nodup_nil⟩, fun i x y h1 h2 => ?_, fun _ f => f.elim, fun _ f => f.elim⟩
      cases i with
      | zero =>
        cases h1; cases h2
        refine ⟨Nat.zero_le _, c, fun z => ?_, at_, rst, cs, e1, e2, ?_⟩
        · rcases z with z | z
          · exact hpc (List.mem_singleton.mp z).symm
          · exact z
        · rw [hn0]; exact r
      | succ i => cases h1
    have pn : ∀ m : Nat, Paired (SlotR X.K W φ H') (List.replicate m none) (List.replicate m none) := by
      intro m
      induction m with
      | zero => exact .nil
      | succ m ih => exact .cons trivial ih
    exact hrest ⟨φ, ⟨[.pen 0], big, 0, []⟩, H'⟩ _ rfl ⟨st, .cons trivial (.cons (.cel rfl) (pn m)), .refl _, st⟩
end
end EV

/-! EV15: own exceptions, raised: one field, two fields, by place and by keyword. -/
namespace EV
open PySem PySem.Spec PyProof.Rows L2
open RD (canE canT canW canA canK canS canSs canG canGs canI PenAt KT ExK pcan tcan wcan acan scan sscan gcan gscan kcan icanL Rm Fn Blk tIfs pts_any spI1 spI2 mk1 mk2)
section
variable {X : Cx} {W : Wd}
theorem canA_mono {es : List Expr} {σ : L2.St} {H : Hp} {Q Q' : List V → Hp → Prop} (h : canA X es σ H Q) (m : ∀ vs H, Q vs H → Q' vs H) : canA X es σ H Q' := fun pos pins s I => wpAny_mono (h pos pins s I) (fun us s' ⟨vs, H', I', r, q⟩ => ⟨vs, H', I', r, m _ _ q⟩) fun _ _ e => e
theorem canK_mono {es : List Keyword} {σ : L2.St} {H : Hp} {Q Q' : List V → Hp → Prop} (h : canK X es σ H Q) (m : ∀ vs H, Q vs H → Q' vs H) : canK X es σ H Q' := fun pos pins s I => wpAny_mono (h pos pins s I) (fun us s' ⟨vs, H', I', r, q⟩ => ⟨vs, H', I', r, m _ _ q⟩) fun _ _ e => e
/-- what stands for an own exception's class -/
structure ErrOk (P : Program) (w : World) (K : PySem.W.Frag) (mg : Str → Option Value) (base : Heap) (C fI : Addr) (nm : Str) (fd : FuncData) (ps : List Str) (sp : Sp) : Prop where
  oex : OexC K C
  iC : PySem.W.findIn K (.ref C) "__init__" = some (some (.ref fI))
  tI : PySem.W.typeIn K (.ref fI) = some (.type "function")
  F : ∀ k, FnOk P w K mg base CX0 (k + 1) fI fd ps sp
  b : Binds K fd ps []
  m : mg nm = some (.ref C)
theorem rsp1 {c f : Nat} {fI : Addr} {nm : Str} {fd : FuncData} {ps : List Str} {e : Expr} {p pos : Pos} (T : ErrOk X.prog X.w X.K X.mg X.base (W.C c) fI nm fd ps (spI1 (W.C c) (W.fl f))) (hr : Room 2 X.A) (hg : L2.Gl X nm := by rfl)
    (hdb : (nm == ("__debug__" : Str)) = false := by decide) (he : starEach [e] X.env = (false, eval e X.env) :: starEach [] X.env := by rfl) : RsP X W c [f] (canA X [e]) (.Call (.Name nm p) [e] [] pos) := by
  intro pins s σ H Q I h
  refine pmk_oex T.oex T.iC T.tI (T.F 0) hr T.b .nil pass0 hg T.m acan hdb he rfl pins s σ H Q I ?_
  refine canA_mono h fun vs H1 q => ?_
  obtain ⟨l, q⟩ := q
  match vs, l, q with
  | [y], _, q =>
    refine ⟨by simp, fun a ha => mk1 (fun dx hdx => q dx _ hdx fun i f' y' e1 e2 => ?_) a ha⟩
    match i, e1, e2 with
    | 0, e1, e2 =>
      cases e1; cases e2
      simp [List.lookup]
theorem rsp1k {c f : Nat} {fI : Addr} {nm : Str} {fd : FuncData} {ps : List Str} {kws : List Keyword} {ks : List Str} {g : List Value → List Value → List Value} {gV : List V → List V → List V} {p pos : Pos} (T : ErrOk X.prog X.w X.K X.mg X.base (W.C c) fI nm fd ps (spI1 (W.C c) (W.fl f))) (hr : Room 2 X.A) (hb : KBn X.K fd ps 1 ks g gV) (hl : ks.length = 1) (hgV : ∀ a y, gV [.ref a] [y] = [.ref a, y]) (hg : L2.Gl X nm := by rfl)
    (hall : (backToKw pos (keywordEach kws X.env)).all (·.1.isSome) = true := by rfl) (hks : (backToKw pos (keywordEach kws X.env)).filterMap (·.1) = ks := by rfl) (hdb : (nm == ("__debug__" : Str)) = false := by decide)
    (hpl : ((backTo pos (starEach [] X.env)).any (·.1) || (backToKw pos (keywordEach kws X.env)).any (·.1.isNone)) = false := by rfl) : RsP X W c [f] (canK X kws) (.Call (.Name nm p) [] kws pos) := by
  intro pins s σ H Q I h
  refine RD.pmk_oexK T.oex T.iC T.tI (T.F 0) hr hb pass0 hg T.m kcan hall hks hdb hpl pins s σ H Q I ?_
  refine canK_mono h fun vs H1 q => ?_
  obtain ⟨l, q⟩ := q
  match vs, l, q with
  | [y], _, q =>
    refine ⟨hl.symm, fun a ha => ?_⟩
    rw [hgV]
    refine mk1 (fun dx hdx => q dx _ hdx fun i f' y' e1 e2 => ?_) a ha
    match i, e1, e2 with
    | 0, e1, e2 =>
      cases e1; cases e2
      simp [List.lookup]
theorem rsp2 {c f f2 : Nat} {fI : Addr} {nm : Str} {fd : FuncData} {ps : List Str} {e e' : Expr} {p pos : Pos} (T : ErrOk X.prog X.w X.K X.mg X.base (W.C c) fI nm fd ps (spI2 (W.C c) (W.fl f) (W.fl f2))) (hne : (W.fl f == W.fl f2) = false) (hr : Room 2 X.A) (hg : L2.Gl X nm := by rfl)
    (hdb : (nm == ("__debug__" : Str)) = false := by decide) (he : starEach [e, e'] X.env = (false, eval e X.env) :: starEach [e'] X.env := by rfl) (hpl : (backTo pos (starEach [e'] X.env)).any (·.1) = false := by rfl) : RsP X W c [f, f2] (canA X [e, e']) (.Call (.Name nm p) [e, e'] [] pos) := by
  intro pins s σ H Q I h
  refine pmk_oex T.oex T.iC T.tI (T.F 0) hr T.b .nil pass0 hg T.m acan hdb he hpl pins s σ H Q I ?_
  refine canA_mono h fun vs H1 q => ?_
  obtain ⟨l, q⟩ := q
  match vs, l, q with
  | [y, z], _, q =>
    refine ⟨by simp, fun a ha => mk2 (fun dx hdx => q dx _ hdx fun i f' y' e1 e2 => ?_) a ha⟩
    match i, e1, e2 with
    | 0, e1, e2 =>
      cases e1; cases e2
      rw [List.lookup_cons, hne]
      simp [List.lookup]
    | 1, e1, e2 =>
      cases e1; cases e2
      simp [List.lookup]
theorem rsp2k {c f f2 : Nat} {fI : Addr} {nm : Str} {fd : FuncData} {ps : List Str} {kws : List Keyword} {ks : List Str} {g : List Value → List Value → List Value} {gV : List V → List V → List V} {p pos : Pos} (T : ErrOk X.prog X.w X.K X.mg X.base (W.C c) fI nm fd ps (spI2 (W.C c) (W.fl f) (W.fl f2))) (hne : (W.fl f == W.fl f2) = false) (hr : Room 2 X.A) (hb : KBn X.K fd ps 1 ks g gV) (hl : ks.length = 2) (hgV : ∀ a y z, gV [.ref a] [z, y] = [.ref a, y, z]) (hg : L2.Gl X nm := by rfl)
    (hall : (backToKw pos (keywordEach kws X.env)).all (·.1.isSome) = true := by rfl) (hks : (backToKw pos (keywordEach kws X.env)).filterMap (·.1) = ks := by rfl) (hdb : (nm == ("__debug__" : Str)) = false := by decide)
    (hpl : ((backTo pos (starEach [] X.env)).any (·.1) || (backToKw pos (keywordEach kws X.env)).any (·.1.isNone)) = false := by rfl) : RsP X W c [f2, f] (canK X kws) (.Call (.Name nm p) [] kws pos) := by
  intro pins s σ H Q I h
  refine RD.pmk_oexK T.oex T.iC T.tI (T.F 0) hr hb pass0 hg T.m kcan hall hks hdb hpl pins s σ H Q I ?_
  refine canK_mono h fun vs H1 q => ?_
  obtain ⟨l, q⟩ := q
  match vs, l, q with
  | [z, y], _, q =>
    refine ⟨hl.symm, fun a ha => ?_⟩
    rw [hgV]
    refine mk2 (fun dx hdx => q dx _ hdx fun i f' y' e1 e2 => ?_) a ha
    match i, e1, e2 with
    | 0, e1, e2 =>
      cases e1; cases e2
      simp [List.lookup]
    | 1, e1, e2 =>
      cases e1; cases e2
      rw [List.lookup_cons, hne]
      simp [List.lookup]
theorem r1 {c f : Nat} {fI : Addr} {nm : Str} {fd : FuncData} {ps : List Str} {e : Expr} {p pos : Pos} (T : ErrOk X.prog X.w X.K X.mg X.base (W.C c) fI nm fd ps (spI1 (W.C c) (W.fl f))) (hr : Room 2 X.A) (hg : L2.Gl X nm := by rfl)
    (hdb : (nm == ("__debug__" : Str)) = false := by decide) (he : starEach [e] X.env = (false, eval e X.env) :: starEach [] X.env := by rfl) : NR X W c [f] (canA X [e]) (.Call (.Name nm p) [e] [] pos) := ⟨rsp1 T hr hg hdb he⟩
theorem r1k {c f : Nat} {fI : Addr} {nm : Str} {fd : FuncData} {ps : List Str} {kws : List Keyword} {ks : List Str} {g : List Value → List Value → List Value} {gV : List V → List V → List V} {p pos : Pos} (T : ErrOk X.prog X.w X.K X.mg X.base (W.C c) fI nm fd ps (spI1 (W.C c) (W.fl f))) (hr : Room 2 X.A) (hb : KBn X.K fd ps 1 ks g gV) (hl : ks.length = 1) (hgV : ∀ a y, gV [.ref a] [y] = [.ref a, y]) (hg : L2.Gl X nm := by rfl)
    (hall : (backToKw pos (keywordEach kws X.env)).all (·.1.isSome) = true := by rfl) (hks : (backToKw pos (keywordEach kws X.env)).filterMap (·.1) = ks := by rfl) (hdb : (nm == ("__debug__" : Str)) = false := by decide)
    (hpl : ((backTo pos (starEach [] X.env)).any (·.1) || (backToKw pos (keywordEach kws X.env)).any (·.1.isNone)) = false := by rfl) : NR X W c [f] (canK X kws) (.Call (.Name nm p) [] kws pos) := ⟨rsp1k T hr hb hl hgV hg hall hks hdb hpl⟩
theorem r2 {c f f2 : Nat} {fI : Addr} {nm : Str} {fd : FuncData} {ps : List Str} {e e' : Expr} {p pos : Pos} (T : ErrOk X.prog X.w X.K X.mg X.base (W.C c) fI nm fd ps (spI2 (W.C c) (W.fl f) (W.fl f2))) (hne : (W.fl f == W.fl f2) = false) (hr : Room 2 X.A) (hg : L2.Gl X nm := by rfl)
    (hdb : (nm == ("__debug__" : Str)) = false := by decide) (he : starEach [e, e'] X.env = (false, eval e X.env) :: starEach [e'] X.env := by rfl) (hpl : (backTo pos (starEach [e'] X.env)).any (·.1) = false := by rfl) : NR X W c [f, f2] (canA X [e, e']) (.Call (.Name nm p) [e, e'] [] pos) := ⟨rsp2 T hne hr hg hdb he hpl⟩
theorem r2k {c f f2 : Nat} {fI : Addr} {nm : Str} {fd : FuncData} {ps : List Str} {kws : List Keyword} {ks : List Str} {g : List Value → List Value → List Value} {gV : List V → List V → List V} {p pos : Pos} (T : ErrOk X.prog X.w X.K X.mg X.base (W.C c) fI nm fd ps (spI2 (W.C c) (W.fl f) (W.fl f2))) (hne : (W.fl f == W.fl f2) = false) (hr : Room 2 X.A) (hb : KBn X.K fd ps 1 ks g gV) (hl : ks.length = 2) (hgV : ∀ a y z, gV [.ref a] [z, y] = [.ref a, y, z]) (hg : L2.Gl X nm := by rfl)
    (hall : (backToKw pos (keywordEach kws X.env)).all (·.1.isSome) = true := by rfl) (hks : (backToKw pos (keywordEach kws X.env)).filterMap (·.1) = ks := by rfl) (hdb : (nm == ("__debug__" : Str)) = false := by decide)
    (hpl : ((backTo pos (starEach [] X.env)).any (·.1) || (backToKw pos (keywordEach kws X.env)).any (·.1.isNone)) = false := by rfl) : NR X W c [f2, f] (canK X kws) (.Call (.Name nm p) [] kws pos) := ⟨rsp2k T hne hr hb hl hgV hg hall hks hdb hpl⟩
end
end EV

namespace K0
open PySem PySem.Spec L2 RD NdefX
def topS (i : Nat) : Stmt := PySem.Challenge.pw_replycuts_k00_errors_keep_what_they_are.main.body.getD i (.Pass ⟨0, 0, 0, 0⟩)
def clsBody : Stmt → List Stmt
  | .ClassDef _ _ _ b .. => b
  | _ => []
abbrev iS (i : Nat) : Stmt := (clsBody (topS i)).getD 0 (.Pass ⟨0, 0, 0, 0⟩)
/-- what the written part says of an error's class -/
structure ErrC (P : Program) (K : PySem.W.Frag) (mg : Str → Option Value) (C f cc cda : Addr) (qual : Str) (st : Stmt) (fd : FuncData) : Prop where
  oex : OexC K C
  lk : ∃ oc od kV doc pm an ct osl, fd = PySem.W.ksFn "__init__" qual (defArgs st) (defBody st) (defScope st) .none kV doc pm an (.ref cda) ct cc ∧ K.lookup f = some ⟨oc, od, .func fd, osl⟩
  code : PySem.W.codeIn K (.ref cda) qual = true
  file : ∃ ccl cdd vs0 ccs file tf, K.lookup cda = some ⟨ccl, cdd, .fields vs0, ccs⟩ ∧ vs0[2]? = some (.str file tf) ∧ ((P.main.file : Str) == file) = true
  cell : ∃ cl cld csl, K.lookup cc = some ⟨cl, cld, .cell (some (.ref C)), csl⟩
  cls : ∃ cd, PySem.W.clsIn K C = some cd
  sub : PySem.W.mroIn K C (.ref C) = some true
  sup : mg "super" = none
  op : PySem.W.nsIn K PySem.cStatics "thirdparty.any" = some none
  up : PySem.W.ks_superIn K C C "__init__" = some (some (.builtin "ValueError.__init__"))
  ve : PySem.W.subIn K (.ref C) (.type "ValueError") = some true
theorem F_Value {w : World} {K : PySem.W.Frag} {mg : Str → Option Value} {base : Heap} {C f cc cda : Addr} {fd : FuncData} {k : Nat} (Z : ErrC PySem.Challenge.pw_replycuts_k00_errors_keep_what_they_are K mg C f cc cda "BadValue.__init__" (iS 2) fd) (hpart : PySem.W.findIn K (.ref C) "part" = some none) :
    FnOk PySem.Challenge.pw_replycuts_k00_errors_keep_what_they_are w K mg base CX0 (k + 1) f fd ["self", "part"] (spI1 C "part") := by
  obtain ⟨oc, od, kV, doc, pm, an, ct, osl, rfl, lk⟩ := Z.lk
  obtain ⟨ccl, cdd, vs0, ccs, file, tf, h1, h2, h3⟩ := Z.file
  obtain ⟨cl, cld, csl, h4⟩ := Z.cell
  obtain ⟨cd, h5⟩ := Z.cls
  refine fn_sup (F := ⟨"__init__", "BadValue.__init__", defArgs (iS 2), defBody (iS 2), defScope (iS 2), [("__class__", cc)], cda⟩) (N := ["self", "part", "__class__"]) (C := C) (D := C) lk rfl rfl rfl rfl Z.code (nscope_by (by decide +kernel)) (fun vs H Q E h => by
      obtain ⟨a, y, rfl, _⟩ := h
      rfl) rfl rfl (by decide +kernel) (by decide +kernel) h1 h2 h3 h4 h5 Z.sub Z.sup (by decide +kernel) Z.oex Z.op Z.up Z.ve (fun L => rfl) (fun L => rfl) (fun L => rfl) fun A outer s H vs Q E hr h => ?_
  obtain ⟨a, y, rfl, ea, q⟩ := h
  exact ⟨a, _, rfl, ea, _, pss_i1 rfl rfl (.inl (show (defScope (iS 2)).names.lookup ("self" : Str) = some .local by decide +kernel)) (.inl (show (defScope (iS 2)).names.lookup ("part" : Str) = some .local by decide +kernel)), i1_at Z.oex hpart ea q⟩
theorem F_Number {w : World} {K : PySem.W.Frag} {mg : Str → Option Value} {base : Heap} {C f cc cda : Addr} {fd : FuncData} {k : Nat} (Z : ErrC PySem.Challenge.pw_replycuts_k00_errors_keep_what_they_are K mg C f cc cda "BadNumber.__init__" (iS 3) fd) (hf : PySem.W.findIn K (.ref C) "part" = some none) :
    FnOk PySem.Challenge.pw_replycuts_k00_errors_keep_what_they_are w K mg base CX0 (k + 1) f fd ["self", "part"] (spI1 C "part") := by
  obtain ⟨oc, od, kV, doc, pm, an, ct, osl, rfl, lk⟩ := Z.lk
  obtain ⟨ccl, cdd, vs0, ccs, file, tf, h1, h2, h3⟩ := Z.file
  obtain ⟨cl, cld, csl, h4⟩ := Z.cell
  obtain ⟨cd, h5⟩ := Z.cls
  refine fn_sup (F := ⟨"__init__", "BadNumber.__init__", defArgs (iS 3), defBody (iS 3), defScope (iS 3), [("__class__", cc)], cda⟩) (N := ["self", "part", "__class__"]) (C := C) (D := C) lk rfl rfl rfl rfl Z.code (nscope_by (by decide +kernel)) (fun vs H Q E h => by
      obtain ⟨a, y, rfl, _⟩ := h
      rfl) rfl rfl (by decide +kernel) (by decide +kernel) h1 h2 h3 h4 h5 Z.sub Z.sup (by decide +kernel) Z.oex Z.op Z.up Z.ve (fun L => rfl) (fun L => rfl) (fun L => rfl) fun A outer s H vs Q E hr h => ?_
  obtain ⟨a, y, rfl, ea, q⟩ := h
  exact ⟨a, _, rfl, ea, _, pss_i1 rfl rfl (.inl (show (defScope (iS 3)).names.lookup ("self" : Str) = some .local by decide +kernel)) (.inl (show (defScope (iS 3)).names.lookup ("part" : Str) = some .local by decide +kernel)), i1_at Z.oex hf ea q⟩
theorem F_Line {w : World} {K : PySem.W.Frag} {mg : Str → Option Value} {base : Heap} {C f cc cda : Addr} {fd : FuncData} {k : Nat} (Z : ErrC PySem.Challenge.pw_replycuts_k00_errors_keep_what_they_are K mg C f cc cda "BadLine.__init__" (iS 5) fd) (hf : PySem.W.findIn K (.ref C) "word" = some none) :
    FnOk PySem.Challenge.pw_replycuts_k00_errors_keep_what_they_are w K mg base CX0 (k + 1) f fd ["self", "word"] (spI1 C "word") := by
  obtain ⟨oc, od, kV, doc, pm, an, ct, osl, rfl, lk⟩ := Z.lk
  obtain ⟨ccl, cdd, vs0, ccs, file, tf, h1, h2, h3⟩ := Z.file
  obtain ⟨cl, cld, csl, h4⟩ := Z.cell
  obtain ⟨cd, h5⟩ := Z.cls
  refine fn_sup (F := ⟨"__init__", "BadLine.__init__", defArgs (iS 5), defBody (iS 5), defScope (iS 5), [("__class__", cc)], cda⟩) (N := ["self", "word", "__class__"]) (C := C) (D := C) lk rfl rfl rfl rfl Z.code (nscope_by (by decide +kernel)) (fun vs H Q E h => by
      obtain ⟨a, y, rfl, _⟩ := h
      rfl) rfl rfl (by decide +kernel) (by decide +kernel) h1 h2 h3 h4 h5 Z.sub Z.sup (by decide +kernel) Z.oex Z.op Z.up Z.ve (fun L => rfl) (fun L => rfl) (fun L => rfl) fun A outer s H vs Q E hr h => ?_
  obtain ⟨a, y, rfl, ea, q⟩ := h
  exact ⟨a, _, rfl, ea, _, pss_i1 rfl rfl (.inl (show (defScope (iS 5)).names.lookup ("self" : Str) = some .local by decide +kernel)) (.inl (show (defScope (iS 5)).names.lookup ("word" : Str) = some .local by decide +kernel)), i1_at Z.oex hf ea q⟩
theorem F_Name {w : World} {K : PySem.W.Frag} {mg : Str → Option Value} {base : Heap} {C f cc cda : Addr} {fd : FuncData} {k : Nat} (Z : ErrC PySem.Challenge.pw_replycuts_k00_errors_keep_what_they_are K mg C f cc cda "NoName.__init__" (iS 6) fd) (hf : PySem.W.findIn K (.ref C) "name" = some none) :
    FnOk PySem.Challenge.pw_replycuts_k00_errors_keep_what_they_are w K mg base CX0 (k + 1) f fd ["self", "name"] (spI1 C "name") := by
  obtain ⟨oc, od, kV, doc, pm, an, ct, osl, rfl, lk⟩ := Z.lk
  obtain ⟨ccl, cdd, vs0, ccs, file, tf, h1, h2, h3⟩ := Z.file
  obtain ⟨cl, cld, csl, h4⟩ := Z.cell
  obtain ⟨cd, h5⟩ := Z.cls
  refine fn_sup (F := ⟨"__init__", "NoName.__init__", defArgs (iS 6), defBody (iS 6), defScope (iS 6), [("__class__", cc)], cda⟩) (N := ["self", "name", "__class__"]) (C := C) (D := C) lk rfl rfl rfl rfl Z.code (nscope_by (by decide +kernel)) (fun vs H Q E h => by
      obtain ⟨a, y, rfl, _⟩ := h
      rfl) rfl rfl (by decide +kernel) (by decide +kernel) h1 h2 h3 h4 h5 Z.sub Z.sup (by decide +kernel) Z.oex Z.op Z.up Z.ve (fun L => rfl) (fun L => rfl) (fun L => rfl) fun A outer s H vs Q E hr h => ?_
  obtain ⟨a, y, rfl, ea, q⟩ := h
  exact ⟨a, _, rfl, ea, _, pss_i1 rfl rfl (.inl (show (defScope (iS 6)).names.lookup ("self" : Str) = some .local by decide +kernel)) (.inl (show (defScope (iS 6)).names.lookup ("name" : Str) = some .local by decide +kernel)), i1_at Z.oex hf ea q⟩
theorem F_Misfit {w : World} {K : PySem.W.Frag} {mg : Str → Option Value} {base : Heap} {C f cc cda : Addr} {fd : FuncData} {k : Nat} (Z : ErrC PySem.Challenge.pw_replycuts_k00_errors_keep_what_they_are K mg C f cc cda "Misfit.__init__" (iS 7) fd) (hf : PySem.W.findIn K (.ref C) "part" = some none) :
    FnOk PySem.Challenge.pw_replycuts_k00_errors_keep_what_they_are w K mg base CX0 (k + 1) f fd ["self", "part"] (spI1 C "part") := by
  obtain ⟨oc, od, kV, doc, pm, an, ct, osl, rfl, lk⟩ := Z.lk
  obtain ⟨ccl, cdd, vs0, ccs, file, tf, h1, h2, h3⟩ := Z.file
  obtain ⟨cl, cld, csl, h4⟩ := Z.cell
  obtain ⟨cd, h5⟩ := Z.cls
  refine fn_sup (F := ⟨"__init__", "Misfit.__init__", defArgs (iS 7), defBody (iS 7), defScope (iS 7), [("__class__", cc)], cda⟩) (N := ["self", "part", "__class__"]) (C := C) (D := C) lk rfl rfl rfl rfl Z.code (nscope_by (by decide +kernel)) (fun vs H Q E h => by
      obtain ⟨a, y, rfl, _⟩ := h
      rfl) rfl rfl (by decide +kernel) (by decide +kernel) h1 h2 h3 h4 h5 Z.sub Z.sup (by decide +kernel) Z.oex Z.op Z.up Z.ve (fun L => rfl) (fun L => rfl) (fun L => rfl) fun A outer s H vs Q E hr h => ?_
  obtain ⟨a, y, rfl, ea, q⟩ := h
  exact ⟨a, _, rfl, ea, _, pss_i1 rfl rfl (.inl (show (defScope (iS 7)).names.lookup ("self" : Str) = some .local by decide +kernel)) (.inl (show (defScope (iS 7)).names.lookup ("part" : Str) = some .local by decide +kernel)), i1_at Z.oex hf ea q⟩
theorem F_Nothing {w : World} {K : PySem.W.Frag} {mg : Str → Option Value} {base : Heap} {C f cc cda : Addr} {fd : FuncData} {k : Nat} (Z : ErrC PySem.Challenge.pw_replycuts_k00_errors_keep_what_they_are K mg C f cc cda "Nothing.__init__" (iS 8) fd) (hf : PySem.W.findIn K (.ref C) "word" = some none) :
    FnOk PySem.Challenge.pw_replycuts_k00_errors_keep_what_they_are w K mg base CX0 (k + 1) f fd ["self", "word"] (spI1 C "word") := by
  obtain ⟨oc, od, kV, doc, pm, an, ct, osl, rfl, lk⟩ := Z.lk
  obtain ⟨ccl, cdd, vs0, ccs, file, tf, h1, h2, h3⟩ := Z.file
  obtain ⟨cl, cld, csl, h4⟩ := Z.cell
  obtain ⟨cd, h5⟩ := Z.cls
  refine fn_sup (F := ⟨"__init__", "Nothing.__init__", defArgs (iS 8), defBody (iS 8), defScope (iS 8), [("__class__", cc)], cda⟩) (N := ["self", "word", "__class__"]) (C := C) (D := C) lk rfl rfl rfl rfl Z.code (nscope_by (by decide +kernel)) (fun vs H Q E h => by
      obtain ⟨a, y, rfl, _⟩ := h
      rfl) rfl rfl (by decide +kernel) (by decide +kernel) h1 h2 h3 h4 h5 Z.sub Z.sup (by decide +kernel) Z.oex Z.op Z.up Z.ve (fun L => rfl) (fun L => rfl) (fun L => rfl) fun A outer s H vs Q E hr h => ?_
  obtain ⟨a, y, rfl, ea, q⟩ := h
  exact ⟨a, _, rfl, ea, _, pss_i1 rfl rfl (.inl (show (defScope (iS 8)).names.lookup ("self" : Str) = some .local by decide +kernel)) (.inl (show (defScope (iS 8)).names.lookup ("word" : Str) = some .local by decide +kernel)), i1_at Z.oex hf ea q⟩
theorem F_Text {w : World} {K : PySem.W.Frag} {mg : Str → Option Value} {base : Heap} {C f cc cda : Addr} {fd : FuncData} {k : Nat} (Z : ErrC PySem.Challenge.pw_replycuts_k00_errors_keep_what_they_are K mg C f cc cda "BadText.__init__" (iS 4) fd) (hf : PySem.W.findIn K (.ref C) "line" = some none) (hg : PySem.W.findIn K (.ref C) "word" = some none) :
    FnOk PySem.Challenge.pw_replycuts_k00_errors_keep_what_they_are w K mg base CX0 (k + 1) f fd ["self", "line", "word"] (spI2 C "line" "word") := by
  obtain ⟨oc, od, kV, doc, pm, an, ct, osl, rfl, lk⟩ := Z.lk
  obtain ⟨ccl, cdd, vs0, ccs, file, tf, h1, h2, h3⟩ := Z.file
  obtain ⟨cl, cld, csl, h4⟩ := Z.cell
  obtain ⟨cd, h5⟩ := Z.cls
  refine fn_sup (F := ⟨"__init__", "BadText.__init__", defArgs (iS 4), defBody (iS 4), defScope (iS 4), [("__class__", cc)], cda⟩) (N := ["self", "line", "word", "__class__"]) (C := C) (D := C) lk rfl rfl rfl rfl Z.code (nscope_by (by decide +kernel)) (fun vs H Q E h => by
      obtain ⟨a, y, z, rfl, _⟩ := h
      rfl) rfl rfl (by decide +kernel) (by decide +kernel) h1 h2 h3 h4 h5 Z.sub Z.sup (by decide +kernel) Z.oex Z.op Z.up Z.ve (fun L => rfl) (fun L => rfl) (fun L => rfl) fun A outer s H vs Q E hr h => ?_
  obtain ⟨a, y, z, rfl, ea, q⟩ := h
  exact ⟨a, _, rfl, ea, _, pss_i2 rfl rfl rfl (.inl (show (defScope (iS 4)).names.lookup ("self" : Str) = some .local by decide +kernel)) (.inl (show (defScope (iS 4)).names.lookup ("line" : Str) = some .local by decide +kernel)) (.inl (show (defScope (iS 4)).names.lookup ("word" : Str) = some .local by decide +kernel)), i2_at Z.oex hf hg ea q⟩
theorem F_Many {w : World} {K : PySem.W.Frag} {mg : Str → Option Value} {base : Heap} {C f cc cda : Addr} {fd : FuncData} {k : Nat} (Z : ErrC PySem.Challenge.pw_replycuts_k00_errors_keep_what_they_are K mg C f cc cda "TooMany.__init__" (iS 9) fd) (hf : PySem.W.findIn K (.ref C) "what" = some none) (hg : PySem.W.findIn K (.ref C) "most" = some none) :
    FnOk PySem.Challenge.pw_replycuts_k00_errors_keep_what_they_are w K mg base CX0 (k + 1) f fd ["self", "what", "most"] (spI2 C "what" "most") := by
  obtain ⟨oc, od, kV, doc, pm, an, ct, osl, rfl, lk⟩ := Z.lk
  obtain ⟨ccl, cdd, vs0, ccs, file, tf, h1, h2, h3⟩ := Z.file
  obtain ⟨cl, cld, csl, h4⟩ := Z.cell
  obtain ⟨cd, h5⟩ := Z.cls
  refine fn_sup (F := ⟨"__init__", "TooMany.__init__", defArgs (iS 9), defBody (iS 9), defScope (iS 9), [("__class__", cc)], cda⟩) (N := ["self", "what", "most", "__class__"]) (C := C) (D := C) lk rfl rfl rfl rfl Z.code (nscope_by (by decide +kernel)) (fun vs H Q E h => by
      obtain ⟨a, y, z, rfl, _⟩ := h
      rfl) rfl rfl (by decide +kernel) (by decide +kernel) h1 h2 h3 h4 h5 Z.sub Z.sup (by decide +kernel) Z.oex Z.op Z.up Z.ve (fun L => rfl) (fun L => rfl) (fun L => rfl) fun A outer s H vs Q E hr h => ?_
  obtain ⟨a, y, z, rfl, ea, q⟩ := h
  exact ⟨a, _, rfl, ea, _, pss_i2 rfl rfl rfl (.inl (show (defScope (iS 9)).names.lookup ("self" : Str) = some .local by decide +kernel)) (.inl (show (defScope (iS 9)).names.lookup ("what" : Str) = some .local by decide +kernel)) (.inl (show (defScope (iS 9)).names.lookup ("most" : Str) = some .local by decide +kernel)), i2_at Z.oex hf hg ea q⟩
end K0

namespace K0
open PySem PySem.Spec PyProof.Rows L2 RD
abbrev s_draw : Stmt := topS 12
theorem sc_draw : FnScope ["pen", "many", "digit", "at", "cell", "great", "mixed"] ["pen", "many"] (defScope s_draw) := ⟨rfl, rfl, rfl, by decide +kernel, rfl, by decide +kernel, by decide +kernel⟩
/-- what is drawn -/
abbrev R_draw := EV.R_draw
theorem shaped_ints (ns : List Int) : SeqAt.shaped (.list (ns.map PyData.int)) = true := by
  have h1 : ∀ ns : List Int, PyData.canLayAll0 (ns.map PyData.int) = true := fun ns => by
    induction ns with
    | nil => simp [PyData.canLayAll0]
    | cons n ns ih => simp [PyData.canLayAll0, PyData.canLay0, ih]
  have h2 : ∀ ns : List Int, PyData.depthAll (ns.map PyData.int) = 0 := fun ns => by
    induction ns with
    | nil => simp [PyData.depthAll]
    | cons n ns ih => simp [PyData.depthAll, PyData.depth, ih]
  unfold SeqAt.shaped
  rw [Bool.and_eq_true]
  exact ⟨by simp only [PyData.canLay0]; exact h1 ns, decide_eq_true (by simp only [PyData.depth]; rw [h2]; decide)⟩
theorem dp_ints {K : PySem.W.Frag} {H : Hp} : ∀ (ns : List Int), DpAll K H (ns.map V.int) (ns.map PyData.int)
  | [] => .nil
  | n :: ns => .cons (.int n) (dp_ints ns)
theorem pow_split {x : Int} {b c : Nat} (h : x.natAbs < 2 ^ b) (hbc : b ≤ c) : x.natAbs < 2 ^ c := Nat.lt_of_lt_of_le h (Nat.pow_le_pow_right (by decide) hbc)
theorem div_abs {x m : Int} {b : Nat} (h0 : 0 ≤ x) (hm : 0 < m) (h : x.natAbs < 2 ^ b) : 0 ≤ x / m ∧ (x / m).natAbs < 2 ^ b := by
  have h1 : 0 ≤ x / m := Int.ediv_nonneg h0 (by omega)
  have h2 : x / m ≤ x := Int.ediv_le_self _ h0
  exact ⟨h1, Nat.lt_of_le_of_lt (by omega) h⟩
theorem cdw {i j : Int} (h : 0 < j) (hb : j < 2 ^ 9000) : CDivW i j := wide_div h (b := 9000) (by
  have : (j.natAbs : Int) = j := by omega
  have h2 : ((j.natAbs : Nat) : Int) < ((2 ^ 9000 : Nat) : Int) := by
    rw [this]
    have e : ((2 ^ 9000 : Nat) : Int) = (2 : Int) ^ 9000 := by
      rw [Int.natCast_pow] <;> rfl
    rw [e]; exact hb
  exact Int.ofNat_lt.mp h2) (by decide) (by decide)
theorem mod_lt' {x m : Int} (hm : 0 < m) : 0 ≤ x % m ∧ x % m < m := ⟨Int.emod_nonneg _ (by omega), Int.emod_lt_of_pos _ hm⟩
section
variable {P : Program} {w : World} {K : PySem.W.Frag} {mg : Str → Option Value} {base : Heap}
theorem ok_draw {f : Addr} {fd : FuncData} (F : FunD K "_law_draw" "_law_draw" (defArgs s_draw) (defBody s_draw) (defScope s_draw) [] [] f fd) (m1 : mg "int" = none) (m2 : mg "len" = none) (m3 : mg "abs" = none) : FnOk P w K mg base CX0 1 f fd ["pen", "many"] (spP K R_draw) := by
  refine F.ok sc_draw (fun vs H Q E h => ?_) fun cdv A outer s H vs Q E hr h => ?_
  · obtain ⟨W, p, c, n, ds, k, _, _, _, _, _, _, r, ⟨many, n0, _, e, _⟩, _⟩ := h
    rw [r.length, e]; rfl
  · obtain ⟨W, p, c, n, ds, k, htr, hnd, hp, hc, hpc, pen, r, ⟨many, n0, rfl, rfl, hmany, hk⟩, q⟩ := h
    obtain ⟨at_, rest, ns, e1, e2, h0, h1, h2, h3, h4, h5⟩ := pen
    cases r with
    | cons r1 r2 =>
    cases r1
    cases r2 with
    | cons r2 r3 =>
    cases r2; cases r3
    -- how it ends
    have fin : ∀ (v : Int) (H' : Hp) (at' rest' : Int), 0 ≤ v → (v < many ∨ v = 0) → (∀ a o, a ≠ p → H a = some o → H' a = some o) → H' p = some (.lst [.ref c, .int at', .int rest']) → 0 ≤ at' → at' + n0 ≤ 1000000 → 0 ≤ rest' → rest'.natAbs < 2 ^ 1048600 → Q (.int v) H' :=
      fun v H' at' rest' a1 a2 a3 a4 a5 a6 a7 a8 => q n0 (.int v) (.int v) H' (hk v a1 a2) a3 ⟨at', rest', ns, a4, a3 c _ (Ne.symm hpc) e2, a5, a6, a7, a8, h4, h5⟩ (.int v)
    have hu := hr.units
    refine ⟨_, PSs.nox (pss_cons (ps_if (pt_cmpR op_lt (pv 1) pe_int (nomark _)) (pss_one (ps_ret pe_int)) pss_nil)
      (pss_cons (ps_if (pt_cmpR op_gt (pe_ix ix_list (pv 0) pe_int (fun _ _ => rfl)) pe_int (nomark _))
          (pss_cons (ps_set (i := 2) sc_draw.nd rfl (.inl rfl) (pe_op op_mod (pe_callTy call_int1 (by rfl) m1 boot_int (pa_cons (pe_ix ix_list (pv 0) pe_int (fun _ _ => rfl)) pa_nil)) (pv 1)))
          (pss_cons (ps_asg (pe_op op_fdivW (pe_callTy call_int1 (by rfl) m1 boot_int (pa_cons (pe_ix ix_list (pv 0) pe_int (fun _ _ => rfl)) pa_nil)) (pv 1)) (pg_sub (pv 0) pe_int set_list))
          (pss_one (ps_ret (pv 2))))) pss_nil)
      (pss_cons (ps_set (i := 3) sc_draw.nd rfl (.inl rfl) (pe_ix ix_list (pv 0) pe_int (fun _ _ => rfl)))
      (pss_cons (ps_asg (pe_op op_add (pv 3) pe_int) (pg_sub (pv 0) pe_int set_list))
      (pss_cons (ps_set (i := 4) sc_draw.nd rfl (.inl rfl) (pe_op op_add (pe_op op_mul pe_int (pv 3)) pe_int))
      (C8.pss_cut (ps_if (pt_cmpR (op_neD hu) (pe_ix ix_list (pv 0) pe_int (fun _ _ => rfl)) (pe_lst pa_nil) (nomark _))
          (pss_one (ps_set (i := 4) sc_draw.nd rfl (.inl rfl) (pe_ix ix_list (pe_ix ix_list (pv 0) pe_int (fun _ _ => rfl)) (pe_op op_mod (pe_callTy call_int1 (by rfl) m1 boot_int (pa_cons (pv 3) pa_nil)) (pe_callB call_len_seq (by rfl) m2 PySem.boot_len (pa_cons (pe_ix ix_list (pv 0) pe_int (fun _ _ => rfl)) pa_nil))) (fun _ _ => rfl)))) pss_nil)
      (C8.pss_cut (ps_if (pw_and (pt_cmpR op_lt (pv 3) (pe_callB call_len_seq (by rfl) m2 PySem.boot_len (pa_cons (pe_ix ix_list (pv 0) pe_int (fun _ _ => rfl)) pa_nil)) (nomark _)) (pw_and1 (pt_cmpR op_ge (pe_callB call_abs (by rfl) m3 boot_abs (pa_cons (pv 4) pa_nil)) (pe_op op_pow pe_int pe_int) (nomark _)))).pt
          (pss_cons (ps_set (i := 5) sc_draw.nd rfl (.inl rfl) (pe_op op_add (pe_op op_mul pe_int (pe_op op_sub (pe_callB call_abs (by rfl) m3 boot_abs (pa_cons (pv 4) pa_nil)) (pe_op op_pow pe_int pe_int))) (pe_callTy call_int1 (by rfl) m1 boot_int (pa_cons (pe_cmpR op_lt (pv 4) pe_int (nomark _)) pa_nil))))
          (pss_cons (ps_asg (pe_op op_fdivW (pe_callTy call_int1 (by rfl) m1 boot_int (pa_cons (pv 5) pa_nil)) (pv 1)) (pg_sub (pv 0) pe_int set_list))
          (pss_one (ps_ret (pe_op op_mod (pe_callTy call_int1 (by rfl) m1 boot_int (pa_cons (pv 5) pa_nil)) (pv 1)))))) pss_nil)
      (pss_cons (ps_set (i := 6) sc_draw.nd rfl (.inl rfl) (pe_op op_mod (pe_callTy call_int1 (by rfl) m1 boot_int (pa_cons (pe_op op_pow (pe_op op_add (pe_op op_add (pe_op op_mod (pe_callTy call_int1 (by rfl) m1 boot_int (pa_cons (pv 4) pa_nil)) pe_int) (pe_op op_mul pe_int (pv 3))) pe_int) pe_int) pa_nil)) pe_int))
      (pss_cons (ps_set (i := 6) sc_draw.nd rfl (.inl rfl) (pe_op op_mod (pe_callTy call_int1 (by rfl) m1 boot_int (pa_cons (pe_op op_pow (pe_op op_add (pe_op op_add (pe_op op_mul (pv 6) (pe_op op_add (pe_op op_mul pe_int (pv 3)) pe_int)) (pe_op op_mul (pe_op op_mul pe_int (pv 3)) (pv 3))) pe_int) pe_int) pa_nil)) pe_int))
      (pss_one (ps_ret (pe_op op_mod (pe_callTy call_int1 (by rfl) m1 boot_int (pa_cons (pe_op op_fdiv (pv 6) pe_int) pa_nil)) (pv 1))))))))))))), ?_⟩
    have eP : SqL K H p [.ref c, .int at_, .int rest] := .of e1
    have eC : SqL K H c (ns.map V.int) := .of e2
    -- many < 2
    refine ⟨.int many, rfl, many, 2, rfl, rfl, _, rfl, ite2 (fun e => ?_) (fun e => ?_)⟩
    · exact fin 0 H at_ rest (by omega) (.inr rfl) (fun _ _ _ z => z) e1 h0 (by omega) h2 h3
    have hm2 : 2 ≤ many := by
      have := e
      simp at this
      omega
    -- pen[2] > 0
    refine ⟨.ref p, rfl, p, _, 2, .int rest, rfl, rfl, eP, atI_nat (j := 2) rfl, rest, 0, rfl, rfl, _, rfl, ite2 (fun e => ?_) (fun e => ?_)⟩
    · refine ⟨.ref p, rfl, p, _, 2, .int rest, rfl, rfl, eP, atI_nat (j := 2) rfl, .inl ⟨rest, rfl, .int many, rfl, rest, many, rfl, rfl, (by omega : 0 < many), ?_⟩⟩
      refine ⟨.ref p, rfl, p, _, 2, .int rest, rfl, rfl, eP, atI_nat (j := 2) rfl, .inl ⟨rest, rfl, .int many, rfl, rest, many, rfl, rfl, cdw (by omega) hmany, ?_⟩⟩
      refine ⟨.ref p, rfl, p, _, 2, 2, rfl, rfl, e1, rfl, .int (rest % many), rfl, ?_⟩
      obtain ⟨b1, b2⟩ := mod_lt' (x := rest) (m := many) (by omega)
      obtain ⟨b3, b4⟩ := div_abs h2 (by omega : 0 < many) h3
      exact fin _ _ at_ (rest / many) b1 (.inl b2) (fun a o z y => by rw [upd_ne z]; exact y) upd_same h0 (by omega) b3 b4
    -- at = pen[1]; pen[1] = at + 1
    refine ⟨.ref p, rfl, p, _, 1, .int at_, rfl, rfl, eP, atI_nat (j := 1) rfl, ?_⟩
    refine ⟨.int at_, rfl, at_, 1, rfl, rfl, .ref p, rfl, p, _, 1, 1, rfl, rfl, e1, rfl, ?_⟩
    have nec : c ≠ p := Ne.symm hpc
    have e1' : (upd H p (.lst [.ref c, .int (at_ + 1), .int rest])) p = some (.lst [.ref c, .int (at_ + 1), .int rest]) := upd_same
    have e2' : (upd H p (.lst [.ref c, .int (at_ + 1), .int rest])) c = some (.lst (ns.map V.int)) := by rw [upd_ne nec]; exact e2
    have st1 : ∀ a o, a ≠ p → H a = some o → (upd H p (.lst [.ref c, .int (at_ + 1), .int rest])) a = some o := fun a o z y => by rw [upd_ne z]; exact y
    have eP1 : SqL K (upd H p (.lst [.ref c, .int (at_ + 1), .int rest])) p [.ref c, .int (at_ + 1), .int rest] := .of e1'
    -- cell
    have hat : at_.natAbs ≤ 1000000 := by omega
    refine ⟨_, rfl, _, _, rfl, rfl, .inl ⟨by decide, by decide⟩, _, _, rfl, rfl, ?_⟩
    -- if pen[0] != []
    refine ⟨fun σ' H2 => ∃ cell : Int, cell.natAbs < 2 ^ 1048576 ∧ σ' = [some (.ref p), some (.int many), none, some (.int at_), some (.int cell), none, none] ∧ H2 p = some (.lst [.ref c, .int (at_ + 1), .int rest]) ∧ H2 c = some (.lst (ns.map V.int)) ∧ ∀ a o, a ≠ p → H a = some o → H2 a = some o, ?_, ?_⟩
    · have hsmall : (70853 * at_ + 8123).natAbs < 2 ^ 1048576 := Nat.lt_of_lt_of_le (show (70853 * at_ + 8123).natAbs < 2 ^ 40 by omega) (Nat.pow_le_pow_right (by decide) (by decide))
      refine ⟨_, rfl, p, _, 0, .ref c, rfl, rfl, eP1, atI_nat (j := 0) rfl, Nat.zero_le _, fun g ng => ?_⟩
      have ngp : p ≠ g := ne_of_none e1' ng
      have ngc : c ≠ g := ne_of_none e2' ng
      have e1'' : (upd (upd H p (.lst [.ref c, .int (at_ + 1), .int rest])) g (.lst [])) p = some (.lst [.ref c, .int (at_ + 1), .int rest]) := by rw [upd_ne ngp]; exact e1'
      have e2'' : (upd (upd H p (.lst [.ref c, .int (at_ + 1), .int rest])) g (.lst [])) c = some (.lst (ns.map V.int)) := by rw [upd_ne ngc]; exact e2'
      have st2 : ∀ a o, a ≠ p → H a = some o → (upd (upd H p (.lst [.ref c, .int (at_ + 1), .int rest])) g (.lst [])) a = some o := fun a o z y => by
        have y1 := st1 a o z y
        rw [upd_ne (ne_of_none y1 ng)]; exact y1
      have eP2 : SqL K (upd (upd H p (.lst [.ref c, .int (at_ + 1), .int rest])) g (.lst [])) p [.ref c, .int (at_ + 1), .int rest] := .of e1''
      have eC2 : SqL K (upd (upd H p (.lst [.ref c, .int (at_ + 1), .int rest])) g (.lst [])) c (ns.map V.int) := .of e2''
      refine ⟨.list (ns.map PyData.int), .list [], .lst eC2 (dp_ints ns), .lst (.of upd_same) .nil, shaped_ints ns, shaped_ints [], _, rfl, ite2 (fun e => ?_) (fun e => ?_)⟩
      · have hne : ns ≠ [] := fun z => by
          subst z
          simp [PyData.eqv, PyData.eqvAll] at e
        have hpos : 0 < ns.length := List.length_pos_iff.mpr hne
        obtain ⟨b1, b2⟩ := mod_lt' (x := at_) (m := (ns.length : Int)) (by omega)
        have hlt : (at_ % (ns.length : Int)).toNat < ns.length := by omega
        have hix : atI (ns.map V.int) (at_ % (ns.length : Int)) = some (.int ns[(at_ % (ns.length : Int)).toNat]) := by
          have := atI_nat (xs := ns.map V.int) (j := (at_ % (ns.length : Int)).toNat) (v := .int ns[(at_ % (ns.length : Int)).toNat]) (by rw [List.getElem?_map, List.getElem?_eq_getElem hlt]; rfl)
          rw [Int.toNat_of_nonneg b1] at this
          exact this
        refine ⟨.ref p, rfl, p, _, 0, .ref c, rfl, rfl, eP2, atI_nat (j := 0) rfl, .int at_, rfl, .inl ⟨at_, rfl, .ref p, rfl, p, _, 0, .ref c, rfl, rfl, eP2, atI_nat (j := 0) rfl, c, _, rfl, .inl eC2, ?_⟩⟩
        refine ⟨at_, ((ns.map V.int).length : Int), rfl, rfl, by rw [List.length_map]; omega, c, _, _, _, rfl, rfl, eC2, by rw [List.length_map]; exact hix, ?_⟩
        exact ⟨_, h5 _ (List.getElem_mem hlt), rfl, e1'', e2'', st2⟩
      · exact ⟨_, hsmall, rfl, e1'', e2'', st2⟩
    rintro _ H2 ⟨cell, hcell, rfl, g1, g2, st2⟩
    have eP2 : SqL K H2 p [.ref c, .int (at_ + 1), .int rest] := .of g1
    have eC2 : SqL K H2 c (ns.map V.int) := .of g2
    have habs : 0 ≤ (if cell < 0 then -cell else cell) ∧ (if cell < 0 then -cell else cell).natAbs < 2 ^ 1048576 := by
      split <;> constructor <;> omega
    -- a great cell
    refine ⟨fun σ' H' => σ' = [some (.ref p), some (.int many), none, some (.int at_), some (.int cell), none, none] ∧ H' = H2, ?_, ?_⟩
    · refine ⟨.int at_, rfl, .ref p, rfl, p, _, 0, .ref c, rfl, rfl, eP2, atI_nat (j := 0) rfl, c, _, rfl, .inl eC2, at_, _, rfl, rfl, _, rfl, ite2 (fun e => ?_) (fun e => ?_)⟩
      · refine ⟨.int cell, rfl, cell, rfl, 10, 18, rfl, rfl, ⟨by decide, by decide, by decide⟩, _, _, rfl, rfl, _, rfl, ite2 (fun e => ?_) (fun e => ?_)⟩
        · have hge : (10 : Int) ^ 18 ≤ (if cell < 0 then -cell else cell) := of_decide_eq_true e
          refine ⟨.int cell, rfl, cell, rfl, 10, 18, rfl, rfl, ⟨by decide, by decide, by decide⟩, _, _, rfl, rfl, 2, _, rfl, rfl, .inl ⟨by decide, by decide⟩, .int cell, rfl, cell, 0, rfl, rfl, .inr ⟨_, rfl, _, _, rfl, rfl, ?_⟩⟩
          have hg : ∀ great : Int, great = 2 * ((if cell < 0 then -cell else cell) - 10 ^ 18) + (if decide (cell < 0) = true then 1 else 0) → 0 ≤ great ∧ great.natAbs < 2 ^ 1048578 := fun great hgr => by
            have b1 : (0 : Int) ≤ (if decide (cell < 0) = true then 1 else 0) ∧ (if decide (cell < 0) = true then (1 : Int) else 0) ≤ 1 := by split <;> constructor <;> decide
            have b2 : (10 : Int) ^ 18 = 1000000000000000000 := by decide
            rw [b2] at hge hgr
            obtain ⟨x1, x2⟩ := habs
            have p2 : (2 : Nat) ^ 1048578 = 4 * 2 ^ 1048576 := by rw [show (1048578 : Nat) = 1048576 + 2 from rfl, Nat.pow_add]; omega
            rw [p2]
            generalize (2 : Nat) ^ 1048576 = TT at x2 ⊢
            omega
          obtain ⟨great, hgr⟩ : ∃ great : Int, great = 2 * ((if cell < 0 then -cell else cell) - 10 ^ 18) + (if decide (cell < 0) = true then 1 else 0) := ⟨_, rfl⟩
          obtain ⟨g3, g4⟩ := hg great hgr
          have hgr' : (fun i j => V.int (i + j)) ((fun i j => i * j) 2 ((fun i j => i - j) (if cell < 0 then -cell else cell) (10 ^ (18 : Int).toNat))) (if decide (cell < 0) = true then 1 else 0) = V.int great := by rw [hgr]; rfl
          obtain ⟨d1, d2⟩ := div_abs g3 (by omega : 0 < many) g4
          obtain ⟨b1, b2⟩ := mod_lt' (x := great) (m := many) (by omega)
          refine ⟨_, rfl, .inl ⟨great, by first | rfl | (rw [hgr]; rfl), .int many, rfl, great, many, rfl, rfl, cdw (by omega) hmany, .ref p, rfl, p, _, 2, 2, rfl, rfl, g1, rfl, ?_⟩⟩
          refine ⟨_, rfl, .inl ⟨great, by first | rfl | (rw [hgr]; rfl), .int many, rfl, great, many, rfl, rfl, (by omega : 0 < many), ?_⟩⟩
          exact fin _ _ (at_ + 1) (great / many) b1 (.inl b2) (fun a o z y => by rw [upd_ne z]; exact st2 a o z y) upd_same (by omega) (by omega) d1 (pow_split d2 (by decide))
        · exact ⟨rfl, rfl⟩
      · exact iteF ⟨rfl, rfl⟩
    rintro _ _ ⟨rfl, rfl⟩
    -- a mixed one
    have bat : 0 ≤ at_ ∧ at_ ≤ 1000000 := ⟨h0, by omega⟩
    obtain ⟨x1, x2⟩ := mod_lt' (x := cell) (m := 2147483549) (by decide)
    refine ⟨.int cell, rfl, .inl ⟨cell, rfl, cell, 2147483549, rfl, rfl, (by decide : (0 : Int) < 2147483549), .int at_, rfl, _, at_, rfl, rfl, .inl ⟨by decide, by decide⟩, _, _, rfl, rfl, _, _, rfl, rfl, _, 3, rfl, rfl, ⟨by decide, by decide, ?_⟩, .inl ⟨_, rfl, _, _, rfl, rfl, (by decide : (0 : Int) < 2147483629), ?_⟩⟩⟩
    · show (cell % 2147483549 + _ * at_ + _).natAbs < 2 ^ 64
      omega
    dsimp only
    generalize (cell % 2147483549 + _ * at_ + _) ^ (3 : Int).toNat = cube
    obtain ⟨x3, x4⟩ := mod_lt' (x := cube) (m := 2147483629) (by decide)
    generalize cube % 2147483629 = mixed at x3 x4
    have q1 : 0 ≤ mixed * (2 * at_ + 10000) ∧ mixed * (2 * at_ + 10000) ≤ 2147483629 * 2010000 := ⟨Int.mul_nonneg x3 (by omega), Int.mul_le_mul (by omega) (by omega) (by omega) (by decide)⟩
    have q2 : ∀ c0 : Int, 0 ≤ c0 → c0 ≤ 100000 → 0 ≤ c0 * at_ * at_ ∧ c0 * at_ * at_ ≤ 100000 * 1000000 * 1000000 := fun c0 z1 z2 => ⟨Int.mul_nonneg (Int.mul_nonneg z1 bat.1) bat.1, Int.mul_le_mul (Int.mul_le_mul z2 bat.2 bat.1 (by decide)) bat.2 bat.1 (by decide)⟩
    have q3 : ∀ c0 : Int, 0 ≤ c0 → c0 ≤ 10000 → 0 ≤ mixed * (2 * at_ + c0) ∧ mixed * (2 * at_ + c0) ≤ mixed * (2 * at_ + 10000) := fun c0 z1 z2 => ⟨Int.mul_nonneg x3 (by omega), Int.mul_le_mul_of_nonneg_left (by omega) x3⟩
    refine ⟨.int mixed, rfl, .int at_, rfl, _, at_, rfl, rfl, .inl ⟨by decide, by decide⟩, _, _, rfl, rfl, mixed, _, rfl, rfl, .inl ⟨by omega, by omega⟩, .int at_, rfl, _, at_, rfl, rfl, .inl ⟨by decide, by decide⟩, .int at_, rfl, _, at_, rfl, rfl, .inr ⟨by omega, by omega⟩, _, _, rfl, rfl, _, _, rfl, rfl, _, 5, rfl, rfl, ⟨by decide, by decide, ?_⟩, .inl ⟨_, rfl, _, _, rfl, rfl, (by decide : (0 : Int) < 2147483563), ?_⟩⟩
    · show (mixed * (2 * at_ + _) + _ * at_ * at_ + _).natAbs < 2 ^ 64
      have z1 := q3 _ (by decide : (0 : Int) ≤ 6007) (by decide)
      have z2 := q2 _ (by decide : (0 : Int) ≤ 70853) (by decide)
      omega
    dsimp only
    generalize (mixed * (2 * at_ + _) + _ * at_ * at_ + _) ^ (5 : Int).toNat = five
    obtain ⟨x5, x6⟩ := mod_lt' (x := five) (m := 2147483563) (by decide)
    generalize five % 2147483563 = m2' at x5 x6
    refine ⟨.int m2', rfl, m2', 16, rfl, rfl, ⟨by decide, by decide⟩, .inl ⟨_, rfl, .int many, rfl, _, many, rfl, rfl, (by omega : 0 < many), ?_⟩⟩
    obtain ⟨b1, b2⟩ := mod_lt' (x := m2' / 16) (m := many) (by omega)
    exact fin _ _ (at_ + 1) rest b1 (.inl b2) st2 g1 (by omega) (by omega) h2 h3
end
end K0


namespace K0
open PySem PySem.Spec PyProof.Rows L2 EV
abbrev PP : Program := PySem.Challenge.pw_replycuts_k00_errors_keep_what_they_are
abbrev s_pen : Stmt := topS 11
def bd_pen : List Stmt := defBody s_pen
def so_pen : Scope := defScope s_pen
theorem sc_pen : FnScope ["script"] ["script"] so_pen := ⟨rfl, rfl, rfl, by decide +kernel, rfl, by decide +kernel, by decide +kernel⟩
abbrev s_pick : Stmt := topS 13
def bd_pick : List Stmt := defBody s_pick
def so_pick : Scope := defScope s_pick
theorem sc_pick : FnScope ["pen", "some"] ["pen", "some"] so_pick := ⟨rfl, rfl, rfl, by decide +kernel, rfl, by decide +kernel, by decide +kernel⟩
def ir_pick : B := (.ret (.ix (.nm 1) (.drw (.cons (.nm 0) (.cons (.blt 0 (.cons (.nm 1) .nil)) .nil)))))
abbrev s_any : Stmt := topS 14
def bd_any : List Stmt := defBody s_any
def so_any : Scope := defScope s_any
theorem sc_any : FnScope ["pen"] ["pen"] so_any := ⟨rfl, rfl, rfl, by decide +kernel, rfl, by decide +kernel, by decide +kernel⟩
def ir_any : B := (.ret (.cal 0 (.cons (.nm 0) (.cons (.lst false (.cons (.cst .non) (.cons (.cst (.bl true)) (.cons (.cst (.int 0)) (.cons (.neg (.cst (.int 7))) (.cons (.bin 5 (.cst (.int 10)) (.cst (.int 40))) (.cons (.cst (.str [])) (.cons (.cst (.str [112, 101, 103])) (.cons (.tup (.cons (.cst (.int 1)) (.cons (.cst (.int 2)) .nil))) (.cons (.lst false (.cons (.cst (.int 1)) (.cons (.lst false (.cons (.cst (.int 2)) .nil)) .nil))) (.cons (.dct (.cons (.cst (.str [97])) (.cons (.cst (.int 1)) .nil))) (.cons (.tup .nil) (.cons (.cst (.bl false)) .nil))))))))))))) .nil))))
abbrev s_raised : Stmt := topS 15
def bd_raised : List Stmt := defBody s_raised
def so_raised : Scope := defScope s_raised
theorem sc_raised : FnScope ["way", "one", "other"] ["way", "one", "other"] so_raised := ⟨rfl, rfl, rfl, by decide +kernel, rfl, by decide +kernel, by decide +kernel⟩
def ir_raised : B := (.ite (.cmp 4 (.nm 0) (.cst (.int 0)))
 (.rse 1 [0] (.cons (.nm 1) .nil))
 .nil 
(.ite (.cmp 4 (.nm 0) (.cst (.int 1)))
 (.rse 1 [0] (.cons (.nm 1) .nil))
 .nil 
(.ite (.cmp 4 (.nm 0) (.cst (.int 2)))
 (.rse 2 [0] (.cons (.nm 1) .nil))
 .nil 
(.ite (.cmp 4 (.nm 0) (.cst (.int 3)))
 (.rse 2 [0] (.cons (.nm 1) .nil))
 .nil 
(.ite (.cmp 4 (.nm 0) (.cst (.int 4)))
 (.rse 6 [0] (.cons (.nm 1) .nil))
 .nil 
(.ite (.cmp 4 (.nm 0) (.cst (.int 5)))
 (.rse 6 [0] (.cons (.nm 1) .nil))
 .nil 
(.ite (.cmp 4 (.nm 0) (.cst (.int 6)))
 (.rse 5 [3] (.cons (.nm 1) .nil))
 .nil 
(.ite (.cmp 4 (.nm 0) (.cst (.int 7)))
 (.rse 5 [3] (.cons (.nm 1) .nil))
 .nil 
(.ite (.cmp 4 (.nm 0) (.cst (.int 8)))
 (.rse 7 [2] (.cons (.nm 1) .nil))
 .nil 
(.ite (.cmp 4 (.nm 0) (.cst (.int 9)))
 (.rse 7 [2] (.cons (.nm 1) .nil))
 .nil 
(.ite (.cmp 4 (.nm 0) (.cst (.int 10)))
 (.rse 4 [2] (.cons (.nm 1) .nil))
 .nil 
(.ite (.cmp 4 (.nm 0) (.cst (.int 11)))
 (.rse 4 [2] (.cons (.nm 1) .nil))
 .nil 
(.ite (.cmp 4 (.nm 0) (.cst (.int 12)))
 (.rse 3 [1, 2] (.cons (.nm 1) (.cons (.nm 2) .nil)))
 .nil 
(.ite (.cmp 4 (.nm 0) (.cst (.int 13)))
 (.rse 3 [2, 1] (.cons (.nm 2) (.cons (.nm 1) .nil)))
 .nil 
(.ite (.cmp 4 (.nm 0) (.cst (.int 14)))
 (.rse 8 [4, 5] (.cons (.nm 1) (.cons (.nm 2) .nil)))
 .nil 
(.rse 8 [5, 4] (.cons (.nm 2) (.cons (.nm 1) .nil))))))))))))))))))
abbrev s_fields : Stmt := topS 16
def bd_fields : List Stmt := defBody s_fields
def so_fields : Scope := defScope s_fields
theorem sc_fields : FnScope ["way", "error"] ["way", "error"] so_fields := ⟨rfl, rfl, rfl, by decide +kernel, rfl, by decide +kernel, by decide +kernel⟩
def ir_fields : B := (.ite (.cmp 0 (.nm 0) (.cst (.int 6)))
 (.ret (.lst false (.cons (.att (.nm 1) 0) .nil)))
 .nil 
(.ite (.cmp 0 (.nm 0) (.cst (.int 8)))
 (.ret (.lst false (.cons (.att (.nm 1) 3) .nil)))
 .nil 
(.ite (.cmp 0 (.nm 0) (.cst (.int 12)))
 (.ret (.lst false (.cons (.att (.nm 1) 2) .nil)))
 .nil 
(.ret (.ite (.cmp 0 (.nm 0) (.cst (.int 14))) (.lst false (.cons (.att (.nm 1) 1) (.cons (.att (.nm 1) 2) .nil))) (.lst false (.cons (.att (.nm 1) 4) (.cons (.att (.nm 1) 5) .nil))))))))
abbrev s_law : Stmt := topS 17
def bd_law : List Stmt := defBody s_law
def so_law : Scope := defScope s_law
theorem sc_law : FnScope ["script", "pen", "way", "one", "other", "caught", "error", "kinds", "at"] ["script"] so_law := ⟨rfl, rfl, rfl, by decide +kernel, rfl, by decide +kernel, by decide +kernel⟩
def ir_turn : B := (.par [3, 4, 5] (.cons (.cal 1 (.cons (.nm 1) .nil)) (.cons (.cal 1 (.cons (.nm 1) .nil)) (.cons (.cst .non) .nil))) 
(.tryE 0 0 (.cal 2 (.cons (.nm 2) (.cons (.nm 3) (.cons (.nm 4) .nil)))) 0 6 5 
(.asg (.nm 7) (.lst false (.cons (.isi (.nm 5) [1]) (.cons (.isi (.nm 5) [2]) (.cons (.isi (.nm 5) [6]) (.cons (.isi (.nm 5) [5]) (.cons (.isi (.nm 5) [7]) (.cons (.isi (.nm 5) [4]) .nil))))))) 
(.asg (.nm 7) (.bin 0 (.nm 7) (.lst false (.cons (.isi (.nm 5) [3]) (.cons (.isi (.nm 5) [8]) .nil)))) 
(.ite (.or (.cmp 5 (.nm 7) (.lc false [8] (.nm 8) (.rng (.cons (.cst (.int 8)) .nil)) .one (.cmp 4 (.nm 8) (.bin 3 (.nm 2) (.cst (.int 2)))))) (.not (.isi (.nm 5) [1010])))
 (.ret (.cst (.bl false)))
 .nil 
(.ite (.cmp 5 (.blt 1 (.cons (.cal 3 (.cons (.nm 2) (.cons (.nm 5) .nil))) .nil)) (.blt 1 (.cons (.ite (.cmp 2 (.nm 2) (.cst (.int 11))) (.lst false (.cons (.nm 3) (.cons (.nm 4) .nil))) (.lst false (.cons (.nm 3) .nil))) .nil)))
 (.ret (.cst (.bl false)))
 .nil 
.nil))))))
abbrev FnD (K : PySem.W.Frag) (x q : Str) (st : Stmt) (f : Addr) (fd : FuncData) : Prop := FunD K x q (defArgs st) (defBody st) (defScope st) [] [] f fd
def tab : Tab where
  fn := fun f => match f with
    | 0 => some ⟨2, 2, [], ir_pick⟩
    | 1 => some ⟨1, 1, [], ir_any⟩
    | 2 => some ⟨3, 3, [], ir_raised⟩
    | 3 => some ⟨2, 2, [], ir_fields⟩
    | _ => none
  rp := reprOp
  gd := fun _ => .non
  sub := fun c d => d == 0 || d == 1010 || c == d
  exc := fun c => match c with
    | 1 => true
    | 2 => true
    | 3 => true
    | 4 => true
    | 5 => true
    | 6 => true
    | 7 => true
    | 8 => true
    | _ => false
  ins := fun _ => false
  ty := fun _ _ => false
/-- what the top has written -/
structure Tp (K : PySem.W.Frag) (mg : Str → Option Value) where
  f_pen : Addr
  d_pen : FuncData
  F_pen : FunD K "_law_pen" "_law_pen" (defArgs s_pen) bd_pen so_pen [] [] f_pen d_pen
  m_pen : mg "_law_pen" = some (.ref f_pen)
  f_pick : Addr
  d_pick : FuncData
  F_pick : FunD K "_law_pick" "_law_pick" (defArgs s_pick) bd_pick so_pick [] [] f_pick d_pick
  m_pick : mg "_law_pick" = some (.ref f_pick)
  f_any : Addr
  d_any : FuncData
  F_any : FunD K "_law_any" "_law_any" (defArgs s_any) bd_any so_any [] [] f_any d_any
  m_any : mg "_law_any" = some (.ref f_any)
  f_raised : Addr
  d_raised : FuncData
  F_raised : FunD K "_law_raised" "_law_raised" (defArgs s_raised) bd_raised so_raised [] [] f_raised d_raised
  m_raised : mg "_law_raised" = some (.ref f_raised)
  f_fields : Addr
  d_fields : FuncData
  F_fields : FunD K "_law_fields" "_law_fields" (defArgs s_fields) bd_fields so_fields [] [] f_fields d_fields
  m_fields : mg "_law_fields" = some (.ref f_fields)
  f_law : Addr
  d_law : FuncData
  F_law : FunD K "law" "law" (defArgs s_law) bd_law so_law [] [] f_law d_law
  f_draw : Addr
  d_draw : FuncData
  F_draw : FnD K "_law_draw" "_law_draw" s_draw f_draw d_draw
  m_draw : mg "_law_draw" = some (.ref f_draw)
  c0 : Addr
  m0 : mg "ReplyError" = some (.ref c0)
  ex0 : PySem.W.exmOne K (.ref c0) (.ref c0) = some true
  c1 : Addr
  m1 : mg "BadValue" = some (.ref c1)
  ex1 : PySem.W.exmOne K (.ref c1) (.ref c0) = some true
  c2 : Addr
  m2 : mg "BadNumber" = some (.ref c2)
  ex2 : PySem.W.exmOne K (.ref c2) (.ref c0) = some true
  c3 : Addr
  m3 : mg "BadText" = some (.ref c3)
  ex3 : PySem.W.exmOne K (.ref c3) (.ref c0) = some true
  c4 : Addr
  m4 : mg "BadLine" = some (.ref c4)
  ex4 : PySem.W.exmOne K (.ref c4) (.ref c0) = some true
  c5 : Addr
  m5 : mg "NoName" = some (.ref c5)
  ex5 : PySem.W.exmOne K (.ref c5) (.ref c0) = some true
  c6 : Addr
  m6 : mg "Misfit" = some (.ref c6)
  ex6 : PySem.W.exmOne K (.ref c6) (.ref c0) = some true
  c7 : Addr
  m7 : mg "Nothing" = some (.ref c7)
  ex7 : PySem.W.exmOne K (.ref c7) (.ref c0) = some true
  c8 : Addr
  m8 : mg "TooMany" = some (.ref c8)
  ex8 : PySem.W.exmOne K (.ref c8) (.ref c0) = some true
  fi1 : Addr
  cc1 : Addr
  ca1 : Addr
  di1 : FuncData
  Z1 : ErrC PP K mg c1 fi1 cc1 ca1 "BadValue.__init__" (iS 2) di1
  iC1 : PySem.W.findIn K (.ref c1) "__init__" = some (some (.ref fi1))
  tI1 : PySem.W.typeIn K (.ref fi1) = some (.type "function")
  xf1 : XfC K c1
  xc1 : ExcC K c1
  kv1 : PySem.W.kitOne K (.ref c1) (.type "ValueError") = some true
  n1_part : PySem.W.findIn K (.ref c1) "part" = some none
  n1_line : PySem.W.findIn K (.ref c1) "line" = some none
  n1_word : PySem.W.findIn K (.ref c1) "word" = some none
  n1_name : PySem.W.findIn K (.ref c1) "name" = some none
  n1_what : PySem.W.findIn K (.ref c1) "what" = some none
  n1_most : PySem.W.findIn K (.ref c1) "most" = some none
  k1_1 : PySem.W.kitOne K (.ref c1) (.ref c1) = some true
  k1_2 : PySem.W.kitOne K (.ref c1) (.ref c2) = some false
  k1_3 : PySem.W.kitOne K (.ref c1) (.ref c3) = some false
  k1_4 : PySem.W.kitOne K (.ref c1) (.ref c4) = some false
  k1_5 : PySem.W.kitOne K (.ref c1) (.ref c5) = some false
  k1_6 : PySem.W.kitOne K (.ref c1) (.ref c6) = some false
  k1_7 : PySem.W.kitOne K (.ref c1) (.ref c7) = some false
  k1_8 : PySem.W.kitOne K (.ref c1) (.ref c8) = some false
  fi2 : Addr
  cc2 : Addr
  ca2 : Addr
  di2 : FuncData
  Z2 : ErrC PP K mg c2 fi2 cc2 ca2 "BadNumber.__init__" (iS 3) di2
  iC2 : PySem.W.findIn K (.ref c2) "__init__" = some (some (.ref fi2))
  tI2 : PySem.W.typeIn K (.ref fi2) = some (.type "function")
  xf2 : XfC K c2
  xc2 : ExcC K c2
  kv2 : PySem.W.kitOne K (.ref c2) (.type "ValueError") = some true
  n2_part : PySem.W.findIn K (.ref c2) "part" = some none
  n2_line : PySem.W.findIn K (.ref c2) "line" = some none
  n2_word : PySem.W.findIn K (.ref c2) "word" = some none
  n2_name : PySem.W.findIn K (.ref c2) "name" = some none
  n2_what : PySem.W.findIn K (.ref c2) "what" = some none
  n2_most : PySem.W.findIn K (.ref c2) "most" = some none
  k2_1 : PySem.W.kitOne K (.ref c2) (.ref c1) = some false
  k2_2 : PySem.W.kitOne K (.ref c2) (.ref c2) = some true
  k2_3 : PySem.W.kitOne K (.ref c2) (.ref c3) = some false
  k2_4 : PySem.W.kitOne K (.ref c2) (.ref c4) = some false
  k2_5 : PySem.W.kitOne K (.ref c2) (.ref c5) = some false
  k2_6 : PySem.W.kitOne K (.ref c2) (.ref c6) = some false
  k2_7 : PySem.W.kitOne K (.ref c2) (.ref c7) = some false
  k2_8 : PySem.W.kitOne K (.ref c2) (.ref c8) = some false
  fi3 : Addr
  cc3 : Addr
  ca3 : Addr
  di3 : FuncData
  Z3 : ErrC PP K mg c3 fi3 cc3 ca3 "BadText.__init__" (iS 4) di3
  iC3 : PySem.W.findIn K (.ref c3) "__init__" = some (some (.ref fi3))
  tI3 : PySem.W.typeIn K (.ref fi3) = some (.type "function")
  xf3 : XfC K c3
  xc3 : ExcC K c3
  kv3 : PySem.W.kitOne K (.ref c3) (.type "ValueError") = some true
  n3_part : PySem.W.findIn K (.ref c3) "part" = some none
  n3_line : PySem.W.findIn K (.ref c3) "line" = some none
  n3_word : PySem.W.findIn K (.ref c3) "word" = some none
  n3_name : PySem.W.findIn K (.ref c3) "name" = some none
  n3_what : PySem.W.findIn K (.ref c3) "what" = some none
  n3_most : PySem.W.findIn K (.ref c3) "most" = some none
  k3_1 : PySem.W.kitOne K (.ref c3) (.ref c1) = some false
  k3_2 : PySem.W.kitOne K (.ref c3) (.ref c2) = some false
  k3_3 : PySem.W.kitOne K (.ref c3) (.ref c3) = some true
  k3_4 : PySem.W.kitOne K (.ref c3) (.ref c4) = some false
  k3_5 : PySem.W.kitOne K (.ref c3) (.ref c5) = some false
  k3_6 : PySem.W.kitOne K (.ref c3) (.ref c6) = some false
  k3_7 : PySem.W.kitOne K (.ref c3) (.ref c7) = some false
  k3_8 : PySem.W.kitOne K (.ref c3) (.ref c8) = some false
  fi4 : Addr
  cc4 : Addr
  ca4 : Addr
  di4 : FuncData
  Z4 : ErrC PP K mg c4 fi4 cc4 ca4 "BadLine.__init__" (iS 5) di4
  iC4 : PySem.W.findIn K (.ref c4) "__init__" = some (some (.ref fi4))
  tI4 : PySem.W.typeIn K (.ref fi4) = some (.type "function")
  xf4 : XfC K c4
  xc4 : ExcC K c4
  kv4 : PySem.W.kitOne K (.ref c4) (.type "ValueError") = some true
  n4_part : PySem.W.findIn K (.ref c4) "part" = some none
  n4_line : PySem.W.findIn K (.ref c4) "line" = some none
  n4_word : PySem.W.findIn K (.ref c4) "word" = some none
  n4_name : PySem.W.findIn K (.ref c4) "name" = some none
  n4_what : PySem.W.findIn K (.ref c4) "what" = some none
  n4_most : PySem.W.findIn K (.ref c4) "most" = some none
  k4_1 : PySem.W.kitOne K (.ref c4) (.ref c1) = some false
  k4_2 : PySem.W.kitOne K (.ref c4) (.ref c2) = some false
  k4_3 : PySem.W.kitOne K (.ref c4) (.ref c3) = some false
  k4_4 : PySem.W.kitOne K (.ref c4) (.ref c4) = some true
  k4_5 : PySem.W.kitOne K (.ref c4) (.ref c5) = some false
  k4_6 : PySem.W.kitOne K (.ref c4) (.ref c6) = some false
  k4_7 : PySem.W.kitOne K (.ref c4) (.ref c7) = some false
  k4_8 : PySem.W.kitOne K (.ref c4) (.ref c8) = some false
  fi5 : Addr
  cc5 : Addr
  ca5 : Addr
  di5 : FuncData
  Z5 : ErrC PP K mg c5 fi5 cc5 ca5 "NoName.__init__" (iS 6) di5
  iC5 : PySem.W.findIn K (.ref c5) "__init__" = some (some (.ref fi5))
  tI5 : PySem.W.typeIn K (.ref fi5) = some (.type "function")
  xf5 : XfC K c5
  xc5 : ExcC K c5
  kv5 : PySem.W.kitOne K (.ref c5) (.type "ValueError") = some true
  n5_part : PySem.W.findIn K (.ref c5) "part" = some none
  n5_line : PySem.W.findIn K (.ref c5) "line" = some none
  n5_word : PySem.W.findIn K (.ref c5) "word" = some none
  n5_name : PySem.W.findIn K (.ref c5) "name" = some none
  n5_what : PySem.W.findIn K (.ref c5) "what" = some none
  n5_most : PySem.W.findIn K (.ref c5) "most" = some none
  k5_1 : PySem.W.kitOne K (.ref c5) (.ref c1) = some false
  k5_2 : PySem.W.kitOne K (.ref c5) (.ref c2) = some false
  k5_3 : PySem.W.kitOne K (.ref c5) (.ref c3) = some false
  k5_4 : PySem.W.kitOne K (.ref c5) (.ref c4) = some false
  k5_5 : PySem.W.kitOne K (.ref c5) (.ref c5) = some true
  k5_6 : PySem.W.kitOne K (.ref c5) (.ref c6) = some false
  k5_7 : PySem.W.kitOne K (.ref c5) (.ref c7) = some false
  k5_8 : PySem.W.kitOne K (.ref c5) (.ref c8) = some false
  fi6 : Addr
  cc6 : Addr
  ca6 : Addr
  di6 : FuncData
  Z6 : ErrC PP K mg c6 fi6 cc6 ca6 "Misfit.__init__" (iS 7) di6
  iC6 : PySem.W.findIn K (.ref c6) "__init__" = some (some (.ref fi6))
  tI6 : PySem.W.typeIn K (.ref fi6) = some (.type "function")
  xf6 : XfC K c6
  xc6 : ExcC K c6
  kv6 : PySem.W.kitOne K (.ref c6) (.type "ValueError") = some true
  n6_part : PySem.W.findIn K (.ref c6) "part" = some none
  n6_line : PySem.W.findIn K (.ref c6) "line" = some none
  n6_word : PySem.W.findIn K (.ref c6) "word" = some none
  n6_name : PySem.W.findIn K (.ref c6) "name" = some none
  n6_what : PySem.W.findIn K (.ref c6) "what" = some none
  n6_most : PySem.W.findIn K (.ref c6) "most" = some none
  k6_1 : PySem.W.kitOne K (.ref c6) (.ref c1) = some false
  k6_2 : PySem.W.kitOne K (.ref c6) (.ref c2) = some false
  k6_3 : PySem.W.kitOne K (.ref c6) (.ref c3) = some false
  k6_4 : PySem.W.kitOne K (.ref c6) (.ref c4) = some false
  k6_5 : PySem.W.kitOne K (.ref c6) (.ref c5) = some false
  k6_6 : PySem.W.kitOne K (.ref c6) (.ref c6) = some true
  k6_7 : PySem.W.kitOne K (.ref c6) (.ref c7) = some false
  k6_8 : PySem.W.kitOne K (.ref c6) (.ref c8) = some false
  fi7 : Addr
  cc7 : Addr
  ca7 : Addr
  di7 : FuncData
  Z7 : ErrC PP K mg c7 fi7 cc7 ca7 "Nothing.__init__" (iS 8) di7
  iC7 : PySem.W.findIn K (.ref c7) "__init__" = some (some (.ref fi7))
  tI7 : PySem.W.typeIn K (.ref fi7) = some (.type "function")
  xf7 : XfC K c7
  xc7 : ExcC K c7
  kv7 : PySem.W.kitOne K (.ref c7) (.type "ValueError") = some true
  n7_part : PySem.W.findIn K (.ref c7) "part" = some none
  n7_line : PySem.W.findIn K (.ref c7) "line" = some none
  n7_word : PySem.W.findIn K (.ref c7) "word" = some none
  n7_name : PySem.W.findIn K (.ref c7) "name" = some none
  n7_what : PySem.W.findIn K (.ref c7) "what" = some none
  n7_most : PySem.W.findIn K (.ref c7) "most" = some none
  k7_1 : PySem.W.kitOne K (.ref c7) (.ref c1) = some false
  k7_2 : PySem.W.kitOne K (.ref c7) (.ref c2) = some false
  k7_3 : PySem.W.kitOne K (.ref c7) (.ref c3) = some false
  k7_4 : PySem.W.kitOne K (.ref c7) (.ref c4) = some false
  k7_5 : PySem.W.kitOne K (.ref c7) (.ref c5) = some false
  k7_6 : PySem.W.kitOne K (.ref c7) (.ref c6) = some false
  k7_7 : PySem.W.kitOne K (.ref c7) (.ref c7) = some true
  k7_8 : PySem.W.kitOne K (.ref c7) (.ref c8) = some false
  fi8 : Addr
  cc8 : Addr
  ca8 : Addr
  di8 : FuncData
  Z8 : ErrC PP K mg c8 fi8 cc8 ca8 "TooMany.__init__" (iS 9) di8
  iC8 : PySem.W.findIn K (.ref c8) "__init__" = some (some (.ref fi8))
  tI8 : PySem.W.typeIn K (.ref fi8) = some (.type "function")
  xf8 : XfC K c8
  xc8 : ExcC K c8
  kv8 : PySem.W.kitOne K (.ref c8) (.type "ValueError") = some true
  n8_part : PySem.W.findIn K (.ref c8) "part" = some none
  n8_line : PySem.W.findIn K (.ref c8) "line" = some none
  n8_word : PySem.W.findIn K (.ref c8) "word" = some none
  n8_name : PySem.W.findIn K (.ref c8) "name" = some none
  n8_what : PySem.W.findIn K (.ref c8) "what" = some none
  n8_most : PySem.W.findIn K (.ref c8) "most" = some none
  k8_1 : PySem.W.kitOne K (.ref c8) (.ref c1) = some false
  k8_2 : PySem.W.kitOne K (.ref c8) (.ref c2) = some false
  k8_3 : PySem.W.kitOne K (.ref c8) (.ref c3) = some false
  k8_4 : PySem.W.kitOne K (.ref c8) (.ref c4) = some false
  k8_5 : PySem.W.kitOne K (.ref c8) (.ref c5) = some false
  k8_6 : PySem.W.kitOne K (.ref c8) (.ref c6) = some false
  k8_7 : PySem.W.kitOne K (.ref c8) (.ref c7) = some false
  k8_8 : PySem.W.kitOne K (.ref c8) (.ref c8) = some true
  b_int : mg "int" = none
  b_len : mg "len" = none
  b_abs : mg "abs" = none
  b_list : mg "list" = none
  b_repr : mg "repr" = none
  b_isinstance : mg "isinstance" = none
  b_range : mg "range" = none
  b_ValueError : mg "ValueError" = none
section
variable {w : World} {K : PySem.W.Frag} {mg : Str → Option Value} {base : Heap}
def fl0 : Nat → Str := fun f => match f with
  | 0 => "part"
  | 1 => "line"
  | 2 => "word"
  | 3 => "name"
  | 4 => "what"
  | 5 => "most"
  | _ => ""
def wd (T : Tp K mg) : Wd where
  C := fun i => match i with
    | 1 => T.c1
    | 2 => T.c2
    | 3 => T.c3
    | 4 => T.c4
    | 5 => T.c5
    | 6 => T.c6
    | 7 => T.c7
    | 8 => T.c8
    | _ => T.c0
  fl := fl0
  n0 := 1000000
def fld : Nat → Bool := fun f => match f with
  | 0 => true
  | 1 => true
  | 2 => true
  | 3 => true
  | 4 => true
  | 5 => true
  | _ => false
theorem exc_by {Q : Nat → Prop} (h1 : Q 1) (h2 : Q 2) (h3 : Q 3) (h4 : Q 4) (h5 : Q 5) (h6 : Q 6) (h7 : Q 7) (h8 : Q 8) : ∀ c, tab.exc c = true → Q c := fun c h => match c, h with
  | 1, _ => h1
  | 2, _ => h2
  | 3, _ => h3
  | 4, _ => h4
  | 5, _ => h5
  | 6, _ => h6
  | 7, _ => h7
  | 8, _ => h8
  | 0, h => by cases h
  | n + 9, h => by cases h
theorem fld_by {Q : Nat → Prop} (h0 : Q 0) (h1 : Q 1) (h2 : Q 2) (h3 : Q 3) (h4 : Q 4) (h5 : Q 5) : ∀ f, fld f = true → Q f := fun f h => match f, h with
  | 0, _ => h0
  | 1, _ => h1
  | 2, _ => h2
  | 3, _ => h3
  | 4, _ => h4
  | 5, _ => h5
  | n + 6, h => by cases h
theorem ne4 : (fl0 1 == fl0 2) = false := by decide +kernel
theorem ne8 : (fl0 4 == fl0 5) = false := by decide +kernel
theorem fl_inj : ∀ f g, fld f = true → fl0 f = fl0 g → f = g := by
  intro f g h e
  have k : ∀ f, f < 6 → ∀ g, g < 7 → fl0 f = fl0 g → f = g := by decide +kernel
  have hf : f < 6 := fld_by (Q := fun f => f < 6) (by decide) (by decide) (by decide) (by decide) (by decide) (by decide) f h
  by_cases hg : g < 7
  · exact k f hf g hg e
  · have e6 : fl0 g = fl0 6 := by
      match g, hg with
      | n + 7, _ => rfl
    exact absurd (k f hf 6 (by decide) (e.trans e6)) (by omega)
theorem cf (T : Tp K mg) : ClsF K (wd T) tab.exc tab.ins fld where
  eC := exc_by ⟨T.xf1, T.xc1⟩ ⟨T.xf2, T.xc2⟩ ⟨T.xf3, T.xc3⟩ ⟨T.xf4, T.xc4⟩ ⟨T.xf5, T.xc5⟩ ⟨T.xf6, T.xc6⟩ ⟨T.xf7, T.xc7⟩ ⟨T.xf8, T.xc8⟩
  iC := fun _ h => by cases h
  iI := fun _ h => by cases h
  eF := fun c f h hf => by
    revert f
    exact exc_by (Q := fun c => ∀ f, fld f = true → PySem.W.findIn K (.ref ((wd T).C c)) ((wd T).fl f) = some none) (fld_by T.n1_part T.n1_line T.n1_word T.n1_name T.n1_what T.n1_most) (fld_by T.n2_part T.n2_line T.n2_word T.n2_name T.n2_what T.n2_most) (fld_by T.n3_part T.n3_line T.n3_word T.n3_name T.n3_what T.n3_most) (fld_by T.n4_part T.n4_line T.n4_word T.n4_name T.n4_what T.n4_most) (fld_by T.n5_part T.n5_line T.n5_word T.n5_name T.n5_what T.n5_most) (fld_by T.n6_part T.n6_line T.n6_word T.n6_name T.n6_what T.n6_most) (fld_by T.n7_part T.n7_line T.n7_word T.n7_name T.n7_what T.n7_most) (fld_by T.n8_part T.n8_line T.n8_word T.n8_name T.n8_what T.n8_most) c h
  iF := fun _ _ h => by cases h
  inj := fl_inj
theorem is_own (T : Tp K mg) {X : Cx} {j : Nat} {nm : Str} {p2 : Pos} (hK : X.K = K) (hm : X.mg nm = some (.ref ((wd T).C j))) (hk : ∀ d, tab.exc d = true → PySem.W.kitOne K (.ref ((wd T).C d)) (.ref ((wd T).C j)) = some (tab.sub d j)) (hg : L2.Gl X nm) (hd : (nm == ("__debug__" : Str)) = false) : IsAt X (wd T) tab j nm p2 := by
  subst hK
  exact ⟨_, .ref ((wd T).C j), ⟨fun _ _ h => (by cases h), fun d h => h.elim (hk d) fun z => (by cases z)⟩, pe_glob hg hm rfl hd, .own _, fun w r => ClsV.eq (.own _) r⟩
theorem is_BadValue (T : Tp K mg) {X : Cx} {p2 : Pos} (hK : X.K = K := by rfl) (hM : X.mg = mg := by rfl) (hg : L2.Gl X "BadValue" := by rfl) : IsAt X (wd T) tab 1 "BadValue" p2 := is_own T hK (by rw [hM]; exact T.m1) (exc_by T.k1_1 T.k2_1 T.k3_1 T.k4_1 T.k5_1 T.k6_1 T.k7_1 T.k8_1) hg (by decide)
theorem is_BadNumber (T : Tp K mg) {X : Cx} {p2 : Pos} (hK : X.K = K := by rfl) (hM : X.mg = mg := by rfl) (hg : L2.Gl X "BadNumber" := by rfl) : IsAt X (wd T) tab 2 "BadNumber" p2 := is_own T hK (by rw [hM]; exact T.m2) (exc_by T.k1_2 T.k2_2 T.k3_2 T.k4_2 T.k5_2 T.k6_2 T.k7_2 T.k8_2) hg (by decide)
theorem is_BadText (T : Tp K mg) {X : Cx} {p2 : Pos} (hK : X.K = K := by rfl) (hM : X.mg = mg := by rfl) (hg : L2.Gl X "BadText" := by rfl) : IsAt X (wd T) tab 3 "BadText" p2 := is_own T hK (by rw [hM]; exact T.m3) (exc_by T.k1_3 T.k2_3 T.k3_3 T.k4_3 T.k5_3 T.k6_3 T.k7_3 T.k8_3) hg (by decide)
theorem is_BadLine (T : Tp K mg) {X : Cx} {p2 : Pos} (hK : X.K = K := by rfl) (hM : X.mg = mg := by rfl) (hg : L2.Gl X "BadLine" := by rfl) : IsAt X (wd T) tab 4 "BadLine" p2 := is_own T hK (by rw [hM]; exact T.m4) (exc_by T.k1_4 T.k2_4 T.k3_4 T.k4_4 T.k5_4 T.k6_4 T.k7_4 T.k8_4) hg (by decide)
theorem is_NoName (T : Tp K mg) {X : Cx} {p2 : Pos} (hK : X.K = K := by rfl) (hM : X.mg = mg := by rfl) (hg : L2.Gl X "NoName" := by rfl) : IsAt X (wd T) tab 5 "NoName" p2 := is_own T hK (by rw [hM]; exact T.m5) (exc_by T.k1_5 T.k2_5 T.k3_5 T.k4_5 T.k5_5 T.k6_5 T.k7_5 T.k8_5) hg (by decide)
theorem is_Misfit (T : Tp K mg) {X : Cx} {p2 : Pos} (hK : X.K = K := by rfl) (hM : X.mg = mg := by rfl) (hg : L2.Gl X "Misfit" := by rfl) : IsAt X (wd T) tab 6 "Misfit" p2 := is_own T hK (by rw [hM]; exact T.m6) (exc_by T.k1_6 T.k2_6 T.k3_6 T.k4_6 T.k5_6 T.k6_6 T.k7_6 T.k8_6) hg (by decide)
theorem is_Nothing (T : Tp K mg) {X : Cx} {p2 : Pos} (hK : X.K = K := by rfl) (hM : X.mg = mg := by rfl) (hg : L2.Gl X "Nothing" := by rfl) : IsAt X (wd T) tab 7 "Nothing" p2 := is_own T hK (by rw [hM]; exact T.m7) (exc_by T.k1_7 T.k2_7 T.k3_7 T.k4_7 T.k5_7 T.k6_7 T.k7_7 T.k8_7) hg (by decide)
theorem is_TooMany (T : Tp K mg) {X : Cx} {p2 : Pos} (hK : X.K = K := by rfl) (hM : X.mg = mg := by rfl) (hg : L2.Gl X "TooMany" := by rfl) : IsAt X (wd T) tab 8 "TooMany" p2 := is_own T hK (by rw [hM]; exact T.m8) (exc_by T.k1_8 T.k2_8 T.k3_8 T.k4_8 T.k5_8 T.k6_8 T.k7_8 T.k8_8) hg (by decide)
theorem is_ValueError (T : Tp K mg) {X : Cx} {p2 : Pos} (hK : X.K = K := by rfl) (hM : X.mg = mg := by rfl) (hg : L2.Gl X "ValueError" := by rfl) : IsAt X (wd T) tab 1010 "ValueError" p2 := by
  subst hK
  exact ⟨_, .ty "ValueError", ⟨fun _ _ h => (by cases h), fun d h => h.elim (exc_by (Q := fun d => PySem.W.kitOne X.K (.ref ((wd T).C d)) (.type "ValueError") = some (tab.sub d 1010)) T.kv1 T.kv2 T.kv3 T.kv4 T.kv5 T.kv6 T.kv7 T.kv8 d) fun z => (by cases z)⟩, pe_bltn hg (by rw [hM]; exact T.b_ValueError) boot_ValueError rfl (by decide) (by decide), .ty _, fun w r => ClsV.eq (.ty _) r⟩
end
end K0

namespace K0
open PySem PySem.Spec PyProof.Rows L2 EV
section
variable {w : World} {K : PySem.W.Frag} {mg : Str → Option Value} {base : Heap}
theorem vals_rev : ∀ {vs : List V} {us : List Value}, Vals vs us → Vals vs.reverse us.reverse
  | _, _, .nil => .nil
  | _, _, .cons r t => by rw [List.reverse_cons, List.reverse_cons]; exact (vals_rev t).append (.cons r .nil)
theorem b_pen (T : Tp K mg) : Binds K T.d_pen ["script"] [] := T.F_pen.bindsN fun _ _ _ _ _ _ us hl => match us, hl with | [_], _ => rfl
theorem b_pick (T : Tp K mg) : Binds K T.d_pick ["pen", "some"] [] := T.F_pick.bindsN fun _ _ _ _ _ _ us hl => match us, hl with | [_, _], _ => rfl
theorem b_any (T : Tp K mg) : Binds K T.d_any ["pen"] [] := T.F_any.bindsN fun _ _ _ _ _ _ us hl => match us, hl with | [_], _ => rfl
theorem b_raised (T : Tp K mg) : Binds K T.d_raised ["way", "one", "other"] [] := T.F_raised.bindsN fun _ _ _ _ _ _ us hl => match us, hl with | [_, _, _], _ => rfl
theorem b_fields (T : Tp K mg) : Binds K T.d_fields ["way", "error"] [] := T.F_fields.bindsN fun _ _ _ _ _ _ us hl => match us, hl with | [_, _], _ => rfl
theorem b_draw (T : Tp K mg) : Binds K T.d_draw ["pen", "many"] [] := T.F_draw.bindsN fun _ _ _ _ _ _ us hl => match us, hl with | [_, _], _ => rfl
theorem dr (T : Tp K mg) : DrawAt PP w K mg base (wd T) 1 := ⟨by show 4000 ≤ 1000000; decide, T.f_draw, T.d_draw, T.m_draw, T.F_draw.kp, ok_draw T.F_draw T.b_int T.b_len T.b_abs, b_draw T⟩
theorem bi1 (T : Tp K mg) : Binds K T.di1 ["self", "part"] [] := by
  obtain ⟨oc, od, kV, doc, pm, an, ct, osl, e, lk⟩ := T.Z1.lk
  rw [e]
  exact Binds.all fun us hl => match us, hl with | [_, _], _ => rfl
theorem er1 (T : Tp K mg) : ErrOk PP w K mg base T.c1 T.fi1 "BadValue" T.di1 ["self", "part"] (RD.spI1 T.c1 "part") := ⟨T.Z1.oex, T.iC1, T.tI1, fun k => F_Value T.Z1 T.n1_part, bi1 T, T.m1⟩
theorem kb1 (T : Tp K mg) : KBn K T.di1 ["self", "part"] 1 ["part"] (fun us ws => us ++ ws) (fun vs zs => vs ++ zs) := by
  obtain ⟨oc, od, kV, doc, pm, an, ct, osl, e, lk⟩ := T.Z1.lk
  rw [e]
  exact ⟨fun s us ws _ l1 l2 => .of_eq (match us, ws, l1, l2 with | [_], [_], _, _ => rfl), fun r1 r2 => r1.append r2⟩
theorem bi2 (T : Tp K mg) : Binds K T.di2 ["self", "part"] [] := by
  obtain ⟨oc, od, kV, doc, pm, an, ct, osl, e, lk⟩ := T.Z2.lk
  rw [e]
  exact Binds.all fun us hl => match us, hl with | [_, _], _ => rfl
theorem er2 (T : Tp K mg) : ErrOk PP w K mg base T.c2 T.fi2 "BadNumber" T.di2 ["self", "part"] (RD.spI1 T.c2 "part") := ⟨T.Z2.oex, T.iC2, T.tI2, fun k => F_Number T.Z2 T.n2_part, bi2 T, T.m2⟩
theorem kb2 (T : Tp K mg) : KBn K T.di2 ["self", "part"] 1 ["part"] (fun us ws => us ++ ws) (fun vs zs => vs ++ zs) := by
  obtain ⟨oc, od, kV, doc, pm, an, ct, osl, e, lk⟩ := T.Z2.lk
  rw [e]
  exact ⟨fun s us ws _ l1 l2 => .of_eq (match us, ws, l1, l2 with | [_], [_], _, _ => rfl), fun r1 r2 => r1.append r2⟩
theorem bi3 (T : Tp K mg) : Binds K T.di3 ["self", "line", "word"] [] := by
  obtain ⟨oc, od, kV, doc, pm, an, ct, osl, e, lk⟩ := T.Z3.lk
  rw [e]
  exact Binds.all fun us hl => match us, hl with | [_, _, _], _ => rfl
theorem er3 (T : Tp K mg) : ErrOk PP w K mg base T.c3 T.fi3 "BadText" T.di3 ["self", "line", "word"] (RD.spI2 T.c3 "line" "word") := ⟨T.Z3.oex, T.iC3, T.tI3, fun k => F_Text T.Z3 T.n3_line T.n3_word, bi3 T, T.m3⟩
theorem kb3 (T : Tp K mg) : KBn K T.di3 ["self", "line", "word"] 1 ["word", "line"] (fun us ws => us ++ ws.reverse) (fun vs zs => vs ++ zs.reverse) := by
  obtain ⟨oc, od, kV, doc, pm, an, ct, osl, e, lk⟩ := T.Z3.lk
  rw [e]
  exact ⟨fun s us ws _ l1 l2 => .of_eq (match us, ws, l1, l2 with | [_], [_, _], _, _ => rfl), fun r1 r2 => r1.append (vals_rev r2)⟩
theorem bi4 (T : Tp K mg) : Binds K T.di4 ["self", "word"] [] := by
  obtain ⟨oc, od, kV, doc, pm, an, ct, osl, e, lk⟩ := T.Z4.lk
  rw [e]
  exact Binds.all fun us hl => match us, hl with | [_, _], _ => rfl
theorem er4 (T : Tp K mg) : ErrOk PP w K mg base T.c4 T.fi4 "BadLine" T.di4 ["self", "word"] (RD.spI1 T.c4 "word") := ⟨T.Z4.oex, T.iC4, T.tI4, fun k => F_Line T.Z4 T.n4_word, bi4 T, T.m4⟩
theorem kb4 (T : Tp K mg) : KBn K T.di4 ["self", "word"] 1 ["word"] (fun us ws => us ++ ws) (fun vs zs => vs ++ zs) := by
  obtain ⟨oc, od, kV, doc, pm, an, ct, osl, e, lk⟩ := T.Z4.lk
  rw [e]
  exact ⟨fun s us ws _ l1 l2 => .of_eq (match us, ws, l1, l2 with | [_], [_], _, _ => rfl), fun r1 r2 => r1.append r2⟩
theorem bi5 (T : Tp K mg) : Binds K T.di5 ["self", "name"] [] := by
  obtain ⟨oc, od, kV, doc, pm, an, ct, osl, e, lk⟩ := T.Z5.lk
  rw [e]
  exact Binds.all fun us hl => match us, hl with | [_, _], _ => rfl
theorem er5 (T : Tp K mg) : ErrOk PP w K mg base T.c5 T.fi5 "NoName" T.di5 ["self", "name"] (RD.spI1 T.c5 "name") := ⟨T.Z5.oex, T.iC5, T.tI5, fun k => F_Name T.Z5 T.n5_name, bi5 T, T.m5⟩
theorem kb5 (T : Tp K mg) : KBn K T.di5 ["self", "name"] 1 ["name"] (fun us ws => us ++ ws) (fun vs zs => vs ++ zs) := by
  obtain ⟨oc, od, kV, doc, pm, an, ct, osl, e, lk⟩ := T.Z5.lk
  rw [e]
  exact ⟨fun s us ws _ l1 l2 => .of_eq (match us, ws, l1, l2 with | [_], [_], _, _ => rfl), fun r1 r2 => r1.append r2⟩
theorem bi6 (T : Tp K mg) : Binds K T.di6 ["self", "part"] [] := by
  obtain ⟨oc, od, kV, doc, pm, an, ct, osl, e, lk⟩ := T.Z6.lk
  rw [e]
  exact Binds.all fun us hl => match us, hl with | [_, _], _ => rfl
theorem er6 (T : Tp K mg) : ErrOk PP w K mg base T.c6 T.fi6 "Misfit" T.di6 ["self", "part"] (RD.spI1 T.c6 "part") := ⟨T.Z6.oex, T.iC6, T.tI6, fun k => F_Misfit T.Z6 T.n6_part, bi6 T, T.m6⟩
theorem kb6 (T : Tp K mg) : KBn K T.di6 ["self", "part"] 1 ["part"] (fun us ws => us ++ ws) (fun vs zs => vs ++ zs) := by
  obtain ⟨oc, od, kV, doc, pm, an, ct, osl, e, lk⟩ := T.Z6.lk
  rw [e]
  exact ⟨fun s us ws _ l1 l2 => .of_eq (match us, ws, l1, l2 with | [_], [_], _, _ => rfl), fun r1 r2 => r1.append r2⟩
theorem bi7 (T : Tp K mg) : Binds K T.di7 ["self", "word"] [] := by
  obtain ⟨oc, od, kV, doc, pm, an, ct, osl, e, lk⟩ := T.Z7.lk
  rw [e]
  exact Binds.all fun us hl => match us, hl with | [_, _], _ => rfl
theorem er7 (T : Tp K mg) : ErrOk PP w K mg base T.c7 T.fi7 "Nothing" T.di7 ["self", "word"] (RD.spI1 T.c7 "word") := ⟨T.Z7.oex, T.iC7, T.tI7, fun k => F_Nothing T.Z7 T.n7_word, bi7 T, T.m7⟩
theorem kb7 (T : Tp K mg) : KBn K T.di7 ["self", "word"] 1 ["word"] (fun us ws => us ++ ws) (fun vs zs => vs ++ zs) := by
  obtain ⟨oc, od, kV, doc, pm, an, ct, osl, e, lk⟩ := T.Z7.lk
  rw [e]
  exact ⟨fun s us ws _ l1 l2 => .of_eq (match us, ws, l1, l2 with | [_], [_], _, _ => rfl), fun r1 r2 => r1.append r2⟩
theorem bi8 (T : Tp K mg) : Binds K T.di8 ["self", "what", "most"] [] := by
  obtain ⟨oc, od, kV, doc, pm, an, ct, osl, e, lk⟩ := T.Z8.lk
  rw [e]
  exact Binds.all fun us hl => match us, hl with | [_, _, _], _ => rfl
theorem er8 (T : Tp K mg) : ErrOk PP w K mg base T.c8 T.fi8 "TooMany" T.di8 ["self", "what", "most"] (RD.spI2 T.c8 "what" "most") := ⟨T.Z8.oex, T.iC8, T.tI8, fun k => F_Many T.Z8 T.n8_what T.n8_most, bi8 T, T.m8⟩
theorem kb8 (T : Tp K mg) : KBn K T.di8 ["self", "what", "most"] 1 ["most", "what"] (fun us ws => us ++ ws.reverse) (fun vs zs => vs ++ zs.reverse) := by
  obtain ⟨oc, od, kV, doc, pm, an, ct, osl, e, lk⟩ := T.Z8.lk
  rw [e]
  exact ⟨fun s us ws _ l1 l2 => .of_eq (match us, ws, l1, l2 with | [_], [_, _], _, _ => rfl), fun r1 r2 => r1.append (vals_rev r2)⟩
end
end K0

namespace K0
open PySem PySem.Spec PyProof.Rows L2 EV
section
variable {w : World} {K : PySem.W.Frag} {mg : Str → Option Value} {base : Heap}
theorem ok_pick (T : Tp K mg) (n : Nat) : RD.Fn PP w K mg base (CX PP w) (n + 2) T.f_pick T.d_pick ["pen", "some"] (spEV K (wd T) tab (n + 2) 0) := by
  refine fn_evN (n := n + 1) T.F_pick sc_pick rfl rfl rfl (by decide) fun cdv A outer s H E rm => ?_
  have nd := sc_pick.nd
  have hu := rm.r.units
  exact (s_ret (n_ix n_nm (n_drw (dr T) (rm.r.mono (by omega)) (n_cons n_nm (n_cons (n_blt call_lenU T.b_len PySem.boot_len blt_len (n_cons n_nm n_nil)) n_nil)))))
theorem fa_pick (T : Tp K mg) (n : Nat) : FnAt PP w K mg base (wd T) tab (n + 2) 0 2 "_law_pick" := ⟨T.f_pick, T.d_pick, ["pen", "some"], [], [], ⟨2, 2, [], ir_pick⟩, T.m_pick, T.F_pick.kp, ok_pick T n, b_pick T, .nil, rfl, fun _ _ => .nil, by decide, by decide, by decide⟩
end
end K0

namespace K0
open PySem PySem.Spec PyProof.Rows L2 EV
section
variable {w : World} {K : PySem.W.Frag} {mg : Str → Option Value} {base : Heap}
theorem ok_any (T : Tp K mg) (n : Nat) : RD.Fn PP w K mg base (CX PP w) (n + 3) T.f_any T.d_any ["pen"] (spEV K (wd T) tab (n + 3) 1) := by
  refine fn_evN (n := n + 2) T.F_any sc_any rfl rfl rfl (by decide) fun cdv A outer s H E rm => ?_
  have nd := sc_any.nd
  have hu := rm.r.units
  exact (s_ret (n_cal (fa_pick T _) rm (n_cons n_nm (n_cons (n_lst (n_cons n_cst (n_cons n_cst (n_cons n_cst (n_cons (n_neg n_cst) (n_cons (n_pow n_cst n_cst) (n_cons n_cst (n_cons n_cst (n_cons (n_tup (n_cons n_cst (n_cons n_cst n_nil))) (n_cons (n_lst (n_cons n_cst (n_cons (n_lst (n_cons n_cst n_nil)) n_nil))) (n_cons (n_dct) (n_cons (n_tup n_nil) (n_cons n_cst n_nil))))))))))))) n_nil))))
theorem fa_any (T : Tp K mg) (n : Nat) : FnAt PP w K mg base (wd T) tab (n + 3) 1 1 "_law_any" := ⟨T.f_any, T.d_any, ["pen"], [], [], ⟨1, 1, [], ir_any⟩, T.m_any, T.F_any.kp, ok_any T n, b_any T, .nil, rfl, fun _ _ => .nil, by decide, by decide, by decide⟩
end
end K0

namespace K0
open PySem PySem.Spec PyProof.Rows L2 EV
section
variable {w : World} {K : PySem.W.Frag} {mg : Str → Option Value} {base : Heap}
theorem ok_raised (T : Tp K mg) (n : Nat) : RD.Fn PP w K mg base (CX PP w) (n + 3) T.f_raised T.d_raised ["way", "one", "other"] (spEV K (wd T) tab (n + 3) 2) := by
  refine fn_evN (n := n + 2) T.F_raised sc_raised rfl rfl rfl (by decide) fun cdv A outer s H E rm => ?_
  have nd := sc_raised.nd
  have hu := rm.r.units
  exact (s_ite (t_cmp (RD.op_eqP hu) ok_eq n_nm n_cst) (s_rse rfl (r1 (er1 T) (rm.r.mono (by omega))) (n_cons n_nm n_nil)) s_nil 
  (s_ite (t_cmp (RD.op_eqP hu) ok_eq n_nm n_cst) (s_rseK rfl (r1k (er1 T) (rm.r.mono (by omega)) (kb1 T) rfl (fun _ _ => rfl)) (k_cons n_nm k_nil)) s_nil 
  (s_ite (t_cmp (RD.op_eqP hu) ok_eq n_nm n_cst) (s_rse rfl (r1 (er2 T) (rm.r.mono (by omega))) (n_cons n_nm n_nil)) s_nil 
  (s_ite (t_cmp (RD.op_eqP hu) ok_eq n_nm n_cst) (s_rseK rfl (r1k (er2 T) (rm.r.mono (by omega)) (kb2 T) rfl (fun _ _ => rfl)) (k_cons n_nm k_nil)) s_nil 
  (s_ite (t_cmp (RD.op_eqP hu) ok_eq n_nm n_cst) (s_rse rfl (r1 (er6 T) (rm.r.mono (by omega))) (n_cons n_nm n_nil)) s_nil 
  (s_ite (t_cmp (RD.op_eqP hu) ok_eq n_nm n_cst) (s_rseK rfl (r1k (er6 T) (rm.r.mono (by omega)) (kb6 T) rfl (fun _ _ => rfl)) (k_cons n_nm k_nil)) s_nil 
  (s_ite (t_cmp (RD.op_eqP hu) ok_eq n_nm n_cst) (s_rse rfl (r1 (er5 T) (rm.r.mono (by omega))) (n_cons n_nm n_nil)) s_nil 
  (s_ite (t_cmp (RD.op_eqP hu) ok_eq n_nm n_cst) (s_rseK rfl (r1k (er5 T) (rm.r.mono (by omega)) (kb5 T) rfl (fun _ _ => rfl)) (k_cons n_nm k_nil)) s_nil 
  (s_ite (t_cmp (RD.op_eqP hu) ok_eq n_nm n_cst) (s_rse rfl (r1 (er7 T) (rm.r.mono (by omega))) (n_cons n_nm n_nil)) s_nil 
  (s_ite (t_cmp (RD.op_eqP hu) ok_eq n_nm n_cst) (s_rseK rfl (r1k (er7 T) (rm.r.mono (by omega)) (kb7 T) rfl (fun _ _ => rfl)) (k_cons n_nm k_nil)) s_nil 
  (s_ite (t_cmp (RD.op_eqP hu) ok_eq n_nm n_cst) (s_rse rfl (r1 (er4 T) (rm.r.mono (by omega))) (n_cons n_nm n_nil)) s_nil 
  (s_ite (t_cmp (RD.op_eqP hu) ok_eq n_nm n_cst) (s_rseK rfl (r1k (er4 T) (rm.r.mono (by omega)) (kb4 T) rfl (fun _ _ => rfl)) (k_cons n_nm k_nil)) s_nil 
  (s_ite (t_cmp (RD.op_eqP hu) ok_eq n_nm n_cst) (s_rse rfl (r2 (er3 T) ne4 (rm.r.mono (by omega))) (n_cons n_nm (n_cons n_nm n_nil))) s_nil 
  (s_ite (t_cmp (RD.op_eqP hu) ok_eq n_nm n_cst) (s_rseK rfl (r2k (er3 T) ne4 (rm.r.mono (by omega)) (kb3 T) rfl (fun _ _ _ => rfl)) (k_cons n_nm (k_cons n_nm k_nil))) s_nil 
  (s_ite (t_cmp (RD.op_eqP hu) ok_eq n_nm n_cst) (s_rse rfl (r2 (er8 T) ne8 (rm.r.mono (by omega))) (n_cons n_nm (n_cons n_nm n_nil))) s_nil 
  (s_rseK rfl (r2k (er8 T) ne8 (rm.r.mono (by omega)) (kb8 T) rfl (fun _ _ _ => rfl)) (k_cons n_nm (k_cons n_nm k_nil))))))))))))))))))
theorem fa_raised (T : Tp K mg) (n : Nat) : FnAt PP w K mg base (wd T) tab (n + 3) 2 3 "_law_raised" := ⟨T.f_raised, T.d_raised, ["way", "one", "other"], [], [], ⟨3, 3, [], ir_raised⟩, T.m_raised, T.F_raised.kp, ok_raised T n, b_raised T, .nil, rfl, fun _ _ => .nil, by decide, by decide, by decide⟩
end
end K0

namespace K0
open PySem PySem.Spec PyProof.Rows L2 EV
section
variable {w : World} {K : PySem.W.Frag} {mg : Str → Option Value} {base : Heap}
theorem ok_fields (T : Tp K mg) (n : Nat) : RD.Fn PP w K mg base (CX PP w) (n + 1) T.f_fields T.d_fields ["way", "error"] (spEV K (wd T) tab (n + 1) 3) := by
  refine fn_evN (n := n + 0) T.F_fields sc_fields rfl rfl rfl (by decide) fun cdv A outer s H E rm => ?_
  have nd := sc_fields.nd
  have hu := rm.r.units
  exact (s_ite (t_cmp op_lt o_lt n_nm n_cst) (s_ret (n_lst (n_cons (n_att (cf T) rfl rfl n_nm) n_nil))) s_nil 
  (s_ite (t_cmp op_lt o_lt n_nm n_cst) (s_ret (n_lst (n_cons (n_att (cf T) rfl rfl n_nm) n_nil))) s_nil 
  (s_ite (t_cmp op_lt o_lt n_nm n_cst) (s_ret (n_lst (n_cons (n_att (cf T) rfl rfl n_nm) n_nil))) s_nil 
  (s_ret (n_ite (t_cmp op_lt o_lt n_nm n_cst) (n_lst (n_cons (n_att (cf T) rfl rfl n_nm) (n_cons (n_att (cf T) rfl rfl n_nm) n_nil))) (n_lst (n_cons (n_att (cf T) rfl rfl n_nm) (n_cons (n_att (cf T) rfl rfl n_nm) n_nil))))))))
theorem fa_fields (T : Tp K mg) (n : Nat) : FnAt PP w K mg base (wd T) tab (n + 1) 3 2 "_law_fields" := ⟨T.f_fields, T.d_fields, ["way", "error"], [], [], ⟨2, 2, [], ir_fields⟩, T.m_fields, T.F_fields.kp, ok_fields T n, b_fields T, .nil, rfl, fun _ _ => .nil, by decide, by decide, by decide⟩
end
end K0

namespace K0
open PySem PySem.Spec PyProof.Rows L2 RD
section
variable {w : World} {K : PySem.W.Frag} {mg : Str → Option Value} {base : Heap}
/-! the pen -/
theorem ok_pen (T : Tp K mg) : FnOk PP w K mg base CX0 1 T.f_pen T.d_pen ["script"] (spPen K) := by
  refine T.F_pen.ok sc_pen (fun vs H Q E h => ?_) fun cdv A outer s H vs Q E hr h => ?_
  · obtain ⟨a, ns, rfl, _⟩ := h
    rfl
  · obtain ⟨a, ns, rfl, hS, hl, hb, q⟩ := h
    refine ⟨_, PSs.nox (pss_one (ps_ret (pe_lst (pa_cons (pe_callTy call_list_of (by rfl) T.b_list boot_list (pa_cons (pe_slice sl_list (pv 0) po_none (po_some pe_int)) pa_nil)) (pa_cons pe_int (pa_cons pe_int pa_nil)))))), ?_⟩
    refine ⟨.ref a, rfl, 63, rfl, a, ns.map V.int, rfl, hS, fun d hd => ?_⟩
    rw [cut_all (by rw [List.length_map]; exact hl)]
    refine ⟨d, ns.map V.int, rfl, .inl (.of upd_same), fun c hc => ?_⟩
    refine ⟨by rw [sizeLine_eq]; exact Nat.le_of_ble_eq_true rfl, fun p hp => ?_⟩
    have hd' : ∀ b o, H b = some o → upd H d (.lst (ns.map V.int)) b = some o := fun b o e => by rw [upd_ne (ne_of_none e hd)]; exact e
    obtain ⟨z1, z2, z3, z4⟩ := pen_made hc hp hl hb
    refine q p c _ (fun b o e => z1 b o (hd' b o e)) ?_ ?_ z3 z4
    · cases e : H p with
      | none => rfl
      | some o => rw [hd' _ _ e] at z2; cases z2
    · cases e : H c with
      | none => rfl
      | some o => rw [hd' _ _ e] at hc; cases hc

end
end K0
namespace K0
open PySem PySem.Spec PyProof.Rows L2 EV
section
variable {w : World} {K : PySem.W.Frag} {mg : Str → Option Value} {base : Heap}
def lt_law : List Stmt := (bd_law.drop 1)
def turnS : Stmt → List Stmt
  | .For _ _ b _ _ => b
  | _ => []
def tb_law : List Stmt := (turnS (lt_law.headD (.Pass ⟨0, 0, 0, 0⟩)))
theorem tro (T : Tp K mg) {X : Cx} (hK : X.K = K) (hm : X.mg = mg) (ex : X.ex = []) (stk : X.stack = X.env :: X.outer) (fr : X.env.frame = some X.env.locals) (nd : X.N.Nodup) (hi : X.N[6]? = some ("error" : Str)) (hj : X.N[5]? = some ("caught" : Str)) (ln : X.env.kindOf "error" = some .local) (lt : X.env.scope.names.lookup ("caught" : Str) = some .local) (hg : L2.Gl X "ReplyError") : TryOk X (wd T) tab.sub 0 6 5 "ReplyError" "error" "caught" := by
  subst hK
  exact ⟨ex, stk, fr, nd, hi, hj, ln, .inl lt, .inr lt, by decide, by decide, ⟨hg, by decide, .inl (by rw [hm]; exact T.m0)⟩, fun c => match c with
    | 0 => T.ex0
    | 1 => T.ex1
    | 2 => T.ex2
    | 3 => T.ex3
    | 4 => T.ex4
    | 5 => T.ex5
    | 6 => T.ex6
    | 7 => T.ex7
    | 8 => T.ex8
    | n + 9 => T.ex0⟩
theorem cb_turn (T : Tp K mg) {f : Addr} {cdv : Value} {A : Around} {outer : List Env} {s : Shared} {H : Hp} {E : XK} (rm : RD.Rm 10 (A.deeper (envOfC "law" so_law s.heap.objs.size f cdv))) : EV.NB (cxOf CX0 PP w K mg base ["script", "pen", "way", "one", "other", "caught", "error", "kinds", "at"] "law" so_law f cdv A outer s H E).nox (wd T) tb_law (denB (tab.gl 10) ir_turn) := by
  have nd := sc_law.nd
  have hu := rm.r.units
  have tro := tro T (X := (cxOf CX0 PP w K mg base ["script", "pen", "way", "one", "other", "caught", "error", "kinds", "at"] "law" so_law f cdv A outer s H E).nox) rfl rfl rfl rfl rfl nd rfl rfl rfl rfl rfl
  exact (s_par3 rfl nd (n_cons (n_cal (fa_any T _) rm (n_cons n_nm n_nil)) (n_cons (n_cal (fa_any T _) rm (n_cons n_nm n_nil)) (n_cons n_cst n_nil))) 
  (s_try0 tro (fun pn xe => (n_cal (fa_raised T _) rm (n_cons n_nm (n_cons n_nm (n_cons n_nm n_nil))))) 
  (s_set nd (n_lst (n_cons (n_isi (cf T) T.b_isinstance (is_BadValue T) n_nm) (n_cons (n_isi (cf T) T.b_isinstance (is_BadNumber T) n_nm) (n_cons (n_isi (cf T) T.b_isinstance (is_Misfit T) n_nm) (n_cons (n_isi (cf T) T.b_isinstance (is_NoName T) n_nm) (n_cons (n_isi (cf T) T.b_isinstance (is_Nothing T) n_nm) (n_cons (n_isi (cf T) T.b_isinstance (is_BadLine T) n_nm) n_nil))))))) 
  (s_set nd (n_add n_nm (n_lst (n_cons (n_isi (cf T) T.b_isinstance (is_BadText T) n_nm) (n_cons (n_isi (cf T) T.b_isinstance (is_TooMany T) n_nm) n_nil)))) 
  (s_ite (t_w (w_or (t_cmp (RD.op_neP hu) ok_ne n_nm (n_lc (own' := [("at", 8)]) rfl rfl nd (i_rng1 T.b_range (n_cons n_cst n_nil)) (fun s1 H1 C1 cl1 fp1 => (g_nm nd (by simp))) ts_nil fun s1 H1 C1 cl1 fp1 => (n_cmp (RD.op_eqP hu) ok_eq n_nm (n_fdiv n_nm n_cst)))) (w_or1 (t_not (t_isi (cf T) T.b_isinstance (is_ValueError T) n_nm))))) (s_ret n_cst) s_nil 
  (s_ite (t_cmp (RD.op_neP hu) ok_ne (n_blt (RD.call_reprP (rm.mono (Nat.zero_le _))) T.b_repr boot_repr (blt_repr rfl) (n_cons (n_cal (fa_fields T _) rm (n_cons n_nm (n_cons n_nm n_nil))) n_nil)) (n_blt (RD.call_reprP (rm.mono (Nat.zero_le _))) T.b_repr boot_repr (blt_repr rfl) (n_cons (n_ite (t_cmp op_gt o_gt n_nm n_cst) (n_lst (n_cons n_nm (n_cons n_nm n_nil))) (n_lst (n_cons n_nm n_nil))) n_nil))) (s_ret n_cst) s_nil 
  s_nil))))))
end
end K0

namespace K0
open EV
/-! the plain law: each turn by evaluation -/
def chkT (p : Out → S → Bool) : T → Bool
  | .ok o s => p o s
  | .ex _ _ _ => false
  | .no => false
  | .dr m k => (List.range m).all fun i => chkT p (k i)
theorem chkT_good {p : Out → S → Bool} : ∀ {t : T}, chkT p t = true → Good (fun o s => p o s = true) (fun _ _ _ => False) t
  | .ok o s, h => h
  | .ex _ _ _, h => by cases h
  | .no, h => by cases h
  | .dr m k, h => fun i hi => chkT_good (List.all_eq_true.mp h i (List.mem_range.mpr hi))
def r0 : Rho := [none, some (.cel 0), none, none, none, none, none, none, none]
def s0 (k : Nat) : S := ⟨[.pen k], big, 0, []⟩
def isR : Rho → Bool
  | [none, some (.cel 0), none, none, none, none, none, none, none] => true
  | _ => false
theorem isR_eq {r : Rho} (h : isR r = true) : r = r0 := by
  unfold isR at h
  split at h
  · rfl
  · cases h
def isS (k : Nat) : S → Bool
  | ⟨[.pen j], mw, fb, []⟩ => Nat.beq j k && Nat.beq mw big && Nat.beq fb 0
  | _ => false
theorem isS_eq {k : Nat} {s : S} (h : isS k s = true) : s = s0 k := by
  unfold isS at h
  split at h
  · rw [Bool.and_eq_true, Bool.and_eq_true] at h
    obtain ⟨⟨h1, h2⟩, h3⟩ := h
    rw [Nat.eq_of_beq_eq_true h1, Nat.eq_of_beq_eq_true h2, Nat.eq_of_beq_eq_true h3]; rfl
  · cases h
def fg : List Nat := [2, 3, 4, 5, 6, 7, 8]
def chkN (k : Nat) : Out → S → Bool
  | .nx r, s => isR (fgt fg 1 r s).1 && isS k (fgt fg 1 r s).2
  | _, _ => false
noncomputable def turnT (i : Nat) : T := asg (.nm 2) (.int (i : Int)) r0 fun r => denB (tab.gl 10) ir_turn r (s0 (2 * i)) k0
theorem turn0 : chkT (chkN 2) (turnT 0) = true := by decide +kernel
theorem turn1 : chkT (chkN 4) (turnT 1) = true := by decide +kernel
theorem turn2 : chkT (chkN 6) (turnT 2) = true := by decide +kernel
theorem turn3 : chkT (chkN 8) (turnT 3) = true := by decide +kernel
theorem turn4 : chkT (chkN 10) (turnT 4) = true := by decide +kernel
theorem turn5 : chkT (chkN 12) (turnT 5) = true := by decide +kernel
theorem turn6 : chkT (chkN 14) (turnT 6) = true := by decide +kernel
theorem turn7 : chkT (chkN 16) (turnT 7) = true := by decide +kernel
theorem turn8 : chkT (chkN 18) (turnT 8) = true := by decide +kernel
theorem turn9 : chkT (chkN 20) (turnT 9) = true := by decide +kernel
theorem turn10 : chkT (chkN 22) (turnT 10) = true := by decide +kernel
theorem turn11 : chkT (chkN 24) (turnT 11) = true := by decide +kernel
theorem turn12 : chkT (chkN 26) (turnT 12) = true := by decide +kernel
theorem turn13 : chkT (chkN 28) (turnT 13) = true := by decide +kernel
theorem turn14 : chkT (chkN 30) (turnT 14) = true := by decide +kernel
theorem turn15 : chkT (chkN 32) (turnT 15) = true := by decide +kernel
theorem turn_ok : ∀ i, i < 16 → chkT (chkN (2 * i + 2)) (turnT i) = true := fun i h => match i, h with
  | 0, _ => turn0
  | 1, _ => turn1
  | 2, _ => turn2
  | 3, _ => turn3
  | 4, _ => turn4
  | 5, _ => turn5
  | 6, _ => turn6
  | 7, _ => turn7
  | 8, _ => turn8
  | 9, _ => turn9
  | 10, _ => turn10
  | 11, _ => turn11
  | 12, _ => turn12
  | 13, _ => turn13
  | 14, _ => turn14
  | 15, _ => turn15
  | n + 16, h => absurd h (by omega)
theorem law_good {k : Kn} {P : Out → S → Prop} {Ef : Nat → List (Nat × D) → S → Prop} (hk : ∀ r s, Good P Ef (k.nx r s)) : Good P Ef (T.bindX (loopK fg 1 (.nm 2) (denB (tab.gl 10) ir_turn) ((List.range 16).map fun i : Nat => D.int (i : Int)) r0 ⟨[.pen 0], big, 0, []⟩) (fun o s' => Kn.on k o ⟨s'.cells, s'.mw, s'.fb, []⟩) fun c fs s' => .ex c fs ⟨s'.cells, s'.mw, s'.fb, []⟩) := by
  refine good_bindX.mpr (Good.mono (P := fun o _ => ∃ r, o = .nx r) (E := fun _ _ _ => False) (fun o s h => ?_) (fun _ _ _ h => h.elim) (good_loopK (fun i r s => r = r0 ∧ s = s0 (2 * i)) _ 0 ⟨rfl, rfl⟩ (fun i x r s hx hI => ?_) fun r s _ => ⟨r, rfl⟩))
  · obtain ⟨r, rfl⟩ := h
    exact hk r _
  · obtain ⟨rfl, rfl⟩ := hI
    rw [Nat.zero_add]
    have hi : i < 16 := by
      have := (List.getElem?_eq_some_iff.mp hx).1
      simpa using this
    have ex : x = .int (i : Int) := by
      rw [List.getElem?_map, List.getElem?_range hi] at hx
      exact (Option.some.inj hx).symm
    subst ex
    refine Good.mono (fun o s h => ?_) (fun _ _ _ h => h.elim) (chkT_good (turn_ok i hi))
    cases o with
    | nx r =>
      have h' := Bool.and_eq_true_iff.mp (show (isR (fgt fg 1 r s).1 && isS (2 * i + 2) (fgt fg 1 r s).2) = true from h)
      exact ⟨isR_eq h'.1, isS_eq h'.2⟩
    | _ => cases h
end K0

namespace K0
open EV
noncomputable def lawF : Rho → S → Kn → T := fun r s k => (denE (tab.gl 10) (.rng (.cons (.cst (.int 16)) .nil))).i r s fun xs ls s => T.bindX (loopK fg s.cells.length (.nm 2) (denB (tab.gl 10) ir_turn) xs r ⟨s.cells, s.mw, s.fb, ls ++ s.lk⟩) (fun o s' => Kn.on ⟨fun r s => denB (tab.gl 10) (.ret (.cst (.bl true))) r s k, k.bk, k.ct, k.rt⟩ o ⟨s'.cells, s'.mw, s'.fb, s.lk⟩) fun c fs s' => .ex c fs ⟨s'.cells, s'.mw, s'.fb, s.lk⟩
theorem rng16 {r : Rho} {s : S} {k : List D → List Nat → S → T} : (denE (tab.gl 10) (.rng (.cons (.cst (.int 16)) .nil))).i r s k = k ((List.range 16).map fun i : Nat => D.int (i : Int)) [] s := rfl
theorem ret_true {r : Rho} {s : S} {k : Kn} : denB (tab.gl 10) (.ret (.cst (.bl true))) r s k = k.rt (.bl true) s := rfl
def kE : Kn := ⟨fun _ _ => .no, fun _ _ => .no, fun _ _ => .no, fun d s => .ok (.v d) s⟩
theorem law_all : Good (fun o _ => o = .v (.bl true)) (fun _ _ _ => False) (lawF r0 ⟨[.pen 0], big, 0, []⟩ kE) := by
  unfold lawF
  rw [rng16]
  refine law_good (k := ⟨fun r s => denB (tab.gl 10) (.ret (.cst (.bl true))) r s kE, kE.bk, kE.ct, kE.rt⟩) fun r s => ?_
  show Good _ _ (denB (tab.gl 10) (.ret (.cst (.bl true))) r s kE)
  rw [ret_true]
  exact rfl
end K0

namespace K0
open PySem PySem.Spec PyProof.Rows L2 RD
section
variable {w : World} {K : PySem.W.Frag} {mg : Str → Option Value} {base : Heap}
theorem ok_law (T : Tp K mg) : RD.Fn PP w K mg base CX0 11 T.f_law T.d_law ["script"] (RD.spLaw K) := by
  refine RD.Fn.by_body T.F_law sc_law (fun vs H Q E h => ?_) fun cdv A0 outer s H vs Q E rm h => ?_
  · obtain ⟨a, ns, rfl, _⟩ := h
    rfl
  · obtain ⟨a, ns, rfl, hS, hlen, hbits, q⟩ := h
    have nd := sc_law.nd
    have cb : EV.NB (cxOf CX0 PP w K mg base ["script", "pen", "way", "one", "other", "caught", "error", "kinds", "at"] "law" so_law T.f_law cdv A0 outer s H E).nox (wd T) lt_law lawF := EV.s_forK fg (t := tab) (n := 10) (b := ir_turn) (r := .ret (.cst (.bl true))) rfl .never (EV.i_rng1 (t := tab) (n := 10) T.b_range (EV.n_cons (EV.n_cst (d := .int 16)) EV.n_nil)) (EV.g_nm (V_ := fun _ => True) (i := 2) nd trivial) (cb_turn T rm) (EV.s_ret (t := tab) (n := 10) (EV.n_cst (d := .bl true))) (fun _ => rfl)
    refine canSs.of (X := cxOf CX0 PP w K mg base _ "law" _ T.f_law cdv A0 outer s H E) (PSs.nox (pss_cons (ps_set (i := 1) sc_law.nd rfl (.inl rfl) (pg_call (Fn.of_ok (ok_pen T)) (rm.mono (by decide)) (by rfl) T.m_pen T.F_pen.kp (b_pen T) .nil pass0 (pa_cons (pv 0) pa_nil))) sscan)) ?_
    refine EV.law_startE (W := wd T) (X := (cxOf CX0 PP w K mg base ["script", "pen", "way", "one", "other", "caught", "error", "kinds", "at"] "law" so_law T.f_law cdv A0 outer s H E).nox) (D := { nx := fun _ H' => Q .non H', rt := Q }) (m := 7) rfl rfl hS hlen hbits (fun b σ hb here => ?_)
    obtain ⟨φ, sb, Hb⟩ := b
    have hb : sb = ⟨[.pen 0], EV.big, 0, []⟩ := hb
    subst hb
    refine EV.NB.run cb ⟨φ, _, Hb⟩ φ r0 ⟨[.pen 0], EV.big, 0, []⟩ σ Hb kE (fun o _ => o = .v (.bl true)) (fun _ _ _ => False) _ here (EV.TK.none _) law_all ⟨fun φ ρ s σ H h g => ?_, fun φ ρ s σ H h g => ?_, fun φ ρ s σ H h g => ?_, fun φ s H d v st u r g => ?_⟩
    · exact (EV.no_good g).elim
    · exact (EV.no_good g).elim
    · exact (EV.no_good g).elim
    · have g : EV.Out.v d = .v (.bl true) := EV.ok_good g
      cases g
      cases r
      exact q _
end
end K0

namespace K0
open PySem PySem.Spec PyProof.Rows L2
theorem kit_by {K : PySem.W.Frag} {C : Addr} {t : Value} {b : Bool} (hd : PySem.W.hasDictIn K C = true) (ty : PySem.W.typeIn K (.ref C) = some (.type "type")) (s : PySem.W.subIn K t (.ref C) = some b) : PySem.W.kitCls K t (.ref C) = some b := by
  obtain ⟨cd, hc, _⟩ := PySem.W.any_some hd
  show (if ((PySem.W.clsIn K C).isSome && PySem.W.typeIn K (.ref C) == some (.type "type")) = true then PySem.W.subIn K t (.ref C) else none) = some b
  rw [hc, ty, if_pos (by simp)]
  exact s
theorem kit_one {K : PySem.W.Frag} {C : Addr} {t : Value} {b : Bool} (hd : PySem.W.hasDictIn K C = true) (ty : PySem.W.typeIn K (.ref C) = some (.type "type")) (r : PySem.W.subIn K (.ref C) (.ref C) = some true) (s : PySem.W.subIn K t (.ref C) = some b) : PySem.W.kitOne K t (.ref C) = some b := by
  unfold PySem.W.kitOne
  by_cases h : (t == Value.ref C) = true
  · rw [if_pos h]
    have e : t = .ref C := eq_of_beq h
    rw [e] at s
    exact r.symm.trans s
  · rw [if_neg h]
    exact kit_by hd ty s
theorem kit_ve {K : PySem.W.Frag} {C : Addr} (s : PySem.W.subIn K (.ref C) (.type "ValueError") = some true) : PySem.W.kitOne K (.ref C) (.type "ValueError") = some true := by
  unfold PySem.W.kitOne PySem.W.kitCls
  rw [if_neg (by simp)]
  show (if PySem.W.kitMeta "ValueError" = true then _ else none) = _
  rw [if_pos (by decide +kernel)]
  exact s
theorem exm_one {K : PySem.W.Frag} {C : Addr} {t : Value} {b : Bool} (hd : PySem.W.hasDictIn K C = true) (ty : PySem.W.typeIn K (.ref C) = some (.type "type")) (e : PySem.W.subIn K (.ref C) (.type "BaseException") = some true) (s : PySem.W.subIn K t (.ref C) = some b) : PySem.W.exmOne K t (.ref C) = some b := by
  unfold PySem.W.exmOne
  rw [e, if_pos (by simp)]
  exact kit_by hd ty s
theorem cls_of {K : PySem.W.Frag} {C : Addr} (hd : PySem.W.hasDictIn K C = true) : ∃ cd, PySem.W.clsIn K C = some cd := by
  obtain ⟨cd, hc, _⟩ := PySem.W.any_some hd
  exact ⟨cd, hc⟩
theorem all_mk {w : World} {K : PySem.W.Frag} {h : Heap} {mg : Str → Option Value} {fa : Addr} (X : K.In h) (G : h.Ns mainGlobals mg) (hfa : mg "law" = some (.ref fa))
    {od0 an0 : Option Addr} {sl0 : Array (Option Value)} {oc0 kV0 dc0 pm0 cd0 ct0 : Value} {f0 : Addr}
    {od1 an1 : Option Addr} {sl1 : Array (Option Value)} {oc1 kV1 dc1 pm1 cd1 ct1 : Value} {f1 : Addr}
    {od2 an2 : Option Addr} {sl2 : Array (Option Value)} {oc2 kV2 dc2 pm2 cd2 ct2 : Value} {f2 : Addr}
    {od3 an3 : Option Addr} {sl3 : Array (Option Value)} {oc3 kV3 dc3 pm3 cd3 ct3 : Value} {f3 : Addr}
    {od4 an4 : Option Addr} {sl4 : Array (Option Value)} {oc4 kV4 dc4 pm4 cd4 ct4 : Value} {f4 : Addr}
    {od5 an5 : Option Addr} {sl5 : Array (Option Value)} {oc5 kV5 dc5 pm5 cd5 ct5 : Value} {f5 : Addr}
    {od6 an6 : Option Addr} {sl6 : Array (Option Value)} {oc6 kV6 dc6 pm6 cd6 ct6 : Value} {f6 : Addr}
    {C0 C1 C2 C3 C4 C5 C6 C7 C8 : Addr}
    {nm1 qn1 : Str} {N1 : Addr} {bs1 : List Value} {sn1 : List Str} {su1 : List Value} {ab1 : Bool} {co1 : Option Bool} {dd1 : Option Addr} {xa1 xb1 xc1 xd1 xe1 : Option Value}
    {I1 ca1 cc1 : Addr} {io1 ik1 idc1 ip1 ict1 : Value} {id1 ia1 : Option Addr} {is1 : Array (Option Value)} {lcc1 : Value} {lcd1 : Option Addr} {lcv1 : Array Value} {lcs1 : Array (Option Value)} {lf1 : Str} {lt1 : Tok} {ec1 : Value} {ed1 : Option Addr} {es1 : Array (Option Value)}
    {nm2 qn2 : Str} {N2 : Addr} {bs2 : List Value} {sn2 : List Str} {su2 : List Value} {ab2 : Bool} {co2 : Option Bool} {dd2 : Option Addr} {xa2 xb2 xc2 xd2 xe2 : Option Value}
    {I2 ca2 cc2 : Addr} {io2 ik2 idc2 ip2 ict2 : Value} {id2 ia2 : Option Addr} {is2 : Array (Option Value)} {lcc2 : Value} {lcd2 : Option Addr} {lcv2 : Array Value} {lcs2 : Array (Option Value)} {lf2 : Str} {lt2 : Tok} {ec2 : Value} {ed2 : Option Addr} {es2 : Array (Option Value)}
    {nm3 qn3 : Str} {N3 : Addr} {bs3 : List Value} {sn3 : List Str} {su3 : List Value} {ab3 : Bool} {co3 : Option Bool} {dd3 : Option Addr} {xa3 xb3 xc3 xd3 xe3 : Option Value}
    {I3 ca3 cc3 : Addr} {io3 ik3 idc3 ip3 ict3 : Value} {id3 ia3 : Option Addr} {is3 : Array (Option Value)} {lcc3 : Value} {lcd3 : Option Addr} {lcv3 : Array Value} {lcs3 : Array (Option Value)} {lf3 : Str} {lt3 : Tok} {ec3 : Value} {ed3 : Option Addr} {es3 : Array (Option Value)}
    {nm4 qn4 : Str} {N4 : Addr} {bs4 : List Value} {sn4 : List Str} {su4 : List Value} {ab4 : Bool} {co4 : Option Bool} {dd4 : Option Addr} {xa4 xb4 xc4 xd4 xe4 : Option Value}
    {I4 ca4 cc4 : Addr} {io4 ik4 idc4 ip4 ict4 : Value} {id4 ia4 : Option Addr} {is4 : Array (Option Value)} {lcc4 : Value} {lcd4 : Option Addr} {lcv4 : Array Value} {lcs4 : Array (Option Value)} {lf4 : Str} {lt4 : Tok} {ec4 : Value} {ed4 : Option Addr} {es4 : Array (Option Value)}
    {nm5 qn5 : Str} {N5 : Addr} {bs5 : List Value} {sn5 : List Str} {su5 : List Value} {ab5 : Bool} {co5 : Option Bool} {dd5 : Option Addr} {xa5 xb5 xc5 xd5 xe5 : Option Value}
    {I5 ca5 cc5 : Addr} {io5 ik5 idc5 ip5 ict5 : Value} {id5 ia5 : Option Addr} {is5 : Array (Option Value)} {lcc5 : Value} {lcd5 : Option Addr} {lcv5 : Array Value} {lcs5 : Array (Option Value)} {lf5 : Str} {lt5 : Tok} {ec5 : Value} {ed5 : Option Addr} {es5 : Array (Option Value)}
    {nm6 qn6 : Str} {N6 : Addr} {bs6 : List Value} {sn6 : List Str} {su6 : List Value} {ab6 : Bool} {co6 : Option Bool} {dd6 : Option Addr} {xa6 xb6 xc6 xd6 xe6 : Option Value}
    {I6 ca6 cc6 : Addr} {io6 ik6 idc6 ip6 ict6 : Value} {id6 ia6 : Option Addr} {is6 : Array (Option Value)} {lcc6 : Value} {lcd6 : Option Addr} {lcv6 : Array Value} {lcs6 : Array (Option Value)} {lf6 : Str} {lt6 : Tok} {ec6 : Value} {ed6 : Option Addr} {es6 : Array (Option Value)}
    {nm7 qn7 : Str} {N7 : Addr} {bs7 : List Value} {sn7 : List Str} {su7 : List Value} {ab7 : Bool} {co7 : Option Bool} {dd7 : Option Addr} {xa7 xb7 xc7 xd7 xe7 : Option Value}
    {I7 ca7 cc7 : Addr} {io7 ik7 idc7 ip7 ict7 : Value} {id7 ia7 : Option Addr} {is7 : Array (Option Value)} {lcc7 : Value} {lcd7 : Option Addr} {lcv7 : Array Value} {lcs7 : Array (Option Value)} {lf7 : Str} {lt7 : Tok} {ec7 : Value} {ed7 : Option Addr} {es7 : Array (Option Value)}
    {nm8 qn8 : Str} {N8 : Addr} {bs8 : List Value} {sn8 : List Str} {su8 : List Value} {ab8 : Bool} {co8 : Option Bool} {dd8 : Option Addr} {xa8 xb8 xc8 xd8 xe8 : Option Value}
    {I8 ca8 cc8 : Addr} {io8 ik8 idc8 ip8 ict8 : Value} {id8 ia8 : Option Addr} {is8 : Array (Option Value)} {lcc8 : Value} {lcd8 : Option Addr} {lcv8 : Array Value} {lcs8 : Array (Option Value)} {lf8 : Str} {lt8 : Tok} {ec8 : Value} {ed8 : Option Addr} {es8 : Array (Option Value)}
    (a0 : PySem.W.nsIn K mainGlobals "_law_pen" = some (some (.ref f0)))
    (l0 : K.lookup f0 = some ⟨oc0, od0, .func (PySem.W.fnOf "_law_pen" "_law_pen" (defArgs s_pen) bd_pen so_pen .none kV0 dc0 pm0 an0 cd0 ct0), sl0⟩)
    (c0 : PySem.W.codeIn K cd0 "_law_pen" = true)
    (k0 : PySem.W.keepIn K (.ref f0) = true)
    (a1 : PySem.W.nsIn K mainGlobals "_law_pick" = some (some (.ref f1)))
    (l1 : K.lookup f1 = some ⟨oc1, od1, .func (PySem.W.fnOf "_law_pick" "_law_pick" (defArgs s_pick) bd_pick so_pick .none kV1 dc1 pm1 an1 cd1 ct1), sl1⟩)
    (c1 : PySem.W.codeIn K cd1 "_law_pick" = true)
    (k1 : PySem.W.keepIn K (.ref f1) = true)
    (a2 : PySem.W.nsIn K mainGlobals "_law_any" = some (some (.ref f2)))
    (l2 : K.lookup f2 = some ⟨oc2, od2, .func (PySem.W.fnOf "_law_any" "_law_any" (defArgs s_any) bd_any so_any .none kV2 dc2 pm2 an2 cd2 ct2), sl2⟩)
    (c2 : PySem.W.codeIn K cd2 "_law_any" = true)
    (k2 : PySem.W.keepIn K (.ref f2) = true)
    (a3 : PySem.W.nsIn K mainGlobals "_law_raised" = some (some (.ref f3)))
    (l3 : K.lookup f3 = some ⟨oc3, od3, .func (PySem.W.fnOf "_law_raised" "_law_raised" (defArgs s_raised) bd_raised so_raised .none kV3 dc3 pm3 an3 cd3 ct3), sl3⟩)
    (c3 : PySem.W.codeIn K cd3 "_law_raised" = true)
    (k3 : PySem.W.keepIn K (.ref f3) = true)
    (a4 : PySem.W.nsIn K mainGlobals "_law_fields" = some (some (.ref f4)))
    (l4 : K.lookup f4 = some ⟨oc4, od4, .func (PySem.W.fnOf "_law_fields" "_law_fields" (defArgs s_fields) bd_fields so_fields .none kV4 dc4 pm4 an4 cd4 ct4), sl4⟩)
    (c4 : PySem.W.codeIn K cd4 "_law_fields" = true)
    (k4 : PySem.W.keepIn K (.ref f4) = true)
    (a5 : PySem.W.nsIn K mainGlobals "law" = some (some (.ref f5)))
    (l5 : K.lookup f5 = some ⟨oc5, od5, .func (PySem.W.fnOf "law" "law" (defArgs s_law) bd_law so_law .none kV5 dc5 pm5 an5 cd5 ct5), sl5⟩)
    (c5 : PySem.W.codeIn K cd5 "law" = true)
    (k5 : PySem.W.keepIn K (.ref f5) = true)
    (a6 : PySem.W.nsIn K mainGlobals "_law_draw" = some (some (.ref f6)))
    (l6 : K.lookup f6 = some ⟨oc6, od6, .func (PySem.W.fnOf "_law_draw" "_law_draw" (defArgs s_draw) (defBody s_draw) (defScope s_draw) .none kV6 dc6 pm6 an6 cd6 ct6), sl6⟩)
    (c6 : PySem.W.codeIn K cd6 "_law_draw" = true)
    (k6 : PySem.W.keepIn K (.ref f6) = true)
    (g0 : PySem.W.nsIn K mainGlobals "ReplyError" = some (some (.ref C0)))
    (g1 : PySem.W.nsIn K mainGlobals "BadValue" = some (some (.ref C1)))
    (g2 : PySem.W.nsIn K mainGlobals "BadNumber" = some (some (.ref C2)))
    (g3 : PySem.W.nsIn K mainGlobals "BadText" = some (some (.ref C3)))
    (g4 : PySem.W.nsIn K mainGlobals "BadLine" = some (some (.ref C4)))
    (g5 : PySem.W.nsIn K mainGlobals "NoName" = some (some (.ref C5)))
    (g6 : PySem.W.nsIn K mainGlobals "Misfit" = some (some (.ref C6)))
    (g7 : PySem.W.nsIn K mainGlobals "Nothing" = some (some (.ref C7)))
    (g8 : PySem.W.nsIn K mainGlobals "TooMany" = some (some (.ref C8)))
    (h0 : PySem.W.hasDictIn K C0 = true)
    (t0 : PySem.W.typeIn K (.ref C0) = some (.type "type"))
    (e0 : PySem.W.subIn K (.ref C0) (.type "BaseException") = some true)
    (s0_0 : PySem.W.subIn K (.ref C0) (.ref C0) = some true)
    (x1 : K.lookup C1 = some (excClassObj nm1 qn1 C1 N1 bs1 [.ref C0, .type "ValueError", .type "Exception", .type "BaseException", .type "object"] true sn1 su1 ab1 co1 dd1 xa1 xb1 xc1 xd1 xe1 "ValueError.__new__"))
    (sa1 : PySem.W.findIn K (.ref C1) "__setattr__" = some (some (.builtin "object.__setattr__")))
    (ga1 : PySem.W.findIn K (.ref C1) "__getattribute__" = some (some (.builtin "BaseException.__getattribute__")))
    (gg1 : PySem.W.findIn K (.ref C1) "__getattr__" = some none)
    (ha1 : PySem.W.findIn K (.ref C1) "__class__" = some (some (.builtin "object.__class__")))
    (kc1 : PySem.W.keepIn K (.ref C1) = true)
    (eb1 : PySem.W.subIn K (.ref C1) (.type "BaseException") = some true)
    (tc1 : PySem.W.typeIn K (.ref C1) = some (.type "type"))
    (hd1 : PySem.W.hasDictIn K C1 = true)
    (mo1 : PySem.W.mroIn K C1 (.type "object") = some true)
    (mm1 : PySem.W.mroIn K C1 (.ref C1) = some true)
    (ve1 : PySem.W.subIn K (.ref C1) (.type "ValueError") = some true)
    (in1 : PySem.W.findIn K (.ref C1) "__init__" = some (some (.ref I1)))
    (ti1 : PySem.W.typeIn K (.ref I1) = some (.type "function"))
    (il1 : K.lookup I1 = some ⟨io1, id1, .func (PySem.W.ksFn "__init__" "BadValue.__init__" (defArgs (iS 2)) (defBody (iS 2)) (defScope (iS 2)) .none ik1 idc1 ip1 ia1 (.ref ca1) ict1 cc1), is1⟩)
    (ic1 : PySem.W.codeIn K (.ref ca1) "BadValue.__init__" = true)
    (lk1 : K.lookup ca1 = some ⟨lcc1, lcd1, .fields lcv1, lcs1⟩)
    (lv1 : lcv1[2]? = some (.str lf1 lt1))
    (ll1 : ((PP.main.file : Str) == lf1) = true)
    (ce1 : K.lookup cc1 = some ⟨ec1, ed1, .cell (some (.ref C1)), es1⟩)
    (sp1 : PySem.W.ks_superIn K C1 C1 "__init__" = some (some (.builtin "ValueError.__init__")))
    (n1_part : PySem.W.findIn K (.ref C1) "part" = some none)
    (n1_line : PySem.W.findIn K (.ref C1) "line" = some none)
    (n1_word : PySem.W.findIn K (.ref C1) "word" = some none)
    (n1_name : PySem.W.findIn K (.ref C1) "name" = some none)
    (n1_what : PySem.W.findIn K (.ref C1) "what" = some none)
    (n1_most : PySem.W.findIn K (.ref C1) "most" = some none)
    (s1_0 : PySem.W.subIn K (.ref C1) (.ref C0) = some true)
    (s1_1 : PySem.W.subIn K (.ref C1) (.ref C1) = some true)
    (s1_2 : PySem.W.subIn K (.ref C1) (.ref C2) = some false)
    (s1_3 : PySem.W.subIn K (.ref C1) (.ref C3) = some false)
    (s1_4 : PySem.W.subIn K (.ref C1) (.ref C4) = some false)
    (s1_5 : PySem.W.subIn K (.ref C1) (.ref C5) = some false)
    (s1_6 : PySem.W.subIn K (.ref C1) (.ref C6) = some false)
    (s1_7 : PySem.W.subIn K (.ref C1) (.ref C7) = some false)
    (s1_8 : PySem.W.subIn K (.ref C1) (.ref C8) = some false)
    (x2 : K.lookup C2 = some (excClassObj nm2 qn2 C2 N2 bs2 [.ref C0, .type "ValueError", .type "Exception", .type "BaseException", .type "object"] true sn2 su2 ab2 co2 dd2 xa2 xb2 xc2 xd2 xe2 "ValueError.__new__"))
    (sa2 : PySem.W.findIn K (.ref C2) "__setattr__" = some (some (.builtin "object.__setattr__")))
    (ga2 : PySem.W.findIn K (.ref C2) "__getattribute__" = some (some (.builtin "BaseException.__getattribute__")))
    (gg2 : PySem.W.findIn K (.ref C2) "__getattr__" = some none)
    (ha2 : PySem.W.findIn K (.ref C2) "__class__" = some (some (.builtin "object.__class__")))
    (kc2 : PySem.W.keepIn K (.ref C2) = true)
    (eb2 : PySem.W.subIn K (.ref C2) (.type "BaseException") = some true)
    (tc2 : PySem.W.typeIn K (.ref C2) = some (.type "type"))
    (hd2 : PySem.W.hasDictIn K C2 = true)
    (mo2 : PySem.W.mroIn K C2 (.type "object") = some true)
    (mm2 : PySem.W.mroIn K C2 (.ref C2) = some true)
    (ve2 : PySem.W.subIn K (.ref C2) (.type "ValueError") = some true)
    (in2 : PySem.W.findIn K (.ref C2) "__init__" = some (some (.ref I2)))
    (ti2 : PySem.W.typeIn K (.ref I2) = some (.type "function"))
    (il2 : K.lookup I2 = some ⟨io2, id2, .func (PySem.W.ksFn "__init__" "BadNumber.__init__" (defArgs (iS 3)) (defBody (iS 3)) (defScope (iS 3)) .none ik2 idc2 ip2 ia2 (.ref ca2) ict2 cc2), is2⟩)
    (ic2 : PySem.W.codeIn K (.ref ca2) "BadNumber.__init__" = true)
    (lk2 : K.lookup ca2 = some ⟨lcc2, lcd2, .fields lcv2, lcs2⟩)
    (lv2 : lcv2[2]? = some (.str lf2 lt2))
    (ll2 : ((PP.main.file : Str) == lf2) = true)
    (ce2 : K.lookup cc2 = some ⟨ec2, ed2, .cell (some (.ref C2)), es2⟩)
    (sp2 : PySem.W.ks_superIn K C2 C2 "__init__" = some (some (.builtin "ValueError.__init__")))
    (n2_part : PySem.W.findIn K (.ref C2) "part" = some none)
    (n2_line : PySem.W.findIn K (.ref C2) "line" = some none)
    (n2_word : PySem.W.findIn K (.ref C2) "word" = some none)
    (n2_name : PySem.W.findIn K (.ref C2) "name" = some none)
    (n2_what : PySem.W.findIn K (.ref C2) "what" = some none)
    (n2_most : PySem.W.findIn K (.ref C2) "most" = some none)
    (s2_0 : PySem.W.subIn K (.ref C2) (.ref C0) = some true)
    (s2_1 : PySem.W.subIn K (.ref C2) (.ref C1) = some false)
    (s2_2 : PySem.W.subIn K (.ref C2) (.ref C2) = some true)
    (s2_3 : PySem.W.subIn K (.ref C2) (.ref C3) = some false)
    (s2_4 : PySem.W.subIn K (.ref C2) (.ref C4) = some false)
    (s2_5 : PySem.W.subIn K (.ref C2) (.ref C5) = some false)
    (s2_6 : PySem.W.subIn K (.ref C2) (.ref C6) = some false)
    (s2_7 : PySem.W.subIn K (.ref C2) (.ref C7) = some false)
    (s2_8 : PySem.W.subIn K (.ref C2) (.ref C8) = some false)
    (x3 : K.lookup C3 = some (excClassObj nm3 qn3 C3 N3 bs3 [.ref C0, .type "ValueError", .type "Exception", .type "BaseException", .type "object"] true sn3 su3 ab3 co3 dd3 xa3 xb3 xc3 xd3 xe3 "ValueError.__new__"))
    (sa3 : PySem.W.findIn K (.ref C3) "__setattr__" = some (some (.builtin "object.__setattr__")))
    (ga3 : PySem.W.findIn K (.ref C3) "__getattribute__" = some (some (.builtin "BaseException.__getattribute__")))
    (gg3 : PySem.W.findIn K (.ref C3) "__getattr__" = some none)
    (ha3 : PySem.W.findIn K (.ref C3) "__class__" = some (some (.builtin "object.__class__")))
    (kc3 : PySem.W.keepIn K (.ref C3) = true)
    (eb3 : PySem.W.subIn K (.ref C3) (.type "BaseException") = some true)
    (tc3 : PySem.W.typeIn K (.ref C3) = some (.type "type"))
    (hd3 : PySem.W.hasDictIn K C3 = true)
    (mo3 : PySem.W.mroIn K C3 (.type "object") = some true)
    (mm3 : PySem.W.mroIn K C3 (.ref C3) = some true)
    (ve3 : PySem.W.subIn K (.ref C3) (.type "ValueError") = some true)
    (in3 : PySem.W.findIn K (.ref C3) "__init__" = some (some (.ref I3)))
    (ti3 : PySem.W.typeIn K (.ref I3) = some (.type "function"))
    (il3 : K.lookup I3 = some ⟨io3, id3, .func (PySem.W.ksFn "__init__" "BadText.__init__" (defArgs (iS 4)) (defBody (iS 4)) (defScope (iS 4)) .none ik3 idc3 ip3 ia3 (.ref ca3) ict3 cc3), is3⟩)
    (ic3 : PySem.W.codeIn K (.ref ca3) "BadText.__init__" = true)
    (lk3 : K.lookup ca3 = some ⟨lcc3, lcd3, .fields lcv3, lcs3⟩)
    (lv3 : lcv3[2]? = some (.str lf3 lt3))
    (ll3 : ((PP.main.file : Str) == lf3) = true)
    (ce3 : K.lookup cc3 = some ⟨ec3, ed3, .cell (some (.ref C3)), es3⟩)
    (sp3 : PySem.W.ks_superIn K C3 C3 "__init__" = some (some (.builtin "ValueError.__init__")))
    (n3_part : PySem.W.findIn K (.ref C3) "part" = some none)
    (n3_line : PySem.W.findIn K (.ref C3) "line" = some none)
    (n3_word : PySem.W.findIn K (.ref C3) "word" = some none)
    (n3_name : PySem.W.findIn K (.ref C3) "name" = some none)
    (n3_what : PySem.W.findIn K (.ref C3) "what" = some none)
    (n3_most : PySem.W.findIn K (.ref C3) "most" = some none)
    (s3_0 : PySem.W.subIn K (.ref C3) (.ref C0) = some true)
    (s3_1 : PySem.W.subIn K (.ref C3) (.ref C1) = some false)
    (s3_2 : PySem.W.subIn K (.ref C3) (.ref C2) = some false)
    (s3_3 : PySem.W.subIn K (.ref C3) (.ref C3) = some true)
    (s3_4 : PySem.W.subIn K (.ref C3) (.ref C4) = some false)
    (s3_5 : PySem.W.subIn K (.ref C3) (.ref C5) = some false)
    (s3_6 : PySem.W.subIn K (.ref C3) (.ref C6) = some false)
    (s3_7 : PySem.W.subIn K (.ref C3) (.ref C7) = some false)
    (s3_8 : PySem.W.subIn K (.ref C3) (.ref C8) = some false)
    (x4 : K.lookup C4 = some (excClassObj nm4 qn4 C4 N4 bs4 [.ref C0, .type "ValueError", .type "Exception", .type "BaseException", .type "object"] true sn4 su4 ab4 co4 dd4 xa4 xb4 xc4 xd4 xe4 "ValueError.__new__"))
    (sa4 : PySem.W.findIn K (.ref C4) "__setattr__" = some (some (.builtin "object.__setattr__")))
    (ga4 : PySem.W.findIn K (.ref C4) "__getattribute__" = some (some (.builtin "BaseException.__getattribute__")))
    (gg4 : PySem.W.findIn K (.ref C4) "__getattr__" = some none)
    (ha4 : PySem.W.findIn K (.ref C4) "__class__" = some (some (.builtin "object.__class__")))
    (kc4 : PySem.W.keepIn K (.ref C4) = true)
    (eb4 : PySem.W.subIn K (.ref C4) (.type "BaseException") = some true)
    (tc4 : PySem.W.typeIn K (.ref C4) = some (.type "type"))
    (hd4 : PySem.W.hasDictIn K C4 = true)
    (mo4 : PySem.W.mroIn K C4 (.type "object") = some true)
    (mm4 : PySem.W.mroIn K C4 (.ref C4) = some true)
    (ve4 : PySem.W.subIn K (.ref C4) (.type "ValueError") = some true)
    (in4 : PySem.W.findIn K (.ref C4) "__init__" = some (some (.ref I4)))
    (ti4 : PySem.W.typeIn K (.ref I4) = some (.type "function"))
    (il4 : K.lookup I4 = some ⟨io4, id4, .func (PySem.W.ksFn "__init__" "BadLine.__init__" (defArgs (iS 5)) (defBody (iS 5)) (defScope (iS 5)) .none ik4 idc4 ip4 ia4 (.ref ca4) ict4 cc4), is4⟩)
    (ic4 : PySem.W.codeIn K (.ref ca4) "BadLine.__init__" = true)
    (lk4 : K.lookup ca4 = some ⟨lcc4, lcd4, .fields lcv4, lcs4⟩)
    (lv4 : lcv4[2]? = some (.str lf4 lt4))
    (ll4 : ((PP.main.file : Str) == lf4) = true)
    (ce4 : K.lookup cc4 = some ⟨ec4, ed4, .cell (some (.ref C4)), es4⟩)
    (sp4 : PySem.W.ks_superIn K C4 C4 "__init__" = some (some (.builtin "ValueError.__init__")))
    (n4_part : PySem.W.findIn K (.ref C4) "part" = some none)
    (n4_line : PySem.W.findIn K (.ref C4) "line" = some none)
    (n4_word : PySem.W.findIn K (.ref C4) "word" = some none)
    (n4_name : PySem.W.findIn K (.ref C4) "name" = some none)
    (n4_what : PySem.W.findIn K (.ref C4) "what" = some none)
    (n4_most : PySem.W.findIn K (.ref C4) "most" = some none)
    (s4_0 : PySem.W.subIn K (.ref C4) (.ref C0) = some true)
    (s4_1 : PySem.W.subIn K (.ref C4) (.ref C1) = some false)
    (s4_2 : PySem.W.subIn K (.ref C4) (.ref C2) = some false)
    (s4_3 : PySem.W.subIn K (.ref C4) (.ref C3) = some false)
    (s4_4 : PySem.W.subIn K (.ref C4) (.ref C4) = some true)
    (s4_5 : PySem.W.subIn K (.ref C4) (.ref C5) = some false)
    (s4_6 : PySem.W.subIn K (.ref C4) (.ref C6) = some false)
    (s4_7 : PySem.W.subIn K (.ref C4) (.ref C7) = some false)
    (s4_8 : PySem.W.subIn K (.ref C4) (.ref C8) = some false)
    (x5 : K.lookup C5 = some (excClassObj nm5 qn5 C5 N5 bs5 [.ref C0, .type "ValueError", .type "Exception", .type "BaseException", .type "object"] true sn5 su5 ab5 co5 dd5 xa5 xb5 xc5 xd5 xe5 "ValueError.__new__"))
    (sa5 : PySem.W.findIn K (.ref C5) "__setattr__" = some (some (.builtin "object.__setattr__")))
    (ga5 : PySem.W.findIn K (.ref C5) "__getattribute__" = some (some (.builtin "BaseException.__getattribute__")))
    (gg5 : PySem.W.findIn K (.ref C5) "__getattr__" = some none)
    (ha5 : PySem.W.findIn K (.ref C5) "__class__" = some (some (.builtin "object.__class__")))
    (kc5 : PySem.W.keepIn K (.ref C5) = true)
    (eb5 : PySem.W.subIn K (.ref C5) (.type "BaseException") = some true)
    (tc5 : PySem.W.typeIn K (.ref C5) = some (.type "type"))
    (hd5 : PySem.W.hasDictIn K C5 = true)
    (mo5 : PySem.W.mroIn K C5 (.type "object") = some true)
    (mm5 : PySem.W.mroIn K C5 (.ref C5) = some true)
    (ve5 : PySem.W.subIn K (.ref C5) (.type "ValueError") = some true)
    (in5 : PySem.W.findIn K (.ref C5) "__init__" = some (some (.ref I5)))
    (ti5 : PySem.W.typeIn K (.ref I5) = some (.type "function"))
    (il5 : K.lookup I5 = some ⟨io5, id5, .func (PySem.W.ksFn "__init__" "NoName.__init__" (defArgs (iS 6)) (defBody (iS 6)) (defScope (iS 6)) .none ik5 idc5 ip5 ia5 (.ref ca5) ict5 cc5), is5⟩)
    (ic5 : PySem.W.codeIn K (.ref ca5) "NoName.__init__" = true)
    (lk5 : K.lookup ca5 = some ⟨lcc5, lcd5, .fields lcv5, lcs5⟩)
    (lv5 : lcv5[2]? = some (.str lf5 lt5))
    (ll5 : ((PP.main.file : Str) == lf5) = true)
    (ce5 : K.lookup cc5 = some ⟨ec5, ed5, .cell (some (.ref C5)), es5⟩)
    (sp5 : PySem.W.ks_superIn K C5 C5 "__init__" = some (some (.builtin "ValueError.__init__")))
    (n5_part : PySem.W.findIn K (.ref C5) "part" = some none)
    (n5_line : PySem.W.findIn K (.ref C5) "line" = some none)
    (n5_word : PySem.W.findIn K (.ref C5) "word" = some none)
    (n5_name : PySem.W.findIn K (.ref C5) "name" = some none)
    (n5_what : PySem.W.findIn K (.ref C5) "what" = some none)
    (n5_most : PySem.W.findIn K (.ref C5) "most" = some none)
    (s5_0 : PySem.W.subIn K (.ref C5) (.ref C0) = some true)
    (s5_1 : PySem.W.subIn K (.ref C5) (.ref C1) = some false)
    (s5_2 : PySem.W.subIn K (.ref C5) (.ref C2) = some false)
    (s5_3 : PySem.W.subIn K (.ref C5) (.ref C3) = some false)
    (s5_4 : PySem.W.subIn K (.ref C5) (.ref C4) = some false)
    (s5_5 : PySem.W.subIn K (.ref C5) (.ref C5) = some true)
    (s5_6 : PySem.W.subIn K (.ref C5) (.ref C6) = some false)
    (s5_7 : PySem.W.subIn K (.ref C5) (.ref C7) = some false)
    (s5_8 : PySem.W.subIn K (.ref C5) (.ref C8) = some false)
    (x6 : K.lookup C6 = some (excClassObj nm6 qn6 C6 N6 bs6 [.ref C0, .type "ValueError", .type "Exception", .type "BaseException", .type "object"] true sn6 su6 ab6 co6 dd6 xa6 xb6 xc6 xd6 xe6 "ValueError.__new__"))
    (sa6 : PySem.W.findIn K (.ref C6) "__setattr__" = some (some (.builtin "object.__setattr__")))
    (ga6 : PySem.W.findIn K (.ref C6) "__getattribute__" = some (some (.builtin "BaseException.__getattribute__")))
    (gg6 : PySem.W.findIn K (.ref C6) "__getattr__" = some none)
    (ha6 : PySem.W.findIn K (.ref C6) "__class__" = some (some (.builtin "object.__class__")))
    (kc6 : PySem.W.keepIn K (.ref C6) = true)
    (eb6 : PySem.W.subIn K (.ref C6) (.type "BaseException") = some true)
    (tc6 : PySem.W.typeIn K (.ref C6) = some (.type "type"))
    (hd6 : PySem.W.hasDictIn K C6 = true)
    (mo6 : PySem.W.mroIn K C6 (.type "object") = some true)
    (mm6 : PySem.W.mroIn K C6 (.ref C6) = some true)
    (ve6 : PySem.W.subIn K (.ref C6) (.type "ValueError") = some true)
    (in6 : PySem.W.findIn K (.ref C6) "__init__" = some (some (.ref I6)))
    (ti6 : PySem.W.typeIn K (.ref I6) = some (.type "function"))
    (il6 : K.lookup I6 = some ⟨io6, id6, .func (PySem.W.ksFn "__init__" "Misfit.__init__" (defArgs (iS 7)) (defBody (iS 7)) (defScope (iS 7)) .none ik6 idc6 ip6 ia6 (.ref ca6) ict6 cc6), is6⟩)
    (ic6 : PySem.W.codeIn K (.ref ca6) "Misfit.__init__" = true)
    (lk6 : K.lookup ca6 = some ⟨lcc6, lcd6, .fields lcv6, lcs6⟩)
    (lv6 : lcv6[2]? = some (.str lf6 lt6))
    (ll6 : ((PP.main.file : Str) == lf6) = true)
    (ce6 : K.lookup cc6 = some ⟨ec6, ed6, .cell (some (.ref C6)), es6⟩)
    (sp6 : PySem.W.ks_superIn K C6 C6 "__init__" = some (some (.builtin "ValueError.__init__")))
    (n6_part : PySem.W.findIn K (.ref C6) "part" = some none)
    (n6_line : PySem.W.findIn K (.ref C6) "line" = some none)
    (n6_word : PySem.W.findIn K (.ref C6) "word" = some none)
    (n6_name : PySem.W.findIn K (.ref C6) "name" = some none)
    (n6_what : PySem.W.findIn K (.ref C6) "what" = some none)
    (n6_most : PySem.W.findIn K (.ref C6) "most" = some none)
    (s6_0 : PySem.W.subIn K (.ref C6) (.ref C0) = some true)
    (s6_1 : PySem.W.subIn K (.ref C6) (.ref C1) = some false)
    (s6_2 : PySem.W.subIn K (.ref C6) (.ref C2) = some false)
    (s6_3 : PySem.W.subIn K (.ref C6) (.ref C3) = some false)
    (s6_4 : PySem.W.subIn K (.ref C6) (.ref C4) = some false)
    (s6_5 : PySem.W.subIn K (.ref C6) (.ref C5) = some false)
    (s6_6 : PySem.W.subIn K (.ref C6) (.ref C6) = some true)
    (s6_7 : PySem.W.subIn K (.ref C6) (.ref C7) = some false)
    (s6_8 : PySem.W.subIn K (.ref C6) (.ref C8) = some false)
    (x7 : K.lookup C7 = some (excClassObj nm7 qn7 C7 N7 bs7 [.ref C0, .type "ValueError", .type "Exception", .type "BaseException", .type "object"] true sn7 su7 ab7 co7 dd7 xa7 xb7 xc7 xd7 xe7 "ValueError.__new__"))
    (sa7 : PySem.W.findIn K (.ref C7) "__setattr__" = some (some (.builtin "object.__setattr__")))
    (ga7 : PySem.W.findIn K (.ref C7) "__getattribute__" = some (some (.builtin "BaseException.__getattribute__")))
    (gg7 : PySem.W.findIn K (.ref C7) "__getattr__" = some none)
    (ha7 : PySem.W.findIn K (.ref C7) "__class__" = some (some (.builtin "object.__class__")))
    (kc7 : PySem.W.keepIn K (.ref C7) = true)
    (eb7 : PySem.W.subIn K (.ref C7) (.type "BaseException") = some true)
    (tc7 : PySem.W.typeIn K (.ref C7) = some (.type "type"))
    (hd7 : PySem.W.hasDictIn K C7 = true)
    (mo7 : PySem.W.mroIn K C7 (.type "object") = some true)
    (mm7 : PySem.W.mroIn K C7 (.ref C7) = some true)
    (ve7 : PySem.W.subIn K (.ref C7) (.type "ValueError") = some true)
    (in7 : PySem.W.findIn K (.ref C7) "__init__" = some (some (.ref I7)))
    (ti7 : PySem.W.typeIn K (.ref I7) = some (.type "function"))
    (il7 : K.lookup I7 = some ⟨io7, id7, .func (PySem.W.ksFn "__init__" "Nothing.__init__" (defArgs (iS 8)) (defBody (iS 8)) (defScope (iS 8)) .none ik7 idc7 ip7 ia7 (.ref ca7) ict7 cc7), is7⟩)
    (ic7 : PySem.W.codeIn K (.ref ca7) "Nothing.__init__" = true)
    (lk7 : K.lookup ca7 = some ⟨lcc7, lcd7, .fields lcv7, lcs7⟩)
    (lv7 : lcv7[2]? = some (.str lf7 lt7))
    (ll7 : ((PP.main.file : Str) == lf7) = true)
    (ce7 : K.lookup cc7 = some ⟨ec7, ed7, .cell (some (.ref C7)), es7⟩)
    (sp7 : PySem.W.ks_superIn K C7 C7 "__init__" = some (some (.builtin "ValueError.__init__")))
    (n7_part : PySem.W.findIn K (.ref C7) "part" = some none)
    (n7_line : PySem.W.findIn K (.ref C7) "line" = some none)
    (n7_word : PySem.W.findIn K (.ref C7) "word" = some none)
    (n7_name : PySem.W.findIn K (.ref C7) "name" = some none)
    (n7_what : PySem.W.findIn K (.ref C7) "what" = some none)
    (n7_most : PySem.W.findIn K (.ref C7) "most" = some none)
    (s7_0 : PySem.W.subIn K (.ref C7) (.ref C0) = some true)
    (s7_1 : PySem.W.subIn K (.ref C7) (.ref C1) = some false)
    (s7_2 : PySem.W.subIn K (.ref C7) (.ref C2) = some false)
    (s7_3 : PySem.W.subIn K (.ref C7) (.ref C3) = some false)
    (s7_4 : PySem.W.subIn K (.ref C7) (.ref C4) = some false)
    (s7_5 : PySem.W.subIn K (.ref C7) (.ref C5) = some false)
    (s7_6 : PySem.W.subIn K (.ref C7) (.ref C6) = some false)
    (s7_7 : PySem.W.subIn K (.ref C7) (.ref C7) = some true)
    (s7_8 : PySem.W.subIn K (.ref C7) (.ref C8) = some false)
    (x8 : K.lookup C8 = some (excClassObj nm8 qn8 C8 N8 bs8 [.ref C0, .type "ValueError", .type "Exception", .type "BaseException", .type "object"] true sn8 su8 ab8 co8 dd8 xa8 xb8 xc8 xd8 xe8 "ValueError.__new__"))
    (sa8 : PySem.W.findIn K (.ref C8) "__setattr__" = some (some (.builtin "object.__setattr__")))
    (ga8 : PySem.W.findIn K (.ref C8) "__getattribute__" = some (some (.builtin "BaseException.__getattribute__")))
    (gg8 : PySem.W.findIn K (.ref C8) "__getattr__" = some none)
    (ha8 : PySem.W.findIn K (.ref C8) "__class__" = some (some (.builtin "object.__class__")))
    (kc8 : PySem.W.keepIn K (.ref C8) = true)
    (eb8 : PySem.W.subIn K (.ref C8) (.type "BaseException") = some true)
    (tc8 : PySem.W.typeIn K (.ref C8) = some (.type "type"))
    (hd8 : PySem.W.hasDictIn K C8 = true)
    (mo8 : PySem.W.mroIn K C8 (.type "object") = some true)
    (mm8 : PySem.W.mroIn K C8 (.ref C8) = some true)
    (ve8 : PySem.W.subIn K (.ref C8) (.type "ValueError") = some true)
    (in8 : PySem.W.findIn K (.ref C8) "__init__" = some (some (.ref I8)))
    (ti8 : PySem.W.typeIn K (.ref I8) = some (.type "function"))
    (il8 : K.lookup I8 = some ⟨io8, id8, .func (PySem.W.ksFn "__init__" "TooMany.__init__" (defArgs (iS 9)) (defBody (iS 9)) (defScope (iS 9)) .none ik8 idc8 ip8 ia8 (.ref ca8) ict8 cc8), is8⟩)
    (ic8 : PySem.W.codeIn K (.ref ca8) "TooMany.__init__" = true)
    (lk8 : K.lookup ca8 = some ⟨lcc8, lcd8, .fields lcv8, lcs8⟩)
    (lv8 : lcv8[2]? = some (.str lf8 lt8))
    (ll8 : ((PP.main.file : Str) == lf8) = true)
    (ce8 : K.lookup cc8 = some ⟨ec8, ed8, .cell (some (.ref C8)), es8⟩)
    (sp8 : PySem.W.ks_superIn K C8 C8 "__init__" = some (some (.builtin "ValueError.__init__")))
    (n8_part : PySem.W.findIn K (.ref C8) "part" = some none)
    (n8_line : PySem.W.findIn K (.ref C8) "line" = some none)
    (n8_word : PySem.W.findIn K (.ref C8) "word" = some none)
    (n8_name : PySem.W.findIn K (.ref C8) "name" = some none)
    (n8_what : PySem.W.findIn K (.ref C8) "what" = some none)
    (n8_most : PySem.W.findIn K (.ref C8) "most" = some none)
    (s8_0 : PySem.W.subIn K (.ref C8) (.ref C0) = some true)
    (s8_1 : PySem.W.subIn K (.ref C8) (.ref C1) = some false)
    (s8_2 : PySem.W.subIn K (.ref C8) (.ref C2) = some false)
    (s8_3 : PySem.W.subIn K (.ref C8) (.ref C3) = some false)
    (s8_4 : PySem.W.subIn K (.ref C8) (.ref C4) = some false)
    (s8_5 : PySem.W.subIn K (.ref C8) (.ref C5) = some false)
    (s8_6 : PySem.W.subIn K (.ref C8) (.ref C6) = some false)
    (s8_7 : PySem.W.subIn K (.ref C8) (.ref C7) = some false)
    (s8_8 : PySem.W.subIn K (.ref C8) (.ref C8) = some true)
    (hn : PySem.W.specialIn K (.builtin "object.__class__") "__get__" = some (some (.builtin "getset_descriptor.__get__")))
    (htk : PySem.W.takesIn K (.builtin "object.__class__") = some true)
    (op : PySem.W.nsIn K PySem.cStatics "thirdparty.any" = some none)
    (z_int : PySem.W.nsIn K mainGlobals "int" = some none)
    (z_len : PySem.W.nsIn K mainGlobals "len" = some none)
    (z_abs : PySem.W.nsIn K mainGlobals "abs" = some none)
    (z_list : PySem.W.nsIn K mainGlobals "list" = some none)
    (z_repr : PySem.W.nsIn K mainGlobals "repr" = some none)
    (z_isinstance : PySem.W.nsIn K mainGlobals "isinstance" = some none)
    (z_range : PySem.W.nsIn K mainGlobals "range" = some none)
    (z_ValueError : PySem.W.nsIn K mainGlobals "ValueError" = some none)
    (z_super : PySem.W.nsIn K mainGlobals "super" = some none) :
    ∃ fd : FuncData, (∀ (s : Shared) (u : Value), BindsTo s fd ⟨[u], []⟩ [("script", u)]) ∧ ∀ base : Heap, K.In base → base.Ns mainGlobals mg → RD.Fn PP w K mg base CX0 11 fa fd ["script"] (RD.spLaw K) := by
  have e := hfa.symm.trans (PySem.W.mg_of X G a5)
  cases e
  let T : Tp K mg := { f_pen := f0, d_pen := _, F_pen := RD.fd_mk l0 c0 k0, m_pen := PySem.W.mg_of X G a0, f_pick := f1, d_pick := _, F_pick := RD.fd_mk l1 c1 k1, m_pick := PySem.W.mg_of X G a1, f_any := f2, d_any := _, F_any := RD.fd_mk l2 c2 k2, m_any := PySem.W.mg_of X G a2, f_raised := f3, d_raised := _, F_raised := RD.fd_mk l3 c3 k3, m_raised := PySem.W.mg_of X G a3, f_fields := f4, d_fields := _, F_fields := RD.fd_mk l4 c4 k4, m_fields := PySem.W.mg_of X G a4, f_law := fa, d_law := _, F_law := RD.fd_mk l5 c5 k5, f_draw := f6, d_draw := _, F_draw := RD.fd_mk l6 c6 k6, m_draw := PySem.W.mg_of X G a6, c0 := C0, m0 := PySem.W.mg_of X G g0, ex0 := exm_one h0 t0 e0 s0_0, c1 := C1, m1 := PySem.W.mg_of X G g1, ex1 := exm_one h0 t0 e0 s1_0, fi1 := I1, cc1 := cc1, ca1 := ca1, di1 := _, iC1 := in1, tI1 := ti1, xf1 := ⟨ga1, gg1, eb1, hd1⟩, xc1 := ⟨ga1, gg1, eb1, hd1, ha1, hn, htk, mo1⟩, kv1 := kit_ve ve1, Z1 := ⟨⟨⟨_, _, _, _, _, _, _, _, _, _, _, _, _, _, _, x1, rfl⟩, sa1, eb1, tc1, kc1⟩, ⟨_, _, _, _, _, _, _, _, rfl, il1⟩, ic1, ⟨_, _, _, _, _, _, lk1, lv1, ll1⟩, ⟨_, _, _, ce1⟩, cls_of hd1, mm1, PySem.W.mg_none_of X G z_super, op, sp1, ve1⟩, n1_part := n1_part, n1_line := n1_line, n1_word := n1_word, n1_name := n1_name, n1_what := n1_what, n1_most := n1_most, k1_1 := kit_one hd1 tc1 s1_1 s1_1, k1_2 := kit_one hd2 tc2 s2_2 s1_2, k1_3 := kit_one hd3 tc3 s3_3 s1_3, k1_4 := kit_one hd4 tc4 s4_4 s1_4, k1_5 := kit_one hd5 tc5 s5_5 s1_5, k1_6 := kit_one hd6 tc6 s6_6 s1_6, k1_7 := kit_one hd7 tc7 s7_7 s1_7, k1_8 := kit_one hd8 tc8 s8_8 s1_8, c2 := C2, m2 := PySem.W.mg_of X G g2, ex2 := exm_one h0 t0 e0 s2_0, fi2 := I2, cc2 := cc2, ca2 := ca2, di2 := _, iC2 := in2, tI2 := ti2, xf2 := ⟨ga2, gg2, eb2, hd2⟩, xc2 := ⟨ga2, gg2, eb2, hd2, ha2, hn, htk, mo2⟩, kv2 := kit_ve ve2, Z2 := ⟨⟨⟨_, _, _, _, _, _, _, _, _, _, _, _, _, _, _, x2, rfl⟩, sa2, eb2, tc2, kc2⟩, ⟨_, _, _, _, _, _, _, _, rfl, il2⟩, ic2, ⟨_, _, _, _, _, _, lk2, lv2, ll2⟩, ⟨_, _, _, ce2⟩, cls_of hd2, mm2, PySem.W.mg_none_of X G z_super, op, sp2, ve2⟩, n2_part := n2_part, n2_line := n2_line, n2_word := n2_word, n2_name := n2_name, n2_what := n2_what, n2_most := n2_most, k2_1 := kit_one hd1 tc1 s1_1 s2_1, k2_2 := kit_one hd2 tc2 s2_2 s2_2, k2_3 := kit_one hd3 tc3 s3_3 s2_3, k2_4 := kit_one hd4 tc4 s4_4 s2_4, k2_5 := kit_one hd5 tc5 s5_5 s2_5, k2_6 := kit_one hd6 tc6 s6_6 s2_6, k2_7 := kit_one hd7 tc7 s7_7 s2_7, k2_8 := kit_one hd8 tc8 s8_8 s2_8, c3 := C3, m3 := PySem.W.mg_of X G g3, ex3 := exm_one h0 t0 e0 s3_0, fi3 := I3, cc3 := cc3, ca3 := ca3, di3 := _, iC3 := in3, tI3 := ti3, xf3 := ⟨ga3, gg3, eb3, hd3⟩, xc3 := ⟨ga3, gg3, eb3, hd3, ha3, hn, htk, mo3⟩, kv3 := kit_ve ve3, Z3 := ⟨⟨⟨_, _, _, _, _, _, _, _, _, _, _, _, _, _, _, x3, rfl⟩, sa3, eb3, tc3, kc3⟩, ⟨_, _, _, _, _, _, _, _, rfl, il3⟩, ic3, ⟨_, _, _, _, _, _, lk3, lv3, ll3⟩, ⟨_, _, _, ce3⟩, cls_of hd3, mm3, PySem.W.mg_none_of X G z_super, op, sp3, ve3⟩, n3_part := n3_part, n3_line := n3_line, n3_word := n3_word, n3_name := n3_name, n3_what := n3_what, n3_most := n3_most, k3_1 := kit_one hd1 tc1 s1_1 s3_1, k3_2 := kit_one hd2 tc2 s2_2 s3_2, k3_3 := kit_one hd3 tc3 s3_3 s3_3, k3_4 := kit_one hd4 tc4 s4_4 s3_4, k3_5 := kit_one hd5 tc5 s5_5 s3_5, k3_6 := kit_one hd6 tc6 s6_6 s3_6, k3_7 := kit_one hd7 tc7 s7_7 s3_7, k3_8 := kit_one hd8 tc8 s8_8 s3_8, c4 := C4, m4 := PySem.W.mg_of X G g4, ex4 := exm_one h0 t0 e0 s4_0, fi4 := I4, cc4 := cc4, ca4 := ca4, di4 := _, iC4 := in4, tI4 := ti4, xf4 := ⟨ga4, gg4, eb4, hd4⟩, xc4 := ⟨ga4, gg4, eb4, hd4, ha4, hn, htk, mo4⟩, kv4 := kit_ve ve4, Z4 := ⟨⟨⟨_, _, _, _, _, _, _, _, _, _, _, _, _, _, _, x4, rfl⟩, sa4, eb4, tc4, kc4⟩, ⟨_, _, _, _, _, _, _, _, rfl, il4⟩, ic4, ⟨_, _, _, _, _, _, lk4, lv4, ll4⟩, ⟨_, _, _, ce4⟩, cls_of hd4, mm4, PySem.W.mg_none_of X G z_super, op, sp4, ve4⟩, n4_part := n4_part, n4_line := n4_line, n4_word := n4_word, n4_name := n4_name, n4_what := n4_what, n4_most := n4_most, k4_1 := kit_one hd1 tc1 s1_1 s4_1, k4_2 := kit_one hd2 tc2 s2_2 s4_2, k4_3 := kit_one hd3 tc3 s3_3 s4_3, k4_4 := kit_one hd4 tc4 s4_4 s4_4, k4_5 := kit_one hd5 tc5 s5_5 s4_5, k4_6 := kit_one hd6 tc6 s6_6 s4_6, k4_7 := kit_one hd7 tc7 s7_7 s4_7, k4_8 := kit_one hd8 tc8 s8_8 s4_8, c5 := C5, m5 := PySem.W.mg_of X G g5, ex5 := exm_one h0 t0 e0 s5_0, fi5 := I5, cc5 := cc5, ca5 := ca5, di5 := _, iC5 := in5, tI5 := ti5, xf5 := ⟨ga5, gg5, eb5, hd5⟩, xc5 := ⟨ga5, gg5, eb5, hd5, ha5, hn, htk, mo5⟩, kv5 := kit_ve ve5, Z5 := ⟨⟨⟨_, _, _, _, _, _, _, _, _, _, _, _, _, _, _, x5, rfl⟩, sa5, eb5, tc5, kc5⟩, ⟨_, _, _, _, _, _, _, _, rfl, il5⟩, ic5, ⟨_, _, _, _, _, _, lk5, lv5, ll5⟩, ⟨_, _, _, ce5⟩, cls_of hd5, mm5, PySem.W.mg_none_of X G z_super, op, sp5, ve5⟩, n5_part := n5_part, n5_line := n5_line, n5_word := n5_word, n5_name := n5_name, n5_what := n5_what, n5_most := n5_most, k5_1 := kit_one hd1 tc1 s1_1 s5_1, k5_2 := kit_one hd2 tc2 s2_2 s5_2, k5_3 := kit_one hd3 tc3 s3_3 s5_3, k5_4 := kit_one hd4 tc4 s4_4 s5_4, k5_5 := kit_one hd5 tc5 s5_5 s5_5, k5_6 := kit_one hd6 tc6 s6_6 s5_6, k5_7 := kit_one hd7 tc7 s7_7 s5_7, k5_8 := kit_one hd8 tc8 s8_8 s5_8, c6 := C6, m6 := PySem.W.mg_of X G g6, ex6 := exm_one h0 t0 e0 s6_0, fi6 := I6, cc6 := cc6, ca6 := ca6, di6 := _, iC6 := in6, tI6 := ti6, xf6 := ⟨ga6, gg6, eb6, hd6⟩, xc6 := ⟨ga6, gg6, eb6, hd6, ha6, hn, htk, mo6⟩, kv6 := kit_ve ve6, Z6 := ⟨⟨⟨_, _, _, _, _, _, _, _, _, _, _, _, _, _, _, x6, rfl⟩, sa6, eb6, tc6, kc6⟩, ⟨_, _, _, _, _, _, _, _, rfl, il6⟩, ic6, ⟨_, _, _, _, _, _, lk6, lv6, ll6⟩, ⟨_, _, _, ce6⟩, cls_of hd6, mm6, PySem.W.mg_none_of X G z_super, op, sp6, ve6⟩, n6_part := n6_part, n6_line := n6_line, n6_word := n6_word, n6_name := n6_name, n6_what := n6_what, n6_most := n6_most, k6_1 := kit_one hd1 tc1 s1_1 s6_1, k6_2 := kit_one hd2 tc2 s2_2 s6_2, k6_3 := kit_one hd3 tc3 s3_3 s6_3, k6_4 := kit_one hd4 tc4 s4_4 s6_4, k6_5 := kit_one hd5 tc5 s5_5 s6_5, k6_6 := kit_one hd6 tc6 s6_6 s6_6, k6_7 := kit_one hd7 tc7 s7_7 s6_7, k6_8 := kit_one hd8 tc8 s8_8 s6_8, c7 := C7, m7 := PySem.W.mg_of X G g7, ex7 := exm_one h0 t0 e0 s7_0, fi7 := I7, cc7 := cc7, ca7 := ca7, di7 := _, iC7 := in7, tI7 := ti7, xf7 := ⟨ga7, gg7, eb7, hd7⟩, xc7 := ⟨ga7, gg7, eb7, hd7, ha7, hn, htk, mo7⟩, kv7 := kit_ve ve7, Z7 := ⟨⟨⟨_, _, _, _, _, _, _, _, _, _, _, _, _, _, _, x7, rfl⟩, sa7, eb7, tc7, kc7⟩, ⟨_, _, _, _, _, _, _, _, rfl, il7⟩, ic7, ⟨_, _, _, _, _, _, lk7, lv7, ll7⟩, ⟨_, _, _, ce7⟩, cls_of hd7, mm7, PySem.W.mg_none_of X G z_super, op, sp7, ve7⟩, n7_part := n7_part, n7_line := n7_line, n7_word := n7_word, n7_name := n7_name, n7_what := n7_what, n7_most := n7_most, k7_1 := kit_one hd1 tc1 s1_1 s7_1, k7_2 := kit_one hd2 tc2 s2_2 s7_2, k7_3 := kit_one hd3 tc3 s3_3 s7_3, k7_4 := kit_one hd4 tc4 s4_4 s7_4, k7_5 := kit_one hd5 tc5 s5_5 s7_5, k7_6 := kit_one hd6 tc6 s6_6 s7_6, k7_7 := kit_one hd7 tc7 s7_7 s7_7, k7_8 := kit_one hd8 tc8 s8_8 s7_8, c8 := C8, m8 := PySem.W.mg_of X G g8, ex8 := exm_one h0 t0 e0 s8_0, fi8 := I8, cc8 := cc8, ca8 := ca8, di8 := _, iC8 := in8, tI8 := ti8, xf8 := ⟨ga8, gg8, eb8, hd8⟩, xc8 := ⟨ga8, gg8, eb8, hd8, ha8, hn, htk, mo8⟩, kv8 := kit_ve ve8, Z8 := ⟨⟨⟨_, _, _, _, _, _, _, _, _, _, _, _, _, _, _, x8, rfl⟩, sa8, eb8, tc8, kc8⟩, ⟨_, _, _, _, _, _, _, _, rfl, il8⟩, ic8, ⟨_, _, _, _, _, _, lk8, lv8, ll8⟩, ⟨_, _, _, ce8⟩, cls_of hd8, mm8, PySem.W.mg_none_of X G z_super, op, sp8, ve8⟩, n8_part := n8_part, n8_line := n8_line, n8_word := n8_word, n8_name := n8_name, n8_what := n8_what, n8_most := n8_most, k8_1 := kit_one hd1 tc1 s1_1 s8_1, k8_2 := kit_one hd2 tc2 s2_2 s8_2, k8_3 := kit_one hd3 tc3 s3_3 s8_3, k8_4 := kit_one hd4 tc4 s4_4 s8_4, k8_5 := kit_one hd5 tc5 s5_5 s8_5, k8_6 := kit_one hd6 tc6 s6_6 s8_6, k8_7 := kit_one hd7 tc7 s7_7 s8_7, k8_8 := kit_one hd8 tc8 s8_8 s8_8, b_int := PySem.W.mg_none_of X G z_int, b_len := PySem.W.mg_none_of X G z_len, b_abs := PySem.W.mg_none_of X G z_abs, b_list := PySem.W.mg_none_of X G z_list, b_repr := PySem.W.mg_none_of X G z_repr, b_isinstance := PySem.W.mg_none_of X G z_isinstance, b_range := PySem.W.mg_none_of X G z_range, b_ValueError := PySem.W.mg_none_of X G z_ValueError }
  exact ⟨_, fun s u => T.F_law.bindsA (ps := ["script"]) (fun _ _ _ _ _ _ us hl => match us, hl with | [_], _ => rfl) s [u] rfl, fun base _ _ => ok_law T⟩
end K0

open PySem PySem.W PyProof.Rows
set_option maxHeartbeats 0 in
theorem PySem.Challenge.cw_replycuts_k00_errors_keep_what_they_are_holds : PySem.Challenge.rw_replycuts_k00_errors_keep_what_they_are.Holds := by
  w_on; o_law; k_head; (case hw => w_witness2)
  k_fill
  refine RD.law_end (l := PySem.Challenge.rw_replycuts_k00_errors_keep_what_they_are) (n := 63) (k := 11) (x := "script") (sp := fun w => RD.spLaw _) rfl (by decide) rfl ⟨rfl, by decide, by decide⟩ (fun w h Y => PySem.W.kIn_of Y) ?F (fun w H a ns hl hb hS _ _ => ⟨a, ns, rfl, hS, hl, fun z hz => RD.bits_abs (hb z hz), fun _ => rfl⟩)
  case F =>
    intro w mg fa h KX G hmg
    refine' K0.all_mk KX G hmg ?y_a0 ?y_l0 ?y_c0 ?y_k0 ?y_a1 ?y_l1 ?y_c1 ?y_k1 ?y_a2 ?y_l2 ?y_c2 ?y_k2 ?y_a3 ?y_l3 ?y_c3 ?y_k3 ?y_a4 ?y_l4 ?y_c4 ?y_k4 ?y_a5 ?y_l5 ?y_c5 ?y_k5 ?y_a6 ?y_l6 ?y_c6 ?y_k6 ?y_g0 ?y_g1 ?y_g2 ?y_g3 ?y_g4 ?y_g5 ?y_g6 ?y_g7 ?y_g8 ?y_h0 ?y_t0 ?y_e0 ?y_s0_0 ?y_x1 ?y_sa1 ?y_ga1 ?y_gg1 ?y_ha1 ?y_kc1 ?y_eb1 ?y_tc1 ?y_hd1 ?y_mo1 ?y_mm1 ?y_ve1 ?y_in1 ?y_ti1 ?y_il1 ?y_ic1 ?y_lk1 ?y_lv1 ?y_ll1 ?y_ce1 ?y_sp1 ?y_n1_part ?y_n1_line ?y_n1_word ?y_n1_name ?y_n1_what ?y_n1_most ?y_s1_0 ?y_s1_1 ?y_s1_2 ?y_s1_3 ?y_s1_4 ?y_s1_5 ?y_s1_6 ?y_s1_7 ?y_s1_8 ?y_x2 ?y_sa2 ?y_ga2 ?y_gg2 ?y_ha2 ?y_kc2 ?y_eb2 ?y_tc2 ?y_hd2 ?y_mo2 ?y_mm2 ?y_ve2 ?y_in2 ?y_ti2 ?y_il2 ?y_ic2 ?y_lk2 ?y_lv2 ?y_ll2 ?y_ce2 ?y_sp2 ?y_n2_part ?y_n2_line ?y_n2_word ?y_n2_name ?y_n2_what ?y_n2_most ?y_s2_0 ?y_s2_1 ?y_s2_2 ?y_s2_3 ?y_s2_4 ?y_s2_5 ?y_s2_6 ?y_s2_7 ?y_s2_8 ?y_x3 ?y_sa3 ?y_ga3 ?y_gg3 ?y_ha3 ?y_kc3 ?y_eb3 ?y_tc3 ?y_hd3 ?y_mo3 ?y_mm3 ?y_ve3 ?y_in3 ?y_ti3 ?y_il3 ?y_ic3 ?y_lk3 ?y_lv3 ?y_ll3 ?y_ce3 ?y_sp3 ?y_n3_part ?y_n3_line ?y_n3_word ?y_n3_name ?y_n3_what ?y_n3_most ?y_s3_0 ?y_s3_1 ?y_s3_2 ?y_s3_3 ?y_s3_4 ?y_s3_5 ?y_s3_6 ?y_s3_7 ?y_s3_8 ?y_x4 ?y_sa4 ?y_ga4 ?y_gg4 ?y_ha4 ?y_kc4 ?y_eb4 ?y_tc4 ?y_hd4 ?y_mo4 ?y_mm4 ?y_ve4 ?y_in4 ?y_ti4 ?y_il4 ?y_ic4 ?y_lk4 ?y_lv4 ?y_ll4 ?y_ce4 ?y_sp4 ?y_n4_part ?y_n4_line ?y_n4_word ?y_n4_name ?y_n4_what ?y_n4_most ?y_s4_0 ?y_s4_1 ?y_s4_2 ?y_s4_3 ?y_s4_4 ?y_s4_5 ?y_s4_6 ?y_s4_7 ?y_s4_8 ?y_x5 ?y_sa5 ?y_ga5 ?y_gg5 ?y_ha5 ?y_kc5 ?y_eb5 ?y_tc5 ?y_hd5 ?y_mo5 ?y_mm5 ?y_ve5 ?y_in5 ?y_ti5 ?y_il5 ?y_ic5 ?y_lk5 ?y_lv5 ?y_ll5 ?y_ce5 ?y_sp5 ?y_n5_part ?y_n5_line ?y_n5_word ?y_n5_name ?y_n5_what ?y_n5_most ?y_s5_0 ?y_s5_1 ?y_s5_2 ?y_s5_3 ?y_s5_4 ?y_s5_5 ?y_s5_6 ?y_s5_7 ?y_s5_8 ?y_x6 ?y_sa6 ?y_ga6 ?y_gg6 ?y_ha6 ?y_kc6 ?y_eb6 ?y_tc6 ?y_hd6 ?y_mo6 ?y_mm6 ?y_ve6 ?y_in6 ?y_ti6 ?y_il6 ?y_ic6 ?y_lk6 ?y_lv6 ?y_ll6 ?y_ce6 ?y_sp6 ?y_n6_part ?y_n6_line ?y_n6_word ?y_n6_name ?y_n6_what ?y_n6_most ?y_s6_0 ?y_s6_1 ?y_s6_2 ?y_s6_3 ?y_s6_4 ?y_s6_5 ?y_s6_6 ?y_s6_7 ?y_s6_8 ?y_x7 ?y_sa7 ?y_ga7 ?y_gg7 ?y_ha7 ?y_kc7 ?y_eb7 ?y_tc7 ?y_hd7 ?y_mo7 ?y_mm7 ?y_ve7 ?y_in7 ?y_ti7 ?y_il7 ?y_ic7 ?y_lk7 ?y_lv7 ?y_ll7 ?y_ce7 ?y_sp7 ?y_n7_part ?y_n7_line ?y_n7_word ?y_n7_name ?y_n7_what ?y_n7_most ?y_s7_0 ?y_s7_1 ?y_s7_2 ?y_s7_3 ?y_s7_4 ?y_s7_5 ?y_s7_6 ?y_s7_7 ?y_s7_8 ?y_x8 ?y_sa8 ?y_ga8 ?y_gg8 ?y_ha8 ?y_kc8 ?y_eb8 ?y_tc8 ?y_hd8 ?y_mo8 ?y_mm8 ?y_ve8 ?y_in8 ?y_ti8 ?y_il8 ?y_ic8 ?y_lk8 ?y_lv8 ?y_ll8 ?y_ce8 ?y_sp8 ?y_n8_part ?y_n8_line ?y_n8_word ?y_n8_name ?y_n8_what ?y_n8_most ?y_s8_0 ?y_s8_1 ?y_s8_2 ?y_s8_3 ?y_s8_4 ?y_s8_5 ?y_s8_6 ?y_s8_7 ?y_s8_8 ?y_hn ?y_htk ?y_op ?y_z_int ?y_z_len ?y_z_abs ?y_z_list ?y_z_repr ?y_z_isinstance ?y_z_range ?y_z_ValueError ?y_z_super
    (case y_a0 => k_is)
    (case y_l0 => k_is)
    (case y_c0 => k_is)
    (case y_k0 => k_is)
    (case y_a1 => k_is)
    (case y_l1 => k_is)
    (case y_c1 => k_is)
    (case y_k1 => k_is)
    (case y_a2 => k_is)
    (case y_l2 => k_is)
    (case y_c2 => k_is)
    (case y_k2 => k_is)
    (case y_a3 => k_is)
    (case y_l3 => k_is)
    (case y_c3 => k_is)
    (case y_k3 => k_is)
    (case y_a4 => k_is)
    (case y_l4 => k_is)
    (case y_c4 => k_is)
    (case y_k4 => k_is)
    (case y_a5 => k_is)
    (case y_l5 => k_is)
    (case y_c5 => k_is)
    (case y_k5 => k_is)
    (case y_a6 => k_is)
    (case y_l6 => k_is)
    (case y_c6 => k_is)
    (case y_k6 => k_is)
    (case y_g0 => k_is)
    (case y_g1 => k_is)
    (case y_g2 => k_is)
    (case y_g3 => k_is)
    (case y_g4 => k_is)
    (case y_g5 => k_is)
    (case y_g6 => k_is)
    (case y_g7 => k_is)
    (case y_g8 => k_is)
    (case y_h0 => k_is)
    (case y_t0 => k_is)
    (case y_e0 => k_is)
    (case y_s0_0 => first | rfl | k_is)
    (case y_x1 => k_is)
    (case y_sa1 => k_is)
    (case y_ga1 => k_is)
    (case y_gg1 => k_is)
    (case y_ha1 => k_is)
    (case y_kc1 => k_is)
    (case y_eb1 => k_is)
    (case y_tc1 => k_is)
    (case y_hd1 => k_is)
    (case y_mo1 => k_is)
    (case y_mm1 => k_is)
    (case y_ve1 => k_is)
    (case y_in1 => k_is)
    (case y_ti1 => k_is)
    (case y_il1 => k_is)
    (case y_ic1 => k_is)
    (case y_lk1 => k_is)
    (case y_lv1 => rfl)
    (case y_ll1 => first | rfl | decide +kernel)
    (case y_ce1 => k_is)
    (case y_sp1 => ks_is)
    (case y_n1_part => k_is)
    (case y_n1_line => k_is)
    (case y_n1_word => k_is)
    (case y_n1_name => k_is)
    (case y_n1_what => k_is)
    (case y_n1_most => k_is)
    (case y_s1_0 => k_is)
    (case y_s1_1 => first | rfl | k_is)
    (case y_s1_2 => k_is)
    (case y_s1_3 => k_is)
    (case y_s1_4 => k_is)
    (case y_s1_5 => k_is)
    (case y_s1_6 => k_is)
    (case y_s1_7 => k_is)
    (case y_s1_8 => k_is)
    (case y_x2 => k_is)
    (case y_sa2 => k_is)
    (case y_ga2 => k_is)
    (case y_gg2 => k_is)
    (case y_ha2 => k_is)
    (case y_kc2 => k_is)
    (case y_eb2 => k_is)
    (case y_tc2 => k_is)
    (case y_hd2 => k_is)
    (case y_mo2 => k_is)
    (case y_mm2 => k_is)
    (case y_ve2 => k_is)
    (case y_in2 => k_is)
    (case y_ti2 => k_is)
    (case y_il2 => k_is)
    (case y_ic2 => k_is)
    (case y_lk2 => k_is)
    (case y_lv2 => rfl)
    (case y_ll2 => first | rfl | decide +kernel)
    (case y_ce2 => k_is)
    (case y_sp2 => ks_is)
    (case y_n2_part => k_is)
    (case y_n2_line => k_is)
    (case y_n2_word => k_is)
    (case y_n2_name => k_is)
    (case y_n2_what => k_is)
    (case y_n2_most => k_is)
    (case y_s2_0 => k_is)
    (case y_s2_1 => k_is)
    (case y_s2_2 => first | rfl | k_is)
    (case y_s2_3 => k_is)
    (case y_s2_4 => k_is)
    (case y_s2_5 => k_is)
    (case y_s2_6 => k_is)
    (case y_s2_7 => k_is)
    (case y_s2_8 => k_is)
    (case y_x3 => k_is)
    (case y_sa3 => k_is)
    (case y_ga3 => k_is)
    (case y_gg3 => k_is)
    (case y_ha3 => k_is)
    (case y_kc3 => k_is)
    (case y_eb3 => k_is)
    (case y_tc3 => k_is)
    (case y_hd3 => k_is)
    (case y_mo3 => k_is)
    (case y_mm3 => k_is)
    (case y_ve3 => k_is)
    (case y_in3 => k_is)
    (case y_ti3 => k_is)
    (case y_il3 => k_is)
    (case y_ic3 => k_is)
    (case y_lk3 => k_is)
    (case y_lv3 => rfl)
    (case y_ll3 => first | rfl | decide +kernel)
    (case y_ce3 => k_is)
    (case y_sp3 => ks_is)
    (case y_n3_part => k_is)
    (case y_n3_line => k_is)
    (case y_n3_word => k_is)
    (case y_n3_name => k_is)
    (case y_n3_what => k_is)
    (case y_n3_most => k_is)
    (case y_s3_0 => k_is)
    (case y_s3_1 => k_is)
    (case y_s3_2 => k_is)
    (case y_s3_3 => first | rfl | k_is)
    (case y_s3_4 => k_is)
    (case y_s3_5 => k_is)
    (case y_s3_6 => k_is)
    (case y_s3_7 => k_is)
    (case y_s3_8 => k_is)
    (case y_x4 => k_is)
    (case y_sa4 => k_is)
    (case y_ga4 => k_is)
    (case y_gg4 => k_is)
    (case y_ha4 => k_is)
    (case y_kc4 => k_is)
    (case y_eb4 => k_is)
    (case y_tc4 => k_is)
    (case y_hd4 => k_is)
    (case y_mo4 => k_is)
    (case y_mm4 => k_is)
    (case y_ve4 => k_is)
    (case y_in4 => k_is)
    (case y_ti4 => k_is)
    (case y_il4 => k_is)
    (case y_ic4 => k_is)
    (case y_lk4 => k_is)
    (case y_lv4 => rfl)
    (case y_ll4 => first | rfl | decide +kernel)
    (case y_ce4 => k_is)
    (case y_sp4 => ks_is)
    (case y_n4_part => k_is)
    (case y_n4_line => k_is)
    (case y_n4_word => k_is)
    (case y_n4_name => k_is)
    (case y_n4_what => k_is)
    (case y_n4_most => k_is)
    (case y_s4_0 => k_is)
    (case y_s4_1 => k_is)
    (case y_s4_2 => k_is)
    (case y_s4_3 => k_is)
    (case y_s4_4 => first | rfl | k_is)
    (case y_s4_5 => k_is)
    (case y_s4_6 => k_is)
    (case y_s4_7 => k_is)
    (case y_s4_8 => k_is)
    (case y_x5 => k_is)
    (case y_sa5 => k_is)
    (case y_ga5 => k_is)
    (case y_gg5 => k_is)
    (case y_ha5 => k_is)
    (case y_kc5 => k_is)
    (case y_eb5 => k_is)
    (case y_tc5 => k_is)
    (case y_hd5 => k_is)
    (case y_mo5 => k_is)
    (case y_mm5 => k_is)
    (case y_ve5 => k_is)
    (case y_in5 => k_is)
    (case y_ti5 => k_is)
    (case y_il5 => k_is)
    (case y_ic5 => k_is)
    (case y_lk5 => k_is)
    (case y_lv5 => rfl)
    (case y_ll5 => first | rfl | decide +kernel)
    (case y_ce5 => k_is)
    (case y_sp5 => ks_is)
    (case y_n5_part => k_is)
    (case y_n5_line => k_is)
    (case y_n5_word => k_is)
    (case y_n5_name => k_is)
    (case y_n5_what => k_is)
    (case y_n5_most => k_is)
    (case y_s5_0 => k_is)
    (case y_s5_1 => k_is)
    (case y_s5_2 => k_is)
    (case y_s5_3 => k_is)
    (case y_s5_4 => k_is)
    (case y_s5_5 => first | rfl | k_is)
    (case y_s5_6 => k_is)
    (case y_s5_7 => k_is)
    (case y_s5_8 => k_is)
    (case y_x6 => k_is)
    (case y_sa6 => k_is)
    (case y_ga6 => k_is)
    (case y_gg6 => k_is)
    (case y_ha6 => k_is)
    (case y_kc6 => k_is)
    (case y_eb6 => k_is)
    (case y_tc6 => k_is)
    (case y_hd6 => k_is)
    (case y_mo6 => k_is)
    (case y_mm6 => k_is)
    (case y_ve6 => k_is)
    (case y_in6 => k_is)
    (case y_ti6 => k_is)
    (case y_il6 => k_is)
    (case y_ic6 => k_is)
    (case y_lk6 => k_is)
    (case y_lv6 => rfl)
    (case y_ll6 => first | rfl | decide +kernel)
    (case y_ce6 => k_is)
    (case y_sp6 => ks_is)
    (case y_n6_part => k_is)
    (case y_n6_line => k_is)
    (case y_n6_word => k_is)
    (case y_n6_name => k_is)
    (case y_n6_what => k_is)
    (case y_n6_most => k_is)
    (case y_s6_0 => k_is)
    (case y_s6_1 => k_is)
    (case y_s6_2 => k_is)
    (case y_s6_3 => k_is)
    (case y_s6_4 => k_is)
    (case y_s6_5 => k_is)
    (case y_s6_6 => first | rfl | k_is)
    (case y_s6_7 => k_is)
    (case y_s6_8 => k_is)
    (case y_x7 => k_is)
    (case y_sa7 => k_is)
    (case y_ga7 => k_is)
    (case y_gg7 => k_is)
    (case y_ha7 => k_is)
    (case y_kc7 => k_is)
    (case y_eb7 => k_is)
    (case y_tc7 => k_is)
    (case y_hd7 => k_is)
    (case y_mo7 => k_is)
    (case y_mm7 => k_is)
    (case y_ve7 => k_is)
    (case y_in7 => k_is)
    (case y_ti7 => k_is)
    (case y_il7 => k_is)
    (case y_ic7 => k_is)
    (case y_lk7 => k_is)
    (case y_lv7 => rfl)
    (case y_ll7 => first | rfl | decide +kernel)
    (case y_ce7 => k_is)
    (case y_sp7 => ks_is)
    (case y_n7_part => k_is)
    (case y_n7_line => k_is)
    (case y_n7_word => k_is)
    (case y_n7_name => k_is)
    (case y_n7_what => k_is)
    (case y_n7_most => k_is)
    (case y_s7_0 => k_is)
    (case y_s7_1 => k_is)
    (case y_s7_2 => k_is)
    (case y_s7_3 => k_is)
    (case y_s7_4 => k_is)
    (case y_s7_5 => k_is)
    (case y_s7_6 => k_is)
    (case y_s7_7 => first | rfl | k_is)
    (case y_s7_8 => k_is)
    (case y_x8 => k_is)
    (case y_sa8 => k_is)
    (case y_ga8 => k_is)
    (case y_gg8 => k_is)
    (case y_ha8 => k_is)
    (case y_kc8 => k_is)
    (case y_eb8 => k_is)
    (case y_tc8 => k_is)
    (case y_hd8 => k_is)
    (case y_mo8 => k_is)
    (case y_mm8 => k_is)
    (case y_ve8 => k_is)
    (case y_in8 => k_is)
    (case y_ti8 => k_is)
    (case y_il8 => k_is)
    (case y_ic8 => k_is)
    (case y_lk8 => k_is)
    (case y_lv8 => rfl)
    (case y_ll8 => first | rfl | decide +kernel)
    (case y_ce8 => k_is)
    (case y_sp8 => ks_is)
    (case y_n8_part => k_is)
    (case y_n8_line => k_is)
    (case y_n8_word => k_is)
    (case y_n8_name => k_is)
    (case y_n8_what => k_is)
    (case y_n8_most => k_is)
    (case y_s8_0 => k_is)
    (case y_s8_1 => k_is)
    (case y_s8_2 => k_is)
    (case y_s8_3 => k_is)
    (case y_s8_4 => k_is)
    (case y_s8_5 => k_is)
    (case y_s8_6 => k_is)
    (case y_s8_7 => k_is)
    (case y_s8_8 => first | rfl | k_is)
    (case y_hn => k_is)
    (case y_htk => k_is)
    (case y_op => k_is)
    (case y_z_int => k_is)
    (case y_z_len => k_is)
    (case y_z_abs => k_is)
    (case y_z_list => k_is)
    (case y_z_repr => k_is)
    (case y_z_isinstance => k_is)
    (case y_z_range => k_is)
    (case y_z_ValueError => k_is)
    (case y_z_super => k_is)

