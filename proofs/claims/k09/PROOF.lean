import PyProof.Rows.All
import Wide.All
import OpenK.AllK
import Wide.FinOn
import HandS.ForMost
import HandS.Exc
import HandS.TryOnly
import HandS.ExcOwn
import HandS.WordsExc
import HandS.ExcCtx
import HandS.HotCalls
import HandS.SuiteRaise
import HandS.ExcIs
import HandS.IsInst
import HandS.Deep
import HandS.RaiseOp
import HandS.DictTup
import HandS.SortRule
import KE.DataFind
import KE.RegKIsAll
import KE.RegKTryMore
import HandS.Conv
import PySem.Challenge.RW_knowthree_k09_greatest_crowds
set_option Elab.async false
set_option linter.all false
set_option maxRecDepth 100000
set_option maxHeartbeats 4000000
/-! own rules over the hand layer -/
namespace KT
open PySem PySem.Spec PyProof.Rows L2

/-! ### defs that raise, the exception's context being None -/
section
variable {P : Program} {w : World} {K : PySem.W.Frag} {mg : Str → Option Value} {base : Heap}
theorem okN {x qual : Str} {st : Stmt} {f : Addr} {fd : FuncData} {N ps : List Str} {k : Nat} {sp : Sp}
    (F : Fun K x qual st f fd) (S : FnScope N ps (defScope st))
    (len : ∀ vs H Q E, sp vs H Q E → vs.length = ps.length)
    (body : ∀ (cdv : Value) (A : Around) (outer : List Env) (s : Shared) (H : Hp) (vs : List V) (Q : VK) (E : XK),
      Room k (A.deeper (envOfC qual (defScope st) s.heap.objs.size f cdv)) → sp vs H Q E →
      ∃ t, PSs (cxOf (L2N.CX P w) P w K mg base N qual (defScope st) f cdv A outer s H E) (defBody st) t ∧
        t { nx := fun _ H' => Q .non H', rt := Q } (start N vs) H) :
    FnOk P w K mg base (L2N.CX P w) (k + 1) f fd ps sp := by
  obtain ⟨oc, od, kV, doc, pm, an, cdv, ct, osl, rfl, lk, hcd⟩ := F.ex
  exact fn_of lk hcd S len (fun A outer s H vs Q E hr hsp => body cdv A outer s H vs Q E hr hsp)
end
theorem passN {X : Cx} : Passes (L2N.CX X.prog X.w) X E0 := by
  intro _ _ _ _ _ _ _ h
  obtain ⟨_, _, _, _, _, _, _, _, _, _, _, _, z⟩ := h
  exact z.elim
/-- what flies with no context flies -/
theorem cx_weak {P : Program} {w : World} {outer : List Env} {H : Hp} {s : Shared} {E : XK} {u : Value} {s' : Shared}
    (h : L2N.CX P w outer H s E u s') : L2.CX P w outer H s E u s' := by
  obtain ⟨a, B, H', cls, d, e, fl, r⟩ := h
  exact ⟨a, B, H', cls, d, e, L2H.flyingZ_imp (fun _ z => L2N.Zn.zc z) fl, r⟩
theorem FnOk_weak {P : Program} {w : World} {K : PySem.W.Frag} {mg : Str → Option Value} {base : Heap} {k : Nat} {f : Addr}
    {fd : FuncData} {ps : List Str} {sp : Sp} (F : FnOk P w K mg base (L2N.CX P w) k f fd ps sp) :
    FnOk P w K mg base (L2.CX P w) k f fd ps sp := by
  refine ⟨F.len, ?_⟩
  intro A outer s H args us vs Q E hr e0 b r h
  refine codeAny_mono (F.run A outer s H args us vs Q E hr e0 b r h) ?_
  intro r s' q
  cases r with
  | error e => exact cx_weak q
  | ok fl => cases fl <;> exact q
/-- a def that lets nothing out may stand where one may -/
theorem FnOk_calm {P : Program} {w : World} {K : PySem.W.Frag} {mg : Str → Option Value} {base : Heap} {k : Nat} {f : Addr}
    {fd : FuncData} {ps : List Str} {sp : Sp} {CX : CXT} (F : FnOk P w K mg base CX0 k f fd ps sp) :
    FnOk P w K mg base CX k f fd ps sp := by
  refine ⟨F.len, ?_⟩
  intro A outer s H args us vs Q E hr e0 b r h
  refine codeAny_mono (F.run A outer s H args us vs Q E hr e0 b r h) ?_
  intro r s' q
  cases r with
  | error e => exact False.elim q
  | ok fl => cases fl <;> exact q

/-! ### methods and classes called where what is raised is wished for at the caller's slots -/
section
variable {X : Cx} {CX : CXT} {k : Nat} {f C : Addr} {fd : FuncData} {ps : List Str} {sp : Sp} {E : L2.St → XK}
  {x m : Str} {p pos apos : Pos} {e o : Expr} {es : List Expr} {ta : TE} {t : TA}
def tMethS (C : Addr) (m : Str) (sp : Sp) (E : L2.St → XK) (ta : TE) (t : TA) : TE := fun σ H Q => ta σ H fun x H1 =>
  ∃ a dx fs, x = .ref a ∧ H1 a = some (.ins C dx fs) ∧ fs.lookup m = none ∧ t σ H1 fun vs H2 => sp (x :: vs) H2 Q (E σ)
theorem pe_methS {pl : Sem Bool} (he : PE X o ta) (c : Cls X.K C) (hm : Meth X.K C m f)
    (F : FnOk X.prog X.w X.K X.mg X.base CX k f fd ps sp) (hr : Room k X.A) (hb : Binds X.K fd ps [])
    (hx : ∀ σ, PassesAt CX X σ (E σ)) (ha : PA X (e :: es) t)
    (hst : starEach (e :: es) X.env = (false, eval e X.env) :: starEach es X.env := by rfl)
    (hpl : (backTo pos (starEach es X.env)).any (·.1) = false := by rfl)
    (ht : eval (.Call (.Attribute o m apos) (e :: es) [] pos) X.env = (do
      let ov ← eval o X.env
      standAt apos.atName
      let (f, first) ← holding [ov] (getMethod ov m pl)
      callWith pos f first (backTo pos (starEach (e :: es) X.env)) (backToKw pos (keywordEach [] X.env))) := by rfl) :
    PE X (.Call (.Attribute o m apos) (e :: es) [] pos) (tMethS C m sp E ta t) := by
  constructor
  intro pins s σ H Q I h
  refine PySem.W.methodCall_KW (pl := pl) (thn (he.run pins s σ H _ I h) ?_) ht
  rintro u s1 ⟨x, H1, I1, rx, a, dx, fs, ex, ea, l, q⟩
  subst ex
  obtain rfl : u = Value.ref a := rx
  refine getmeth_ok I1 ea c hm l ?_
  refine PySem.W.callWith_K (first := [.ref a]) (h₀ := X.base) I.ok.mod.kin hm.kp (thn (ha.run pos pins s1 σ H1 _ I1 q) ?_) hst hpl
  rintro us s2 ⟨vs, H2, I2, r, q2⟩
  exact ⟨I2.kIn, run_fnS (us := .ref a :: us) (vs := .ref a :: vs) F hr hb (hx σ) I2 (.cons rfl r) q2⟩
def tMakeS (C : Addr) (sp : Sp) (E : L2.St → XK) (t : TA) : TE := fun σ H Q => t σ H fun vs H1 => ∀ x dx, H1 x = none → H1 dx = none → dx ≠ x →
  sp (.ref x :: vs) (upd (upd H1 dx (.own x)) x (.ins C dx [])) (fun v H2 => v = .non ∧ Q (.ref x) H2) (E σ)
theorem pe_makeS (M : Mk X.K C f) (F : FnOk X.prog X.w X.K X.mg X.base CX k f fd ps sp) (hr : Room (k + 1) X.A) (hg : Gl X x)
    (hm : X.mg x = some (.ref C)) (hb : Binds X.K fd ps []) (hx : ∀ σ, PassesAt CX X σ (E σ)) (ha : PA X (e :: es) t)
    (hdb : (x == ("__debug__" : Str)) = false := by decide)
    (he : starEach (e :: es) X.env = (false, eval e X.env) :: starEach es X.env := by rfl)
    (hpl : (backTo pos (starEach es X.env)).any (·.1) = false := by rfl) :
    PE X (.Call (.Name x p) (e :: es) [] pos) (tMakeS C sp E t) := by
  constructor
  intro pins s0 σ H0 Q I0 h0
  refine wpAny_Call_Name_kw (ld_glob I0 hg hm ?_ hdb)
  refine PySem.W.callWith_K (h₀ := X.base) I0.ok.mod.kin M.kp (thn (ha.run pos pins s0 σ H0 _ I0 h0) ?_) he hpl
  rintro us s ⟨vs, H, I, r, h⟩
  refine ⟨I.kIn, ?_⟩
  have hq := h (s.heap.objs.size + 1) s.heap.objs.size (I.hok.fresh (Nat.le_succ _)) (I.hok.fresh (Nat.le_refl _)) (Nat.ne_of_lt (Nat.lt_succ_self _))
  have I2 := Inv.made (C := C) I
  have r2 : Vals (V.ref (s.heap.objs.size + 1) :: vs) (Value.ref (s.heap.objs.size + 1) :: us) := .cons rfl r
  have hl : (Value.ref (s.heap.objs.size + 1) :: us).length = ps.length := by
    rw [← r2.length]
    exact F.len _ _ _ _ hq
  have b := hb _ (Value.ref (s.heap.objs.size + 1) :: us) I2.kIn (by rw [List.append_nil]; exact hl)
  rw [List.append_nil] at b
  refine wpAny_call (make_map (f := f) I.kIn M.makes M.init (beq_iff_eq.mp M.fn) ?_)
  refine codeAny_mono (F.run _ X.stack _ _ ⟨Value.ref (s.heap.objs.size + 1) :: us, []⟩ _ _ _ (E σ) (hr.make C us []) (I2.env0.make C us []) b r2 hq) ?_
  intro r s' hq'
  cases r with
  | error e => exact hx σ pins _ _ e s' I2 hq'
  | ok fl =>
    cases fl with
    | ret u =>
      obtain ⟨v, H', I3, rv, ev, q3⟩ := I2.after hq'
      subst ev
      exact ⟨rv, ⟨V.ref (s.heap.objs.size + 1), H', I3, rfl, q3⟩⟩
    | next => exact hq'.elim
    | brk => exact hq'.elim
    | cont => exact hq'.elim
end

/-! ### d.pop(t), t a tuple that is a key -/
section
variable {X : Cx}
def rPop1 : V → List V → Hp → VK → Prop := fun x xs H Q => ∃ (a : Addr) (kvs : List (List L2.Key × V)) (k : List L2.Key) (b : Addr) (v : V),
  x = .ref a ∧ xs = [.ref b] ∧ H a = some (.dT kvs) ∧ H b = some (.tup (k.map kV)) ∧ valV kvs k = some v ∧ Q v (upd H a (.dT (dropK kvs k)))
theorem meetsPop1 {prog : Program} {w : World} {K : Type} [DecidableEq K] {knd : HeapKind prog w K} {d b : Addr} {k : K} :
    MeetsIn prog w (Builtin.«dict.pop» ⟨[.ref d, .ref b], []⟩) (fun A R s => ∃ (xs : List (K × Addr × Value)) (p : Addr × Value), knd.room A.in1 ∧ knd.is s.heap k b ∧
      s.heap.DictOfH knd d xs ∧ xs.length ≤ sizeLine ∧ atKey xs k = some p ∧
      ∀ h' tk, h'.DictOfH knd d (DT.dropH xs k) → Heap.SameBut d s.heap h' → R (.ok (.ret p.2)) { s with heap := h', toks := tk }) := by
  refine .of_wp ?_
  rintro A R s ⟨xs, p, hu, hkey, hm, hsz, hp, hgo⟩
  obtain ⟨o, es, ep, ho, hc, hdat, he, his, hn⟩ := id hm
  have hes : es.size = xs.length := size_of_entries he
  have part : (keyPart (Value.ref b)).isSome = false := rfl
  unfold Builtin.«dict.pop»
  refine wpAny_bind ?_
  unfold Builtin.Dict.keyAndDefault
  refine wpAny_bind (wpAny_notOrdered_dict hm.typeIs ?_)
  show wpAny _ _ (pure (d, Value.ref b, none)) _ _ s
  refine wpAny_pure ?_
  simp only [part, Bool.false_eq_true, if_false]
  refine wpAny_bind (wpAny_dictEntries ho hdat (wpAny_bind (wpAny_pure ?_)))
  have hem : es.isEmpty = false := by
    cases q : es.isEmpty with
    | false => rfl
    | true =>
      have z : es.size = 0 := by simpa using q
      have z2 : xs = [] := List.length_eq_zero_iff.mp (by omega)
      subst z2
      exact absurd hp (by simp [atKey])
  rw [hem]
  simp only [Bool.false_eq_true, if_false]
  refine wpAny_bind (DT.takeH hu hkey hm hsz (fun no => ?_) (fun p' e hp' hev h' hm' hs' => ?_))
  · rw [no] at hp
    exact nomatch hp
  · have ep : p' = p := Option.some.inj (hp'.symm.trans hp)
    subst ep
    simp only [Option.isNone_some, Bool.false_eq_true, if_false]
    refine wpAny_bind (wpAny_letGo (wpAny_pure ⟨e.val, rfl, ?_⟩))
    rw [hev]
    exact hgo h' _ hm' hs'
theorem mt_pop1 (hu : X.A.units + 1 < cLine) : MtR X "dict.pop" rPop1 := by
  intro pins s σ H x xs v us Q I rx rxs h
  obtain ⟨a, kvs, k, b, v0, rfl, rfl, ha, hb, hv, q⟩ := h
  cases rx
  obtain ⟨u1, rfl, r1⟩ := vals1 rxs
  cases r1
  obtain ⟨z, hd, xs', rel, dd⟩ := dt_of I.hok ha
  have hz : xs'.length ≤ sizeLine := by rw [← Paired.length rel]; exact z
  obtain ⟨p, hp, rv⟩ : ∃ p, atKey xs' k = some p ∧ RelV v0 p.2 := by
    have r := rel.val k
    rw [hv] at r
    cases e : atKey xs' k with
    | none =>
      rw [e] at r
      exact (show False from r).elim
    | some p =>
      rw [e] at r
      exact ⟨p, rfl, r⟩
  refine call_meetsIn PySem.F.slot_dict_pop dd.typeIs PySem.F.entry_dict_pop (PySem.F.args_dict_pop_2 _ _) (meetsPop1 (knd := tupleKind (mixKind X.prog X.w)) (k := k)) ?_
  refine ⟨xs', p, tupleKind_room_in1 hu, key_of I.hok hb, dd, hz, hp, ?_⟩
  intro h' tk dd' hs
  obtain ⟨o, es, ep, hq, h2, h3, h4, _, h5⟩ := dd'
  have keepT : ∀ (c : Addr) (ys : List V), H c = some (.tup ys) → upd H a (.dT (dropK kvs k)) c = some (.tup ys) := by
    intro c ys ec
    rw [upd_ne (ne_of ec ha (fun z => nomatch z))]
    exact ec
  have I2 : Inv X pins σ (upd H a (.dT (dropK kvs k))) { s with heap := h', toks := tk } :=
    d_write I (by rw [ha]; exact True.intro) hs ⟨o, hq⟩ ⟨Nat.le_trans (dropK_le kvs k) z, hd, _, (L2.DX.KT_drop k rel).keeps keepT, o, es, ep, hq, h2, h3, h4, h5⟩
  show EP X pins σ Q p.2 _
  exact ⟨v0, _, I2, rv, q⟩
end
end KT

/-! ### l.remove(x) of data, x in l -/
namespace KT
open PySem PySem.Spec PyProof.Rows L2
section
variable {X : Cx}
def rRemD (K : PySem.W.Frag) : V → List V → Hp → VK → Prop := fun x xs H Q => ∃ (l : Addr) (ys : List V) (y : V) (ds : List PyData) (d : PyData) (j : Nat),
  x = .ref l ∧ xs = [y] ∧ H l = some (.lst ys) ∧ DpAll K H ys ds ∧ Dp K H y d ∧ PyData.plainAll ds = true ∧ d.plain = true ∧ d.depth ≤ 64 ∧
  SeqAt.dataPlace ds d = some j ∧ Q .non (upd H l (.lst (ys.eraseIdx j)))
theorem mt_removeD (hu : X.A.units + 65 < cLine) : MtR X "list.remove" (rRemD X.K) := by
  intro pins s σ H x xs v us Q I rx rxs h
  obtain ⟨l, ys, y, ds, d, j, rfl, rfl, hl, ha, hy, pl, pd, dep, hj, q⟩ := h
  cases rx
  obtain ⟨u, rfl, ru⟩ := vals1 rxs
  obtain ⟨bs, r1⟩ := Dp.reads I d y u hy ru
  obtain ⟨z, its, n, rv, hlen, e0⟩ := I.lstM hl
  obtain ⟨as, r2⟩ := Dp.readsAll I ds _ its ha rv
  have hroom : X.A.units + 1 + min (PyData.depthAll ds) d.depth < cLine := by
    have := Nat.min_le_right (PyData.depthAll ds) d.depth
    omega
  refine SeqAt.remove_list_data (vs := its.toArray) ⟨_, e0, rfl, n, rfl⟩ r2 r1 pl pd hroom hj (by rw [List.size_toArray, ← hlen]; exact z) ?_
  refine ⟨.non, _, I.lset (its' := its.eraseIdx j) hl e0 ?_ (rv.eraseIdx j) ?_, rfl, q⟩
  · show its.toArray.eraseIdxIfInBounds j = (its.eraseIdx j).toArray
    rw [List.eraseIdxIfInBounds_toArray]
  · have := List.length_eraseIdx_le ys j
    omega
end

/-! ### a def called in an except suite, with the exception as its argument -/
section
open L2H
structure FnP (P : Program) (w : World) (K : PySem.W.Frag) (mg : Str → Option Value) (base : Heap) (k : Nat) (f : Addr) (fd : FuncData)
    (ps : List Str) (sp : Addr → Value → Option Addr → Sp) : Prop where
  len : ∀ a cls d vs H Q E, sp a cls d vs H Q E → vs.length = ps.length
  run : ∀ (A : Around) (outer : List Env) (s : Shared) (H : Hp) (args : Args) (us : List Value) (vs : List V) (Q : VK) (E : XK)
    (p : Addr × Obj) (cls : Value) (d : Option Addr), RoomH k A → PinOk outer H s p → Zc cls d p.2 → (∃ fv, p.2.data = .fields fv) →
    Env0 P w K mg base A outer s H → BindsTo s fd args (ps.zip us) → Vals vs us →
    sp p.1 cls d vs H Q E → codeAny (model P w) A (.call (.ref f) args) (CR CX0 outer P w H s Q E) s
theorem okP {P : Program} {w : World} {K : PySem.W.Frag} {mg : Str → Option Value} {base : Heap} {x qual : Str} {st : Stmt} {f : Addr}
    {fd : FuncData} {N ps : List Str} {k : Nat} {sp : Addr → Value → Option Addr → Sp}
    (F : Fun K x qual st f fd) (S : FnScope N ps (defScope st)) (len : ∀ a cls d vs H Q E, sp a cls d vs H Q E → vs.length = ps.length)
    (body : ∀ (cdv : Value) (A : Around) (outer : List Env) (s : Shared) (H : Hp) (vs : List V) (Q : VK) (E : XK) (p : Addr × Obj)
      (cls : Value) (d : Option Addr), RoomH k (A.deeper (envOfC qual (defScope st) s.heap.objs.size f cdv)) → Zc cls d p.2 →
      (∃ fv, p.2.data = .fields fv) → sp p.1 cls d vs H Q E →
      ∃ t, PSs (cxH CX0 P w K mg base N qual (defScope st) f cdv A outer s H E p) (defBody st) t ∧
        t { nx := fun _ H' => Q .non H', rt := Q } (L2.start N vs) H) :
    FnP P w K mg base (k + 1) f fd ps sp := by
  obtain ⟨oc, od, kV, doc, pm, an, cdv, ct, osl, rfl, lk, hcd⟩ := F.ex
  refine ⟨len, ?_⟩
  intro A outer s H args us vs Q E p cls d hr hpin hz hf e0 hb r hsp
  have hl := len _ _ _ _ _ _ _ hsp
  have kb : ∀ b o, base.get? b = some o → s.heap.get? b = some o := fun b o e => (e0.bs b o e).1
  have KX : K.In s.heap := e0.mod.kin.keeps kb
  have lim : s.heap.NoLimit := e0.mod.nolimit.keeps kb
  refine codeAny_call_function hr.depth (KX _ _ lk) rfl S.co S.gen rfl (PySem.W.codeRec_of KX hcd) (hb _ _ _ _ ?_)
  refine wpAny_newFunctionEnv_cells S.kind ?kinds ?go
  case kinds =>
    rintro ⟨n, v⟩ hy
    rcases S.par n (List.of_mem_zip hy).1 with q | q
    · exact .inl q
    · exact .inr ⟨q, PySem.W.cellsFrom_some _ _ _ (.inl q)⟩
  intro env he s1 xin
  subst he
  refine ⟨lim.keeps xin.toInCall.keep, codeAny_func ?_⟩
  obtain ⟨t, ht, hq⟩ := body cdv A outer s H vs Q E p cls d (hr.deeper _) hz hf hsp
  have I := inv_startH (CX := CX0) (E := E) (N := N) (qual := qual) (f := f) (cd := cdv) S hpin e0 hl r xin
  refine wpAny_mono (ht.run [] s1 (L2.start N vs) H _ I hq) ?_ (fun e s' hs => hs)
  intro fl s' hs
  cases fl with
  | ret u =>
    obtain ⟨v, σ', H', J, rv, q⟩ := hs
    exact ⟨v, H', J.os, J.bare, J.base, J.hok, rv, q⟩
  | next =>
    obtain ⟨σ', H', J, q⟩ := hs
    exact ⟨V.non, H', J.os, J.bare, J.base, J.hok, rfl, q⟩
  | brk =>
    obtain ⟨_, _, _, q⟩ := hs
    exact q.elim
  | cont =>
    obtain ⟨_, _, _, q⟩ := hs
    exact q.elim
variable {X : Cx} {k : Nat} {f : Addr} {fd : FuncData} {ps : List Str} {sp : Addr → Value → Option Addr → Sp} {x : Str} {q pos : Pos} {e : Expr}
  {es : List Expr} {t : TA} {p : Addr × Obj} {cls : Value} {d : Option Addr}
def tCallP (sp : Addr → Value → Option Addr → Sp) (a : Addr) (cls : Value) (d : Option Addr) (t : TA) : TE := fun σ H Q => t σ H fun vs H1 => sp a cls d vs H1 Q E0
theorem pe_callP (F : FnP X.prog X.w X.K X.mg X.base k f fd ps sp) (hr : RoomH k X.A) (hp : p ∈ X.pn) (hz : Zc cls d p.2) (hf : ∃ fv, p.2.data = .fields fv)
    (hg : Gl X x) (hm : X.mg x = some (.ref f)) (hk : PySem.W.keepIn X.K (.ref f) = true) (hb : Binds X.K fd ps [])
    (ha : PA X (e :: es) t) (hdb : (x == ("__debug__" : Str)) = false := by decide)
    (he : starEach (e :: es) X.env = (false, eval e X.env) :: starEach es X.env := by rfl)
    (hpl : (backTo pos (starEach es X.env)).any (·.1) = false := by rfl) :
    PE X (.Call (.Name x q) (e :: es) [] pos) (tCallP sp p.1 cls d t) := by
  constructor
  intro pins s σ H Q I h
  refine wpAny_Call_Name_kw (ld_glob I hg hm ?_ hdb)
  refine PySem.W.callWith_K (h₀ := X.base) I.ok.mod.kin hk (thn (ha.run pos pins s σ H _ I h) ?_) he hpl
  rintro us s1 ⟨vs, H1, I1, r, h1⟩
  refine ⟨I1.kIn, ?_⟩
  have hl : us.length = ps.length := by rw [← r.length]; exact F.len _ _ _ _ _ _ _ h1
  have b := hb s1 us I1.kIn (by rw [List.append_nil]; exact hl)
  rw [List.append_nil] at b
  have P1 := I1.pin p (List.mem_append_left _ hp)
  have hpin : PinOk X.stack H1 s1 p := ⟨P1.1, P1.2.1, fun hm => (List.mem_cons.mp (I1.stkSub p.1 hm)).elim P1.2.2.1 P1.2.2.2.1, P1.2.2.2.2⟩
  refine wpAny_call (codeAny_mono (F.run X.A X.stack s1 H1 ⟨us, []⟩ us vs Q E0 p cls d hr hpin hz hf I1.env0 b r h1) ?_)
  intro r s' hq
  cases r with
  | error e => exact hq.elim
  | ok fl =>
    cases fl with
    | ret u => exact I1.after hq
    | next => exact False.elim hq
    | brk => exact False.elim hq
    | cont => exact False.elim hq
/-- isinstance(e, c), e a pinned exception -/
theorem call_isP {D : Addr} (hp : p ∈ X.pn) (C : ExcC X.K D) (hz : Zc (.ref D) none p.2) (hf : ∃ vs, p.2.data = .fields vs) :
    CallR X (.builtin "isinstance") (rIsE X.K D p.1) := by
  obtain ⟨a, oe⟩ := p
  intro pins s σ H xs us Q I r h
  obtain ⟨c, cv, b, rfl, hcv, ek, h1⟩ := h
  obtain ⟨u1, u2, rfl, r1, r2⟩ := vals2 r
  cases r1
  have ec := hcv _ r2
  subst ec
  have hget := (I.pin (a, oe) (List.mem_append_left _ hp)).1
  obtain ⟨vs, hv⟩ := hf
  have J : PySem.W.InstAt s.heap a oe D none := by
    obtain ⟨oc, od, oda, osl⟩ := oe
    obtain ⟨h1, h2⟩ := hz
    dsimp only at h1 h2 hv
    subst h1 h2 hv
    exact ⟨hget, rfl, rfl, trivial⟩
  refine PySem.W.kia_one (PySem.W.handS_kitx_exc C.hg C.hk C.hs C.hd C.ha C.hn C.ht C.hm) I.kIn J ek (fun z => nomatch z) ?_
  intro tk
  exact ⟨.bl b, H, I.kept (t' := tk) fun _ _ z => z, rfl, h1⟩
end
end KT

/-! pairs of guests, heaps, bundles -/
namespace KT
open PySem PySem.Spec PyProof.Rows L2

/-! ### plain: pairs -/
abbrev Pr := Nat × Nat
def nrm (i j : Nat) : Pr := (min i j, max i j)
def WF (n : Nat) (L : List Pr) : Prop := L.Nodup ∧ ∀ p ∈ L, p.1 < p.2 ∧ p.2 < n
theorem nrm_comm (i j : Nat) : nrm i j = nrm j i := by
  unfold nrm
  rw [Nat.min_comm, Nat.max_comm]
theorem nrm_lt {i j : Nat} (h : i < j) : nrm i j = (i, j) := by
  unfold nrm
  rw [Nat.min_eq_left (by omega), Nat.max_eq_right (by omega)]
theorem nrm_ok {i j n : Nat} (h : i ≠ j) (hi : i < n) (hj : j < n) : (nrm i j).1 < (nrm i j).2 ∧ (nrm i j).2 < n := by
  show min i j < max i j ∧ max i j < n
  omega
theorem min_py (i j : Nat) : (if (j : Int) < (i : Int) then (j : Int) else (i : Int)) = ((min i j : Nat) : Int) := by
  split <;> omega
theorem max_py (i j : Nat) : (if (j : Int) > (i : Int) then (j : Int) else (i : Int)) = ((max i j : Nat) : Int) := by
  split <;> omega
theorem len_bound : ∀ (m : Nat) (l : List Nat), l.Nodup → (∀ x ∈ l, x < m) → l.length ≤ m
  | 0, [], _, _ => Nat.le_refl _
  | 0, a :: l, _, h => absurd (h a List.mem_cons_self) (Nat.not_lt_zero _)
  | m + 1, l, nd, h => by
    by_cases hm : m ∈ l
    · have h1 := len_bound m (l.erase m) (nd.erase m) (fun x hx => by
        have a := h x (List.mem_of_mem_erase hx)
        have b : x ≠ m := fun e => by
          rw [e] at hx
          exact (List.Nodup.not_mem_erase nd) hx
        omega)
      rw [List.length_erase_of_mem hm] at h1
      omega
    · have h1 := len_bound m l nd (fun x hx => by
        have a := h x hx
        have b : x ≠ m := fun e => hm (by rw [← e]; exact hx)
        omega)
      omega
theorem map_nodup {α β : Type} {f : α → β} : ∀ {l : List α}, (∀ a ∈ l, ∀ b ∈ l, f a = f b → a = b) → l.Nodup → (l.map f).Nodup
  | [], _, _ => by simp
  | a :: l, inj, nd => by
    rw [List.nodup_cons] at nd
    rw [List.map_cons, List.nodup_cons]
    refine ⟨fun m => ?_, map_nodup (fun x hx y hy => inj x (List.mem_cons_of_mem _ hx) y (List.mem_cons_of_mem _ hy)) nd.2⟩
    obtain ⟨b, hb, e⟩ := List.mem_map.mp m
    have := inj b (List.mem_cons_of_mem _ hb) a List.mem_cons_self e
    exact nd.1 (by rw [← this]; exact hb)
theorem WF.len {n : Nat} {L : List Pr} (h : WF n L) (hn : n ≤ 20) : L.length ≤ 400 := by
  have h1 := len_bound 400 (L.map fun p => p.1 * 20 + p.2) (map_nodup (fun a ha b hb e => by
    have x := h.2 a ha
    have y := h.2 b hb
    obtain ⟨a1, a2⟩ := a
    obtain ⟨b1, b2⟩ := b
    simp only at x y e
    have e1 : a1 = b1 := by omega
    have e2 : a2 = b2 := by omega
    rw [e1, e2]) h.1) (fun x hx => by
      obtain ⟨p, hp, rfl⟩ := List.mem_map.mp hx
      have := h.2 p hp
      omega)
  rwa [List.length_map] at h1
theorem WF.nil (n : Nat) : WF n [] := ⟨List.nodup_nil, fun p hp => by cases hp⟩
theorem WF.snoc {n : Nat} {L : List Pr} {q : Pr} (h : WF n L) (hq : q.1 < q.2 ∧ q.2 < n) (nq : q ∉ L) : WF n (L ++ [q]) := by
  refine ⟨nd_snoc h.1 nq, fun p hp => ?_⟩
  rcases List.mem_append.mp hp with z | z
  · exact h.2 p z
  · rw [List.mem_singleton.mp z]
    exact hq
theorem WF.erase {n : Nat} {L : List Pr} (q : Pr) (h : WF n L) : WF n (L.erase q) := ⟨h.1.erase q, fun p hp => h.2 p (List.mem_of_mem_erase hp)⟩

/-! ### the dict of a hall -/
def kP (p : Pr) : List L2.Key := [Sum.inl (p.1 : Int), Sum.inl (p.2 : Int)]
def kvs (L : List Pr) : List (List L2.Key × V) := L.map fun p => (kP p, V.bl true)
theorem kP_inj {p q : Pr} (h : kP p = kP q) : p = q := by
  obtain ⟨a, b⟩ := p
  obtain ⟨c, d⟩ := q
  injection h with h1 h2
  injection h2 with h2 _
  have e1 := Int.ofNat.inj (Sum.inl.inj h1)
  have e2 := Int.ofNat.inj (Sum.inl.inj h2)
  exact Prod.ext e1 e2
theorem kP_map (p : Pr) : (kP p).map kV = [V.int (p.1 : Int), V.int (p.2 : Int)] := rfl
theorem valV_kvs (q : Pr) : ∀ L : List Pr, valV (kvs L) (kP q) = if q ∈ L then some (V.bl true) else none
  | [] => rfl
  | p :: L => by
    show valV ((kP p, V.bl true) :: kvs L) (kP q) = _
    by_cases e : p = q
    · subst e
      rw [valV_pos rfl, if_pos List.mem_cons_self]
    · rw [valV_neg (fun z => e (kP_inj z)), valV_kvs q L]
      by_cases m : q ∈ L
      · rw [if_pos m, if_pos (List.mem_cons_of_mem _ m)]
      · rw [if_neg m, if_neg (fun z => (List.mem_cons.mp z).elim (fun y => e y.symm) m)]
theorem isSome_kvs (q : Pr) (L : List Pr) : (valV (kvs L) (kP q)).isSome = decide (q ∈ L) := by
  rw [valV_kvs]
  by_cases m : q ∈ L
  · rw [if_pos m, decide_eq_true m] <;> rfl
  · rw [if_neg m, decide_eq_false m] <;> rfl
theorem put_kvs {q : Pr} {L : List Pr} (m : q ∉ L) : putK (kvs L) (kP q) (V.bl true) = kvs (L ++ [q]) := by
  rw [putK_new _ (by rw [valV_kvs, if_neg m])]
  unfold kvs
  rw [List.map_append]
  rfl
theorem drop_kvs {q : Pr} : ∀ {L : List Pr}, L.Nodup → dropK (kvs L) (kP q) = kvs (L.erase q)
  | [], _ => rfl
  | p :: L, nd => by
    have nd2 := List.nodup_cons.mp nd
    show dropK ((kP p, V.bl true) :: kvs L) (kP q) = _
    by_cases e : p = q
    · subst e
      rw [dropK_pos rfl, List.erase_cons_head]
      refine dropK_no fun m => nd2.1 ?_
      obtain ⟨z, hz, ez⟩ := List.mem_map.mp m
      obtain ⟨r, hr, er⟩ := List.mem_map.mp hz
      subst er
      rw [← kP_inj ez]
      exact hr
    · rw [dropK_neg (fun z => e (kP_inj z)), List.erase_cons_tail (by simpa using e), drop_kvs nd2.2]
      rfl
theorem length_kvs (L : List Pr) : (kvs L).length = L.length := List.length_map _

/-! ### heaps -/
def Keep (D : List Addr) (H H' : Hp) : Prop := ∀ b o, b ∉ D → H b = some o → H' b = some o
theorem Keep.of {H H' : Hp} (D : List Addr) (s : Same H H') : Keep D H H' := fun b o _ e => s b o e
theorem Keep.same {H H' : Hp} (k : Keep [] H H') : Same H H' := fun b o e => k b o (by simp) e
theorem Keep.refl (D : List Addr) (H : Hp) : Keep D H H := fun _ _ _ e => e
theorem Keep.trans {D : List Addr} {H H1 H2 : Hp} (a : Keep D H H1) (b : Keep D H1 H2) : Keep D H H2 := fun c o n e => b c o n (a c o n e)
theorem Keep.mono {D D' : List Addr} {H H1 : Hp} (a : Keep D H H1) (h : ∀ b ∈ D, b ∈ D') : Keep D' H H1 := fun c o n e => a c o (fun m => n (h c m)) e
theorem Keep.at1 {d : Addr} {H H' : Hp} (k : Keep [d] H H') {b : Addr} {o : HO} (n : b ≠ d) (e : H b = some o) : H' b = some o := k b o (by simpa using n) e
theorem same_new {H : Hp} {p : Addr} (o : HO) (h : H p = none) : Same H (upd H p o) := fun b u e => by
  rw [upd_ne (ne_of_none e h)]
  exact e
theorem Keep.put {H : Hp} (d : Addr) (o : HO) : Keep [d] H (upd H d o) := fun b u n e => by
  rw [upd_ne (by simpa using n)]
  exact e
/-- a new object that is changed later -/
theorem same_keepNew {H H1 H2 : Hp} {p : Addr} (s : Same H H1) (hp : H p = none) (k : Keep [p] H1 H2) : Same H H2 := fun b o e =>
  k.at1 (ne_of_none e hp) (s b o e)

/-! ### a hall -/
def hf (n : Nat) (d : Addr) : List (Str × V) := putF "pairs" (.ref d) (putF "count" (.int (n : Int)) [])
theorem cp_ : ¬ (("count" : Str) = "pairs") := by decide +kernel
theorem pc_ : ¬ (("pairs" : Str) = "count") := by decide +kernel
theorem hf_count (n : Nat) (d : Addr) : (hf n d).lookup ("count" : Str) = some (.int (n : Int)) := by
  unfold hf
  rw [lookup_putF, if_neg cp_, lookup_putF, if_pos rfl]
theorem hf_pairs (n : Nat) (d : Addr) : (hf n d).lookup ("pairs" : Str) = some (.ref d) := by
  unfold hf
  rw [lookup_putF, if_pos rfl]
theorem hf_no (n : Nat) (d : Addr) {m : Str} (h1 : ¬ m = "pairs") (h2 : ¬ m = "count") : (hf n d).lookup m = none := by
  unfold hf
  rw [lookup_putF, if_neg h1, lookup_putF, if_neg h2]
  rfl
structure HallAt (C : Addr) (H : Hp) (p : Addr) (n : Nat) (d : Addr) (L : List Pr) : Prop where
  ins : ∃ dx, H p = some (.ins C dx (hf n d))
  dic : H d = some (.dT (kvs L))
  wf : WF n L
  lo : 1 ≤ n
  hi : n ≤ 20
section
variable {C : Addr} {H H' : Hp} {p d : Addr} {n : Nat} {L : List Pr}
theorem HallAt.ne (h : HallAt C H p n d L) : p ≠ d := by
  obtain ⟨dx, e⟩ := h.ins
  exact ne_of e h.dic (fun z => nomatch z)
theorem HallAt.same (h : HallAt C H p n d L) (s : Same H H') : HallAt C H' p n d L :=
  ⟨let ⟨dx, e⟩ := h.ins; ⟨dx, s _ _ e⟩, s _ _ h.dic, h.wf, h.lo, h.hi⟩
theorem HallAt.keep {D : List Addr} (h : HallAt C H p n d L) (k : Keep D H H') (hp : p ∉ D) (hd : d ∉ D) : HallAt C H' p n d L :=
  ⟨let ⟨dx, e⟩ := h.ins; ⟨dx, k _ _ hp e⟩, k _ _ hd h.dic, h.wf, h.lo, h.hi⟩
end

/-! ### lists of pairs -/
def PairV (H : Hp) (v : V) (p : Pr) : Prop := ∃ a, v = .ref a ∧ H a = some (.tup [.int (p.1 : Int), .int (p.2 : Int)])
abbrev PairVs (H : Hp) : List V → List Pr → Prop := Paired (PairV H)
structure PairsAt (H : Hp) (l : Addr) (E : List Pr) : Prop where
  ex : ∃ xs, H l = some (.lst xs) ∧ PairVs H xs E
theorem PairVs.keep {H H' : Hp} (k : ∀ b ys, H b = some (.tup ys) → H' b = some (.tup ys)) {xs : List V} {E : List Pr} (h : PairVs H xs E) : PairVs H' xs E :=
  Paired.mapP h fun v p ⟨a, e, z⟩ => ⟨a, e, k _ _ z⟩
theorem PairVs.snoc {H : Hp} : ∀ {xs : List V} {E : List Pr} {v : V} {p : Pr}, PairVs H xs E → PairV H v p → PairVs H (xs ++ [v]) (E ++ [p])
  | _, _, _, _, .nil, h => .cons h .nil
  | _, _, _, _, .cons a r, h => .cons a (PairVs.snoc r h)
theorem PairVs.eraseIdx {H : Hp} : ∀ {xs : List V} {E : List Pr} (j : Nat), PairVs H xs E → PairVs H (xs.eraseIdx j) (E.eraseIdx j)
  | _, _, _, .nil => .nil
  | _, _, 0, .cons _ r => r
  | _, _, j + 1, .cons a r => .cons a (PairVs.eraseIdx j r)
theorem PairVs.get {H : Hp} : ∀ {xs : List V} {E : List Pr} {i : Nat} {v : V}, PairVs H xs E → xs[i]? = some v → ∃ p, E[i]? = some p ∧ PairV H v p
  | _, _, _, _, .nil, e => by simp at e
  | _, _, 0, _, .cons a _, e => by
    simp at e
    subst e
    exact ⟨_, rfl, a⟩
  | _, _, i + 1, v, .cons _ r, e => PairVs.get (i := i) (v := v) r (by simpa using e)
theorem PairsAt.same {H H' : Hp} {l : Addr} {E : List Pr} (h : PairsAt H l E) (s : Same H H') : PairsAt H' l E := by
  obtain ⟨xs, e, r⟩ := h.ex
  exact ⟨xs, s _ _ e, r.keep fun b ys z => s _ _ z⟩
/-- kept where lists and dicts of D alone change -/
theorem PairsAt.keep {D : List Addr} {H H' : Hp} {l : Addr} {E : List Pr} (h : PairsAt H l E) (k : Keep D H H') (hl : l ∉ D) (hD : ∀ b ∈ D, ∀ ys, H b ≠ some (.tup ys)) : PairsAt H' l E := by
  obtain ⟨xs, e, r⟩ := h.ex
  exact ⟨xs, k _ _ hl e, r.keep fun b ys z => k _ _ (fun m => hD b m ys z) z⟩
def pD (p : Pr) : PyData := .tuple [.int (p.1 : Int), .int (p.2 : Int)]
theorem PairV.dp {K : PySem.W.Frag} {H : Hp} {v : V} {p : Pr} (h : PairV H v p) : Dp K H v (pD p) := by
  obtain ⟨a, rfl, e⟩ := h
  exact .tup (SqT.of e) (.cons (.int _) (.cons (.int _) .nil))
theorem PairVs.dp {K : PySem.W.Frag} {H : Hp} : ∀ {xs : List V} {E : List Pr}, PairVs H xs E → DpAll K H xs (E.map pD)
  | _, _, .nil => .nil
  | _, _, .cons a r => .cons a.dp (PairVs.dp r)
theorem PairsAt.dp {K : PySem.W.Frag} {H : Hp} {l : Addr} {E : List Pr} (h : PairsAt H l E) : Dp K H (.ref l) (.list (E.map pD)) := by
  obtain ⟨xs, e, r⟩ := h.ex
  exact .lst (SqL.of e) r.dp
theorem pD_eqv (p q : Pr) : PyData.eqv (pD p) (pD q) = decide (p = q) := by
  obtain ⟨a, b⟩ := p
  obtain ⟨c, d⟩ := q
  have e : PyData.eqv (pD (a, b)) (pD (c, d)) = (((a : Int) == (c : Int)) && (((b : Int) == (d : Int)) && true)) := by
    simp only [pD, PyData.eqv, PyData.eqvAll]
  rw [e, Bool.eq_iff_iff]
  simp only [Bool.and_true, Bool.and_eq_true, beq_iff_eq, decide_eq_true_eq, Prod.mk.injEq]
  omega
theorem any_pD (q : Pr) : ∀ E : List Pr, ((E.map pD).any fun z => PyData.eqv z (pD q)) = decide (q ∈ E)
  | [] => by simp
  | p :: E => by
    rw [List.map_cons, List.any_cons, any_pD q E, pD_eqv, Bool.eq_iff_iff]
    simp only [Bool.or_eq_true, decide_eq_true_eq, List.mem_cons]
    constructor
    · rintro (h | h)
      · exact .inl h.symm
      · exact .inr h
    · rintro (h | h)
      · exact .inl h.symm
      · exact .inr h
theorem pD_lay (p : Pr) : (pD p).canLay0 = true := by simp [pD, PyData.canLay0, PyData.canLayAll0]
theorem pD_depth (p : Pr) : (pD p).depth = 1 := by simp [pD, PyData.depth, PyData.depthAll]
theorem pDs_lay : ∀ E : List Pr, PyData.canLayAll0 (E.map pD) = true
  | [] => by simp [PyData.canLayAll0]
  | z :: zs => by simp [PyData.canLayAll0, pD_lay z, pDs_lay zs]
theorem pDs_depth : ∀ E : List Pr, PyData.depthAll (E.map pD) ≤ 1
  | [] => by simp [PyData.depthAll]
  | z :: zs => by
    have h1 := pDs_depth zs
    have h2 := pD_depth z
    simp only [List.map_cons, PyData.depthAll]
    omega
theorem pD_shaped (p : Pr) : SeqAt.shaped (pD p) = true := by
  have h := pD_depth p
  unfold SeqAt.shaped
  rw [pD_lay, h] <;> rfl
theorem pDs_shaped (E : List Pr) : SeqAt.shaped (.list (E.map pD)) = true := by
  have h1 := pDs_depth E
  have h2 : PyData.depth (.list (E.map pD)) ≤ 64 := by
    simp only [PyData.depth]
    omega
  have h3 : PyData.canLay0 (.list (E.map pD)) = true := by
    simp only [PyData.canLay0]
    exact pDs_lay E
  unfold SeqAt.shaped
  rw [h3, decide_eq_true h2] <;> rfl
theorem pDs_plain : ∀ E : List Pr, PyData.plainAll (E.map pD) = true
  | [] => by simp [PyData.plainAll]
  | z :: zs => by
    have h := pDs_plain zs
    simp [PyData.plainAll, PyData.plain, pD, h]
theorem place_pD {q : Pr} : ∀ {E : List Pr}, q ∈ E → ∃ j, SeqAt.dataPlace (E.map pD) (pD q) = some j ∧ E.eraseIdx j = E.erase q
  | [], h => by cases h
  | p :: E, h => by
    by_cases e : p = q
    · refine ⟨0, ?_, ?_⟩
      · unfold SeqAt.dataPlace
        rw [List.map_cons, List.findIdx?_cons, pD_eqv, e] <;> simp
      · subst e
        rw [List.erase_cons_head] <;> rfl
    · obtain ⟨j, h1, h2⟩ := place_pD (E := E) (q := q) ((List.mem_cons.mp h).resolve_left fun z => e z.symm)
      refine ⟨j + 1, ?_, ?_⟩
      · unfold SeqAt.dataPlace at h1 ⊢
        rw [List.map_cons, List.findIdx?_cons, pD_eqv, decide_eq_false e, h1] <;> simp
      · rw [List.erase_cons_tail (by simpa using e), ← h2] <;> rfl

/-! ### bundles: what a caller is given of a def -/
section
variable (P : Program) (w : World) (K : PySem.W.Frag) (mg : Str → Option Value) (base : Heap) (CX : CXT)
structure CalD (k : Nat) (x : Str) (sp : Sp) : Prop where
  ex : ∃ f fd ps, FnOk P w K mg base CX k f fd ps sp ∧ Binds K fd ps [] ∧ mg x = some (.ref f) ∧ PySem.W.keepIn K (.ref f) = true
structure MetD (C : Addr) (k : Nat) (m : Str) (sp : Sp) : Prop where
  ex : ∃ f fd ps, FnOk P w K mg base CX k f fd ps sp ∧ Binds K fd ps [] ∧ Meth K C m f
structure MakD (C : Addr) (k : Nat) (x : Str) (sp : Sp) : Prop where
  ex : ∃ f fd ps, Mk K C f ∧ FnOk P w K mg base CX k f fd ps sp ∧ Binds K fd ps [] ∧ mg x = some (.ref C)
end
section
variable {X : Cx} {CX : CXT} {k j : Nat} {C : Addr} {sp : Sp} {E : XK} {ES : L2.St → XK} {x m : Str} {p pos apos : Pos} {e o : Expr} {es : List Expr} {ta : TE} {t : TA}
theorem pc (c : CalD X.prog X.w X.K X.mg X.base CX k x sp) (hr : Room j X.A) (hx : Passes CX X E) (ha : PA X (e :: es) t) (hk : k ≤ j := by decide) (hg : Gl X x := by rfl)
    (hdb : (x == ("__debug__" : Str)) = false := by decide) (he : starEach (e :: es) X.env = (false, eval e X.env) :: starEach es X.env := by rfl) (hpl : (backTo pos (starEach es X.env)).any (·.1) = false := by rfl) :
    PE X (.Call (.Name x p) (e :: es) [] pos) (tCall sp [] E t) := by
  obtain ⟨f, fd, ps, F, hb, hm, kp⟩ := c.ex
  exact pe_call F (hr.mono hk) hg hm kp hb .nil hx ha hdb he hpl
theorem pcS (c : CalD X.prog X.w X.K X.mg X.base CX k x sp) (hr : Room j X.A) (hx : ∀ σ, PassesAt CX X σ (ES σ)) (ha : PA X (e :: es) t) (hk : k ≤ j := by decide) (hg : Gl X x := by rfl)
    (hdb : (x == ("__debug__" : Str)) = false := by decide) (he : starEach (e :: es) X.env = (false, eval e X.env) :: starEach es X.env := by rfl) (hpl : (backTo pos (starEach es X.env)).any (·.1) = false := by rfl) :
    PE X (.Call (.Name x p) (e :: es) [] pos) (tCallS sp ES t) := by
  obtain ⟨f, fd, ps, F, hb, hm, kp⟩ := c.ex
  exact pe_callS F (hr.mono hk) hg hm kp hb hx ha hdb he hpl
theorem pm {pl : Sem Bool} (he : PE X o ta) (c : Cls X.K C) (d : MetD X.prog X.w X.K X.mg X.base CX C k m sp) (hr : Room j X.A) (hx : Passes CX X E) (ha : PA X (e :: es) t) (hk : k ≤ j := by decide)
    (hst : starEach (e :: es) X.env = (false, eval e X.env) :: starEach es X.env := by rfl) (hpl : (backTo pos (starEach es X.env)).any (·.1) = false := by rfl)
    (ht : eval (.Call (.Attribute o m apos) (e :: es) [] pos) X.env = (do
      let ov ← eval o X.env
      standAt apos.atName
      let (f, first) ← holding [ov] (getMethod ov m pl)
      callWith pos f first (backTo pos (starEach (e :: es) X.env)) (backToKw pos (keywordEach [] X.env))) := by rfl) :
    PE X (.Call (.Attribute o m apos) (e :: es) [] pos) (tMeth C m sp [] E ta t) := by
  obtain ⟨f, fd, ps, F, hb, hm⟩ := d.ex
  exact pe_meth (pl := pl) he c hm F (hr.mono hk) hb .nil hx ha hst hpl ht
theorem pmS {pl : Sem Bool} (he : PE X o ta) (c : Cls X.K C) (d : MetD X.prog X.w X.K X.mg X.base CX C k m sp) (hr : Room j X.A) (hx : ∀ σ, PassesAt CX X σ (ES σ)) (ha : PA X (e :: es) t) (hk : k ≤ j := by decide)
    (hst : starEach (e :: es) X.env = (false, eval e X.env) :: starEach es X.env := by rfl) (hpl : (backTo pos (starEach es X.env)).any (·.1) = false := by rfl)
    (ht : eval (.Call (.Attribute o m apos) (e :: es) [] pos) X.env = (do
      let ov ← eval o X.env
      standAt apos.atName
      let (f, first) ← holding [ov] (getMethod ov m pl)
      callWith pos f first (backTo pos (starEach (e :: es) X.env)) (backToKw pos (keywordEach [] X.env))) := by rfl) :
    PE X (.Call (.Attribute o m apos) (e :: es) [] pos) (tMethS C m sp ES ta t) := by
  obtain ⟨f, fd, ps, F, hb, hm⟩ := d.ex
  exact pe_methS (pl := pl) he c hm F (hr.mono hk) hb hx ha hst hpl ht
theorem pm0 {pl : Sem Bool} (he : PE X o ta) (c : Cls X.K C) (d : MetD X.prog X.w X.K X.mg X.base CX C k m sp) (hr : Room j X.A) (hx : Passes CX X E) (hk : k ≤ j := by decide)
    (ht : eval (.Call (.Attribute o m apos) [] [] pos) X.env = (do
      let ov ← eval o X.env
      standAt apos.atName
      let (f, first) ← holding [ov] (getMethod ov m pl)
      callWith pos f first (backTo pos (starEach [] X.env)) (backToKw pos (keywordEach [] X.env))) := by rfl) :
    PE X (.Call (.Attribute o m apos) [] [] pos) (tMeth C m sp [] E ta tNil) := by
  obtain ⟨f, fd, ps, F, hb, hm⟩ := d.ex
  exact pe_meth0 (pl := pl) he c hm F (hr.mono hk) hb .nil hx ht
theorem pk (d : MakD X.prog X.w X.K X.mg X.base CX C k x sp) (hr : Room j X.A) (hx : Passes CX X E) (ha : PA X (e :: es) t) (hk : k + 1 ≤ j := by decide) (hg : Gl X x := by rfl)
    (hdb : (x == ("__debug__" : Str)) = false := by decide) (he : starEach (e :: es) X.env = (false, eval e X.env) :: starEach es X.env := by rfl) (hpl : (backTo pos (starEach es X.env)).any (·.1) = false := by rfl) :
    PE X (.Call (.Name x p) (e :: es) [] pos) (tMake C sp [] E t) := by
  obtain ⟨f, fd, ps, M, F, hb, hm⟩ := d.ex
  exact pe_make M F (hr.mono hk) hg hm hb .nil hx ha hdb he hpl
theorem pkS (d : MakD X.prog X.w X.K X.mg X.base CX C k x sp) (hr : Room j X.A) (hx : ∀ σ, PassesAt CX X σ (ES σ)) (ha : PA X (e :: es) t) (hk : k + 1 ≤ j := by decide) (hg : Gl X x := by rfl)
    (hdb : (x == ("__debug__" : Str)) = false := by decide) (he : starEach (e :: es) X.env = (false, eval e X.env) :: starEach es X.env := by rfl) (hpl : (backTo pos (starEach es X.env)).any (·.1) = false := by rfl) :
    PE X (.Call (.Name x p) (e :: es) [] pos) (tMakeS C sp ES t) := by
  obtain ⟨f, fd, ps, M, F, hb, hm⟩ := d.ex
  exact pe_makeS M F (hr.mono hk) hg hm hb hx ha hdb he hpl
end
/-- what a callee lets out leaves the def -/
theorem px {P : Program} {w : World} {K : PySem.W.Frag} {mg : Str → Option Value} {base : Heap} {N : List Str} {qual : Str} {scope : Scope} {f : Addr} {cd : Value} {A : Around}
    {outer : List Env} {s : Shared} {H : Hp} {E : XK} : Passes (L2N.CX P w) (cxOf (L2N.CX P w) P w K mg base N qual scope f cd A outer s H E) E :=
  L2N.passes_call (W := fun cls d _ H => E cls d H) (L2N.takes_of rfl rfl rfl rfl) (fun _ _ _ _ h => h)
/-- what is raised leaves the def -/
theorem tk {P : Program} {w : World} {K : PySem.W.Frag} {mg : Str → Option Value} {base : Heap} {N : List Str} {qual : Str} {scope : Scope} {f : Addr} {cd : Value} {A : Around}
    {outer : List Env} {s : Shared} {H : Hp} {E : XK} : L2N.Takes (cxOf (L2N.CX P w) P w K mg base N qual scope f cd A outer s H E) (fun cls d _ H => E cls d H) :=
  L2N.takes_of rfl rfl rfl rfl
/-- an own exception class of the text -/
structure ExcT (K : PySem.W.Frag) (mg : Str → Option Value) (x : Str) (c : Addr) : Prop where
  g : mg x = some (.ref c)
  e : PySem.W.excIn K c [.type "ValueError", .type "Exception", .type "BaseException", .type "object"] "ValueError.__new__" = true
  k : PySem.W.keepIn K (.ref c) = true
  b : PySem.W.subIn K (.ref c) (.type "BaseException") = some true
  t : PySem.W.typeIn K (.ref c) = some (.type "type")
theorem pr {X : Cx} {x m : Str} {c : Addr} {j : Nat} {p p2 pos pos2 : Pos} {W : WX} (T : ExcT X.K X.mg x c) (tk : L2N.Takes X W) (hc : X.calm = true := by rfl) (hg : Gl X x := by rfl)
    (hdb : (x == ("__debug__" : Str)) = false := by decide) :
    PS X (.Raise (some (.Call (.Name x p) [.Constant (.str m) j p2] [] pos)) none pos2) (fun _ σ H => W (.ref c) none σ H) :=
  L2N.ps_raise hc tk (L2N.pmk_own PySem.F.excBase_ValueError T.e T.g T.k (raises_own T.b T.t) hg hdb)
end KT

/-! what the hall's defs promise -/
namespace KT
open PySem PySem.Spec PyProof.Rows L2
/-- the facts of the program's own classes -/
structure HT (K : PySem.W.Frag) (mg : Str → Option Value) (C cNG cSG cKA cST cBH : Addr) : Prop where
  cl : Cls K C
  nC : NoAttr K C "count"
  nP : NoAttr K C "pairs"
  ng : ExcT K mg "NoGuest" cNG
  sg : ExcT K mg "SameGuest" cSG
  ka : ExcT K mg "KnowAlready" cKA
  st : ExcT K mg "Strangers" cST
  bh : ExcT K mg "BadHall" cBH
  gr : ∃ t, mg "GREATEST" = some (.int 20 t)
  min : mg "min" = none
  max : mg "max" = none
  range : mg "range" = none
  len : mg "len" = none
def isG (n : Nat) (z : Int) : Prop := 0 ≤ z ∧ z < (n : Int)
theorem isG.nat {n : Nat} {z : Int} (h : isG n z) : ∃ i : Nat, z = (i : Int) ∧ i < n := ⟨z.toNat, by have := h.1; omega, by have := h.1; have := h.2; omega⟩
theorem isG.of {n i : Nat} (h : i < n) : isG n (i : Int) := ⟨by omega, by omega⟩
theorem notG {n : Nat} {z : Int} (h : ¬ isG n z) : z < 0 ∨ (n : Int) ≤ z := by
  unfold isG at h
  omega
/-- Hall(many): the new instance at p -/
def spInit (C cBH : Addr) : Sp := fun vs H Q E => ∃ (p dx : Addr) (z : Int), vs = [.ref p, .int z] ∧ H p = some (.ins C dx []) ∧ H dx = some (.own p) ∧
  (¬ (1 ≤ z ∧ z ≤ 20) → E (.ref cBH) none H) ∧
  (∀ n : Nat, z = (n : Int) → 1 ≤ n → n ≤ 20 → ∀ H' d, Keep [p] H H' → H d = none → HallAt C H' p n d [] → Q .non H')
def spMany (C : Addr) : Sp := fun vs H Q _ => ∃ (p d : Addr) (n : Nat) (L : List Pr), vs = [.ref p] ∧ HallAt C H p n d L ∧ Q (.int (n : Int)) H
def spSee (C cNG : Addr) : Sp := fun vs H Q E => ∃ (p d : Addr) (n : Nat) (L : List Pr) (z : Int), vs = [.ref p, .int z] ∧ HallAt C H p n d L ∧
  (¬ isG n z → E (.ref cNG) none H) ∧ (isG n z → Q .non H)
def spSeeTwo (C cNG cSG : Addr) : Sp := fun vs H Q E => ∃ (p d : Addr) (n : Nat) (L : List Pr) (y z : Int), vs = [.ref p, .int y, .int z] ∧ HallAt C H p n d L ∧
  (¬ (isG n y ∧ isG n z) → E (.ref cNG) none H) ∧ (isG n y → isG n z → y = z → E (.ref cSG) none H) ∧ (isG n y → isG n z → y ≠ z → Q .non H)
def spKnow (C cNG cSG : Addr) : Sp := fun vs H Q E => ∃ (p d : Addr) (n : Nat) (L : List Pr) (y z : Int), vs = [.ref p, .int y, .int z] ∧ HallAt C H p n d L ∧
  (¬ (isG n y ∧ isG n z) → E (.ref cNG) none H) ∧ (isG n y → isG n z → y = z → E (.ref cSG) none H) ∧
  (∀ i j : Nat, y = (i : Int) → z = (j : Int) → i < n → j < n → i ≠ j → ∀ H', Same H H' → Q (.bl (decide (nrm i j ∈ L))) H')
def spMeet (C cNG cSG cKA : Addr) : Sp := fun vs H Q E => ∃ (p d : Addr) (n : Nat) (L : List Pr) (y z : Int), vs = [.ref p, .int y, .int z] ∧ HallAt C H p n d L ∧
  (¬ (isG n y ∧ isG n z) → E (.ref cNG) none H) ∧ (isG n y → isG n z → y = z → E (.ref cSG) none H) ∧
  (∀ i j : Nat, y = (i : Int) → z = (j : Int) → i < n → j < n → i ≠ j → nrm i j ∈ L → ∀ H', Same H H' → E (.ref cKA) none H') ∧
  (∀ i j : Nat, y = (i : Int) → z = (j : Int) → i < n → j < n → i ≠ j → nrm i j ∉ L → ∀ H', Keep [d] H H' → HallAt C H' p n d (L ++ [nrm i j]) → Q .non H')
def spPart (C cNG cSG cST : Addr) : Sp := fun vs H Q E => ∃ (p d : Addr) (n : Nat) (L : List Pr) (y z : Int), vs = [.ref p, .int y, .int z] ∧ HallAt C H p n d L ∧
  (¬ (isG n y ∧ isG n z) → E (.ref cNG) none H) ∧ (isG n y → isG n z → y = z → E (.ref cSG) none H) ∧
  (∀ i j : Nat, y = (i : Int) → z = (j : Int) → i < n → j < n → i ≠ j → nrm i j ∉ L → ∀ H', Same H H' → E (.ref cST) none H') ∧
  (∀ i j : Nat, y = (i : Int) → z = (j : Int) → i < n → j < n → i ≠ j → nrm i j ∈ L → ∀ H', Keep [d] H H' → HallAt C H' p n d (L.erase (nrm i j)) → Q .non H')
/-- the others whom g knows (k), or doesn't -/
def oth (k : Bool) (L : List Pr) (g o : Nat) : Bool := decide (o ≠ g) && (decide (nrm g o ∈ L) == k)
def others (k : Bool) (n : Nat) (L : List Pr) (g : Nat) : List Nat := (List.range n).filter (oth k L g)
theorem oth_iff {k : Bool} {L : List Pr} {g o : Nat} : oth k L g o = true ↔ o ≠ g ∧ decide (nrm g o ∈ L) = k := by
  unfold oth
  rw [Bool.and_eq_true, decide_eq_true_eq, beq_iff_eq]
def iV (l : List Nat) : List V := l.map fun (i : Nat) => V.int (i : Int)
theorem iV_snoc (l : List Nat) (i : Nat) : iV (l ++ [i]) = iV l ++ [V.int (i : Int)] := by
  unfold iV
  rw [List.map_append]
  rfl
theorem filter_yes {f : Nat → Bool} {i : Nat} (h : f i = true) : (List.range (i + 1)).filter f = (List.range i).filter f ++ [i] := by
  rw [List.range_succ, List.filter_append, List.filter_cons_of_pos h]
  rfl
theorem filter_no {f : Nat → Bool} {i : Nat} (h : ¬ f i = true) : (List.range (i + 1)).filter f = (List.range i).filter f := by
  rw [List.range_succ, List.filter_append, List.filter_cons_of_neg h]
  exact List.append_nil _
theorem iV_line {f : Nat → Bool} {i : Nat} (h : i ≤ 1000000) : (iV ((List.range i).filter f)).length < sizeLine := by
  unfold iV
  rw [List.length_map]
  refine Nat.lt_of_le_of_lt (List.length_filter_le _ _) ?_
  rw [List.length_range]
  exact Nat.lt_of_le_of_lt h (by decide)
def spOthers (k : Bool) (C cNG : Addr) : Sp := fun vs H Q E => ∃ (p d : Addr) (n : Nat) (L : List Pr) (z : Int), vs = [.ref p, .int z] ∧ HallAt C H p n d L ∧
  (¬ isG n z → E (.ref cNG) none H) ∧
  (∀ g : Nat, z = (g : Int) → g < n → ∀ H' l, Same H H' → H l = none → H' l = some (.lst (iV (others k n L g))) → Q (.ref l) H')
section
variable {C cNG cSG cKA cST : Addr} {H : Hp} {Q : VK} {E : XK} {p d : Addr} {n i j : Nat} {L : List Pr}
theorem know_good (hall : HallAt C H p n d L) (hi : i < n) (hj : j < n) (nij : i ≠ j) (q : ∀ H', Same H H' → Q (.bl (decide (nrm i j ∈ L))) H') :
    spKnow C cNG cSG [.ref p, .int (i : Int), .int (j : Int)] H Q E := by
  refine ⟨p, d, n, L, _, _, rfl, hall, fun b => absurd ⟨isG.of hi, isG.of hj⟩ b, fun _ _ e => absurd (Int.ofNat.inj e) nij, fun i' j' ei ej _ _ _ => ?_⟩
  have a1 : i = i' := Int.ofNat.inj ei
  have a2 : j = j' := Int.ofNat.inj ej
  subst a1
  subst a2
  exact q
theorem meet_good (hall : HallAt C H p n d L) (hi : i < n) (hj : j < n) (nij : i ≠ j) (nin : nrm i j ∉ L) (q : ∀ H', Keep [d] H H' → HallAt C H' p n d (L ++ [nrm i j]) → Q .non H') :
    spMeet C cNG cSG cKA [.ref p, .int (i : Int), .int (j : Int)] H Q E := by
  refine ⟨p, d, n, L, _, _, rfl, hall, fun b => absurd ⟨isG.of hi, isG.of hj⟩ b, fun _ _ e => absurd (Int.ofNat.inj e) nij, fun i' j' ei ej _ _ _ m => ?_, fun i' j' ei ej _ _ _ _ => ?_⟩
  · have a1 : i = i' := Int.ofNat.inj ei
    have a2 : j = j' := Int.ofNat.inj ej
    subst a1
    subst a2
    exact absurd m nin
  · have a1 : i = i' := Int.ofNat.inj ei
    have a2 : j = j' := Int.ofNat.inj ej
    subst a1
    subst a2
    exact q
theorem others_good {k : Bool} (hall : HallAt C H p n d L) (hi : i < n) (q : ∀ H' l, Same H H' → H l = none → H' l = some (.lst (iV (others k n L i))) → Q (.ref l) H') :
    spOthers k C cNG [.ref p, .int (i : Int)] H Q E := by
  refine ⟨p, d, n, L, _, rfl, hall, fun b => absurd (isG.of hi) b, fun g eg _ => ?_⟩
  have a1 : i = g := Int.ofNat.inj eg
  subst a1
  exact q
end
/-! readings of calls that raise nothing -/
theorem rv {σ : L2.St} {H : Hp} {k : Nat} {v : V} (h : σ[k]? = some (some v)) : ∀ R : VK, R v H → tVar k σ H R := fun _ r => ⟨_, h, r⟩
theorem rvD {σ : L2.St} {k : Nat} {v : V} (h : σ[k]? = some (some v)) : ∀ (H : Hp) (R : VK), R v H → tVar k σ H R := fun _ _ r => ⟨_, h, r⟩
section
variable {C cNG cSG cKA cST : Addr} {σ : L2.St} {H : Hp} {Q : VK} {E : XK} {p d : Addr} {n i j : Nat} {L : List Pr} {to ta tb : TE}
theorem r_know (ho : ∀ R : VK, R (.ref p) H → to σ H R) (ha : ∀ R : VK, R (.int (i : Int)) H → ta σ H R) (hb : ∀ R : VK, R (.int (j : Int)) H → tb σ H R)
    (hall : HallAt C H p n d L) (hi : i < n) (hj : j < n) (nij : i ≠ j) (q : ∀ H', Same H H' → Q (.bl (decide (nrm i j ∈ L))) H') :
    tMeth C "know" (spKnow C cNG cSG) [] E to (tCons ta (tCons tb tNil)) σ H Q := by
  obtain ⟨dx, hp⟩ := hall.ins
  exact ho _ ⟨p, dx, _, rfl, hp, hf_no _ _ (by decide +kernel) (by decide +kernel), ha _ (hb _ (know_good hall hi hj nij q))⟩
theorem r_meet (ho : ∀ R : VK, R (.ref p) H → to σ H R) (ha : ∀ R : VK, R (.int (i : Int)) H → ta σ H R) (hb : ∀ R : VK, R (.int (j : Int)) H → tb σ H R)
    (hall : HallAt C H p n d L) (hi : i < n) (hj : j < n) (nij : i ≠ j) (nin : nrm i j ∉ L) (q : ∀ H', Keep [d] H H' → HallAt C H' p n d (L ++ [nrm i j]) → Q .non H') :
    tMeth C "meet" (spMeet C cNG cSG cKA) [] E to (tCons ta (tCons tb tNil)) σ H Q := by
  obtain ⟨dx, hp⟩ := hall.ins
  exact ho _ ⟨p, dx, _, rfl, hp, hf_no _ _ (by decide +kernel) (by decide +kernel), ha _ (hb _ (meet_good hall hi hj nij nin q))⟩
theorem r_known (ho : ∀ R : VK, R (.ref p) H → to σ H R) (ha : ∀ R : VK, R (.int (i : Int)) H → ta σ H R)
    (hall : HallAt C H p n d L) (hi : i < n) (q : ∀ H' l, Same H H' → H l = none → H' l = some (.lst (iV (others true n L i))) → Q (.ref l) H') :
    tMeth C "known" (spOthers true C cNG) [] E to (tCons ta tNil) σ H Q := by
  obtain ⟨dx, hp⟩ := hall.ins
  exact ho _ ⟨p, dx, _, rfl, hp, hf_no _ _ (by decide +kernel) (by decide +kernel), ha _ (others_good hall hi q)⟩
theorem r_strangers (ho : ∀ R : VK, R (.ref p) H → to σ H R) (ha : ∀ R : VK, R (.int (i : Int)) H → ta σ H R)
    (hall : HallAt C H p n d L) (hi : i < n) (q : ∀ H' l, Same H H' → H l = none → H' l = some (.lst (iV (others false n L i))) → Q (.ref l) H') :
    tMeth C "strangers" (spOthers false C cNG) [] E to (tCons ta tNil) σ H Q := by
  obtain ⟨dx, hp⟩ := hall.ins
  exact ho _ ⟨p, dx, _, rfl, hp, hf_no _ _ (by decide +kernel) (by decide +kernel), ha _ (others_good hall hi q)⟩
theorem r_many (ho : ∀ R : VK, R (.ref p) H → to σ H R) (hall : HallAt C H p n d L) (q : Q (.int (n : Int)) H) :
    tMeth C "many" (spMany C) [] E to tNil σ H Q := by
  obtain ⟨dx, hp⟩ := hall.ins
  exact ho _ ⟨p, dx, _, rfl, hp, hf_no _ _ (by decide +kernel) (by decide +kernel), p, d, n, L, rfl, hall, q⟩
end
/-- (x, y) in a dict of pairs -/
theorem get_new {H : Hp} {q t : Addr} {i j : Nat} {E : List Pr} (hq : H q = some (.dT (kvs E))) (ht : H t = none) :
    DGet (upd H t (.tup [V.int (i : Int), V.int (j : Int)])) q (.ref t) (valV (kvs E) (kP (i, j))) :=
  DGet.t (k := kP (i, j)) (same_new (.tup [V.int (i : Int), V.int (j : Int)]) ht _ _ hq) upd_same
/-- Hall(z) as an expression -/
theorem make_hall {C cBH : Addr} {z : Int} {H1 : Hp} {Q : Addr → Hp → Prop} {E : XK}
    (bad : ¬ (1 ≤ z ∧ z ≤ 20) → ∀ H', Same H1 H' → E (.ref cBH) none H')
    (good : ∀ n : Nat, z = (n : Int) → 1 ≤ n → n ≤ 20 → ∀ H' x d, H1 x = none → H1 d = none → Same H1 H' → HallAt C H' x n d [] → Q x H') :
    ∀ x dx, H1 x = none → H1 dx = none → dx ≠ x → spInit C cBH (.ref x :: [.int z]) (upd (upd H1 dx (.own x)) x (.ins C dx [])) (fun v H2 => v = .non ∧ Q x H2) E := by
  intro x dx hx hdx ne
  have s1 : Same H1 (upd (upd H1 dx (.own x)) x (.ins C dx [])) := (same_new _ hdx).trans (same_new _ (by rw [upd_ne ne.symm]; exact hx))
  refine ⟨x, dx, z, rfl, upd_same, by rw [upd_ne ne]; exact upd_same, fun b => bad b _ s1, ?_⟩
  intro n ez h1 h2 H' d kp nd hall
  refine ⟨rfl, good n ez h1 h2 H' x d hx ?_ (same_keepNew s1 hx kp) hall⟩
  exact s1.free nd
end KT

/-! the law's own defs: sorting of pairs, promises -/
namespace KT
open PySem PySem.Spec PyProof.Rows L2
def Srt (E : List Pr) : Prop := E.Pairwise fun p q => p.1 < q.1 ∨ (p.1 = q.1 ∧ p.2 < q.2)
/-- the ints of the tuple that v stands for -/
def tk2 (H : Hp) : V → Int × Int
  | .ref a => match H a with
    | some (.tup [.int i, .int j]) => (i, j)
    | _ => (0, 0)
  | _ => (0, 0)
theorem tk2_of {H : Hp} {v : V} {p : Pr} (h : PairV H v p) : tk2 H v = ((p.1 : Int), (p.2 : Int)) := by
  obtain ⟨a, rfl, e⟩ := h
  show (match H a with
    | some (.tup [.int i, .int j]) => (i, j)
    | _ => (0, 0)) = _
  rw [e]
theorem PairVs.mem {H : Hp} : ∀ {xs : List V} {E : List Pr}, PairVs H xs E → ∀ v ∈ xs, ∃ p, p ∈ E ∧ PairV H v p
  | _, _, .nil, v, h => by cases h
  | _, _, .cons a r, v, h => by
    rcases List.mem_cons.mp h with e | h
    · subst e
      exact ⟨_, List.mem_cons_self, a⟩
    · obtain ⟨p, hp, z⟩ := PairVs.mem r v h
      exact ⟨p, List.mem_cons_of_mem _ hp, z⟩
theorem PairVs.eq {H : Hp} : ∀ {xs : List V} {E : List Pr}, PairVs H xs E → E = xs.map fun v => ((tk2 H v).1.toNat, (tk2 H v).2.toNat)
  | _, _, .nil => rfl
  | _, _, .cons a r => by
    rw [List.map_cons, ← PairVs.eq r, tk2_of a]
    simp
theorem PairVs.of {H : Hp} : ∀ {ys : List V}, (∀ v ∈ ys, ∃ p, PairV H v p) → PairVs H ys (ys.map fun v => ((tk2 H v).1.toNat, (tk2 H v).2.toNat))
  | [], _ => .nil
  | v :: ys, h => by
    refine .cons ?_ (PairVs.of fun u hu => h u (List.mem_cons_of_mem _ hu))
    obtain ⟨p, hp⟩ := h v List.mem_cons_self
    show PairV H v ((tk2 H v).1.toNat, (tk2 H v).2.toNat)
    rw [tk2_of hp]
    simpa using hp
theorem sort_pairs {H : Hp} {xs : List V} {E : List Pr} (r : PairVs H xs E) (nd : E.Nodup) :
    (∀ x ∈ xs, ∃ t, x = V.ref t ∧ H t = some (.tup [.int (tk2 H x).1, .int (tk2 H x).2])) ∧
    ∀ ys, SrtO.Srtd (ltP (tk2 H)) ys → ys.Perm xs → ∃ E', PairVs H ys E' ∧ E'.Perm E ∧ Srt E' := by
  refine ⟨fun x hx => ?_, fun ys hs hp => ?_⟩
  · obtain ⟨p, _, hv⟩ := r.mem x hx
    rw [tk2_of hv]
    obtain ⟨a, rfl, e⟩ := hv
    exact ⟨a, rfl, e⟩
  · have all : ∀ v ∈ ys, ∃ p, PairV H v p := fun v hv => by
      obtain ⟨p, _, h⟩ := r.mem v (hp.mem_iff.mp hv)
      exact ⟨p, h⟩
    have pe : (ys.map fun v => ((tk2 H v).1.toNat, (tk2 H v).2.toNat)).Perm E := by
      rw [r.eq]
      exact hp.map _
    refine ⟨_, PairVs.of all, pe, ?_⟩
    have nd2 : (ys.map fun v => ((tk2 H v).1.toNat, (tk2 H v).2.toNat)).Nodup := pe.nodup_iff.mpr nd
    unfold Srt
    rw [List.pairwise_map]
    have nd3 : ys.Pairwise fun u v => ((tk2 H u).1.toNat, (tk2 H u).2.toNat) ≠ ((tk2 H v).1.toNat, (tk2 H v).2.toNat) := List.pairwise_map.mp nd2
    have both := List.pairwise_and_iff.mpr ⟨List.Pairwise.imp_of_mem (S := fun u v => ltP (tk2 H) v u = false ∧ u ∈ ys ∧ v ∈ ys) (fun hu hv h => ⟨h, hu, hv⟩) hs, nd3⟩
    refine both.imp ?_
    rintro u v ⟨⟨h1, hu, hv⟩, h2⟩
    obtain ⟨p, hp1⟩ := all u hu
    obtain ⟨q, hq1⟩ := all v hv
    have h3 := SrtO.lexB_no.mp h1
    rw [tk2_of hp1, tk2_of hq1] at *
    simp only [Int.toNat_natCast, ne_eq, Prod.mk.injEq, not_and] at h2 h3 ⊢
    by_cases c : p.1 = q.1
    · have := h2 c
      omega
    · omega

/-! ### promises -/
def spCell (K : PySem.W.Frag) : Sp := fun vs H Q _ => ∃ (a : Addr) (ns : List Int) (k : Nat), vs = [.ref a, .int (k : Int)] ∧ SqL K H a (ns.map V.int) ∧ Q (.int (ns.getD k 0)) H
def spWhole : Sp := fun vs H Q _ => ∃ i : Int, vs = [.int i] ∧ Q (.bl true) H
def spManyOf (K : PySem.W.Frag) : Sp := fun vs H Q _ => ∃ (a : Addr) (ns : List Int), vs = [.ref a] ∧ SqL K H a (ns.map V.int) ∧ ∀ n : Nat, 1 ≤ n → n ≤ 20 → Q (.int (n : Int)) H
def spPairsBy (K : PySem.W.Frag) : Sp := fun vs H Q _ => ∃ (a : Addr) (ns : List Int) (first n : Nat), vs = [.ref a, .int (first : Int), .int (n : Int)] ∧ SqL K H a (ns.map V.int) ∧ 1 ≤ n ∧ n ≤ 20 ∧
  ∀ H' l E, Same H H' → H l = none → PairsAt H' l E → WF n E → Srt E → Q (.ref l) H'
def spHallOf (C : Addr) : Sp := fun vs H Q _ => ∃ (l : Addr) (n : Nat) (E : List Pr), vs = [.int (n : Int), .ref l] ∧ PairsAt H l E ∧ WF n E ∧ 1 ≤ n ∧ n ≤ 20 ∧
  ∀ H' x d, Same H H' → H x = none → H d = none → HallAt C H' x n d E → Q (.ref x) H'
/-- the same pairs, in any order -/
def Eqv (L E : List Pr) : Prop := ∀ p, p ∈ L ↔ p ∈ E
theorem Eqv.refl (L : List Pr) : Eqv L L := fun _ => Iff.rfl
theorem Eqv.snoc {L E : List Pr} (h : Eqv L E) (q : Pr) : Eqv (L ++ [q]) (E ++ [q]) := fun p => by
  rw [List.mem_append, List.mem_append, h p]
theorem Eqv.erase {L E : List Pr} (h : Eqv L E) (nL : L.Nodup) (nE : E.Nodup) (q : Pr) : Eqv (L.erase q) (E.erase q) := fun p => by
  rw [nL.mem_erase_iff, nE.mem_erase_iff, h p]
def spTurnOne (C : Addr) : Sp := fun vs H Q _ => ∃ (x l d : Addr) (n : Nat) (L E : List Pr) (z : Int), vs = [.ref x, .ref l, .int (n : Int), .int z] ∧ HallAt C H x n d L ∧ PairsAt H l E ∧ WF n E ∧ Eqv L E ∧
  ∀ H' L' E', Keep [d, l] H H' → HallAt C H' x n d L' → PairsAt H' l E' → WF n E' → Eqv L' E' → Q .non H'
end KT

/-! threes: plain, in the heap, promises -/
namespace KT
open PySem PySem.Spec PyProof.Rows L2
abbrev Tr := Nat × Nat × Nat
def mono (L : List Pr) (a b c : Nat) : Bool := (decide (nrm a b ∈ L) == decide (nrm a c ∈ L)) && (decide (nrm a b ∈ L) == decide (nrm b c ∈ L))
def th3 (L : List Pr) (a b k : Nat) : List Tr := (List.range k).flatMap fun i => if mono L a b (b + 1 + i) = true then [(a, b, b + 1 + i)] else []
def th2 (L : List Pr) (n a k : Nat) : List Tr := (List.range k).flatMap fun i => th3 L a (a + 1 + i) (n - (a + 1 + i + 1))
def th1 (L : List Pr) (n k : Nat) : List Tr := (List.range k).flatMap fun a => th2 L n a (n - (a + 1))
def threesL (n : Nat) (L : List Pr) : List Tr := th1 L n n
theorem flat_step {α : Type} (f : Nat → List α) (k : Nat) : (List.range (k + 1)).flatMap f = (List.range k).flatMap f ++ f k := by
  rw [List.range_succ, List.flatMap_append]
  simp
theorem th3_step (L : List Pr) (a b k : Nat) : th3 L a b (k + 1) = th3 L a b k ++ (if mono L a b (b + 1 + k) = true then [(a, b, b + 1 + k)] else []) := flat_step _ _
theorem th2_step (L : List Pr) (n a k : Nat) : th2 L n a (k + 1) = th2 L n a k ++ th3 L a (a + 1 + k) (n - (a + 1 + k + 1)) := flat_step _ _
theorem th1_step (L : List Pr) (n k : Nat) : th1 L n (k + 1) = th1 L n k ++ th2 L n k (n - (k + 1)) := flat_step _ _
theorem mono_eqv {L E : List Pr} (h : Eqv L E) (a b c : Nat) : mono L a b c = mono E a b c := by
  unfold mono
  rw [decide_eq_decide.mpr (h (nrm a b)), decide_eq_decide.mpr (h (nrm a c)), decide_eq_decide.mpr (h (nrm b c))]
theorem threes_eqv {L E : List Pr} (h : Eqv L E) (n : Nat) : threesL n L = threesL n E := by
  unfold threesL th1 th2 th3
  simp only [mono_eqv h]
theorem mem_threes {n : Nat} {L : List Pr} {t : Tr} : t ∈ threesL n L ↔ t.1 < t.2.1 ∧ t.2.1 < t.2.2 ∧ t.2.2 < n ∧ mono L t.1 t.2.1 t.2.2 = true := by
  obtain ⟨a, b, c⟩ := t
  unfold threesL th1 th2 th3
  simp only [List.mem_flatMap, List.mem_range]
  constructor
  · rintro ⟨a', ha, i, hi, j, hj, h⟩
    split at h
    · rename_i m
      have e := List.mem_singleton.mp h
      injection e with e1 e2
      injection e2 with e2 e3
      subst e1
      subst e2
      subst e3
      exact ⟨by omega, by omega, by omega, m⟩
    · cases h
  · rintro ⟨h1, h2, h3, m⟩
    refine ⟨a, by omega, b - (a + 1), by omega, c - (b + 1), by omega, ?_⟩
    have e1 : a + 1 + (b - (a + 1)) = b := by omega
    have e2 : b + 1 + (c - (b + 1)) = c := by omega
    rw [e1, e2, if_pos m]
    exact List.mem_singleton.mpr rfl
theorem th3_len (L : List Pr) (a b : Nat) : ∀ k, (th3 L a b k).length ≤ k
  | 0 => Nat.le_refl _
  | k + 1 => by
    have h := th3_len L a b k
    rw [th3_step, List.length_append]
    split
    · rw [List.length_singleton]
      omega
    · rw [List.length_nil]
      omega
theorem th2_len (L : List Pr) {n : Nat} (hn : n ≤ 20) (a : Nat) : ∀ k, (th2 L n a k).length ≤ 20 * k
  | 0 => Nat.le_refl _
  | k + 1 => by
    have h := th2_len L hn a k
    have h2 := th3_len L a (a + 1 + k) (n - (a + 1 + k + 1))
    rw [th2_step, List.length_append]
    omega
theorem th1_len (L : List Pr) {n : Nat} (hn : n ≤ 20) : ∀ k, (th1 L n k).length ≤ 400 * k
  | 0 => Nat.le_refl _
  | k + 1 => by
    have h := th1_len L hn k
    have h2 := th2_len L hn k (n - (k + 1))
    rw [th1_step, List.length_append]
    omega
theorem threes_len (L : List Pr) {n : Nat} (hn : n ≤ 20) : (threesL n L).length ≤ 8000 := by
  have h := th1_len L hn n
  unfold threesL
  omega
/-! in the heap -/
def TripV (H : Hp) (v : V) (t : Tr) : Prop := ∃ a, v = .ref a ∧ H a = some (.tup [.int (t.1 : Int), .int (t.2.1 : Int), .int (t.2.2 : Int)])
abbrev TripVs (H : Hp) : List V → List Tr → Prop := Paired (TripV H)
structure TripsAt (H : Hp) (l : Addr) (E : List Tr) : Prop where
  ex : ∃ xs, H l = some (.lst xs) ∧ TripVs H xs E
theorem TripVs.keep {H H' : Hp} (k : ∀ b ys, H b = some (.tup ys) → H' b = some (.tup ys)) {xs : List V} {E : List Tr} (h : TripVs H xs E) : TripVs H' xs E :=
  Paired.mapP h fun v p ⟨a, e, z⟩ => ⟨a, e, k _ _ z⟩
theorem TripVs.snoc {H : Hp} : ∀ {xs : List V} {E : List Tr} {v : V} {p : Tr}, TripVs H xs E → TripV H v p → TripVs H (xs ++ [v]) (E ++ [p])
  | _, _, _, _, .nil, h => .cons h .nil
  | _, _, _, _, .cons a r, h => .cons a (TripVs.snoc r h)
theorem TripVs.get {H : Hp} : ∀ {xs : List V} {E : List Tr} {i : Nat} {v : V}, TripVs H xs E → xs[i]? = some v → ∃ p, E[i]? = some p ∧ TripV H v p
  | _, _, _, _, .nil, e => by simp at e
  | _, _, 0, _, .cons a _, e => by
    simp at e
    subst e
    exact ⟨_, rfl, a⟩
  | _, _, i + 1, v, .cons _ r, e => TripVs.get (i := i) (v := v) r (by simpa using e)
theorem TripsAt.same {H H' : Hp} {l : Addr} {E : List Tr} (h : TripsAt H l E) (s : Same H H') : TripsAt H' l E := by
  obtain ⟨xs, e, r⟩ := h.ex
  exact ⟨xs, s _ _ e, r.keep fun b ys z => s _ _ z⟩
def tD (t : Tr) : PyData := .tuple [.int (t.1 : Int), .int (t.2.1 : Int), .int (t.2.2 : Int)]
theorem TripV.dp {K : PySem.W.Frag} {H : Hp} {v : V} {p : Tr} (h : TripV H v p) : Dp K H v (tD p) := by
  obtain ⟨a, rfl, e⟩ := h
  exact .tup (SqT.of e) (.cons (.int _) (.cons (.int _) (.cons (.int _) .nil)))
theorem TripVs.dp {K : PySem.W.Frag} {H : Hp} : ∀ {xs : List V} {E : List Tr}, TripVs H xs E → DpAll K H xs (E.map tD)
  | _, _, .nil => .nil
  | _, _, .cons a r => .cons a.dp (TripVs.dp r)
theorem TripsAt.dp {K : PySem.W.Frag} {H : Hp} {l : Addr} {E : List Tr} (h : TripsAt H l E) : Dp K H (.ref l) (.list (E.map tD)) := by
  obtain ⟨xs, e, r⟩ := h.ex
  exact .lst (SqL.of e) r.dp
theorem tD_depth (p : Tr) : (tD p).depth = 1 := by simp [tD, PyData.depth, PyData.depthAll]
theorem tDs_lay : ∀ E : List Tr, PyData.canLayAll0 (E.map tD) = true
  | [] => by simp [PyData.canLayAll0]
  | z :: zs => by simp [PyData.canLayAll0, PyData.canLay0, tD, tDs_lay zs]
theorem tDs_depth : ∀ E : List Tr, PyData.depthAll (E.map tD) ≤ 1
  | [] => by simp [PyData.depthAll]
  | z :: zs => by
    have h1 := tDs_depth zs
    have h2 := tD_depth z
    simp only [List.map_cons, PyData.depthAll]
    omega
theorem tDs_shaped (E : List Tr) : SeqAt.shaped (.list (E.map tD)) = true := by
  have h1 := tDs_depth E
  have h2 : PyData.depth (.list (E.map tD)) ≤ 64 := by
    simp only [PyData.depth]
    omega
  have h3 : PyData.canLay0 (.list (E.map tD)) = true := by
    simp only [PyData.canLay0]
    exact tDs_lay E
  unfold SeqAt.shaped
  rw [h3, decide_eq_true h2] <;> rfl
theorem tDs_plain : ∀ E : List Tr, PyData.plainAll (E.map tD) = true
  | [] => by simp [PyData.plainAll]
  | z :: zs => by
    have h := tDs_plain zs
    simp [PyData.plainAll, PyData.plain, tD, h]
/-! promises -/
def spIsThree (C : Addr) : Sp := fun vs H Q _ => ∃ (p d : Addr) (n a b c : Nat) (L : List Pr), vs = [.ref p, .int (a : Int), .int (b : Int), .int (c : Int)] ∧ HallAt C H p n d L ∧
  a < b ∧ b < c ∧ c < n ∧ ∀ H', Same H H' → Q (.bl (mono L a b c)) H'
def spThrees (C : Addr) : Sp := fun vs H Q _ => ∃ (p d : Addr) (n : Nat) (L : List Pr), vs = [.ref p] ∧ HallAt C H p n d L ∧
  ∀ H' l, Same H H' → H l = none → TripsAt H' l (threesL n L) → Q (.ref l) H'
/-- the law's own way, of a list of pairs -/
def spThreesL : Sp := fun vs H Q _ => ∃ (l : Addr) (n : Nat) (E : List Pr), vs = [.ref l, .int (n : Int)] ∧ PairsAt H l E ∧ WF n E ∧ n ≤ 20 ∧
  ∀ H' q, Same H H' → H q = none → TripsAt H' q (threesL n E) → Q (.ref q) H'
def spIsThreeL : Sp := fun vs H Q _ => ∃ (a l : Addr) (n : Nat) (E : List Pr) (t : Tr), vs = [.ref a, .ref l, .int (n : Int)] ∧ PairsAt H l E ∧ WF n E ∧ TripV H (.ref a) t ∧ t ∈ threesL n E ∧
  ∀ H', Same H H' → Q (.bl true) H'
/-- a new tuple t put behind the list at l -/
theorem trip_put {H0 H1 : Hp} {l t : Addr} {xs : List V} {E : List Tr} {x : Tr} (nl : H0 l = none) (s : Same H0 H1) (hl : H1 l = some (.lst xs)) (r : TripVs H1 xs E) (ht : H1 t = none) :
    Same H0 (upd (upd H1 t (.tup [.int (x.1 : Int), .int (x.2.1 : Int), .int (x.2.2 : Int)])) l (.lst (xs ++ [.ref t]))) ∧
    TripVs (upd (upd H1 t (.tup [.int (x.1 : Int), .int (x.2.1 : Int), .int (x.2.2 : Int)])) l (.lst (xs ++ [.ref t]))) (xs ++ [.ref t]) (E ++ [x]) := by
  have ntl : l ≠ t := ne_of_none hl ht
  refine ⟨fun b o e => ?_, TripVs.snoc (r.keep fun b ys e => ?_) ⟨t, rfl, ?_⟩⟩
  · have e2 := s b o e
    rw [upd_ne (ne_of_none e nl), upd_ne (ne_of_none e2 ht)]
    exact e2
  · rw [upd_ne (ne_of e hl (fun z => nomatch z)), upd_ne (ne_of_none e ht)]
    exact e
  · rw [upd_ne ntl.symm, upd_same]
end KT

/-! what is refused: marks of a caught error, and lists of ints and of truth values -/
namespace KT
open PySem PySem.Spec PyProof.Rows L2
/-! ### bundles -/
theorem MetD.weak {P : Program} {w : World} {K : PySem.W.Frag} {mg : Str → Option Value} {base : Heap} {C : Addr} {k : Nat} {m : Str} {sp : Sp}
    (d : MetD P w K mg base (L2N.CX P w) C k m sp) : MetD P w K mg base (L2.CX P w) C k m sp := by
  obtain ⟨f, fd, ps, F, r⟩ := d.ex
  exact ⟨f, fd, ps, FnOk_weak F, r⟩
theorem MakD.weak {P : Program} {w : World} {K : PySem.W.Frag} {mg : Str → Option Value} {base : Heap} {C : Addr} {k : Nat} {m : Str} {sp : Sp}
    (d : MakD P w K mg base (L2N.CX P w) C k m sp) : MakD P w K mg base (L2.CX P w) C k m sp := by
  obtain ⟨f, fd, ps, M, F, r⟩ := d.ex
  exact ⟨f, fd, ps, M, FnOk_weak F, r⟩
theorem CalD.weak {P : Program} {w : World} {K : PySem.W.Frag} {mg : Str → Option Value} {base : Heap} {k : Nat} {m : Str} {sp : Sp}
    (d : CalD P w K mg base (L2N.CX P w) k m sp) : CalD P w K mg base (L2.CX P w) k m sp := by
  obtain ⟨f, fd, ps, F, r⟩ := d.ex
  exact ⟨f, fd, ps, FnOk_weak F, r⟩
structure CalP (P : Program) (w : World) (K : PySem.W.Frag) (mg : Str → Option Value) (base : Heap) (k : Nat) (x : Str) (sp : Addr → Value → Option Addr → Sp) : Prop where
  ex : ∃ f fd ps, FnP P w K mg base k f fd ps sp ∧ Binds K fd ps [] ∧ mg x = some (.ref f) ∧ PySem.W.keepIn K (.ref f) = true
theorem pcP {X : Cx} {k j : Nat} {A : Around} {sp : Addr → Value → Option Addr → Sp} {x : Str} {q pos : Pos} {e : Expr} {es : List Expr} {t : TA} {p : Addr × Obj} {cls : Value} {d : Option Addr}
    (c : CalP X.prog X.w X.K X.mg X.base k x sp) (hr : Room j A) (ed : X.A.depth = A.depth) (eu : X.A.units = A.units) (hp : p ∈ X.pn) (hz : Zc cls d p.2) (hf : ∃ fv, p.2.data = .fields fv)
    (ha : PA X (e :: es) t) (hk : k ≤ j := by decide) (hg : Gl X x := by rfl) (hdb : (x == ("__debug__" : Str)) = false := by decide)
    (he : starEach (e :: es) X.env = (false, eval e X.env) :: starEach es X.env := by rfl) (hpl : (backTo pos (starEach es X.env)).any (·.1) = false := by rfl) :
    PE X (.Call (.Name x q) (e :: es) [] pos) (tCallP sp p.1 cls d t) := by
  obtain ⟨f, fd, ps, F, hb, hm, kp⟩ := c.ex
  have r1 := hr.mono hk
  exact pe_callP F ⟨by rw [ed]; exact r1.dp, by rw [eu]; exact r1.un⟩ hp hz hf hg hm kp hb ha hdb he hpl
/-! ### lists of ints, of truth values, as data -/
def iD (l : List Nat) : PyData := .list (l.map fun (i : Nat) => PyData.int (i : Int))
theorem iV_all {K : PySem.W.Frag} {H : Hp} : ∀ l : List Nat, DpAll K H (iV l) (l.map fun (i : Nat) => PyData.int (i : Int))
  | [] => .nil
  | i :: l => .cons (.int _) (iV_all l)
theorem iD_dp {K : PySem.W.Frag} {H : Hp} {a : Addr} {l : List Nat} (h : SqL K H a (iV l)) : Dp K H (.ref a) (iD l) := .lst h (iV_all l)
theorem iD_plain : ∀ l : List Nat, PyData.plainAll (l.map fun (i : Nat) => PyData.int (i : Int)) = true
  | [] => by simp [PyData.plainAll]
  | i :: l => by
    have h := iD_plain l
    simp [PyData.plainAll, PyData.plain, h]
theorem iD_shaped (l : List Nat) : SeqAt.shaped (iD l) = true := by
  have h1 : ∀ l : List Nat, PyData.canLayAll0 (l.map fun (i : Nat) => PyData.int (i : Int)) = true ∧ PyData.depthAll (l.map fun (i : Nat) => PyData.int (i : Int)) = 0 := by
    intro l
    induction l with
    | nil => exact ⟨by simp [PyData.canLayAll0], by simp [PyData.depthAll]⟩
    | cons i l ih => exact ⟨by simp [PyData.canLayAll0, PyData.canLay0, ih.1], by simp [PyData.depthAll, PyData.depth, ih.2]⟩
  obtain ⟨a, b⟩ := h1 l
  unfold SeqAt.shaped iD
  simp only [PyData.canLay0, PyData.depth, a, b]
  rfl
theorem iD_refl (l : List Nat) : PyData.eqv (iD l) (iD l) = true := SeqAt.eqv_refl_plain _ (by unfold iD; simp only [PyData.plain]; exact iD_plain l)
def bV (l : List Bool) : List V := l.map V.bl
def bD (l : List Bool) : PyData := .list (l.map PyData.bool)
theorem bV_all {K : PySem.W.Frag} {H : Hp} : ∀ l : List Bool, DpAll K H (bV l) (l.map PyData.bool)
  | [] => .nil
  | i :: l => .cons (.bl _) (bV_all l)
theorem bD_dp {K : PySem.W.Frag} {H : Hp} {a : Addr} {l : List Bool} (h : SqL K H a (bV l)) : Dp K H (.ref a) (bD l) := .lst h (bV_all l)
theorem bD_plain : ∀ l : List Bool, PyData.plainAll (l.map PyData.bool) = true
  | [] => by simp [PyData.plainAll]
  | i :: l => by
    have h := bD_plain l
    simp [PyData.plainAll, PyData.plain, h]
theorem bD_shaped (l : List Bool) : SeqAt.shaped (bD l) = true := by
  have h1 : ∀ l : List Bool, PyData.canLayAll0 (l.map PyData.bool) = true ∧ PyData.depthAll (l.map PyData.bool) = 0 := by
    intro l
    induction l with
    | nil => exact ⟨by simp [PyData.canLayAll0], by simp [PyData.depthAll]⟩
    | cons i l ih => exact ⟨by simp [PyData.canLayAll0, PyData.canLay0, ih.1], by simp [PyData.depthAll, PyData.depth, ih.2]⟩
  obtain ⟨a, b⟩ := h1 l
  unfold SeqAt.shaped bD
  simp only [PyData.canLay0, PyData.depth, a, b]
  rfl
theorem bD_refl (l : List Bool) : PyData.eqv (bD l) (bD l) = true := SeqAt.eqv_refl_plain _ (by unfold bD; simp only [PyData.plain]; exact bD_plain l)
theorem iV_flat : ∀ l : List Nat, (iV l).all flatV = true
  | [] => rfl
  | i :: l => iV_flat l
theorem inV_iV (o : Nat) : ∀ l : List Nat, inV (.int (o : Int)) (iV l) = decide (o ∈ l)
  | [] => by simp [inV, iV]
  | i :: l => by
    have ih := inV_iV o l
    have e : inV (.int (o : Int)) (iV (i :: l)) = (eqV (.int (i : Int)) (.int (o : Int)) || inV (.int (o : Int)) (iV l)) := rfl
    have e2 : eqV (.int (i : Int)) (.int (o : Int)) = ((i : Int) == (o : Int)) := rfl
    rw [e, e2, ih, Bool.eq_iff_iff]
    simp only [Bool.or_eq_true, beq_iff_eq, decide_eq_true_eq, List.mem_cons]
    constructor
    · rintro (h | h)
      · exact .inl (by omega)
      · exact .inr h
    · rintro (h | h)
      · exact .inl (by omega)
      · exact .inr h
/-! ### [k == m for k in range(7)] -/
def marksTo (m i : Nat) : List Bool := (List.range i).map fun k => decide (k = m)
def marks (m : Nat) : List Bool := marksTo m 7
def tMarks (m : Nat) : TE := fun _ H Q => ∀ D H', H D = none → Same H H' → H' D = some (.lst (bV (marks m))) → Q (.ref D) H'
theorem dec_nat (i m : Nat) : decide (V.int (i : Int) = V.int (m : Int)) = decide (i = m) := by
  rw [decide_eq_decide]
  constructor
  · intro h
    have := V.int.inj h
    omega
  · intro h
    rw [h]
theorem yes_ite {σ : L2.St} {H : Hp} {A B : Hp → Prop} (h : A H) : tYes σ H fun b H3 => if b = true then A H3 else B H3 := by
  show (if true = true then A H else B H)
  rw [if_pos rfl]
  exact h
theorem pe_imp {X : Cx} {e : Expr} {t t' : TE} (h : PE X e t) (i : ∀ σ H Q, t' σ H Q → t σ H Q) : PE X e t' := ⟨fun pins s σ H Q I q => h.run pins s σ H Q I (i σ H Q q)⟩
theorem pe_marks {X : Cx} {i m : Nat} {j j2 : Nat} {p1 p2 p3 p4 p5 p6 p7 pos : Pos} {scope : Scope} (hc : X.calm = true) (hN : X.N.Nodup) (hi : i < X.N.length) (hm : X.mg "range" = none) (hgr : Gl X "range")
    (ok : BlkOk X.N X.env.scope scope [("k", i)])
    (hg : ∀ (s : Shared) (H : Hp) (C : Addr) (cl : List (Str × Addr)) (fp : List Addr), PG (X.blk s H scope (compEnvC scope cl C X.env) fp) (.Name "k" p4) (gName i))
    (hv : ∀ (s : Shared) (H : Hp) (C : Addr) (cl : List (Str × Addr)) (fp : List Addr), PE (X.blk s H scope (compEnvC scope cl C X.env) fp) (.Name "k" p1) (tVar i)) :
    PE X (.ListComp (.Compare (.Name "k" p1) [.Eq] [.Constant (.int (m : Int)) j p2] p3) [⟨.Name "k" p4, .Call (.Name "range" p5) [.Constant (.int 7) j2 p6] [] p7, [], 0⟩] scope pos) (tMarks m) := by
  constructor
  intro pins s σ H Q I q
  have hl : σ.length = X.N.length := I.len
  refine (pe_lc (own := [("k", i)]) (g := gName i) (tt := tYes) (te := tOp rEq (tVar i) (tC (.int (m : Int)))) hc hN (pi_range1 hgr hm (pa_cons pe_int pa_nil)) ok hg (fun _ _ _ _ _ => pts_nil)
    (fun s H C cl fp => pe_cmpR op_eq (hv s H C cl fp) pe_int (nomark _))).run pins s σ H Q I ?_
  refine ⟨7, rfl, by decide, by decide, fun D hD => ?_⟩
  refine lc_range (lo := 0) (n := 7) (fun n H' => Same H H' ∧ H' D = some (.lst (bV (marksTo m n)))) ⟨same_new _ hD, upd_same⟩ ?_ (fun H1 h1 => q D H1 hD h1.1 h1.2)
  rintro n H1 hn ⟨s1, h1⟩
  rw [Int.zero_add]
  have hw : i < (wipe σ [i]).length := by rw [wipe_length, hl]; exact hi
  have e1 : (List.set (wipe σ [i]) i (some (V.int (n : Int))))[i]? = some (some (V.int (n : Int))) := List.getElem?_set_self hw
  have e2 : wipe (List.set (wipe σ [i]) i (some (V.int (n : Int)))) [i] = wipe σ [i] := by
    show List.set (List.set (List.set σ i none) i (some (V.int (n : Int)))) i none = List.set σ i none
    rw [List.set_set, List.set_set]
  refine ⟨e2, ?_⟩
  refine yes_ite ?_
  refine ⟨_, e1, rfl, _, h1, ?_, same_keepNew s1 hD (Keep.put D _), ?_⟩
  · unfold bV marksTo
    rw [List.length_map, List.length_map, List.length_range]
    exact Nat.lt_of_lt_of_le hn (by decide)
  · rw [upd_same, dec_nat]
    unfold bV marksTo
    rw [List.range_succ, List.map_append, List.map_append]
    rfl
/-! ### marks of a caught error -/
structure MarkT (K : PySem.W.Frag) (cNG cSG cKA cST cBH cNT cHE D : Addr) (m : Nat) : Prop where
  ex : ExcC K D
  i0 : PySem.W.kitOne K (.ref D) (.ref cNG) = some (decide (0 = m))
  i1 : PySem.W.kitOne K (.ref D) (.ref cSG) = some (decide (1 = m))
  i2 : PySem.W.kitOne K (.ref D) (.ref cKA) = some (decide (2 = m))
  i3 : PySem.W.kitOne K (.ref D) (.ref cST) = some (decide (3 = m))
  i4 : PySem.W.kitOne K (.ref D) (.ref cBH) = some (decide (4 = m))
  i5 : PySem.W.kitOne K (.ref D) (.ref cNT) = some (decide (5 = m))
  iV : PySem.W.kitOne K (.ref D) (.type "ValueError") = some true
  h : PySem.W.exmOne K (.ref D) (.ref cHE) = some true
  m5 : m ≤ 5
/-- _law_marks_of -/
def spMarks (K : PySem.W.Frag) (cNG cSG cKA cST cBH cNT cHE : Addr) : Addr → Value → Option Addr → Sp := fun a cls d vs H Q _ => ∃ (D : Addr) (m : Nat), vs = [.ref a] ∧ cls = .ref D ∧ d = none ∧ MarkT K cNG cSG cKA cST cBH cNT cHE D m ∧
  ∀ H' l, Same H H' → H l = none → H' l = some (.lst (bV (marks m))) → Q (.ref l) H'
/-- _law_numbers -/
def spNumbers : Sp := fun vs H Q _ => ∃ (a b : Addr) (l : List Nat), vs = [.ref a, .ref b] ∧ H a = some (.lst (iV l)) ∧ H b = some (.lst (iV l)) ∧ Q (.bl true) H
/-- _law_known of a dict, of a list -/
def spKnownD : Sp := fun vs H Q _ => ∃ (q : Addr) (n g : Nat) (E : List Pr), vs = [.ref q, .int (n : Int), .int (g : Int)] ∧ H q = some (.dT (kvs E)) ∧ WF n E ∧ n ≤ 20 ∧ g < n ∧
  ∀ H' l, Same H H' → H l = none → H' l = some (.lst (iV (others true n E g))) → Q (.ref l) H'
def spKnownL : Sp := fun vs H Q _ => ∃ (q : Addr) (n g : Nat) (E : List Pr), vs = [.ref q, .int (n : Int), .int (g : Int)] ∧ PairsAt H q E ∧ WF n E ∧ n ≤ 20 ∧ g < n ∧
  ∀ H' l, Same H H' → H l = none → H' l = some (.lst (iV (others true n E g))) → Q (.ref l) H'
/-- _law_same -/
def spSame (C : Addr) : Sp := fun vs H Q _ => ∃ (p l d : Addr) (n : Nat) (L E : List Pr), vs = [.ref p, .ref l, .int (n : Int)] ∧ HallAt C H p n d L ∧ PairsAt H l E ∧ WF n E ∧ Eqv L E ∧ ∀ H', Same H H' → Q (.bl true) H'
theorem oth_eqv {L E : List Pr} (h : Eqv L E) (k : Bool) (g : Nat) : oth k L g = oth k E g := by
  funext o
  unfold oth
  rw [decide_eq_decide.mpr (h (nrm g o))]
theorem others_eqv {L E : List Pr} (h : Eqv L E) (k : Bool) (n g : Nat) : others k n L g = others k n E g := by
  unfold others
  rw [oth_eqv h]
theorem oth_known {n : Nat} {E : List Pr} (wf : WF n E) (g o : Nat) : oth true E g o = decide (nrm g o ∈ E) := by
  rw [Bool.eq_iff_iff, oth_iff, decide_eq_true_eq]
  constructor
  · exact fun h => h.2
  · intro h
    refine ⟨fun e => ?_, h⟩
    have := (wf.2 _ h).1
    rw [e] at this
    exact absurd this (by show ¬ (min g g < max g g); omega)
end KT

/-! takes -/
namespace KT
open PySem PySem.Spec PyProof.Rows L2
theorem take_more {α : Type} {l : List α} {i : Nat} {x : α} (h : l[i]? = some x) : l.take (i + 1) = l.take i ++ [x] := by
  rw [List.take_add_one, h]
  rfl
theorem take_notin {α : Type} {l : List α} {i : Nat} {x : α} (nd : l.Nodup) (h : l[i]? = some x) : x ∉ l.take i := by
  have z : (l.take (i + 1)).Nodup := nd.sublist (List.take_sublist _ _)
  rw [take_more h] at z
  exact fun m => (List.pairwise_append.mp z).2.2 x m x (List.mem_singleton.mpr rfl) rfl
theorem hu65 {k : Nat} {A : Around} (hr : Room k A) : A.units + 65 < cLine := by
  have := hr.un
  omega
end KT

/-! the law's promise -/
namespace KT
open PySem PySem.Spec PyProof.Rows L2
def spLaw (K : PySem.W.Frag) : Sp := fun vs H Q _ => ∃ (a : Addr) (ns : List Int), vs = [.ref a] ∧ SqL K H a (ns.map V.int) ∧ ns.length ≤ 63 ∧ ∀ H', Q (.bl true) H'
theorem seq_keep {K : PySem.W.Frag} {D : List Addr} {H H1 H2 : Hp} {a : Addr} {xs : List V} (k : Keep D H1 H2) (s : Same H H1) (h : SqL K H a xs) (n : ∀ b ∈ D, H b = none) : SqL K H2 a xs := by
  rcases h with (h | ⟨o, h⟩) | h
  · exact .inl (.inl (k _ _ (fun m => by rw [n _ m] at h; cases h) (s _ _ h)))
  · exact .inl (.inr ⟨o, k _ _ (fun m => by rw [n _ m] at h; cases h) (s _ _ h)⟩)
  · exact .inr h
end KT

/-! several ways to one place: own rules -/
namespace KT
open PySem PySem.Spec PyProof.Rows L2
section
variable {X : Cx} {st : Stmt} {t : TS} {e : Expr} {te : TE}
def tJoin (t : TS) : TS := fun D σ H => ∃ R : L2.St → Hp → Prop, t { D with nx := R } σ H ∧ ∀ σ' H', R σ' H' → D.nx σ' H'
theorem ps_join (h : PS X st t) : PS X st (tJoin t) := by
  refine ⟨fun pins s σ H D I hw => ?_⟩
  obtain ⟨R, h1, h2⟩ := hw
  refine thn (h.run pins s σ H _ I h1) ?_
  intro f s' q
  cases f with
  | next =>
    obtain ⟨σ', H', I', r⟩ := q
    exact ⟨σ', H', I', h2 _ _ r⟩
  | brk => exact q
  | cont => exact q
  | ret u => exact q
def tJoinE (t : TE) : TE := fun σ H Q => ∃ R : VK, t σ H R ∧ ∀ v H', R v H' → Q v H'
theorem pe_join (h : PE X e te) : PE X e (tJoinE te) := by
  refine ⟨fun pins s σ H Q I hw => ?_⟩
  obtain ⟨R, h1, h2⟩ := hw
  refine thn (h.run pins s σ H _ I h1) ?_
  rintro v s' ⟨x, H', I', r, q⟩
  exact ⟨x, H', I', r, h2 _ _ q⟩
end
end KT

/-! crowds: plain, promises -/
namespace KT
open PySem PySem.Spec PyProof.Rows L2
def okB (L : List Pr) (a b : Nat) : Bool := decide (a = b) || decide (nrm a b ∈ L)
def crowdB (L : List Pr) (gs : List Nat) : Bool := gs.all fun a => gs.all fun b => okB L a b
def crowdR (E : List Pr) (gs : List Nat) : Bool := gs.all fun a => gs.all fun b => !decide (a < b) || decide ((a, b) ∈ E)
theorem okB_iff {L : List Pr} {a b : Nat} : okB L a b = true ↔ a = b ∨ nrm a b ∈ L := by
  unfold okB
  rw [Bool.or_eq_true, decide_eq_true_eq, decide_eq_true_eq]
theorem crowdB_iff {L : List Pr} {gs : List Nat} : crowdB L gs = true ↔ ∀ a ∈ gs, ∀ b ∈ gs, a = b ∨ nrm a b ∈ L := by
  unfold crowdB
  simp only [List.all_eq_true, okB_iff]
theorem crowdR_iff {E : List Pr} {gs : List Nat} : crowdR E gs = true ↔ ∀ a ∈ gs, ∀ b ∈ gs, a < b → (a, b) ∈ E := by
  unfold crowdR
  simp only [List.all_eq_true, Bool.or_eq_true, Bool.not_eq_true', decide_eq_true_eq, decide_eq_false_iff_not]
  constructor
  · intro h a ha b hb c
    exact (h a ha b hb).resolve_left fun z => z c
  · intro h a ha b hb
    by_cases c : a < b
    · exact .inr (h a ha b hb c)
    · exact .inl c
theorem crowd_eq {L E : List Pr} (h : Eqv L E) (gs : List Nat) : crowdB L gs = crowdR E gs := by
  rw [Bool.eq_iff_iff, crowdB_iff, crowdR_iff]
  constructor
  · intro z a ha b hb c
    have y := (z a ha b hb).resolve_left (by omega)
    rw [nrm_lt c] at y
    exact (h _).mp y
  · intro z a ha b hb
    rcases Nat.lt_trichotomy a b with c | c | c
    · refine .inr ?_
      rw [nrm_lt c]
      exact (h _).mpr (z a ha b hb c)
    · exact .inl c
    · refine .inr ?_
      rw [nrm_comm, nrm_lt c]
      exact (h _).mpr (z b hb a ha c)
theorem iV_get {l : List Nat} {i : Nat} {v : V} (h : (iV l)[i]? = some v) : ∃ o : Nat, l[i]? = some o ∧ v = V.int (o : Int) := by
  unfold iV at h
  rw [List.getElem?_map] at h
  cases e : l[i]? with
  | none =>
    rw [e] at h
    cases h
  | some u =>
    rw [e] at h
    exact ⟨u, rfl, (Option.some.inj h).symm⟩
theorem iV_len (l : List Nat) : (iV l).length = l.length := by
  unfold iV
  rw [List.length_map]
theorem forall_take {α : Type} {l : List α} {i : Nat} {x : α} {p : α → Prop} (hx : l[i]? = some x) (h : ∀ a ∈ l.take i, p a) (hp : p x) : ∀ a ∈ l.take (i + 1), p a := by
  intro a ha
  rw [List.take_add_one, hx] at ha
  rcases List.mem_append.mp ha with ha | ha
  · exact h a ha
  · have : a = x := by simpa using ha
    rw [this]
    exact hp
def spIsCrowd (C cNG : Addr) : Sp := fun vs H Q E => ∃ (p l d : Addr) (n : Nat) (L : List Pr) (zs : List Int), vs = [.ref p, .ref l] ∧ HallAt C H p n d L ∧ H l = some (.lst (zs.map V.int)) ∧
  ((∃ z ∈ zs, ¬ isG n z) → E (.ref cNG) none H) ∧ (∀ gs : List Nat, zs.map V.int = iV gs → (∀ g ∈ gs, g < n) → ∀ H', Same H H' → Q (.bl (crowdB L gs)) H')
def spCrowdL : Sp := fun vs H Q _ => ∃ (l g : Addr) (n : Nat) (E : List Pr) (gs : List Nat), vs = [.ref l, .ref g] ∧ PairsAt H l E ∧ WF n E ∧ H g = some (.lst (iV gs)) ∧ ∀ H', Same H H' → Q (.bl (crowdR E gs)) H'
def spCrowdMarks (C : Addr) : Sp := fun vs H Q _ => ∃ (p l d : Addr) (n : Nat) (L : List Pr) (zs : List Int), vs = [.ref p, .ref l] ∧ HallAt C H p n d L ∧ H l = some (.lst (zs.map V.int)) ∧
  (∃ z ∈ zs, ¬ isG n z) ∧ ∀ H' m, Same H H' → H' m = some (.lst (bV (marks 0))) → Q (.ref m) H'
end KT

/-! a hall turned about: plain, promises -/
namespace KT
open PySem PySem.Spec PyProof.Rows L2
def cmpG (n : Nat) (L : List Pr) (i : Nat) : List Pr := ((others false n L i).filter fun j => decide (i < j)).map fun j => (i, j)
def cmpTo (n : Nat) (L : List Pr) (k : Nat) : List Pr := (List.range k).flatMap (cmpG n L)
def comp (n : Nat) (L : List Pr) : List Pr := cmpTo n L n
theorem mem_cmpG {n : Nat} {L : List Pr} {g i j : Nat} : (i, j) ∈ cmpG n L g ↔ i = g ∧ i < j ∧ j < n ∧ (i, j) ∉ L := by
  unfold cmpG others
  simp only [List.mem_map, List.mem_filter, List.mem_range, oth_iff, decide_eq_true_eq, decide_eq_false_iff_not]
  constructor
  · rintro ⟨a, ⟨⟨h1, h2, h3⟩, h4⟩, e⟩
    injection e with e1 e2
    subst e1
    subst e2
    rw [nrm_lt h4] at h3
    exact ⟨rfl, h4, h1, h3⟩
  · rintro ⟨rfl, h1, h2, h3⟩
    exact ⟨j, ⟨⟨h2, by omega, by rw [nrm_lt h1]; exact h3⟩, h1⟩, rfl⟩
theorem mem_cmpTo {n : Nat} {L : List Pr} {k i j : Nat} : (i, j) ∈ cmpTo n L k ↔ i < k ∧ i < j ∧ j < n ∧ (i, j) ∉ L := by
  unfold cmpTo
  rw [List.mem_flatMap]
  constructor
  · rintro ⟨g, hg, h⟩
    rw [List.mem_range] at hg
    obtain ⟨rfl, h2⟩ := mem_cmpG.mp h
    exact ⟨hg, h2⟩
  · rintro ⟨h1, h⟩
    exact ⟨i, List.mem_range.mpr h1, mem_cmpG.mpr ⟨rfl, h⟩⟩
theorem mem_comp {n : Nat} {L : List Pr} {i j : Nat} : (i, j) ∈ comp n L ↔ i < j ∧ j < n ∧ (i, j) ∉ L := by
  unfold comp
  rw [mem_cmpTo]
  constructor
  · exact fun h => h.2
  · exact fun h => ⟨by omega, h⟩
theorem comp_comp {n : Nat} {L : List Pr} (wf : WF n L) : Eqv (comp n (comp n L)) L := by
  rintro ⟨i, j⟩
  rw [mem_comp, mem_comp]
  constructor
  · rintro ⟨h1, h2, h3⟩
    by_cases m : (i, j) ∈ L
    · exact m
    · exact absurd ⟨h1, h2, m⟩ h3
  · intro m
    have h := wf.2 _ m
    exact ⟨h.1, h.2, fun z => z.2.2 m⟩
theorem flat_congr {α : Type} {f g : Nat → List α} : ∀ {k : Nat}, (∀ i, i < k → f i = g i) → (List.range k).flatMap f = (List.range k).flatMap g
  | 0, _ => rfl
  | k + 1, h => by rw [flat_step, flat_step, flat_congr (fun i hi => h i (by omega)), h k (by omega)]
theorem mono_comp {n : Nat} {L : List Pr} {a b c : Nat} (h1 : a < b) (h2 : b < c) (h3 : c < n) : mono (comp n L) a b c = mono L a b c := by
  have e : ∀ i j, i < j → j < n → decide (nrm i j ∈ comp n L) = !decide (nrm i j ∈ L) := by
    intro i j hij hj
    rw [nrm_lt hij, Bool.eq_iff_iff]
    simp only [decide_eq_true_eq, Bool.not_eq_true', decide_eq_false_iff_not, mem_comp]
    exact ⟨fun z => z.2.2, fun z => ⟨hij, hj, z⟩⟩
  unfold mono
  rw [e a b h1 (by omega), e a c (by omega) h3, e b c h2 h3]
  cases decide (nrm a b ∈ L) <;> cases decide (nrm a c ∈ L) <;> cases decide (nrm b c ∈ L) <;> rfl
theorem threes_comp (n : Nat) (L : List Pr) : threesL n (comp n L) = threesL n L := by
  unfold threesL th1
  refine flat_congr fun a ha => ?_
  unfold th2
  refine flat_congr fun i hi => ?_
  unfold th3
  refine flat_congr fun j hj => ?_
  rw [mono_comp (by omega) (by omega) (by omega)]
def spTurned (C : Addr) : Sp := fun vs H Q _ => ∃ (p d : Addr) (n : Nat) (L : List Pr), vs = [.ref p] ∧ HallAt C H p n d L ∧
  ∀ H' x d', Same H H' → H x = none → H d' = none → HallAt C H' x n d' (comp n L) → Q (.ref x) H'
end KT

/-! greatest crowds: plain, promises -/
namespace KT
open PySem PySem.Spec PyProof.Rows L2
def Cr (L : List Pr) (c : List Nat) : Prop := c.Pairwise fun a b => nrm a b ∈ L
structure Best (L : List Pr) (begun rest r : List Nat) : Prop where
  has : ∃ c, r = begun ++ c ∧ c.Sublist rest ∧ Cr L c
  max : ∀ c, c.Sublist rest → Cr L c → begun.length + c.length ≤ r.length
def FromTo (rest c : List Nat) (i : Nat) : Prop := c = [] ∨ ∃ j a t, j < i ∧ rest[j]? = some a ∧ c = a :: t ∧ t.Sublist (rest.drop (j + 1))
structure BestTo (L : List Pr) (begun rest r : List Nat) (i : Nat) : Prop where
  has : ∃ c, r = begun ++ c ∧ c.Sublist rest ∧ Cr L c
  max : ∀ c, Cr L c → FromTo rest c i → begun.length + c.length ≤ r.length
theorem head_at : ∀ {l c : List Nat} {a : Nat} {t : List Nat}, c.Sublist l → c = a :: t → ∃ j, l[j]? = some a ∧ t.Sublist (l.drop (j + 1))
  | _, _, _, _, .slnil, e => by cases e
  | x :: l, _, a, t, .cons _ s, e => by
    obtain ⟨j, h1, h2⟩ := head_at s e
    exact ⟨j + 1, by simpa using h1, by simpa using h2⟩
  | x :: l, _, a, t, .cons₂ _ s, e => by
    injection e with e1 e2
    subst e1
    subst e2
    exact ⟨0, rfl, by simpa using s⟩
section
variable {L : List Pr} {begun rest r f : List Nat} {i g : Nat}
theorem bestTo_zero (L : List Pr) (begun rest : List Nat) : BestTo L begun rest begun 0 := by
  refine ⟨⟨[], (List.append_nil _).symm, List.nil_sublist _, List.Pairwise.nil⟩, ?_⟩
  rintro c _ (rfl | ⟨j, _, _, h, _⟩)
  · exact Nat.le_refl _
  · omega
theorem bestTo_end (h : BestTo L begun rest r rest.length) : Best L begun rest r := by
  refine ⟨h.has, fun c hs hc => h.max c hc ?_⟩
  cases c with
  | nil => exact .inl rfl
  | cons a t =>
    obtain ⟨j, h1, h2⟩ := head_at hs rfl
    exact .inr ⟨j, a, t, (List.getElem?_eq_some_iff.mp h1).1, h1, rfl, h2⟩
theorem from_split {c : List Nat} (h : FromTo rest c (i + 1)) (hg : rest[i]? = some g) : FromTo rest c i ∨ ∃ t, c = g :: t ∧ t.Sublist (rest.drop (i + 1)) := by
  rcases h with rfl | ⟨j, a, t, h1, h2, h3, h4⟩
  · exact .inl (.inl rfl)
  · by_cases e : j = i
    · subst e
      rw [hg] at h2
      injection h2 with h2
      subst h2
      exact .inr ⟨t, h3, h4⟩
    · exact .inl (.inr ⟨j, a, t, by omega, h2, h3, h4⟩)
theorem bestTo_skip (h : BestTo L begun rest r i) (hg : rest[i]? = some g) (no : begun.length + rest.length ≤ r.length + i) : BestTo L begun rest r (i + 1) := by
  refine ⟨h.has, fun c hc hf => ?_⟩
  rcases from_split hf hg with hf | ⟨t, rfl, ht⟩
  · exact h.max c hc hf
  · have := ht.length_le
    have hi := (List.getElem?_eq_some_iff.mp hg).1
    rw [List.length_drop] at this
    rw [List.length_cons]
    omega
theorem cr_take {t : List Nat} (hc : Cr L (g :: t)) (ht : t.Sublist (rest.drop (i + 1))) : t.Sublist ((rest.drop (i + 1)).filter fun o => decide (nrm g o ∈ L)) := by
  have h1 := (List.pairwise_cons.mp hc).1
  have e : t.filter (fun o => decide (nrm g o ∈ L)) = t := List.filter_eq_self.mpr fun a ha => decide_eq_true (h1 a ha)
  rw [← e]
  exact ht.filter _
theorem bestTo_better (h : BestTo L begun rest r i) (hg : rest[i]? = some g) (b : Best L (begun ++ [g]) ((rest.drop (i + 1)).filter fun o => decide (nrm g o ∈ L)) f) (gt : r.length < f.length) : BestTo L begun rest f (i + 1) := by
  refine ⟨?_, fun c hc hf => ?_⟩
  · obtain ⟨c, e, s, cr⟩ := b.has
    refine ⟨g :: c, by rw [e, List.append_assoc]; rfl, ?_, ?_⟩
    · have h1 := s.trans List.filter_sublist
      have h2 : (g :: rest.drop (i + 1)).Sublist rest := by
        have := List.getElem?_eq_some_iff.mp hg
        obtain ⟨hi, eg⟩ := this
        have e2 : rest.drop i = g :: rest.drop (i + 1) := by rw [List.drop_eq_getElem_cons hi, eg]
        rw [← e2]
        exact List.drop_sublist _ _
      exact (h1.cons₂ g).trans h2
    · refine List.pairwise_cons.mpr ⟨fun a ha => ?_, cr⟩
      have := (List.mem_filter.mp (s.subset ha)).2
      exact of_decide_eq_true this
  · rcases from_split hf hg with hf | ⟨t, rfl, ht⟩
    · exact Nat.le_trans (h.max c hc hf) (Nat.le_of_lt gt)
    · have := b.max t (cr_take hc ht) (List.pairwise_cons.mp hc).2
      rw [List.length_append, List.length_singleton] at this
      rw [List.length_cons]
      omega
theorem bestTo_same (h : BestTo L begun rest r i) (hg : rest[i]? = some g) (b : Best L (begun ++ [g]) ((rest.drop (i + 1)).filter fun o => decide (nrm g o ∈ L)) f) (le : f.length ≤ r.length) : BestTo L begun rest r (i + 1) := by
  refine ⟨h.has, fun c hc hf => ?_⟩
  rcases from_split hf hg with hf | ⟨t, rfl, ht⟩
  · exact h.max c hc hf
  · have := b.max t (cr_take hc ht) (List.pairwise_cons.mp hc).2
    rw [List.length_append, List.length_singleton] at this
    rw [List.length_cons]
    omega
end
theorem cut_iV (l : List Nat) {k : Nat} (h : k ≤ l.length) : cutV (iV l) (some (k : Int)) none = iV (l.drop k) := by
  unfold cutV
  rw [HT.sIx_nat, HT.sIx_none]
  have e : (iV l).length = l.length := by
    unfold iV
    rw [List.length_map]
  rw [e, Nat.min_eq_left h]
  unfold iV
  rw [← List.map_drop, ← List.map_take]
  congr 1
  rw [← List.length_drop, List.take_length]
theorem rg_iV (n : Nat) : rgV 0 (n : Int) = iV (List.range n) := by
  unfold rgV iV
  have e : ((n : Int) - 0).toNat = n := by omega
  rw [e]
  refine List.map_congr_left fun i _ => ?_
  rw [Int.zero_add]
/-- rising lists of guests -/
theorem rising_sub : ∀ (n : Nat) (s : List Nat), s.Pairwise (· < ·) → (∀ g ∈ s, g < n) → s.Sublist (List.range n)
  | 0, s, _, h => by
    cases s with
    | nil => exact List.nil_sublist _
    | cons a t => exact absurd (h a List.mem_cons_self) (Nat.not_lt_zero _)
  | n + 1, s, hp, h => by
    rw [List.range_succ]
    rcases List.eq_nil_or_concat s with rfl | ⟨s', x, rfl⟩
    · exact List.nil_sublist _
    · rw [List.concat_eq_append] at *
      have hp' := List.pairwise_append.mp hp
      have hx := h x (by simp)
      by_cases e : x = n
      · subst e
        exact (rising_sub x s' hp'.1 fun g hg => hp'.2.2 g hg x (by simp)).append (List.Sublist.refl _)
      · refine (rising_sub n (s' ++ [x]) hp fun g hg => ?_).trans (List.sublist_append_left _ _)
        rcases List.mem_append.mp hg with hg | hg
        · have := hp'.2.2 g hg x (by simp)
          omega
        · rw [List.mem_singleton.mp hg]
          omega
def crowdP (E : List Pr) (k : Bool) (n : Nat) (s : List Nat) : Prop := s.Pairwise (· < ·) ∧ (∀ g ∈ s, g < n) ∧ s.Pairwise fun a b => decide ((a, b) ∈ E) = k
theorem crowdP_len {E : List Pr} {k : Bool} {n : Nat} {s : List Nat} (h : crowdP E k n s) : s.length ≤ n := by
  have := (rising_sub n s h.1 h.2.1).length_le
  rwa [List.length_range] at this
def IsMax (E : List Pr) (k : Bool) (n : Nat) (r : List Nat) : Prop := crowdP E k n r ∧ ∀ s, crowdP E k n s → s.length ≤ r.length
theorem pair_and {R S : Nat → Nat → Prop} {l : List Nat} (h1 : l.Pairwise R) (h2 : l.Pairwise S) : l.Pairwise fun a b => R a b ∧ S a b := List.pairwise_and_iff.mpr ⟨h1, h2⟩
theorem best_max {L E : List Pr} {n : Nat} {r : List Nat} (b : Best L [] (List.range n) r) (k : Bool) (h : ∀ a b, a < b → b < n → (nrm a b ∈ L ↔ decide ((a, b) ∈ E) = k)) : IsMax E k n r := by
  obtain ⟨c, e, s, cr⟩ := b.has
  rw [List.nil_append] at e
  subst e
  have lt : r.Pairwise (· < ·) := List.Pairwise.sublist s List.pairwise_lt_range
  have mem : ∀ g ∈ r, g < n := fun g hg => List.mem_range.mp (s.subset hg)
  refine ⟨⟨lt, mem, ?_⟩, fun c hc => ?_⟩
  · refine List.Pairwise.imp_of_mem (R := fun a b => a < b ∧ nrm a b ∈ L) (fun ha hb z => (h _ _ z.1 (mem _ hb)).mp z.2) (pair_and lt cr)
  · have h1 := b.max c (rising_sub n c hc.1 hc.2.1) (List.Pairwise.imp_of_mem (R := fun a b => a < b ∧ decide ((a, b) ∈ E) = k) (fun ha hb z => (h _ _ z.1 (hc.2.1 _ hb)).mpr z.2) (pair_and hc.1 hc.2.2))
    simpa using h1
theorem best_known {L E : List Pr} {n : Nat} {r : List Nat} (ev : Eqv L E) (b : Best L [] (List.range n) r) : IsMax E true n r := best_max b true fun a b hab _ => by
  rw [nrm_lt hab, decide_eq_true_eq]
  exact ev _
theorem best_unknown {L E : List Pr} {n : Nat} {r : List Nat} (ev : Eqv L E) (b : Best (comp n L) [] (List.range n) r) : IsMax E false n r := best_max b false fun a b hab hb => by
  rw [nrm_lt hab, decide_eq_false_iff_not, mem_comp, ev]
  exact ⟨fun z => z.2.2, fun z => ⟨hab, hb, z⟩⟩
/-! the law's own way: sets -/
def fits (E : List Pr) (k : Bool) (g : Nat) (s : List Nat) : Bool := s.all fun o => decide ((o, g) ∈ E) == k
theorem fits_iff {E : List Pr} {k : Bool} {g : Nat} {s : List Nat} : fits E k g s = true ↔ ∀ o ∈ s, decide ((o, g) ∈ E) = k := by
  unfold fits
  simp only [List.all_eq_true, beq_iff_eq]
def grow (E : List Pr) (k : Bool) (g : Nat) (S : List (List Nat)) : List (List Nat) := (S.filter (fits E k g)).map fun s => s ++ [g]
theorem grow_mem {E : List Pr} {k : Bool} {g : Nat} {S : List (List Nat)} (h : ∀ s, s ∈ S ↔ crowdP E k g s) (s : List Nat) : s ∈ S ++ grow E k g S ↔ crowdP E k (g + 1) s := by
  rw [List.mem_append]
  constructor
  · rintro (m | m)
    · obtain ⟨a, b, c⟩ := (h s).mp m
      exact ⟨a, fun x hx => Nat.lt_succ_of_lt (b x hx), c⟩
    · unfold grow at m
      obtain ⟨s', m', rfl⟩ := List.mem_map.mp m
      obtain ⟨m1, m2⟩ := List.mem_filter.mp m'
      obtain ⟨a, b, c⟩ := (h s').mp m1
      rw [fits_iff] at m2
      refine ⟨List.pairwise_append.mpr ⟨a, by simp, fun x hx y hy => ?_⟩, fun x hx => ?_, List.pairwise_append.mpr ⟨c, by simp, fun x hx y hy => ?_⟩⟩
      · rw [List.mem_singleton.mp hy]
        exact b x hx
      · rcases List.mem_append.mp hx with hx | hx
        · exact Nat.lt_succ_of_lt (b x hx)
        · rw [List.mem_singleton.mp hx]
          omega
      · rw [List.mem_singleton.mp hy]
        exact m2 x hx
  · rintro ⟨a, b, c⟩
    rcases List.eq_nil_or_concat s with rfl | ⟨s', x, rfl⟩
    · exact .inl ((h []).mpr ⟨List.Pairwise.nil, (fun x hx => by cases hx), List.Pairwise.nil⟩)
    · rw [List.concat_eq_append] at *
      have a' := List.pairwise_append.mp a
      have c' := List.pairwise_append.mp c
      have hx := b x (by simp)
      by_cases e : x = g
      · subst e
        refine .inr (List.mem_map.mpr ⟨s', List.mem_filter.mpr ⟨(h s').mpr ⟨a'.1, fun y hy => a'.2.2 y hy x (by simp), c'.1⟩, ?_⟩, rfl⟩)
        rw [fits_iff]
        exact fun o ho => c'.2.2 o ho x (by simp)
      · refine .inl ((h _).mpr ⟨a, fun y hy => ?_, c⟩)
        rcases List.mem_append.mp hy with hy | hy
        · have := a'.2.2 y hy x (by simp)
          omega
        · rw [List.mem_singleton.mp hy]
          omega
/-! promises -/
def spGrown (C : Addr) (m : Nat) : Sp := fun vs H Q _ => ∃ (p b q d : Addr) (n : Nat) (L : List Pr) (begun rest : List Nat), vs = [.ref p, .ref b, .ref q] ∧ HallAt C H p n d L ∧ H b = some (.lst (iV begun)) ∧ H q = some (.lst (iV rest)) ∧
  rest.length < m ∧ (∀ g ∈ rest, g < n) ∧ rest.Nodup ∧ begun.length + rest.length ≤ 40 ∧
  ∀ H' a r, Same H H' → (H a = none ∨ a = b) → H' a = some (.lst (iV r)) → Best L begun rest r → Q (.ref a) H'
def spCrowd (C : Addr) : Sp := fun vs H Q _ => ∃ (p d : Addr) (n : Nat) (L : List Pr), vs = [.ref p] ∧ HallAt C H p n d L ∧
  ∀ H' a r, Same H H' → H a = none → H' a = some (.lst (iV r)) → Best L [] (List.range n) r → Q (.ref a) H'
def spUnknown (C : Addr) : Sp := fun vs H Q _ => ∃ (p d : Addr) (n : Nat) (L : List Pr), vs = [.ref p] ∧ HallAt C H p n d L ∧
  ∀ H' a r, Same H H' → H a = none → H' a = some (.lst (iV r)) → Best (comp n L) [] (List.range n) r → Q (.ref a) H'
def spMost : Sp := fun vs H Q _ => ∃ (q : Addr) (n : Nat) (E : List Pr) (k : Bool) (r : List Nat), vs = [.ref q, .int (n : Int), .bl k] ∧ H q = some (.dT (kvs E)) ∧ n ≤ 20 ∧ n ≤ 12 ∧ IsMax E k n r ∧ ∀ H', Same H H' → Q (.int (r.length : Int)) H'
def spIsOne : Sp := fun vs H Q _ => ∃ (f q : Addr) (n : Nat) (E : List Pr) (k : Bool) (r : List Nat), vs = [.ref f, .ref q, .int (n : Int), .bl k] ∧ H f = some (.lst (iV r)) ∧ H q = some (.dT (kvs E)) ∧ n ≤ 12 ∧ IsMax E k n r ∧ ∀ H', Same H H' → Q (.bl true) H'
/-- enumerate -/
theorem for_enum {K : PySem.W.Frag} {a : Addr} {xs : List V} {g : TG} {tb : TS} {D : Ends} {σ : L2.St} {H : Hp} (Pv : Nat → L2.St → Hp → Prop) (h0 : Pv 0 σ H) (hl : ∀ i σ H, i ≤ xs.length → Pv i σ H → SqL K H a xs)
    (hs : ∀ i x σ H T, xs[i]? = some x → Pv i σ H → H T = none → g (.ref T) σ (upd H T (.tup [.int (i : Int), x])) fun σ2 H2 => tb { D with nx := Pv (i + 1), ct := Pv (i + 1), bk := D.nx } σ2 H2) (hd : ∀ σ H, Pv xs.length σ H → D.nx σ H) :
    ∃ W : Nat → Nat → L2.St → Hp → Prop, (∃ m, W 0 m σ H) ∧ ∀ i m σ H, W i m σ H →
      ((Ite K a).stop i H ∧ D.nx σ H) ∨ ((Ite K a).go i H ∧ ∃ N : L2.St → Hp → Prop, (∀ σ' H', N σ' H' → ∃ m', m' < m ∧ W (i + 1) m' σ' H') ∧ ∀ x H', (Ite K a).yld i H x H' → g x σ H' fun σ2 H2 => tb { D with nx := N, ct := N, bk := D.nx } σ2 H2) := by
  refine ⟨fun i m σ H => m = xs.length - i ∧ i ≤ xs.length ∧ Pv i σ H, ⟨xs.length, by simp, Nat.zero_le _, h0⟩, ?_⟩
  rintro i m σ H ⟨rfl, hi, p⟩
  have q := hl i σ H hi p
  by_cases hlt : i < xs.length
  · refine .inr ⟨⟨xs, xs[i], q, by simp [hlt]⟩, Pv (i + 1), fun σ' H' p' => ⟨xs.length - (i + 1), by omega, rfl, hlt, p'⟩, fun x H' y => ?_⟩
    obtain ⟨T, u, rfl, nT, rfl, y⟩ := y
    exact hs i u σ H T (y xs q) p nT
  · have e : i = xs.length := by omega
    subst e
    exact .inl ⟨⟨xs, q, Nat.le_refl _⟩, hd σ H p⟩
end KT

namespace KT
open PySem L2
def topS (i : Nat) : Stmt := PySem.Challenge.pw_knowthree_k09_greatest_crowds.main.body.getD i (.Pass ⟨0, 0, 0, 0⟩)
abbrev st_Hall_init : Stmt := inClass (topS 9) 0
abbrev st_Hall_many : Stmt := inClass (topS 9) 1
abbrev st_Hall_see : Stmt := inClass (topS 9) 2
abbrev st_Hall_see_two : Stmt := inClass (topS 9) 3
abbrev st_Hall_meet : Stmt := inClass (topS 9) 4
abbrev st_Hall_part : Stmt := inClass (topS 9) 5
abbrev st_Hall_know : Stmt := inClass (topS 9) 6
abbrev st_Hall_known : Stmt := inClass (topS 9) 7
abbrev st_Hall_strangers : Stmt := inClass (topS 9) 8
abbrev st_turned : Stmt := topS 10
abbrev st_grown : Stmt := topS 12
abbrev st_crowd : Stmt := topS 13
abbrev st_unknown_crowd : Stmt := topS 14
abbrev st_l_cell_at : Stmt := topS 16
abbrev st_l_whole : Stmt := topS 17
abbrev st_l_pairs_by : Stmt := topS 18
abbrev st_l_hall_of : Stmt := topS 19
abbrev st_l_known : Stmt := topS 20
abbrev st_l_turn_one : Stmt := topS 21
abbrev st_l_most : Stmt := topS 22
abbrev st_l_is_one : Stmt := topS 23
abbrev st_l_right : Stmt := topS 24
abbrev st_law : Stmt := topS 25
end KT
/-! the hall's defs keep their promises: the parts that every law has -/
namespace KT
open PySem PySem.Spec PyProof.Rows L2
section
variable {P : Program} {w : World} {K : PySem.W.Frag} {mg : Str → Option Value} {base : Heap} {C cNG cSG cKA cST cBH : Addr}
theorem sc_init : FnScope ["self", "many"] ["self", "many"] (defScope st_Hall_init) := ⟨rfl, rfl, rfl, by decide +kernel, rfl, by decide +kernel, by decide +kernel⟩
theorem ok_init {f : Addr} {fd : FuncData} (F : Fun K "__init__" "Hall.__init__" st_Hall_init f fd) (T : HT K mg C cNG cSG cKA cST cBH) :
    FnOk P w K mg base (L2N.CX P w) 1 f fd ["self", "many"] (spInit C cBH) := by
  obtain ⟨tg, egr⟩ := T.gr
  refine okN F sc_init (fun vs H Q E h => ?_) (fun cdv A outer s H vs Q E hr h => ?_)
  · obtain ⟨p, dx, z, rfl, _⟩ := h
    rfl
  · obtain ⟨p, dx, z, rfl, hp, hdx, bad, good⟩ := h
    refine ⟨_, pss_cons (ps_if (PW.pt (pw_or (pt_cmpR op_lt (pv 1) pe_int (nomark _)) (pw_or1 (pt_cmpR op_gt (pv 1) (pe_glob (v := .int 20) rfl egr ⟨tg, rfl⟩) (nomark _)))))
        (pss_one (pr T.bh tk)) pss_nil)
      (pss_cons (ps_fld (pv 0) (pv 1) rfl) (pss_one (ps_fld (pv 0) pe_dnewT rfl))), ?_⟩
    refine ⟨_, rfl, _, _, rfl, rfl, _, rfl, ite2 (fun c => ?_) (fun c => ?_)⟩
    · exact iteT (bad (by have := of_decide_eq_true c; omega))
    have c1 : ¬ z < 1 := of_decide_eq_false (by simpa using c)
    refine ⟨_, rfl, _, _, rfl, rfl, _, rfl, ite2 (fun c2 => ?_) (fun c2 => ?_)⟩
    · exact bad (by have := of_decide_eq_true c2; omega)
    have c3 : ¬ (20 < z) := of_decide_eq_false (by simpa using c2)
    refine ⟨_, rfl, _, rfl, p, C, dx, _, rfl, hp, T.cl, T.nC, (by show 0 < 1000; decide), ?_⟩
    intro d hd
    have npd : p ≠ d := fun q => by
      rw [q, upd_same] at hd
      cases hd
    have hd0 : H d = none := by
      rw [upd_ne npd.symm] at hd
      exact hd
    obtain ⟨n, rfl⟩ : ∃ n : Nat, z = (n : Int) := ⟨z.toNat, by omega⟩
    refine ⟨_, rfl, p, C, dx, _, rfl, (by rw [upd_ne npd]; exact upd_same), T.cl, T.nP, (by show 1 < 1000; decide), ?_⟩
    refine good n rfl (by omega) (by omega) _ d ?_ hd0 ⟨⟨dx, upd_same⟩, by rw [upd_ne npd.symm]; exact upd_same, WF.nil n, by omega, by omega⟩
    intro b o nb e
    have nb : b ≠ p := by simpa using nb
    rw [upd_ne nb, upd_ne (ne_of_none e hd0), upd_ne nb]
    exact e
theorem sc_many : FnScope ["self"] ["self"] (defScope st_Hall_many) := ⟨rfl, rfl, rfl, by decide +kernel, rfl, by decide +kernel, by decide +kernel⟩
theorem ok_many {f : Addr} {fd : FuncData} (F : Fun K "many" "Hall.many" st_Hall_many f fd) (T : HT K mg C cNG cSG cKA cST cBH) :
    FnOk P w K mg base CX0 1 f fd ["self"] (spMany C) := by
  refine F.ok sc_many (fun vs H Q E h => ?_) (fun cdv A outer s H vs Q E hr h => ?_)
  · obtain ⟨p, d, n, L, rfl, _⟩ := h
    rfl
  · obtain ⟨p, d, n, L, rfl, hall, q⟩ := h
    obtain ⟨dx, hp⟩ := hall.ins
    refine ⟨_, pss_one (ps_ret (pe_fld (pv 0) rfl)), ?_⟩
    exact ⟨_, rfl, p, C, dx, _, _, rfl, hp, T.cl, T.nC, hf_count _ _, q⟩
theorem sc_see : FnScope ["self", "guest"] ["self", "guest"] (defScope st_Hall_see) := ⟨rfl, rfl, rfl, by decide +kernel, rfl, by decide +kernel, by decide +kernel⟩
theorem ok_see {f : Addr} {fd : FuncData} (F : Fun K "see" "Hall.see" st_Hall_see f fd) (T : HT K mg C cNG cSG cKA cST cBH) :
    FnOk P w K mg base (L2N.CX P w) 1 f fd ["self", "guest"] (spSee C cNG) := by
  refine okN F sc_see (fun vs H Q E h => ?_) (fun cdv A outer s H vs Q E hr h => ?_)
  · obtain ⟨p, d, n, L, z, rfl, _⟩ := h
    rfl
  · obtain ⟨p, d, n, L, z, rfl, hall, bad, good⟩ := h
    obtain ⟨dx, hp⟩ := hall.ins
    refine ⟨_, pss_one (ps_if (PW.pt (pw_or (pt_cmpR op_lt (pv 1) pe_int (nomark _)) (pw_or1 (pt_cmpR op_ge (pv 1) (pe_fld (pv 0) rfl) (nomark _)))))
        (pss_one (pr T.ng tk)) pss_nil), ?_⟩
    refine ⟨_, rfl, _, _, rfl, rfl, _, rfl, ite2 (fun c => ?_) (fun c => ?_)⟩
    · exact iteT (bad (by have := of_decide_eq_true c; unfold isG; omega))
    have c1 : ¬ z < 0 := of_decide_eq_false (by simpa using c)
    refine ⟨_, rfl, _, rfl, p, C, dx, _, _, rfl, hp, T.cl, T.nC, hf_count _ _, _, _, rfl, rfl, _, rfl, ite2 (fun c2 => ?_) (fun c2 => ?_)⟩
    · exact bad (by have := of_decide_eq_true c2; unfold isG; omega)
    have c3 : ¬ ((n : Int) ≤ z) := of_decide_eq_false (by simpa using c2)
    exact good ⟨by omega, by omega⟩
theorem sc_see_two : FnScope ["self", "one", "other"] ["self", "one", "other"] (defScope st_Hall_see_two) := ⟨rfl, rfl, rfl, by decide +kernel, rfl, by decide +kernel, by decide +kernel⟩
theorem ok_see_two {f : Addr} {fd : FuncData} (F : Fun K "see_two" "Hall.see_two" st_Hall_see_two f fd) (T : HT K mg C cNG cSG cKA cST cBH)
    (mS : MetD P w K mg base (L2N.CX P w) C 1 "see" (spSee C cNG)) :
    FnOk P w K mg base (L2N.CX P w) 2 f fd ["self", "one", "other"] (spSeeTwo C cNG cSG) := by
  refine okN F sc_see_two (fun vs H Q E h => ?_) (fun cdv A outer s H vs Q E hr h => ?_)
  · obtain ⟨p, d, n, L, y, z, rfl, _⟩ := h
    rfl
  · obtain ⟨p, d, n, L, y, z, rfl, hall, bad, same, good⟩ := h
    obtain ⟨dx, hp⟩ := hall.ins
    refine ⟨_, pss_cons (ps_expr (pm (pv 0) T.cl mS hr px (pa_cons (pv 1) pa_nil))) (pss_cons (ps_expr (pm (pv 0) T.cl mS hr px (pa_cons (pv 2) pa_nil)))
      (pss_one (ps_if (pt_cmpR op_eq (pv 1) (pv 2) (nomark _)) (pss_one (pr T.sg tk)) pss_nil))), ?_⟩
    have ns : (hf n d).lookup ("see" : Str) = none := hf_no _ _ (by decide +kernel) (by decide +kernel)
    refine ⟨_, rfl, p, dx, _, rfl, hp, ns, _, rfl, p, d, n, L, y, rfl, hall, fun b => bad fun c => b c.1, fun gy => ?_⟩
    refine ⟨_, rfl, p, dx, _, rfl, hp, ns, _, rfl, p, d, n, L, z, rfl, hall, fun b => bad fun c => b c.2, fun gz => ?_⟩
    refine ⟨_, rfl, _, rfl, rfl, _, rfl, ite2 (fun c => ?_) (fun c => ?_)⟩
    · exact same gy gz (by have := of_decide_eq_true c; exact V.int.inj this)
    · exact good gy gz (fun e => c (decide_eq_true (by rw [e])))
theorem sc_know : FnScope ["self", "one", "other"] ["self", "one", "other"] (defScope st_Hall_know) := ⟨rfl, rfl, rfl, by decide +kernel, rfl, by decide +kernel, by decide +kernel⟩
theorem ok_know {f : Addr} {fd : FuncData} (F : Fun K "know" "Hall.know" st_Hall_know f fd) (T : HT K mg C cNG cSG cKA cST cBH)
    (mS : MetD P w K mg base (L2N.CX P w) C 2 "see_two" (spSeeTwo C cNG cSG)) :
    FnOk P w K mg base (L2N.CX P w) 3 f fd ["self", "one", "other"] (spKnow C cNG cSG) := by
  refine okN F sc_know (fun vs H Q E h => ?_) (fun cdv A outer s H vs Q E hr h => ?_)
  · obtain ⟨p, d, n, L, y, z, rfl, _⟩ := h
    rfl
  · obtain ⟨p, d, n, L, y, z, rfl, hall, bad, same, good⟩ := h
    obtain ⟨dx, hp⟩ := hall.ins
    refine ⟨_, pss_cons (ps_expr (pm (pv 0) T.cl mS hr px (pa_cons (pv 1) (pa_cons (pv 2) pa_nil))))
      (pss_one (ps_ret (pe_cmp (pc_din (hu_of hr) (pe_tup (pa_cons (pe_callB (call_min2 rfl) (by rfl) T.min (by decide +kernel) (pa_cons (pv 1) (pa_cons (pv 2) pa_nil)))
        (pa_cons (pe_callB (call_max2 rfl) (by rfl) T.max (by decide +kernel) (pa_cons (pv 1) (pa_cons (pv 2) pa_nil))) pa_nil))) (pe_fld (pv 0) rfl)) rfl))), ?_⟩
    have ns : (hf n d).lookup ("see_two" : Str) = none := hf_no _ _ (by decide +kernel) (by decide +kernel)
    refine ⟨_, rfl, p, dx, _, rfl, hp, ns, _, rfl, _, rfl, p, d, n, L, y, z, rfl, hall, bad, same, fun gy gz nyz => ?_⟩
    obtain ⟨i, rfl, hi⟩ := gy.nat
    obtain ⟨j, rfl, hj⟩ := gz.nat
    refine ⟨_, rfl, _, rfl, _, _, rfl, _, rfl, _, rfl, _, _, rfl, (by show 2 ≤ sizeLine; decide), fun t ht => ?_⟩
    have s1 := same_new (.tup [V.int (if (j : Int) < (i : Int) then (j : Int) else (i : Int)), V.int (if (j : Int) > (i : Int) then (j : Int) else (i : Int))]) ht
    have h2 := hall.same s1
    obtain ⟨dx2, hp2⟩ := h2.ins
    refine ⟨_, rfl, p, C, dx2, _, _, rfl, hp2, T.cl, T.nP, hf_pairs _ _, d, _, rfl, DGet.t (k := kP (nrm i j)) h2.dic (by rw [upd_same, kP_map, min_py, max_py]; rfl), ?_⟩
    rw [isSome_kvs]
    exact good i j rfl rfl hi hj (fun e => nyz (by rw [e])) _ s1
end
end KT

/-! meet, part -/
namespace KT
open PySem PySem.Spec PyProof.Rows L2
section
variable {P : Program} {w : World} {K : PySem.W.Frag} {mg : Str → Option Value} {base : Heap} {C cNG cSG cKA cST cBH : Addr}
theorem sc_meet : FnScope ["self", "one", "other"] ["self", "one", "other"] (defScope st_Hall_meet) := ⟨rfl, rfl, rfl, by decide +kernel, rfl, by decide +kernel, by decide +kernel⟩
theorem ok_meet {f : Addr} {fd : FuncData} (F : Fun K "meet" "Hall.meet" st_Hall_meet f fd) (T : HT K mg C cNG cSG cKA cST cBH)
    (mK : MetD P w K mg base (L2N.CX P w) C 3 "know" (spKnow C cNG cSG)) :
    FnOk P w K mg base (L2N.CX P w) 4 f fd ["self", "one", "other"] (spMeet C cNG cSG cKA) := by
  refine okN F sc_meet (fun vs H Q E h => ?_) (fun cdv A outer s H vs Q E hr h => ?_)
  · obtain ⟨p, d, n, L, y, z, rfl, _⟩ := h
    rfl
  · obtain ⟨p, d, n, L, y, z, rfl, hall, bad, same, there, good⟩ := h
    obtain ⟨dx, hp⟩ := hall.ins
    refine ⟨_, pss_cons (ps_if (pt_val (pm (pv 0) T.cl mK hr px (pa_cons (pv 1) (pa_cons (pv 2) pa_nil)))) (pss_one (pr T.ka tk)) pss_nil)
      (pss_one (ps_dput (hu_of hr) (pe_fld (pv 0) rfl) (pe_tup (pa_cons (pe_callB (call_min2 rfl) (by rfl) T.min (by decide +kernel) (pa_cons (pv 1) (pa_cons (pv 2) pa_nil)))
        (pa_cons (pe_callB (call_max2 rfl) (by rfl) T.max (by decide +kernel) (pa_cons (pv 1) (pa_cons (pv 2) pa_nil))) pa_nil))) pe_bl rfl)), ?_⟩
    have nk : (hf n d).lookup ("know" : Str) = none := hf_no _ _ (by decide +kernel) (by decide +kernel)
    refine ⟨_, rfl, p, dx, _, rfl, hp, nk, _, rfl, _, rfl, p, d, n, L, y, z, rfl, hall, bad, same, ?_⟩
    intro i j ei ej hi hj nij H1 s1
    subst ei
    subst ej
    refine ⟨_, rfl, ite2 (fun c => ?_) (fun c => ?_)⟩
    · exact there i j rfl rfl hi hj nij (of_decide_eq_true c) _ s1
    have nin : nrm i j ∉ L := fun m => c (decide_eq_true m)
    have h1 := hall.same s1
    obtain ⟨dx1, hp1⟩ := h1.ins
    refine ⟨_, rfl, p, C, dx1, _, _, rfl, hp1, T.cl, T.nP, hf_pairs _ _, _, rfl, _, rfl, _, _, rfl, _, rfl, _, rfl, _, _, rfl, (by show 2 ≤ sizeLine; decide), fun t ht => ?_⟩
    have s2 := same_new (.tup [V.int (if (j : Int) < (i : Int) then (j : Int) else (i : Int)), V.int (if (j : Int) > (i : Int) then (j : Int) else (i : Int))]) ht
    have h2 := h1.same s2
    have key : upd H1 t (.tup [V.int (if (j : Int) < (i : Int) then (j : Int) else (i : Int)), V.int (if (j : Int) > (i : Int) then (j : Int) else (i : Int))]) t = some (.tup ((kP (nrm i j)).map kV)) := by
      rw [upd_same, kP_map, min_py, max_py]
      rfl
    have lenb : (kvs L).length < sizeLine := by
      rw [length_kvs]
      exact Nat.lt_of_le_of_lt (hall.wf.len hall.hi) (by decide)
    refine ⟨d, _, rfl, DPut.t (k := kP (nrm i j)) h2.dic key lenb, ?_⟩
    rw [put_kvs nin]
    obtain ⟨dx2, hp2⟩ := h2.ins
    refine good i j rfl rfl hi hj nij nin _ ?_ ⟨⟨dx2, by rw [upd_ne h2.ne]; exact hp2⟩, upd_same, hall.wf.snoc (nrm_ok nij hi hj) nin, hall.lo, hall.hi⟩
    exact (Keep.of [d] (s1.trans s2)).trans (Keep.put d _)
theorem sc_part : FnScope ["self", "one", "other"] ["self", "one", "other"] (defScope st_Hall_part) := ⟨rfl, rfl, rfl, by decide +kernel, rfl, by decide +kernel, by decide +kernel⟩
theorem ok_part {f : Addr} {fd : FuncData} (F : Fun K "part" "Hall.part" st_Hall_part f fd) (T : HT K mg C cNG cSG cKA cST cBH)
    (mK : MetD P w K mg base (L2N.CX P w) C 3 "know" (spKnow C cNG cSG)) :
    FnOk P w K mg base (L2N.CX P w) 4 f fd ["self", "one", "other"] (spPart C cNG cSG cST) := by
  refine okN F sc_part (fun vs H Q E h => ?_) (fun cdv A outer s H vs Q E hr h => ?_)
  · obtain ⟨p, d, n, L, y, z, rfl, _⟩ := h
    rfl
  · obtain ⟨p, d, n, L, y, z, rfl, hall, bad, same, there, good⟩ := h
    obtain ⟨dx, hp⟩ := hall.ins
    refine ⟨_, pss_cons (ps_if (pt_not (pt_val (pm (pv 0) T.cl mK hr px (pa_cons (pv 1) (pa_cons (pv 2) pa_nil))))) (pss_one (pr T.st tk)) pss_nil)
      (pss_one (ps_expr (pe_bm PySem.F.plainAttrs_dict PySem.F.slot_dict_pop PySem.F.type_dict_pop (mt_pop1 (hu_of hr)) (pe_fld (pv 0) rfl)
        (pa_cons (pe_tup (pa_cons (pe_callB (call_min2 rfl) (by rfl) T.min (by decide +kernel) (pa_cons (pv 1) (pa_cons (pv 2) pa_nil)))
        (pa_cons (pe_callB (call_max2 rfl) (by rfl) T.max (by decide +kernel) (pa_cons (pv 1) (pa_cons (pv 2) pa_nil))) pa_nil))) pa_nil)))), ?_⟩
    have nk : (hf n d).lookup ("know" : Str) = none := hf_no _ _ (by decide +kernel) (by decide +kernel)
    refine ⟨_, rfl, p, dx, _, rfl, hp, nk, _, rfl, _, rfl, p, d, n, L, y, z, rfl, hall, bad, same, ?_⟩
    intro i j ei ej hi hj nij H1 s1
    subst ei
    subst ej
    refine ⟨_, rfl, ite2 (fun c => ?_) (fun c => ?_)⟩
    · exact there i j rfl rfl hi hj nij (fun m => by rw [decide_eq_true m] at c; cases c) _ s1
    have isin : nrm i j ∈ L := by
      by_cases m : nrm i j ∈ L
      · exact m
      · exact absurd (by rw [decide_eq_false m] <;> rfl) c
    have h1 := hall.same s1
    obtain ⟨dx1, hp1⟩ := h1.ins
    refine ⟨_, rfl, p, C, dx1, _, _, rfl, hp1, T.cl, T.nP, hf_pairs _ _, .inr (.inr (.inl ⟨rfl, .inr ⟨_, h1.dic⟩⟩)), _, rfl, _, rfl, _, _, rfl, _, rfl, _, rfl, _, _, rfl, (by show 2 ≤ sizeLine; decide), fun t ht => ?_⟩
    have s2 := same_new (.tup [V.int (if (j : Int) < (i : Int) then (j : Int) else (i : Int)), V.int (if (j : Int) > (i : Int) then (j : Int) else (i : Int))]) ht
    have h2 := h1.same s2
    have key : upd H1 t (.tup [V.int (if (j : Int) < (i : Int) then (j : Int) else (i : Int)), V.int (if (j : Int) > (i : Int) then (j : Int) else (i : Int))]) t = some (.tup ((kP (nrm i j)).map kV)) := by
      rw [upd_same, kP_map, min_py, max_py]
      rfl
    refine ⟨d, _, kP (nrm i j), t, .bl true, rfl, rfl, h2.dic, key, by rw [valV_kvs, if_pos isin], ?_⟩
    rw [drop_kvs hall.wf.1]
    obtain ⟨dx2, hp2⟩ := h2.ins
    refine good i j rfl rfl hi hj nij isin _ ?_ ⟨⟨dx2, by rw [upd_ne h2.ne]; exact hp2⟩, upd_same, hall.wf.erase _, hall.lo, hall.hi⟩
    exact (Keep.of [d] (s1.trans s2)).trans (Keep.put d _)
end
end KT

/-! strangers -/
namespace KT
open PySem PySem.Spec PyProof.Rows L2
section
variable {P : Program} {w : World} {K : PySem.W.Frag} {mg : Str → Option Value} {base : Heap} {C cNG cSG cKA cST cBH : Addr}
theorem sc_strangers : FnScope ["self", "guest", "other"] ["self", "guest"] (defScope st_Hall_strangers) := ⟨rfl, rfl, rfl, by decide +kernel, rfl, by decide +kernel, by decide +kernel⟩
theorem ok_strangers {f : Addr} {fd : FuncData} (F : Fun K "strangers" "Hall.strangers" st_Hall_strangers f fd) (T : HT K mg C cNG cSG cKA cST cBH)
    (mS : MetD P w K mg base (L2N.CX P w) C 1 "see" (spSee C cNG)) (mK : MetD P w K mg base (L2N.CX P w) C 3 "know" (spKnow C cNG cSG)) :
    FnOk P w K mg base (L2N.CX P w) 4 f fd ["self", "guest"] (spOthers false C cNG) := by
  refine okN F sc_strangers (fun vs H Q E h => ?_) (fun cdv A outer s H vs Q E hr h => ?_)
  · obtain ⟨p, d, n, L, z, rfl, _⟩ := h
    rfl
  · obtain ⟨p, d, n, L, z, rfl, hall, bad, good⟩ := h
    obtain ⟨dx, hp⟩ := hall.ins
    refine ⟨_, pss_cons (ps_expr (pm (pv 0) T.cl mS hr px (pa_cons (pv 1) pa_nil)))
      (pss_one (ps_ret (pe_lc (own := [("other", 2)]) (g := gName 2) rfl sc_strangers.nd (pi_range1 rfl T.range (pa_cons (pe_fld (pv 0) rfl) pa_nil))
        (blkOk_by (own := [("other", 2)]) (N := ["self", "guest", "other"]) (sc := defScope st_Hall_strangers) (by decide +kernel)) (fun _ _ _ _ _ => pg_name (i := 2) sc_strangers.nd rfl (Or.inl rfl))
        (fun _ _ _ _ _ => pts_one (PW.pt (pw_and (pt_cmpR op_ne (pv 2) (pv 1) (nomark _)) (pw_and1 (pt_not (pt_val (pm (pv 0) T.cl mK hr passN (pa_cons (pv 1) (pa_cons (pv 2) pa_nil)))))))))
        (fun _ _ _ _ _ => pv 2)))), ?_⟩
    have ns : (hf n d).lookup ("see" : Str) = none := hf_no _ _ (by decide +kernel) (by decide +kernel)
    have nk : (hf n d).lookup ("know" : Str) = none := hf_no _ _ (by decide +kernel) (by decide +kernel)
    refine ⟨_, rfl, p, dx, _, rfl, hp, ns, _, rfl, p, d, n, L, z, rfl, hall, bad, fun gz => ?_⟩
    obtain ⟨g, rfl, hg⟩ := gz.nat
    have hn := hall.hi
    refine ⟨_, rfl, p, C, dx, _, _, rfl, hp, T.cl, T.nC, hf_count _ _, _, rfl, by omega, by omega, fun D hD => ?_⟩
    refine lc_range (lo := 0) (n := n) (fun i H' => Same H H' ∧ H' D = some (.lst (iV ((List.range i).filter (oth false L g))))) ⟨same_new _ hD, upd_same⟩ ?_ ?_
    · rintro i H1 hi ⟨s1, hl⟩
      rw [Int.zero_add]
      refine ⟨rfl, _, rfl, _, rfl, rfl, _, rfl, ?_⟩
      refine ite2 (fun c => ?_) (fun c => ?_)
      · have nig : i ≠ g := fun e => by
          rw [e] at c
          simp at c
        have h1 := hall.same s1
        obtain ⟨dx1, hp1⟩ := h1.ins
        refine ⟨_, rfl, p, dx1, _, rfl, hp1, nk, _, rfl, _, rfl, p, d, n, L, (g : Int), (i : Int), rfl, h1, fun b => b ⟨isG.of hg, isG.of hi⟩, fun _ _ e => nig (by omega), ?_⟩
        intro i' j' ei ej _ _ _ H2 s2
        have ei : g = i' := by omega
        have ej : i = j' := by omega
        subst ei
        subst ej
        have hl2 := s2 _ _ hl
        refine ⟨_, rfl, ite2 (fun c2 => ?_) (fun c2 => ?_)⟩
        · refine ⟨_, rfl, _, hl2, iV_line (by omega), same_keepNew (s1.trans s2) hD (Keep.put D _), ?_⟩
          rw [upd_same, filter_yes (oth_iff.mpr ⟨nig, by simpa using c2⟩), iV_snoc]
        · refine ⟨s1.trans s2, ?_⟩
          rw [filter_no (fun z => c2 (by simpa using (oth_iff.mp z).2))]
          exact hl2
      · refine ⟨s1, ?_⟩
        rw [filter_no (fun z => c (by simpa using (show ¬ (i : Int) = (g : Int) from fun e => (oth_iff.mp z).1 (by omega))))]
        exact hl
    · rintro H1 ⟨s1, hl⟩
      exact good g rfl hg _ D s1 hD hl
end
end KT

/-! turned -/
namespace KT
open PySem PySem.Spec PyProof.Rows L2
section
variable {P : Program} {w : World} {K : PySem.W.Frag} {mg : Str → Option Value} {base : Heap} {C cNG cSG cKA cST cBH : Addr}
theorem sc_turned : FnScope ["hall", "made", "one", "other"] ["hall"] (defScope st_turned) := ⟨rfl, rfl, rfl, by decide +kernel, rfl, by decide +kernel, by decide +kernel⟩
theorem ok_turned {f : Addr} {fd : FuncData} (F : Fun K "turned" "turned" st_turned f fd) (T : HT K mg C cNG cSG cKA cST cBH)
    (mkH : MakD P w K mg base (L2N.CX P w) C 1 "Hall" (spInit C cBH)) (mN : MetD P w K mg base CX0 C 1 "many" (spMany C)) (mSt : MetD P w K mg base (L2N.CX P w) C 4 "strangers" (spOthers false C cNG)) (mM : MetD P w K mg base (L2N.CX P w) C 4 "meet" (spMeet C cNG cSG cKA)) :
    FnOk P w K mg base CX0 5 f fd ["hall"] (spTurned C) := by
  refine F.ok sc_turned (fun vs H Q E h => ?_) (fun cdv A outer s H vs Q E hr h => ?_)
  · obtain ⟨p, d, n, L, rfl, _⟩ := h
    rfl
  · obtain ⟨p, d, n, L, rfl, hall, q⟩ := h
    have n1 := hall.lo
    have n20 := hall.hi
    refine ⟨_, pss_cons (ps_set (i := 1) sc_turned.nd rfl (Or.inl rfl) (pk mkH hr passN (pa_cons (pm0 (pv 0) T.cl mN hr pass0) pa_nil)))
      (pss_cons (ps_for PassesOwn.never rfl (pi_range1 (by rfl) T.range (pa_cons (pm0 (pv 0) T.cl mN hr pass0) pa_nil)) (pg_name (i := 2) sc_turned.nd rfl (Or.inl rfl))
        (pss_one (ps_for PassesOwn.never rfl (pi_list (pm (pv 0) T.cl mSt hr passN (pa_cons (pv 2) pa_nil))) (pg_name (i := 3) sc_turned.nd rfl (Or.inl rfl))
          (pss_one (ps_if (pt_cmpR op_lt (pv 2) (pv 3) (nomark _)) (pss_one (ps_expr (pm (pv 1) T.cl mM hr passN (pa_cons (pv 2) (pa_cons (pv 3) pa_nil))))) pss_nil)))))
      (pss_one (ps_ret (pv 1)))), ?_⟩
    refine r_many (rv rfl) hall ?_
    refine make_hall (z := (n : Int)) (fun b => absurd ⟨by omega, by omega⟩ b) ?_
    intro n' en _ _ H1 x d' hx hd s1 hall1
    have en : n = n' := by omega
    subst en
    refine r_many (rv rfl) (hall.same s1) ?_
    refine ⟨(n : Int), rfl, by omega, by omega, for_range (lo := 0) (n := n) (fun i σ H' => ∃ v2 v3, σ = [some (.ref p), some (.ref x), v2, v3] ∧ Same H H' ∧ HallAt C H' x n d' (cmpTo n L i)) ⟨none, none, rfl, s1, hall1⟩ ?_ ?_⟩
    · rintro g σ H2 hg ⟨v2, v3, rfl, s2, hall2⟩
      rw [Int.zero_add]
      refine r_strangers (rv rfl) (rv rfl) (hall.same s2) hg fun H3 l s3 nl h3 => ?_
      have nd : (others false n L g).Nodup := (List.nodup_range).sublist (List.filter_sublist)
      have nl2 : H l = none := s2.free nl
      refine ⟨l, rfl, ⟨_, SqL.of h3⟩, for_list (K := K) (a := l) (xs := iV (others false n L g)) (fun i σ H' => ∃ v3, σ = [some (.ref p), some (.ref x), some (.int (g : Int)), v3] ∧ Same H H' ∧ H' l = some (.lst (iV (others false n L g))) ∧
        HallAt C H' x n d' (cmpTo n L g ++ (((others false n L g).take i).filter fun j => decide (g < j)).map fun j => (g, j))) ⟨_, rfl, s2.trans s3, h3, by
          rw [List.take_zero, List.filter_nil, List.map_nil, List.append_nil]
          exact hall2.same s3⟩ (fun i σ H' _ ⟨_, _, _, e, _⟩ => SqL.of e) ?_ ?_⟩
      · rintro i v σ H4 hi ⟨v3, rfl, s4, h4, hall4⟩
        obtain ⟨o, ho, rfl⟩ : ∃ o : Nat, (others false n L g)[i]? = some o ∧ v = V.int (o : Int) := by
          unfold iV at hi
          rw [List.getElem?_map] at hi
          cases e : (others false n L g)[i]? with
          | none =>
            rw [e] at hi
            cases hi
          | some u =>
            rw [e] at hi
            exact ⟨u, rfl, (Option.some.inj hi).symm⟩
        have mo := List.mem_of_getElem? ho
        unfold others at mo
        simp only [List.mem_filter, List.mem_range, oth_iff, decide_eq_false_iff_not] at mo
        obtain ⟨on, og, onr⟩ := mo
        refine ⟨_, rfl, _, rfl, _, _, rfl, rfl, _, rfl, ite2 (fun c => ?_) (fun c => ?_)⟩
        · have c : g < o := by
            have := of_decide_eq_true c
            omega
          have nin : nrm g o ∉ cmpTo n L g ++ (((others false n L g).take i).filter fun j => decide (g < j)).map fun j => (g, j) := by
            rw [nrm_lt c, List.mem_append, mem_cmpTo]
            rintro (z | z)
            · omega
            · obtain ⟨a, ha, e⟩ := List.mem_map.mp z
              injection e with e1 e2
              subst e2
              exact take_notin nd ho (List.mem_filter.mp ha).1
          refine r_meet (rv rfl) (rv rfl) (rv rfl) hall4 hg on (by omega) nin fun H5 k5 hall5 => ?_
          refine ⟨_, rfl, same_keepNew s4 hd k5, k5.at1 (ne_of h4 hall4.dic (fun z => nomatch z)) h4, ?_⟩
          rw [take_more ho, List.filter_append, List.map_append, ← List.append_assoc, List.filter_cons_of_pos (by rw [decide_eq_true c])]
          rw [nrm_lt c] at hall5
          exact hall5
        · have c : ¬ g < o := by
            have := c
            simp at this
            omega
          refine ⟨_, rfl, s4, h4, ?_⟩
          rw [take_more ho, List.filter_append, List.filter_cons_of_neg (by rw [decide_eq_false c]; exact fun z => Bool.noConfusion z), List.filter_nil, List.append_nil]
          exact hall4
      · rintro σ H4 ⟨v3, rfl, s4, h4, hall4⟩
        refine ⟨_, _, rfl, s4, ?_⟩
        have e : (others false n L g).take (iV (others false n L g)).length = others false n L g := by
          unfold iV
          rw [List.length_map, List.take_length]
        rw [e] at hall4
        unfold cmpTo
        rw [flat_step]
        exact hall4
    · rintro σ H2 ⟨v2, v3, rfl, s2, hall2⟩
      exact ⟨_, rfl, q _ x d' s2 hx hd hall2⟩
end
end KT

/-! grown, crowd, unknown_crowd -/
namespace KT
open PySem PySem.Spec PyProof.Rows L2
theorem filt1' {α : Type} {f : α → Bool} {x : α} (h : f x = true) : List.filter f [x] = [x] := by
  rw [List.filter_cons_of_pos h]
  rfl
theorem filt0' {α : Type} {f : α → Bool} {x : α} (h : ¬ f x = true) : List.filter f [x] = [] := by
  rw [List.filter_cons_of_neg h]
  rfl
theorem take_filt {f : Nat → Bool} {l : List Nat} {i x : Nat} (h : l[i]? = some x) : (l.take (i + 1)).filter f = (l.take i).filter f ++ (if f x = true then [x] else []) := by
  rw [List.take_add_one, h, List.filter_append]
  congr 1
  by_cases c : f x = true
  · rw [if_pos c]
    exact filt1' c
  · rw [if_neg c]
    exact filt0' c
section
variable {P : Program} {w : World} {K : PySem.W.Frag} {mg : Str → Option Value} {base : Heap} {C cNG cSG cKA cST cBH : Addr}
theorem sc_grown : FnScope ["hall", "begun", "rest", "best", "place", "guest", "behind", "found", "other"] ["hall", "begun", "rest"] (defScope st_grown) := ⟨rfl, rfl, rfl, by decide +kernel, rfl, by decide +kernel, by decide +kernel⟩
theorem step_grown {f : Addr} {fd : FuncData} (F : Fun K "grown" "grown" st_grown f fd) (T : HT K mg C cNG cSG cKA cST cBH) (henum : mg "enumerate" = none) (mK : MetD P w K mg base (L2N.CX P w) C 3 "know" (spKnow C cNG cSG)) (m : Nat)
    (cG : CalD P w K mg base CX0 (4 + m) "grown" (spGrown C m)) : FnOk P w K mg base CX0 (4 + m + 1) f fd ["hall", "begun", "rest"] (spGrown C (m + 1)) := by
  refine F.ok sc_grown (fun vs H Q E h => ?_) (fun cdv A outer s H vs Q E hr h => ?_)
  · obtain ⟨p, b, q, d, n, L, begun, rest, rfl, _⟩ := h
    rfl
  · obtain ⟨p, b, q, d, n, L, begun, rest, rfl, hall, hb, hq, lm, gn, nd, l40, k⟩ := h
    have hk3 : 3 ≤ 4 + m := by omega
    refine ⟨_, pss_cons (ps_set (i := 3) sc_grown.nd rfl (Or.inl rfl) (pv 1))
      (pss_cons (ps_for PassesOwn.never rfl (pi_enum (by rfl) henum (pa_cons (pv 2) pa_nil)) (pg_tup rfl (pgs_cons (pg_name (i := 4) sc_grown.nd rfl (Or.inl rfl)) (pgs_cons (pg_name (i := 5) sc_grown.nd rfl (Or.inr rfl)) pgs_nil)))
        (pss_one (ps_if (pt_cmpR op_gt (pe_op op_sub (pe_op op_add (pe_callB call_len_seq (by rfl) T.len PySem.boot_len (pa_cons (pv 1) pa_nil)) (pe_callB call_len_seq (by rfl) T.len PySem.boot_len (pa_cons (pv 2) pa_nil))) (pv 4)) (pe_callB call_len_seq (by rfl) T.len PySem.boot_len (pa_cons (pv 3) pa_nil)) (nomark _))
          (pss_cons (ps_setLc (i := 6) (own := [("other", 8)]) (g := gName 8) (by rfl) sc_grown.nd rfl rfl (sw_true rfl rfl rfl (by decide +kernel))
              (pi_list (pe_slice sl_list (pv 2) (po_some (pe_op op_add (pv 4) pe_int)) po_none)) (blkOk_by (own := [("other", 8)]) (N := ["hall", "begun", "rest", "best", "place", "guest", "behind", "found", "other"]) (sc := defScope st_grown) (by decide +kernel))
              (fun _ _ _ _ _ => pg_name (i := 8) sc_grown.nd rfl (Or.inl rfl)) (fun _ _ _ _ _ => pts_one (pt_val (pm (pv 0) T.cl mK hr passN (pa_cons (pv 5) (pa_cons (pv 8) pa_nil)) (hk := hk3)))) (fun _ _ _ _ _ => pv 8))
          (pss_cons (ps_set (i := 7) sc_grown.nd rfl (Or.inl rfl) (pc cG hr pass0 (pa_cons (pv 0) (pa_cons (pe_op op_cat (pv 1) (pe_lst (pa_cons (pv 5) pa_nil))) (pa_cons (pv 6) pa_nil))) (hk := Nat.le_refl _)))
          (pss_one (ps_if (pt_cmpR op_gt (pe_callB call_len_seq (by rfl) T.len PySem.boot_len (pa_cons (pv 7) pa_nil)) (pe_callB call_len_seq (by rfl) T.len PySem.boot_len (pa_cons (pv 3) pa_nil)) (nomark _)) (pss_one (ps_set (i := 3) sc_grown.nd rfl (Or.inl rfl) (pv 7))) pss_nil)))) pss_nil)))
      (pss_one (ps_ret (pv 3)))), ?_⟩
    refine ⟨_, rfl, _, rfl, q, _, rfl, SqL.of hq, for_enum (K := K) (a := q) (xs := iV rest) (fun i σ H' => ∃ (a : Addr) (r : List Nat) (v4 v5 v6 v7 : Option V), σ = [some (.ref p), some (.ref b), some (.ref q), some (.ref a), v4, v5, v6, v7, none] ∧ Same H H' ∧ (H a = none ∨ a = b) ∧ H' a = some (.lst (iV r)) ∧ BestTo L begun rest r i)
      ⟨b, begun, none, none, none, none, rfl, Same.refl _, .inr rfl, hb, bestTo_zero L begun rest⟩ (fun i σ H' _ ⟨_, _, _, _, _, _, _, s1, _⟩ => SqL.of (s1 _ _ hq)) ?_ ?_⟩
    · rintro i v σ H1 T0 hi ⟨a, r, v4, v5, v6, v7, rfl, s1, na, ha, bt⟩ nT
      obtain ⟨g, hg, rfl⟩ := iV_get hi
      have il := (List.getElem?_eq_some_iff.mp hg).1
      have gm := List.mem_of_getElem? hg
      have sT := same_new (.tup [V.int (i : Int), V.int (g : Int)]) nT
      refine ⟨T0, _, rfl, SqT.of upd_same, rfl, _, _, rfl, _, _, rfl, rfl, ?_⟩
      generalize upd H1 T0 (.tup [V.int (i : Int), V.int (g : Int)]) = H2 at sT
      have s2 := s1.trans sT
      have ha2 := sT _ _ ha
      have hb2 := s2 _ _ hb
      have hq2 := s2 _ _ hq
      have rl : r.length = r.length := rfl
      refine ⟨_, rfl, b, _, rfl, .inl (SqL.of hb2), _, rfl, q, _, rfl, .inl (SqL.of hq2), _, _, rfl, rfl, _, rfl, _, _, rfl, rfl, _, rfl, a, _, rfl, .inl (SqL.of ha2), _, _, rfl, rfl, _, rfl, ite2 (fun c => ?_) (fun c => ?_)⟩
      · have c := of_decide_eq_true c
        rw [iV_len, iV_len, iV_len] at c
        refine ⟨_, rfl, _, rfl, _, _, rfl, rfl, _, rfl, q, _, rfl, SqL.of hq2, fun w0 nw0 => ?_⟩
        have ec : cutV (iV rest) (some ((i : Int) + 1)) none = iV (rest.drop (i + 1)) := cut_iV rest (k := i + 1) (by omega)
        rw [ec]
        have s3 := same_new (.lst (iV (rest.drop (i + 1)))) nw0
        have hw : upd H2 w0 (.lst (iV (rest.drop (i + 1)))) w0 = some (.lst (iV (rest.drop (i + 1)))) := upd_same
        generalize upd H2 w0 (.lst (iV (rest.drop (i + 1)))) = H3 at s3 hw
        have S3 := s2.trans s3
        refine ⟨w0, rfl, ⟨_, SqL.of hw⟩, fun D hD => ?_⟩
        have gn' := gn g gm
        refine lc_list (K := K) (a := w0) (xs := iV (rest.drop (i + 1))) (fun j H' => Same H3 H' ∧ H' D = some (.lst (iV (((rest.drop (i + 1)).take j).filter fun o => decide (nrm g o ∈ L))))) ⟨same_new _ hD, upd_same⟩ (fun j H' _ ⟨s4, _⟩ => SqL.of (s4 _ _ hw)) ?_ ?_
        · rintro j v H4 hj ⟨s4, h4⟩
          obtain ⟨o, ho, rfl⟩ := iV_get hj
          have om : o ∈ rest := List.mem_of_mem_drop (List.mem_of_getElem? ho)
          have go : g ≠ o := by
            rw [List.getElem?_drop] at ho
            intro e
            subst e
            refine take_notin nd ho (List.mem_of_getElem? (i := i) ?_)
            rw [List.getElem?_take_of_lt (by omega)]
            exact hg
          refine ⟨rfl, ?_⟩
          refine r_know (rv rfl) (rv rfl) (rv rfl) (hall.same (S3.trans s4)) gn' (gn o om) go fun H5 s5 => ?_
          have h5 := s5 _ _ h4
          refine ⟨_, rfl, ite2 (fun c2 => ?_) (fun c2 => ?_)⟩
          · refine ⟨_, rfl, _, h5, ?_, same_keepNew (s4.trans s5) hD (Keep.put D _), ?_⟩
            · rw [iV_len]
              refine Nat.lt_of_le_of_lt (List.length_filter_le _ _) (Nat.lt_of_le_of_lt (List.length_take_le' _ _) (Nat.lt_of_le_of_lt (m := 40) ?_ (by decide)))
              rw [List.length_drop]
              omega
            · rw [upd_same, take_filt ho, if_pos c2, iV_snoc]
          · refine ⟨s4.trans s5, ?_⟩
            rw [take_filt ho, if_neg c2, List.append_nil]
            exact h5
        · rintro H4 ⟨s4, h4⟩
          rw [iV_len, List.take_length] at h4
          have S4 := S3.trans s4
          refine ⟨_, rfl, _, rfl, _, rfl, (by show 1 ≤ sizeLine; decide), fun t1 ht1 => ?_⟩
          have st1 := same_new (.lst [V.int (g : Int)]) ht1
          refine ⟨b, t1, _, _, rfl, rfl, st1 _ _ (S4 _ _ hb), upd_same, ?_, fun t2 ht2 => ?_⟩
          · rw [iV_len]
            exact Nat.le_trans (m := 100) (by show begun.length + 1 ≤ 100; omega) (by decide)
          rw [← iV_snoc] at *
          have st2 := st1.trans (same_new (.lst (iV (begun ++ [g]))) ht2)
          have h6 : upd (upd H4 t1 (.lst [V.int (g : Int)])) t2 (.lst (iV (begun ++ [g]))) t2 = some (.lst (iV (begun ++ [g]))) := upd_same
          generalize upd (upd H4 t1 (.lst [V.int (g : Int)])) t2 (.lst (iV (begun ++ [g]))) = H6 at st2 h6
          have S6 := S4.trans st2
          have dl : (rest.drop (i + 1)).length < rest.length := by
            rw [List.length_drop]
            omega
          have fl := List.length_filter_le (fun o => decide (nrm g o ∈ L)) (rest.drop (i + 1))
          have nt2 : H t2 = none := S4.free (st1.free ht2)
          refine ⟨_, rfl, p, t2, D, d, n, L, begun ++ [g], (rest.drop (i + 1)).filter (fun o => decide (nrm g o ∈ L)), rfl, hall.same S6, h6, st2 _ _ h4, by omega, fun x hx => gn x (List.mem_of_mem_drop (List.mem_filter.mp hx).1), (nd.sublist (List.drop_sublist _ _)).sublist List.filter_sublist, ?_, fun H7 a7 f7 s7 na7 h7 b7 => ?_⟩
          · rw [List.length_append, List.length_singleton]
            omega
          have S7 := S6.trans s7
          have ha7 : H7 a = some (.lst (iV r)) := s7 _ _ (st2 _ _ (s4 _ _ (s3 _ _ ha2)))
          have na7' : H a7 = none ∨ a7 = b := by
            rcases na7 with e | e
            · exact .inl (S6.free e)
            · exact .inl (by rw [e]; exact nt2)
          refine ⟨_, rfl, a7, _, rfl, .inl (SqL.of h7), _, rfl, a, _, rfl, .inl (SqL.of ha7), _, _, rfl, rfl, _, rfl, ite2 (fun c3 => ?_) (fun c3 => ?_)⟩
          · have c3 := of_decide_eq_true c3
            rw [iV_len, iV_len] at c3
            exact ⟨_, rfl, a7, f7, _, _, _, _, rfl, S7, na7', h7, bestTo_better bt hg b7 (by omega)⟩
          · have c3 : ¬ (((iV f7).length : Int) > ((iV r).length : Int)) := fun z => c3 (decide_eq_true z)
            rw [iV_len, iV_len] at c3
            exact ⟨a, r, _, _, _, _, rfl, S7, na, ha7, bestTo_same bt hg b7 (by omega)⟩
      · have c : ¬ (((iV begun).length : Int) + ((iV rest).length : Int) - (i : Int) > ((iV r).length : Int)) := fun z => c (decide_eq_true z)
        rw [iV_len, iV_len, iV_len] at c
        exact ⟨a, r, _, _, _, _, rfl, s2, na, ha2, bestTo_skip bt hg (by omega)⟩
    · rintro σ H1 ⟨a, r, v4, v5, v6, v7, rfl, s1, na, ha, bt⟩
      rw [iV_len] at bt
      exact ⟨_, rfl, k _ a r s1 na ha (bestTo_end bt)⟩
/-- by the length of the rest -/
theorem ok_grown {f : Addr} {fd : FuncData} (F : Fun K "grown" "grown" st_grown f fd) (T : HT K mg C cNG cSG cKA cST cBH) (hb : Binds K fd ["hall", "begun", "rest"] []) (hm : mg "grown" = some (.ref f)) (kp : PySem.W.keepIn K (.ref f) = true) (henum : mg "enumerate" = none)
    (mK : MetD P w K mg base (L2N.CX P w) C 3 "know" (spKnow C cNG cSG)) : ∀ m : Nat, FnOk P w K mg base CX0 (4 + m) f fd ["hall", "begun", "rest"] (spGrown C m)
  | 0 => by
    refine F.ok (k := 3) sc_grown (fun vs H Q E h => ?_) (fun cdv A outer s H vs Q E hr h => ?_)
    · obtain ⟨p, b, q, d, n, L, begun, rest, rfl, _⟩ := h
      rfl
    · obtain ⟨p, b, q, d, n, L, begun, rest, rfl, hall, hb, hq, lm, _⟩ := h
      exact absurd lm (Nat.not_lt_zero _)
  | m + 1 => step_grown F T henum mK m ⟨f, fd, _, ok_grown F T hb hm kp henum mK m, hb, hm, kp⟩
theorem sc_crowd : FnScope ["hall"] ["hall"] (defScope st_crowd) := ⟨rfl, rfl, rfl, by decide +kernel, rfl, by decide +kernel, by decide +kernel⟩
theorem ok_crowd {f : Addr} {fd : FuncData} (F : Fun K "crowd" "crowd" st_crowd f fd) (T : HT K mg C cNG cSG cKA cST cBH) (hlist : mg "list" = none) (mN : MetD P w K mg base CX0 C 1 "many" (spMany C)) (cG : CalD P w K mg base CX0 25 "grown" (spGrown C 21)) :
    FnOk P w K mg base CX0 26 f fd ["hall"] (spCrowd C) := by
  refine F.ok sc_crowd (fun vs H Q E h => ?_) (fun cdv A outer s H vs Q E hr h => ?_)
  · obtain ⟨p, d, n, L, rfl, _⟩ := h
    rfl
  · obtain ⟨p, d, n, L, rfl, hall, k⟩ := h
    have n20 := hall.hi
    refine ⟨_, pss_one (ps_ret (pc cG hr pass0 (pa_cons (pv 0) (pa_cons (pe_lst pa_nil) (pa_cons (pe_listRg (by rfl) (by rfl) hlist (prg_1 (by rfl) T.range (pm0 (pv 0) T.cl mN hr pass0))) pa_nil))))), ?_⟩
    refine ⟨_, rfl, Nat.zero_le _, fun b nb => ?_⟩
    have s1 := same_new (.lst []) nb
    have hb : upd H b (.lst []) b = some (.lst (iV [])) := upd_same
    generalize upd H b (.lst []) = H1 at s1 hb
    refine r_many (rv rfl) (hall.same s1) ⟨_, rfl, RgOk.of_le (by decide) (by omega) (by decide) (by omega), fun q nq => ?_⟩
    rw [rg_iV]
    have s2 := same_new (.lst (iV (List.range n))) nq
    have hq : upd H1 q (.lst (iV (List.range n))) q = some (.lst (iV (List.range n))) := upd_same
    generalize upd H1 q (.lst (iV (List.range n))) = H2 at s2 hq
    refine ⟨p, b, q, d, n, L, [], List.range n, rfl, hall.same (s1.trans s2), s2 _ _ hb, hq, by rw [List.length_range]; omega, fun g hg => List.mem_range.mp hg, List.nodup_range, by rw [List.length_range]; show 0 + n ≤ 40; omega, fun H3 a r s3 na h3 bst => ?_⟩
    refine k _ a r ((s1.trans s2).trans s3) ?_ h3 bst
    rcases na with e | e
    · exact (s1.trans s2).free e
    · rw [e]
      exact nb
theorem sc_unknown : FnScope ["hall"] ["hall"] (defScope st_unknown_crowd) := ⟨rfl, rfl, rfl, by decide +kernel, rfl, by decide +kernel, by decide +kernel⟩
theorem ok_unknown {f : Addr} {fd : FuncData} (F : Fun K "unknown_crowd" "unknown_crowd" st_unknown_crowd f fd) (cC : CalD P w K mg base CX0 26 "crowd" (spCrowd C)) (cT : CalD P w K mg base CX0 5 "turned" (spTurned C)) :
    FnOk P w K mg base CX0 27 f fd ["hall"] (spUnknown C) := by
  refine F.ok sc_unknown (fun vs H Q E h => ?_) (fun cdv A outer s H vs Q E hr h => ?_)
  · obtain ⟨p, d, n, L, rfl, _⟩ := h
    rfl
  · obtain ⟨p, d, n, L, rfl, hall, k⟩ := h
    refine ⟨_, pss_one (ps_ret (pc cC hr pass0 (pa_cons (pc cT hr pass0 (pa_cons (pv 0) pa_nil)) pa_nil))), ?_⟩
    refine ⟨_, rfl, p, d, n, L, rfl, hall, fun H1 x d1 s1 nx nd1 hall1 => ?_⟩
    exact ⟨x, d1, n, _, rfl, hall1, fun H2 a r s2 na h2 b => k _ a r (s1.trans s2) (s1.free na) h2 b⟩
end
end KT

/-! the law's defs: a cell -/
namespace KT
open PySem PySem.Spec PyProof.Rows L2
section
variable {P : Program} {w : World} {K : PySem.W.Frag} {mg : Str → Option Value} {base : Heap} {C cNG cSG cKA cST cBH : Addr}
theorem sc_cell : FnScope ["script", "k"] ["script", "k"] (defScope st_l_cell_at) := ⟨rfl, rfl, rfl, by decide +kernel, rfl, by decide +kernel, by decide +kernel⟩
theorem ok_cell {f : Addr} {fd : FuncData} (F : Fun K "_law_cell_at" "_law_cell_at" st_l_cell_at f fd) (hlen : mg "len" = none) :
    FnOk P w K mg base CX0 1 f fd ["script", "k"] (spCell K) := by
  refine F.ok sc_cell (fun vs H Q E h => ?_) (fun cdv A outer s H vs Q E hr h => ?_)
  · obtain ⟨a, ns, k, rfl, _⟩ := h
    rfl
  · obtain ⟨a, ns, k, rfl, hS, q⟩ := h
    refine ⟨_, pss_cons (ps_if (pt_cmpR op_lt (pv 1) (pe_callB call_len_seq (by rfl) hlen PySem.boot_len (pa_cons (pv 0) pa_nil)) (nomark _)) (pss_one (ps_ret (pe_ix ix_list (pv 0) (pv 1) (fun _ _ => rfl)))) pss_nil) (pss_one (ps_ret pe_int)), ?_⟩
    refine ⟨_, rfl, _, rfl, a, _, rfl, .inl hS, _, _, rfl, rfl, _, rfl, ite2 (fun c => ?_) (fun c => ?_)⟩
    · have hk : k < ns.length := by
        have := of_decide_eq_true c
        rw [List.length_map] at this
        omega
      refine ⟨_, rfl, _, rfl, a, _, _, _, rfl, rfl, hS, atI_nat (v := V.int (ns.getD k 0)) ?_, q⟩
      rw [List.getElem?_map, List.getD_eq_getElem?_getD, List.getElem?_eq_getElem hk]
      rfl
    · have hk : ns.length ≤ k := by
        have z : ¬ ((k : Int) < ((ns.map V.int).length : Nat)) := of_decide_eq_false (by simpa using c)
        rw [List.length_map] at z
        omega
      have e : ns.getD k 0 = 0 := by
        rw [List.getD_eq_getElem?_getD, List.getElem?_eq_none hk]
        rfl
      rw [e] at q
      exact q
end
end KT

/-! the law's defs: a cell, a whole number, how many, the pairs -/
namespace KT
open PySem PySem.Spec PyProof.Rows L2
section
variable {P : Program} {w : World} {K : PySem.W.Frag} {mg : Str → Option Value} {base : Heap} {C cNG cSG cKA cST cBH : Addr}
theorem sc_pairs : FnScope ["script", "first", "many", "pairs", "guest", "digits", "other"] ["script", "first", "many"] (defScope st_l_pairs_by) := ⟨rfl, rfl, rfl, by decide +kernel, rfl, by decide +kernel, by decide +kernel⟩
theorem ok_pairs {f : Addr} {fd : FuncData} (F : Fun K "_law_pairs_by" "_law_pairs_by" st_l_pairs_by f fd) (hrange : mg "range" = none) (hsorted : mg "sorted" = none)
    (cC : CalD P w K mg base CX0 1 "_law_cell_at" (spCell K)) :
    FnOk P w K mg base CX0 2 f fd ["script", "first", "many"] (spPairsBy K) := by
  refine F.ok sc_pairs (fun vs H Q E h => ?_) (fun cdv A outer s H vs Q E hr h => ?_)
  · obtain ⟨a, ns, first, n, rfl, _⟩ := h
    rfl
  · obtain ⟨a, ns, first, n, rfl, hS, n1, n20, q⟩ := h
    refine ⟨_, pss_cons (ps_set (i := 3) sc_pairs.nd rfl (Or.inl rfl) (pe_lst pa_nil))
      (pss_cons (ps_for PassesOwn.never rfl (pi_range2 (by rfl) hrange (pa_cons pe_int (pa_cons (pv 2) pa_nil))) (pg_name (i := 4) sc_pairs.nd rfl (Or.inl rfl))
        (pss_cons (ps_set (i := 5) sc_pairs.nd rfl (Or.inl rfl) (pc cC hr pass0 (pa_cons (pv 0) (pa_cons (pe_op op_sub (pe_op op_add (pv 1) (pv 4)) pe_int) pa_nil))))
          (pss_one (ps_for PassesOwn.never rfl (pi_range1 (by rfl) hrange (pa_cons (pv 4) pa_nil)) (pg_name (i := 6) sc_pairs.nd rfl (Or.inl rfl))
            (pss_cons (ps_if (pt_cmpR op_eq (pe_op op_mod (pv 5) pe_int) pe_int (nomark _))
              (pss_one (ps_expr (pe_bm PySem.F.plainAttrs_list PySem.F.slot_list_append PySem.F.type_list_append mt_append (pv 3) (pa_cons (pe_tup (pa_cons (pv 6) (pa_cons (pv 4) pa_nil))) pa_nil)))) pss_nil)
              (pss_one (ps_set (i := 5) sc_pairs.nd rfl (Or.inl rfl) (pe_op op_fdiv (pv 5) pe_int))))))))
      (pss_one (ps_ret (pe_callB cr_sortedPO (by rfl) hsorted (by decide +kernel) (pa_cons (pv 3) pa_nil))))), ?_⟩
    refine ⟨Nat.zero_le _, fun l hl => ?_⟩
    have s0 : Same H (upd H l (.lst [])) := same_new _ hl
    refine ⟨_, rfl, 1, (n : Int), rfl, ⟨by omega, by omega, by omega, by omega⟩, for_range (lo := 1) (n := ((n : Int) - 1).toNat)
      (fun i σ H' => ∃ (E : List Pr) (xs : List V) (v4 v5 v6 : Option V), σ = [some (.ref a), some (.int (first : Int)), some (.int (n : Int)), some (.ref l), v4, v5, v6] ∧ Same H H' ∧ H' l = some (.lst xs) ∧ PairVs H' xs E ∧
        WF (1 + i) E) ⟨[], [], none, none, none, rfl, s0, upd_same, .nil, WF.nil _⟩ ?_ ?_⟩
    · rintro i σ H1 hi ⟨E, xs, v4, v5, v6, rfl, s1, hl1, r1, wf1⟩
      have ei : (1 : Int) + (i : Int) = ((1 + i : Nat) : Int) := by omega
      rw [ei]
      refine ⟨_, rfl, _, rfl, _, rfl, _, _, rfl, rfl, _, _, rfl, rfl, a, ns, first + i, ?_, s1.seq hS, ?_⟩
      · show [V.ref a, V.int ((first : Int) + ((1 + i : Nat) : Int) - 1)] = [V.ref a, V.int ((first + i : Nat) : Int)]
        have e : (first : Int) + ((1 + i : Nat) : Int) - 1 = ((first + i : Nat) : Int) := by omega
        rw [e]
      refine ⟨_, rfl, _, rfl, by omega, by omega, for_range (lo := 0) (n := 1 + i)
        (fun j σ H' => ∃ (E : List Pr) (xs : List V) (z : Int) (v6 : Option V), σ = [some (.ref a), some (.int (first : Int)), some (.int (n : Int)), some (.ref l), some (.int ((1 + i : Nat) : Int)), some (.int z), v6] ∧ Same H H' ∧ H' l = some (.lst xs) ∧ PairVs H' xs E ∧
          E.Nodup ∧ ∀ p ∈ E, p.1 < p.2 ∧ (p.2 < 1 + i ∨ (p.2 = 1 + i ∧ p.1 < j))) ?_ ?_ ?_⟩
      · exact ⟨E, xs, _, v6, rfl, s1, hl1, r1, wf1.1, fun p hp => ⟨(wf1.2 p hp).1, .inl (wf1.2 p hp).2⟩⟩
      · rintro j σ H2 hj ⟨E2, xs2, z, v6, rfl, s2, hl2, r2, nd2, wf2⟩
        rw [Int.zero_add]
        have wf2' : WF n E2 := ⟨nd2, fun p hp => ⟨(wf2 p hp).1, by have := (wf2 p hp).2; omega⟩⟩
        have len2 : xs2.length ≤ 400 := by
          have := wf2'.len n20
          have := Paired.length r2
          omega
        refine ⟨_, rfl, _, _, rfl, rfl, (by show (0 : Int) < 2; decide), rfl, _, rfl, ite2 (fun c => ?_) (fun c => ?_)⟩
        · refine ⟨_, rfl, .inl ⟨rfl, _, SqL.of hl2⟩, _, rfl, _, rfl, (by show 2 ≤ sizeLine; decide), fun t ht => ?_⟩
          have ntl : l ≠ t := ne_of_none hl2 ht
          refine ⟨l, xs2, _, rfl, rfl, (by rw [upd_ne ntl]; exact hl2), Nat.lt_of_le_of_lt len2 (by decide), ?_⟩
          refine ⟨_, rfl, _, _, rfl, rfl, ⟨by decide, by decide⟩, ?_⟩
          have nin : (j, 1 + i) ∉ E2 := fun m => by
            have := (wf2 _ m).2
            simp only at this
            omega
          refine ⟨E2 ++ [(j, 1 + i)], xs2 ++ [.ref t], _, _, rfl, ?_, upd_same, ?_, nd_snoc nd2 nin, ?_⟩
          · intro b o e
            have e2 := s2 b o e
            have nbl : b ≠ l := ne_of_none e hl
            rw [upd_ne nbl, upd_ne (ne_of_none e2 ht)]
            exact e2
          · refine PairVs.snoc (r2.keep fun b ys e => ?_) ⟨t, rfl, ?_⟩
            · rw [upd_ne (ne_of e hl2 (fun z => nomatch z)), upd_ne (ne_of_none e ht)]
              exact e
            · rw [upd_ne ntl.symm, upd_same]
          · intro p hp
            rcases List.mem_append.mp hp with hp | hp
            · have := wf2 p hp
              omega
            · rw [List.mem_singleton.mp hp]
              show j < 1 + i ∧ (1 + i < 1 + i ∨ (1 + i = 1 + i ∧ j < j + 1))
              omega
        · refine ⟨_, rfl, _, _, rfl, rfl, ⟨by decide, by decide⟩, ?_⟩
          refine ⟨E2, xs2, _, _, rfl, s2, hl2, r2, nd2, fun p hp => ?_⟩
          have := wf2 p hp
          omega
      · rintro σ H2 ⟨E2, xs2, z, v6, rfl, s2, hl2, r2, nd2, wf2⟩
        refine ⟨E2, xs2, _, _, _, rfl, s2, hl2, r2, nd2, fun p hp => ?_⟩
        have := wf2 p hp
        omega
    · rintro σ H1 ⟨E, xs, v4, v5, v6, rfl, s1, hl1, r1, wf1⟩
      have wfn : WF n E := ⟨wf1.1, fun p hp => by
        have := wf1.2 p hp
        omega⟩
      obtain ⟨h1, h2⟩ := sort_pairs r1 wf1.1
      refine ⟨_, rfl, l, xs, tk2 H1, rfl, SqL.of hl1, h1, fun ys p hs hst hp => ?_⟩
      obtain ⟨E', r', pe, so⟩ := h2 ys hs hst.perm
      have s2 := s1.trans (same_new (.lst ys) hp)
      refine q _ p E' s2 (s1.free hp) ⟨ys, upd_same, r'.keep fun b zs e => by rw [upd_ne (ne_of_none e hp)]; exact e⟩ ⟨pe.nodup_iff.mpr wfn.1, fun x hx => wfn.2 x (pe.mem_iff.mp hx)⟩ so
end
end KT

/-! a whole number -/
namespace KT
open PySem PySem.Spec PyProof.Rows L2
section
variable {P : Program} {w : World} {K : PySem.W.Frag} {mg : Str → Option Value} {base : Heap} {C cNG cSG cKA cST cBH : Addr}
theorem sc_whole : FnScope ["found"] ["found"] (defScope st_l_whole) := ⟨rfl, rfl, rfl, by decide +kernel, rfl, by decide +kernel, by decide +kernel⟩
theorem ok_whole {f : Addr} {fd : FuncData} (F : Fun K "_law_whole" "_law_whole" st_l_whole f fd) (his : mg "isinstance" = none) (hint : mg "int" = none) (hbool : mg "bool" = none) :
    FnOk P w K mg base CX0 1 f fd ["found"] spWhole := by
  refine F.ok sc_whole (fun vs H Q E h => ?_) (fun cdv A outer s H vs Q E hr h => ?_)
  · obtain ⟨i, rfl, _⟩ := h
    rfl
  · obtain ⟨i, rfl, q⟩ := h
    refine ⟨_, pss_one (ps_ret (pe_and (pe_callB call_isi (by rfl) his (by decide +kernel) (pa_cons (pv 0) (pa_cons (pe_bltn (v := .ty "int") (by rfl) hint (by decide +kernel) rfl) pa_nil)))
      (pe_one (pe_not (pe_callB call_isi (by rfl) his (by decide +kernel) (pa_cons (pv 0) (pa_cons (pe_bltn (v := .ty "bool") (by rfl) hbool (by decide +kernel) rfl) pa_nil))))))), ?_⟩
    refine ⟨_, rfl, _, _, _, _, true, rfl, .ty "int", .base (.int i), kit_ty (by decide +kernel), true, rfl, iteT ?_⟩
    exact ⟨_, rfl, _, _, _, _, false, rfl, .ty "bool", .base (.int i), kit_ty (by decide +kernel), false, rfl, q⟩
end
end KT

/-! the law's defs: how many, the hall of pairs -/
namespace KT
open PySem PySem.Spec PyProof.Rows L2
section
variable {P : Program} {w : World} {K : PySem.W.Frag} {mg : Str → Option Value} {base : Heap} {C cNG cSG cKA cST cBH : Addr}
theorem sc_hall_of : FnScope ["many", "pairs", "hall", "one", "other"] ["many", "pairs"] (defScope st_l_hall_of) := ⟨rfl, rfl, rfl, by decide +kernel, rfl, by decide +kernel, by decide +kernel⟩
theorem ok_hall_of {f : Addr} {fd : FuncData} (F : Fun K "_law_hall_of" "_law_hall_of" st_l_hall_of f fd) (T : HT K mg C cNG cSG cKA cST cBH)
    (mkH : MakD P w K mg base (L2N.CX P w) C 1 "Hall" (spInit C cBH)) (mM : MetD P w K mg base (L2N.CX P w) C 4 "meet" (spMeet C cNG cSG cKA)) :
    FnOk P w K mg base CX0 5 f fd ["many", "pairs"] (spHallOf C) := by
  refine F.ok sc_hall_of (fun vs H Q E h => ?_) (fun cdv A outer s H vs Q E hr h => ?_)
  · obtain ⟨l, n, E, rfl, _⟩ := h
    rfl
  · obtain ⟨l, n, E, rfl, hP, wf, n1, n20, q⟩ := h
    obtain ⟨xs, hl, r⟩ := hP.ex
    refine ⟨_, pss_cons (ps_set (i := 2) sc_hall_of.nd rfl (Or.inl rfl) (pk mkH hr passN (pa_cons (pv 0) pa_nil)))
      (pss_cons (ps_for PassesOwn.never rfl (pi_list (pv 1)) (pg_tup rfl (pgs_cons (pg_name (i := 3) sc_hall_of.nd rfl (Or.inl rfl)) (pgs_cons (pg_name (i := 4) sc_hall_of.nd rfl (Or.inl rfl)) pgs_nil)))
        (pss_one (ps_expr (pm (pv 2) T.cl mM hr passN (pa_cons (pv 3) (pa_cons (pv 4) pa_nil))))))
      (pss_one (ps_ret (pv 2)))), ?_⟩
    refine ⟨_, rfl, make_hall (z := (n : Int)) (fun b => absurd ⟨by omega, by omega⟩ b) ?_⟩
    intro n' en _ _ H1 x d hx hd s1 hall1
    have en : n = n' := by omega
    subst en
    have nxd := hall1.ne
    refine ⟨_, rfl, l, rfl, ⟨_, s1.seq (SqL.of hl)⟩, for_list (K := K) (a := l) (xs := xs) (fun i σ H' => ∃ v3 v4, σ = [some (.int (n : Int)), some (.ref l), some (.ref x), v3, v4] ∧ Same H H' ∧ HallAt C H' x n d (E.take i))
      ⟨none, none, rfl, s1, hall1⟩ (fun i σ H' _ ⟨_, _, _, s2, _⟩ => s2.seq (SqL.of hl)) ?_ ?_⟩
    · rintro i v σ H2 hi ⟨v3, v4, rfl, s2, hall2⟩
      obtain ⟨p, hp, hv⟩ := (r.keep (fun b ys z => s2 b _ z)).get hi
      obtain ⟨a, rfl, ha⟩ := hv
      obtain ⟨dx, hx2⟩ := hall2.ins
      have pw := wf.2 p (List.mem_of_getElem? hp)
      refine ⟨a, _, rfl, SqT.of ha, rfl, _, _, rfl, _, _, rfl, rfl, ?_⟩
      have nm : (hf n d).lookup ("meet" : Str) = none := hf_no _ _ (by decide +kernel) (by decide +kernel)
      have tk1 : E.take (i + 1) = E.take i ++ [p] := by
        rw [List.take_add_one, hp]
        rfl
      have nin : p ∉ E.take i := by
        have nd : (E.take (i + 1)).Nodup := wf.1.sublist (List.take_sublist _ _)
        rw [tk1] at nd
        exact fun m => (List.pairwise_append.mp nd).2.2 p m p (List.mem_singleton.mpr rfl) rfl
      have en : nrm p.1 p.2 = p := nrm_lt pw.1
      refine ⟨_, rfl, x, dx, _, rfl, hx2, nm, _, rfl, _, rfl, x, d, n, E.take i, (p.1 : Int), (p.2 : Int), rfl, hall2, fun b => b ⟨isG.of (by omega), isG.of pw.2⟩, fun _ _ e => by omega, ?_, ?_⟩
      · intro i' j' ei ej _ _ _ m
        have ei : p.1 = i' := by omega
        have ej : p.2 = j' := by omega
        rw [← ei, ← ej, en] at m
        exact absurd m nin
      · intro i' j' ei ej _ _ _ _ H3 k3 hall3
        have ei : p.1 = i' := by omega
        have ej : p.2 = j' := by omega
        rw [← ei, ← ej, en, ← tk1] at hall3
        exact ⟨_, _, rfl, same_keepNew s2 hd k3, hall3⟩
    · rintro σ H2 ⟨v3, v4, rfl, s2, hall2⟩
      have e : E.take xs.length = E := by
        rw [Paired.length r, List.take_length]
      rw [e] at hall2
      exact ⟨_, rfl, q _ x d s2 hx hd hall2⟩
end
end KT

/-! the law's def: two meet or part -/
namespace KT
open PySem PySem.Spec PyProof.Rows L2
theorem turn_ij (n : Nat) (z : Int) (h : 1 < n) : ∃ i j : Nat, z % (n : Int) = (i : Int) ∧ ((i : Int) + 1 + z / (n : Int) % ((n : Int) - 1)) % (n : Int) = (j : Int) ∧ i < n ∧ j < n ∧ i ≠ j := by
  have hn : (0 : Int) < (n : Int) := by omega
  have a1 := Int.emod_nonneg z (Int.ne_of_gt hn)
  have a2 := Int.emod_lt_of_pos z hn
  have hm : (0 : Int) < (n : Int) - 1 := by omega
  have b1 := Int.emod_nonneg (z / (n : Int)) (Int.ne_of_gt hm)
  have b2 := Int.emod_lt_of_pos (z / (n : Int)) hm
  generalize z / (n : Int) % ((n : Int) - 1) = q at *
  obtain ⟨i, ei⟩ : ∃ i : Nat, z % (n : Int) = (i : Int) := ⟨(z % (n : Int)).toNat, by omega⟩
  rw [ei] at a1 a2
  by_cases c : (i : Int) + 1 + q < (n : Int)
  · refine ⟨i, ((i : Int) + 1 + q).toNat, ei, ?_, by omega, by omega, by omega⟩
    rw [Int.emod_eq_of_lt (by omega) c]
    omega
  · refine ⟨i, ((i : Int) + 1 + q - (n : Int)).toNat, ei, ?_, by omega, by omega, by omega⟩
    rw [← Int.sub_emod_right, Int.emod_eq_of_lt (by omega) (by omega)]
    omega
section
variable {P : Program} {w : World} {K : PySem.W.Frag} {mg : Str → Option Value} {base : Heap} {C cNG cSG cKA cST cBH : Addr}
theorem sc_turn : FnScope ["hall", "pairs", "many", "cell", "one", "other", "pair"] ["hall", "pairs", "many", "cell"] (defScope st_l_turn_one) := ⟨rfl, rfl, rfl, by decide +kernel, rfl, by decide +kernel, by decide +kernel⟩
theorem ok_turn {f : Addr} {fd : FuncData} (F : Fun K "_law_turn_one" "_law_turn_one" st_l_turn_one f fd) (T : HT K mg C cNG cSG cKA cST cBH)
    (mP : MetD P w K mg base (L2N.CX P w) C 4 "part" (spPart C cNG cSG cST)) (mM : MetD P w K mg base (L2N.CX P w) C 4 "meet" (spMeet C cNG cSG cKA)) :
    FnOk P w K mg base CX0 5 f fd ["hall", "pairs", "many", "cell"] (spTurnOne C) := by
  refine F.ok sc_turn (fun vs H Q E h => ?_) (fun cdv A outer s H vs Q E hr h => ?_)
  · obtain ⟨x, l, d, n, L, E, z, rfl, _⟩ := h
    rfl
  · obtain ⟨x, l, d, n, L, E, z, rfl, hall, hP, wf, eqv, q⟩ := h
    refine ⟨_, pss_one (ps_if (pt_cmpR op_gt (pv 2) pe_int (nomark _))
      (pss_cons (ps_set (i := 4) sc_turn.nd rfl (Or.inl rfl) (pe_op op_mod (pv 3) (pv 2)))
      (pss_cons (ps_set (i := 5) sc_turn.nd rfl (Or.inl rfl) (pe_op op_mod (pe_op op_add (pe_op op_add (pv 4) pe_int) (pe_op op_mod (pe_op op_fdiv (pv 3) (pv 2)) (pe_op op_sub (pv 2) pe_int))) (pv 2)))
      (pss_cons (ps_set (i := 6) sc_turn.nd rfl (Or.inl rfl) (pe_tup (pa_cons (pe_callB (call_min2 rfl) (by rfl) T.min (by decide +kernel) (pa_cons (pv 4) (pa_cons (pv 5) pa_nil)))
        (pa_cons (pe_callB (call_max2 rfl) (by rfl) T.max (by decide +kernel) (pa_cons (pv 4) (pa_cons (pv 5) pa_nil))) pa_nil))))
      (pss_one (ps_if (pt_cmpR (op_inD (hu65 hr)) (pv 6) (pv 1) (by rfl))
        (pss_cons (ps_expr (pm (pv 0) T.cl mP hr passN (pa_cons (pv 4) (pa_cons (pv 5) pa_nil))))
          (pss_one (ps_expr (pe_bm PySem.F.plainAttrs_list PySem.F.slot_list_remove PySem.F.type_list_remove (mt_removeD (hu65 hr)) (pv 1) (pa_cons (pv 6) pa_nil)))))
        (pss_cons (ps_expr (pm (pv 0) T.cl mM hr passN (pa_cons (pv 4) (pa_cons (pv 5) pa_nil))))
          (pss_one (ps_expr (pe_bm PySem.F.plainAttrs_list PySem.F.slot_list_append PySem.F.type_list_append mt_append (pv 1) (pa_cons (pv 6) pa_nil)))))))))) pss_nil), ?_⟩
    refine ⟨_, rfl, _, _, rfl, rfl, _, rfl, ite2 (fun c => ?pos) (fun c => ?neg)⟩
    case neg => exact q H L E (Keep.refl _ _) hall hP wf eqv
    have n1 : 1 < n := by
      have := of_decide_eq_true c
      omega
    have n20 := hall.hi
    obtain ⟨i, j, ei, ej, hi, hj, nij⟩ := turn_ij n z n1
    refine ⟨_, rfl, _, rfl, _, _, rfl, rfl, (by omega), ?_⟩
    dsimp only
    rw [ei]
    refine ⟨_, rfl, _, _, rfl, rfl, _, rfl, _, rfl, _, _, rfl, rfl, ⟨by omega, by omega⟩, _, rfl, _, _, rfl, rfl, _, _, rfl, rfl, (by omega), _, _, rfl, rfl, _, rfl, _, _, rfl, rfl, (by omega), ?_⟩
    dsimp only
    rw [ej]
    refine ⟨_, rfl, _, rfl, _, _, rfl, _, rfl, _, rfl, _, _, rfl, (by show 2 ≤ sizeLine; decide), fun t ht => ?_⟩
    dsimp only
    rw [min_py, max_py]
    have s1 := same_new (.tup [V.int ((min i j : Nat) : Int), V.int ((max i j : Nat) : Int)]) ht
    have h1 := hall.same s1
    have p1 := hP.same s1
    have tv : PairV (upd H t (.tup [V.int ((min i j : Nat) : Int), V.int ((max i j : Nat) : Int)])) (.ref t) (nrm i j) := ⟨t, rfl, upd_same⟩
    obtain ⟨dx, hx⟩ := h1.ins
    have no1 : (hf n d).lookup ("part" : Str) = none := hf_no _ _ (by decide +kernel) (by decide +kernel)
    have no2 : (hf n d).lookup ("meet" : Str) = none := hf_no _ _ (by decide +kernel) (by decide +kernel)
    have nld : l ≠ d := by
      obtain ⟨xs, e, _⟩ := hP.ex
      exact ne_of e hall.dic (fun z => nomatch z)
    have hD : ∀ b ∈ [d], ∀ ys, (upd H t (.tup [V.int ((min i j : Nat) : Int), V.int ((max i j : Nat) : Int)])) b ≠ some (.tup ys) := fun b hb ys e => by
      rw [List.mem_singleton.mp hb, h1.dic] at e
      cases e
    refine ⟨_, rfl, _, rfl, pD (nrm i j), E.map pD, tv.dp, p1.dp, pD_shaped _, pDs_shaped _, _, rfl, ?_⟩
    rw [any_pD]
    refine ite2 (fun c2 => ?_) (fun c2 => ?_)
    · have inE : nrm i j ∈ E := of_decide_eq_true c2
      have inL : nrm i j ∈ L := (eqv _).mpr inE
      refine ⟨_, rfl, x, dx, _, rfl, hx, no1, _, rfl, _, rfl, x, d, n, L, (i : Int), (j : Int), rfl, h1, fun b => b ⟨isG.of hi, isG.of hj⟩, fun _ _ e => by omega, ?_, ?_⟩
      · intro i' j' ei' ej' _ _ _ nm
        have a1 : i = i' := by omega
        have a2 : j = j' := by omega
        subst a1
        subst a2
        exact absurd inL nm
      · intro i' j' ei' ej' _ _ _ _ H2 k2 hall2
        have a1 : i = i' := by omega
        have a2 : j = j' := by omega
        subst a1
        subst a2
        have p2 : PairsAt H2 l E := p1.keep k2 (by simpa using nld) hD
        have tv2 : PairV H2 (.ref t) (nrm i j) := ⟨t, rfl, k2.at1 (ne_of upd_same h1.dic (fun z => nomatch z)) upd_same⟩
        obtain ⟨xs, hl2, r2⟩ := p2.ex
        obtain ⟨m, pm1, pm2⟩ := place_pD inE
        refine ⟨_, rfl, .inl ⟨rfl, _, SqL.of hl2⟩, _, rfl, l, xs, _, E.map pD, pD (nrm i j), m, rfl, rfl, hl2, r2.dp, tv2.dp, pDs_plain E, (by simp [PyData.plain, PyData.plainAll, pD]), (by rw [pD_depth]; decide), pm1, ?_⟩
        refine q _ (L.erase (nrm i j)) (E.erase (nrm i j)) ?_ (hall2.keep (Keep.put l _) ?_ ?_) ⟨xs.eraseIdx m, upd_same, ?_⟩ (wf.erase _) (eqv.erase hall.wf.1 wf.1 _)
        · intro b o nb e
          simp only [List.mem_cons, List.not_mem_nil, or_false, not_or] at nb
          rw [upd_ne nb.2]
          exact k2.at1 nb.1 (s1 b o e)
        · obtain ⟨dx2, e2⟩ := hall2.ins
          simpa using ne_of e2 hl2 (fun z => nomatch z)
        · simpa using nld.symm
        · rw [← pm2]
          exact (r2.eraseIdx m).keep fun b ys z => by rw [upd_ne (ne_of z hl2 (fun z => nomatch z))]; exact z
    · have ninE : nrm i j ∉ E := fun m => c2 (decide_eq_true m)
      have ninL : nrm i j ∉ L := fun m => ninE ((eqv _).mp m)
      refine ⟨_, rfl, x, dx, _, rfl, hx, no2, _, rfl, _, rfl, x, d, n, L, (i : Int), (j : Int), rfl, h1, fun b => b ⟨isG.of hi, isG.of hj⟩, fun _ _ e => by omega, ?_, ?_⟩
      · intro i' j' ei' ej' _ _ _ nm
        have a1 : i = i' := by omega
        have a2 : j = j' := by omega
        subst a1
        subst a2
        exact absurd nm ninL
      · intro i' j' ei' ej' _ _ _ _ H2 k2 hall2
        have a1 : i = i' := by omega
        have a2 : j = j' := by omega
        subst a1
        subst a2
        have p2 : PairsAt H2 l E := p1.keep k2 (by simpa using nld) hD
        have tv2 : PairV H2 (.ref t) (nrm i j) := ⟨t, rfl, k2.at1 (ne_of upd_same h1.dic (fun z => nomatch z)) upd_same⟩
        obtain ⟨xs, hl2, r2⟩ := p2.ex
        have len2 : xs.length < sizeLine := by
          rw [Paired.length r2]
          exact Nat.lt_of_le_of_lt (wf.len n20) (by decide)
        refine ⟨_, rfl, .inl ⟨rfl, _, SqL.of hl2⟩, _, rfl, l, xs, _, rfl, rfl, hl2, len2, ?_⟩
        refine q _ (L ++ [nrm i j]) (E ++ [nrm i j]) ?_ (hall2.keep (Keep.put l _) ?_ ?_) ⟨xs ++ [.ref t], upd_same, ?_⟩ (wf.snoc (nrm_ok nij hi hj) ninE) (eqv.snoc _)
        · intro b o nb e
          simp only [List.mem_cons, List.not_mem_nil, or_false, not_or] at nb
          rw [upd_ne nb.2]
          exact k2.at1 nb.1 (s1 b o e)
        · obtain ⟨dx2, e2⟩ := hall2.ins
          simpa using ne_of e2 hl2 (fun z => nomatch z)
        · simpa using nld.symm
        · exact (r2.snoc tv2).keep fun b ys z => by rw [upd_ne (ne_of z hl2 (fun z => nomatch z))]; exact z
end
end KT

/-! law 09 -/
namespace KT
open PySem PySem.Spec PyProof.Rows L2
def rLenS (K : PySem.W.Frag) : List V → Hp → VK → Prop := fun xs H Q => ∃ p ys, xs = [.ref p] ∧ (SqL K H p ys ∨ SqT K H p ys) ∧ Q (.int ((ys.length : Nat) : Int)) H
theorem call_lenS {X : Cx} : CallR X (.builtin "len") (rLenS X.K) := call_len_seq
def SetV (m : Addr) (H : Hp) (v : V) (s : List Nat) : Prop := ∃ a, v = .ref a ∧ a ≠ m ∧ H a = some (.lst (iV s))
abbrev SetVs (m : Addr) (H : Hp) : List V → List (List Nat) → Prop := Paired (SetV m H)
theorem SetVs.keep {m : Addr} {H H' : Hp} {xs : List V} {S : List (List Nat)} (k : ∀ a ys, a ≠ m → H a = some (.lst ys) → H' a = some (.lst ys)) (h : SetVs m H xs S) : SetVs m H' xs S :=
  Paired.mapP h fun v s ⟨a, e, n, z⟩ => ⟨a, e, n, k _ _ n z⟩
theorem SetVs.snoc {m : Addr} {H : Hp} : ∀ {xs : List V} {S : List (List Nat)} {v : V} {s : List Nat}, SetVs m H xs S → SetV m H v s → SetVs m H (xs ++ [v]) (S ++ [s])
  | _, _, _, _, .nil, h => .cons h .nil
  | _, _, _, _, .cons a r, h => .cons a (SetVs.snoc r h)
theorem SetVs.cat {m : Addr} {H : Hp} : ∀ {xs ys : List V} {S S2 : List (List Nat)}, SetVs m H xs S → SetVs m H ys S2 → SetVs m H (xs ++ ys) (S ++ S2)
  | _, _, _, _, .nil, h => h
  | _, _, _, _, .cons a r, h => .cons a (SetVs.cat r h)
theorem SetVs.get {m : Addr} {H : Hp} : ∀ {xs : List V} {S : List (List Nat)} {i : Nat} {v : V}, SetVs m H xs S → xs[i]? = some v → ∃ s, S[i]? = some s ∧ SetV m H v s
  | _, _, _, _, .nil, e => by simp at e
  | _, _, 0, _, .cons a _, e => by
    simp at e
    subst e
    exact ⟨_, rfl, a⟩
  | _, _, i + 1, v, .cons _ r, e => SetVs.get (i := i) (v := v) r (by simpa using e)
theorem SetVs.to {m m' : Addr} {H : Hp} {xs : List V} {S : List (List Nat)} (h : SetVs m H xs S) (nm : H m' = none) : SetVs m' H xs S :=
  Paired.mapP h fun v s ⟨a, e, _, z⟩ => ⟨a, e, ne_of_none z nm, z⟩
theorem grow_step {E : List Pr} {k : Bool} {g : Nat} {S : List (List Nat)} {i : Nat} {s : List Nat} (h : S[i]? = some s) : grow E k g (S.take (i + 1)) = grow E k g (S.take i) ++ (if fits E k g s = true then [s ++ [g]] else []) := by
  unfold grow
  rw [List.take_add_one, h, List.filter_append, List.map_append]
  congr 1
  by_cases c : fits E k g s = true
  · rw [if_pos c]
    show List.map _ (List.filter (fits E k g) [s]) = _
    rw [filt1' c]
    rfl
  · rw [if_neg c]
    show List.map _ (List.filter (fits E k g) [s]) = _
    rw [filt0' c]
    rfl
theorem pair_tri {R : Nat → Nat → Prop} : ∀ {s : List Nat}, s.Pairwise R → ∀ a ∈ s, ∀ b ∈ s, a = b ∨ R a b ∨ R b a
  | [], _, a, ha, _, _ => by cases ha
  | x :: t, h, a, ha, b, hb => by
    have h' := List.pairwise_cons.mp h
    rcases List.mem_cons.mp ha with e1 | ha2
    · rcases List.mem_cons.mp hb with e2 | hb2
      · exact .inl (e1.trans e2.symm)
      · rw [e1]
        exact .inr (.inl (h'.1 b hb2))
    · rcases List.mem_cons.mp hb with e2 | hb2
      · rw [e2]
        exact .inr (.inr (h'.1 a ha2))
      · exact pair_tri h'.2 a ha2 b hb2
theorem crowdP_of {E : List Pr} {k : Bool} {n : Nat} {s : List Nat} (h : crowdP E k n s) {a b : Nat} (ha : a ∈ s) (hb : b ∈ s) (ab : a < b) : decide ((a, b) ∈ E) = k := by
  rcases pair_tri (pair_and h.1 h.2.2) a ha b hb with e | e | e
  · omega
  · exact e.2
  · omega
def spRight9 (C : Addr) : Sp := fun vs H Q _ => ∃ (p l d : Addr) (n : Nat) (L E : List Pr), vs = [.ref p, .ref l, .int (n : Int)] ∧ HallAt C H p n d L ∧ PairsAt H l E ∧ WF n E ∧ Eqv L E ∧ n ≤ 12 ∧ ∀ H', Same H H' → Q (.bl true) H'
section
variable {P : Program} {w : World} {K : PySem.W.Frag} {mg : Str → Option Value} {base : Heap} {C cNG cSG cKA cST cBH : Addr}
theorem sc_most : FnScope ["pairs", "many", "known", "sets", "guest", "more", "one", "other"] ["pairs", "many", "known"] (defScope st_l_most) := ⟨rfl, rfl, rfl, by decide +kernel, rfl, by decide +kernel, by decide +kernel⟩
theorem ok_most {f : Addr} {fd : FuncData} (F : Fun K "_law_most" "_law_most" st_l_most f fd) (hlen : mg "len" = none) (hrange : mg "range" = none) (hmax : mg "max" = none) :
    FnOk P w K mg base CX0 1 f fd ["pairs", "many", "known"] spMost := by
  refine F.ok sc_most (fun vs H Q E h => ?_) (fun cdv A outer s H vs Q E hr h => ?_)
  · obtain ⟨q, n, E, k, r, rfl, _⟩ := h
    rfl
  · obtain ⟨q, n, E, k, r, rfl, hq, n20, n12, mx, ret⟩ := h
    refine ⟨_, pss_cons (ps_set (i := 3) sc_most.nd rfl (Or.inl rfl) (pe_lst (pa_cons (pe_lst pa_nil) pa_nil)))
      (pss_cons (ps_for PassesOwn.never rfl (pi_range1 (by rfl) hrange (pa_cons (pv 1) pa_nil)) (pg_name (i := 4) sc_most.nd rfl (Or.inr rfl))
        (pss_cons (ps_set (i := 5) sc_most.nd rfl (Or.inl rfl) (pe_lst pa_nil))
        (pss_cons (ps_for PassesOwn.never rfl (pi_list (pv 3)) (pg_name (i := 6) sc_most.nd rfl (Or.inl rfl))
          (pss_one (ps_if (pt_cmpR op_eq (pe_callB call_len_seq (by rfl) hlen PySem.boot_len (pa_cons (pe_lc (own := [("other", 7)]) (g := gName 7) (by rfl) sc_most.nd
              (pi_list (pv 6)) (blkOk_by (own := [("other", 7)]) (N := ["pairs", "many", "known", "sets", "guest", "more", "one", "other"]) (sc := defScope st_l_most) (by decide +kernel))
              (fun _ _ _ _ _ => pg_name (i := 7) sc_most.nd rfl (Or.inl rfl)) (fun _ _ _ _ _ => pts_one (pt_cmpR op_ne (pe_cmp (pc_din (hu_of hr) (pe_tup (pa_cons (pv 7) (pa_cons (pv 4) pa_nil))) (pv 0)) rfl) (pv 2) (nomark _))) (fun _ _ _ _ _ => pv 7)) pa_nil)) pe_int (nomark _))
            (pss_one (ps_expr (pe_bm PySem.F.plainAttrs_list PySem.F.slot_list_append PySem.F.type_list_append mt_append (pv 5) (pa_cons (pe_op op_cat (pv 6) (pe_lst (pa_cons (pv 4) pa_nil))) pa_nil)))) pss_nil)))
        (pss_one (ps_set (i := 3) sc_most.nd rfl (Or.inl rfl) (pe_op op_cat (pv 3) (pv 5)))))))
      (pss_one (ps_ret (pe_callB (cr_max rfl) (by rfl) hmax (by decide +kernel) (pa_cons (pe_lc (own := [("one", 6)]) (g := gName 6) (tt := tYes) (te := tCB (rLenS K) (tCons (tVar 6) tNil)) (by rfl) sc_most.nd
          (pi_list (pv 3)) (blkOk_by (own := [("one", 6)]) (N := ["pairs", "many", "known", "sets", "guest", "more", "one", "other"]) (sc := defScope st_l_most) (by decide +kernel))
          (fun _ _ _ _ _ => pg_name (i := 6) sc_most.nd rfl (Or.inl rfl)) (fun _ _ _ _ _ => pts_nil) (fun _ _ _ _ _ => pe_callB call_lenS (by rfl) hlen PySem.boot_len (pa_cons (pv 6) pa_nil))) pa_nil))))), ?_⟩
    refine ⟨Nat.zero_le _, fun e0 ne0 => ⟨(by show 1 ≤ sizeLine; decide), fun a0 na0 => ?_⟩⟩
    have s0 := same_new (.lst []) ne0
    have he0 : upd H e0 (.lst []) e0 = some (.lst (iV [])) := upd_same
    generalize upd H e0 (.lst []) = H0 at s0 he0 na0 ⊢
    have s1 := same_new (.lst [V.ref e0]) na0
    have ha0 : upd H0 a0 (.lst [V.ref e0]) a0 = some (.lst [V.ref e0]) := upd_same
    have n0 : e0 ≠ a0 := ne_of_none he0 na0
    generalize upd H0 a0 (.lst [V.ref e0]) = H1 at s1 ha0 ⊢
    refine ⟨_, rfl, (n : Int), rfl, by omega, by omega, for_range (lo := 0) (n := n) (fun g σ H' => ∃ (a x : Addr) (xs : List V) (S : List (List Nat)) (v4 v5 v6 : Option V), σ = [some (.ref q), some (.int (n : Int)), some (.bl k), some (.ref a), v4, v5, v6, none] ∧ Same H H' ∧ H' a = some (.lst xs) ∧ SetVs x H' xs S ∧
        S.length ≤ 2 ^ g ∧ ∀ s, s ∈ S ↔ crowdP E k g s) ⟨a0, a0, [V.ref e0], [[]], none, none, none, rfl, s0.trans s1, ha0, .cons ⟨e0, rfl, n0, s1 _ _ he0⟩ .nil, Nat.le_refl _, fun s => ?_⟩ ?_ ?_⟩
    · rw [List.mem_singleton]
      constructor
      · rintro rfl
        exact ⟨List.Pairwise.nil, (fun x hx => by cases hx), List.Pairwise.nil⟩
      · rintro ⟨_, b, _⟩
        cases s with
        | nil => rfl
        | cons y t => exact absurd (b y List.mem_cons_self) (Nat.not_lt_zero _)
    · rintro g σ H2 hg ⟨a, x, xs, S, v4, v5, v6, rfl, s2, ha, rS, lS, all⟩
      rw [Int.zero_add]
      refine ⟨Nat.zero_le _, fun m0 nm0 => ?_⟩
      have s3 := same_new (.lst []) nm0
      have hm0 : upd H2 m0 (.lst []) m0 = some (.lst []) := upd_same
      have rS2 := rS.to nm0
      generalize upd H2 m0 (.lst []) = H3 at s3 hm0
      have ha3 := s3 _ _ ha
      have lx : xs.length = S.length := Paired.length rS
      have p12 : 2 ^ g ≤ 2 ^ 11 := Nat.pow_le_pow_right (by decide) (by omega)
      have e11 : 2 ^ 11 = 2048 := rfl
      refine ⟨_, rfl, a, rfl, ⟨_, SqL.of ha3⟩, for_list (K := K) (a := a) (xs := xs) (fun i σ H' => ∃ (ys : List V) (v6 : Option V), σ = [some (.ref q), some (.int (n : Int)), some (.bl k), some (.ref a), some (.int (g : Int)), some (.ref m0), v6, none] ∧ Same H2 H' ∧ H' m0 = some (.lst ys) ∧ SetVs m0 H' ys (grow E k g (S.take i)) ∧ ys.length ≤ i)
        ⟨[], _, rfl, s3, hm0, .nil, Nat.le_refl _⟩ (fun i σ H' _ ⟨_, _, _, s4, _⟩ => SqL.of (s4 _ _ ha)) ?_ ?_⟩
      · rintro i v σ H4 hi ⟨ys, v6, rfl, s4, hm4, r4, b4⟩
        have rS4 := rS2.keep fun b zs _ z => s4 _ _ z
        obtain ⟨so, hso, hv⟩ := rS4.get hi
        obtain ⟨b, rfl, nb, hb⟩ := hv
        have il := (List.getElem?_eq_some_iff.mp hi).1
        have cp := (all so).mp (List.mem_of_getElem? hso)
        have sl := crowdP_len cp
        refine ⟨_, rfl, b, rfl, ⟨_, SqL.of hb⟩, fun D hD => ?_⟩
        have nDm : D ≠ m0 := (ne_of_none hm4 hD).symm
        refine lc_list (K := K) (a := b) (xs := iV so) (fun j H' => Same H4 H' ∧ ∃ acc, H' D = some (.lst acc) ∧ acc.length ≤ j ∧ (acc.length = 0 ↔ ∀ o ∈ so.take j, decide ((o, g) ∈ E) = k)) ⟨same_new _ hD, [], upd_same, Nat.le_refl _, by simp⟩ (fun j H' _ ⟨s5, _⟩ => SqL.of (s5 _ _ hb)) ?_ ?_
        · rintro j v H5 hj ⟨s5, acc, h5, b5, c5⟩
          obtain ⟨o, ho, rfl⟩ := iV_get hj
          have jl := (List.getElem?_eq_some_iff.mp ho).1
          refine ⟨rfl, _, rfl, _, rfl, (by show 2 ≤ sizeLine; decide), fun t ht => ⟨_, rfl, q, _, rfl, get_new (s5 _ _ (s4 _ _ (s2 _ _ hq))) ht, ?_⟩⟩
          rw [isSome_kvs]
          have st := same_new (.tup [V.int (o : Int), V.int (g : Int)]) ht
          have h5t := st _ _ h5
          generalize upd H5 t (.tup [V.int (o : Int), V.int (g : Int)]) = H6 at st h5t
          refine ⟨_, rfl, rfl, _, rfl, ite2 (fun c => ?_) (fun c => ?_)⟩
          · have ne : decide ((o, g) ∈ E) ≠ k := fun e => by
              rw [e] at c
              simp at c
            refine ⟨_, rfl, acc, h5t, Nat.lt_of_le_of_lt (m := 40) (by omega) (by decide), same_keepNew (s5.trans st) hD (Keep.put D _), _, upd_same, ?_, ?_⟩
            · rw [List.length_append, List.length_singleton]
              omega
            · rw [List.length_append, List.length_singleton]
              constructor
              · intro z
                omega
              · intro z
                exact absurd (z o (List.mem_of_getElem? (i := j) (by rw [List.getElem?_take_of_lt (by omega)]; exact ho))) ne
          · have eq : decide ((o, g) ∈ E) = k := by
              by_cases e : decide ((o, g) ∈ E) = k
              · exact e
              · exact absurd (by simp; exact e) c
            refine ⟨s5.trans st, acc, h5t, by omega, c5.trans ⟨fun z => forall_take ho z eq, fun z y hy => z y ?_⟩⟩
            rw [List.take_add_one]
            exact List.mem_append_left _ hy
        · rintro H5 ⟨s5, acc, h5, b5, c5⟩
          rw [iV_len, List.take_length] at c5
          have s45 := s4.trans s5
          have hm5 := s5 _ _ hm4
          have hb5 := s5 _ _ hb
          have r5 := r4.keep fun b zs _ z => s5 _ _ z
          refine ⟨D, _, rfl, .inl (SqL.of h5), rfl, _, rfl, ite2 (fun c => ?_) (fun c => ?_)⟩
          · have c := V.int.inj (of_decide_eq_true c)
            have fit : fits E k g so = true := fits_iff.mpr (c5.mp (by omega))
            refine ⟨_, rfl, .inl ⟨rfl, _, SqL.of hm5⟩, _, rfl, _, rfl, (by show 1 ≤ sizeLine; decide), fun t1 ht1 => ?_⟩
            have st1 := same_new (.lst [V.int (g : Int)]) ht1
            refine ⟨b, t1, _, _, rfl, rfl, st1 _ _ hb5, upd_same, ?_, fun t2 ht2 => ?_⟩
            · rw [iV_len]
              exact Nat.le_trans (m := 100) (by show so.length + 1 ≤ 100; omega) (by decide)
            rw [← iV_snoc]
            have st2 := st1.trans (same_new (.lst (iV (so ++ [g]))) ht2)
            have h6 : upd (upd H5 t1 (.lst [V.int (g : Int)])) t2 (.lst (iV (so ++ [g]))) t2 = some (.lst (iV (so ++ [g]))) := upd_same
            have nt2 : t2 ≠ m0 := (ne_of_none (st1 _ _ hm5) ht2).symm
            generalize upd (upd H5 t1 (.lst [V.int (g : Int)])) t2 (.lst (iV (so ++ [g]))) = H6 at st2 h6
            have hm6 := st2 _ _ hm5
            refine ⟨m0, _, _, rfl, rfl, hm6, Nat.lt_of_le_of_lt (m := 5000) (by omega) (by decide), ?_⟩
            refine ⟨ys ++ [.ref t2], _, rfl, same_keepNew (s45.trans st2) nm0 (Keep.put m0 _), upd_same, ?_, ?_⟩
            · rw [grow_step hso, if_pos fit]
              refine SetVs.snoc (r5.keep fun b zs nb z => ?_) ⟨t2, rfl, nt2, ?_⟩
              · rw [upd_ne nb]
                exact st2 _ _ z
              · rw [upd_ne nt2]
                exact h6
            · rw [List.length_append, List.length_singleton]
              omega
          · have nfit : ¬ fits E k g so = true := fun z => c (decide_eq_true (congrArg V.int (by
              have := c5.mpr (fits_iff.mp z)
              omega)))
            refine ⟨ys, _, rfl, s45, hm5, ?_, by omega⟩
            rw [grow_step hso, if_neg nfit, List.append_nil]
            exact r5
      · rintro σ H4 ⟨ys, v6, rfl, s4, hm4, r4, b4⟩
        rw [lx, List.take_length] at r4
        have rS4 := rS2.keep fun b zs _ z => s4 _ _ z
        refine ⟨_, rfl, _, rfl, a, m0, xs, ys, rfl, rfl, s4 _ _ ha, hm4, Nat.le_trans (m := 5000) (by omega) (by decide), fun p hp => ?_⟩
        have sp := same_new (.lst (xs ++ ys)) hp
        refine ⟨p, m0, xs ++ ys, S ++ grow E k g S, _, _, _, rfl, s2.trans (s4.trans sp), upd_same, SetVs.cat (rS4.keep fun b zs _ z => sp _ _ z) (r4.keep fun b zs _ z => sp _ _ z), ?_, fun s => grow_mem all s⟩
        rw [List.length_append, Nat.pow_succ]
        have : (grow E k g S).length ≤ S.length := by
          unfold grow
          rw [List.length_map]
          exact List.length_filter_le _ _
        omega
    · rintro σ H2 ⟨a, x, xs, S, v4, v5, v6, rfl, s2, ha, rS, lS, all⟩
      have lx : xs.length = S.length := Paired.length rS
      have p12 : 2 ^ n ≤ 2 ^ 12 := Nat.pow_le_pow_right (by decide) n12
      have e12 : 2 ^ 12 = 4096 := rfl
      refine ⟨_, rfl, a, rfl, ⟨_, SqL.of ha⟩, fun D hD => ?_⟩
      refine lc_list (K := K) (a := a) (xs := xs) (fun j H' => Same H2 H' ∧ H' D = some (.lst (((S.take j).map fun s => ((s.length : Nat) : Int)).map V.int))) ⟨same_new _ hD, upd_same⟩ (fun j H' _ ⟨s5, _⟩ => SqL.of (s5 _ _ ha)) ?_ ?_
      · rintro j v H3 hj ⟨s3, h3⟩
        obtain ⟨so, hso, hv⟩ := rS.get hj
        obtain ⟨b, rfl, nb, hb⟩ := hv
        have jl := (List.getElem?_eq_some_iff.mp hj).1
        refine ⟨rfl, yes_ite ?_⟩
        refine ⟨_, rfl, b, _, rfl, .inl (SqL.of (s3 _ _ hb)), _, h3, ?_, same_keepNew s3 hD (Keep.put D _), ?_⟩
        · rw [List.length_map, List.length_map]
          exact Nat.lt_of_le_of_lt (List.length_take_le' _ _) (Nat.lt_of_le_of_lt (m := 5000) (by omega) (by decide))
        · rw [upd_same, List.take_add_one, hso, List.map_append, List.map_append, iV_len]
          rfl
      · rintro H3 ⟨s3, h3⟩
        rw [lx, List.take_length] at h3
        have rin : r ∈ S := (all r).mpr mx.1
        refine ⟨D, S.map fun s => ((s.length : Nat) : Int), rfl, SqL.of h3, ?_, fun m hm hle => ?_⟩
        · rw [List.length_map]
          exact List.length_pos_of_mem rin
        · obtain ⟨so, hso, rfl⟩ := List.mem_map.mp hm
          have h1 := mx.2 so ((all so).mp hso)
          have h2 := hle _ (List.mem_map.mpr ⟨r, rin, rfl⟩)
          have e : so.length = r.length := by omega
          rw [e]
          exact ret _ (s2.trans s3)
theorem sc_is_one : FnScope ["found", "pairs", "many", "known", "last", "guest", "other"] ["found", "pairs", "many", "known"] (defScope st_l_is_one) := ⟨rfl, rfl, rfl, by decide +kernel, rfl, by decide +kernel, by decide +kernel⟩
theorem ok_is_one {f : Addr} {fd : FuncData} (F : Fun K "_law_is_one" "_law_is_one" st_l_is_one f fd) (his : mg "isinstance" = none) (hlist : mg "list" = none) (hlen : mg "len" = none)
    (cW : CalD P w K mg base CX0 1 "_law_whole" spWhole) (cM : CalD P w K mg base CX0 1 "_law_most" spMost) : FnOk P w K mg base CX0 2 f fd ["found", "pairs", "many", "known"] spIsOne := by
  refine F.ok sc_is_one (fun vs H Q E h => ?_) (fun cdv A outer s H vs Q E hr h => ?_)
  · obtain ⟨a, q, n, E, k, r, rfl, _⟩ := h
    rfl
  · obtain ⟨a, q, n, E, k, r, rfl, ha, hq, n12, mx, ret⟩ := h
    refine ⟨_, pss_cons (ps_if (pt_not (pt_val (pe_callB call_isi (by rfl) his (by decide +kernel) (pa_cons (pv 0) (pa_cons (pe_bltn (v := .ty "list") (by rfl) hlist (by decide +kernel) rfl) pa_nil))))) (pss_one (ps_ret pe_bl)) pss_nil)
      (pss_cons (ps_set (i := 4) sc_is_one.nd rfl (Or.inl rfl) (pe_un un_neg pe_int))
      (pss_cons (ps_for PassesOwn.never rfl (pi_list (pv 0)) (pg_name (i := 5) sc_is_one.nd rfl (Or.inr rfl))
        (pss_cons (ps_if (PW.pt (pw_or (pt_not (pt_val (pc cW hr pass0 (pa_cons (pv 5) pa_nil)))) (pw_or (pt_cmpR op_le (pv 5) (pv 4) (nomark _)) (pw_or1 (pt_cmpR op_ge (pv 5) (pv 2) (nomark _)))))) (pss_one (ps_ret pe_bl)) pss_nil)
        (pss_cons (ps_if (pt_cmpR op_gt (pe_callB call_len_seq (by rfl) hlen PySem.boot_len (pa_cons (pe_lc (own := [("other", 6)]) (g := gName 6) (by rfl) sc_is_one.nd
            (pi_list (pv 0)) (blkOk_by (own := [("other", 6)]) (N := ["found", "pairs", "many", "known", "last", "guest", "other"]) (sc := defScope st_l_is_one) (by decide +kernel))
            (fun _ _ _ _ _ => pg_name (i := 6) sc_is_one.nd rfl (Or.inl rfl)) (fun _ _ _ _ _ => pts_one (PW.pt (pw_and (pt_cmpR op_lt (pv 6) (pv 5) (nomark _)) (pw_and1 (pt_cmpR op_ne (pe_cmp (pc_din (hu_of hr) (pe_tup (pa_cons (pv 6) (pa_cons (pv 5) pa_nil))) (pv 1)) rfl) (pv 3) (nomark _)))))) (fun _ _ _ _ _ => pv 6)) pa_nil)) pe_int (nomark _)) (pss_one (ps_ret pe_bl)) pss_nil)
        (pss_one (ps_set (i := 4) sc_is_one.nd rfl (Or.inl rfl) (pv 5))))))
      (pss_one (ps_ret (pe_cmpR op_eq (pe_callB call_len_seq (by rfl) hlen PySem.boot_len (pa_cons (pv 0) pa_nil)) (pc cM hr pass0 (pa_cons (pv 1) (pa_cons (pv 2) (pa_cons (pv 3) pa_nil)))) (nomark _)))))), ?_⟩
    refine ⟨_, rfl, _, _, _, _, true, rfl, .ty "list", .base (.lst ha), kit_ty (by decide +kernel), true, rfl, iteF ?_⟩
    refine ⟨_, rfl, ?_⟩
    refine ⟨_, rfl, a, rfl, ⟨_, SqL.of ha⟩, for_list (K := K) (a := a) (xs := iV r) (fun i σ H' => ∃ (z : Int) (v5 : Option V), σ = [some (.ref a), some (.ref q), some (.int (n : Int)), some (.bl k), some (.int z), v5, none] ∧ Same H H' ∧ ∀ (j x : Nat), i ≤ j → r[j]? = some x → z < (x : Int))
      ⟨-1, none, rfl, Same.refl _, fun j x _ _ => by omega⟩ (fun i σ H' _ ⟨_, _, _, s1, _⟩ => SqL.of (s1 _ _ ha)) ?_ ?_⟩
    · rintro i v σ H1 hi ⟨z, v5, rfl, s1, hz⟩
      obtain ⟨g, hg, rfl⟩ := iV_get hi
      have gm := List.mem_of_getElem? hg
      have gn := mx.1.2.1 g gm
      refine ⟨_, rfl, _, rfl, true, rfl, iteF ?_⟩
      have h1 := hz i g (Nat.le_refl _) hg
      refine ⟨_, rfl, _, rfl, _, _, rfl, rfl, _, rfl, ite2 (fun c => ?_) (fun c => ?_)⟩
      · have := of_decide_eq_true c
        omega
      refine ⟨_, rfl, _, rfl, _, _, rfl, rfl, _, rfl, ite2 (fun c => ?_) (fun c => ?_)⟩
      · have := of_decide_eq_true c
        omega
      refine ⟨_, rfl, a, rfl, ⟨_, SqL.of (s1 _ _ ha)⟩, fun D hD => ?_⟩
      refine lc_list (K := K) (a := a) (xs := iV r) (fun j H' => Same H1 H' ∧ H' D = some (.lst [])) ⟨same_new _ hD, upd_same⟩ (fun j H' _ ⟨s5, _⟩ => SqL.of (s5 _ _ (s1 _ _ ha))) ?_ ?_
      · rintro j v H2 hj ⟨s2, h2⟩
        obtain ⟨o, ho, rfl⟩ := iV_get hj
        refine ⟨rfl, _, rfl, _, rfl, _, _, rfl, rfl, _, rfl, ite2 (fun c => ?_) (fun c => ⟨s2, h2⟩)⟩
        have og : o < g := by
          have := of_decide_eq_true c
          omega
        have ek := crowdP_of mx.1 (List.mem_of_getElem? ho) gm og
        refine ⟨_, rfl, _, rfl, (by show 2 ≤ sizeLine; decide), fun t ht => ⟨_, rfl, q, _, rfl, get_new (s2 _ _ (s1 _ _ hq)) ht, ?_⟩⟩
        rw [isSome_kvs, ek]
        have st := same_new (.tup [V.int (o : Int), V.int (g : Int)]) ht
        refine ⟨_, rfl, rfl, _, rfl, iteNS rfl ?_⟩
        exact ⟨s2.trans st, st _ _ h2⟩
      · rintro H2 ⟨s2, h2⟩
        refine ⟨D, _, rfl, .inl (SqL.of h2), _, _, rfl, rfl, _, rfl, iteF ?_⟩
        refine ⟨_, rfl, _, _, rfl, s1.trans s2, fun j x hj hx => ?_⟩
        have hpw := mx.1.1
        have a1 := List.getElem?_eq_some_iff.mp hg
        have a2 := List.getElem?_eq_some_iff.mp hx
        have := List.pairwise_iff_getElem.mp hpw i j a1.1 a2.1 (by omega)
        rw [a1.2, a2.2] at this
        omega
    · rintro σ H1 ⟨z, v5, rfl, s1, hz⟩
      refine ⟨_, rfl, a, _, rfl, .inl (SqL.of (s1 _ _ ha)), _, rfl, _, rfl, _, rfl, q, n, E, k, r, rfl, s1 _ _ hq, by omega, n12, mx, fun H2 s2 => ?_⟩
      refine ⟨rfl, ?_⟩
      rw [iV_len]
      have e : decide (V.int ((r.length : Nat) : Int) = V.int ((r.length : Nat) : Int)) = true := decide_eq_true rfl
      rw [e]
      exact ret _ (s1.trans s2)
theorem sc_right : FnScope ["hall", "pairs", "many", "there", "pair", "turn", "known", "unknown"] ["hall", "pairs", "many"] (defScope st_l_right) := ⟨rfl, rfl, rfl, by decide +kernel, rfl, by decide +kernel, by decide +kernel⟩
theorem ok_right {f : Addr} {fd : FuncData} (F : Fun K "_law_right" "_law_right" st_l_right f fd) (T : HT K mg C cNG cSG cKA cST cBH)
    (cC : CalD P w K mg base CX0 26 "crowd" (spCrowd C)) (cU : CalD P w K mg base CX0 27 "unknown_crowd" (spUnknown C)) (cO : CalD P w K mg base CX0 2 "_law_is_one" spIsOne) :
    FnOk P w K mg base CX0 28 f fd ["hall", "pairs", "many"] (spRight9 C) := by
  refine F.ok sc_right (fun vs H Q E h => ?_) (fun cdv A outer s H vs Q E hr h => ?_)
  · obtain ⟨p, l, d, n, L, E, rfl, _⟩ := h
    rfl
  · obtain ⟨p, l, d, n, L, E, rfl, hall, hP, wf, eqv, n12, q⟩ := h
    obtain ⟨ps, hps, rps⟩ := hP.ex
    have n20 := hall.hi
    refine ⟨_, pss_cons (ps_set (i := 3) sc_right.nd rfl (Or.inl rfl) pe_dnewT)
      (pss_cons (ps_for PassesOwn.never rfl (pi_list (pv 1)) (pg_name (i := 4) sc_right.nd rfl (Or.inl rfl)) (pss_one (ps_dput (hu_of hr) (pv 3) (pv 4) pe_bl rfl)))
      (pss_cons (ps_for PassesOwn.never rfl (pi_range1 (by rfl) T.range (pa_cons pe_int pa_nil)) (pg_name (i := 5) sc_right.nd rfl (Or.inl rfl))
        (pss_cons (ps_set (i := 6) sc_right.nd rfl (Or.inl rfl) (pc cC hr pass0 (pa_cons (pv 0) pa_nil)))
        (pss_cons (ps_set (i := 7) sc_right.nd rfl (Or.inl rfl) (pc cU hr pass0 (pa_cons (pv 0) pa_nil)))
        (pss_cons (ps_if (PW.pt (pw_or (pt_not (pt_val (pc cO hr pass0 (pa_cons (pv 6) (pa_cons (pv 3) (pa_cons (pv 2) (pa_cons pe_bl pa_nil)))))))
          (pw_or1 (pt_not (pt_val (pc cO hr pass0 (pa_cons (pv 7) (pa_cons (pv 3) (pa_cons (pv 2) (pa_cons pe_bl pa_nil)))))))))) (pss_one (ps_ret pe_bl)) pss_nil)
        (pss_cons (ps_expr (pe_bm0 PySem.F.plainAttrs_list PySem.F.slot_list_clear PySem.F.type_list_clear mt_clear (pv 6)))
        (pss_one (ps_expr (pe_bm0 PySem.F.plainAttrs_list PySem.F.slot_list_clear PySem.F.type_list_clear mt_clear (pv 7)))))))))
      (pss_one (ps_ret pe_bl)))), ?_⟩
    intro d0 hd0
    have sd : Same H (upd H d0 (.dT [])) := same_new _ hd0
    refine ⟨_, rfl, l, rfl, ⟨_, SqL.of (sd _ _ hps)⟩, for_list (K := K) (a := l) (xs := ps) (fun i σ H' => ∃ v4, σ = [some (.ref p), some (.ref l), some (.int (n : Int)), some (.ref d0), v4, none, none, none] ∧ Same H H' ∧ H' d0 = some (.dT (kvs (E.take i))))
      ⟨none, rfl, sd, upd_same⟩ (fun i σ H' _ ⟨_, _, s1, _⟩ => SqL.of (s1 _ _ hps)) ?_ ?_⟩
    · rintro i v σ H1 hi ⟨v4, rfl, s1, hd1⟩
      obtain ⟨pr, hp, hv⟩ := (rps.keep (fun b ys z => s1 b _ z)).get hi
      obtain ⟨a, rfl, ha⟩ := hv
      refine ⟨_, rfl, _, rfl, d0, _, rfl, DPut.t (k := kP pr) hd1 ha ?_, ?_⟩
      · rw [length_kvs]
        refine Nat.lt_of_le_of_lt (m := 400) ?_ (by decide)
        have z1 := wf.len n20
        have z2 := List.length_take_le' i E
        omega
      · refine ⟨_, rfl, same_keepNew s1 hd0 (Keep.put d0 _), ?_⟩
        rw [upd_same, put_kvs (take_notin wf.1 hp), take_more hp]
    · rintro σ H1 ⟨v4, rfl, s1, hd1⟩
      rw [Paired.length rps, List.take_length] at hd1
      refine ⟨2, rfl, by decide, by decide, for_range (lo := 0) (n := 2) (fun i σ H' => ∃ v5 v6 v7 : Option V, σ = [some (.ref p), some (.ref l), some (.int (n : Int)), some (.ref d0), v4, v5, v6, v7] ∧ Same H1 H') ⟨_, _, _, rfl, Same.refl _⟩ ?_ ?_⟩
      · rintro i σ H2 hi ⟨v5, v6, v7, rfl, s2⟩
        rw [Int.zero_add]
        have S2 := s1.trans s2
        refine ⟨_, rfl, p, d, n, L, rfl, hall.same S2, fun H3 a r s3 na h3 b3 => ?_⟩
        refine ⟨_, rfl, p, d, n, L, rfl, hall.same (S2.trans s3), fun H4 u r2 s4 nu h4 b4 => ?_⟩
        have h3' := s4 _ _ h3
        have hd4 := s4 _ _ (s3 _ _ (s2 _ _ hd1))
        refine ⟨_, rfl, _, rfl, _, rfl, a, d0, n, E, true, r, rfl, h3', hd4, n12, best_known eqv b3, fun H5 s5 => ⟨true, rfl, iteF ?_⟩⟩
        refine ⟨_, rfl, _, rfl, _, rfl, u, d0, n, E, false, r2, rfl, s5 _ _ h4, s5 _ _ hd4, n12, best_unknown eqv b4, fun H6 s6 => ⟨true, rfl, iteF ?_⟩⟩
        have s56 := s5.trans s6
        have h36 := s56 _ _ h3'
        have h46 := s56 _ _ h4
        have nau : a ≠ u := ne_of_none h3 nu
        have nu1 : H1 u = none := s2.free (s3.free nu)
        have na1 : H1 a = none := s2.free na
        refine ⟨_, rfl, .inl ⟨rfl, _, SqL.of h36⟩, a, _, rfl, rfl, h36, ?_⟩
        have h47 : upd H6 a (.lst []) u = some (.lst (iV r2)) := by
          rw [upd_ne nau.symm]
          exact h46
        refine ⟨_, rfl, .inl ⟨rfl, _, SqL.of h47⟩, u, _, rfl, rfl, h47, ?_⟩
        have S6 : Same H1 H6 := s2.trans (s3.trans (s4.trans s56))
        exact ⟨_, _, _, rfl, same_keepNew (same_keepNew S6 na1 (Keep.put a _)) nu1 (Keep.put u _)⟩
      · rintro σ H2 ⟨v5, v6, v7, rfl, s2⟩
        exact q _ (s1.trans s2)
theorem sc_law : FnScope ["script", "many", "pairs", "hall"] ["script"] (defScope st_law) := ⟨rfl, rfl, rfl, by decide +kernel, rfl, by decide +kernel, by decide +kernel⟩
theorem ok_law {f : Addr} {fd : FuncData} (F : Fun K "law" "law" st_law f fd)
    (cC : CalD P w K mg base CX0 1 "_law_cell_at" (spCell K)) (cP : CalD P w K mg base CX0 2 "_law_pairs_by" (spPairsBy K))
    (cH : CalD P w K mg base CX0 5 "_law_hall_of" (spHallOf C)) (cT : CalD P w K mg base CX0 5 "_law_turn_one" (spTurnOne C)) (cR : CalD P w K mg base CX0 28 "_law_right" (spRight9 C)) :
    FnOk P w K mg base CX0 29 f fd ["script"] (spLaw K) := by
  refine F.ok sc_law (fun vs H Q E h => ?_) (fun cdv A outer s H vs Q E hr h => ?_)
  · obtain ⟨a, ns, rfl, _⟩ := h
    rfl
  · obtain ⟨a, ns, rfl, hS, h63, q⟩ := h
    refine ⟨_, pss_cons (ps_set (i := 1) sc_law.nd rfl (Or.inl rfl) (pe_op op_add pe_int (pe_op op_mod (pc cC hr pass0 (pa_cons (pv 0) (pa_cons pe_int pa_nil))) pe_int)))
      (pss_cons (ps_join (ps_if (pt_cmpR op_eq (pe_op op_mod (pe_op op_fdiv (pc cC hr pass0 (pa_cons (pv 0) (pa_cons pe_int pa_nil))) pe_int) pe_int) pe_int (nomark _))
        (pss_one (ps_set (i := 1) sc_law.nd rfl (Or.inl rfl) (pe_op op_add pe_int (pe_op op_mod (pe_op op_fdiv (pc cC hr pass0 (pa_cons (pv 0) (pa_cons pe_int pa_nil))) pe_int) pe_int)))) pss_nil))
      (pss_cons (ps_set (i := 2) sc_law.nd rfl (Or.inl rfl) (pc cP hr pass0 (pa_cons (pv 0) (pa_cons pe_int (pa_cons (pv 1) pa_nil)))))
      (pss_cons (ps_set (i := 3) sc_law.nd rfl (Or.inl rfl) (pc cH hr pass0 (pa_cons (pv 1) (pa_cons (pv 2) pa_nil))))
      (pss_cons (ps_if (pt_not (pt_val (pc cR hr pass0 (pa_cons (pv 3) (pa_cons (pv 2) (pa_cons (pv 1) pa_nil)))))) (pss_one (ps_ret pe_bl)) pss_nil)
      (pss_cons (ps_expr (pc cT hr pass0 (pa_cons (pv 3) (pa_cons (pv 2) (pa_cons (pv 1) (pa_cons (pc cC hr pass0 (pa_cons (pv 0) (pa_cons pe_int pa_nil))) pa_nil))))))
      (pss_one (ps_ret (pc cR hr pass0 (pa_cons (pv 3) (pa_cons (pv 2) (pa_cons (pv 1) pa_nil))))))))))), ?_⟩
    refine ⟨_, rfl, a, ns, 0, rfl, hS, _, _, rfl, rfl, (by show (0 : Int) < 8; decide), _, _, rfl, rfl, ?_⟩
    have f1 : 0 ≤ ns.getD 0 0 % 8 := Int.emod_nonneg _ (by decide)
    have f2 : ns.getD 0 0 % 8 < 8 := Int.emod_lt_of_pos _ (by decide)
    have f3 : 0 ≤ ns.getD 0 0 / 64 % 4 := Int.emod_nonneg _ (by decide)
    have f4 : ns.getD 0 0 / 64 % 4 < 4 := Int.emod_lt_of_pos _ (by decide)
    refine ⟨fun σ' H' => ∃ n : Nat, σ' = [some (.ref a), some (.int (n : Int)), none, none] ∧ H' = H ∧ 1 ≤ n ∧ n ≤ 12, ?_, ?_⟩
    · refine ⟨_, rfl, a, ns, 0, rfl, hS, _, _, rfl, rfl, ⟨by decide, by decide⟩, _, _, rfl, rfl, (by show (0 : Int) < 8; decide), rfl, _, rfl, ite2 (fun c => ?_) (fun c => ?_)⟩
      · refine ⟨_, rfl, a, ns, 0, rfl, hS, _, _, rfl, rfl, ⟨by decide, by decide⟩, _, _, rfl, rfl, (by show (0 : Int) < 4; decide), _, _, rfl, rfl, ?_⟩
        refine ⟨(9 + ns.getD 0 0 / 64 % 4).toNat, ?_, rfl, by omega, by omega⟩
        show [some (V.ref a), some (V.int (9 + ns.getD 0 0 / 64 % 4)), none, none] = _
        rw [Int.toNat_of_nonneg (by omega)]
      · refine ⟨(1 + ns.getD 0 0 % 8).toNat, ?_, rfl, by omega, by omega⟩
        show [some (V.ref a), some (V.int (1 + ns.getD 0 0 % 8)), none, none] = _
        rw [Int.toNat_of_nonneg (by omega)]
    · rintro σ' H' ⟨n, rfl, rfl, n1, n12⟩
      have n20 : n ≤ 20 := by omega
      refine ⟨_, rfl, _, rfl, a, ns, 3, n, rfl, hS, n1, n20, fun H1 l E s1 _ hP wf _ => ?_⟩
      refine ⟨_, rfl, _, rfl, l, n, E, rfl, hP, wf, n1, n20, fun H2 x d s2 _ _ hall => ?_⟩
      have hP2 := hP.same s2
      refine ⟨_, rfl, _, rfl, _, rfl, x, l, d, n, E, E, rfl, hall, hP2, wf, Eqv.refl E, n12, fun H3 s3 => ?_⟩
      refine ⟨true, rfl, iteF ?_⟩
      refine ⟨_, rfl, _, rfl, _, rfl, _, rfl, a, ns, 1, rfl, (((s1.trans s2).trans s3).seq hS), ?_⟩
      refine ⟨x, l, d, n, E, E, _, rfl, hall.same s3, hP2.same s3, wf, Eqv.refl E, fun H5 L' E' _ hall5 hP5 wf5 eqv5 => ?_⟩
      exact ⟨_, rfl, _, rfl, _, rfl, x, l, d, n, L', E', rfl, hall5, hP5, wf5, eqv5, n12, fun H6 _ => q H6⟩
end
end KT

/-! what the top has written, each def in order -/
namespace KT
open PySem PySem.Spec PyProof.Rows L2
theorem all_mk {P : Program} {w : World} {K : PySem.W.Frag} {h : Heap} {mg : Str → Option Value} {fa C cNG cSG cKA cST cBH f0 f1 f2 f3 f4 f5 f6 f7 f8 f9 f10 f11 f12 f13 f14 f15 f16 f17 f18 f19 f20 : Addr} {tgr : Tok}  (X : K.In h) (G : h.Ns mainGlobals mg) (hfa : mg "law" = some (.ref fa))
    {od0 an0 od1 an1 od2 an2 od3 an3 od4 an4 od5 an5 od6 an6 od7 an7 od8 an8 od9 an9 od10 an10 od11 an11 od12 an12 od13 an13 od14 an14 od15 an15 od16 an16 od17 an17 od18 an18 od19 an19 od20 an20 : Option Addr} {sl0 sl1 sl2 sl3 sl4 sl5 sl6 sl7 sl8 sl9 sl10 sl11 sl12 sl13 sl14 sl15 sl16 sl17 sl18 sl19 sl20 : Array (Option Value)} {oc0 kV0 dc0 pm0 cd0 ct0 oc1 kV1 dc1 pm1 cd1 ct1 oc2 kV2 dc2 pm2 cd2 ct2 oc3 kV3 dc3 pm3 cd3 ct3 oc4 kV4 dc4 pm4 cd4 ct4 oc5 kV5 dc5 pm5 cd5 ct5 oc6 kV6 dc6 pm6 cd6 ct6 oc7 kV7 dc7 pm7 cd7 ct7 oc8 kV8 dc8 pm8 cd8 ct8 oc9 kV9 dc9 pm9 cd9 ct9 oc10 kV10 dc10 pm10 cd10 ct10 oc11 kV11 dc11 pm11 cd11 ct11 oc12 kV12 dc12 pm12 cd12 ct12 oc13 kV13 dc13 pm13 cd13 ct13 oc14 kV14 dc14 pm14 cd14 ct14 oc15 kV15 dc15 pm15 cd15 ct15 oc16 kV16 dc16 pm16 cd16 ct16 oc17 kV17 dc17 pm17 cd17 ct17 oc18 kV18 dc18 pm18 cd18 ct18 oc19 kV19 dc19 pm19 cd19 ct19 oc20 kV20 dc20 pm20 cd20 ct20 : Value}
    (aC : PySem.W.nsIn K mainGlobals "Hall" = some (some (.ref C)))
    (gcNG : PySem.W.nsIn K mainGlobals "NoGuest" = some (some (.ref cNG)))
    (ecNG : PySem.W.excIn K cNG [.type "ValueError", .type "Exception", .type "BaseException", .type "object"] "ValueError.__new__" = true)
    (kcNG : PySem.W.keepIn K (.ref cNG) = true)
    (bcNG : PySem.W.subIn K (.ref cNG) (.type "BaseException") = some true)
    (tcNG : PySem.W.typeIn K (.ref cNG) = some (.type "type"))
    (gcSG : PySem.W.nsIn K mainGlobals "SameGuest" = some (some (.ref cSG)))
    (ecSG : PySem.W.excIn K cSG [.type "ValueError", .type "Exception", .type "BaseException", .type "object"] "ValueError.__new__" = true)
    (kcSG : PySem.W.keepIn K (.ref cSG) = true)
    (bcSG : PySem.W.subIn K (.ref cSG) (.type "BaseException") = some true)
    (tcSG : PySem.W.typeIn K (.ref cSG) = some (.type "type"))
    (gcKA : PySem.W.nsIn K mainGlobals "KnowAlready" = some (some (.ref cKA)))
    (ecKA : PySem.W.excIn K cKA [.type "ValueError", .type "Exception", .type "BaseException", .type "object"] "ValueError.__new__" = true)
    (kcKA : PySem.W.keepIn K (.ref cKA) = true)
    (bcKA : PySem.W.subIn K (.ref cKA) (.type "BaseException") = some true)
    (tcKA : PySem.W.typeIn K (.ref cKA) = some (.type "type"))
    (gcST : PySem.W.nsIn K mainGlobals "Strangers" = some (some (.ref cST)))
    (ecST : PySem.W.excIn K cST [.type "ValueError", .type "Exception", .type "BaseException", .type "object"] "ValueError.__new__" = true)
    (kcST : PySem.W.keepIn K (.ref cST) = true)
    (bcST : PySem.W.subIn K (.ref cST) (.type "BaseException") = some true)
    (tcST : PySem.W.typeIn K (.ref cST) = some (.type "type"))
    (gcBH : PySem.W.nsIn K mainGlobals "BadHall" = some (some (.ref cBH)))
    (ecBH : PySem.W.excIn K cBH [.type "ValueError", .type "Exception", .type "BaseException", .type "object"] "ValueError.__new__" = true)
    (kcBH : PySem.W.keepIn K (.ref cBH) = true)
    (bcBH : PySem.W.subIn K (.ref cBH) (.type "BaseException") = some true)
    (tcBH : PySem.W.typeIn K (.ref cBH) = some (.type "type"))
    (gr : PySem.W.nsIn K mainGlobals "GREATEST" = some (some (.int 20 tgr)))
    (a0 : PySem.W.findIn K (.ref C) "__init__" = some (some (.ref f0)))
    (i0 : PySem.W.isFn K (.ref f0) = true)
    (l0 : K.lookup f0 = some ⟨oc0, od0, .func (PySem.W.fnOf "__init__" "Hall.__init__" (defArgs st_Hall_init) (defBody st_Hall_init) (defScope st_Hall_init) .none kV0 dc0 pm0 an0 cd0 ct0), sl0⟩)
    (c0 : PySem.W.codeIn K cd0 "Hall.__init__" = true)
    (k0 : PySem.W.keepIn K (.ref f0) = true)
    (a1 : PySem.W.findIn K (.ref C) "many" = some (some (.ref f1)))
    (i1 : PySem.W.isFn K (.ref f1) = true)
    (l1 : K.lookup f1 = some ⟨oc1, od1, .func (PySem.W.fnOf "many" "Hall.many" (defArgs st_Hall_many) (defBody st_Hall_many) (defScope st_Hall_many) .none kV1 dc1 pm1 an1 cd1 ct1), sl1⟩)
    (c1 : PySem.W.codeIn K cd1 "Hall.many" = true)
    (k1 : PySem.W.keepIn K (.ref f1) = true)
    (a2 : PySem.W.findIn K (.ref C) "see" = some (some (.ref f2)))
    (i2 : PySem.W.isFn K (.ref f2) = true)
    (l2 : K.lookup f2 = some ⟨oc2, od2, .func (PySem.W.fnOf "see" "Hall.see" (defArgs st_Hall_see) (defBody st_Hall_see) (defScope st_Hall_see) .none kV2 dc2 pm2 an2 cd2 ct2), sl2⟩)
    (c2 : PySem.W.codeIn K cd2 "Hall.see" = true)
    (k2 : PySem.W.keepIn K (.ref f2) = true)
    (a3 : PySem.W.findIn K (.ref C) "see_two" = some (some (.ref f3)))
    (i3 : PySem.W.isFn K (.ref f3) = true)
    (l3 : K.lookup f3 = some ⟨oc3, od3, .func (PySem.W.fnOf "see_two" "Hall.see_two" (defArgs st_Hall_see_two) (defBody st_Hall_see_two) (defScope st_Hall_see_two) .none kV3 dc3 pm3 an3 cd3 ct3), sl3⟩)
    (c3 : PySem.W.codeIn K cd3 "Hall.see_two" = true)
    (k3 : PySem.W.keepIn K (.ref f3) = true)
    (a4 : PySem.W.findIn K (.ref C) "know" = some (some (.ref f4)))
    (i4 : PySem.W.isFn K (.ref f4) = true)
    (l4 : K.lookup f4 = some ⟨oc4, od4, .func (PySem.W.fnOf "know" "Hall.know" (defArgs st_Hall_know) (defBody st_Hall_know) (defScope st_Hall_know) .none kV4 dc4 pm4 an4 cd4 ct4), sl4⟩)
    (c4 : PySem.W.codeIn K cd4 "Hall.know" = true)
    (k4 : PySem.W.keepIn K (.ref f4) = true)
    (a5 : PySem.W.findIn K (.ref C) "meet" = some (some (.ref f5)))
    (i5 : PySem.W.isFn K (.ref f5) = true)
    (l5 : K.lookup f5 = some ⟨oc5, od5, .func (PySem.W.fnOf "meet" "Hall.meet" (defArgs st_Hall_meet) (defBody st_Hall_meet) (defScope st_Hall_meet) .none kV5 dc5 pm5 an5 cd5 ct5), sl5⟩)
    (c5 : PySem.W.codeIn K cd5 "Hall.meet" = true)
    (k5 : PySem.W.keepIn K (.ref f5) = true)
    (a6 : PySem.W.findIn K (.ref C) "part" = some (some (.ref f6)))
    (i6 : PySem.W.isFn K (.ref f6) = true)
    (l6 : K.lookup f6 = some ⟨oc6, od6, .func (PySem.W.fnOf "part" "Hall.part" (defArgs st_Hall_part) (defBody st_Hall_part) (defScope st_Hall_part) .none kV6 dc6 pm6 an6 cd6 ct6), sl6⟩)
    (c6 : PySem.W.codeIn K cd6 "Hall.part" = true)
    (k6 : PySem.W.keepIn K (.ref f6) = true)
    (a7 : PySem.W.findIn K (.ref C) "strangers" = some (some (.ref f7)))
    (i7 : PySem.W.isFn K (.ref f7) = true)
    (l7 : K.lookup f7 = some ⟨oc7, od7, .func (PySem.W.fnOf "strangers" "Hall.strangers" (defArgs st_Hall_strangers) (defBody st_Hall_strangers) (defScope st_Hall_strangers) .none kV7 dc7 pm7 an7 cd7 ct7), sl7⟩)
    (c7 : PySem.W.codeIn K cd7 "Hall.strangers" = true)
    (k7 : PySem.W.keepIn K (.ref f7) = true)
    (a8 : PySem.W.nsIn K mainGlobals "turned" = some (some (.ref f8)))
    (l8 : K.lookup f8 = some ⟨oc8, od8, .func (PySem.W.fnOf "turned" "turned" (defArgs st_turned) (defBody st_turned) (defScope st_turned) .none kV8 dc8 pm8 an8 cd8 ct8), sl8⟩)
    (c8 : PySem.W.codeIn K cd8 "turned" = true)
    (k8 : PySem.W.keepIn K (.ref f8) = true)
    (a9 : PySem.W.nsIn K mainGlobals "grown" = some (some (.ref f9)))
    (l9 : K.lookup f9 = some ⟨oc9, od9, .func (PySem.W.fnOf "grown" "grown" (defArgs st_grown) (defBody st_grown) (defScope st_grown) .none kV9 dc9 pm9 an9 cd9 ct9), sl9⟩)
    (c9 : PySem.W.codeIn K cd9 "grown" = true)
    (k9 : PySem.W.keepIn K (.ref f9) = true)
    (a10 : PySem.W.nsIn K mainGlobals "crowd" = some (some (.ref f10)))
    (l10 : K.lookup f10 = some ⟨oc10, od10, .func (PySem.W.fnOf "crowd" "crowd" (defArgs st_crowd) (defBody st_crowd) (defScope st_crowd) .none kV10 dc10 pm10 an10 cd10 ct10), sl10⟩)
    (c10 : PySem.W.codeIn K cd10 "crowd" = true)
    (k10 : PySem.W.keepIn K (.ref f10) = true)
    (a11 : PySem.W.nsIn K mainGlobals "unknown_crowd" = some (some (.ref f11)))
    (l11 : K.lookup f11 = some ⟨oc11, od11, .func (PySem.W.fnOf "unknown_crowd" "unknown_crowd" (defArgs st_unknown_crowd) (defBody st_unknown_crowd) (defScope st_unknown_crowd) .none kV11 dc11 pm11 an11 cd11 ct11), sl11⟩)
    (c11 : PySem.W.codeIn K cd11 "unknown_crowd" = true)
    (k11 : PySem.W.keepIn K (.ref f11) = true)
    (a12 : PySem.W.nsIn K mainGlobals "_law_cell_at" = some (some (.ref f12)))
    (l12 : K.lookup f12 = some ⟨oc12, od12, .func (PySem.W.fnOf "_law_cell_at" "_law_cell_at" (defArgs st_l_cell_at) (defBody st_l_cell_at) (defScope st_l_cell_at) .none kV12 dc12 pm12 an12 cd12 ct12), sl12⟩)
    (c12 : PySem.W.codeIn K cd12 "_law_cell_at" = true)
    (k12 : PySem.W.keepIn K (.ref f12) = true)
    (a13 : PySem.W.nsIn K mainGlobals "_law_whole" = some (some (.ref f13)))
    (l13 : K.lookup f13 = some ⟨oc13, od13, .func (PySem.W.fnOf "_law_whole" "_law_whole" (defArgs st_l_whole) (defBody st_l_whole) (defScope st_l_whole) .none kV13 dc13 pm13 an13 cd13 ct13), sl13⟩)
    (c13 : PySem.W.codeIn K cd13 "_law_whole" = true)
    (k13 : PySem.W.keepIn K (.ref f13) = true)
    (a14 : PySem.W.nsIn K mainGlobals "_law_pairs_by" = some (some (.ref f14)))
    (l14 : K.lookup f14 = some ⟨oc14, od14, .func (PySem.W.fnOf "_law_pairs_by" "_law_pairs_by" (defArgs st_l_pairs_by) (defBody st_l_pairs_by) (defScope st_l_pairs_by) .none kV14 dc14 pm14 an14 cd14 ct14), sl14⟩)
    (c14 : PySem.W.codeIn K cd14 "_law_pairs_by" = true)
    (k14 : PySem.W.keepIn K (.ref f14) = true)
    (a15 : PySem.W.nsIn K mainGlobals "_law_hall_of" = some (some (.ref f15)))
    (l15 : K.lookup f15 = some ⟨oc15, od15, .func (PySem.W.fnOf "_law_hall_of" "_law_hall_of" (defArgs st_l_hall_of) (defBody st_l_hall_of) (defScope st_l_hall_of) .none kV15 dc15 pm15 an15 cd15 ct15), sl15⟩)
    (c15 : PySem.W.codeIn K cd15 "_law_hall_of" = true)
    (k15 : PySem.W.keepIn K (.ref f15) = true)
    (a16 : PySem.W.nsIn K mainGlobals "_law_turn_one" = some (some (.ref f16)))
    (l16 : K.lookup f16 = some ⟨oc16, od16, .func (PySem.W.fnOf "_law_turn_one" "_law_turn_one" (defArgs st_l_turn_one) (defBody st_l_turn_one) (defScope st_l_turn_one) .none kV16 dc16 pm16 an16 cd16 ct16), sl16⟩)
    (c16 : PySem.W.codeIn K cd16 "_law_turn_one" = true)
    (k16 : PySem.W.keepIn K (.ref f16) = true)
    (a17 : PySem.W.nsIn K mainGlobals "_law_most" = some (some (.ref f17)))
    (l17 : K.lookup f17 = some ⟨oc17, od17, .func (PySem.W.fnOf "_law_most" "_law_most" (defArgs st_l_most) (defBody st_l_most) (defScope st_l_most) .none kV17 dc17 pm17 an17 cd17 ct17), sl17⟩)
    (c17 : PySem.W.codeIn K cd17 "_law_most" = true)
    (k17 : PySem.W.keepIn K (.ref f17) = true)
    (a18 : PySem.W.nsIn K mainGlobals "_law_is_one" = some (some (.ref f18)))
    (l18 : K.lookup f18 = some ⟨oc18, od18, .func (PySem.W.fnOf "_law_is_one" "_law_is_one" (defArgs st_l_is_one) (defBody st_l_is_one) (defScope st_l_is_one) .none kV18 dc18 pm18 an18 cd18 ct18), sl18⟩)
    (c18 : PySem.W.codeIn K cd18 "_law_is_one" = true)
    (k18 : PySem.W.keepIn K (.ref f18) = true)
    (a19 : PySem.W.nsIn K mainGlobals "_law_right" = some (some (.ref f19)))
    (l19 : K.lookup f19 = some ⟨oc19, od19, .func (PySem.W.fnOf "_law_right" "_law_right" (defArgs st_l_right) (defBody st_l_right) (defScope st_l_right) .none kV19 dc19 pm19 an19 cd19 ct19), sl19⟩)
    (c19 : PySem.W.codeIn K cd19 "_law_right" = true)
    (k19 : PySem.W.keepIn K (.ref f19) = true)
    (a20 : PySem.W.nsIn K mainGlobals "law" = some (some (.ref f20)))
    (l20 : K.lookup f20 = some ⟨oc20, od20, .func (PySem.W.fnOf "law" "law" (defArgs st_law) (defBody st_law) (defScope st_law) .none kV20 dc20 pm20 an20 cd20 ct20), sl20⟩)
    (c20 : PySem.W.codeIn K cd20 "law" = true)
    (k20 : PySem.W.keepIn K (.ref f20) = true)
    (pg : PySem.W.plainGet K C Str.empty = true)
    (hd : PySem.W.hasDictIn K C = true)
    (po : PySem.W.plainOver K C = true)
    (sa : PySem.W.findIn K (.ref C) "__setattr__" = some (some (.builtin "object.__setattr__")))
    (mk : PySem.W.makesIn K C = true)
    (kc : PySem.W.keepIn K (.ref C) = true)
    (nC : PySem.W.findIn K (.ref C) "count" = some none)
    (nP : PySem.W.findIn K (.ref C) "pairs" = some none)
    (z_enumerate : PySem.W.nsIn K mainGlobals "enumerate" = some none)
    (z_list : PySem.W.nsIn K mainGlobals "list" = some none)
    (z_len : PySem.W.nsIn K mainGlobals "len" = some none)
    (z_isinstance : PySem.W.nsIn K mainGlobals "isinstance" = some none)
    (z_int : PySem.W.nsIn K mainGlobals "int" = some none)
    (z_bool : PySem.W.nsIn K mainGlobals "bool" = some none)
    (z_range : PySem.W.nsIn K mainGlobals "range" = some none)
    (z_sorted : PySem.W.nsIn K mainGlobals "sorted" = some none)
    (z_max : PySem.W.nsIn K mainGlobals "max" = some none)
    (z_min : PySem.W.nsIn K mainGlobals "min" = some none)
    : ∃ fd : FuncData, (∀ (s : Shared) (v : Value), BindsTo s fd ⟨[v], []⟩ [("script", v)]) ∧ ∀ base : Heap, K.In base → base.Ns mainGlobals mg → FnOk P w K mg base CX0 29 fa fd ["script"] (spLaw K) := by
  have e := hfa.symm.trans (PySem.W.mg_of X G a20)
  cases e
  have T : HT K mg C cNG cSG cKA cST cBH := ⟨⟨pg, hd, po, sa⟩, nC, nP, ⟨PySem.W.mg_of X G gcNG, ecNG, kcNG, bcNG, tcNG⟩, ⟨PySem.W.mg_of X G gcSG, ecSG, kcSG, bcSG, tcSG⟩, ⟨PySem.W.mg_of X G gcKA, ecKA, kcKA, bcKA, tcKA⟩, ⟨PySem.W.mg_of X G gcST, ecST, kcST, bcST, tcST⟩, ⟨PySem.W.mg_of X G gcBH, ecBH, kcBH, bcBH, tcBH⟩, ⟨tgr, PySem.W.mg_of X G gr⟩, PySem.W.mg_none_of X G z_min, PySem.W.mg_none_of X G z_max, PySem.W.mg_none_of X G z_range, PySem.W.mg_none_of X G z_len⟩
  have F0 := fun_mk (st := st_Hall_init) l0 c0 k0
  have b0 := F0.binds (ps := ["self", "many"]) fun _ _ _ _ _ _ us hl => match us, hl with | [_, _], _ => rfl
  have F1 := fun_mk (st := st_Hall_many) l1 c1 k1
  have b1 := F1.binds (ps := ["self"]) fun _ _ _ _ _ _ us hl => match us, hl with | [_], _ => rfl
  have F2 := fun_mk (st := st_Hall_see) l2 c2 k2
  have b2 := F2.binds (ps := ["self", "guest"]) fun _ _ _ _ _ _ us hl => match us, hl with | [_, _], _ => rfl
  have F3 := fun_mk (st := st_Hall_see_two) l3 c3 k3
  have b3 := F3.binds (ps := ["self", "one", "other"]) fun _ _ _ _ _ _ us hl => match us, hl with | [_, _, _], _ => rfl
  have F4 := fun_mk (st := st_Hall_know) l4 c4 k4
  have b4 := F4.binds (ps := ["self", "one", "other"]) fun _ _ _ _ _ _ us hl => match us, hl with | [_, _, _], _ => rfl
  have F5 := fun_mk (st := st_Hall_meet) l5 c5 k5
  have b5 := F5.binds (ps := ["self", "one", "other"]) fun _ _ _ _ _ _ us hl => match us, hl with | [_, _, _], _ => rfl
  have F6 := fun_mk (st := st_Hall_part) l6 c6 k6
  have b6 := F6.binds (ps := ["self", "one", "other"]) fun _ _ _ _ _ _ us hl => match us, hl with | [_, _, _], _ => rfl
  have F7 := fun_mk (st := st_Hall_strangers) l7 c7 k7
  have b7 := F7.binds (ps := ["self", "guest"]) fun _ _ _ _ _ _ us hl => match us, hl with | [_, _], _ => rfl
  have F8 := fun_mk (st := st_turned) l8 c8 k8
  have b8 := F8.binds (ps := ["hall"]) fun _ _ _ _ _ _ us hl => match us, hl with | [_], _ => rfl
  have F9 := fun_mk (st := st_grown) l9 c9 k9
  have b9 := F9.binds (ps := ["hall", "begun", "rest"]) fun _ _ _ _ _ _ us hl => match us, hl with | [_, _, _], _ => rfl
  have F10 := fun_mk (st := st_crowd) l10 c10 k10
  have b10 := F10.binds (ps := ["hall"]) fun _ _ _ _ _ _ us hl => match us, hl with | [_], _ => rfl
  have F11 := fun_mk (st := st_unknown_crowd) l11 c11 k11
  have b11 := F11.binds (ps := ["hall"]) fun _ _ _ _ _ _ us hl => match us, hl with | [_], _ => rfl
  have F12 := fun_mk (st := st_l_cell_at) l12 c12 k12
  have b12 := F12.binds (ps := ["script", "k"]) fun _ _ _ _ _ _ us hl => match us, hl with | [_, _], _ => rfl
  have F13 := fun_mk (st := st_l_whole) l13 c13 k13
  have b13 := F13.binds (ps := ["found"]) fun _ _ _ _ _ _ us hl => match us, hl with | [_], _ => rfl
  have F14 := fun_mk (st := st_l_pairs_by) l14 c14 k14
  have b14 := F14.binds (ps := ["script", "first", "many"]) fun _ _ _ _ _ _ us hl => match us, hl with | [_, _, _], _ => rfl
  have F15 := fun_mk (st := st_l_hall_of) l15 c15 k15
  have b15 := F15.binds (ps := ["many", "pairs"]) fun _ _ _ _ _ _ us hl => match us, hl with | [_, _], _ => rfl
  have F16 := fun_mk (st := st_l_turn_one) l16 c16 k16
  have b16 := F16.binds (ps := ["hall", "pairs", "many", "cell"]) fun _ _ _ _ _ _ us hl => match us, hl with | [_, _, _, _], _ => rfl
  have F17 := fun_mk (st := st_l_most) l17 c17 k17
  have b17 := F17.binds (ps := ["pairs", "many", "known"]) fun _ _ _ _ _ _ us hl => match us, hl with | [_, _, _], _ => rfl
  have F18 := fun_mk (st := st_l_is_one) l18 c18 k18
  have b18 := F18.binds (ps := ["found", "pairs", "many", "known"]) fun _ _ _ _ _ _ us hl => match us, hl with | [_, _, _, _], _ => rfl
  have F19 := fun_mk (st := st_l_right) l19 c19 k19
  have b19 := F19.binds (ps := ["hall", "pairs", "many"]) fun _ _ _ _ _ _ us hl => match us, hl with | [_, _, _], _ => rfl
  have F20 := fun_mk (st := st_law) l20 c20 k20
  refine ⟨PySem.W.fnOf "law" "law" (defArgs st_law) (defBody st_law) (defScope st_law) .none kV20 dc20 pm20 an20 cd20 ct20, fun s v => .of_eq rfl, fun base _ _ => ?_⟩
  have G0 : FnOk P w K mg base (L2N.CX P w) 1 f0 _ _ (spInit C cBH) := ok_init F0 T
  have B0 : MakD P w K mg base (L2N.CX P w) C 1 "Hall" (spInit C cBH) := ⟨_, _, _, ⟨mk, a0, i0, kc⟩, G0, b0, PySem.W.mg_of X G aC⟩
  have G1 : FnOk P w K mg base CX0 1 f1 _ _ (spMany C) := ok_many F1 T
  have B1 : MetD P w K mg base CX0 C 1 "many" (spMany C) := ⟨_, _, _, G1, b1, ⟨a1, i1, k1⟩⟩
  have G2 : FnOk P w K mg base (L2N.CX P w) 1 f2 _ _ (spSee C cNG) := ok_see F2 T
  have B2 : MetD P w K mg base (L2N.CX P w) C 1 "see" (spSee C cNG) := ⟨_, _, _, G2, b2, ⟨a2, i2, k2⟩⟩
  have G3 : FnOk P w K mg base (L2N.CX P w) 2 f3 _ _ (spSeeTwo C cNG cSG) := ok_see_two F3 T B2
  have B3 : MetD P w K mg base (L2N.CX P w) C 2 "see_two" (spSeeTwo C cNG cSG) := ⟨_, _, _, G3, b3, ⟨a3, i3, k3⟩⟩
  have G4 : FnOk P w K mg base (L2N.CX P w) 3 f4 _ _ (spKnow C cNG cSG) := ok_know F4 T B3
  have B4 : MetD P w K mg base (L2N.CX P w) C 3 "know" (spKnow C cNG cSG) := ⟨_, _, _, G4, b4, ⟨a4, i4, k4⟩⟩
  have G5 : FnOk P w K mg base (L2N.CX P w) 4 f5 _ _ (spMeet C cNG cSG cKA) := ok_meet F5 T B4
  have B5 : MetD P w K mg base (L2N.CX P w) C 4 "meet" (spMeet C cNG cSG cKA) := ⟨_, _, _, G5, b5, ⟨a5, i5, k5⟩⟩
  have G6 : FnOk P w K mg base (L2N.CX P w) 4 f6 _ _ (spPart C cNG cSG cST) := ok_part F6 T B4
  have B6 : MetD P w K mg base (L2N.CX P w) C 4 "part" (spPart C cNG cSG cST) := ⟨_, _, _, G6, b6, ⟨a6, i6, k6⟩⟩
  have G7 : FnOk P w K mg base (L2N.CX P w) 4 f7 _ _ (spOthers false C cNG) := ok_strangers F7 T B2 B4
  have B7 : MetD P w K mg base (L2N.CX P w) C 4 "strangers" (spOthers false C cNG) := ⟨_, _, _, G7, b7, ⟨a7, i7, k7⟩⟩
  have G8 : FnOk P w K mg base CX0 5 f8 _ _ (spTurned C) := ok_turned F8 T B0 B1 B7 B5
  have B8 : CalD P w K mg base CX0 5 "turned" (spTurned C) := ⟨_, _, _, G8, b8, PySem.W.mg_of X G a8, k8⟩
  have G9 : FnOk P w K mg base CX0 25 f9 _ _ (spGrown C 21) := ok_grown F9 T b9 (PySem.W.mg_of X G a9) k9 (PySem.W.mg_none_of X G z_enumerate) B4 21
  have B9 : CalD P w K mg base CX0 25 "grown" (spGrown C 21) := ⟨_, _, _, G9, b9, PySem.W.mg_of X G a9, k9⟩
  have G10 : FnOk P w K mg base CX0 26 f10 _ _ (spCrowd C) := ok_crowd F10 T (PySem.W.mg_none_of X G z_list) B1 B9
  have B10 : CalD P w K mg base CX0 26 "crowd" (spCrowd C) := ⟨_, _, _, G10, b10, PySem.W.mg_of X G a10, k10⟩
  have G11 : FnOk P w K mg base CX0 27 f11 _ _ (spUnknown C) := ok_unknown F11 B10 B8
  have B11 : CalD P w K mg base CX0 27 "unknown_crowd" (spUnknown C) := ⟨_, _, _, G11, b11, PySem.W.mg_of X G a11, k11⟩
  have G12 : FnOk P w K mg base CX0 1 f12 _ _ (spCell K) := ok_cell F12 (PySem.W.mg_none_of X G z_len)
  have B12 : CalD P w K mg base CX0 1 "_law_cell_at" (spCell K) := ⟨_, _, _, G12, b12, PySem.W.mg_of X G a12, k12⟩
  have G13 : FnOk P w K mg base CX0 1 f13 _ _ (spWhole) := ok_whole F13 (PySem.W.mg_none_of X G z_isinstance) (PySem.W.mg_none_of X G z_int) (PySem.W.mg_none_of X G z_bool)
  have B13 : CalD P w K mg base CX0 1 "_law_whole" (spWhole) := ⟨_, _, _, G13, b13, PySem.W.mg_of X G a13, k13⟩
  have G14 : FnOk P w K mg base CX0 2 f14 _ _ (spPairsBy K) := ok_pairs F14 (PySem.W.mg_none_of X G z_range) (PySem.W.mg_none_of X G z_sorted) B12
  have B14 : CalD P w K mg base CX0 2 "_law_pairs_by" (spPairsBy K) := ⟨_, _, _, G14, b14, PySem.W.mg_of X G a14, k14⟩
  have G15 : FnOk P w K mg base CX0 5 f15 _ _ (spHallOf C) := ok_hall_of F15 T B0 B5
  have B15 : CalD P w K mg base CX0 5 "_law_hall_of" (spHallOf C) := ⟨_, _, _, G15, b15, PySem.W.mg_of X G a15, k15⟩
  have G16 : FnOk P w K mg base CX0 5 f16 _ _ (spTurnOne C) := ok_turn F16 T B6 B5
  have B16 : CalD P w K mg base CX0 5 "_law_turn_one" (spTurnOne C) := ⟨_, _, _, G16, b16, PySem.W.mg_of X G a16, k16⟩
  have G17 : FnOk P w K mg base CX0 1 f17 _ _ (spMost) := ok_most F17 (PySem.W.mg_none_of X G z_len) (PySem.W.mg_none_of X G z_range) (PySem.W.mg_none_of X G z_max)
  have B17 : CalD P w K mg base CX0 1 "_law_most" (spMost) := ⟨_, _, _, G17, b17, PySem.W.mg_of X G a17, k17⟩
  have G18 : FnOk P w K mg base CX0 2 f18 _ _ (spIsOne) := ok_is_one F18 (PySem.W.mg_none_of X G z_isinstance) (PySem.W.mg_none_of X G z_list) (PySem.W.mg_none_of X G z_len) B13 B17
  have B18 : CalD P w K mg base CX0 2 "_law_is_one" (spIsOne) := ⟨_, _, _, G18, b18, PySem.W.mg_of X G a18, k18⟩
  have G19 : FnOk P w K mg base CX0 28 f19 _ _ (spRight9 C) := ok_right F19 T B10 B11 B18
  have B19 : CalD P w K mg base CX0 28 "_law_right" (spRight9 C) := ⟨_, _, _, G19, b19, PySem.W.mg_of X G a19, k19⟩
  exact ok_law F20 B12 B14 B15 B16 B19
theorem walk {l : PySem.W.OpenLaw} {q : Program} {loose : List Str} {XP : (Str → Option Value) → Heap → Prop} {YP : World → Heap → Prop} {d : DefRec} {K : Params → PySem.W.Frag} (hn : l.most = some 63) (hdf : d.params.defaults = [])
    (hY : ∀ (w : World) (h : Heap), YP w h → (K w.params).In h)
    (F : ∀ (w : World) (mg : Str → Option Value) (fa : Addr) (h : Heap), (K w.params).In h → h.Ns mainGlobals mg → mg d.name = some (.ref fa) →
      ∃ fd : FuncData, (∀ (s : Shared) (u : Value), BindsTo s fd ⟨[u], []⟩ [("script", u)]) ∧ ∀ base : Heap, (K w.params).In base → base.Ns mainGlobals mg → FnOk l.prog w (K w.params) mg base CX0 29 fa fd ["script"] (spLaw (K w.params))) :
    PySem.W.WalkO q loose XP YP l.row.toRowW d [] (fun f vs => PySem.call f vs) :=
  L2.walk_of (n := 63) (k := 29) (x := "script") (CX := fun _ => CX0) (sp := fun w => spLaw (K w.params)) hn (by decide) hdf ⟨rfl, by decide, by decide⟩ hY F (fun _ _ a ns hl _ hS => ⟨a, ns, rfl, hS, hl, fun _ => rfl⟩) fun _ _ _ _ _ z => z
end KT
open PySem PySem.W PyProof.Rows in
set_option maxRecDepth 100000 in
set_option maxHeartbeats 0 in
theorem PySem.Challenge.cw_knowthree_k09_greatest_crowds_holds : PySem.Challenge.rw_knowthree_k09_greatest_crowds.Holds := by
  w_on; o_law; k_head; (case hw => w_witness2)
  k_fill
  refine KT.walk (l := PySem.Challenge.rw_knowthree_k09_greatest_crowds) rfl rfl (fun w h Y => PySem.W.kIn_of Y) ?F
  case F =>
    intro w mg fa h KX G hmg
    refine' KT.all_mk KX G hmg ?aC ?gcNG ?ecNG ?kcNG ?bcNG ?tcNG ?gcSG ?ecSG ?kcSG ?bcSG ?tcSG ?gcKA ?ecKA ?kcKA ?bcKA ?tcKA ?gcST ?ecST ?kcST ?bcST ?tcST ?gcBH ?ecBH ?kcBH ?bcBH ?tcBH ?gr ?a0 ?i0 ?l0 ?c0 ?k0 ?a1 ?i1 ?l1 ?c1 ?k1 ?a2 ?i2 ?l2 ?c2 ?k2 ?a3 ?i3 ?l3 ?c3 ?k3 ?a4 ?i4 ?l4 ?c4 ?k4 ?a5 ?i5 ?l5 ?c5 ?k5 ?a6 ?i6 ?l6 ?c6 ?k6 ?a7 ?i7 ?l7 ?c7 ?k7 ?a8 ?l8 ?c8 ?k8 ?a9 ?l9 ?c9 ?k9 ?a10 ?l10 ?c10 ?k10 ?a11 ?l11 ?c11 ?k11 ?a12 ?l12 ?c12 ?k12 ?a13 ?l13 ?c13 ?k13 ?a14 ?l14 ?c14 ?k14 ?a15 ?l15 ?c15 ?k15 ?a16 ?l16 ?c16 ?k16 ?a17 ?l17 ?c17 ?k17 ?a18 ?l18 ?c18 ?k18 ?a19 ?l19 ?c19 ?k19 ?a20 ?l20 ?c20 ?k20 ?pg ?hd ?po ?sa ?mk ?kc ?nC ?nP ?z_enumerate ?z_list ?z_len ?z_isinstance ?z_int ?z_bool ?z_range ?z_sorted ?z_max ?z_min
    (case aC => k_is)
    (case gcNG => k_is)
    (case ecNG => k_exc)
    (case kcNG => k_is)
    (case bcNG => k_is)
    (case tcNG => k_is)
    (case gcSG => k_is)
    (case ecSG => k_exc)
    (case kcSG => k_is)
    (case bcSG => k_is)
    (case tcSG => k_is)
    (case gcKA => k_is)
    (case ecKA => k_exc)
    (case kcKA => k_is)
    (case bcKA => k_is)
    (case tcKA => k_is)
    (case gcST => k_is)
    (case ecST => k_exc)
    (case kcST => k_is)
    (case bcST => k_is)
    (case tcST => k_is)
    (case gcBH => k_is)
    (case ecBH => k_exc)
    (case kcBH => k_is)
    (case bcBH => k_is)
    (case tcBH => k_is)
    (case gr => k_is)
    (case a0 => k_is)
    (case i0 => k_is)
    (case l0 => k_is)
    (case c0 => k_is)
    (case k0 => k_is)
    (case a1 => k_is)
    (case i1 => k_is)
    (case l1 => k_is)
    (case c1 => k_is)
    (case k1 => k_is)
    (case a2 => k_is)
    (case i2 => k_is)
    (case l2 => k_is)
    (case c2 => k_is)
    (case k2 => k_is)
    (case a3 => k_is)
    (case i3 => k_is)
    (case l3 => k_is)
    (case c3 => k_is)
    (case k3 => k_is)
    (case a4 => k_is)
    (case i4 => k_is)
    (case l4 => k_is)
    (case c4 => k_is)
    (case k4 => k_is)
    (case a5 => k_is)
    (case i5 => k_is)
    (case l5 => k_is)
    (case c5 => k_is)
    (case k5 => k_is)
    (case a6 => k_is)
    (case i6 => k_is)
    (case l6 => k_is)
    (case c6 => k_is)
    (case k6 => k_is)
    (case a7 => k_is)
    (case i7 => k_is)
    (case l7 => k_is)
    (case c7 => k_is)
    (case k7 => k_is)
    (case a8 => k_is)
    (case l8 => k_is)
    (case c8 => k_is)
    (case k8 => k_is)
    (case a9 => k_is)
    (case l9 => k_is)
    (case c9 => k_is)
    (case k9 => k_is)
    (case a10 => k_is)
    (case l10 => k_is)
    (case c10 => k_is)
    (case k10 => k_is)
    (case a11 => k_is)
    (case l11 => k_is)
    (case c11 => k_is)
    (case k11 => k_is)
    (case a12 => k_is)
    (case l12 => k_is)
    (case c12 => k_is)
    (case k12 => k_is)
    (case a13 => k_is)
    (case l13 => k_is)
    (case c13 => k_is)
    (case k13 => k_is)
    (case a14 => k_is)
    (case l14 => k_is)
    (case c14 => k_is)
    (case k14 => k_is)
    (case a15 => k_is)
    (case l15 => k_is)
    (case c15 => k_is)
    (case k15 => k_is)
    (case a16 => k_is)
    (case l16 => k_is)
    (case c16 => k_is)
    (case k16 => k_is)
    (case a17 => k_is)
    (case l17 => k_is)
    (case c17 => k_is)
    (case k17 => k_is)
    (case a18 => k_is)
    (case l18 => k_is)
    (case c18 => k_is)
    (case k18 => k_is)
    (case a19 => k_is)
    (case l19 => k_is)
    (case c19 => k_is)
    (case k19 => k_is)
    (case a20 => k_is)
    (case l20 => k_is)
    (case c20 => k_is)
    (case k20 => k_is)
    (case pg => k_is)
    (case hd => k_is)
    (case po => k_is)
    (case sa => k_is)
    (case mk => k_is)
    (case kc => k_is)
    (case nC => k_is)
    (case nP => k_is)
    (case z_enumerate => k_is)
    (case z_list => k_is)
    (case z_len => k_is)
    (case z_isinstance => k_is)
    (case z_int => k_is)
    (case z_bool => k_is)
    (case z_range => k_is)
    (case z_sorted => k_is)
    (case z_max => k_is)
    (case z_min => k_is)
#print axioms PySem.Challenge.cw_knowthree_k09_greatest_crowds_holds
