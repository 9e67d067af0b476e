import PyProof.Rows.All
import Wide.All
import OpenK.AllK
import Wide.FinOn
import HandS.ForMost
import HandS.Exc
import HandS.TryOnly
import HandS.ExcOwn
import HandS.WordsExc
import HandS.ExcCtx
import HandS.HotCalls
import HandS.SuiteRaise
import HandS.ExcIs
import HandS.IsInst
import HandS.Deep
import HandS.RaiseOp
import HandS.DictTup
import HandS.SortRule
import KE.DataFind
import KE.RegKIsAll
import KE.RegKTryMore
import PySem.Challenge.RW_knowthree_k01_meeting_and_parting
set_option Elab.async false
set_option linter.all false
set_option maxRecDepth 100000
set_option maxHeartbeats 4000000
/-! own rules over the hand layer -/
namespace KT
open PySem PySem.Spec PyProof.Rows L2

/-! ### defs that raise, the exception's context being None -/
section
variable {P : Program} {w : World} {K : PySem.W.Frag} {mg : Str → Option Value} {base : Heap}
theorem okN {x qual : Str} {st : Stmt} {f : Addr} {fd : FuncData} {N ps : List Str} {k : Nat} {sp : Sp}
    (F : Fun K x qual st f fd) (S : FnScope N ps (defScope st))
    (len : ∀ vs H Q E, sp vs H Q E → vs.length = ps.length)
    (body : ∀ (cdv : Value) (A : Around) (outer : List Env) (s : Shared) (H : Hp) (vs : List V) (Q : VK) (E : XK),
      Room k (A.deeper (envOfC qual (defScope st) s.heap.objs.size f cdv)) → sp vs H Q E →
      ∃ t, PSs (cxOf (L2N.CX P w) P w K mg base N qual (defScope st) f cdv A outer s H E) (defBody st) t ∧
        t { nx := fun _ H' => Q .non H', rt := Q } (start N vs) H) :
    FnOk P w K mg base (L2N.CX P w) (k + 1) f fd ps sp := by
  obtain ⟨oc, od, kV, doc, pm, an, cdv, ct, osl, rfl, lk, hcd⟩ := F.ex
  exact fn_of lk hcd S len (fun A outer s H vs Q E hr hsp => body cdv A outer s H vs Q E hr hsp)
end
theorem passN {X : Cx} : Passes (L2N.CX X.prog X.w) X E0 := by
  intro _ _ _ _ _ _ _ h
  obtain ⟨_, _, _, _, _, _, _, _, _, _, _, _, z⟩ := h
  exact z.elim
/-- what flies with no context flies -/
theorem cx_weak {P : Program} {w : World} {outer : List Env} {H : Hp} {s : Shared} {E : XK} {u : Value} {s' : Shared}
    (h : L2N.CX P w outer H s E u s') : L2.CX P w outer H s E u s' := by
  obtain ⟨a, B, H', cls, d, e, fl, r⟩ := h
  exact ⟨a, B, H', cls, d, e, L2H.flyingZ_imp (fun _ z => L2N.Zn.zc z) fl, r⟩
theorem FnOk_weak {P : Program} {w : World} {K : PySem.W.Frag} {mg : Str → Option Value} {base : Heap} {k : Nat} {f : Addr}
    {fd : FuncData} {ps : List Str} {sp : Sp} (F : FnOk P w K mg base (L2N.CX P w) k f fd ps sp) :
    FnOk P w K mg base (L2.CX P w) k f fd ps sp := by
  refine ⟨F.len, ?_⟩
  intro A outer s H args us vs Q E hr e0 b r h
  refine codeAny_mono (F.run A outer s H args us vs Q E hr e0 b r h) ?_
  intro r s' q
  cases r with
  | error e => exact cx_weak q
  | ok fl => cases fl <;> exact q
/-- a def that lets nothing out may stand where one may -/
theorem FnOk_calm {P : Program} {w : World} {K : PySem.W.Frag} {mg : Str → Option Value} {base : Heap} {k : Nat} {f : Addr}
    {fd : FuncData} {ps : List Str} {sp : Sp} {CX : CXT} (F : FnOk P w K mg base CX0 k f fd ps sp) :
    FnOk P w K mg base CX k f fd ps sp := by
  refine ⟨F.len, ?_⟩
  intro A outer s H args us vs Q E hr e0 b r h
  refine codeAny_mono (F.run A outer s H args us vs Q E hr e0 b r h) ?_
  intro r s' q
  cases r with
  | error e => exact False.elim q
  | ok fl => cases fl <;> exact q

/-! ### methods and classes called where what is raised is wished for at the caller's slots -/
section
variable {X : Cx} {CX : CXT} {k : Nat} {f C : Addr} {fd : FuncData} {ps : List Str} {sp : Sp} {E : L2.St → XK}
  {x m : Str} {p pos apos : Pos} {e o : Expr} {es : List Expr} {ta : TE} {t : TA}
def tMethS (C : Addr) (m : Str) (sp : Sp) (E : L2.St → XK) (ta : TE) (t : TA) : TE := fun σ H Q => ta σ H fun x H1 =>
  ∃ a dx fs, x = .ref a ∧ H1 a = some (.ins C dx fs) ∧ fs.lookup m = none ∧ t σ H1 fun vs H2 => sp (x :: vs) H2 Q (E σ)
theorem pe_methS {pl : Sem Bool} (he : PE X o ta) (c : Cls X.K C) (hm : Meth X.K C m f)
    (F : FnOk X.prog X.w X.K X.mg X.base CX k f fd ps sp) (hr : Room k X.A) (hb : Binds X.K fd ps [])
    (hx : ∀ σ, PassesAt CX X σ (E σ)) (ha : PA X (e :: es) t)
    (hst : starEach (e :: es) X.env = (false, eval e X.env) :: starEach es X.env := by rfl)
    (hpl : (backTo pos (starEach es X.env)).any (·.1) = false := by rfl)
    (ht : eval (.Call (.Attribute o m apos) (e :: es) [] pos) X.env = (do
      let ov ← eval o X.env
      standAt apos.atName
      let (f, first) ← holding [ov] (getMethod ov m pl)
      callWith pos f first (backTo pos (starEach (e :: es) X.env)) (backToKw pos (keywordEach [] X.env))) := by rfl) :
    PE X (.Call (.Attribute o m apos) (e :: es) [] pos) (tMethS C m sp E ta t) := by
  constructor
  intro pins s σ H Q I h
  refine PySem.W.methodCall_KW (pl := pl) (thn (he.run pins s σ H _ I h) ?_) ht
  rintro u s1 ⟨x, H1, I1, rx, a, dx, fs, ex, ea, l, q⟩
  subst ex
  obtain rfl : u = Value.ref a := rx
  refine getmeth_ok I1 ea c hm l ?_
  refine PySem.W.callWith_K (first := [.ref a]) (h₀ := X.base) I.ok.mod.kin hm.kp (thn (ha.run pos pins s1 σ H1 _ I1 q) ?_) hst hpl
  rintro us s2 ⟨vs, H2, I2, r, q2⟩
  exact ⟨I2.kIn, run_fnS (us := .ref a :: us) (vs := .ref a :: vs) F hr hb (hx σ) I2 (.cons rfl r) q2⟩
def tMakeS (C : Addr) (sp : Sp) (E : L2.St → XK) (t : TA) : TE := fun σ H Q => t σ H fun vs H1 => ∀ x dx, H1 x = none → H1 dx = none → dx ≠ x →
  sp (.ref x :: vs) (upd (upd H1 dx (.own x)) x (.ins C dx [])) (fun v H2 => v = .non ∧ Q (.ref x) H2) (E σ)
theorem pe_makeS (M : Mk X.K C f) (F : FnOk X.prog X.w X.K X.mg X.base CX k f fd ps sp) (hr : Room (k + 1) X.A) (hg : Gl X x)
    (hm : X.mg x = some (.ref C)) (hb : Binds X.K fd ps []) (hx : ∀ σ, PassesAt CX X σ (E σ)) (ha : PA X (e :: es) t)
    (hdb : (x == ("__debug__" : Str)) = false := by decide)
    (he : starEach (e :: es) X.env = (false, eval e X.env) :: starEach es X.env := by rfl)
    (hpl : (backTo pos (starEach es X.env)).any (·.1) = false := by rfl) :
    PE X (.Call (.Name x p) (e :: es) [] pos) (tMakeS C sp E t) := by
  constructor
  intro pins s0 σ H0 Q I0 h0
  refine wpAny_Call_Name_kw (ld_glob I0 hg hm ?_ hdb)
  refine PySem.W.callWith_K (h₀ := X.base) I0.ok.mod.kin M.kp (thn (ha.run pos pins s0 σ H0 _ I0 h0) ?_) he hpl
  rintro us s ⟨vs, H, I, r, h⟩
  refine ⟨I.kIn, ?_⟩
  have hq := h (s.heap.objs.size + 1) s.heap.objs.size (I.hok.fresh (Nat.le_succ _)) (I.hok.fresh (Nat.le_refl _)) (Nat.ne_of_lt (Nat.lt_succ_self _))
  have I2 := Inv.made (C := C) I
  have r2 : Vals (V.ref (s.heap.objs.size + 1) :: vs) (Value.ref (s.heap.objs.size + 1) :: us) := .cons rfl r
  have hl : (Value.ref (s.heap.objs.size + 1) :: us).length = ps.length := by
    rw [← r2.length]
    exact F.len _ _ _ _ hq
  have b := hb _ (Value.ref (s.heap.objs.size + 1) :: us) I2.kIn (by rw [List.append_nil]; exact hl)
  rw [List.append_nil] at b
  refine wpAny_call (make_map (f := f) I.kIn M.makes M.init (beq_iff_eq.mp M.fn) ?_)
  refine codeAny_mono (F.run _ X.stack _ _ ⟨Value.ref (s.heap.objs.size + 1) :: us, []⟩ _ _ _ (E σ) (hr.make C us []) (I2.env0.make C us []) b r2 hq) ?_
  intro r s' hq'
  cases r with
  | error e => exact hx σ pins _ _ e s' I2 hq'
  | ok fl =>
    cases fl with
    | ret u =>
      obtain ⟨v, H', I3, rv, ev, q3⟩ := I2.after hq'
      subst ev
      exact ⟨rv, ⟨V.ref (s.heap.objs.size + 1), H', I3, rfl, q3⟩⟩
    | next => exact hq'.elim
    | brk => exact hq'.elim
    | cont => exact hq'.elim
end

/-! ### d.pop(t), t a tuple that is a key -/
section
variable {X : Cx}
def rPop1 : V → List V → Hp → VK → Prop := fun x xs H Q => ∃ (a : Addr) (kvs : List (List L2.Key × V)) (k : List L2.Key) (b : Addr) (v : V),
  x = .ref a ∧ xs = [.ref b] ∧ H a = some (.dT kvs) ∧ H b = some (.tup (k.map kV)) ∧ valV kvs k = some v ∧ Q v (upd H a (.dT (dropK kvs k)))
theorem meetsPop1 {prog : Program} {w : World} {K : Type} [DecidableEq K] {knd : HeapKind prog w K} {d b : Addr} {k : K} :
    MeetsIn prog w (Builtin.«dict.pop» ⟨[.ref d, .ref b], []⟩) (fun A R s => ∃ (xs : List (K × Addr × Value)) (p : Addr × Value), knd.room A.in1 ∧ knd.is s.heap k b ∧
      s.heap.DictOfH knd d xs ∧ xs.length ≤ sizeLine ∧ atKey xs k = some p ∧
      ∀ h' tk, h'.DictOfH knd d (DT.dropH xs k) → Heap.SameBut d s.heap h' → R (.ok (.ret p.2)) { s with heap := h', toks := tk }) := by
  refine .of_wp ?_
  rintro A R s ⟨xs, p, hu, hkey, hm, hsz, hp, hgo⟩
  obtain ⟨o, es, ep, ho, hc, hdat, he, his, hn⟩ := id hm
  have hes : es.size = xs.length := size_of_entries he
  have part : (keyPart (Value.ref b)).isSome = false := rfl
  unfold Builtin.«dict.pop»
  refine wpAny_bind ?_
  unfold Builtin.Dict.keyAndDefault
  refine wpAny_bind (wpAny_notOrdered_dict hm.typeIs ?_)
  show wpAny _ _ (pure (d, Value.ref b, none)) _ _ s
  refine wpAny_pure ?_
  simp only [part, Bool.false_eq_true, if_false]
  refine wpAny_bind (wpAny_dictEntries ho hdat (wpAny_bind (wpAny_pure ?_)))
  have hem : es.isEmpty = false := by
    cases q : es.isEmpty with
    | false => rfl
    | true =>
      have z : es.size = 0 := by simpa using q
      have z2 : xs = [] := List.length_eq_zero_iff.mp (by omega)
      subst z2
      exact absurd hp (by simp [atKey])
  rw [hem]
  simp only [Bool.false_eq_true, if_false]
  refine wpAny_bind (DT.takeH hu hkey hm hsz (fun no => ?_) (fun p' e hp' hev h' hm' hs' => ?_))
  · rw [no] at hp
    exact nomatch hp
  · have ep : p' = p := Option.some.inj (hp'.symm.trans hp)
    subst ep
    simp only [Option.isNone_some, Bool.false_eq_true, if_false]
    refine wpAny_bind (wpAny_letGo (wpAny_pure ⟨e.val, rfl, ?_⟩))
    rw [hev]
    exact hgo h' _ hm' hs'
theorem mt_pop1 (hu : X.A.units + 1 < cLine) : MtR X "dict.pop" rPop1 := by
  intro pins s σ H x xs v us Q I rx rxs h
  obtain ⟨a, kvs, k, b, v0, rfl, rfl, ha, hb, hv, q⟩ := h
  cases rx
  obtain ⟨u1, rfl, r1⟩ := vals1 rxs
  cases r1
  obtain ⟨z, hd, xs', rel, dd⟩ := dt_of I.hok ha
  have hz : xs'.length ≤ sizeLine := by rw [← Paired.length rel]; exact z
  obtain ⟨p, hp, rv⟩ : ∃ p, atKey xs' k = some p ∧ RelV v0 p.2 := by
    have r := rel.val k
    rw [hv] at r
    cases e : atKey xs' k with
    | none =>
      rw [e] at r
      exact (show False from r).elim
    | some p =>
      rw [e] at r
      exact ⟨p, rfl, r⟩
  refine call_meetsIn PySem.F.slot_dict_pop dd.typeIs PySem.F.entry_dict_pop (PySem.F.args_dict_pop_2 _ _) (meetsPop1 (knd := tupleKind (mixKind X.prog X.w)) (k := k)) ?_
  refine ⟨xs', p, tupleKind_room_in1 hu, key_of I.hok hb, dd, hz, hp, ?_⟩
  intro h' tk dd' hs
  obtain ⟨o, es, ep, hq, h2, h3, h4, _, h5⟩ := dd'
  have keepT : ∀ (c : Addr) (ys : List V), H c = some (.tup ys) → upd H a (.dT (dropK kvs k)) c = some (.tup ys) := by
    intro c ys ec
    rw [upd_ne (ne_of ec ha (fun z => nomatch z))]
    exact ec
  have I2 : Inv X pins σ (upd H a (.dT (dropK kvs k))) { s with heap := h', toks := tk } :=
    d_write I (by rw [ha]; exact True.intro) hs ⟨o, hq⟩ ⟨Nat.le_trans (dropK_le kvs k) z, hd, _, (L2.DX.KT_drop k rel).keeps keepT, o, es, ep, hq, h2, h3, h4, h5⟩
  show EP X pins σ Q p.2 _
  exact ⟨v0, _, I2, rv, q⟩
end
end KT

/-! ### l.remove(x) of data, x in l -/
namespace KT
open PySem PySem.Spec PyProof.Rows L2
section
variable {X : Cx}
def rRemD (K : PySem.W.Frag) : V → List V → Hp → VK → Prop := fun x xs H Q => ∃ (l : Addr) (ys : List V) (y : V) (ds : List PyData) (d : PyData) (j : Nat),
  x = .ref l ∧ xs = [y] ∧ H l = some (.lst ys) ∧ DpAll K H ys ds ∧ Dp K H y d ∧ PyData.plainAll ds = true ∧ d.plain = true ∧ d.depth ≤ 64 ∧
  SeqAt.dataPlace ds d = some j ∧ Q .non (upd H l (.lst (ys.eraseIdx j)))
theorem mt_removeD (hu : X.A.units + 65 < cLine) : MtR X "list.remove" (rRemD X.K) := by
  intro pins s σ H x xs v us Q I rx rxs h
  obtain ⟨l, ys, y, ds, d, j, rfl, rfl, hl, ha, hy, pl, pd, dep, hj, q⟩ := h
  cases rx
  obtain ⟨u, rfl, ru⟩ := vals1 rxs
  obtain ⟨bs, r1⟩ := Dp.reads I d y u hy ru
  obtain ⟨z, its, n, rv, hlen, e0⟩ := I.lstM hl
  obtain ⟨as, r2⟩ := Dp.readsAll I ds _ its ha rv
  have hroom : X.A.units + 1 + min (PyData.depthAll ds) d.depth < cLine := by
    have := Nat.min_le_right (PyData.depthAll ds) d.depth
    omega
  refine SeqAt.remove_list_data (vs := its.toArray) ⟨_, e0, rfl, n, rfl⟩ r2 r1 pl pd hroom hj (by rw [List.size_toArray, ← hlen]; exact z) ?_
  refine ⟨.non, _, I.lset (its' := its.eraseIdx j) hl e0 ?_ (rv.eraseIdx j) ?_, rfl, q⟩
  · show its.toArray.eraseIdxIfInBounds j = (its.eraseIdx j).toArray
    rw [List.eraseIdxIfInBounds_toArray]
  · have := List.length_eraseIdx_le ys j
    omega
end

/-! ### a def called in an except suite, with the exception as its argument -/
section
open L2H
structure FnP (P : Program) (w : World) (K : PySem.W.Frag) (mg : Str → Option Value) (base : Heap) (k : Nat) (f : Addr) (fd : FuncData)
    (ps : List Str) (sp : Addr → Value → Option Addr → Sp) : Prop where
  len : ∀ a cls d vs H Q E, sp a cls d vs H Q E → vs.length = ps.length
  run : ∀ (A : Around) (outer : List Env) (s : Shared) (H : Hp) (args : Args) (us : List Value) (vs : List V) (Q : VK) (E : XK)
    (p : Addr × Obj) (cls : Value) (d : Option Addr), RoomH k A → PinOk outer H s p → Zc cls d p.2 → (∃ fv, p.2.data = .fields fv) →
    Env0 P w K mg base A outer s H → BindsTo s fd args (ps.zip us) → Vals vs us →
    sp p.1 cls d vs H Q E → codeAny (model P w) A (.call (.ref f) args) (CR CX0 outer P w H s Q E) s
theorem okP {P : Program} {w : World} {K : PySem.W.Frag} {mg : Str → Option Value} {base : Heap} {x qual : Str} {st : Stmt} {f : Addr}
    {fd : FuncData} {N ps : List Str} {k : Nat} {sp : Addr → Value → Option Addr → Sp}
    (F : Fun K x qual st f fd) (S : FnScope N ps (defScope st)) (len : ∀ a cls d vs H Q E, sp a cls d vs H Q E → vs.length = ps.length)
    (body : ∀ (cdv : Value) (A : Around) (outer : List Env) (s : Shared) (H : Hp) (vs : List V) (Q : VK) (E : XK) (p : Addr × Obj)
      (cls : Value) (d : Option Addr), RoomH k (A.deeper (envOfC qual (defScope st) s.heap.objs.size f cdv)) → Zc cls d p.2 →
      (∃ fv, p.2.data = .fields fv) → sp p.1 cls d vs H Q E →
      ∃ t, PSs (cxH CX0 P w K mg base N qual (defScope st) f cdv A outer s H E p) (defBody st) t ∧
        t { nx := fun _ H' => Q .non H', rt := Q } (L2.start N vs) H) :
    FnP P w K mg base (k + 1) f fd ps sp := by
  obtain ⟨oc, od, kV, doc, pm, an, cdv, ct, osl, rfl, lk, hcd⟩ := F.ex
  refine ⟨len, ?_⟩
  intro A outer s H args us vs Q E p cls d hr hpin hz hf e0 hb r hsp
  have hl := len _ _ _ _ _ _ _ hsp
  have kb : ∀ b o, base.get? b = some o → s.heap.get? b = some o := fun b o e => (e0.bs b o e).1
  have KX : K.In s.heap := e0.mod.kin.keeps kb
  have lim : s.heap.NoLimit := e0.mod.nolimit.keeps kb
  refine codeAny_call_function hr.depth (KX _ _ lk) rfl S.co S.gen rfl (PySem.W.codeRec_of KX hcd) (hb _ _ _ _ ?_)
  refine wpAny_newFunctionEnv_cells S.kind ?kinds ?go
  case kinds =>
    rintro ⟨n, v⟩ hy
    rcases S.par n (List.of_mem_zip hy).1 with q | q
    · exact .inl q
    · exact .inr ⟨q, PySem.W.cellsFrom_some _ _ _ (.inl q)⟩
  intro env he s1 xin
  subst he
  refine ⟨lim.keeps xin.toInCall.keep, codeAny_func ?_⟩
  obtain ⟨t, ht, hq⟩ := body cdv A outer s H vs Q E p cls d (hr.deeper _) hz hf hsp
  have I := inv_startH (CX := CX0) (E := E) (N := N) (qual := qual) (f := f) (cd := cdv) S hpin e0 hl r xin
  refine wpAny_mono (ht.run [] s1 (L2.start N vs) H _ I hq) ?_ (fun e s' hs => hs)
  intro fl s' hs
  cases fl with
  | ret u =>
    obtain ⟨v, σ', H', J, rv, q⟩ := hs
    exact ⟨v, H', J.os, J.bare, J.base, J.hok, rv, q⟩
  | next =>
    obtain ⟨σ', H', J, q⟩ := hs
    exact ⟨V.non, H', J.os, J.bare, J.base, J.hok, rfl, q⟩
  | brk =>
    obtain ⟨_, _, _, q⟩ := hs
    exact q.elim
  | cont =>
    obtain ⟨_, _, _, q⟩ := hs
    exact q.elim
variable {X : Cx} {k : Nat} {f : Addr} {fd : FuncData} {ps : List Str} {sp : Addr → Value → Option Addr → Sp} {x : Str} {q pos : Pos} {e : Expr}
  {es : List Expr} {t : TA} {p : Addr × Obj} {cls : Value} {d : Option Addr}
def tCallP (sp : Addr → Value → Option Addr → Sp) (a : Addr) (cls : Value) (d : Option Addr) (t : TA) : TE := fun σ H Q => t σ H fun vs H1 => sp a cls d vs H1 Q E0
theorem pe_callP (F : FnP X.prog X.w X.K X.mg X.base k f fd ps sp) (hr : RoomH k X.A) (hp : p ∈ X.pn) (hz : Zc cls d p.2) (hf : ∃ fv, p.2.data = .fields fv)
    (hg : Gl X x) (hm : X.mg x = some (.ref f)) (hk : PySem.W.keepIn X.K (.ref f) = true) (hb : Binds X.K fd ps [])
    (ha : PA X (e :: es) t) (hdb : (x == ("__debug__" : Str)) = false := by decide)
    (he : starEach (e :: es) X.env = (false, eval e X.env) :: starEach es X.env := by rfl)
    (hpl : (backTo pos (starEach es X.env)).any (·.1) = false := by rfl) :
    PE X (.Call (.Name x q) (e :: es) [] pos) (tCallP sp p.1 cls d t) := by
  constructor
  intro pins s σ H Q I h
  refine wpAny_Call_Name_kw (ld_glob I hg hm ?_ hdb)
  refine PySem.W.callWith_K (h₀ := X.base) I.ok.mod.kin hk (thn (ha.run pos pins s σ H _ I h) ?_) he hpl
  rintro us s1 ⟨vs, H1, I1, r, h1⟩
  refine ⟨I1.kIn, ?_⟩
  have hl : us.length = ps.length := by rw [← r.length]; exact F.len _ _ _ _ _ _ _ h1
  have b := hb s1 us I1.kIn (by rw [List.append_nil]; exact hl)
  rw [List.append_nil] at b
  have P1 := I1.pin p (List.mem_append_left _ hp)
  have hpin : PinOk X.stack H1 s1 p := ⟨P1.1, P1.2.1, fun hm => (List.mem_cons.mp (I1.stkSub p.1 hm)).elim P1.2.2.1 P1.2.2.2.1, P1.2.2.2.2⟩
  refine wpAny_call (codeAny_mono (F.run X.A X.stack s1 H1 ⟨us, []⟩ us vs Q E0 p cls d hr hpin hz hf I1.env0 b r h1) ?_)
  intro r s' hq
  cases r with
  | error e => exact hq.elim
  | ok fl =>
    cases fl with
    | ret u => exact I1.after hq
    | next => exact False.elim hq
    | brk => exact False.elim hq
    | cont => exact False.elim hq
/-- isinstance(e, c), e a pinned exception -/
theorem call_isP {D : Addr} (hp : p ∈ X.pn) (C : ExcC X.K D) (hz : Zc (.ref D) none p.2) (hf : ∃ vs, p.2.data = .fields vs) :
    CallR X (.builtin "isinstance") (rIsE X.K D p.1) := by
  obtain ⟨a, oe⟩ := p
  intro pins s σ H xs us Q I r h
  obtain ⟨c, cv, b, rfl, hcv, ek, h1⟩ := h
  obtain ⟨u1, u2, rfl, r1, r2⟩ := vals2 r
  cases r1
  have ec := hcv _ r2
  subst ec
  have hget := (I.pin (a, oe) (List.mem_append_left _ hp)).1
  obtain ⟨vs, hv⟩ := hf
  have J : PySem.W.InstAt s.heap a oe D none := by
    obtain ⟨oc, od, oda, osl⟩ := oe
    obtain ⟨h1, h2⟩ := hz
    dsimp only at h1 h2 hv
    subst h1 h2 hv
    exact ⟨hget, rfl, rfl, trivial⟩
  refine PySem.W.kia_one (PySem.W.handS_kitx_exc C.hg C.hk C.hs C.hd C.ha C.hn C.ht C.hm) I.kIn J ek (fun z => nomatch z) ?_
  intro tk
  exact ⟨.bl b, H, I.kept (t' := tk) fun _ _ z => z, rfl, h1⟩
end
end KT

/-! pairs of guests, heaps, bundles -/
namespace KT
open PySem PySem.Spec PyProof.Rows L2

/-! ### plain: pairs -/
abbrev Pr := Nat × Nat
def nrm (i j : Nat) : Pr := (min i j, max i j)
def WF (n : Nat) (L : List Pr) : Prop := L.Nodup ∧ ∀ p ∈ L, p.1 < p.2 ∧ p.2 < n
theorem nrm_comm (i j : Nat) : nrm i j = nrm j i := by
  unfold nrm
  rw [Nat.min_comm, Nat.max_comm]
theorem nrm_lt {i j : Nat} (h : i < j) : nrm i j = (i, j) := by
  unfold nrm
  rw [Nat.min_eq_left (by omega), Nat.max_eq_right (by omega)]
theorem nrm_ok {i j n : Nat} (h : i ≠ j) (hi : i < n) (hj : j < n) : (nrm i j).1 < (nrm i j).2 ∧ (nrm i j).2 < n := by
  show min i j < max i j ∧ max i j < n
  omega
theorem min_py (i j : Nat) : (if (j : Int) < (i : Int) then (j : Int) else (i : Int)) = ((min i j : Nat) : Int) := by
  split <;> omega
theorem max_py (i j : Nat) : (if (j : Int) > (i : Int) then (j : Int) else (i : Int)) = ((max i j : Nat) : Int) := by
  split <;> omega
theorem len_bound : ∀ (m : Nat) (l : List Nat), l.Nodup → (∀ x ∈ l, x < m) → l.length ≤ m
  | 0, [], _, _ => Nat.le_refl _
  | 0, a :: l, _, h => absurd (h a List.mem_cons_self) (Nat.not_lt_zero _)
  | m + 1, l, nd, h => by
    by_cases hm : m ∈ l
    · have h1 := len_bound m (l.erase m) (nd.erase m) (fun x hx => by
        have a := h x (List.mem_of_mem_erase hx)
        have b : x ≠ m := fun e => by
          rw [e] at hx
          exact (List.Nodup.not_mem_erase nd) hx
        omega)
      rw [List.length_erase_of_mem hm] at h1
      omega
    · have h1 := len_bound m l nd (fun x hx => by
        have a := h x hx
        have b : x ≠ m := fun e => hm (by rw [← e]; exact hx)
        omega)
      omega
theorem map_nodup {α β : Type} {f : α → β} : ∀ {l : List α}, (∀ a ∈ l, ∀ b ∈ l, f a = f b → a = b) → l.Nodup → (l.map f).Nodup
  | [], _, _ => by simp
  | a :: l, inj, nd => by
    rw [List.nodup_cons] at nd
    rw [List.map_cons, List.nodup_cons]
    refine ⟨fun m => ?_, map_nodup (fun x hx y hy => inj x (List.mem_cons_of_mem _ hx) y (List.mem_cons_of_mem _ hy)) nd.2⟩
    obtain ⟨b, hb, e⟩ := List.mem_map.mp m
    have := inj b (List.mem_cons_of_mem _ hb) a List.mem_cons_self e
    exact nd.1 (by rw [← this]; exact hb)
theorem WF.len {n : Nat} {L : List Pr} (h : WF n L) (hn : n ≤ 20) : L.length ≤ 400 := by
  have h1 := len_bound 400 (L.map fun p => p.1 * 20 + p.2) (map_nodup (fun a ha b hb e => by
    have x := h.2 a ha
    have y := h.2 b hb
    obtain ⟨a1, a2⟩ := a
    obtain ⟨b1, b2⟩ := b
    simp only at x y e
    have e1 : a1 = b1 := by omega
    have e2 : a2 = b2 := by omega
    rw [e1, e2]) h.1) (fun x hx => by
      obtain ⟨p, hp, rfl⟩ := List.mem_map.mp hx
      have := h.2 p hp
      omega)
  rwa [List.length_map] at h1
theorem WF.nil (n : Nat) : WF n [] := ⟨List.nodup_nil, fun p hp => by cases hp⟩
theorem WF.snoc {n : Nat} {L : List Pr} {q : Pr} (h : WF n L) (hq : q.1 < q.2 ∧ q.2 < n) (nq : q ∉ L) : WF n (L ++ [q]) := by
  refine ⟨nd_snoc h.1 nq, fun p hp => ?_⟩
  rcases List.mem_append.mp hp with z | z
  · exact h.2 p z
  · rw [List.mem_singleton.mp z]
    exact hq
theorem WF.erase {n : Nat} {L : List Pr} (q : Pr) (h : WF n L) : WF n (L.erase q) := ⟨h.1.erase q, fun p hp => h.2 p (List.mem_of_mem_erase hp)⟩

/-! ### the dict of a hall -/
def kP (p : Pr) : List L2.Key := [Sum.inl (p.1 : Int), Sum.inl (p.2 : Int)]
def kvs (L : List Pr) : List (List L2.Key × V) := L.map fun p => (kP p, V.bl true)
theorem kP_inj {p q : Pr} (h : kP p = kP q) : p = q := by
  obtain ⟨a, b⟩ := p
  obtain ⟨c, d⟩ := q
  injection h with h1 h2
  injection h2 with h2 _
  have e1 := Int.ofNat.inj (Sum.inl.inj h1)
  have e2 := Int.ofNat.inj (Sum.inl.inj h2)
  exact Prod.ext e1 e2
theorem kP_map (p : Pr) : (kP p).map kV = [V.int (p.1 : Int), V.int (p.2 : Int)] := rfl
theorem valV_kvs (q : Pr) : ∀ L : List Pr, valV (kvs L) (kP q) = if q ∈ L then some (V.bl true) else none
  | [] => rfl
  | p :: L => by
    show valV ((kP p, V.bl true) :: kvs L) (kP q) = _
    by_cases e : p = q
    · subst e
      rw [valV_pos rfl, if_pos List.mem_cons_self]
    · rw [valV_neg (fun z => e (kP_inj z)), valV_kvs q L]
      by_cases m : q ∈ L
      · rw [if_pos m, if_pos (List.mem_cons_of_mem _ m)]
      · rw [if_neg m, if_neg (fun z => (List.mem_cons.mp z).elim (fun y => e y.symm) m)]
theorem isSome_kvs (q : Pr) (L : List Pr) : (valV (kvs L) (kP q)).isSome = decide (q ∈ L) := by
  rw [valV_kvs]
  by_cases m : q ∈ L
  · rw [if_pos m, decide_eq_true m] <;> rfl
  · rw [if_neg m, decide_eq_false m] <;> rfl
theorem put_kvs {q : Pr} {L : List Pr} (m : q ∉ L) : putK (kvs L) (kP q) (V.bl true) = kvs (L ++ [q]) := by
  rw [putK_new _ (by rw [valV_kvs, if_neg m])]
  unfold kvs
  rw [List.map_append]
  rfl
theorem drop_kvs {q : Pr} : ∀ {L : List Pr}, L.Nodup → dropK (kvs L) (kP q) = kvs (L.erase q)
  | [], _ => rfl
  | p :: L, nd => by
    have nd2 := List.nodup_cons.mp nd
    show dropK ((kP p, V.bl true) :: kvs L) (kP q) = _
    by_cases e : p = q
    · subst e
      rw [dropK_pos rfl, List.erase_cons_head]
      refine dropK_no fun m => nd2.1 ?_
      obtain ⟨z, hz, ez⟩ := List.mem_map.mp m
      obtain ⟨r, hr, er⟩ := List.mem_map.mp hz
      subst er
      rw [← kP_inj ez]
      exact hr
    · rw [dropK_neg (fun z => e (kP_inj z)), List.erase_cons_tail (by simpa using e), drop_kvs nd2.2]
      rfl
theorem length_kvs (L : List Pr) : (kvs L).length = L.length := List.length_map _

/-! ### heaps -/
def Keep (D : List Addr) (H H' : Hp) : Prop := ∀ b o, b ∉ D → H b = some o → H' b = some o
theorem Keep.of {H H' : Hp} (D : List Addr) (s : Same H H') : Keep D H H' := fun b o _ e => s b o e
theorem Keep.same {H H' : Hp} (k : Keep [] H H') : Same H H' := fun b o e => k b o (by simp) e
theorem Keep.refl (D : List Addr) (H : Hp) : Keep D H H := fun _ _ _ e => e
theorem Keep.trans {D : List Addr} {H H1 H2 : Hp} (a : Keep D H H1) (b : Keep D H1 H2) : Keep D H H2 := fun c o n e => b c o n (a c o n e)
theorem Keep.mono {D D' : List Addr} {H H1 : Hp} (a : Keep D H H1) (h : ∀ b ∈ D, b ∈ D') : Keep D' H H1 := fun c o n e => a c o (fun m => n (h c m)) e
theorem Keep.at1 {d : Addr} {H H' : Hp} (k : Keep [d] H H') {b : Addr} {o : HO} (n : b ≠ d) (e : H b = some o) : H' b = some o := k b o (by simpa using n) e
theorem same_new {H : Hp} {p : Addr} (o : HO) (h : H p = none) : Same H (upd H p o) := fun b u e => by
  rw [upd_ne (ne_of_none e h)]
  exact e
theorem Keep.put {H : Hp} (d : Addr) (o : HO) : Keep [d] H (upd H d o) := fun b u n e => by
  rw [upd_ne (by simpa using n)]
  exact e
/-- a new object that is changed later -/
theorem same_keepNew {H H1 H2 : Hp} {p : Addr} (s : Same H H1) (hp : H p = none) (k : Keep [p] H1 H2) : Same H H2 := fun b o e =>
  k.at1 (ne_of_none e hp) (s b o e)

/-! ### a hall -/
def hf (n : Nat) (d : Addr) : List (Str × V) := putF "pairs" (.ref d) (putF "count" (.int (n : Int)) [])
theorem cp_ : ¬ (("count" : Str) = "pairs") := by decide +kernel
theorem pc_ : ¬ (("pairs" : Str) = "count") := by decide +kernel
theorem hf_count (n : Nat) (d : Addr) : (hf n d).lookup ("count" : Str) = some (.int (n : Int)) := by
  unfold hf
  rw [lookup_putF, if_neg cp_, lookup_putF, if_pos rfl]
theorem hf_pairs (n : Nat) (d : Addr) : (hf n d).lookup ("pairs" : Str) = some (.ref d) := by
  unfold hf
  rw [lookup_putF, if_pos rfl]
theorem hf_no (n : Nat) (d : Addr) {m : Str} (h1 : ¬ m = "pairs") (h2 : ¬ m = "count") : (hf n d).lookup m = none := by
  unfold hf
  rw [lookup_putF, if_neg h1, lookup_putF, if_neg h2]
  rfl
structure HallAt (C : Addr) (H : Hp) (p : Addr) (n : Nat) (d : Addr) (L : List Pr) : Prop where
  ins : ∃ dx, H p = some (.ins C dx (hf n d))
  dic : H d = some (.dT (kvs L))
  wf : WF n L
  lo : 1 ≤ n
  hi : n ≤ 20
section
variable {C : Addr} {H H' : Hp} {p d : Addr} {n : Nat} {L : List Pr}
theorem HallAt.ne (h : HallAt C H p n d L) : p ≠ d := by
  obtain ⟨dx, e⟩ := h.ins
  exact ne_of e h.dic (fun z => nomatch z)
theorem HallAt.same (h : HallAt C H p n d L) (s : Same H H') : HallAt C H' p n d L :=
  ⟨let ⟨dx, e⟩ := h.ins; ⟨dx, s _ _ e⟩, s _ _ h.dic, h.wf, h.lo, h.hi⟩
theorem HallAt.keep {D : List Addr} (h : HallAt C H p n d L) (k : Keep D H H') (hp : p ∉ D) (hd : d ∉ D) : HallAt C H' p n d L :=
  ⟨let ⟨dx, e⟩ := h.ins; ⟨dx, k _ _ hp e⟩, k _ _ hd h.dic, h.wf, h.lo, h.hi⟩
end

/-! ### lists of pairs -/
def PairV (H : Hp) (v : V) (p : Pr) : Prop := ∃ a, v = .ref a ∧ H a = some (.tup [.int (p.1 : Int), .int (p.2 : Int)])
abbrev PairVs (H : Hp) : List V → List Pr → Prop := Paired (PairV H)
structure PairsAt (H : Hp) (l : Addr) (E : List Pr) : Prop where
  ex : ∃ xs, H l = some (.lst xs) ∧ PairVs H xs E
theorem PairVs.keep {H H' : Hp} (k : ∀ b ys, H b = some (.tup ys) → H' b = some (.tup ys)) {xs : List V} {E : List Pr} (h : PairVs H xs E) : PairVs H' xs E :=
  Paired.mapP h fun v p ⟨a, e, z⟩ => ⟨a, e, k _ _ z⟩
theorem PairVs.snoc {H : Hp} : ∀ {xs : List V} {E : List Pr} {v : V} {p : Pr}, PairVs H xs E → PairV H v p → PairVs H (xs ++ [v]) (E ++ [p])
  | _, _, _, _, .nil, h => .cons h .nil
  | _, _, _, _, .cons a r, h => .cons a (PairVs.snoc r h)
theorem PairVs.eraseIdx {H : Hp} : ∀ {xs : List V} {E : List Pr} (j : Nat), PairVs H xs E → PairVs H (xs.eraseIdx j) (E.eraseIdx j)
  | _, _, _, .nil => .nil
  | _, _, 0, .cons _ r => r
  | _, _, j + 1, .cons a r => .cons a (PairVs.eraseIdx j r)
theorem PairVs.get {H : Hp} : ∀ {xs : List V} {E : List Pr} {i : Nat} {v : V}, PairVs H xs E → xs[i]? = some v → ∃ p, E[i]? = some p ∧ PairV H v p
  | _, _, _, _, .nil, e => by simp at e
  | _, _, 0, _, .cons a _, e => by
    simp at e
    subst e
    exact ⟨_, rfl, a⟩
  | _, _, i + 1, v, .cons _ r, e => PairVs.get (i := i) (v := v) r (by simpa using e)
theorem PairsAt.same {H H' : Hp} {l : Addr} {E : List Pr} (h : PairsAt H l E) (s : Same H H') : PairsAt H' l E := by
  obtain ⟨xs, e, r⟩ := h.ex
  exact ⟨xs, s _ _ e, r.keep fun b ys z => s _ _ z⟩
/-- kept where lists and dicts of D alone change -/
theorem PairsAt.keep {D : List Addr} {H H' : Hp} {l : Addr} {E : List Pr} (h : PairsAt H l E) (k : Keep D H H') (hl : l ∉ D) (hD : ∀ b ∈ D, ∀ ys, H b ≠ some (.tup ys)) : PairsAt H' l E := by
  obtain ⟨xs, e, r⟩ := h.ex
  exact ⟨xs, k _ _ hl e, r.keep fun b ys z => k _ _ (fun m => hD b m ys z) z⟩
def pD (p : Pr) : PyData := .tuple [.int (p.1 : Int), .int (p.2 : Int)]
theorem PairV.dp {K : PySem.W.Frag} {H : Hp} {v : V} {p : Pr} (h : PairV H v p) : Dp K H v (pD p) := by
  obtain ⟨a, rfl, e⟩ := h
  exact .tup (SqT.of e) (.cons (.int _) (.cons (.int _) .nil))
theorem PairVs.dp {K : PySem.W.Frag} {H : Hp} : ∀ {xs : List V} {E : List Pr}, PairVs H xs E → DpAll K H xs (E.map pD)
  | _, _, .nil => .nil
  | _, _, .cons a r => .cons a.dp (PairVs.dp r)
theorem PairsAt.dp {K : PySem.W.Frag} {H : Hp} {l : Addr} {E : List Pr} (h : PairsAt H l E) : Dp K H (.ref l) (.list (E.map pD)) := by
  obtain ⟨xs, e, r⟩ := h.ex
  exact .lst (SqL.of e) r.dp
theorem pD_eqv (p q : Pr) : PyData.eqv (pD p) (pD q) = decide (p = q) := by
  obtain ⟨a, b⟩ := p
  obtain ⟨c, d⟩ := q
  have e : PyData.eqv (pD (a, b)) (pD (c, d)) = (((a : Int) == (c : Int)) && (((b : Int) == (d : Int)) && true)) := by
    simp only [pD, PyData.eqv, PyData.eqvAll]
  rw [e, Bool.eq_iff_iff]
  simp only [Bool.and_true, Bool.and_eq_true, beq_iff_eq, decide_eq_true_eq, Prod.mk.injEq]
  omega
theorem any_pD (q : Pr) : ∀ E : List Pr, ((E.map pD).any fun z => PyData.eqv z (pD q)) = decide (q ∈ E)
  | [] => by simp
  | p :: E => by
    rw [List.map_cons, List.any_cons, any_pD q E, pD_eqv, Bool.eq_iff_iff]
    simp only [Bool.or_eq_true, decide_eq_true_eq, List.mem_cons]
    constructor
    · rintro (h | h)
      · exact .inl h.symm
      · exact .inr h
    · rintro (h | h)
      · exact .inl h.symm
      · exact .inr h
theorem pD_lay (p : Pr) : (pD p).canLay0 = true := by simp [pD, PyData.canLay0, PyData.canLayAll0]
theorem pD_depth (p : Pr) : (pD p).depth = 1 := by simp [pD, PyData.depth, PyData.depthAll]
theorem pDs_lay : ∀ E : List Pr, PyData.canLayAll0 (E.map pD) = true
  | [] => by simp [PyData.canLayAll0]
  | z :: zs => by simp [PyData.canLayAll0, pD_lay z, pDs_lay zs]
theorem pDs_depth : ∀ E : List Pr, PyData.depthAll (E.map pD) ≤ 1
  | [] => by simp [PyData.depthAll]
  | z :: zs => by
    have h1 := pDs_depth zs
    have h2 := pD_depth z
    simp only [List.map_cons, PyData.depthAll]
    omega
theorem pD_shaped (p : Pr) : SeqAt.shaped (pD p) = true := by
  have h := pD_depth p
  unfold SeqAt.shaped
  rw [pD_lay, h] <;> rfl
theorem pDs_shaped (E : List Pr) : SeqAt.shaped (.list (E.map pD)) = true := by
  have h1 := pDs_depth E
  have h2 : PyData.depth (.list (E.map pD)) ≤ 64 := by
    simp only [PyData.depth]
    omega
  have h3 : PyData.canLay0 (.list (E.map pD)) = true := by
    simp only [PyData.canLay0]
    exact pDs_lay E
  unfold SeqAt.shaped
  rw [h3, decide_eq_true h2] <;> rfl
theorem pDs_plain : ∀ E : List Pr, PyData.plainAll (E.map pD) = true
  | [] => by simp [PyData.plainAll]
  | z :: zs => by
    have h := pDs_plain zs
    simp [PyData.plainAll, PyData.plain, pD, h]
theorem place_pD {q : Pr} : ∀ {E : List Pr}, q ∈ E → ∃ j, SeqAt.dataPlace (E.map pD) (pD q) = some j ∧ E.eraseIdx j = E.erase q
  | [], h => by cases h
  | p :: E, h => by
    by_cases e : p = q
    · refine ⟨0, ?_, ?_⟩
      · unfold SeqAt.dataPlace
        rw [List.map_cons, List.findIdx?_cons, pD_eqv, e] <;> simp
      · subst e
        rw [List.erase_cons_head] <;> rfl
    · obtain ⟨j, h1, h2⟩ := place_pD (E := E) (q := q) ((List.mem_cons.mp h).resolve_left fun z => e z.symm)
      refine ⟨j + 1, ?_, ?_⟩
      · unfold SeqAt.dataPlace at h1 ⊢
        rw [List.map_cons, List.findIdx?_cons, pD_eqv, decide_eq_false e, h1] <;> simp
      · rw [List.erase_cons_tail (by simpa using e), ← h2] <;> rfl

/-! ### bundles: what a caller is given of a def -/
section
variable (P : Program) (w : World) (K : PySem.W.Frag) (mg : Str → Option Value) (base : Heap) (CX : CXT)
structure CalD (k : Nat) (x : Str) (sp : Sp) : Prop where
  ex : ∃ f fd ps, FnOk P w K mg base CX k f fd ps sp ∧ Binds K fd ps [] ∧ mg x = some (.ref f) ∧ PySem.W.keepIn K (.ref f) = true
structure MetD (C : Addr) (k : Nat) (m : Str) (sp : Sp) : Prop where
  ex : ∃ f fd ps, FnOk P w K mg base CX k f fd ps sp ∧ Binds K fd ps [] ∧ Meth K C m f
structure MakD (C : Addr) (k : Nat) (x : Str) (sp : Sp) : Prop where
  ex : ∃ f fd ps, Mk K C f ∧ FnOk P w K mg base CX k f fd ps sp ∧ Binds K fd ps [] ∧ mg x = some (.ref C)
end
section
variable {X : Cx} {CX : CXT} {k j : Nat} {C : Addr} {sp : Sp} {E : XK} {ES : L2.St → XK} {x m : Str} {p pos apos : Pos} {e o : Expr} {es : List Expr} {ta : TE} {t : TA}
theorem pc (c : CalD X.prog X.w X.K X.mg X.base CX k x sp) (hr : Room j X.A) (hx : Passes CX X E) (ha : PA X (e :: es) t) (hk : k ≤ j := by decide) (hg : Gl X x := by rfl)
    (hdb : (x == ("__debug__" : Str)) = false := by decide) (he : starEach (e :: es) X.env = (false, eval e X.env) :: starEach es X.env := by rfl) (hpl : (backTo pos (starEach es X.env)).any (·.1) = false := by rfl) :
    PE X (.Call (.Name x p) (e :: es) [] pos) (tCall sp [] E t) := by
  obtain ⟨f, fd, ps, F, hb, hm, kp⟩ := c.ex
  exact pe_call F (hr.mono hk) hg hm kp hb .nil hx ha hdb he hpl
theorem pcS (c : CalD X.prog X.w X.K X.mg X.base CX k x sp) (hr : Room j X.A) (hx : ∀ σ, PassesAt CX X σ (ES σ)) (ha : PA X (e :: es) t) (hk : k ≤ j := by decide) (hg : Gl X x := by rfl)
    (hdb : (x == ("__debug__" : Str)) = false := by decide) (he : starEach (e :: es) X.env = (false, eval e X.env) :: starEach es X.env := by rfl) (hpl : (backTo pos (starEach es X.env)).any (·.1) = false := by rfl) :
    PE X (.Call (.Name x p) (e :: es) [] pos) (tCallS sp ES t) := by
  obtain ⟨f, fd, ps, F, hb, hm, kp⟩ := c.ex
  exact pe_callS F (hr.mono hk) hg hm kp hb hx ha hdb he hpl
theorem pm {pl : Sem Bool} (he : PE X o ta) (c : Cls X.K C) (d : MetD X.prog X.w X.K X.mg X.base CX C k m sp) (hr : Room j X.A) (hx : Passes CX X E) (ha : PA X (e :: es) t) (hk : k ≤ j := by decide)
    (hst : starEach (e :: es) X.env = (false, eval e X.env) :: starEach es X.env := by rfl) (hpl : (backTo pos (starEach es X.env)).any (·.1) = false := by rfl)
    (ht : eval (.Call (.Attribute o m apos) (e :: es) [] pos) X.env = (do
      let ov ← eval o X.env
      standAt apos.atName
      let (f, first) ← holding [ov] (getMethod ov m pl)
      callWith pos f first (backTo pos (starEach (e :: es) X.env)) (backToKw pos (keywordEach [] X.env))) := by rfl) :
    PE X (.Call (.Attribute o m apos) (e :: es) [] pos) (tMeth C m sp [] E ta t) := by
  obtain ⟨f, fd, ps, F, hb, hm⟩ := d.ex
  exact pe_meth (pl := pl) he c hm F (hr.mono hk) hb .nil hx ha hst hpl ht
theorem pmS {pl : Sem Bool} (he : PE X o ta) (c : Cls X.K C) (d : MetD X.prog X.w X.K X.mg X.base CX C k m sp) (hr : Room j X.A) (hx : ∀ σ, PassesAt CX X σ (ES σ)) (ha : PA X (e :: es) t) (hk : k ≤ j := by decide)
    (hst : starEach (e :: es) X.env = (false, eval e X.env) :: starEach es X.env := by rfl) (hpl : (backTo pos (starEach es X.env)).any (·.1) = false := by rfl)
    (ht : eval (.Call (.Attribute o m apos) (e :: es) [] pos) X.env = (do
      let ov ← eval o X.env
      standAt apos.atName
      let (f, first) ← holding [ov] (getMethod ov m pl)
      callWith pos f first (backTo pos (starEach (e :: es) X.env)) (backToKw pos (keywordEach [] X.env))) := by rfl) :
    PE X (.Call (.Attribute o m apos) (e :: es) [] pos) (tMethS C m sp ES ta t) := by
  obtain ⟨f, fd, ps, F, hb, hm⟩ := d.ex
  exact pe_methS (pl := pl) he c hm F (hr.mono hk) hb hx ha hst hpl ht
theorem pm0 {pl : Sem Bool} (he : PE X o ta) (c : Cls X.K C) (d : MetD X.prog X.w X.K X.mg X.base CX C k m sp) (hr : Room j X.A) (hx : Passes CX X E) (hk : k ≤ j := by decide)
    (ht : eval (.Call (.Attribute o m apos) [] [] pos) X.env = (do
      let ov ← eval o X.env
      standAt apos.atName
      let (f, first) ← holding [ov] (getMethod ov m pl)
      callWith pos f first (backTo pos (starEach [] X.env)) (backToKw pos (keywordEach [] X.env))) := by rfl) :
    PE X (.Call (.Attribute o m apos) [] [] pos) (tMeth C m sp [] E ta tNil) := by
  obtain ⟨f, fd, ps, F, hb, hm⟩ := d.ex
  exact pe_meth0 (pl := pl) he c hm F (hr.mono hk) hb .nil hx ht
theorem pk (d : MakD X.prog X.w X.K X.mg X.base CX C k x sp) (hr : Room j X.A) (hx : Passes CX X E) (ha : PA X (e :: es) t) (hk : k + 1 ≤ j := by decide) (hg : Gl X x := by rfl)
    (hdb : (x == ("__debug__" : Str)) = false := by decide) (he : starEach (e :: es) X.env = (false, eval e X.env) :: starEach es X.env := by rfl) (hpl : (backTo pos (starEach es X.env)).any (·.1) = false := by rfl) :
    PE X (.Call (.Name x p) (e :: es) [] pos) (tMake C sp [] E t) := by
  obtain ⟨f, fd, ps, M, F, hb, hm⟩ := d.ex
  exact pe_make M F (hr.mono hk) hg hm hb .nil hx ha hdb he hpl
theorem pkS (d : MakD X.prog X.w X.K X.mg X.base CX C k x sp) (hr : Room j X.A) (hx : ∀ σ, PassesAt CX X σ (ES σ)) (ha : PA X (e :: es) t) (hk : k + 1 ≤ j := by decide) (hg : Gl X x := by rfl)
    (hdb : (x == ("__debug__" : Str)) = false := by decide) (he : starEach (e :: es) X.env = (false, eval e X.env) :: starEach es X.env := by rfl) (hpl : (backTo pos (starEach es X.env)).any (·.1) = false := by rfl) :
    PE X (.Call (.Name x p) (e :: es) [] pos) (tMakeS C sp ES t) := by
  obtain ⟨f, fd, ps, M, F, hb, hm⟩ := d.ex
  exact pe_makeS M F (hr.mono hk) hg hm hb hx ha hdb he hpl
end
/-- what a callee lets out leaves the def -/
theorem px {P : Program} {w : World} {K : PySem.W.Frag} {mg : Str → Option Value} {base : Heap} {N : List Str} {qual : Str} {scope : Scope} {f : Addr} {cd : Value} {A : Around}
    {outer : List Env} {s : Shared} {H : Hp} {E : XK} : Passes (L2N.CX P w) (cxOf (L2N.CX P w) P w K mg base N qual scope f cd A outer s H E) E :=
  L2N.passes_call (W := fun cls d _ H => E cls d H) (L2N.takes_of rfl rfl rfl rfl) (fun _ _ _ _ h => h)
/-- what is raised leaves the def -/
theorem tk {P : Program} {w : World} {K : PySem.W.Frag} {mg : Str → Option Value} {base : Heap} {N : List Str} {qual : Str} {scope : Scope} {f : Addr} {cd : Value} {A : Around}
    {outer : List Env} {s : Shared} {H : Hp} {E : XK} : L2N.Takes (cxOf (L2N.CX P w) P w K mg base N qual scope f cd A outer s H E) (fun cls d _ H => E cls d H) :=
  L2N.takes_of rfl rfl rfl rfl
/-- an own exception class of the text -/
structure ExcT (K : PySem.W.Frag) (mg : Str → Option Value) (x : Str) (c : Addr) : Prop where
  g : mg x = some (.ref c)
  e : PySem.W.excIn K c [.type "ValueError", .type "Exception", .type "BaseException", .type "object"] "ValueError.__new__" = true
  k : PySem.W.keepIn K (.ref c) = true
  b : PySem.W.subIn K (.ref c) (.type "BaseException") = some true
  t : PySem.W.typeIn K (.ref c) = some (.type "type")
theorem pr {X : Cx} {x m : Str} {c : Addr} {j : Nat} {p p2 pos pos2 : Pos} {W : WX} (T : ExcT X.K X.mg x c) (tk : L2N.Takes X W) (hc : X.calm = true := by rfl) (hg : Gl X x := by rfl)
    (hdb : (x == ("__debug__" : Str)) = false := by decide) :
    PS X (.Raise (some (.Call (.Name x p) [.Constant (.str m) j p2] [] pos)) none pos2) (fun _ σ H => W (.ref c) none σ H) :=
  L2N.ps_raise hc tk (L2N.pmk_own PySem.F.excBase_ValueError T.e T.g T.k (raises_own T.b T.t) hg hdb)
end KT

/-! what the hall's defs promise -/
namespace KT
open PySem PySem.Spec PyProof.Rows L2
/-- the facts of the program's own classes -/
structure HT (K : PySem.W.Frag) (mg : Str → Option Value) (C cNG cSG cKA cST cBH : Addr) : Prop where
  cl : Cls K C
  nC : NoAttr K C "count"
  nP : NoAttr K C "pairs"
  ng : ExcT K mg "NoGuest" cNG
  sg : ExcT K mg "SameGuest" cSG
  ka : ExcT K mg "KnowAlready" cKA
  st : ExcT K mg "Strangers" cST
  bh : ExcT K mg "BadHall" cBH
  gr : ∃ t, mg "GREATEST" = some (.int 20 t)
  min : mg "min" = none
  max : mg "max" = none
  range : mg "range" = none
  len : mg "len" = none
def isG (n : Nat) (z : Int) : Prop := 0 ≤ z ∧ z < (n : Int)
theorem isG.nat {n : Nat} {z : Int} (h : isG n z) : ∃ i : Nat, z = (i : Int) ∧ i < n := ⟨z.toNat, by have := h.1; omega, by have := h.1; have := h.2; omega⟩
theorem isG.of {n i : Nat} (h : i < n) : isG n (i : Int) := ⟨by omega, by omega⟩
theorem notG {n : Nat} {z : Int} (h : ¬ isG n z) : z < 0 ∨ (n : Int) ≤ z := by
  unfold isG at h
  omega
/-- Hall(many): the new instance at p -/
def spInit (C cBH : Addr) : Sp := fun vs H Q E => ∃ (p dx : Addr) (z : Int), vs = [.ref p, .int z] ∧ H p = some (.ins C dx []) ∧ H dx = some (.own p) ∧
  (¬ (1 ≤ z ∧ z ≤ 20) → E (.ref cBH) none H) ∧
  (∀ n : Nat, z = (n : Int) → 1 ≤ n → n ≤ 20 → ∀ H' d, Keep [p] H H' → H d = none → HallAt C H' p n d [] → Q .non H')
def spMany (C : Addr) : Sp := fun vs H Q _ => ∃ (p d : Addr) (n : Nat) (L : List Pr), vs = [.ref p] ∧ HallAt C H p n d L ∧ Q (.int (n : Int)) H
def spSee (C cNG : Addr) : Sp := fun vs H Q E => ∃ (p d : Addr) (n : Nat) (L : List Pr) (z : Int), vs = [.ref p, .int z] ∧ HallAt C H p n d L ∧
  (¬ isG n z → E (.ref cNG) none H) ∧ (isG n z → Q .non H)
def spSeeTwo (C cNG cSG : Addr) : Sp := fun vs H Q E => ∃ (p d : Addr) (n : Nat) (L : List Pr) (y z : Int), vs = [.ref p, .int y, .int z] ∧ HallAt C H p n d L ∧
  (¬ (isG n y ∧ isG n z) → E (.ref cNG) none H) ∧ (isG n y → isG n z → y = z → E (.ref cSG) none H) ∧ (isG n y → isG n z → y ≠ z → Q .non H)
def spKnow (C cNG cSG : Addr) : Sp := fun vs H Q E => ∃ (p d : Addr) (n : Nat) (L : List Pr) (y z : Int), vs = [.ref p, .int y, .int z] ∧ HallAt C H p n d L ∧
  (¬ (isG n y ∧ isG n z) → E (.ref cNG) none H) ∧ (isG n y → isG n z → y = z → E (.ref cSG) none H) ∧
  (∀ i j : Nat, y = (i : Int) → z = (j : Int) → i < n → j < n → i ≠ j → ∀ H', Same H H' → Q (.bl (decide (nrm i j ∈ L))) H')
def spMeet (C cNG cSG cKA : Addr) : Sp := fun vs H Q E => ∃ (p d : Addr) (n : Nat) (L : List Pr) (y z : Int), vs = [.ref p, .int y, .int z] ∧ HallAt C H p n d L ∧
  (¬ (isG n y ∧ isG n z) → E (.ref cNG) none H) ∧ (isG n y → isG n z → y = z → E (.ref cSG) none H) ∧
  (∀ i j : Nat, y = (i : Int) → z = (j : Int) → i < n → j < n → i ≠ j → nrm i j ∈ L → ∀ H', Same H H' → E (.ref cKA) none H') ∧
  (∀ i j : Nat, y = (i : Int) → z = (j : Int) → i < n → j < n → i ≠ j → nrm i j ∉ L → ∀ H', Keep [d] H H' → HallAt C H' p n d (L ++ [nrm i j]) → Q .non H')
def spPart (C cNG cSG cST : Addr) : Sp := fun vs H Q E => ∃ (p d : Addr) (n : Nat) (L : List Pr) (y z : Int), vs = [.ref p, .int y, .int z] ∧ HallAt C H p n d L ∧
  (¬ (isG n y ∧ isG n z) → E (.ref cNG) none H) ∧ (isG n y → isG n z → y = z → E (.ref cSG) none H) ∧
  (∀ i j : Nat, y = (i : Int) → z = (j : Int) → i < n → j < n → i ≠ j → nrm i j ∉ L → ∀ H', Same H H' → E (.ref cST) none H') ∧
  (∀ i j : Nat, y = (i : Int) → z = (j : Int) → i < n → j < n → i ≠ j → nrm i j ∈ L → ∀ H', Keep [d] H H' → HallAt C H' p n d (L.erase (nrm i j)) → Q .non H')
/-- the others whom g knows (k), or doesn't -/
def oth (k : Bool) (L : List Pr) (g o : Nat) : Bool := decide (o ≠ g) && (decide (nrm g o ∈ L) == k)
def others (k : Bool) (n : Nat) (L : List Pr) (g : Nat) : List Nat := (List.range n).filter (oth k L g)
theorem oth_iff {k : Bool} {L : List Pr} {g o : Nat} : oth k L g o = true ↔ o ≠ g ∧ decide (nrm g o ∈ L) = k := by
  unfold oth
  rw [Bool.and_eq_true, decide_eq_true_eq, beq_iff_eq]
def iV (l : List Nat) : List V := l.map fun (i : Nat) => V.int (i : Int)
theorem iV_snoc (l : List Nat) (i : Nat) : iV (l ++ [i]) = iV l ++ [V.int (i : Int)] := by
  unfold iV
  rw [List.map_append]
  rfl
theorem filter_yes {f : Nat → Bool} {i : Nat} (h : f i = true) : (List.range (i + 1)).filter f = (List.range i).filter f ++ [i] := by
  rw [List.range_succ, List.filter_append, List.filter_cons_of_pos h]
  rfl
theorem filter_no {f : Nat → Bool} {i : Nat} (h : ¬ f i = true) : (List.range (i + 1)).filter f = (List.range i).filter f := by
  rw [List.range_succ, List.filter_append, List.filter_cons_of_neg h]
  exact List.append_nil _
theorem iV_line {f : Nat → Bool} {i : Nat} (h : i ≤ 1000000) : (iV ((List.range i).filter f)).length < sizeLine := by
  unfold iV
  rw [List.length_map]
  refine Nat.lt_of_le_of_lt (List.length_filter_le _ _) ?_
  rw [List.length_range]
  exact Nat.lt_of_le_of_lt h (by decide)
def spOthers (k : Bool) (C cNG : Addr) : Sp := fun vs H Q E => ∃ (p d : Addr) (n : Nat) (L : List Pr) (z : Int), vs = [.ref p, .int z] ∧ HallAt C H p n d L ∧
  (¬ isG n z → E (.ref cNG) none H) ∧
  (∀ g : Nat, z = (g : Int) → g < n → ∀ H' l, Same H H' → H l = none → H' l = some (.lst (iV (others k n L g))) → Q (.ref l) H')
section
variable {C cNG cSG cKA cST : Addr} {H : Hp} {Q : VK} {E : XK} {p d : Addr} {n i j : Nat} {L : List Pr}
theorem know_good (hall : HallAt C H p n d L) (hi : i < n) (hj : j < n) (nij : i ≠ j) (q : ∀ H', Same H H' → Q (.bl (decide (nrm i j ∈ L))) H') :
    spKnow C cNG cSG [.ref p, .int (i : Int), .int (j : Int)] H Q E := by
  refine ⟨p, d, n, L, _, _, rfl, hall, fun b => absurd ⟨isG.of hi, isG.of hj⟩ b, fun _ _ e => absurd (Int.ofNat.inj e) nij, fun i' j' ei ej _ _ _ => ?_⟩
  have a1 : i = i' := Int.ofNat.inj ei
  have a2 : j = j' := Int.ofNat.inj ej
  subst a1
  subst a2
  exact q
theorem meet_good (hall : HallAt C H p n d L) (hi : i < n) (hj : j < n) (nij : i ≠ j) (nin : nrm i j ∉ L) (q : ∀ H', Keep [d] H H' → HallAt C H' p n d (L ++ [nrm i j]) → Q .non H') :
    spMeet C cNG cSG cKA [.ref p, .int (i : Int), .int (j : Int)] H Q E := by
  refine ⟨p, d, n, L, _, _, rfl, hall, fun b => absurd ⟨isG.of hi, isG.of hj⟩ b, fun _ _ e => absurd (Int.ofNat.inj e) nij, fun i' j' ei ej _ _ _ m => ?_, fun i' j' ei ej _ _ _ _ => ?_⟩
  · have a1 : i = i' := Int.ofNat.inj ei
    have a2 : j = j' := Int.ofNat.inj ej
    subst a1
    subst a2
    exact absurd m nin
  · have a1 : i = i' := Int.ofNat.inj ei
    have a2 : j = j' := Int.ofNat.inj ej
    subst a1
    subst a2
    exact q
theorem others_good {k : Bool} (hall : HallAt C H p n d L) (hi : i < n) (q : ∀ H' l, Same H H' → H l = none → H' l = some (.lst (iV (others k n L i))) → Q (.ref l) H') :
    spOthers k C cNG [.ref p, .int (i : Int)] H Q E := by
  refine ⟨p, d, n, L, _, rfl, hall, fun b => absurd (isG.of hi) b, fun g eg _ => ?_⟩
  have a1 : i = g := Int.ofNat.inj eg
  subst a1
  exact q
end
/-! readings of calls that raise nothing -/
theorem rv {σ : L2.St} {H : Hp} {k : Nat} {v : V} (h : σ[k]? = some (some v)) : ∀ R : VK, R v H → tVar k σ H R := fun _ r => ⟨_, h, r⟩
theorem rvD {σ : L2.St} {k : Nat} {v : V} (h : σ[k]? = some (some v)) : ∀ (H : Hp) (R : VK), R v H → tVar k σ H R := fun _ _ r => ⟨_, h, r⟩
section
variable {C cNG cSG cKA cST : Addr} {σ : L2.St} {H : Hp} {Q : VK} {E : XK} {p d : Addr} {n i j : Nat} {L : List Pr} {to ta tb : TE}
theorem r_know (ho : ∀ R : VK, R (.ref p) H → to σ H R) (ha : ∀ R : VK, R (.int (i : Int)) H → ta σ H R) (hb : ∀ R : VK, R (.int (j : Int)) H → tb σ H R)
    (hall : HallAt C H p n d L) (hi : i < n) (hj : j < n) (nij : i ≠ j) (q : ∀ H', Same H H' → Q (.bl (decide (nrm i j ∈ L))) H') :
    tMeth C "know" (spKnow C cNG cSG) [] E to (tCons ta (tCons tb tNil)) σ H Q := by
  obtain ⟨dx, hp⟩ := hall.ins
  exact ho _ ⟨p, dx, _, rfl, hp, hf_no _ _ (by decide +kernel) (by decide +kernel), ha _ (hb _ (know_good hall hi hj nij q))⟩
theorem r_meet (ho : ∀ R : VK, R (.ref p) H → to σ H R) (ha : ∀ R : VK, R (.int (i : Int)) H → ta σ H R) (hb : ∀ R : VK, R (.int (j : Int)) H → tb σ H R)
    (hall : HallAt C H p n d L) (hi : i < n) (hj : j < n) (nij : i ≠ j) (nin : nrm i j ∉ L) (q : ∀ H', Keep [d] H H' → HallAt C H' p n d (L ++ [nrm i j]) → Q .non H') :
    tMeth C "meet" (spMeet C cNG cSG cKA) [] E to (tCons ta (tCons tb tNil)) σ H Q := by
  obtain ⟨dx, hp⟩ := hall.ins
  exact ho _ ⟨p, dx, _, rfl, hp, hf_no _ _ (by decide +kernel) (by decide +kernel), ha _ (hb _ (meet_good hall hi hj nij nin q))⟩
theorem r_known (ho : ∀ R : VK, R (.ref p) H → to σ H R) (ha : ∀ R : VK, R (.int (i : Int)) H → ta σ H R)
    (hall : HallAt C H p n d L) (hi : i < n) (q : ∀ H' l, Same H H' → H l = none → H' l = some (.lst (iV (others true n L i))) → Q (.ref l) H') :
    tMeth C "known" (spOthers true C cNG) [] E to (tCons ta tNil) σ H Q := by
  obtain ⟨dx, hp⟩ := hall.ins
  exact ho _ ⟨p, dx, _, rfl, hp, hf_no _ _ (by decide +kernel) (by decide +kernel), ha _ (others_good hall hi q)⟩
theorem r_strangers (ho : ∀ R : VK, R (.ref p) H → to σ H R) (ha : ∀ R : VK, R (.int (i : Int)) H → ta σ H R)
    (hall : HallAt C H p n d L) (hi : i < n) (q : ∀ H' l, Same H H' → H l = none → H' l = some (.lst (iV (others false n L i))) → Q (.ref l) H') :
    tMeth C "strangers" (spOthers false C cNG) [] E to (tCons ta tNil) σ H Q := by
  obtain ⟨dx, hp⟩ := hall.ins
  exact ho _ ⟨p, dx, _, rfl, hp, hf_no _ _ (by decide +kernel) (by decide +kernel), ha _ (others_good hall hi q)⟩
theorem r_many (ho : ∀ R : VK, R (.ref p) H → to σ H R) (hall : HallAt C H p n d L) (q : Q (.int (n : Int)) H) :
    tMeth C "many" (spMany C) [] E to tNil σ H Q := by
  obtain ⟨dx, hp⟩ := hall.ins
  exact ho _ ⟨p, dx, _, rfl, hp, hf_no _ _ (by decide +kernel) (by decide +kernel), p, d, n, L, rfl, hall, q⟩
end
/-- (x, y) in a dict of pairs -/
theorem get_new {H : Hp} {q t : Addr} {i j : Nat} {E : List Pr} (hq : H q = some (.dT (kvs E))) (ht : H t = none) :
    DGet (upd H t (.tup [V.int (i : Int), V.int (j : Int)])) q (.ref t) (valV (kvs E) (kP (i, j))) :=
  DGet.t (k := kP (i, j)) (same_new (.tup [V.int (i : Int), V.int (j : Int)]) ht _ _ hq) upd_same
/-- Hall(z) as an expression -/
theorem make_hall {C cBH : Addr} {z : Int} {H1 : Hp} {Q : Addr → Hp → Prop} {E : XK}
    (bad : ¬ (1 ≤ z ∧ z ≤ 20) → ∀ H', Same H1 H' → E (.ref cBH) none H')
    (good : ∀ n : Nat, z = (n : Int) → 1 ≤ n → n ≤ 20 → ∀ H' x d, H1 x = none → H1 d = none → Same H1 H' → HallAt C H' x n d [] → Q x H') :
    ∀ x dx, H1 x = none → H1 dx = none → dx ≠ x → spInit C cBH (.ref x :: [.int z]) (upd (upd H1 dx (.own x)) x (.ins C dx [])) (fun v H2 => v = .non ∧ Q x H2) E := by
  intro x dx hx hdx ne
  have s1 : Same H1 (upd (upd H1 dx (.own x)) x (.ins C dx [])) := (same_new _ hdx).trans (same_new _ (by rw [upd_ne ne.symm]; exact hx))
  refine ⟨x, dx, z, rfl, upd_same, by rw [upd_ne ne]; exact upd_same, fun b => bad b _ s1, ?_⟩
  intro n ez h1 h2 H' d kp nd hall
  refine ⟨rfl, good n ez h1 h2 H' x d hx ?_ (same_keepNew s1 hx kp) hall⟩
  exact s1.free nd
end KT

/-! the law's own defs: sorting of pairs, promises -/
namespace KT
open PySem PySem.Spec PyProof.Rows L2
def Srt (E : List Pr) : Prop := E.Pairwise fun p q => p.1 < q.1 ∨ (p.1 = q.1 ∧ p.2 < q.2)
/-- the ints of the tuple that v stands for -/
def tk2 (H : Hp) : V → Int × Int
  | .ref a => match H a with
    | some (.tup [.int i, .int j]) => (i, j)
    | _ => (0, 0)
  | _ => (0, 0)
theorem tk2_of {H : Hp} {v : V} {p : Pr} (h : PairV H v p) : tk2 H v = ((p.1 : Int), (p.2 : Int)) := by
  obtain ⟨a, rfl, e⟩ := h
  show (match H a with
    | some (.tup [.int i, .int j]) => (i, j)
    | _ => (0, 0)) = _
  rw [e]
theorem PairVs.mem {H : Hp} : ∀ {xs : List V} {E : List Pr}, PairVs H xs E → ∀ v ∈ xs, ∃ p, p ∈ E ∧ PairV H v p
  | _, _, .nil, v, h => by cases h
  | _, _, .cons a r, v, h => by
    rcases List.mem_cons.mp h with e | h
    · subst e
      exact ⟨_, List.mem_cons_self, a⟩
    · obtain ⟨p, hp, z⟩ := PairVs.mem r v h
      exact ⟨p, List.mem_cons_of_mem _ hp, z⟩
theorem PairVs.eq {H : Hp} : ∀ {xs : List V} {E : List Pr}, PairVs H xs E → E = xs.map fun v => ((tk2 H v).1.toNat, (tk2 H v).2.toNat)
  | _, _, .nil => rfl
  | _, _, .cons a r => by
    rw [List.map_cons, ← PairVs.eq r, tk2_of a]
    simp
theorem PairVs.of {H : Hp} : ∀ {ys : List V}, (∀ v ∈ ys, ∃ p, PairV H v p) → PairVs H ys (ys.map fun v => ((tk2 H v).1.toNat, (tk2 H v).2.toNat))
  | [], _ => .nil
  | v :: ys, h => by
    refine .cons ?_ (PairVs.of fun u hu => h u (List.mem_cons_of_mem _ hu))
    obtain ⟨p, hp⟩ := h v List.mem_cons_self
    show PairV H v ((tk2 H v).1.toNat, (tk2 H v).2.toNat)
    rw [tk2_of hp]
    simpa using hp
theorem sort_pairs {H : Hp} {xs : List V} {E : List Pr} (r : PairVs H xs E) (nd : E.Nodup) :
    (∀ x ∈ xs, ∃ t, x = V.ref t ∧ H t = some (.tup [.int (tk2 H x).1, .int (tk2 H x).2])) ∧
    ∀ ys, SrtO.Srtd (ltP (tk2 H)) ys → ys.Perm xs → ∃ E', PairVs H ys E' ∧ E'.Perm E ∧ Srt E' := by
  refine ⟨fun x hx => ?_, fun ys hs hp => ?_⟩
  · obtain ⟨p, _, hv⟩ := r.mem x hx
    rw [tk2_of hv]
    obtain ⟨a, rfl, e⟩ := hv
    exact ⟨a, rfl, e⟩
  · have all : ∀ v ∈ ys, ∃ p, PairV H v p := fun v hv => by
      obtain ⟨p, _, h⟩ := r.mem v (hp.mem_iff.mp hv)
      exact ⟨p, h⟩
    have pe : (ys.map fun v => ((tk2 H v).1.toNat, (tk2 H v).2.toNat)).Perm E := by
      rw [r.eq]
      exact hp.map _
    refine ⟨_, PairVs.of all, pe, ?_⟩
    have nd2 : (ys.map fun v => ((tk2 H v).1.toNat, (tk2 H v).2.toNat)).Nodup := pe.nodup_iff.mpr nd
    unfold Srt
    rw [List.pairwise_map]
    have nd3 : ys.Pairwise fun u v => ((tk2 H u).1.toNat, (tk2 H u).2.toNat) ≠ ((tk2 H v).1.toNat, (tk2 H v).2.toNat) := List.pairwise_map.mp nd2
    have both := List.pairwise_and_iff.mpr ⟨List.Pairwise.imp_of_mem (S := fun u v => ltP (tk2 H) v u = false ∧ u ∈ ys ∧ v ∈ ys) (fun hu hv h => ⟨h, hu, hv⟩) hs, nd3⟩
    refine both.imp ?_
    rintro u v ⟨⟨h1, hu, hv⟩, h2⟩
    obtain ⟨p, hp1⟩ := all u hu
    obtain ⟨q, hq1⟩ := all v hv
    have h3 := SrtO.lexB_no.mp h1
    rw [tk2_of hp1, tk2_of hq1] at *
    simp only [Int.toNat_natCast, ne_eq, Prod.mk.injEq, not_and] at h2 h3 ⊢
    by_cases c : p.1 = q.1
    · have := h2 c
      omega
    · omega

/-! ### promises -/
def spCell (K : PySem.W.Frag) : Sp := fun vs H Q _ => ∃ (a : Addr) (ns : List Int) (k : Nat), vs = [.ref a, .int (k : Int)] ∧ SqL K H a (ns.map V.int) ∧ Q (.int (ns.getD k 0)) H
def spWhole : Sp := fun vs H Q _ => ∃ i : Int, vs = [.int i] ∧ Q (.bl true) H
def spManyOf (K : PySem.W.Frag) : Sp := fun vs H Q _ => ∃ (a : Addr) (ns : List Int), vs = [.ref a] ∧ SqL K H a (ns.map V.int) ∧ ∀ n : Nat, 1 ≤ n → n ≤ 20 → Q (.int (n : Int)) H
def spPairsBy (K : PySem.W.Frag) : Sp := fun vs H Q _ => ∃ (a : Addr) (ns : List Int) (first n : Nat), vs = [.ref a, .int (first : Int), .int (n : Int)] ∧ SqL K H a (ns.map V.int) ∧ 1 ≤ n ∧ n ≤ 20 ∧
  ∀ H' l E, Same H H' → H l = none → PairsAt H' l E → WF n E → Srt E → Q (.ref l) H'
def spHallOf (C : Addr) : Sp := fun vs H Q _ => ∃ (l : Addr) (n : Nat) (E : List Pr), vs = [.int (n : Int), .ref l] ∧ PairsAt H l E ∧ WF n E ∧ 1 ≤ n ∧ n ≤ 20 ∧
  ∀ H' x d, Same H H' → H x = none → H d = none → HallAt C H' x n d E → Q (.ref x) H'
/-- the same pairs, in any order -/
def Eqv (L E : List Pr) : Prop := ∀ p, p ∈ L ↔ p ∈ E
theorem Eqv.refl (L : List Pr) : Eqv L L := fun _ => Iff.rfl
theorem Eqv.snoc {L E : List Pr} (h : Eqv L E) (q : Pr) : Eqv (L ++ [q]) (E ++ [q]) := fun p => by
  rw [List.mem_append, List.mem_append, h p]
theorem Eqv.erase {L E : List Pr} (h : Eqv L E) (nL : L.Nodup) (nE : E.Nodup) (q : Pr) : Eqv (L.erase q) (E.erase q) := fun p => by
  rw [nL.mem_erase_iff, nE.mem_erase_iff, h p]
def spTurnOne (C : Addr) : Sp := fun vs H Q _ => ∃ (x l d : Addr) (n : Nat) (L E : List Pr) (z : Int), vs = [.ref x, .ref l, .int (n : Int), .int z] ∧ HallAt C H x n d L ∧ PairsAt H l E ∧ WF n E ∧ Eqv L E ∧
  ∀ H' L' E', Keep [d, l] H H' → HallAt C H' x n d L' → PairsAt H' l E' → WF n E' → Eqv L' E' → Q .non H'
end KT

/-! what is refused: marks of a caught error, and lists of ints and of truth values -/
namespace KT
open PySem PySem.Spec PyProof.Rows L2
/-! ### bundles -/
theorem MetD.weak {P : Program} {w : World} {K : PySem.W.Frag} {mg : Str → Option Value} {base : Heap} {C : Addr} {k : Nat} {m : Str} {sp : Sp}
    (d : MetD P w K mg base (L2N.CX P w) C k m sp) : MetD P w K mg base (L2.CX P w) C k m sp := by
  obtain ⟨f, fd, ps, F, r⟩ := d.ex
  exact ⟨f, fd, ps, FnOk_weak F, r⟩
theorem MakD.weak {P : Program} {w : World} {K : PySem.W.Frag} {mg : Str → Option Value} {base : Heap} {C : Addr} {k : Nat} {m : Str} {sp : Sp}
    (d : MakD P w K mg base (L2N.CX P w) C k m sp) : MakD P w K mg base (L2.CX P w) C k m sp := by
  obtain ⟨f, fd, ps, M, F, r⟩ := d.ex
  exact ⟨f, fd, ps, M, FnOk_weak F, r⟩
theorem CalD.weak {P : Program} {w : World} {K : PySem.W.Frag} {mg : Str → Option Value} {base : Heap} {k : Nat} {m : Str} {sp : Sp}
    (d : CalD P w K mg base (L2N.CX P w) k m sp) : CalD P w K mg base (L2.CX P w) k m sp := by
  obtain ⟨f, fd, ps, F, r⟩ := d.ex
  exact ⟨f, fd, ps, FnOk_weak F, r⟩
structure CalP (P : Program) (w : World) (K : PySem.W.Frag) (mg : Str → Option Value) (base : Heap) (k : Nat) (x : Str) (sp : Addr → Value → Option Addr → Sp) : Prop where
  ex : ∃ f fd ps, FnP P w K mg base k f fd ps sp ∧ Binds K fd ps [] ∧ mg x = some (.ref f) ∧ PySem.W.keepIn K (.ref f) = true
theorem pcP {X : Cx} {k j : Nat} {A : Around} {sp : Addr → Value → Option Addr → Sp} {x : Str} {q pos : Pos} {e : Expr} {es : List Expr} {t : TA} {p : Addr × Obj} {cls : Value} {d : Option Addr}
    (c : CalP X.prog X.w X.K X.mg X.base k x sp) (hr : Room j A) (ed : X.A.depth = A.depth) (eu : X.A.units = A.units) (hp : p ∈ X.pn) (hz : Zc cls d p.2) (hf : ∃ fv, p.2.data = .fields fv)
    (ha : PA X (e :: es) t) (hk : k ≤ j := by decide) (hg : Gl X x := by rfl) (hdb : (x == ("__debug__" : Str)) = false := by decide)
    (he : starEach (e :: es) X.env = (false, eval e X.env) :: starEach es X.env := by rfl) (hpl : (backTo pos (starEach es X.env)).any (·.1) = false := by rfl) :
    PE X (.Call (.Name x q) (e :: es) [] pos) (tCallP sp p.1 cls d t) := by
  obtain ⟨f, fd, ps, F, hb, hm, kp⟩ := c.ex
  have r1 := hr.mono hk
  exact pe_callP F ⟨by rw [ed]; exact r1.dp, by rw [eu]; exact r1.un⟩ hp hz hf hg hm kp hb ha hdb he hpl
/-! ### lists of ints, of truth values, as data -/
def iD (l : List Nat) : PyData := .list (l.map fun (i : Nat) => PyData.int (i : Int))
theorem iV_all {K : PySem.W.Frag} {H : Hp} : ∀ l : List Nat, DpAll K H (iV l) (l.map fun (i : Nat) => PyData.int (i : Int))
  | [] => .nil
  | i :: l => .cons (.int _) (iV_all l)
theorem iD_dp {K : PySem.W.Frag} {H : Hp} {a : Addr} {l : List Nat} (h : SqL K H a (iV l)) : Dp K H (.ref a) (iD l) := .lst h (iV_all l)
theorem iD_plain : ∀ l : List Nat, PyData.plainAll (l.map fun (i : Nat) => PyData.int (i : Int)) = true
  | [] => by simp [PyData.plainAll]
  | i :: l => by
    have h := iD_plain l
    simp [PyData.plainAll, PyData.plain, h]
theorem iD_shaped (l : List Nat) : SeqAt.shaped (iD l) = true := by
  have h1 : ∀ l : List Nat, PyData.canLayAll0 (l.map fun (i : Nat) => PyData.int (i : Int)) = true ∧ PyData.depthAll (l.map fun (i : Nat) => PyData.int (i : Int)) = 0 := by
    intro l
    induction l with
    | nil => exact ⟨by simp [PyData.canLayAll0], by simp [PyData.depthAll]⟩
    | cons i l ih => exact ⟨by simp [PyData.canLayAll0, PyData.canLay0, ih.1], by simp [PyData.depthAll, PyData.depth, ih.2]⟩
  obtain ⟨a, b⟩ := h1 l
  unfold SeqAt.shaped iD
  simp only [PyData.canLay0, PyData.depth, a, b]
  rfl
theorem iD_refl (l : List Nat) : PyData.eqv (iD l) (iD l) = true := SeqAt.eqv_refl_plain _ (by unfold iD; simp only [PyData.plain]; exact iD_plain l)
def bV (l : List Bool) : List V := l.map V.bl
def bD (l : List Bool) : PyData := .list (l.map PyData.bool)
theorem bV_all {K : PySem.W.Frag} {H : Hp} : ∀ l : List Bool, DpAll K H (bV l) (l.map PyData.bool)
  | [] => .nil
  | i :: l => .cons (.bl _) (bV_all l)
theorem bD_dp {K : PySem.W.Frag} {H : Hp} {a : Addr} {l : List Bool} (h : SqL K H a (bV l)) : Dp K H (.ref a) (bD l) := .lst h (bV_all l)
theorem bD_plain : ∀ l : List Bool, PyData.plainAll (l.map PyData.bool) = true
  | [] => by simp [PyData.plainAll]
  | i :: l => by
    have h := bD_plain l
    simp [PyData.plainAll, PyData.plain, h]
theorem bD_shaped (l : List Bool) : SeqAt.shaped (bD l) = true := by
  have h1 : ∀ l : List Bool, PyData.canLayAll0 (l.map PyData.bool) = true ∧ PyData.depthAll (l.map PyData.bool) = 0 := by
    intro l
    induction l with
    | nil => exact ⟨by simp [PyData.canLayAll0], by simp [PyData.depthAll]⟩
    | cons i l ih => exact ⟨by simp [PyData.canLayAll0, PyData.canLay0, ih.1], by simp [PyData.depthAll, PyData.depth, ih.2]⟩
  obtain ⟨a, b⟩ := h1 l
  unfold SeqAt.shaped bD
  simp only [PyData.canLay0, PyData.depth, a, b]
  rfl
theorem bD_refl (l : List Bool) : PyData.eqv (bD l) (bD l) = true := SeqAt.eqv_refl_plain _ (by unfold bD; simp only [PyData.plain]; exact bD_plain l)
theorem iV_flat : ∀ l : List Nat, (iV l).all flatV = true
  | [] => rfl
  | i :: l => iV_flat l
theorem inV_iV (o : Nat) : ∀ l : List Nat, inV (.int (o : Int)) (iV l) = decide (o ∈ l)
  | [] => by simp [inV, iV]
  | i :: l => by
    have ih := inV_iV o l
    have e : inV (.int (o : Int)) (iV (i :: l)) = (eqV (.int (i : Int)) (.int (o : Int)) || inV (.int (o : Int)) (iV l)) := rfl
    have e2 : eqV (.int (i : Int)) (.int (o : Int)) = ((i : Int) == (o : Int)) := rfl
    rw [e, e2, ih, Bool.eq_iff_iff]
    simp only [Bool.or_eq_true, beq_iff_eq, decide_eq_true_eq, List.mem_cons]
    constructor
    · rintro (h | h)
      · exact .inl (by omega)
      · exact .inr h
    · rintro (h | h)
      · exact .inl (by omega)
      · exact .inr h
/-! ### [k == m for k in range(7)] -/
def marksTo (m i : Nat) : List Bool := (List.range i).map fun k => decide (k = m)
def marks (m : Nat) : List Bool := marksTo m 7
def tMarks (m : Nat) : TE := fun _ H Q => ∀ D H', H D = none → Same H H' → H' D = some (.lst (bV (marks m))) → Q (.ref D) H'
theorem dec_nat (i m : Nat) : decide (V.int (i : Int) = V.int (m : Int)) = decide (i = m) := by
  rw [decide_eq_decide]
  constructor
  · intro h
    have := V.int.inj h
    omega
  · intro h
    rw [h]
theorem yes_ite {σ : L2.St} {H : Hp} {A B : Hp → Prop} (h : A H) : tYes σ H fun b H3 => if b = true then A H3 else B H3 := by
  show (if true = true then A H else B H)
  rw [if_pos rfl]
  exact h
theorem pe_imp {X : Cx} {e : Expr} {t t' : TE} (h : PE X e t) (i : ∀ σ H Q, t' σ H Q → t σ H Q) : PE X e t' := ⟨fun pins s σ H Q I q => h.run pins s σ H Q I (i σ H Q q)⟩
theorem pe_marks {X : Cx} {i m : Nat} {j j2 : Nat} {p1 p2 p3 p4 p5 p6 p7 pos : Pos} {scope : Scope} (hc : X.calm = true) (hN : X.N.Nodup) (hi : i < X.N.length) (hm : X.mg "range" = none) (hgr : Gl X "range")
    (ok : BlkOk X.N X.env.scope scope [("k", i)])
    (hg : ∀ (s : Shared) (H : Hp) (C : Addr) (cl : List (Str × Addr)) (fp : List Addr), PG (X.blk s H scope (compEnvC scope cl C X.env) fp) (.Name "k" p4) (gName i))
    (hv : ∀ (s : Shared) (H : Hp) (C : Addr) (cl : List (Str × Addr)) (fp : List Addr), PE (X.blk s H scope (compEnvC scope cl C X.env) fp) (.Name "k" p1) (tVar i)) :
    PE X (.ListComp (.Compare (.Name "k" p1) [.Eq] [.Constant (.int (m : Int)) j p2] p3) [⟨.Name "k" p4, .Call (.Name "range" p5) [.Constant (.int 7) j2 p6] [] p7, [], 0⟩] scope pos) (tMarks m) := by
  constructor
  intro pins s σ H Q I q
  have hl : σ.length = X.N.length := I.len
  refine (pe_lc (own := [("k", i)]) (g := gName i) (tt := tYes) (te := tOp rEq (tVar i) (tC (.int (m : Int)))) hc hN (pi_range1 hgr hm (pa_cons pe_int pa_nil)) ok hg (fun _ _ _ _ _ => pts_nil)
    (fun s H C cl fp => pe_cmpR op_eq (hv s H C cl fp) pe_int (nomark _))).run pins s σ H Q I ?_
  refine ⟨7, rfl, by decide, by decide, fun D hD => ?_⟩
  refine lc_range (lo := 0) (n := 7) (fun n H' => Same H H' ∧ H' D = some (.lst (bV (marksTo m n)))) ⟨same_new _ hD, upd_same⟩ ?_ (fun H1 h1 => q D H1 hD h1.1 h1.2)
  rintro n H1 hn ⟨s1, h1⟩
  rw [Int.zero_add]
  have hw : i < (wipe σ [i]).length := by rw [wipe_length, hl]; exact hi
  have e1 : (List.set (wipe σ [i]) i (some (V.int (n : Int))))[i]? = some (some (V.int (n : Int))) := List.getElem?_set_self hw
  have e2 : wipe (List.set (wipe σ [i]) i (some (V.int (n : Int)))) [i] = wipe σ [i] := by
    show List.set (List.set (List.set σ i none) i (some (V.int (n : Int)))) i none = List.set σ i none
    rw [List.set_set, List.set_set]
  refine ⟨e2, ?_⟩
  refine yes_ite ?_
  refine ⟨_, e1, rfl, _, h1, ?_, same_keepNew s1 hD (Keep.put D _), ?_⟩
  · unfold bV marksTo
    rw [List.length_map, List.length_map, List.length_range]
    exact Nat.lt_of_lt_of_le hn (by decide)
  · rw [upd_same, dec_nat]
    unfold bV marksTo
    rw [List.range_succ, List.map_append, List.map_append]
    rfl
/-! ### marks of a caught error -/
structure MarkT (K : PySem.W.Frag) (cNG cSG cKA cST cBH cNT cHE D : Addr) (m : Nat) : Prop where
  ex : ExcC K D
  i0 : PySem.W.kitOne K (.ref D) (.ref cNG) = some (decide (0 = m))
  i1 : PySem.W.kitOne K (.ref D) (.ref cSG) = some (decide (1 = m))
  i2 : PySem.W.kitOne K (.ref D) (.ref cKA) = some (decide (2 = m))
  i3 : PySem.W.kitOne K (.ref D) (.ref cST) = some (decide (3 = m))
  i4 : PySem.W.kitOne K (.ref D) (.ref cBH) = some (decide (4 = m))
  i5 : PySem.W.kitOne K (.ref D) (.ref cNT) = some (decide (5 = m))
  iV : PySem.W.kitOne K (.ref D) (.type "ValueError") = some true
  h : PySem.W.exmOne K (.ref D) (.ref cHE) = some true
  m5 : m ≤ 5
/-- _law_marks_of -/
def spMarks (K : PySem.W.Frag) (cNG cSG cKA cST cBH cNT cHE : Addr) : Addr → Value → Option Addr → Sp := fun a cls d vs H Q _ => ∃ (D : Addr) (m : Nat), vs = [.ref a] ∧ cls = .ref D ∧ d = none ∧ MarkT K cNG cSG cKA cST cBH cNT cHE D m ∧
  ∀ H' l, Same H H' → H l = none → H' l = some (.lst (bV (marks m))) → Q (.ref l) H'
/-- _law_numbers -/
def spNumbers : Sp := fun vs H Q _ => ∃ (a b : Addr) (l : List Nat), vs = [.ref a, .ref b] ∧ H a = some (.lst (iV l)) ∧ H b = some (.lst (iV l)) ∧ Q (.bl true) H
/-- _law_known of a dict, of a list -/
def spKnownD : Sp := fun vs H Q _ => ∃ (q : Addr) (n g : Nat) (E : List Pr), vs = [.ref q, .int (n : Int), .int (g : Int)] ∧ H q = some (.dT (kvs E)) ∧ WF n E ∧ n ≤ 20 ∧ g < n ∧
  ∀ H' l, Same H H' → H l = none → H' l = some (.lst (iV (others true n E g))) → Q (.ref l) H'
def spKnownL : Sp := fun vs H Q _ => ∃ (q : Addr) (n g : Nat) (E : List Pr), vs = [.ref q, .int (n : Int), .int (g : Int)] ∧ PairsAt H q E ∧ WF n E ∧ n ≤ 20 ∧ g < n ∧
  ∀ H' l, Same H H' → H l = none → H' l = some (.lst (iV (others true n E g))) → Q (.ref l) H'
/-- _law_same -/
def spSame (C : Addr) : Sp := fun vs H Q _ => ∃ (p l d : Addr) (n : Nat) (L E : List Pr), vs = [.ref p, .ref l, .int (n : Int)] ∧ HallAt C H p n d L ∧ PairsAt H l E ∧ WF n E ∧ Eqv L E ∧ ∀ H', Same H H' → Q (.bl true) H'
theorem oth_eqv {L E : List Pr} (h : Eqv L E) (k : Bool) (g : Nat) : oth k L g = oth k E g := by
  funext o
  unfold oth
  rw [decide_eq_decide.mpr (h (nrm g o))]
theorem others_eqv {L E : List Pr} (h : Eqv L E) (k : Bool) (n g : Nat) : others k n L g = others k n E g := by
  unfold others
  rw [oth_eqv h]
theorem oth_known {n : Nat} {E : List Pr} (wf : WF n E) (g o : Nat) : oth true E g o = decide (nrm g o ∈ E) := by
  rw [Bool.eq_iff_iff, oth_iff, decide_eq_true_eq]
  constructor
  · exact fun h => h.2
  · intro h
    refine ⟨fun e => ?_, h⟩
    have := (wf.2 _ h).1
    rw [e] at this
    exact absurd this (by show ¬ (min g g < max g g); omega)
end KT

/-! takes -/
namespace KT
open PySem PySem.Spec PyProof.Rows L2
theorem take_more {α : Type} {l : List α} {i : Nat} {x : α} (h : l[i]? = some x) : l.take (i + 1) = l.take i ++ [x] := by
  rw [List.take_add_one, h]
  rfl
theorem take_notin {α : Type} {l : List α} {i : Nat} {x : α} (nd : l.Nodup) (h : l[i]? = some x) : x ∉ l.take i := by
  have z : (l.take (i + 1)).Nodup := nd.sublist (List.take_sublist _ _)
  rw [take_more h] at z
  exact fun m => (List.pairwise_append.mp z).2.2 x m x (List.mem_singleton.mpr rfl) rfl
theorem hu65 {k : Nat} {A : Around} (hr : Room k A) : A.units + 65 < cLine := by
  have := hr.un
  omega
end KT

/-! the law's promise -/
namespace KT
open PySem PySem.Spec PyProof.Rows L2
def spLaw (K : PySem.W.Frag) : Sp := fun vs H Q _ => ∃ (a : Addr) (ns : List Int), vs = [.ref a] ∧ SqL K H a (ns.map V.int) ∧ ns.length ≤ 63 ∧ ∀ H', Q (.bl true) H'
theorem seq_keep {K : PySem.W.Frag} {D : List Addr} {H H1 H2 : Hp} {a : Addr} {xs : List V} (k : Keep D H1 H2) (s : Same H H1) (h : SqL K H a xs) (n : ∀ b ∈ D, H b = none) : SqL K H2 a xs := by
  rcases h with (h | ⟨o, h⟩) | h
  · exact .inl (.inl (k _ _ (fun m => by rw [n _ m] at h; cases h) (s _ _ h)))
  · exact .inl (.inr ⟨o, k _ _ (fun m => by rw [n _ m] at h; cases h) (s _ _ h)⟩)
  · exact .inr h
end KT

/-! several ways to one place: own rules -/
namespace KT
open PySem PySem.Spec PyProof.Rows L2
section
variable {X : Cx} {st : Stmt} {t : TS} {e : Expr} {te : TE}
def tJoin (t : TS) : TS := fun D σ H => ∃ R : L2.St → Hp → Prop, t { D with nx := R } σ H ∧ ∀ σ' H', R σ' H' → D.nx σ' H'
theorem ps_join (h : PS X st t) : PS X st (tJoin t) := by
  refine ⟨fun pins s σ H D I hw => ?_⟩
  obtain ⟨R, h1, h2⟩ := hw
  refine thn (h.run pins s σ H _ I h1) ?_
  intro f s' q
  cases f with
  | next =>
    obtain ⟨σ', H', I', r⟩ := q
    exact ⟨σ', H', I', h2 _ _ r⟩
  | brk => exact q
  | cont => exact q
  | ret u => exact q
def tJoinE (t : TE) : TE := fun σ H Q => ∃ R : VK, t σ H R ∧ ∀ v H', R v H' → Q v H'
theorem pe_join (h : PE X e te) : PE X e (tJoinE te) := by
  refine ⟨fun pins s σ H Q I hw => ?_⟩
  obtain ⟨R, h1, h2⟩ := hw
  refine thn (h.run pins s σ H _ I h1) ?_
  rintro v s' ⟨x, H', I', r, q⟩
  exact ⟨x, H', I', r, h2 _ _ q⟩
end
end KT

/-! crowds: plain, promises -/
namespace KT
open PySem PySem.Spec PyProof.Rows L2
def okB (L : List Pr) (a b : Nat) : Bool := decide (a = b) || decide (nrm a b ∈ L)
def crowdB (L : List Pr) (gs : List Nat) : Bool := gs.all fun a => gs.all fun b => okB L a b
def crowdR (E : List Pr) (gs : List Nat) : Bool := gs.all fun a => gs.all fun b => !decide (a < b) || decide ((a, b) ∈ E)
theorem okB_iff {L : List Pr} {a b : Nat} : okB L a b = true ↔ a = b ∨ nrm a b ∈ L := by
  unfold okB
  rw [Bool.or_eq_true, decide_eq_true_eq, decide_eq_true_eq]
theorem crowdB_iff {L : List Pr} {gs : List Nat} : crowdB L gs = true ↔ ∀ a ∈ gs, ∀ b ∈ gs, a = b ∨ nrm a b ∈ L := by
  unfold crowdB
  simp only [List.all_eq_true, okB_iff]
theorem crowdR_iff {E : List Pr} {gs : List Nat} : crowdR E gs = true ↔ ∀ a ∈ gs, ∀ b ∈ gs, a < b → (a, b) ∈ E := by
  unfold crowdR
  simp only [List.all_eq_true, Bool.or_eq_true, Bool.not_eq_true', decide_eq_true_eq, decide_eq_false_iff_not]
  constructor
  · intro h a ha b hb c
    exact (h a ha b hb).resolve_left fun z => z c
  · intro h a ha b hb
    by_cases c : a < b
    · exact .inr (h a ha b hb c)
    · exact .inl c
theorem crowd_eq {L E : List Pr} (h : Eqv L E) (gs : List Nat) : crowdB L gs = crowdR E gs := by
  rw [Bool.eq_iff_iff, crowdB_iff, crowdR_iff]
  constructor
  · intro z a ha b hb c
    have y := (z a ha b hb).resolve_left (by omega)
    rw [nrm_lt c] at y
    exact (h _).mp y
  · intro z a ha b hb
    rcases Nat.lt_trichotomy a b with c | c | c
    · refine .inr ?_
      rw [nrm_lt c]
      exact (h _).mpr (z a ha b hb c)
    · exact .inl c
    · refine .inr ?_
      rw [nrm_comm, nrm_lt c]
      exact (h _).mpr (z b hb a ha c)
theorem iV_get {l : List Nat} {i : Nat} {v : V} (h : (iV l)[i]? = some v) : ∃ o : Nat, l[i]? = some o ∧ v = V.int (o : Int) := by
  unfold iV at h
  rw [List.getElem?_map] at h
  cases e : l[i]? with
  | none =>
    rw [e] at h
    cases h
  | some u =>
    rw [e] at h
    exact ⟨u, rfl, (Option.some.inj h).symm⟩
theorem iV_len (l : List Nat) : (iV l).length = l.length := by
  unfold iV
  rw [List.length_map]
theorem forall_take {α : Type} {l : List α} {i : Nat} {x : α} {p : α → Prop} (hx : l[i]? = some x) (h : ∀ a ∈ l.take i, p a) (hp : p x) : ∀ a ∈ l.take (i + 1), p a := by
  intro a ha
  rw [List.take_add_one, hx] at ha
  rcases List.mem_append.mp ha with ha | ha
  · exact h a ha
  · have : a = x := by simpa using ha
    rw [this]
    exact hp
def spIsCrowd (C cNG : Addr) : Sp := fun vs H Q E => ∃ (p l d : Addr) (n : Nat) (L : List Pr) (zs : List Int), vs = [.ref p, .ref l] ∧ HallAt C H p n d L ∧ H l = some (.lst (zs.map V.int)) ∧
  ((∃ z ∈ zs, ¬ isG n z) → E (.ref cNG) none H) ∧ (∀ gs : List Nat, zs.map V.int = iV gs → (∀ g ∈ gs, g < n) → ∀ H', Same H H' → Q (.bl (crowdB L gs)) H')
def spCrowdL : Sp := fun vs H Q _ => ∃ (l g : Addr) (n : Nat) (E : List Pr) (gs : List Nat), vs = [.ref l, .ref g] ∧ PairsAt H l E ∧ WF n E ∧ H g = some (.lst (iV gs)) ∧ ∀ H', Same H H' → Q (.bl (crowdR E gs)) H'
def spCrowdMarks (C : Addr) : Sp := fun vs H Q _ => ∃ (p l d : Addr) (n : Nat) (L : List Pr) (zs : List Int), vs = [.ref p, .ref l] ∧ HallAt C H p n d L ∧ H l = some (.lst (zs.map V.int)) ∧
  (∃ z ∈ zs, ¬ isG n z) ∧ ∀ H' m, Same H H' → H' m = some (.lst (bV (marks 0))) → Q (.ref m) H'
end KT

/-! deeds on a hall: plain, promises -/
namespace KT
open PySem PySem.Spec PyProof.Rows L2
instance decG (n : Nat) (z : Int) : Decidable (isG n z) := inferInstanceAs (Decidable (0 ≤ z ∧ z < (n : Int)))
/-- what a deed tells: the value, the marks, the pairs behind it -/
def outc (n : Nat) (L : List Pr) (k y z : Int) : V × List Bool × List Pr :=
  if isG n y ∧ isG n z then
    if y = z then (.non, marks 1, L)
    else if k = 1 then (.bl (decide (nrm y.toNat z.toNat ∈ L)), [], L)
    else if k = 0 then (if nrm y.toNat z.toNat ∈ L then (.non, [], L.erase (nrm y.toNat z.toNat)) else (.non, marks 3, L))
    else if nrm y.toNat z.toNat ∈ L then (.non, marks 2, L) else (.non, [], L ++ [nrm y.toNat z.toNat])
  else (.non, marks 0, L)
section
variable {n : Nat} {L : List Pr} {k y z : Int} {i j : Nat}
theorem outc_bad (h : ¬ (isG n y ∧ isG n z)) : outc n L k y z = (.non, marks 0, L) := if_neg h
theorem outc_same (h1 : isG n y) (h2 : isG n z) (e : y = z) : outc n L k y z = (.non, marks 1, L) := by
  unfold outc
  rw [if_pos ⟨h1, h2⟩, if_pos e]
theorem outc_know (hi : i < n) (hj : j < n) (ne : i ≠ j) : outc n L 1 (i : Int) (j : Int) = (.bl (decide (nrm i j ∈ L)), [], L) := by
  unfold outc
  rw [if_pos ⟨isG.of hi, isG.of hj⟩, if_neg (by omega), if_pos rfl]
  rfl
theorem outc_part (hi : i < n) (hj : j < n) (ne : i ≠ j) (m : nrm i j ∈ L) : outc n L 0 (i : Int) (j : Int) = (.non, [], L.erase (nrm i j)) := by
  unfold outc
  rw [if_pos ⟨isG.of hi, isG.of hj⟩, if_neg (by omega), if_neg (by decide), if_pos rfl]
  exact if_pos m
theorem outc_part_no (hi : i < n) (hj : j < n) (ne : i ≠ j) (m : nrm i j ∉ L) : outc n L 0 (i : Int) (j : Int) = (.non, marks 3, L) := by
  unfold outc
  rw [if_pos ⟨isG.of hi, isG.of hj⟩, if_neg (by omega), if_neg (by decide), if_pos rfl]
  exact if_neg m
theorem outc_meet_no (h0 : k ≠ 0) (h1 : k ≠ 1) (hi : i < n) (hj : j < n) (ne : i ≠ j) (m : nrm i j ∈ L) : outc n L k (i : Int) (j : Int) = (.non, marks 2, L) := by
  unfold outc
  rw [if_pos ⟨isG.of hi, isG.of hj⟩, if_neg (by omega), if_neg h1, if_neg h0]
  exact if_pos m
theorem outc_meet (h0 : k ≠ 0) (h1 : k ≠ 1) (hi : i < n) (hj : j < n) (ne : i ≠ j) (m : nrm i j ∉ L) : outc n L k (i : Int) (j : Int) = (.non, [], L ++ [nrm i j]) := by
  unfold outc
  rw [if_pos ⟨isG.of hi, isG.of hj⟩, if_neg (by omega), if_neg h1, if_neg h0]
  exact if_neg m
theorem outc_eqv {E : List Pr} (h : Eqv L E) (nL : L.Nodup) (nE : E.Nodup) : (outc n L k y z).1 = (outc n E k y z).1 ∧ (outc n L k y z).2.1 = (outc n E k y z).2.1 ∧ Eqv (outc n L k y z).2.2 (outc n E k y z).2.2 := by
  unfold outc
  by_cases g : isG n y ∧ isG n z
  · rw [if_pos g, if_pos g]
    by_cases e : y = z
    · rw [if_pos e, if_pos e]
      exact ⟨rfl, rfl, h⟩
    rw [if_neg e, if_neg e]
    have hq := h (nrm y.toNat z.toNat)
    by_cases k1 : k = 1
    · rw [if_pos k1, if_pos k1, decide_eq_decide.mpr hq]
      exact ⟨rfl, rfl, h⟩
    rw [if_neg k1, if_neg k1]
    by_cases k0 : k = 0
    · rw [if_pos k0, if_pos k0]
      by_cases m : nrm y.toNat z.toNat ∈ L
      · rw [if_pos m, if_pos (hq.mp m)]
        exact ⟨rfl, rfl, h.erase nL nE _⟩
      · rw [if_neg m, if_neg (fun x => m (hq.mpr x))]
        exact ⟨rfl, rfl, h⟩
    rw [if_neg k0, if_neg k0]
    by_cases m : nrm y.toNat z.toNat ∈ L
    · rw [if_pos m, if_pos (hq.mp m)]
      exact ⟨rfl, rfl, h⟩
    · rw [if_neg m, if_neg (fun x => m (hq.mpr x))]
      exact ⟨rfl, rfl, h.snoc _⟩
  · rw [if_neg g, if_neg g]
    exact ⟨rfl, rfl, h⟩
theorem outc_wf (wf : WF n L) : WF n (outc n L k y z).2.2 := by
  unfold outc
  by_cases g : isG n y ∧ isG n z
  · rw [if_pos g]
    by_cases e : y = z
    · rw [if_pos e]
      exact wf
    rw [if_neg e]
    by_cases k1 : k = 1
    · rw [if_pos k1]
      exact wf
    rw [if_neg k1]
    by_cases k0 : k = 0
    · rw [if_pos k0]
      by_cases m : nrm y.toNat z.toNat ∈ L
      · rw [if_pos m]
        exact wf.erase _
      · rw [if_neg m]
        exact wf
    rw [if_neg k0]
    by_cases m : nrm y.toNat z.toNat ∈ L
    · rw [if_pos m]
      exact wf
    · rw [if_neg m]
      obtain ⟨i, rfl, hi⟩ := g.1.nat
      obtain ⟨j, rfl, hj⟩ := g.2.nat
      exact wf.snoc (nrm_ok (by omega) hi hj) m
  · rw [if_neg g]
    exact wf
theorem outc_val : (outc n L k y z).1 = .non ∨ ∃ b, (outc n L k y z).1 = .bl b := by
  unfold outc
  by_cases g : isG n y ∧ isG n z
  · rw [if_pos g]
    by_cases e : y = z
    · rw [if_pos e]
      exact .inl rfl
    rw [if_neg e]
    by_cases k1 : k = 1
    · rw [if_pos k1]
      exact .inr ⟨_, rfl⟩
    rw [if_neg k1]
    by_cases k0 : k = 0
    · rw [if_pos k0]
      by_cases m : nrm y.toNat z.toNat ∈ L
      · rw [if_pos m]
        exact .inl rfl
      · rw [if_neg m]
        exact .inl rfl
    rw [if_neg k0]
    by_cases m : nrm y.toNat z.toNat ∈ L
    · rw [if_pos m]
      exact .inl rfl
    · rw [if_neg m]
      exact .inl rfl
  · rw [if_neg g]
    exact .inl rfl
end
def spDid (C : Addr) : Sp := fun vs H Q _ => ∃ (p d : Addr) (n : Nat) (L : List Pr) (k y z : Int), vs = [.ref p, .int k, .int y, .int z] ∧ HallAt C H p n d L ∧
  ∀ H' t m, Keep [d] H H' → HallAt C H' p n d (outc n L k y z).2.2 → H' t = some (.tup [(outc n L k y z).1, .ref m]) → H' m = some (.lst (bV (outc n L k y z).2.1)) → Q (.ref t) H'
def spDue : Sp := fun vs H Q _ => ∃ (l : Addr) (n : Nat) (E : List Pr) (k y z : Int), vs = [.ref l, .int (n : Int), .int k, .int y, .int z] ∧ PairsAt H l E ∧ WF n E ∧ n ≤ 20 ∧
  ∀ H' t m, Keep [l] H H' → PairsAt H' l (outc n E k y z).2.2 → H' t = some (.tup [(outc n E k y z).1, .ref m]) → H' m = some (.lst (bV (outc n E k y z).2.1)) → m ≠ l → Q (.ref t) H'
def spNoHall : Sp := fun vs H Q _ => ∃ z : Int, vs = [.int z] ∧ ¬ (1 ≤ z ∧ z ≤ 20) ∧ ∀ H', Same H H' → Q (.bl true) H'
end KT

namespace KT
open PySem L2
def topS (i : Nat) : Stmt := PySem.Challenge.pw_knowthree_k01_meeting_and_parting.main.body.getD i (.Pass ⟨0, 0, 0, 0⟩)
abbrev st_Hall_init : Stmt := inClass (topS 10) 0
abbrev st_Hall_many : Stmt := inClass (topS 10) 1
abbrev st_Hall_see : Stmt := inClass (topS 10) 2
abbrev st_Hall_see_two : Stmt := inClass (topS 10) 3
abbrev st_Hall_meet : Stmt := inClass (topS 10) 4
abbrev st_Hall_part : Stmt := inClass (topS 10) 5
abbrev st_Hall_know : Stmt := inClass (topS 10) 6
abbrev st_Hall_known : Stmt := inClass (topS 10) 7
abbrev st_Hall_strangers : Stmt := inClass (topS 10) 8
abbrev st_l_cell_at : Stmt := topS 12
abbrev st_l_whole : Stmt := topS 13
abbrev st_l_numbers : Stmt := topS 14
abbrev st_l_marks_of : Stmt := topS 15
abbrev st_l_known : Stmt := topS 16
abbrev st_l_same : Stmt := topS 17
abbrev st_l_did : Stmt := topS 18
abbrev st_l_due : Stmt := topS 19
abbrev st_l_no_hall : Stmt := topS 20
abbrev st_law : Stmt := topS 21
end KT
/-! the hall's defs keep their promises: the parts that every law has -/
namespace KT
open PySem PySem.Spec PyProof.Rows L2
section
variable {P : Program} {w : World} {K : PySem.W.Frag} {mg : Str → Option Value} {base : Heap} {C cNG cSG cKA cST cBH : Addr}
theorem sc_init : FnScope ["self", "many"] ["self", "many"] (defScope st_Hall_init) := ⟨rfl, rfl, rfl, by decide +kernel, rfl, by decide +kernel, by decide +kernel⟩
theorem ok_init {f : Addr} {fd : FuncData} (F : Fun K "__init__" "Hall.__init__" st_Hall_init f fd) (T : HT K mg C cNG cSG cKA cST cBH) :
    FnOk P w K mg base (L2N.CX P w) 1 f fd ["self", "many"] (spInit C cBH) := by
  obtain ⟨tg, egr⟩ := T.gr
  refine okN F sc_init (fun vs H Q E h => ?_) (fun cdv A outer s H vs Q E hr h => ?_)
  · obtain ⟨p, dx, z, rfl, _⟩ := h
    rfl
  · obtain ⟨p, dx, z, rfl, hp, hdx, bad, good⟩ := h
    refine ⟨_, pss_cons (ps_if (PW.pt (pw_or (pt_cmpR op_lt (pv 1) pe_int (nomark _)) (pw_or1 (pt_cmpR op_gt (pv 1) (pe_glob (v := .int 20) rfl egr ⟨tg, rfl⟩) (nomark _)))))
        (pss_one (pr T.bh tk)) pss_nil)
      (pss_cons (ps_fld (pv 0) (pv 1) rfl) (pss_one (ps_fld (pv 0) pe_dnewT rfl))), ?_⟩
    refine ⟨_, rfl, _, _, rfl, rfl, _, rfl, ite2 (fun c => ?_) (fun c => ?_)⟩
    · exact iteT (bad (by have := of_decide_eq_true c; omega))
    have c1 : ¬ z < 1 := of_decide_eq_false (by simpa using c)
    refine ⟨_, rfl, _, _, rfl, rfl, _, rfl, ite2 (fun c2 => ?_) (fun c2 => ?_)⟩
    · exact bad (by have := of_decide_eq_true c2; omega)
    have c3 : ¬ (20 < z) := of_decide_eq_false (by simpa using c2)
    refine ⟨_, rfl, _, rfl, p, C, dx, _, rfl, hp, T.cl, T.nC, (by show 0 < 1000; decide), ?_⟩
    intro d hd
    have npd : p ≠ d := fun q => by
      rw [q, upd_same] at hd
      cases hd
    have hd0 : H d = none := by
      rw [upd_ne npd.symm] at hd
      exact hd
    obtain ⟨n, rfl⟩ : ∃ n : Nat, z = (n : Int) := ⟨z.toNat, by omega⟩
    refine ⟨_, rfl, p, C, dx, _, rfl, (by rw [upd_ne npd]; exact upd_same), T.cl, T.nP, (by show 1 < 1000; decide), ?_⟩
    refine good n rfl (by omega) (by omega) _ d ?_ hd0 ⟨⟨dx, upd_same⟩, by rw [upd_ne npd.symm]; exact upd_same, WF.nil n, by omega, by omega⟩
    intro b o nb e
    have nb : b ≠ p := by simpa using nb
    rw [upd_ne nb, upd_ne (ne_of_none e hd0), upd_ne nb]
    exact e
theorem sc_many : FnScope ["self"] ["self"] (defScope st_Hall_many) := ⟨rfl, rfl, rfl, by decide +kernel, rfl, by decide +kernel, by decide +kernel⟩
theorem ok_many {f : Addr} {fd : FuncData} (F : Fun K "many" "Hall.many" st_Hall_many f fd) (T : HT K mg C cNG cSG cKA cST cBH) :
    FnOk P w K mg base CX0 1 f fd ["self"] (spMany C) := by
  refine F.ok sc_many (fun vs H Q E h => ?_) (fun cdv A outer s H vs Q E hr h => ?_)
  · obtain ⟨p, d, n, L, rfl, _⟩ := h
    rfl
  · obtain ⟨p, d, n, L, rfl, hall, q⟩ := h
    obtain ⟨dx, hp⟩ := hall.ins
    refine ⟨_, pss_one (ps_ret (pe_fld (pv 0) rfl)), ?_⟩
    exact ⟨_, rfl, p, C, dx, _, _, rfl, hp, T.cl, T.nC, hf_count _ _, q⟩
theorem sc_see : FnScope ["self", "guest"] ["self", "guest"] (defScope st_Hall_see) := ⟨rfl, rfl, rfl, by decide +kernel, rfl, by decide +kernel, by decide +kernel⟩
theorem ok_see {f : Addr} {fd : FuncData} (F : Fun K "see" "Hall.see" st_Hall_see f fd) (T : HT K mg C cNG cSG cKA cST cBH) :
    FnOk P w K mg base (L2N.CX P w) 1 f fd ["self", "guest"] (spSee C cNG) := by
  refine okN F sc_see (fun vs H Q E h => ?_) (fun cdv A outer s H vs Q E hr h => ?_)
  · obtain ⟨p, d, n, L, z, rfl, _⟩ := h
    rfl
  · obtain ⟨p, d, n, L, z, rfl, hall, bad, good⟩ := h
    obtain ⟨dx, hp⟩ := hall.ins
    refine ⟨_, pss_one (ps_if (PW.pt (pw_or (pt_cmpR op_lt (pv 1) pe_int (nomark _)) (pw_or1 (pt_cmpR op_ge (pv 1) (pe_fld (pv 0) rfl) (nomark _)))))
        (pss_one (pr T.ng tk)) pss_nil), ?_⟩
    refine ⟨_, rfl, _, _, rfl, rfl, _, rfl, ite2 (fun c => ?_) (fun c => ?_)⟩
    · exact iteT (bad (by have := of_decide_eq_true c; unfold isG; omega))
    have c1 : ¬ z < 0 := of_decide_eq_false (by simpa using c)
    refine ⟨_, rfl, _, rfl, p, C, dx, _, _, rfl, hp, T.cl, T.nC, hf_count _ _, _, _, rfl, rfl, _, rfl, ite2 (fun c2 => ?_) (fun c2 => ?_)⟩
    · exact bad (by have := of_decide_eq_true c2; unfold isG; omega)
    have c3 : ¬ ((n : Int) ≤ z) := of_decide_eq_false (by simpa using c2)
    exact good ⟨by omega, by omega⟩
theorem sc_see_two : FnScope ["self", "one", "other"] ["self", "one", "other"] (defScope st_Hall_see_two) := ⟨rfl, rfl, rfl, by decide +kernel, rfl, by decide +kernel, by decide +kernel⟩
theorem ok_see_two {f : Addr} {fd : FuncData} (F : Fun K "see_two" "Hall.see_two" st_Hall_see_two f fd) (T : HT K mg C cNG cSG cKA cST cBH)
    (mS : MetD P w K mg base (L2N.CX P w) C 1 "see" (spSee C cNG)) :
    FnOk P w K mg base (L2N.CX P w) 2 f fd ["self", "one", "other"] (spSeeTwo C cNG cSG) := by
  refine okN F sc_see_two (fun vs H Q E h => ?_) (fun cdv A outer s H vs Q E hr h => ?_)
  · obtain ⟨p, d, n, L, y, z, rfl, _⟩ := h
    rfl
  · obtain ⟨p, d, n, L, y, z, rfl, hall, bad, same, good⟩ := h
    obtain ⟨dx, hp⟩ := hall.ins
    refine ⟨_, pss_cons (ps_expr (pm (pv 0) T.cl mS hr px (pa_cons (pv 1) pa_nil))) (pss_cons (ps_expr (pm (pv 0) T.cl mS hr px (pa_cons (pv 2) pa_nil)))
      (pss_one (ps_if (pt_cmpR op_eq (pv 1) (pv 2) (nomark _)) (pss_one (pr T.sg tk)) pss_nil))), ?_⟩
    have ns : (hf n d).lookup ("see" : Str) = none := hf_no _ _ (by decide +kernel) (by decide +kernel)
    refine ⟨_, rfl, p, dx, _, rfl, hp, ns, _, rfl, p, d, n, L, y, rfl, hall, fun b => bad fun c => b c.1, fun gy => ?_⟩
    refine ⟨_, rfl, p, dx, _, rfl, hp, ns, _, rfl, p, d, n, L, z, rfl, hall, fun b => bad fun c => b c.2, fun gz => ?_⟩
    refine ⟨_, rfl, _, rfl, rfl, _, rfl, ite2 (fun c => ?_) (fun c => ?_)⟩
    · exact same gy gz (by have := of_decide_eq_true c; exact V.int.inj this)
    · exact good gy gz (fun e => c (decide_eq_true (by rw [e])))
theorem sc_know : FnScope ["self", "one", "other"] ["self", "one", "other"] (defScope st_Hall_know) := ⟨rfl, rfl, rfl, by decide +kernel, rfl, by decide +kernel, by decide +kernel⟩
theorem ok_know {f : Addr} {fd : FuncData} (F : Fun K "know" "Hall.know" st_Hall_know f fd) (T : HT K mg C cNG cSG cKA cST cBH)
    (mS : MetD P w K mg base (L2N.CX P w) C 2 "see_two" (spSeeTwo C cNG cSG)) :
    FnOk P w K mg base (L2N.CX P w) 3 f fd ["self", "one", "other"] (spKnow C cNG cSG) := by
  refine okN F sc_know (fun vs H Q E h => ?_) (fun cdv A outer s H vs Q E hr h => ?_)
  · obtain ⟨p, d, n, L, y, z, rfl, _⟩ := h
    rfl
  · obtain ⟨p, d, n, L, y, z, rfl, hall, bad, same, good⟩ := h
    obtain ⟨dx, hp⟩ := hall.ins
    refine ⟨_, pss_cons (ps_expr (pm (pv 0) T.cl mS hr px (pa_cons (pv 1) (pa_cons (pv 2) pa_nil))))
      (pss_one (ps_ret (pe_cmp (pc_din (hu_of hr) (pe_tup (pa_cons (pe_callB (call_min2 rfl) (by rfl) T.min (by decide +kernel) (pa_cons (pv 1) (pa_cons (pv 2) pa_nil)))
        (pa_cons (pe_callB (call_max2 rfl) (by rfl) T.max (by decide +kernel) (pa_cons (pv 1) (pa_cons (pv 2) pa_nil))) pa_nil))) (pe_fld (pv 0) rfl)) rfl))), ?_⟩
    have ns : (hf n d).lookup ("see_two" : Str) = none := hf_no _ _ (by decide +kernel) (by decide +kernel)
    refine ⟨_, rfl, p, dx, _, rfl, hp, ns, _, rfl, _, rfl, p, d, n, L, y, z, rfl, hall, bad, same, fun gy gz nyz => ?_⟩
    obtain ⟨i, rfl, hi⟩ := gy.nat
    obtain ⟨j, rfl, hj⟩ := gz.nat
    refine ⟨_, rfl, _, rfl, _, _, rfl, _, rfl, _, rfl, _, _, rfl, (by show 2 ≤ sizeLine; decide), fun t ht => ?_⟩
    have s1 := same_new (.tup [V.int (if (j : Int) < (i : Int) then (j : Int) else (i : Int)), V.int (if (j : Int) > (i : Int) then (j : Int) else (i : Int))]) ht
    have h2 := hall.same s1
    obtain ⟨dx2, hp2⟩ := h2.ins
    refine ⟨_, rfl, p, C, dx2, _, _, rfl, hp2, T.cl, T.nP, hf_pairs _ _, d, _, rfl, DGet.t (k := kP (nrm i j)) h2.dic (by rw [upd_same, kP_map, min_py, max_py]; rfl), ?_⟩
    rw [isSome_kvs]
    exact good i j rfl rfl hi hj (fun e => nyz (by rw [e])) _ s1
end
end KT

/-! meet, part -/
namespace KT
open PySem PySem.Spec PyProof.Rows L2
section
variable {P : Program} {w : World} {K : PySem.W.Frag} {mg : Str → Option Value} {base : Heap} {C cNG cSG cKA cST cBH : Addr}
theorem sc_meet : FnScope ["self", "one", "other"] ["self", "one", "other"] (defScope st_Hall_meet) := ⟨rfl, rfl, rfl, by decide +kernel, rfl, by decide +kernel, by decide +kernel⟩
theorem ok_meet {f : Addr} {fd : FuncData} (F : Fun K "meet" "Hall.meet" st_Hall_meet f fd) (T : HT K mg C cNG cSG cKA cST cBH)
    (mK : MetD P w K mg base (L2N.CX P w) C 3 "know" (spKnow C cNG cSG)) :
    FnOk P w K mg base (L2N.CX P w) 4 f fd ["self", "one", "other"] (spMeet C cNG cSG cKA) := by
  refine okN F sc_meet (fun vs H Q E h => ?_) (fun cdv A outer s H vs Q E hr h => ?_)
  · obtain ⟨p, d, n, L, y, z, rfl, _⟩ := h
    rfl
  · obtain ⟨p, d, n, L, y, z, rfl, hall, bad, same, there, good⟩ := h
    obtain ⟨dx, hp⟩ := hall.ins
    refine ⟨_, pss_cons (ps_if (pt_val (pm (pv 0) T.cl mK hr px (pa_cons (pv 1) (pa_cons (pv 2) pa_nil)))) (pss_one (pr T.ka tk)) pss_nil)
      (pss_one (ps_dput (hu_of hr) (pe_fld (pv 0) rfl) (pe_tup (pa_cons (pe_callB (call_min2 rfl) (by rfl) T.min (by decide +kernel) (pa_cons (pv 1) (pa_cons (pv 2) pa_nil)))
        (pa_cons (pe_callB (call_max2 rfl) (by rfl) T.max (by decide +kernel) (pa_cons (pv 1) (pa_cons (pv 2) pa_nil))) pa_nil))) pe_bl rfl)), ?_⟩
    have nk : (hf n d).lookup ("know" : Str) = none := hf_no _ _ (by decide +kernel) (by decide +kernel)
    refine ⟨_, rfl, p, dx, _, rfl, hp, nk, _, rfl, _, rfl, p, d, n, L, y, z, rfl, hall, bad, same, ?_⟩
    intro i j ei ej hi hj nij H1 s1
    subst ei
    subst ej
    refine ⟨_, rfl, ite2 (fun c => ?_) (fun c => ?_)⟩
    · exact there i j rfl rfl hi hj nij (of_decide_eq_true c) _ s1
    have nin : nrm i j ∉ L := fun m => c (decide_eq_true m)
    have h1 := hall.same s1
    obtain ⟨dx1, hp1⟩ := h1.ins
    refine ⟨_, rfl, p, C, dx1, _, _, rfl, hp1, T.cl, T.nP, hf_pairs _ _, _, rfl, _, rfl, _, _, rfl, _, rfl, _, rfl, _, _, rfl, (by show 2 ≤ sizeLine; decide), fun t ht => ?_⟩
    have s2 := same_new (.tup [V.int (if (j : Int) < (i : Int) then (j : Int) else (i : Int)), V.int (if (j : Int) > (i : Int) then (j : Int) else (i : Int))]) ht
    have h2 := h1.same s2
    have key : upd H1 t (.tup [V.int (if (j : Int) < (i : Int) then (j : Int) else (i : Int)), V.int (if (j : Int) > (i : Int) then (j : Int) else (i : Int))]) t = some (.tup ((kP (nrm i j)).map kV)) := by
      rw [upd_same, kP_map, min_py, max_py]
      rfl
    have lenb : (kvs L).length < sizeLine := by
      rw [length_kvs]
      exact Nat.lt_of_le_of_lt (hall.wf.len hall.hi) (by decide)
    refine ⟨d, _, rfl, DPut.t (k := kP (nrm i j)) h2.dic key lenb, ?_⟩
    rw [put_kvs nin]
    obtain ⟨dx2, hp2⟩ := h2.ins
    refine good i j rfl rfl hi hj nij nin _ ?_ ⟨⟨dx2, by rw [upd_ne h2.ne]; exact hp2⟩, upd_same, hall.wf.snoc (nrm_ok nij hi hj) nin, hall.lo, hall.hi⟩
    exact (Keep.of [d] (s1.trans s2)).trans (Keep.put d _)
theorem sc_part : FnScope ["self", "one", "other"] ["self", "one", "other"] (defScope st_Hall_part) := ⟨rfl, rfl, rfl, by decide +kernel, rfl, by decide +kernel, by decide +kernel⟩
theorem ok_part {f : Addr} {fd : FuncData} (F : Fun K "part" "Hall.part" st_Hall_part f fd) (T : HT K mg C cNG cSG cKA cST cBH)
    (mK : MetD P w K mg base (L2N.CX P w) C 3 "know" (spKnow C cNG cSG)) :
    FnOk P w K mg base (L2N.CX P w) 4 f fd ["self", "one", "other"] (spPart C cNG cSG cST) := by
  refine okN F sc_part (fun vs H Q E h => ?_) (fun cdv A outer s H vs Q E hr h => ?_)
  · obtain ⟨p, d, n, L, y, z, rfl, _⟩ := h
    rfl
  · obtain ⟨p, d, n, L, y, z, rfl, hall, bad, same, there, good⟩ := h
    obtain ⟨dx, hp⟩ := hall.ins
    refine ⟨_, pss_cons (ps_if (pt_not (pt_val (pm (pv 0) T.cl mK hr px (pa_cons (pv 1) (pa_cons (pv 2) pa_nil))))) (pss_one (pr T.st tk)) pss_nil)
      (pss_one (ps_expr (pe_bm PySem.F.plainAttrs_dict PySem.F.slot_dict_pop PySem.F.type_dict_pop (mt_pop1 (hu_of hr)) (pe_fld (pv 0) rfl)
        (pa_cons (pe_tup (pa_cons (pe_callB (call_min2 rfl) (by rfl) T.min (by decide +kernel) (pa_cons (pv 1) (pa_cons (pv 2) pa_nil)))
        (pa_cons (pe_callB (call_max2 rfl) (by rfl) T.max (by decide +kernel) (pa_cons (pv 1) (pa_cons (pv 2) pa_nil))) pa_nil))) pa_nil)))), ?_⟩
    have nk : (hf n d).lookup ("know" : Str) = none := hf_no _ _ (by decide +kernel) (by decide +kernel)
    refine ⟨_, rfl, p, dx, _, rfl, hp, nk, _, rfl, _, rfl, p, d, n, L, y, z, rfl, hall, bad, same, ?_⟩
    intro i j ei ej hi hj nij H1 s1
    subst ei
    subst ej
    refine ⟨_, rfl, ite2 (fun c => ?_) (fun c => ?_)⟩
    · exact there i j rfl rfl hi hj nij (fun m => by rw [decide_eq_true m] at c; cases c) _ s1
    have isin : nrm i j ∈ L := by
      by_cases m : nrm i j ∈ L
      · exact m
      · exact absurd (by rw [decide_eq_false m] <;> rfl) c
    have h1 := hall.same s1
    obtain ⟨dx1, hp1⟩ := h1.ins
    refine ⟨_, rfl, p, C, dx1, _, _, rfl, hp1, T.cl, T.nP, hf_pairs _ _, .inr (.inr (.inl ⟨rfl, .inr ⟨_, h1.dic⟩⟩)), _, rfl, _, rfl, _, _, rfl, _, rfl, _, rfl, _, _, rfl, (by show 2 ≤ sizeLine; decide), fun t ht => ?_⟩
    have s2 := same_new (.tup [V.int (if (j : Int) < (i : Int) then (j : Int) else (i : Int)), V.int (if (j : Int) > (i : Int) then (j : Int) else (i : Int))]) ht
    have h2 := h1.same s2
    have key : upd H1 t (.tup [V.int (if (j : Int) < (i : Int) then (j : Int) else (i : Int)), V.int (if (j : Int) > (i : Int) then (j : Int) else (i : Int))]) t = some (.tup ((kP (nrm i j)).map kV)) := by
      rw [upd_same, kP_map, min_py, max_py]
      rfl
    refine ⟨d, _, kP (nrm i j), t, .bl true, rfl, rfl, h2.dic, key, by rw [valV_kvs, if_pos isin], ?_⟩
    rw [drop_kvs hall.wf.1]
    obtain ⟨dx2, hp2⟩ := h2.ins
    refine good i j rfl rfl hi hj nij isin _ ?_ ⟨⟨dx2, by rw [upd_ne h2.ne]; exact hp2⟩, upd_same, hall.wf.erase _, hall.lo, hall.hi⟩
    exact (Keep.of [d] (s1.trans s2)).trans (Keep.put d _)
end
end KT

/-! known -/
namespace KT
open PySem PySem.Spec PyProof.Rows L2
section
variable {P : Program} {w : World} {K : PySem.W.Frag} {mg : Str → Option Value} {base : Heap} {C cNG cSG cKA cST cBH : Addr}
theorem sc_known : FnScope ["self", "guest", "other"] ["self", "guest"] (defScope st_Hall_known) := ⟨rfl, rfl, rfl, by decide +kernel, rfl, by decide +kernel, by decide +kernel⟩
theorem ok_known {f : Addr} {fd : FuncData} (F : Fun K "known" "Hall.known" st_Hall_known f fd) (T : HT K mg C cNG cSG cKA cST cBH)
    (mS : MetD P w K mg base (L2N.CX P w) C 1 "see" (spSee C cNG)) (mK : MetD P w K mg base (L2N.CX P w) C 3 "know" (spKnow C cNG cSG)) :
    FnOk P w K mg base (L2N.CX P w) 4 f fd ["self", "guest"] (spOthers true C cNG) := by
  refine okN F sc_known (fun vs H Q E h => ?_) (fun cdv A outer s H vs Q E hr h => ?_)
  · obtain ⟨p, d, n, L, z, rfl, _⟩ := h
    rfl
  · obtain ⟨p, d, n, L, z, rfl, hall, bad, good⟩ := h
    obtain ⟨dx, hp⟩ := hall.ins
    refine ⟨_, pss_cons (ps_expr (pm (pv 0) T.cl mS hr px (pa_cons (pv 1) pa_nil)))
      (pss_one (ps_ret (pe_lc (own := [("other", 2)]) (g := gName 2) rfl sc_known.nd (pi_range1 rfl T.range (pa_cons (pe_fld (pv 0) rfl) pa_nil))
        (blkOk_by (own := [("other", 2)]) (N := ["self", "guest", "other"]) (sc := defScope st_Hall_known) (by decide +kernel)) (fun _ _ _ _ _ => pg_name (i := 2) sc_known.nd rfl (Or.inl rfl))
        (fun _ _ _ _ _ => pts_one (PW.pt (pw_and (pt_cmpR op_ne (pv 2) (pv 1) (nomark _)) (pw_and1 (pt_val (pm (pv 0) T.cl mK hr passN (pa_cons (pv 1) (pa_cons (pv 2) pa_nil))))))))
        (fun _ _ _ _ _ => pv 2)))), ?_⟩
    have ns : (hf n d).lookup ("see" : Str) = none := hf_no _ _ (by decide +kernel) (by decide +kernel)
    have nk : (hf n d).lookup ("know" : Str) = none := hf_no _ _ (by decide +kernel) (by decide +kernel)
    refine ⟨_, rfl, p, dx, _, rfl, hp, ns, _, rfl, p, d, n, L, z, rfl, hall, bad, fun gz => ?_⟩
    obtain ⟨g, rfl, hg⟩ := gz.nat
    have hn := hall.hi
    refine ⟨_, rfl, p, C, dx, _, _, rfl, hp, T.cl, T.nC, hf_count _ _, _, rfl, by omega, by omega, fun D hD => ?_⟩
    refine lc_range (lo := 0) (n := n) (fun i H' => Same H H' ∧ H' D = some (.lst (iV ((List.range i).filter (oth true L g))))) ⟨same_new _ hD, upd_same⟩ ?_ ?_
    · rintro i H1 hi ⟨s1, hl⟩
      rw [Int.zero_add]
      refine ⟨rfl, _, rfl, _, rfl, rfl, _, rfl, ?_⟩
      refine ite2 (fun c => ?_) (fun c => ?_)
      · have nig : i ≠ g := fun e => by
          rw [e] at c
          simp at c
        have h1 := hall.same s1
        obtain ⟨dx1, hp1⟩ := h1.ins
        refine ⟨_, rfl, p, dx1, _, rfl, hp1, nk, _, rfl, _, rfl, p, d, n, L, (g : Int), (i : Int), rfl, h1, fun b => b ⟨isG.of hg, isG.of hi⟩, fun _ _ e => nig (by omega), ?_⟩
        intro i' j' ei ej _ _ _ H2 s2
        have ei : g = i' := by omega
        have ej : i = j' := by omega
        subst ei
        subst ej
        have hl2 := s2 _ _ hl
        refine ⟨_, rfl, ite2 (fun c2 => ?_) (fun c2 => ?_)⟩
        · refine ⟨_, rfl, _, hl2, iV_line (by omega), same_keepNew (s1.trans s2) hD (Keep.put D _), ?_⟩
          rw [upd_same, filter_yes (oth_iff.mpr ⟨nig, by simpa using c2⟩), iV_snoc]
        · refine ⟨s1.trans s2, ?_⟩
          rw [filter_no (fun z => c2 (by simpa using (oth_iff.mp z).2))]
          exact hl2
      · refine ⟨s1, ?_⟩
        rw [filter_no (fun z => c (by simpa using (show ¬ (i : Int) = (g : Int) from fun e => (oth_iff.mp z).1 (by omega))))]
        exact hl
    · rintro H1 ⟨s1, hl⟩
      exact good g rfl hg _ D s1 hD hl
end
end KT

/-! strangers -/
namespace KT
open PySem PySem.Spec PyProof.Rows L2
section
variable {P : Program} {w : World} {K : PySem.W.Frag} {mg : Str → Option Value} {base : Heap} {C cNG cSG cKA cST cBH : Addr}
theorem sc_strangers : FnScope ["self", "guest", "other"] ["self", "guest"] (defScope st_Hall_strangers) := ⟨rfl, rfl, rfl, by decide +kernel, rfl, by decide +kernel, by decide +kernel⟩
theorem ok_strangers {f : Addr} {fd : FuncData} (F : Fun K "strangers" "Hall.strangers" st_Hall_strangers f fd) (T : HT K mg C cNG cSG cKA cST cBH)
    (mS : MetD P w K mg base (L2N.CX P w) C 1 "see" (spSee C cNG)) (mK : MetD P w K mg base (L2N.CX P w) C 3 "know" (spKnow C cNG cSG)) :
    FnOk P w K mg base (L2N.CX P w) 4 f fd ["self", "guest"] (spOthers false C cNG) := by
  refine okN F sc_strangers (fun vs H Q E h => ?_) (fun cdv A outer s H vs Q E hr h => ?_)
  · obtain ⟨p, d, n, L, z, rfl, _⟩ := h
    rfl
  · obtain ⟨p, d, n, L, z, rfl, hall, bad, good⟩ := h
    obtain ⟨dx, hp⟩ := hall.ins
    refine ⟨_, pss_cons (ps_expr (pm (pv 0) T.cl mS hr px (pa_cons (pv 1) pa_nil)))
      (pss_one (ps_ret (pe_lc (own := [("other", 2)]) (g := gName 2) rfl sc_strangers.nd (pi_range1 rfl T.range (pa_cons (pe_fld (pv 0) rfl) pa_nil))
        (blkOk_by (own := [("other", 2)]) (N := ["self", "guest", "other"]) (sc := defScope st_Hall_strangers) (by decide +kernel)) (fun _ _ _ _ _ => pg_name (i := 2) sc_strangers.nd rfl (Or.inl rfl))
        (fun _ _ _ _ _ => pts_one (PW.pt (pw_and (pt_cmpR op_ne (pv 2) (pv 1) (nomark _)) (pw_and1 (pt_not (pt_val (pm (pv 0) T.cl mK hr passN (pa_cons (pv 1) (pa_cons (pv 2) pa_nil)))))))))
        (fun _ _ _ _ _ => pv 2)))), ?_⟩
    have ns : (hf n d).lookup ("see" : Str) = none := hf_no _ _ (by decide +kernel) (by decide +kernel)
    have nk : (hf n d).lookup ("know" : Str) = none := hf_no _ _ (by decide +kernel) (by decide +kernel)
    refine ⟨_, rfl, p, dx, _, rfl, hp, ns, _, rfl, p, d, n, L, z, rfl, hall, bad, fun gz => ?_⟩
    obtain ⟨g, rfl, hg⟩ := gz.nat
    have hn := hall.hi
    refine ⟨_, rfl, p, C, dx, _, _, rfl, hp, T.cl, T.nC, hf_count _ _, _, rfl, by omega, by omega, fun D hD => ?_⟩
    refine lc_range (lo := 0) (n := n) (fun i H' => Same H H' ∧ H' D = some (.lst (iV ((List.range i).filter (oth false L g))))) ⟨same_new _ hD, upd_same⟩ ?_ ?_
    · rintro i H1 hi ⟨s1, hl⟩
      rw [Int.zero_add]
      refine ⟨rfl, _, rfl, _, rfl, rfl, _, rfl, ?_⟩
      refine ite2 (fun c => ?_) (fun c => ?_)
      · have nig : i ≠ g := fun e => by
          rw [e] at c
          simp at c
        have h1 := hall.same s1
        obtain ⟨dx1, hp1⟩ := h1.ins
        refine ⟨_, rfl, p, dx1, _, rfl, hp1, nk, _, rfl, _, rfl, p, d, n, L, (g : Int), (i : Int), rfl, h1, fun b => b ⟨isG.of hg, isG.of hi⟩, fun _ _ e => nig (by omega), ?_⟩
        intro i' j' ei ej _ _ _ H2 s2
        have ei : g = i' := by omega
        have ej : i = j' := by omega
        subst ei
        subst ej
        have hl2 := s2 _ _ hl
        refine ⟨_, rfl, ite2 (fun c2 => ?_) (fun c2 => ?_)⟩
        · refine ⟨_, rfl, _, hl2, iV_line (by omega), same_keepNew (s1.trans s2) hD (Keep.put D _), ?_⟩
          rw [upd_same, filter_yes (oth_iff.mpr ⟨nig, by simpa using c2⟩), iV_snoc]
        · refine ⟨s1.trans s2, ?_⟩
          rw [filter_no (fun z => c2 (by simpa using (oth_iff.mp z).2))]
          exact hl2
      · refine ⟨s1, ?_⟩
        rw [filter_no (fun z => c (by simpa using (show ¬ (i : Int) = (g : Int) from fun e => (oth_iff.mp z).1 (by omega))))]
        exact hl
    · rintro H1 ⟨s1, hl⟩
      exact good g rfl hg _ D s1 hD hl
end
end KT

/-! the marks of a caught error -/
namespace KT
open PySem PySem.Spec PyProof.Rows L2
section
variable {P : Program} {w : World} {K : PySem.W.Frag} {mg : Str → Option Value} {base : Heap} {C cNG cSG cKA cST cBH cNT cHE : Addr}
theorem sc_marks : FnScope ["e", "marks"] ["e"] (defScope st_l_marks_of) := ⟨rfl, rfl, rfl, by decide +kernel, rfl, by decide +kernel, by decide +kernel⟩
theorem ok_marks {f : Addr} {fd : FuncData} (F : Fun K "_law_marks_of" "_law_marks_of" st_l_marks_of f fd) (T : HT K mg C cNG cSG cKA cST cBH) (gNT : mg "NoText" = some (.ref cNT)) (his : mg "isinstance" = none) (hve : mg "ValueError" = none) :
    FnP P w K mg base 1 f fd ["e"] (spMarks K cNG cSG cKA cST cBH cNT cHE) := by
  refine okP F sc_marks (fun a cls d vs H Q E h => ?_) (fun cdv A outer s H vs Q E p cls d hr hz hf h => ?_)
  · obtain ⟨D, m, rfl, _⟩ := h
    rfl
  · obtain ⟨D, m, rfl, rfl, rfl, M, q⟩ := h
    have mem : p ∈ [p] := List.mem_singleton.mpr rfl
    refine ⟨_, pss_cons (ps_set (i := 1) sc_marks.nd rfl (Or.inl rfl) (pe_lst
        (pa_cons (pe_callB (call_isP (D := D) mem M.ex hz hf) (by rfl) his (by decide +kernel) (pa_cons (pv 0) (pa_cons (pe_glob (v := .ref cNG) rfl T.ng.g rfl) pa_nil)))
        (pa_cons (pe_callB (call_isP (D := D) mem M.ex hz hf) (by rfl) his (by decide +kernel) (pa_cons (pv 0) (pa_cons (pe_glob (v := .ref cSG) rfl T.sg.g rfl) pa_nil)))
        (pa_cons (pe_callB (call_isP (D := D) mem M.ex hz hf) (by rfl) his (by decide +kernel) (pa_cons (pv 0) (pa_cons (pe_glob (v := .ref cKA) rfl T.ka.g rfl) pa_nil)))
        (pa_cons (pe_callB (call_isP (D := D) mem M.ex hz hf) (by rfl) his (by decide +kernel) (pa_cons (pv 0) (pa_cons (pe_glob (v := .ref cST) rfl T.st.g rfl) pa_nil))) pa_nil))))))
      (pss_one (ps_ret (pe_op op_cat (pv 1) (pe_lst
        (pa_cons (pe_callB (call_isP (D := D) mem M.ex hz hf) (by rfl) his (by decide +kernel) (pa_cons (pv 0) (pa_cons (pe_glob (v := .ref cBH) rfl T.bh.g rfl) pa_nil)))
        (pa_cons (pe_callB (call_isP (D := D) mem M.ex hz hf) (by rfl) his (by decide +kernel) (pa_cons (pv 0) (pa_cons (pe_glob (v := .ref cNT) rfl gNT rfl) pa_nil)))
        (pa_cons (pe_not (pe_callB (call_isP (D := D) mem M.ex hz hf) (by rfl) his (by decide +kernel) (pa_cons (pv 0) (pa_cons (pe_bltn (v := .ty "ValueError") (by rfl) hve (by decide +kernel) rfl) pa_nil)))) pa_nil))))))), ?_⟩
    refine ⟨_, rfl, _, _, _, rfl, (fun u r => r), M.i0, ?_⟩
    refine ⟨_, rfl, _, _, _, rfl, (fun u r => r), M.i1, ?_⟩
    refine ⟨_, rfl, _, _, _, rfl, (fun u r => r), M.i2, ?_⟩
    refine ⟨_, rfl, _, _, _, rfl, (fun u r => r), M.i3, ?_⟩
    refine ⟨(by show 4 ≤ sizeLine; decide), fun l1 h1 => ?_⟩
    refine ⟨_, rfl, ?_⟩
    refine ⟨_, rfl, _, _, _, rfl, (fun u r => r), M.i4, ?_⟩
    refine ⟨_, rfl, _, _, _, rfl, (fun u r => r), M.i5, ?_⟩
    refine ⟨_, rfl, _, _, _, rfl, (fun u r => r), M.iV, ?_⟩
    refine ⟨true, rfl, ?_⟩
    refine ⟨(by show 3 ≤ sizeLine; decide), fun l2 h2 => ?_⟩
    refine ⟨l1, l2, _, _, rfl, rfl, (same_new _ h2) _ _ upd_same, upd_same, (by show 4 + 3 ≤ sizeLine; decide), fun l3 h3 => ?_⟩
    refine q _ l3 (((same_new _ h1).trans (same_new _ h2)).trans (same_new _ h3)) ?_ ?_
    · exact Same.free ((same_new _ h1).trans (same_new _ h2)) h3
    · rw [upd_same]
      have m5 := M.m5
      have e6 : decide (6 = m) = !true := decide_eq_false (by omega)
      show some (HO.lst [V.bl (decide (0 = m)), V.bl (decide (1 = m)), V.bl (decide (2 = m)), V.bl (decide (3 = m)), V.bl (decide (4 = m)), V.bl (decide (5 = m)), V.bl (!true)]) = _
      rw [← e6]
      rfl
end
end KT

/-! deeds: what is due, what was done -/
namespace KT
open PySem PySem.Spec PyProof.Rows L2
section
variable {P : Program} {w : World} {K : PySem.W.Frag} {mg : Str → Option Value} {base : Heap} {C cNG cSG cKA cST cBH cNT cHE : Addr}
theorem sc_did : FnScope ["hall", "kind", "one", "other", "found", "marks", "e"] ["hall", "kind", "one", "other"] (defScope st_l_did) := ⟨rfl, rfl, rfl, by decide +kernel, rfl, by decide +kernel, by decide +kernel⟩
theorem ok_did {f : Addr} {fd : FuncData} (F : Fun K "_law_did" "_law_did" st_l_did f fd) (T : HT K mg C cNG cSG cKA cST cBH) (gHE : mg "HallError" = some (.ref cHE))
    (mP : MetD P w K mg base (L2N.CX P w) C 4 "part" (spPart C cNG cSG cST)) (mK : MetD P w K mg base (L2N.CX P w) C 3 "know" (spKnow C cNG cSG)) (mM : MetD P w K mg base (L2N.CX P w) C 4 "meet" (spMeet C cNG cSG cKA))
    (cMk : CalP P w K mg base 1 "_law_marks_of" (spMarks K cNG cSG cKA cST cBH cNT cHE)) (M0 : MarkT K cNG cSG cKA cST cBH cNT cHE cNG 0) (M1 : MarkT K cNG cSG cKA cST cBH cNT cHE cSG 1)
    (M2 : MarkT K cNG cSG cKA cST cBH cNT cHE cKA 2) (M3 : MarkT K cNG cSG cKA cST cBH cNT cHE cST 3) :
    FnOk P w K mg base CX0 5 f fd ["hall", "kind", "one", "other"] (spDid C) := by
  refine F.ok sc_did (fun vs H Q E h => ?_) (fun cdv A outer s H vs Q E hr h => ?_)
  · obtain ⟨p, d, n, L, k, y, z, rfl, _⟩ := h
    rfl
  · obtain ⟨p, d, n, L, k, y, z, rfl, hall, q⟩ := h
    obtain ⟨dx, hp⟩ := hall.ins
    refine ⟨_, pss_cons (ps_set (i := 4) sc_did.nd rfl (Or.inl rfl) pe_non)
      (pss_cons (ps_set (i := 5) sc_did.nd rfl (Or.inl rfl) (pe_lst pa_nil))
      (pss_cons (ps_try_as (i := 6)
          (tb := fun W => tIfS (tTest (tOp rEq (tVar 1) (tC (.int 0)))) (tAsg (tMethS C "part" (spPart C cNG cSG cST) (WE W) (tVar 0) (tCons (tVar 2) (tCons (tVar 3) tNil))) (gName 4))
            (tIfS (tTest (tOp rEq (tVar 1) (tC (.int 1)))) (tAsg (tMethS C "know" (spKnow C cNG cSG) (WE W) (tVar 0) (tCons (tVar 2) (tCons (tVar 3) tNil))) (gName 4)) (tAsg (tMethS C "meet" (spMeet C cNG cSG cKA) (WE W) (tVar 0) (tCons (tVar 2) (tCons (tVar 3) tNil))) (gName 4))))
          (ts := fun a cls d => tAsg (tCallP (spMarks K cNG cSG cKA cST cBH cNT cHE) a cls d (tCons (tVar 6) tNil)) (gName 5)) (Wout := fun _ _ _ _ => False) rfl rfl sc_did.nd rfl rfl ⟨rfl, by decide, Or.inl gHE⟩ takes0
          (fun W pn xe tk _ => pss_one (ps_if (pt_cmpR op_eq (pv 1) pe_int (nomark _)) (pss_one (ps_set (i := 4) sc_did.nd rfl (Or.inl rfl) (pmS (pv 0) T.cl mP.weak hr (fun σ => passAt tk σ) (pa_cons (pv 2) (pa_cons (pv 3) pa_nil)))))
            (pss_one (ps_if (pt_cmpR op_eq (pv 1) pe_int (nomark _)) (pss_one (ps_set (i := 4) sc_did.nd rfl (Or.inl rfl) (pmS (pv 0) T.cl mK.weak hr (fun σ => passAt tk σ) (pa_cons (pv 2) (pa_cons (pv 3) pa_nil)))))
              (pss_one (ps_set (i := 4) sc_did.nd rfl (Or.inl rfl) (pmS (pv 0) T.cl mM.weak hr (fun σ => passAt tk σ) (pa_cons (pv 2) (pa_cons (pv 3) pa_nil)))))))))
          (fun a oe cls d pn hz hf => pss_one (ps_set (i := 5) sc_did.nd rfl (Or.inl rfl) (pcP (p := (a, oe)) cMk hr rfl rfl List.mem_cons_self hz hf (pa_cons (pv 6) pa_nil)))))
      (pss_one (ps_ret (pe_tup (pa_cons (pv 4) (pa_cons (pv 5) pa_nil))))))), ?_⟩
    refine ⟨Nat.zero_le _, fun l0 hl0 => ?_⟩
    have s0 : Same H (upd H l0 (.lst [])) := same_new _ hl0
    have n1 : (hf n d).lookup ("part" : Str) = none := hf_no _ _ (by decide +kernel) (by decide +kernel)
    have n2 : (hf n d).lookup ("know" : Str) = none := hf_no _ _ (by decide +kernel) (by decide +kernel)
    have n3 : (hf n d).lookup ("meet" : Str) = none := hf_no _ _ (by decide +kernel) (by decide +kernel)
    have fin : ∀ (cX : Addr) (m : Nat) (M : MarkT K cNG cSG cKA cST cBH cNT cHE cX m) (eo : outc n L k y z = (.non, marks m, L)) (H1 : Hp), Same (upd H l0 (.lst [])) H1 → ∀ (σ' : L2.St), σ' = [some (V.ref p), some (V.int k), some (V.int y), some (V.int z), some V.non, some (V.ref l0), none] →
        ∃ b, PySem.W.exmOne K (.ref cX) (.ref cHE) = some b ∧ (b = true → ∀ a, H1 a = none → (fun a cls d => tAsg (tCallP (spMarks K cNG cSG cKA cST cBH cNT cHE) a cls d (tCons (tVar 6) tNil)) (gName 5)) a (.ref cX) none
          { nx := fun σ' H' => (fun σ H => tRet (tTup (tCons (tVar 4) (tCons (tVar 5) tNil))) { nx := fun _ H' => Q .non H', rt := Q } σ H) (σ'.set 6 none) H', rt := Q } (σ'.set 6 (some (.ref a))) H1) ∧ (b = false → False) := by
      rintro cX m M eo H1 s1 σ' rfl
      rw [eo] at q
      refine ⟨true, M.h, fun _ a _ => ?_, fun z => Bool.noConfusion z⟩
      refine ⟨_, rfl, cX, m, rfl, rfl, rfl, M, fun H2 l2 s2 nl2 h2 => ?_⟩
      refine ⟨_, rfl, _, rfl, (by show 2 ≤ sizeLine; decide), fun t ht => ?_⟩
      have st := same_new (.tup [V.non, V.ref l2]) ht
      have S := s0.trans (s1.trans (s2.trans st))
      exact q _ t l2 (fun b o _ e => S b o e) (hall.same S) upd_same (st _ _ h2)
    -- behind a deed that is done
    have done : ∀ (v : V) (L' : List Pr) (eo : outc n L k y z = (v, [], L')) (H1 : Hp), Keep [d] (upd H l0 (.lst [])) H1 → HallAt C H1 p n d L' → ∀ (σ' : L2.St), σ' = [some (V.ref p), some (V.int k), some (V.int y), some (V.int z), some v, some (V.ref l0), none] →
        tRet (tTup (tCons (tVar 4) (tCons (tVar 5) tNil))) { nx := fun _ H' => Q .non H', rt := Q } σ' H1 := by
      rintro v L' eo H1 k1 hall1 σ' rfl
      rw [eo] at q
      refine ⟨_, rfl, _, rfl, (by show 2 ≤ sizeLine; decide), fun t ht => ?_⟩
      have st := same_new (.tup [v, V.ref l0]) ht
      have hl1 : H1 l0 = some (.lst []) := k1.at1 (ne_of upd_same (hall.same s0).dic (fun z => nomatch z)) upd_same
      exact q _ t l0 (fun b o nb e => st _ _ (k1 b o nb (s0 b o e))) (hall1.same st) upd_same (st _ _ hl1)
    have hall0 := hall.same s0
    obtain ⟨dx0, hp0⟩ := hall0.ins
    refine ⟨_, rfl, rfl, _, rfl, ite2 (fun c => ?_) (fun c => ?_)⟩
    · have ek := V.int.inj (of_decide_eq_true c)
      subst ek
      refine ⟨_, rfl, p, dx0, _, rfl, hp0, n1, _, rfl, _, rfl, p, d, n, L, y, z, rfl, hall0, fun b => ?_, fun g1 g2 e => ?_, fun i j ei ej hi hj nij m H1 s1 => ?_, fun i j ei ej hi hj nij m H1 k1 hall1 => ?_⟩
      · exact fin cNG 0 M0 (outc_bad b) _ (Same.refl _) _ rfl
      · exact fin cSG 1 M1 (outc_same g1 g2 e) _ (Same.refl _) _ rfl
      · subst ei
        subst ej
        exact fin cST 3 M3 (outc_part_no hi hj nij m) _ s1 _ rfl
      · subst ei
        subst ej
        exact done _ _ (outc_part hi hj nij m) _ k1 hall1 _ rfl
    have k0 : k ≠ 0 := fun e => c (decide_eq_true (congrArg V.int e))
    refine ⟨_, rfl, rfl, _, rfl, ite2 (fun c2 => ?_) (fun c2 => ?_)⟩
    · have ek := V.int.inj (of_decide_eq_true c2)
      subst ek
      refine ⟨_, rfl, p, dx0, _, rfl, hp0, n2, _, rfl, _, rfl, p, d, n, L, y, z, rfl, hall0, fun b => ?_, fun g1 g2 e => ?_, fun i j ei ej hi hj nij H1 s1 => ?_⟩
      · exact fin cNG 0 M0 (outc_bad b) _ (Same.refl _) _ rfl
      · exact fin cSG 1 M1 (outc_same g1 g2 e) _ (Same.refl _) _ rfl
      · subst ei
        subst ej
        exact done _ _ (outc_know hi hj nij) _ (fun b o _ e => s1 b o e) (hall0.same s1) _ rfl
    have k1' : k ≠ 1 := fun e => c2 (decide_eq_true (congrArg V.int e))
    refine ⟨_, rfl, p, dx0, _, rfl, hp0, n3, _, rfl, _, rfl, p, d, n, L, y, z, rfl, hall0, fun b => ?_, fun g1 g2 e => ?_, fun i j ei ej hi hj nij m H1 s1 => ?_, fun i j ei ej hi hj nij m H1 k1 hall1 => ?_⟩
    · exact fin cNG 0 M0 (outc_bad b) _ (Same.refl _) _ rfl
    · exact fin cSG 1 M1 (outc_same g1 g2 e) _ (Same.refl _) _ rfl
    · subst ei
      subst ej
      exact fin cKA 2 M2 (outc_meet_no k0 k1' hi hj nij m) _ s1 _ rfl
    · subst ei
      subst ej
      exact done _ _ (outc_meet k0 k1' hi hj nij m) _ k1 hall1 _ rfl
theorem sc_due : FnScope ["pairs", "many", "kind", "one", "other", "pair", "k"] ["pairs", "many", "kind", "one", "other"] (defScope st_l_due) := ⟨rfl, rfl, rfl, by decide +kernel, rfl, by decide +kernel, by decide +kernel⟩
theorem ok_due {f : Addr} {fd : FuncData} (F : Fun K "_law_due" "_law_due" st_l_due f fd) (hmin : mg "min" = none) (hmax : mg "max" = none) (hrange : mg "range" = none) :
    FnOk P w K mg base CX0 1 f fd ["pairs", "many", "kind", "one", "other"] spDue := by
  refine F.ok sc_due (fun vs H Q E h => ?_) (fun cdv A outer s H vs Q E hr h => ?_)
  · obtain ⟨l, n, E, k, y, z, rfl, _⟩ := h
    rfl
  · obtain ⟨l, n, E, k, y, z, rfl, hP, wf, n20, q⟩ := h
    refine ⟨_, pss_cons (ps_set (i := 5) sc_due.nd rfl (Or.inl rfl) (pe_tup (pa_cons (pe_callB (call_min2 rfl) (by rfl) hmin (by decide +kernel) (pa_cons (pv 3) (pa_cons (pv 4) pa_nil)))
        (pa_cons (pe_callB (call_max2 rfl) (by rfl) hmax (by decide +kernel) (pa_cons (pv 3) (pa_cons (pv 4) pa_nil))) pa_nil))))
      (pss_cons (ps_if (PW.pt (pw_or (pt_cmpR op_lt (pe_ix ix_tup (pv 5) pe_int (fun _ _ => rfl)) pe_int (nomark _)) (pw_or1 (pt_cmpR op_ge (pe_ix ix_tup (pv 5) pe_int (fun _ _ => rfl)) (pv 1) (nomark _)))))
        (pss_one (ps_ret (pe_tup (pa_cons pe_non (pa_cons (pe_marks (i := 6) (m := 0) rfl sc_due.nd (by show 6 < 7; decide) hrange (by rfl) (blkOk_by (own := [("k", 6)]) (N := ["pairs", "many", "kind", "one", "other", "pair", "k"]) (sc := defScope st_l_due) (by decide +kernel)) (fun _ _ _ _ _ => pg_name (i := 6) sc_due.nd rfl (Or.inl rfl)) (fun _ _ _ _ _ => pv 6)) pa_nil))))) pss_nil)
      (pss_cons (ps_if (pt_cmpR op_eq (pv 3) (pv 4) (nomark _))
        (pss_one (ps_ret (pe_tup (pa_cons pe_non (pa_cons (pe_marks (i := 6) (m := 1) rfl sc_due.nd (by show 6 < 7; decide) hrange (by rfl) (blkOk_by (own := [("k", 6)]) (N := ["pairs", "many", "kind", "one", "other", "pair", "k"]) (sc := defScope st_l_due) (by decide +kernel)) (fun _ _ _ _ _ => pg_name (i := 6) sc_due.nd rfl (Or.inl rfl)) (fun _ _ _ _ _ => pv 6)) pa_nil))))) pss_nil)
      (pss_cons (ps_if (pt_cmpR op_eq (pv 2) pe_int (nomark _)) (pss_one (ps_ret (pe_tup (pa_cons (pe_cmpR (op_inD (hu65 hr)) (pv 5) (pv 0) (by rfl)) (pa_cons (pe_lst pa_nil) pa_nil))))) pss_nil)
      (pss_cons (ps_if (pt_cmpR op_eq (pv 2) pe_int (nomark _))
        (pss_cons (ps_if (pt_cmpR (op_notInD (hu65 hr)) (pv 5) (pv 0) (by rfl))
          (pss_one (ps_ret (pe_tup (pa_cons pe_non (pa_cons (pe_marks (i := 6) (m := 3) rfl sc_due.nd (by show 6 < 7; decide) hrange (by rfl) (blkOk_by (own := [("k", 6)]) (N := ["pairs", "many", "kind", "one", "other", "pair", "k"]) (sc := defScope st_l_due) (by decide +kernel)) (fun _ _ _ _ _ => pg_name (i := 6) sc_due.nd rfl (Or.inl rfl)) (fun _ _ _ _ _ => pv 6)) pa_nil))))) pss_nil)
        (pss_cons (ps_expr (pe_bm PySem.F.plainAttrs_list PySem.F.slot_list_remove PySem.F.type_list_remove (mt_removeD (hu65 hr)) (pv 0) (pa_cons (pv 5) pa_nil)))
        (pss_one (ps_ret (pe_tup (pa_cons pe_non (pa_cons (pe_lst pa_nil) pa_nil))))))) pss_nil)
      (pss_cons (ps_if (pt_cmpR (op_inD (hu65 hr)) (pv 5) (pv 0) (by rfl))
        (pss_one (ps_ret (pe_tup (pa_cons pe_non (pa_cons (pe_marks (i := 6) (m := 2) rfl sc_due.nd (by show 6 < 7; decide) hrange (by rfl) (blkOk_by (own := [("k", 6)]) (N := ["pairs", "many", "kind", "one", "other", "pair", "k"]) (sc := defScope st_l_due) (by decide +kernel)) (fun _ _ _ _ _ => pg_name (i := 6) sc_due.nd rfl (Or.inl rfl)) (fun _ _ _ _ _ => pv 6)) pa_nil))))) pss_nil)
      (pss_cons (ps_expr (pe_bm PySem.F.plainAttrs_list PySem.F.slot_list_append PySem.F.type_list_append mt_append (pv 0) (pa_cons (pv 5) pa_nil)))
      (pss_one (ps_ret (pe_tup (pa_cons pe_non (pa_cons (pe_lst pa_nil) pa_nil)))))))))))
      , ?_⟩
    refine ⟨_, rfl, _, rfl, _, _, rfl, _, rfl, _, rfl, _, _, rfl, (by show 2 ≤ sizeLine; decide), fun t0 nt0 => ?_⟩
    dsimp only
    have s0 := same_new (.tup [V.int (if z < y then z else y), V.int (if z > y then z else y)]) nt0
    have h0 : upd H t0 (.tup [V.int (if z < y then z else y), V.int (if z > y then z else y)]) t0 = some (.tup [V.int (if z < y then z else y), V.int (if z > y then z else y)]) := upd_same
    generalize upd H t0 (.tup [V.int (if z < y then z else y), V.int (if z > y then z else y)]) = H0 at s0 h0
    have hP0 := hP.same s0
    -- what is refused
    have ref : ∀ (m : Nat) (eo : outc n E k y z = (.non, marks m, E)) (σ' : L2.St), tRet (tTup (tCons (tC .non) (tCons (tMarks m) tNil))) { nx := fun _ H' => Q .non H', rt := Q } σ' H0 := by
      intro m eo σ'
      rw [eo] at q
      refine fun D H1 nD s1 h1 => ⟨(by show 2 ≤ sizeLine; decide), fun t ht => ?_⟩
      have st := same_new (.tup [V.non, V.ref D]) ht
      have S := s0.trans (s1.trans st)
      have hl0 := hP0
      obtain ⟨xs, hx, _⟩ := hl0.ex
      exact q _ t D (fun b o _ e => S b o e) (hP.same S) upd_same (st _ _ h1) (ne_of_none hx nD).symm
    refine ⟨_, rfl, t0, _, _, _, rfl, rfl, SqT.of h0, atI_nat (j := 0) rfl, _, _, rfl, rfl, _, rfl, ite2 (fun c => ?_) (fun c => ?_)⟩
    · refine ref 0 (outc_bad fun g => ?_) _
      have := of_decide_eq_true c
      unfold isG at g
      split at this <;> omega
    have c : ¬ (if z < y then z else y) < 0 := fun x => c (decide_eq_true x)
    refine ⟨_, rfl, t0, _, _, _, rfl, rfl, SqT.of h0, atI_nat (j := 1) rfl, _, rfl, _, _, rfl, rfl, _, rfl, ite2 (fun c2 => ?_) (fun c2 => ?_)⟩
    · refine ref 0 (outc_bad fun g => ?_) _
      have := of_decide_eq_true c2
      unfold isG at g
      split at this <;> omega
    have c2 : ¬ (if z > y then z else y) ≥ (n : Int) := fun x => c2 (decide_eq_true x)
    have g : isG n y ∧ isG n z := by
      unfold isG
      by_cases h1 : z < y
      · rw [if_pos h1] at c
        rw [if_neg (by omega)] at c2
        omega
      · rw [if_neg h1] at c
        by_cases h2 : z > y
        · rw [if_pos h2] at c2
          omega
        · rw [if_neg h2] at c2
          omega
    refine ⟨_, rfl, _, rfl, rfl, _, rfl, ite2 (fun c3 => ?_) (fun c3 => ?_)⟩
    · exact ref 1 (outc_same g.1 g.2 (V.int.inj (of_decide_eq_true c3))) _
    have nyz : y ≠ z := fun e => c3 (decide_eq_true (congrArg V.int e))
    obtain ⟨i, rfl, hi⟩ := g.1.nat
    obtain ⟨j, rfl, hj⟩ := g.2.nat
    have nij : i ≠ j := fun e => nyz (by rw [e])
    rw [min_py, max_py] at h0
    have tv : PairV H0 (.ref t0) (nrm i j) := ⟨t0, rfl, h0⟩
    obtain ⟨xs, hx0, r0⟩ := hP0.ex
    have len0 : xs.length ≤ 400 := by
      rw [Paired.length r0]
      exact wf.len n20
    -- what is done
    have done : ∀ (v : V) (E' : List Pr) (eo : outc n E k (i : Int) (j : Int) = (v, [], E')) (H1 : Hp), Keep [l] H0 H1 → PairsAt H1 l E' → ∀ D, H1 D = none → ∀ t, upd H1 D (.lst []) t = none → Q (.ref t) (upd (upd H1 D (.lst [])) t (.tup [v, .ref D])) := by
      intro v E' eo H1 k1 hP1 D nD t ht
      rw [eo] at q
      have s1 := same_new (.lst []) nD
      have s2 := same_new (.tup [v, V.ref D]) ht
      obtain ⟨ys, hy, _⟩ := hP1.ex
      exact q _ t D (fun b o nb e => s2 _ _ (s1 _ _ (k1 b o nb (s0 b o e)))) ((hP1.same s1).same s2) upd_same (s2 _ _ upd_same) (ne_of_none hy nD).symm
    refine ⟨_, rfl, rfl, _, rfl, ite2 (fun c4 => ?_) (fun c4 => ?_)⟩
    · have ek := V.int.inj (of_decide_eq_true c4)
      subst ek
      refine ⟨_, rfl, _, rfl, pD (nrm i j), E.map pD, tv.dp, hP0.dp, pD_shaped _, pDs_shaped _, ?_⟩
      rw [any_pD]
      refine ⟨Nat.zero_le _, fun D nD => ⟨(by show 2 ≤ sizeLine; decide), fun t ht => ?_⟩⟩
      exact done _ _ (outc_know hi hj nij) H0 (Keep.refl _ _) hP0 D nD t ht
    have k1 : k ≠ 1 := fun e => c4 (decide_eq_true (congrArg V.int e))
    refine ⟨_, rfl, rfl, _, rfl, ite2 (fun c5 => ?_) (fun c5 => ?_)⟩
    · have ek := V.int.inj (of_decide_eq_true c5)
      subst ek
      refine ⟨_, rfl, _, rfl, pD (nrm i j), E.map pD, tv.dp, hP0.dp, pD_shaped _, pDs_shaped _, _, rfl, ?_⟩
      rw [any_pD]
      refine ite2 (fun c6 => ?_) (fun c6 => ?_)
      · have nm : nrm i j ∉ E := fun m => by
          rw [decide_eq_true m] at c6
          cases c6
        exact ref 3 (outc_part_no hi hj nij nm) _
      · have m : nrm i j ∈ E := by
          by_cases m : nrm i j ∈ E
          · exact m
          · rw [decide_eq_false m] at c6
            exact absurd rfl c6
        obtain ⟨e, pm1, pm2⟩ := place_pD m
        refine ⟨_, rfl, .inl ⟨rfl, _, SqL.of hx0⟩, _, rfl, l, xs, _, E.map pD, pD (nrm i j), e, rfl, rfl, hx0, r0.dp, tv.dp, pDs_plain E, (by simp [PyData.plain, PyData.plainAll, pD]), (by rw [pD_depth]; decide), pm1, ?_⟩
        refine ⟨Nat.zero_le _, fun D nD => ⟨(by show 2 ≤ sizeLine; decide), fun t ht => ?_⟩⟩
        refine done _ _ (outc_part hi hj nij m) _ (Keep.put l _) ⟨xs.eraseIdx e, upd_same, ?_⟩ D nD t ht
        rw [← pm2]
        exact (r0.eraseIdx e).keep fun b ys z => by rw [upd_ne (ne_of z hx0 (fun z => nomatch z))]; exact z
    have k0 : k ≠ 0 := fun e => c5 (decide_eq_true (congrArg V.int e))
    refine ⟨_, rfl, _, rfl, pD (nrm i j), E.map pD, tv.dp, hP0.dp, pD_shaped _, pDs_shaped _, _, rfl, ?_⟩
    rw [any_pD]
    refine ite2 (fun c6 => ?_) (fun c6 => ?_)
    · exact ref 2 (outc_meet_no k0 k1 hi hj nij (of_decide_eq_true c6)) _
    · have nm : nrm i j ∉ E := fun m => c6 (decide_eq_true m)
      refine ⟨_, rfl, .inl ⟨rfl, _, SqL.of hx0⟩, _, rfl, l, xs, _, rfl, rfl, hx0, Nat.lt_of_le_of_lt len0 (by decide), ?_⟩
      refine ⟨Nat.zero_le _, fun D nD => ⟨(by show 2 ≤ sizeLine; decide), fun t ht => ?_⟩⟩
      refine done _ _ (outc_meet k0 k1 hi hj nij nm) _ (Keep.put l _) ⟨xs ++ [.ref t0], upd_same, ?_⟩ D nD t ht
      exact (r0.snoc tv).keep fun b ys z => by rw [upd_ne (ne_of z hx0 (fun z => nomatch z))]; exact z
theorem sc_no_hall : FnScope ["many", "marks", "e", "k"] ["many"] (defScope st_l_no_hall) := ⟨rfl, rfl, rfl, by decide +kernel, rfl, by decide +kernel, by decide +kernel⟩
theorem ok_no_hall {f : Addr} {fd : FuncData} (F : Fun K "_law_no_hall" "_law_no_hall" st_l_no_hall f fd) (T : HT K mg C cNG cSG cKA cST cBH) (gHE : mg "HallError" = some (.ref cHE))
    (mkH : MakD P w K mg base (L2N.CX P w) C 1 "Hall" (spInit C cBH)) (cMk : CalP P w K mg base 1 "_law_marks_of" (spMarks K cNG cSG cKA cST cBH cNT cHE)) (M : MarkT K cNG cSG cKA cST cBH cNT cHE cBH 4) :
    FnOk P w K mg base CX0 5 f fd ["many"] spNoHall := by
  refine F.ok sc_no_hall (fun vs H Q E h => ?_) (fun cdv A outer s H vs Q E hr h => ?_)
  · obtain ⟨z, rfl, _⟩ := h
    rfl
  · obtain ⟨z, rfl, bad, q⟩ := h
    refine ⟨_, pss_cons (ps_set (i := 1) sc_no_hall.nd rfl (Or.inl rfl) (pe_lst pa_nil))
      (pss_cons (ps_try_as (i := 2) (tb := fun W => tDrop (tMakeS C (spInit C cBH) (WE W) (tCons (tVar 0) tNil)))
          (ts := fun a cls d => tAsg (tCallP (spMarks K cNG cSG cKA cST cBH cNT cHE) a cls d (tCons (tVar 2) tNil)) (gName 1)) (Wout := fun _ _ _ _ => False) rfl rfl sc_no_hall.nd rfl rfl ⟨rfl, by decide, Or.inl gHE⟩ takes0
          (fun W pn xe tk _ => pss_one (ps_expr (pkS mkH.weak hr (fun σ => passAt tk σ) (pa_cons (pv 0) pa_nil))))
          (fun a oe cls d pn hz hf => pss_one (ps_set (i := 1) sc_no_hall.nd rfl (Or.inl rfl) (pcP (p := (a, oe)) cMk hr rfl rfl List.mem_cons_self hz hf (pa_cons (pv 2) pa_nil)))))
      (pss_one (ps_ret (pe_cmpR (op_eqD hr.units) (pv 1) (pe_marks (i := 3) (m := 4) rfl sc_no_hall.nd (by show 3 < 4; decide) T.range (by rfl) (blkOk_by (own := [("k", 3)]) (N := ["many", "marks", "e", "k"]) (sc := defScope st_l_no_hall) (by decide +kernel))
        (fun _ _ _ _ _ => pg_name (i := 3) sc_no_hall.nd rfl (Or.inl rfl)) (fun _ _ _ _ _ => pv 3)) (nomark _))))), ?_⟩
    refine ⟨Nat.zero_le _, fun l0 hl0 => ?_⟩
    have s0 : Same H (upd H l0 (.lst [])) := same_new _ hl0
    refine ⟨_, rfl, make_hall (z := z) (fun _ H1 s1 => ?_) (fun n e n1 n20 => absurd ⟨by omega, by omega⟩ bad)⟩
    refine ⟨true, M.h, fun _ a _ => ?_, fun z => Bool.noConfusion z⟩
    refine ⟨_, rfl, cBH, 4, rfl, rfl, rfl, M, fun H2 l2 s2 nl2 h2 => ?_⟩
    refine ⟨_, rfl, fun D H3 nD s3 h3 => ?_⟩
    refine ⟨bD (marks 4), bD (marks 4), bD_dp (SqL.of (s3 _ _ h2)), bD_dp (SqL.of h3), bD_shaped _, bD_shaped _, ?_⟩
    rw [bD_refl]
    exact q _ (s0.trans (s1.trans (s2.trans s3)))
end
end KT

/-! the law's defs: a cell -/
namespace KT
open PySem PySem.Spec PyProof.Rows L2
section
variable {P : Program} {w : World} {K : PySem.W.Frag} {mg : Str → Option Value} {base : Heap} {C cNG cSG cKA cST cBH : Addr}
theorem sc_cell : FnScope ["script", "k"] ["script", "k"] (defScope st_l_cell_at) := ⟨rfl, rfl, rfl, by decide +kernel, rfl, by decide +kernel, by decide +kernel⟩
theorem ok_cell {f : Addr} {fd : FuncData} (F : Fun K "_law_cell_at" "_law_cell_at" st_l_cell_at f fd) (hlen : mg "len" = none) :
    FnOk P w K mg base CX0 1 f fd ["script", "k"] (spCell K) := by
  refine F.ok sc_cell (fun vs H Q E h => ?_) (fun cdv A outer s H vs Q E hr h => ?_)
  · obtain ⟨a, ns, k, rfl, _⟩ := h
    rfl
  · obtain ⟨a, ns, k, rfl, hS, q⟩ := h
    refine ⟨_, pss_cons (ps_if (pt_cmpR op_lt (pv 1) (pe_callB call_len_seq (by rfl) hlen PySem.boot_len (pa_cons (pv 0) pa_nil)) (nomark _)) (pss_one (ps_ret (pe_ix ix_list (pv 0) (pv 1) (fun _ _ => rfl)))) pss_nil) (pss_one (ps_ret pe_int)), ?_⟩
    refine ⟨_, rfl, _, rfl, a, _, rfl, .inl hS, _, _, rfl, rfl, _, rfl, ite2 (fun c => ?_) (fun c => ?_)⟩
    · have hk : k < ns.length := by
        have := of_decide_eq_true c
        rw [List.length_map] at this
        omega
      refine ⟨_, rfl, _, rfl, a, _, _, _, rfl, rfl, hS, atI_nat (v := V.int (ns.getD k 0)) ?_, q⟩
      rw [List.getElem?_map, List.getD_eq_getElem?_getD, List.getElem?_eq_getElem hk]
      rfl
    · have hk : ns.length ≤ k := by
        have z : ¬ ((k : Int) < ((ns.map V.int).length : Nat)) := of_decide_eq_false (by simpa using c)
        rw [List.length_map] at z
        omega
      have e : ns.getD k 0 = 0 := by
        rw [List.getD_eq_getElem?_getD, List.getElem?_eq_none hk]
        rfl
      rw [e] at q
      exact q
end
end KT

/-! a whole number -/
namespace KT
open PySem PySem.Spec PyProof.Rows L2
section
variable {P : Program} {w : World} {K : PySem.W.Frag} {mg : Str → Option Value} {base : Heap} {C cNG cSG cKA cST cBH : Addr}
theorem sc_whole : FnScope ["found"] ["found"] (defScope st_l_whole) := ⟨rfl, rfl, rfl, by decide +kernel, rfl, by decide +kernel, by decide +kernel⟩
theorem ok_whole {f : Addr} {fd : FuncData} (F : Fun K "_law_whole" "_law_whole" st_l_whole f fd) (his : mg "isinstance" = none) (hint : mg "int" = none) (hbool : mg "bool" = none) :
    FnOk P w K mg base CX0 1 f fd ["found"] spWhole := by
  refine F.ok sc_whole (fun vs H Q E h => ?_) (fun cdv A outer s H vs Q E hr h => ?_)
  · obtain ⟨i, rfl, _⟩ := h
    rfl
  · obtain ⟨i, rfl, q⟩ := h
    refine ⟨_, pss_one (ps_ret (pe_and (pe_callB call_isi (by rfl) his (by decide +kernel) (pa_cons (pv 0) (pa_cons (pe_bltn (v := .ty "int") (by rfl) hint (by decide +kernel) rfl) pa_nil)))
      (pe_one (pe_not (pe_callB call_isi (by rfl) his (by decide +kernel) (pa_cons (pv 0) (pa_cons (pe_bltn (v := .ty "bool") (by rfl) hbool (by decide +kernel) rfl) pa_nil))))))), ?_⟩
    refine ⟨_, rfl, _, _, _, _, true, rfl, .ty "int", .base (.int i), kit_ty (by decide +kernel), true, rfl, iteT ?_⟩
    exact ⟨_, rfl, _, _, _, _, false, rfl, .ty "bool", .base (.int i), kit_ty (by decide +kernel), false, rfl, q⟩
end
end KT

/-! the law's defs: numbers, whom a guest knows, the same hall -/
namespace KT
open PySem PySem.Spec PyProof.Rows L2
section
variable {P : Program} {w : World} {K : PySem.W.Frag} {mg : Str → Option Value} {base : Heap} {C cNG cSG cKA cST cBH : Addr}
theorem sc_numbers : FnScope ["found", "due", "number"] ["found", "due"] (defScope st_l_numbers) := ⟨rfl, rfl, rfl, by decide +kernel, rfl, by decide +kernel, by decide +kernel⟩
theorem ok_numbers {f : Addr} {fd : FuncData} (F : Fun K "_law_numbers" "_law_numbers" st_l_numbers f fd) (his : mg "isinstance" = none) (hlist : mg "list" = none)
    (cW : CalD P w K mg base CX0 1 "_law_whole" spWhole) : FnOk P w K mg base CX0 2 f fd ["found", "due"] spNumbers := by
  refine F.ok sc_numbers (fun vs H Q E h => ?_) (fun cdv A outer s H vs Q E hr h => ?_)
  · obtain ⟨a, b, l, rfl, _⟩ := h
    rfl
  · obtain ⟨a, b, l, rfl, ha, hb, q⟩ := h
    refine ⟨_, pss_cons (ps_if (pt_not (pt_val (pe_callB call_isi (by rfl) his (by decide +kernel) (pa_cons (pv 0) (pa_cons (pe_bltn (v := .ty "list") (by rfl) hlist (by decide +kernel) rfl) pa_nil))))) (pss_one (ps_ret pe_bl)) pss_nil)
      (pss_cons (ps_for PassesOwn.never rfl (pi_list (pv 0)) (pg_name (i := 2) sc_numbers.nd rfl (Or.inl rfl)) (pss_one (ps_if (pt_not (pt_val (pc cW hr pass0 (pa_cons (pv 2) pa_nil)))) (pss_one (ps_ret pe_bl)) pss_nil)))
      (pss_one (ps_ret (pe_cmpR (op_eqD hr.units) (pv 0) (pv 1) (nomark _))))), ?_⟩
    refine ⟨_, rfl, _, _, _, _, true, rfl, .ty "list", .base (.lst ha), kit_ty (by decide +kernel), true, rfl, iteF ?_⟩
    refine ⟨_, rfl, a, rfl, ⟨_, SqL.of ha⟩, for_list (K := K) (a := a) (xs := iV l) (fun i σ H' => ∃ v, σ = [some (.ref a), some (.ref b), v] ∧ H' = H) ⟨none, rfl, rfl⟩ (fun i σ H' _ ⟨_, _, e⟩ => by rw [e]; exact SqL.of ha) ?_ ?_⟩
    · rintro i x σ H1 hx ⟨v, rfl, rfl⟩
      obtain ⟨u, rfl⟩ : ∃ u : Nat, x = V.int (u : Int) := by
        unfold iV at hx
        rw [List.getElem?_map] at hx
        cases e : l[i]? with
        | none =>
          rw [e] at hx
          cases hx
        | some u =>
          rw [e] at hx
          exact ⟨u, (Option.some.inj hx).symm⟩
      exact ⟨_, rfl, _, rfl, true, rfl, iteF ⟨_, rfl, rfl⟩⟩
    · rintro σ H1 ⟨v, rfl, rfl⟩
      refine ⟨_, rfl, _, rfl, iD l, iD l, iD_dp (SqL.of ha), iD_dp (SqL.of hb), iD_shaped l, iD_shaped l, ?_⟩
      rw [iD_refl]
      exact q
theorem sc_lknown : FnScope ["pairs", "many", "guest", "other"] ["pairs", "many", "guest"] (defScope st_l_known) := ⟨rfl, rfl, rfl, by decide +kernel, rfl, by decide +kernel, by decide +kernel⟩
theorem ok_lknownD {f : Addr} {fd : FuncData} (F : Fun K "_law_known" "_law_known" st_l_known f fd) (hmin : mg "min" = none) (hmax : mg "max" = none) (hrange : mg "range" = none) :
    FnOk P w K mg base CX0 1 f fd ["pairs", "many", "guest"] spKnownD := by
  refine F.ok sc_lknown (fun vs H Q E h => ?_) (fun cdv A outer s H vs Q E hr h => ?_)
  · obtain ⟨q, n, g, E, rfl, _⟩ := h
    rfl
  · obtain ⟨q, n, g, E, rfl, hq, wf, n20, hg, k⟩ := h
    refine ⟨_, pss_one (ps_ret (pe_lc (own := [("other", 3)]) (g := gName 3) rfl sc_lknown.nd (pi_range1 (by rfl) hrange (pa_cons (pv 1) pa_nil))
      (blkOk_by (own := [("other", 3)]) (N := ["pairs", "many", "guest", "other"]) (sc := defScope st_l_known) (by decide +kernel)) (fun _ _ _ _ _ => pg_name (i := 3) sc_lknown.nd rfl (Or.inl rfl))
      (fun _ _ _ _ _ => pts_one (pt_cmp (pc_din (hu_of hr) (pe_tup (pa_cons (pe_callB (call_min2 rfl) (by rfl) hmin (by decide +kernel) (pa_cons (pv 2) (pa_cons (pv 3) pa_nil)))
        (pa_cons (pe_callB (call_max2 rfl) (by rfl) hmax (by decide +kernel) (pa_cons (pv 2) (pa_cons (pv 3) pa_nil))) pa_nil))) (pv 0)))) (fun _ _ _ _ _ => pv 3))), ?_⟩
    refine ⟨_, rfl, _, rfl, by omega, by omega, fun D hD => ?_⟩
    refine lc_range (lo := 0) (n := n) (fun i H' => Same H H' ∧ H' D = some (.lst (iV ((List.range i).filter (oth true E g))))) ⟨same_new _ hD, upd_same⟩ ?_ (fun H1 h1 => k H1 D h1.1 hD h1.2)
    rintro i H1 hi ⟨s1, h1⟩
    rw [Int.zero_add]
    refine ⟨rfl, _, rfl, _, rfl, _, _, rfl, _, rfl, _, rfl, _, _, rfl, (by show 2 ≤ sizeLine; decide), fun t ht => ?_⟩
    rw [min_py, max_py]
    have st := same_new (.tup [V.int ((min g i : Nat) : Int), V.int ((max g i : Nat) : Int)]) ht
    refine ⟨_, rfl, q, _, rfl, get_new (s1 _ _ hq) ht, ?_⟩
    rw [isSome_kvs]
    refine ⟨_, rfl, ite2 (fun c => ?_) (fun c => ?_)⟩
    · refine ⟨_, rfl, _, st _ _ h1, iV_line (by omega), same_keepNew (s1.trans st) hD (Keep.put D _), ?_⟩
      rw [upd_same, filter_yes (by rw [oth_known wf]; exact c), iV_snoc]
    · refine ⟨s1.trans st, ?_⟩
      rw [filter_no (by rw [oth_known wf]; exact c)]
      exact st _ _ h1
theorem sc_same : FnScope ["hall", "pairs", "many", "told", "there", "pair", "guest", "due", "others", "other"] ["hall", "pairs", "many"] (defScope st_l_same) := ⟨rfl, rfl, rfl, by decide +kernel, rfl, by decide +kernel, by decide +kernel⟩
theorem ok_same {f : Addr} {fd : FuncData} (F : Fun K "_law_same" "_law_same" st_l_same f fd) (T : HT K mg C cNG cSG cKA cST cBH)
    (mM : MetD P w K mg base CX0 C 1 "many" (spMany C)) (mKn : MetD P w K mg base (L2N.CX P w) C 4 "known" (spOthers true C cNG)) (mSt : MetD P w K mg base (L2N.CX P w) C 4 "strangers" (spOthers false C cNG))
    (cW : CalD P w K mg base CX0 1 "_law_whole" spWhole) (cN : CalD P w K mg base CX0 2 "_law_numbers" spNumbers) (cK : CalD P w K mg base CX0 1 "_law_known" spKnownD) :
    FnOk P w K mg base CX0 5 f fd ["hall", "pairs", "many"] (spSame C) := by
  refine F.ok sc_same (fun vs H Q E h => ?_) (fun cdv A outer s H vs Q E hr h => ?_)
  · obtain ⟨p, l, d, n, L, E, rfl, _⟩ := h
    rfl
  · obtain ⟨p, l, d, n, L, E, rfl, hall, hP, wf, eqv, q⟩ := h
    obtain ⟨ps, hps, rps⟩ := hP.ex
    have n20 := hall.hi
    refine ⟨_, pss_cons (ps_set (i := 3) sc_same.nd rfl (Or.inl rfl) (pm0 (pv 0) T.cl mM hr pass0))
      (pss_cons (ps_if (PW.pt (pw_or (pt_not (pt_val (pc cW hr pass0 (pa_cons (pv 3) pa_nil)))) (pw_or1 (pt_cmpR op_ne (pv 3) (pv 2) (nomark _))))) (pss_one (ps_ret pe_bl)) pss_nil)
      (pss_cons (ps_set (i := 4) sc_same.nd rfl (Or.inl rfl) pe_dnewT)
      (pss_cons (ps_for PassesOwn.never rfl (pi_list (pv 1)) (pg_name (i := 5) sc_same.nd rfl (Or.inl rfl)) (pss_one (ps_dput (hu_of hr) (pv 4) (pv 5) pe_bl rfl)))
      (pss_cons (ps_for PassesOwn.never rfl (pi_range1 (by rfl) T.range (pa_cons (pv 2) pa_nil)) (pg_name (i := 6) sc_same.nd rfl (Or.inr rfl))
        (pss_cons (ps_set (i := 7) sc_same.nd rfl (Or.inr rfl) (pc cK hr pass0 (pa_cons (pv 4) (pa_cons (pv 2) (pa_cons (pv 6) pa_nil)))))
        (pss_cons (ps_setLc (i := 8) (own := [("other", 9)]) (g := gName 9) (tt := tAnd (tTest (tOp rNe (tVar 9) (tVar 6))) (tTest (tOp (rIn K true) (tVar 9) (tVar 7)))) (by rfl) sc_same.nd rfl rfl (sw_true rfl rfl rfl (by decide +kernel))
            (pi_range1 (by rfl) T.range (pa_cons (pv 2) pa_nil)) (blkOk_by (own := [("other", 9)]) (N := ["hall", "pairs", "many", "told", "there", "pair", "guest", "due", "others", "other"]) (sc := defScope st_l_same) (by decide +kernel))
            (fun _ _ _ _ _ => pg_name (i := 9) sc_same.nd rfl (Or.inl rfl)) (fun _ _ _ _ _ => pts_one (PW.pt (pw_and (pt_cmpR op_ne (pv 9) (pv 6) (nomark _)) (pw_and1 (pt_cmpR op_notIn_seq (pv 9) (pv 7) (by rfl)))))) (fun _ _ _ _ _ => pv 9))
        (pss_one (ps_if (PW.pt (pw_or (pt_not (pt_val (pc cN hr pass0 (pa_cons (pm (pv 0) T.cl mKn hr passN (pa_cons (pv 6) pa_nil)) (pa_cons (pv 7) pa_nil)))))
          (pw_or1 (pt_not (pt_val (pc cN hr pass0 (pa_cons (pm (pv 0) T.cl mSt hr passN (pa_cons (pv 6) pa_nil)) (pa_cons (pv 8) pa_nil)))))))) (pss_one (ps_ret pe_bl)) pss_nil)))))
      (pss_one (ps_ret pe_bl)))))), ?_⟩
    refine r_many (rv rfl) hall ?_
    refine ⟨_, rfl, _, rfl, true, rfl, iteF ?_⟩
    refine ⟨_, rfl, _, rfl, rfl, _, rfl, iteNS rfl ?_⟩
    intro d0 hd0
    have sd : Same H (upd H d0 (.dT [])) := same_new _ hd0
    refine ⟨_, rfl, l, rfl, ⟨_, SqL.of (sd _ _ hps)⟩, for_list (K := K) (a := l) (xs := ps) (fun i σ H' => ∃ v5, σ = [some (.ref p), some (.ref l), some (.int (n : Int)), some (.int (n : Int)), some (.ref d0), v5, none, none, none, none] ∧ Same H H' ∧ H' d0 = some (.dT (kvs (E.take i))))
      ⟨none, rfl, sd, upd_same⟩ (fun i σ H' _ ⟨_, _, s1, _⟩ => SqL.of (s1 _ _ hps)) ?_ ?_⟩
    · rintro i v σ H1 hi ⟨v5, rfl, s1, hd1⟩
      obtain ⟨pr, hp, hv⟩ := (rps.keep (fun b ys z => s1 b _ z)).get hi
      obtain ⟨a, rfl, ha⟩ := hv
      refine ⟨_, rfl, _, rfl, d0, _, rfl, DPut.t (k := kP pr) hd1 ha ?_, ?_⟩
      · rw [length_kvs]
        refine Nat.lt_of_le_of_lt (m := 400) ?_ (by decide)
        have z1 := wf.len n20
        have z2 := List.length_take_le' i E
        omega
      · refine ⟨_, rfl, same_keepNew s1 hd0 (Keep.put d0 _), ?_⟩
        rw [upd_same, put_kvs (take_notin wf.1 hp), take_more hp]
    · rintro σ H1 ⟨v5, rfl, s1, hd1⟩
      rw [Paired.length rps, List.take_length] at hd1
      refine ⟨_, rfl, (n : Int), rfl, by omega, by omega, for_range (lo := 0) (n := n) (fun i σ H' => ∃ v6 v7 v8 v9 : Option V, σ = [some (.ref p), some (.ref l), some (.int (n : Int)), some (.int (n : Int)), some (.ref d0), v5, v6, v7, v8, v9] ∧ Same H1 H') ⟨_, _, _, _, rfl, Same.refl _⟩ ?_ ?_⟩
      · rintro g σ H2 hg ⟨v6, v7, v8, v9, rfl, s2⟩
        rw [Int.zero_add]
        refine ⟨_, rfl, _, rfl, _, rfl, d0, n, g, E, rfl, s2 _ _ hd1, wf, n20, hg, fun H3 ld s3 nld hld => ?_⟩
        refine ⟨_, rfl, _, rfl, by omega, by omega, fun D hD => ?_⟩
        refine lc_range (lo := 0) (n := n) (fun i H' => Same H3 H' ∧ H' D = some (.lst (iV ((List.range i).filter (oth false E g))))) ⟨same_new _ hD, upd_same⟩ ?_ ?_
        · rintro i H4 hi ⟨s4, h4⟩
          rw [Int.zero_add]
          refine ⟨rfl, _, rfl, _, rfl, rfl, _, rfl, ite2 (fun c => ?_) (fun c => ?_)⟩
          · have nig : i ≠ g := fun e => by
              rw [e] at c
              simp at c
            refine ⟨_, rfl, _, rfl, ld, _, rfl, .inl (SqL.of (s4 _ _ hld)), rfl, iV_flat _, _, rfl, ?_⟩
            show (if (if true = true then !inV (V.int (i : Int)) (iV (others true n E g)) else inV (V.int (i : Int)) (iV (others true n E g))) = true then _ else _)
            rw [if_pos rfl, inV_iV]
            have eo : oth false E g i = !decide (i ∈ others true n E g) := by
              rw [Bool.eq_iff_iff, oth_iff]
              unfold others
              simp only [List.mem_filter, List.mem_range, oth_iff, decide_eq_false_iff_not, Bool.not_eq_true', decide_eq_true_eq, not_and]
              constructor
              · rintro ⟨_, h⟩ _ _
                exact h
              · intro h
                exact ⟨nig, h hi nig⟩
            rw [← eo]
            refine ite2 (fun c2 => ?_) (fun c2 => ?_)
            · refine ⟨_, rfl, _, h4, iV_line (by omega), same_keepNew s4 hD (Keep.put D _), ?_⟩
              rw [upd_same, filter_yes c2, iV_snoc]
            · refine ⟨s4, ?_⟩
              rw [filter_no c2]
              exact h4
          · have eig : i = g := by
              by_cases e : i = g
              · exact e
              · exact absurd (by simp; omega) c
            refine ⟨s4, ?_⟩
            rw [filter_no (by rw [oth_iff]; exact fun z => z.1 eig)]
            exact h4
        · rintro H4 ⟨s4, h4⟩
          have S4 := s1.trans (s2.trans (s3.trans s4))
          refine r_known (rv rfl) (rv rfl) (hall.same S4) hg fun H5 l5 s5 n5 h5 => ?_
          rw [others_eqv eqv] at h5
          refine ⟨_, rfl, l5, ld, _, rfl, h5, s5 _ _ (s4 _ _ hld), true, rfl, iteF ?_⟩
          refine r_strangers (rv rfl) (rv rfl) (hall.same (S4.trans s5)) hg fun H6 l6 s6 n6 h6 => ?_
          rw [others_eqv eqv] at h6
          refine ⟨_, rfl, l6, D, _, rfl, h6, s6 _ _ (s5 _ _ h4), true, rfl, iteF ?_⟩
          exact ⟨_, _, _, _, rfl, s2.trans (s3.trans (s4.trans (s5.trans s6)))⟩
      · rintro σ H2 ⟨v6, v7, v8, v9, rfl, s2⟩
        exact q _ (s1.trans s2)
end
end KT

/-! _law_known of a list -/
namespace KT
open PySem PySem.Spec PyProof.Rows L2
section
variable {P : Program} {w : World} {K : PySem.W.Frag} {mg : Str → Option Value} {base : Heap}
theorem sc_lknownL : FnScope ["pairs", "many", "guest", "other"] ["pairs", "many", "guest"] (defScope st_l_known) := ⟨rfl, rfl, rfl, by decide +kernel, rfl, by decide +kernel, by decide +kernel⟩
theorem ok_lknownL {f : Addr} {fd : FuncData} (F : Fun K "_law_known" "_law_known" st_l_known f fd) (hmin : mg "min" = none) (hmax : mg "max" = none) (hrange : mg "range" = none) :
    FnOk P w K mg base CX0 1 f fd ["pairs", "many", "guest"] spKnownL := by
  refine F.ok sc_lknownL (fun vs H Q E h => ?_) (fun cdv A outer s H vs Q E hr h => ?_)
  · obtain ⟨q, n, g, E, rfl, _⟩ := h
    rfl
  · obtain ⟨q, n, g, E, rfl, hP, wf, n20, hg, k⟩ := h
    refine ⟨_, pss_one (ps_ret (pe_lc (own := [("other", 3)]) (g := gName 3)
      (tt := tTest (tOp (rInD K) (tTup (tCons _ (tCons _ tNil))) (tVar 0))) rfl sc_lknownL.nd (pi_range1 (by rfl) hrange (pa_cons (pv 1) pa_nil))
      (blkOk_by (own := [("other", 3)]) (N := ["pairs", "many", "guest", "other"]) (sc := defScope st_l_known) (by decide +kernel)) (fun _ _ _ _ _ => pg_name (i := 3) sc_lknownL.nd rfl (Or.inl rfl))
      (fun _ _ _ _ _ => pts_one (pt_cmpR (op_inD (hu65 hr)) (pe_tup (pa_cons (pe_callB (call_min2 rfl) (by rfl) hmin (by decide +kernel) (pa_cons (pv 2) (pa_cons (pv 3) pa_nil)))
        (pa_cons (pe_callB (call_max2 rfl) (by rfl) hmax (by decide +kernel) (pa_cons (pv 2) (pa_cons (pv 3) pa_nil))) pa_nil))) (pv 0) (by rfl))) (fun _ _ _ _ _ => pv 3))), ?_⟩
    refine ⟨_, rfl, _, rfl, by omega, by omega, fun D hD => ?_⟩
    refine lc_range (lo := 0) (n := n) (fun i H' => Same H H' ∧ H' D = some (.lst (iV ((List.range i).filter (oth true E g))))) ⟨same_new _ hD, upd_same⟩ ?_ (fun H1 h1 => k H1 D h1.1 hD h1.2)
    rintro i H1 hi ⟨s1, h1⟩
    rw [Int.zero_add]
    refine ⟨rfl, _, rfl, _, rfl, _, _, rfl, _, rfl, _, rfl, _, _, rfl, (by show 2 ≤ sizeLine; decide), fun t ht => ?_⟩
    rw [min_py, max_py]
    have st := same_new (.tup [V.int ((min g i : Nat) : Int), V.int ((max g i : Nat) : Int)]) ht
    have p1 := (hP.same s1).same st
    have tv : PairV (upd H1 t (.tup [V.int ((min g i : Nat) : Int), V.int ((max g i : Nat) : Int)])) (.ref t) (nrm g i) := ⟨t, rfl, upd_same⟩
    refine ⟨_, rfl, pD (nrm g i), E.map pD, tv.dp, p1.dp, pD_shaped _, pDs_shaped _, _, rfl, ?_⟩
    rw [any_pD]
    refine ite2 (fun c => ?_) (fun c => ?_)
    · refine ⟨_, rfl, _, st _ _ h1, iV_line (by omega), same_keepNew (s1.trans st) hD (Keep.put D _), ?_⟩
      rw [upd_same, filter_yes (by rw [oth_known wf]; exact c), iV_snoc]
    · refine ⟨s1.trans st, ?_⟩
      rw [filter_no (by rw [oth_known wf]; exact c)]
      exact st _ _ h1
end
end KT

/-! law 01 -/
namespace KT
open PySem PySem.Spec PyProof.Rows L2
structure Sep (hs ps q0 : Addr) (d l : Nat → Addr) : Prop where
  dd : d 0 ≠ d 1
  ll : l 0 ≠ l 1
  l1 : ∀ k, k < 2 → l k ≠ hs
  l2 : ∀ k, k < 2 → l k ≠ ps
  l3 : ∀ k, k < 2 → l k ≠ q0
structure TwoI (C : Addr) (H : Hp) (n : Nat) (hs ps : Addr) (h d l : Nat → Addr) (L E : Nat → List Pr) : Prop where
  hs : H hs = some (.lst [.ref (h 0), .ref (h 1)])
  ps : H ps = some (.lst [.ref (l 0), .ref (l 1)])
  hall : ∀ k, k < 2 → HallAt C H (h k) n (d k) (L k)
  par : ∀ k, k < 2 → PairsAt H (l k) (E k)
  wf : ∀ k, k < 2 → WF n (E k)
  eqv : ∀ k, k < 2 → Eqv (L k) (E k)
theorem TwoI.same {C : Addr} {H H' : Hp} {n : Nat} {hs ps : Addr} {h d l : Nat → Addr} {L E : Nat → List Pr} (t : TwoI C H n hs ps h d l L E) (s : Same H H') : TwoI C H' n hs ps h d l L E :=
  ⟨s _ _ t.hs, s _ _ t.ps, fun k hk => (t.hall k hk).same s, fun k hk => (t.par k hk).same s, t.wf, t.eqv⟩
theorem two_at {f : Nat → Addr} {k : Nat} (hk : k < 2) : [V.ref (f 0), V.ref (f 1)][k]? = some (V.ref (f k)) := by
  match k, hk with
  | 0, _ => rfl
  | 1, _ => rfl
def put (f : Nat → List Pr) (at_ : Nat) (x : List Pr) (k : Nat) : List Pr := if k = at_ then x else f k
theorem sep_ne {f : Nat → Addr} (h : f 0 ≠ f 1) {j k : Nat} (hj : j < 2) (hk : k < 2) (n : k ≠ j) : f k ≠ f j := by
  match j, k, hj, hk with
  | 0, 1, _, _ => exact h.symm
  | 1, 0, _, _ => exact h
  | 0, 0, _, _ => exact absurd rfl n
  | 1, 1, _, _ => exact absurd rfl n
/-- a deed on both -/
theorem TwoI.deed {C : Addr} {H H1 H2 : Hp} {n : Nat} {hs ps q0 : Addr} {h d l : Nat → Addr} {L E : Nat → List Pr} {at_ : Nat} {L' E' : List Pr} (t : TwoI C H n hs ps h d l L E) (sp : Sep hs ps q0 d l) (ha : at_ < 2)
    (k1 : Keep [l at_] H H1) (p1 : PairsAt H1 (l at_) E') (k2 : Keep [d at_] H1 H2) (p2 : HallAt C H2 (h at_) n (d at_) L') (wf : WF n E') (ev : Eqv L' E') :
    TwoI C H2 n hs ps h d l (put L at_ L') (put E at_ E') := by
  obtain ⟨xs, hx, _⟩ := (t.par at_ ha).ex
  have hd := (t.hall at_ ha).dic
  have hd1 := k1.at1 (ne_of hd hx (fun z => nomatch z)) hd
  have tupH : ∀ b ∈ [l at_], ∀ ys, H b ≠ some (.tup ys) := fun b hb ys e => by
    rw [List.mem_singleton.mp hb, hx] at e
    cases e
  have tupH1 : ∀ b ∈ [d at_], ∀ ys, H1 b ≠ some (.tup ys) := fun b hb ys e => by
    rw [List.mem_singleton.mp hb, hd1] at e
    cases e
  have keepL : ∀ (a : Addr) (ys : List V), a ≠ l at_ → H a = some (.lst ys) → H2 a = some (.lst ys) := fun a ys na e => by
    have e1 := k1.at1 na e
    exact k2.at1 (ne_of e1 hd1 (fun z => nomatch z)) e1
  refine ⟨keepL _ _ (sp.l1 _ ha).symm t.hs, keepL _ _ (sp.l2 _ ha).symm t.ps, fun k hk => ?_, fun k hk => ?_, fun k hk => ?_, fun k hk => ?_⟩
  · unfold put
    by_cases e : k = at_
    · subst e
      rw [if_pos rfl]
      exact p2
    · rw [if_neg e]
      have hk0 := t.hall k hk
      obtain ⟨dx, hi⟩ := hk0.ins
      have hk1 := hk0.keep k1 (by simpa using ne_of hi hx (fun z => nomatch z)) (by simpa using ne_of hk0.dic hx (fun z => nomatch z))
      obtain ⟨dx1, hi1⟩ := hk1.ins
      exact hk1.keep k2 (by simpa using ne_of hi1 hd1 (fun z => nomatch z)) (by simpa using sep_ne sp.dd ha hk e)
  · unfold put
    by_cases e : k = at_
    · subst e
      rw [if_pos rfl]
      obtain ⟨ys, hy, _⟩ := p1.ex
      exact p1.keep k2 (by simpa using ne_of hy hd1 (fun z => nomatch z)) tupH1
    · rw [if_neg e]
      have q1 := (t.par k hk).keep k1 (by simpa using sep_ne sp.ll ha hk e) tupH
      obtain ⟨ys, hy, _⟩ := q1.ex
      exact q1.keep k2 (by simpa using ne_of hy hd1 (fun z => nomatch z)) tupH1
  · unfold put
    by_cases e : k = at_
    · rw [if_pos e]
      exact wf
    · rw [if_neg e]
      exact t.wf k hk
  · unfold put
    by_cases e : k = at_
    · rw [if_pos e, if_pos e]
      exact ev
    · rw [if_neg e, if_neg e]
      exact t.eqv k hk
theorem ty_val {K : PySem.W.Frag} {H : Hp} {v : V} (h : v = .non ∨ ∃ b, v = .bl b) : ∃ t b, TyX K H v t ∧ PySem.W.kitOne K t (.type "bool") = some b := by
  rcases h with rfl | ⟨b, rfl⟩
  · exact ⟨_, false, .base .non, kit_ty (by decide +kernel)⟩
  · exact ⟨_, true, .base (.bl b), kit_ty (by decide +kernel)⟩
theorem scal_val {v : V} (h : v = .non ∨ ∃ b, v = .bl b) : scal v v = true := by
  rcases h with rfl | ⟨b, rfl⟩ <;> rfl
section
variable {P : Program} {w : World} {K : PySem.W.Frag} {mg : Str → Option Value} {base : Heap} {C cNG cSG cKA cST cBH cNT cHE : Addr}
theorem sc_law : FnScope ["script", "many", "far", "bad", "halls", "pairs", "cell", "at", "one", "other", "due", "found", "guest", "k"] ["script"] (defScope st_law) := ⟨rfl, rfl, rfl, by decide +kernel, rfl, by decide +kernel, by decide +kernel⟩
theorem ok_law {f : Addr} {fd : FuncData} (F : Fun K "law" "law" st_law f fd) (T : HT K mg C cNG cSG cKA cST cBH) (his : mg "isinstance" = none) (hbool : mg "bool" = none)
    (mkH : MakD P w K mg base (L2N.CX P w) C 1 "Hall" (spInit C cBH)) (mKn : MetD P w K mg base (L2N.CX P w) C 4 "known" (spOthers true C cNG))
    (cC : CalD P w K mg base CX0 1 "_law_cell_at" (spCell K)) (cX : CalD P w K mg base CX0 5 "_law_no_hall" spNoHall) (cDue : CalD P w K mg base CX0 1 "_law_due" spDue) (cDid : CalD P w K mg base CX0 5 "_law_did" (spDid C))
    (cN : CalD P w K mg base CX0 2 "_law_numbers" spNumbers) (cK : CalD P w K mg base CX0 1 "_law_known" spKnownL) (cS : CalD P w K mg base CX0 5 "_law_same" (spSame C)) :
    FnOk P w K mg base CX0 6 f fd ["script"] (spLaw K) := by
  refine F.ok sc_law (fun vs H Q E h => ?_) (fun cdv A outer s H vs Q E hr h => ?_)
  · obtain ⟨a, ns, rfl, _⟩ := h
    rfl
  · obtain ⟨a, ns, rfl, hS, h63, q⟩ := h
    refine ⟨_, pss_cons (ps_set (i := 1) sc_law.nd rfl (Or.inl rfl) (pe_op op_add pe_int (pe_op op_mod (pc cC hr pass0 (pa_cons (pv 0) (pa_cons pe_int pa_nil))) pe_int)))
      (pss_cons (ps_set (i := 2) sc_law.nd rfl (Or.inl rfl) (pe_op op_mod (pc cC hr pass0 (pa_cons (pv 0) (pa_cons pe_int pa_nil))) pe_int))
      (pss_cons (ps_for PassesOwn.never rfl (pi_list (pe_lst (pa_cons pe_int (pa_cons pe_int (pa_cons (pe_op op_sub (pe_un un_neg pe_int) (pv 2)) (pa_cons (pe_op op_add pe_int (pv 2)) pa_nil)))))) (pg_name (i := 3) sc_law.nd rfl (Or.inl rfl))
        (pss_one (ps_if (pt_not (pt_val (pc cX hr pass0 (pa_cons (pv 3) pa_nil)))) (pss_one (ps_ret pe_bl)) pss_nil)))
      (pss_cons (ps_set (i := 4) sc_law.nd rfl (Or.inl rfl) (pe_lst (pa_cons (pk mkH hr passN (pa_cons (pv 1) pa_nil)) (pa_cons (pk mkH hr passN (pa_cons (pv 1) pa_nil)) pa_nil))))
      (pss_cons (ps_set (i := 5) sc_law.nd rfl (Or.inl rfl) (pe_lst (pa_cons (pe_lst pa_nil) (pa_cons (pe_lst pa_nil) pa_nil))))
      (pss_cons (ps_for PassesOwn.never rfl (pi_list (pe_slice sl_list (pv 0) (po_some pe_int) po_none)) (pg_name (i := 6) sc_law.nd rfl (Or.inl rfl))
        (pss_cons (ps_set (i := 7) sc_law.nd rfl (Or.inl rfl) (pe_op op_mod (pe_op op_fdiv (pv 6) pe_int) pe_int))
        (pss_cons (ps_set (i := 8) sc_law.nd rfl (Or.inl rfl) (pe_op op_sub (pe_op op_mod (pe_op op_fdiv (pv 6) pe_int) (pe_op op_add (pv 1) pe_int)) pe_int))
        (pss_cons (ps_set (i := 9) sc_law.nd rfl (Or.inl rfl) (pe_op op_sub (pe_op op_mod (pe_op op_fdiv (pv 6) pe_int) (pe_op op_add (pv 1) pe_int)) pe_int))
        (pss_cons (ps_join (ps_if (pt_cmpR op_eq (pe_op op_mod (pe_op op_fdiv (pv 6) pe_int) pe_int) pe_int (nomark _))
          (pss_one (ps_set (i := 9) sc_law.nd rfl (Or.inl rfl) (pe_ix ix_list (pe_lst (pa_cons (pv 8) (pa_cons (pe_op op_add (pv 1) (pe_op op_mod (pe_op op_fdiv (pv 6) pe_int) pe_int)) (pa_cons (pe_op op_sub (pe_un un_neg pe_int) (pe_op op_mod (pe_op op_fdiv (pv 6) pe_int) pe_int)) pa_nil))))
            (pe_op op_mod (pe_op op_fdiv (pv 6) pe_int) pe_int) (fun _ _ => rfl)))) pss_nil))
        (pss_cons (ps_set (i := 10) sc_law.nd rfl (Or.inl rfl) (pc cDue hr pass0 (pa_cons (pe_ix ix_list (pv 5) (pv 7) (fun _ _ => rfl)) (pa_cons (pv 1) (pa_cons (pe_op op_mod (pv 6) pe_int) (pa_cons (pv 8) (pa_cons (pv 9) pa_nil)))))))
        (pss_cons (ps_set (i := 11) sc_law.nd rfl (Or.inl rfl) (pc cDid hr pass0 (pa_cons (pe_ix ix_list (pv 4) (pv 7) (fun _ _ => rfl)) (pa_cons (pe_op op_mod (pv 6) pe_int) (pa_cons (pv 8) (pa_cons (pv 9) pa_nil))))))
        (pss_cons (ps_if (PW.pt (pw_or (pt_cmpR (op_neD hr.units) (pe_ix ix_tup (pv 11) pe_int (fun _ _ => rfl)) (pe_ix ix_tup (pv 10) pe_int (fun _ _ => rfl)) (nomark _)) (pw_or1 (pt_cmpR op_ne (pe_ix ix_tup (pv 11) pe_int (fun _ _ => rfl)) (pe_ix ix_tup (pv 10) pe_int (fun _ _ => rfl)) (nomark _)))))
          (pss_one (ps_ret pe_bl)) pss_nil)
        (pss_cons (ps_if (pt_cmpR op_ne (pe_callB call_isi (by rfl) his (by decide +kernel) (pa_cons (pe_ix ix_tup (pv 11) pe_int (fun _ _ => rfl)) (pa_cons (pe_bltn (v := .ty "bool") (by rfl) hbool (by decide +kernel) rfl) pa_nil)))
            (pe_callB call_isi (by rfl) his (by decide +kernel) (pa_cons (pe_ix ix_tup (pv 10) pe_int (fun _ _ => rfl)) (pa_cons (pe_bltn (v := .ty "bool") (by rfl) hbool (by decide +kernel) rfl) pa_nil))) (nomark _)) (pss_one (ps_ret pe_bl)) pss_nil)
        (pss_cons (ps_set (i := 12) sc_law.nd rfl (Or.inl rfl) (pe_callB (call_min2 rfl) (by rfl) T.min (by decide +kernel) (pa_cons (pe_callB (call_max2 rfl) (by rfl) T.max (by decide +kernel) (pa_cons pe_int (pa_cons (pv 8) pa_nil))) (pa_cons (pe_op op_sub (pv 1) pe_int) pa_nil))))
        (pss_one (ps_for PassesOwn.never rfl (pi_range1 (by rfl) T.range (pa_cons pe_int pa_nil)) (pg_name (i := 13) sc_law.nd rfl (Or.inl rfl))
          (pss_one (ps_if (pt_not (pt_val (pc cN hr pass0 (pa_cons (pm (pe_ix ix_list (pv 4) (pv 13) (fun _ _ => rfl)) T.cl mKn hr passN (pa_cons (pv 12) pa_nil)) (pa_cons (pc cK hr pass0 (pa_cons (pe_ix ix_list (pv 5) (pv 13) (fun _ _ => rfl)) (pa_cons (pv 1) (pa_cons (pv 12) pa_nil)))) pa_nil)))))
            (pss_one (ps_ret pe_bl)) pss_nil))))))))))))))
      (pss_one (ps_ret (pe_and (pc cS hr pass0 (pa_cons (pe_ix ix_list (pv 4) pe_int (fun _ _ => rfl)) (pa_cons (pe_ix ix_list (pv 5) pe_int (fun _ _ => rfl)) (pa_cons (pv 1) pa_nil))))
        (pe_one (pc cS hr pass0 (pa_cons (pe_ix ix_list (pv 4) pe_int (fun _ _ => rfl)) (pa_cons (pe_ix ix_list (pv 5) pe_int (fun _ _ => rfl)) (pa_cons (pv 1) pa_nil))))))))))))), ?_⟩
    refine ⟨_, rfl, a, ns, 0, rfl, hS, _, _, rfl, rfl, (by show (0 : Int) < 20; decide), _, _, rfl, rfl, ?_⟩
    have f1 : 0 ≤ ns.getD 0 0 % 20 := Int.emod_nonneg _ (by decide)
    have f2 : ns.getD 0 0 % 20 < 20 := Int.emod_lt_of_pos _ (by decide)
    obtain ⟨n, en⟩ : ∃ n : Nat, 1 + ns.getD 0 0 % 20 = (n : Int) := ⟨(1 + ns.getD 0 0 % 20).toNat, (Int.toNat_of_nonneg (by omega)).symm⟩
    have n1 : 1 ≤ n := by omega
    have n20 : n ≤ 20 := by omega
    dsimp only
    rw [en]
    refine ⟨_, rfl, a, ns, 1, rfl, hS, _, _, rfl, rfl, (by show (0 : Int) < 1000; decide), ?_⟩
    have f3 : 0 ≤ ns.getD 1 0 % 1000 := Int.emod_nonneg _ (by decide)
    dsimp only
    generalize ns.getD 1 0 % 1000 = far at f3
    refine ⟨_, rfl, _, rfl, _, _, rfl, rfl, _, rfl, _, _, rfl, rfl, (by show 4 ≤ sizeLine; decide), fun b0 nb0 => ?_⟩
    have s0 := same_new (.lst [V.int 0, V.int 21, V.int (-1 - far), V.int (21 + far)]) nb0
    refine ⟨b0, rfl, ⟨_, SqL.of upd_same⟩, for_list (K := K) (a := b0) (xs := [V.int 0, V.int 21, V.int (-1 - far), V.int (21 + far)])
      (fun i σ H' => ∃ v, σ = [some (.ref a), some (.int (n : Int)), some (.int far), v, none, none, none, none, none, none, none, none, none, none] ∧ Same (upd H b0 (.lst [V.int 0, V.int 21, V.int (-1 - far), V.int (21 + far)])) H') ⟨none, rfl, Same.refl _⟩ (fun i σ H' _ ⟨_, _, s⟩ => SqL.of (s _ _ upd_same)) ?_ ?_⟩
    · rintro i v σ H1 hi ⟨v3, rfl, s1⟩
      have hz : ∃ z : Int, v = V.int z ∧ ¬ (1 ≤ z ∧ z ≤ 20) := by
        match i, hi with
        | 0, hi => exact ⟨_, (Option.some.inj hi).symm, by omega⟩
        | 1, hi => exact ⟨_, (Option.some.inj hi).symm, by omega⟩
        | 2, hi => exact ⟨_, (Option.some.inj hi).symm, by omega⟩
        | 3, hi => exact ⟨_, (Option.some.inj hi).symm, by omega⟩
        | i + 4, hi => exact absurd hi (by simp)
      obtain ⟨z, rfl, ng⟩ := hz
      exact ⟨_, rfl, z, rfl, ng, fun H2 s2 => ⟨true, rfl, iteF ⟨_, rfl, s1.trans s2⟩⟩⟩
    · rintro σ H1 ⟨v3, rfl, s1⟩
      have S1 := s0.trans s1
      refine ⟨_, rfl, make_hall (z := (n : Int)) (fun b => absurd ⟨by omega, by omega⟩ b) ?_⟩
      intro n' en' _ _ H2 h0 d0 nh0 nd0 s2 hall0
      have en' : n = n' := by omega
      subst en'
      refine ⟨_, rfl, make_hall (z := (n : Int)) (fun b => absurd ⟨by omega, by omega⟩ b) ?_⟩
      intro n' en' _ _ H3 h1 d1 nh1 nd1 s3 hall1
      have en' : n = n' := by omega
      subst en'
      refine ⟨(by show 2 ≤ sizeLine; decide), fun hs nhs => ?_⟩
      have s4 := same_new (.lst [V.ref h0, V.ref h1]) nhs
      have hhs : upd H3 hs (.lst [V.ref h0, V.ref h1]) hs = some (.lst [V.ref h0, V.ref h1]) := upd_same
      generalize upd H3 hs (.lst [V.ref h0, V.ref h1]) = H4 at s4 hhs
      refine ⟨Nat.zero_le _, fun l0 nl0 => ?_⟩
      have s5 := same_new (.lst []) nl0
      have hl0 : upd H4 l0 (.lst []) l0 = some (.lst []) := upd_same
      generalize upd H4 l0 (.lst []) = H5 at s5 hl0
      refine ⟨Nat.zero_le _, fun l1 nl1 => ?_⟩
      have s6 := same_new (.lst []) nl1
      have hl1 : upd H5 l1 (.lst []) l1 = some (.lst []) := upd_same
      generalize upd H5 l1 (.lst []) = H6 at s6 hl1
      refine ⟨(by show 2 ≤ sizeLine; decide), fun ps nps => ?_⟩
      have s7 := same_new (.lst [V.ref l0, V.ref l1]) nps
      have hps : upd H6 ps (.lst [V.ref l0, V.ref l1]) ps = some (.lst [V.ref l0, V.ref l1]) := upd_same
      generalize upd H6 ps (.lst [V.ref l0, V.ref l1]) = H7 at s7 hps
      have S7 : Same H H7 := S1.trans (s2.trans (s3.trans (s4.trans (s5.trans (s6.trans s7)))))
      refine ⟨_, rfl, _, rfl, a, _, rfl, S7.seq hS, fun q0 nq0 => ?_⟩
      obtain ⟨zs, ez⟩ : ∃ zs : List Int, cutV (ns.map V.int) (some 2) none = zs.map V.int := by
        unfold cutV
        rw [← List.map_drop, ← List.map_take]
        exact ⟨_, rfl⟩
      rw [ez]
      have s8 := same_new (.lst (zs.map V.int)) nq0
      have hq8 : upd H7 q0 (.lst (zs.map V.int)) q0 = some (.lst (zs.map V.int)) := upd_same
      have t8 : TwoI C (upd H7 q0 (.lst (zs.map V.int))) n hs ps (fun k => if k = 0 then h0 else h1) (fun k => if k = 0 then d0 else d1) (fun k => if k = 0 then l0 else l1) (fun _ => []) (fun _ => []) := by
        have S38 := s4.trans (s5.trans (s6.trans (s7.trans s8)))
        have S48 := s5.trans (s6.trans (s7.trans s8))
        refine ⟨S48 _ _ hhs, s8 _ _ hps, fun k hk => ?_, fun k hk => ?_, fun k hk => WF.nil n, fun k hk => Eqv.refl _⟩
        · match k, hk with
          | 0, _ => exact hall0.same (s3.trans S38)
          | 1, _ => exact hall1.same S38
        · match k, hk with
          | 0, _ => exact ⟨[], (s6.trans (s7.trans s8)) _ _ hl0, .nil⟩
          | 1, _ => exact ⟨[], (s7.trans s8) _ _ hl1, .nil⟩
      have sp : Sep hs ps q0 (fun k => if k = 0 then d0 else d1) (fun k => if k = 0 then l0 else l1) := by
        have a1 : hs ≠ l0 := ne_of_none hhs nl0
        have a2 : hs ≠ l1 := ne_of_none (s5 _ _ hhs) nl1
        have a3 : l0 ≠ l1 := ne_of_none hl0 nl1
        have a4 : l0 ≠ ps := ne_of_none (s6 _ _ hl0) nps
        have a5 : l1 ≠ ps := ne_of_none hl1 nps
        have a6 : l0 ≠ q0 := ne_of_none ((s6.trans s7) _ _ hl0) nq0
        have a7 : l1 ≠ q0 := ne_of_none (s7 _ _ hl1) nq0
        have a8 : d0 ≠ d1 := ne_of_none hall0.dic nd1
        refine ⟨a8, a3, fun k hk => ?_, fun k hk => ?_, fun k hk => ?_⟩
        · match k, hk with
          | 0, _ => exact a1.symm
          | 1, _ => exact a2.symm
        · match k, hk with
          | 0, _ => exact a4
          | 1, _ => exact a5
        · match k, hk with
          | 0, _ => exact a6
          | 1, _ => exact a7
      generalize upd H7 q0 (.lst (zs.map V.int)) = H8 at t8 hq8
      generalize (fun k => if k = 0 then h0 else h1) = h at t8
      generalize (fun k => if k = 0 then d0 else d1) = d at t8 sp
      generalize (fun k => if k = 0 then l0 else l1) = l at t8 sp
      refine ⟨q0, rfl, ⟨_, SqL.of hq8⟩, for_list (K := K) (a := q0) (xs := zs.map V.int)
        (fun i σ H' => ∃ (v6 v7 v8 v9 v10 v11 v12 v13 : Option V) (L E : Nat → List Pr), σ = [some (.ref a), some (.int (n : Int)), some (.int far), v3, some (.ref hs), some (.ref ps), v6, v7, v8, v9, v10, v11, v12, v13] ∧ TwoI C H' n hs ps h d l L E ∧ H' q0 = some (.lst (zs.map V.int)))
        ⟨none, none, none, none, none, none, none, none, _, _, rfl, t8, hq8⟩ (fun i σ H' _ ⟨_, _, _, _, _, _, _, _, _, _, _, _, e⟩ => SqL.of e) ?_ ?_⟩
      · rintro i v σ H9 hi ⟨v6, v7, v8, v9, v10, v11, v12, v13, L, E, rfl, t9, hq9⟩
        obtain ⟨z, rfl⟩ : ∃ z : Int, v = V.int z := by
          rw [List.getElem?_map] at hi
          cases e : zs[i]? with
          | none =>
            rw [e] at hi
            cases hi
          | some z =>
            rw [e] at hi
            exact ⟨z, (Option.some.inj hi).symm⟩
        refine ⟨_, rfl, _, _, rfl, rfl, ⟨by decide, by decide⟩, _, _, rfl, rfl, (by show (0 : Int) < 2; decide), ?_⟩
        have g1 : 0 ≤ z / 4 % 2 := Int.emod_nonneg _ (by decide)
        have g2 : z / 4 % 2 < 2 := Int.emod_lt_of_pos _ (by decide)
        obtain ⟨at_, ea⟩ : ∃ m : Nat, z / 4 % 2 = (m : Int) := ⟨_, (Int.toNat_of_nonneg g1).symm⟩
        have ha : at_ < 2 := by omega
        dsimp only
        rw [ea]
        refine ⟨_, rfl, _, _, rfl, rfl, ⟨by decide, by decide⟩, _, rfl, _, _, rfl, rfl, _, _, rfl, rfl, (by show (0 : Int) < (n : Int) + 2; omega), _, _, rfl, rfl, ?_⟩
        dsimp only
        generalize z / 8 % ((n : Int) + 2) - 1 = y
        refine ⟨_, rfl, _, _, rfl, rfl, ⟨by decide, by decide⟩, _, rfl, _, _, rfl, rfl, _, _, rfl, rfl, (by show (0 : Int) < (n : Int) + 2; omega), _, _, rfl, rfl, ?_⟩
        dsimp only
        generalize z / 256 % ((n : Int) + 2) - 1 = u0
        refine ⟨fun σ' H' => ∃ u : Int, σ' = [some (.ref a), some (.int (n : Int)), some (.int far), v3, some (.ref hs), some (.ref ps), some (.int z), some (.int (at_ : Int)), some (.int y), some (.int u), v10, v11, v12, v13] ∧ Same H9 H', ?_, ?_⟩
        · refine ⟨_, rfl, _, _, rfl, rfl, ⟨by decide, by decide⟩, _, _, rfl, rfl, (by show (0 : Int) < 9; decide), rfl, _, rfl, ite2 (fun c => ?_) (fun c => ⟨u0, rfl, Same.refl _⟩)⟩
          refine ⟨_, rfl, _, rfl, _, rfl, _, _, rfl, rfl, ⟨by decide, by decide⟩, _, _, rfl, rfl, (by show (0 : Int) < 99; decide), _, _, rfl, rfl, _, rfl, _, rfl, _, _, rfl, rfl, ⟨by decide, by decide⟩, _, _, rfl, rfl, (by show (0 : Int) < 99; decide), _, _, rfl, rfl, (by show 3 ≤ sizeLine; decide), fun m0 nm0 => ?_⟩
          dsimp only
          generalize (n : Int) + z / 99999 % 99 = w1
          generalize -1 - z / 99999 % 99 = w2
          have sm := same_new (.lst [V.int y, V.int w1, V.int w2]) nm0
          refine ⟨_, rfl, _, _, rfl, rfl, ⟨by decide, by decide⟩, _, _, rfl, rfl, (by show (0 : Int) < 3; decide), ?_⟩
          have k1 : 0 ≤ z / 73728 % 3 := Int.emod_nonneg _ (by decide)
          have k2 : z / 73728 % 3 < 3 := Int.emod_lt_of_pos _ (by decide)
          obtain ⟨m, em⟩ : ∃ m : Nat, z / 73728 % 3 = (m : Int) := ⟨_, (Int.toNat_of_nonneg k1).symm⟩
          dsimp only
          rw [em]
          obtain ⟨u, eu⟩ : ∃ u : Int, [V.int y, V.int w1, V.int w2][m]? = some (V.int u) := by
            match m, (show m < 3 by omega) with
            | 0, _ => exact ⟨_, rfl⟩
            | 1, _ => exact ⟨_, rfl⟩
            | 2, _ => exact ⟨_, rfl⟩
          exact ⟨m0, _, _, _, rfl, rfl, SqL.of upd_same, atI_nat eu, u, rfl, sm⟩
        rintro σ' H10 ⟨u, rfl, s10⟩
        have t10 := t9.same s10
        have hq10 := s10 _ _ hq9
        refine ⟨_, rfl, _, rfl, ps, _, _, _, rfl, rfl, SqL.of t10.ps, atI_nat (two_at ha), _, rfl, _, rfl, _, _, rfl, rfl, (by show (0 : Int) < 4; decide), _, rfl, _, rfl, ?_⟩
        refine ⟨l at_, n, E at_, z % 4, y, u, rfl, t10.par at_ ha, t10.wf at_ ha, n20, fun H11 t1 m1 k11 p11 ht1 hm1 nm1 => ?_⟩
        have hs11 : H11 hs = some (.lst [.ref (h 0), .ref (h 1)]) := k11.at1 (sp.l1 _ ha).symm t10.hs
        obtain ⟨pxs, hpx, _⟩ := (t10.par at_ ha).ex
        have hall11 : HallAt C H11 (h at_) n (d at_) (L at_) := by
          have hh := t10.hall at_ ha
          obtain ⟨dx, hi⟩ := hh.ins
          exact hh.keep k11 (by simpa using ne_of hi hpx (fun z => nomatch z)) (by simpa using ne_of hh.dic hpx (fun z => nomatch z))
        refine ⟨_, rfl, _, rfl, hs, _, _, _, rfl, rfl, SqL.of hs11, atI_nat (two_at ha), _, rfl, _, _, rfl, rfl, (by show (0 : Int) < 4; decide), _, rfl, _, rfl, ?_⟩
        refine ⟨h at_, d at_, n, L at_, z % 4, y, u, rfl, hall11, fun H12 t2 m2 k12 hall12 ht2 hm2 => ?_⟩
        obtain ⟨ov, om, oe⟩ := outc_eqv (n := n) (k := z % 4) (y := y) (z := u) (t10.eqv at_ ha) (t10.hall at_ ha).wf.1 (t10.wf at_ ha).1
        have t12 : TwoI C H12 n hs ps h d l (put L at_ (outc n (L at_) (z % 4) y u).2.2) (put E at_ (outc n (E at_) (z % 4) y u).2.2) :=
          t10.deed sp ha k11 p11 k12 hall12 (outc_wf (t10.wf at_ ha)) oe
        have hd11 := hall11.dic
        have ht1' : H12 t1 = some (.tup [(outc n (E at_) (z % 4) y u).1, .ref m1]) := k12.at1 (ne_of ht1 hd11 (fun z => nomatch z)) ht1
        have hm1' : H12 m1 = some (.lst (bV (outc n (E at_) (z % 4) y u).2.1)) := k12.at1 (ne_of hm1 hd11 (fun z => nomatch z)) hm1
        have hq12 : H12 q0 = some (.lst (zs.map V.int)) := by
          have e1 := k11.at1 (sp.l3 _ ha).symm hq10
          exact k12.at1 (ne_of e1 hd11 (fun z => nomatch z)) e1
        have val : (outc n (L at_) (z % 4) y u).1 = .non ∨ ∃ b, (outc n (L at_) (z % 4) y u).1 = .bl b := outc_val
        rw [← ov] at ht1'
        rw [← om] at hm1'
        generalize (outc n (L at_) (z % 4) y u).1 = vv at *
        generalize (outc n (L at_) (z % 4) y u).2.1 = mm at *
        refine ⟨_, rfl, t2, _, _, _, rfl, rfl, SqT.of ht2, atI_nat (j := 1) rfl, _, rfl, t1, _, _, _, rfl, rfl, SqT.of ht1', atI_nat (j := 1) rfl, ?_⟩
        refine ⟨bD mm, bD mm, bD_dp (SqL.of hm2), bD_dp (SqL.of hm1'), bD_shaped _, bD_shaped _, _, rfl, ?_⟩
        rw [bD_refl]
        refine iteF ?_
        refine ⟨_, rfl, t2, _, _, _, rfl, rfl, SqT.of ht2, atI_nat (j := 0) rfl, _, rfl, t1, _, _, _, rfl, rfl, SqT.of ht1', atI_nat (j := 0) rfl, scal_val val, _, rfl, iteNS rfl ?_⟩
        obtain ⟨tt, tb, ty, tk⟩ := ty_val (K := K) (H := H12) val
        refine ⟨_, rfl, t2, _, _, _, rfl, rfl, SqT.of ht2, atI_nat (j := 0) rfl, _, _, _, _, tb, rfl, .ty "bool", ty, tk, ?_⟩
        refine ⟨_, rfl, t1, _, _, _, rfl, rfl, SqT.of ht1', atI_nat (j := 0) rfl, _, _, _, _, tb, rfl, .ty "bool", ty, tk, rfl, _, rfl, iteNS rfl ?_⟩
        refine ⟨_, rfl, _, _, rfl, _, rfl, _, _, rfl, rfl, _, _, rfl, ?_⟩
        obtain ⟨g, eg, hg⟩ : ∃ g : Nat, (if (n : Int) - 1 < (if y > 0 then y else 0) then (n : Int) - 1 else (if y > 0 then y else 0)) = (g : Int) ∧ g < n := by
          by_cases c1 : y > 0
          · rw [if_pos c1]
            by_cases c2 : (n : Int) - 1 < y
            · rw [if_pos c2]
              exact ⟨n - 1, by omega, by omega⟩
            · rw [if_neg c2]
              exact ⟨y.toNat, by omega, by omega⟩
          · rw [if_neg c1]
            by_cases c2 : (n : Int) - 1 < 0
            · rw [if_pos c2]
              omega
            · rw [if_neg c2]
              exact ⟨0, by omega, by omega⟩
        dsimp only
        rw [eg]
        refine ⟨2, rfl, by decide, by decide, for_range (lo := 0) (n := 2) (fun i σ H' => ∃ v13, σ = [some (.ref a), some (.int (n : Int)), some (.int far), v3, some (.ref hs), some (.ref ps), some (.int z), some (.int (at_ : Int)), some (.int y), some (.int u), some (.ref t1), some (.ref t2), some (.int (g : Int)), v13] ∧ Same H12 H') ⟨_, rfl, Same.refl _⟩ ?_ ?_⟩
        · rintro k σ H13 hk ⟨v13, rfl, s13⟩
          rw [Int.zero_add]
          have t13 := t12.same s13
          refine r_known (p := h k) (i := g) (fun R r => ⟨_, rfl, _, rfl, hs, _, _, _, rfl, rfl, SqL.of t13.hs, atI_nat (two_at hk), r⟩) (rv rfl) (t13.hall k hk) hg fun H14 l5 s5 n5 h5 => ?_
          have t14 := t13.same s5
          rw [others_eqv (t13.eqv k hk)] at h5
          refine ⟨_, rfl, _, rfl, ps, _, _, _, rfl, rfl, SqL.of t14.ps, atI_nat (two_at hk), _, rfl, _, rfl, ?_⟩
          refine ⟨l k, n, g, _, rfl, t14.par k hk, t14.wf k hk, n20, hg, fun H15 l6 s6 n6 h6 => ?_⟩
          exact ⟨l5, l6, _, rfl, s6 _ _ h5, h6, true, rfl, iteF ⟨_, rfl, (s13.trans s5).trans s6⟩⟩
        · rintro σ H13 ⟨v13, rfl, s13⟩
          exact ⟨_, _, _, _, _, _, _, _, _, _, rfl, t12.same s13, s13 _ _ hq12⟩
      · rintro σ H9 ⟨v6, v7, v8, v9, v10, v11, v12, v13, L, E, rfl, t9, hq9⟩
        refine ⟨_, rfl, hs, _, _, _, rfl, rfl, SqL.of t9.hs, atI_nat (j := 0) rfl, _, rfl, ps, _, _, _, rfl, rfl, SqL.of t9.ps, atI_nat (j := 0) rfl, _, rfl, ?_⟩
        refine ⟨h 0, l 0, d 0, n, L 0, E 0, rfl, t9.hall 0 (by decide), t9.par 0 (by decide), t9.wf 0 (by decide), t9.eqv 0 (by decide), fun H10 s10 => ⟨true, rfl, iteT ?_⟩⟩
        have t10 := t9.same s10
        refine ⟨_, rfl, hs, _, _, _, rfl, rfl, SqL.of t10.hs, atI_nat (j := 1) rfl, _, rfl, ps, _, _, _, rfl, rfl, SqL.of t10.ps, atI_nat (j := 1) rfl, _, rfl, ?_⟩
        exact ⟨h 1, l 1, d 1, n, L 1, E 1, rfl, t10.hall 1 (by decide), t10.par 1 (by decide), t10.wf 1 (by decide), t10.eqv 1 (by decide), fun H11 _ => q H11⟩
end
end KT

/-! what the top has written, each def in order -/
namespace KT
open PySem PySem.Spec PyProof.Rows L2
theorem all_mk {P : Program} {w : World} {K : PySem.W.Frag} {h : Heap} {mg : Str → Option Value} {fa C cNG cSG cKA cST cBH cNT cHE f0 f1 f2 f3 f4 f5 f6 f7 f8 f9 f10 f11 f12 f13 f14 f15 f16 f17 f18 : Addr} {tgr : Tok}  (X : K.In h) (G : h.Ns mainGlobals mg) (hfa : mg "law" = some (.ref fa))
    {od0 an0 od1 an1 od2 an2 od3 an3 od4 an4 od5 an5 od6 an6 od7 an7 od8 an8 od9 an9 od10 an10 od11 an11 od12 an12 od13 an13 od14 an14 od15 an15 od16 an16 od17 an17 od18 an18 : Option Addr} {sl0 sl1 sl2 sl3 sl4 sl5 sl6 sl7 sl8 sl9 sl10 sl11 sl12 sl13 sl14 sl15 sl16 sl17 sl18 : Array (Option Value)} {oc0 kV0 dc0 pm0 cd0 ct0 oc1 kV1 dc1 pm1 cd1 ct1 oc2 kV2 dc2 pm2 cd2 ct2 oc3 kV3 dc3 pm3 cd3 ct3 oc4 kV4 dc4 pm4 cd4 ct4 oc5 kV5 dc5 pm5 cd5 ct5 oc6 kV6 dc6 pm6 cd6 ct6 oc7 kV7 dc7 pm7 cd7 ct7 oc8 kV8 dc8 pm8 cd8 ct8 oc9 kV9 dc9 pm9 cd9 ct9 oc10 kV10 dc10 pm10 cd10 ct10 oc11 kV11 dc11 pm11 cd11 ct11 oc12 kV12 dc12 pm12 cd12 ct12 oc13 kV13 dc13 pm13 cd13 ct13 oc14 kV14 dc14 pm14 cd14 ct14 oc15 kV15 dc15 pm15 cd15 ct15 oc16 kV16 dc16 pm16 cd16 ct16 oc17 kV17 dc17 pm17 cd17 ct17 oc18 kV18 dc18 pm18 cd18 ct18 : Value}
    (aC : PySem.W.nsIn K mainGlobals "Hall" = some (some (.ref C)))
    (gcNG : PySem.W.nsIn K mainGlobals "NoGuest" = some (some (.ref cNG)))
    (ecNG : PySem.W.excIn K cNG [.type "ValueError", .type "Exception", .type "BaseException", .type "object"] "ValueError.__new__" = true)
    (kcNG : PySem.W.keepIn K (.ref cNG) = true)
    (bcNG : PySem.W.subIn K (.ref cNG) (.type "BaseException") = some true)
    (tcNG : PySem.W.typeIn K (.ref cNG) = some (.type "type"))
    (gcSG : PySem.W.nsIn K mainGlobals "SameGuest" = some (some (.ref cSG)))
    (ecSG : PySem.W.excIn K cSG [.type "ValueError", .type "Exception", .type "BaseException", .type "object"] "ValueError.__new__" = true)
    (kcSG : PySem.W.keepIn K (.ref cSG) = true)
    (bcSG : PySem.W.subIn K (.ref cSG) (.type "BaseException") = some true)
    (tcSG : PySem.W.typeIn K (.ref cSG) = some (.type "type"))
    (gcKA : PySem.W.nsIn K mainGlobals "KnowAlready" = some (some (.ref cKA)))
    (ecKA : PySem.W.excIn K cKA [.type "ValueError", .type "Exception", .type "BaseException", .type "object"] "ValueError.__new__" = true)
    (kcKA : PySem.W.keepIn K (.ref cKA) = true)
    (bcKA : PySem.W.subIn K (.ref cKA) (.type "BaseException") = some true)
    (tcKA : PySem.W.typeIn K (.ref cKA) = some (.type "type"))
    (gcST : PySem.W.nsIn K mainGlobals "Strangers" = some (some (.ref cST)))
    (ecST : PySem.W.excIn K cST [.type "ValueError", .type "Exception", .type "BaseException", .type "object"] "ValueError.__new__" = true)
    (kcST : PySem.W.keepIn K (.ref cST) = true)
    (bcST : PySem.W.subIn K (.ref cST) (.type "BaseException") = some true)
    (tcST : PySem.W.typeIn K (.ref cST) = some (.type "type"))
    (gcBH : PySem.W.nsIn K mainGlobals "BadHall" = some (some (.ref cBH)))
    (ecBH : PySem.W.excIn K cBH [.type "ValueError", .type "Exception", .type "BaseException", .type "object"] "ValueError.__new__" = true)
    (kcBH : PySem.W.keepIn K (.ref cBH) = true)
    (bcBH : PySem.W.subIn K (.ref cBH) (.type "BaseException") = some true)
    (tcBH : PySem.W.typeIn K (.ref cBH) = some (.type "type"))
    (gr : PySem.W.nsIn K mainGlobals "GREATEST" = some (some (.int 20 tgr)))
    (a0 : PySem.W.findIn K (.ref C) "__init__" = some (some (.ref f0)))
    (i0 : PySem.W.isFn K (.ref f0) = true)
    (l0 : K.lookup f0 = some ⟨oc0, od0, .func (PySem.W.fnOf "__init__" "Hall.__init__" (defArgs st_Hall_init) (defBody st_Hall_init) (defScope st_Hall_init) .none kV0 dc0 pm0 an0 cd0 ct0), sl0⟩)
    (c0 : PySem.W.codeIn K cd0 "Hall.__init__" = true)
    (k0 : PySem.W.keepIn K (.ref f0) = true)
    (a1 : PySem.W.findIn K (.ref C) "many" = some (some (.ref f1)))
    (i1 : PySem.W.isFn K (.ref f1) = true)
    (l1 : K.lookup f1 = some ⟨oc1, od1, .func (PySem.W.fnOf "many" "Hall.many" (defArgs st_Hall_many) (defBody st_Hall_many) (defScope st_Hall_many) .none kV1 dc1 pm1 an1 cd1 ct1), sl1⟩)
    (c1 : PySem.W.codeIn K cd1 "Hall.many" = true)
    (k1 : PySem.W.keepIn K (.ref f1) = true)
    (a2 : PySem.W.findIn K (.ref C) "see" = some (some (.ref f2)))
    (i2 : PySem.W.isFn K (.ref f2) = true)
    (l2 : K.lookup f2 = some ⟨oc2, od2, .func (PySem.W.fnOf "see" "Hall.see" (defArgs st_Hall_see) (defBody st_Hall_see) (defScope st_Hall_see) .none kV2 dc2 pm2 an2 cd2 ct2), sl2⟩)
    (c2 : PySem.W.codeIn K cd2 "Hall.see" = true)
    (k2 : PySem.W.keepIn K (.ref f2) = true)
    (a3 : PySem.W.findIn K (.ref C) "see_two" = some (some (.ref f3)))
    (i3 : PySem.W.isFn K (.ref f3) = true)
    (l3 : K.lookup f3 = some ⟨oc3, od3, .func (PySem.W.fnOf "see_two" "Hall.see_two" (defArgs st_Hall_see_two) (defBody st_Hall_see_two) (defScope st_Hall_see_two) .none kV3 dc3 pm3 an3 cd3 ct3), sl3⟩)
    (c3 : PySem.W.codeIn K cd3 "Hall.see_two" = true)
    (k3 : PySem.W.keepIn K (.ref f3) = true)
    (a4 : PySem.W.findIn K (.ref C) "know" = some (some (.ref f4)))
    (i4 : PySem.W.isFn K (.ref f4) = true)
    (l4 : K.lookup f4 = some ⟨oc4, od4, .func (PySem.W.fnOf "know" "Hall.know" (defArgs st_Hall_know) (defBody st_Hall_know) (defScope st_Hall_know) .none kV4 dc4 pm4 an4 cd4 ct4), sl4⟩)
    (c4 : PySem.W.codeIn K cd4 "Hall.know" = true)
    (k4 : PySem.W.keepIn K (.ref f4) = true)
    (a5 : PySem.W.findIn K (.ref C) "meet" = some (some (.ref f5)))
    (i5 : PySem.W.isFn K (.ref f5) = true)
    (l5 : K.lookup f5 = some ⟨oc5, od5, .func (PySem.W.fnOf "meet" "Hall.meet" (defArgs st_Hall_meet) (defBody st_Hall_meet) (defScope st_Hall_meet) .none kV5 dc5 pm5 an5 cd5 ct5), sl5⟩)
    (c5 : PySem.W.codeIn K cd5 "Hall.meet" = true)
    (k5 : PySem.W.keepIn K (.ref f5) = true)
    (a6 : PySem.W.findIn K (.ref C) "part" = some (some (.ref f6)))
    (i6 : PySem.W.isFn K (.ref f6) = true)
    (l6 : K.lookup f6 = some ⟨oc6, od6, .func (PySem.W.fnOf "part" "Hall.part" (defArgs st_Hall_part) (defBody st_Hall_part) (defScope st_Hall_part) .none kV6 dc6 pm6 an6 cd6 ct6), sl6⟩)
    (c6 : PySem.W.codeIn K cd6 "Hall.part" = true)
    (k6 : PySem.W.keepIn K (.ref f6) = true)
    (a7 : PySem.W.findIn K (.ref C) "known" = some (some (.ref f7)))
    (i7 : PySem.W.isFn K (.ref f7) = true)
    (l7 : K.lookup f7 = some ⟨oc7, od7, .func (PySem.W.fnOf "known" "Hall.known" (defArgs st_Hall_known) (defBody st_Hall_known) (defScope st_Hall_known) .none kV7 dc7 pm7 an7 cd7 ct7), sl7⟩)
    (c7 : PySem.W.codeIn K cd7 "Hall.known" = true)
    (k7 : PySem.W.keepIn K (.ref f7) = true)
    (a8 : PySem.W.findIn K (.ref C) "strangers" = some (some (.ref f8)))
    (i8 : PySem.W.isFn K (.ref f8) = true)
    (l8 : K.lookup f8 = some ⟨oc8, od8, .func (PySem.W.fnOf "strangers" "Hall.strangers" (defArgs st_Hall_strangers) (defBody st_Hall_strangers) (defScope st_Hall_strangers) .none kV8 dc8 pm8 an8 cd8 ct8), sl8⟩)
    (c8 : PySem.W.codeIn K cd8 "Hall.strangers" = true)
    (k8 : PySem.W.keepIn K (.ref f8) = true)
    (a9 : PySem.W.nsIn K mainGlobals "_law_cell_at" = some (some (.ref f9)))
    (l9 : K.lookup f9 = some ⟨oc9, od9, .func (PySem.W.fnOf "_law_cell_at" "_law_cell_at" (defArgs st_l_cell_at) (defBody st_l_cell_at) (defScope st_l_cell_at) .none kV9 dc9 pm9 an9 cd9 ct9), sl9⟩)
    (c9 : PySem.W.codeIn K cd9 "_law_cell_at" = true)
    (k9 : PySem.W.keepIn K (.ref f9) = true)
    (a10 : PySem.W.nsIn K mainGlobals "_law_whole" = some (some (.ref f10)))
    (l10 : K.lookup f10 = some ⟨oc10, od10, .func (PySem.W.fnOf "_law_whole" "_law_whole" (defArgs st_l_whole) (defBody st_l_whole) (defScope st_l_whole) .none kV10 dc10 pm10 an10 cd10 ct10), sl10⟩)
    (c10 : PySem.W.codeIn K cd10 "_law_whole" = true)
    (k10 : PySem.W.keepIn K (.ref f10) = true)
    (a11 : PySem.W.nsIn K mainGlobals "_law_numbers" = some (some (.ref f11)))
    (l11 : K.lookup f11 = some ⟨oc11, od11, .func (PySem.W.fnOf "_law_numbers" "_law_numbers" (defArgs st_l_numbers) (defBody st_l_numbers) (defScope st_l_numbers) .none kV11 dc11 pm11 an11 cd11 ct11), sl11⟩)
    (c11 : PySem.W.codeIn K cd11 "_law_numbers" = true)
    (k11 : PySem.W.keepIn K (.ref f11) = true)
    (a12 : PySem.W.nsIn K mainGlobals "_law_known" = some (some (.ref f12)))
    (l12 : K.lookup f12 = some ⟨oc12, od12, .func (PySem.W.fnOf "_law_known" "_law_known" (defArgs st_l_known) (defBody st_l_known) (defScope st_l_known) .none kV12 dc12 pm12 an12 cd12 ct12), sl12⟩)
    (c12 : PySem.W.codeIn K cd12 "_law_known" = true)
    (k12 : PySem.W.keepIn K (.ref f12) = true)
    (a13 : PySem.W.nsIn K mainGlobals "_law_same" = some (some (.ref f13)))
    (l13 : K.lookup f13 = some ⟨oc13, od13, .func (PySem.W.fnOf "_law_same" "_law_same" (defArgs st_l_same) (defBody st_l_same) (defScope st_l_same) .none kV13 dc13 pm13 an13 cd13 ct13), sl13⟩)
    (c13 : PySem.W.codeIn K cd13 "_law_same" = true)
    (k13 : PySem.W.keepIn K (.ref f13) = true)
    (a14 : PySem.W.nsIn K mainGlobals "_law_marks_of" = some (some (.ref f14)))
    (l14 : K.lookup f14 = some ⟨oc14, od14, .func (PySem.W.fnOf "_law_marks_of" "_law_marks_of" (defArgs st_l_marks_of) (defBody st_l_marks_of) (defScope st_l_marks_of) .none kV14 dc14 pm14 an14 cd14 ct14), sl14⟩)
    (c14 : PySem.W.codeIn K cd14 "_law_marks_of" = true)
    (k14 : PySem.W.keepIn K (.ref f14) = true)
    (a15 : PySem.W.nsIn K mainGlobals "_law_did" = some (some (.ref f15)))
    (l15 : K.lookup f15 = some ⟨oc15, od15, .func (PySem.W.fnOf "_law_did" "_law_did" (defArgs st_l_did) (defBody st_l_did) (defScope st_l_did) .none kV15 dc15 pm15 an15 cd15 ct15), sl15⟩)
    (c15 : PySem.W.codeIn K cd15 "_law_did" = true)
    (k15 : PySem.W.keepIn K (.ref f15) = true)
    (a16 : PySem.W.nsIn K mainGlobals "_law_due" = some (some (.ref f16)))
    (l16 : K.lookup f16 = some ⟨oc16, od16, .func (PySem.W.fnOf "_law_due" "_law_due" (defArgs st_l_due) (defBody st_l_due) (defScope st_l_due) .none kV16 dc16 pm16 an16 cd16 ct16), sl16⟩)
    (c16 : PySem.W.codeIn K cd16 "_law_due" = true)
    (k16 : PySem.W.keepIn K (.ref f16) = true)
    (a17 : PySem.W.nsIn K mainGlobals "_law_no_hall" = some (some (.ref f17)))
    (l17 : K.lookup f17 = some ⟨oc17, od17, .func (PySem.W.fnOf "_law_no_hall" "_law_no_hall" (defArgs st_l_no_hall) (defBody st_l_no_hall) (defScope st_l_no_hall) .none kV17 dc17 pm17 an17 cd17 ct17), sl17⟩)
    (c17 : PySem.W.codeIn K cd17 "_law_no_hall" = true)
    (k17 : PySem.W.keepIn K (.ref f17) = true)
    (a18 : PySem.W.nsIn K mainGlobals "law" = some (some (.ref f18)))
    (l18 : K.lookup f18 = some ⟨oc18, od18, .func (PySem.W.fnOf "law" "law" (defArgs st_law) (defBody st_law) (defScope st_law) .none kV18 dc18 pm18 an18 cd18 ct18), sl18⟩)
    (c18 : PySem.W.codeIn K cd18 "law" = true)
    (k18 : PySem.W.keepIn K (.ref f18) = true)
    (pg : PySem.W.plainGet K C Str.empty = true)
    (hd : PySem.W.hasDictIn K C = true)
    (po : PySem.W.plainOver K C = true)
    (sa : PySem.W.findIn K (.ref C) "__setattr__" = some (some (.builtin "object.__setattr__")))
    (mk : PySem.W.makesIn K C = true)
    (kc : PySem.W.keepIn K (.ref C) = true)
    (nC : PySem.W.findIn K (.ref C) "count" = some none)
    (nP : PySem.W.findIn K (.ref C) "pairs" = some none)
    (z_len : PySem.W.nsIn K mainGlobals "len" = some none)
    (z_isinstance : PySem.W.nsIn K mainGlobals "isinstance" = some none)
    (z_int : PySem.W.nsIn K mainGlobals "int" = some none)
    (z_bool : PySem.W.nsIn K mainGlobals "bool" = some none)
    (z_list : PySem.W.nsIn K mainGlobals "list" = some none)
    (z_min : PySem.W.nsIn K mainGlobals "min" = some none)
    (z_max : PySem.W.nsIn K mainGlobals "max" = some none)
    (z_range : PySem.W.nsIn K mainGlobals "range" = some none)
    (z_ValueError : PySem.W.nsIn K mainGlobals "ValueError" = some none)
    (gcNT : PySem.W.nsIn K mainGlobals "NoText" = some (some (.ref cNT)))
    (gcHE : PySem.W.nsIn K mainGlobals "HallError" = some (some (.ref cHE)))
    (x_sp : PySem.W.specialIn K (.builtin "object.__class__") "__get__" = some (some (.builtin "getset_descriptor.__get__")))
    (x_tk : PySem.W.takesIn K (.builtin "object.__class__") = some true)
    (xgcNG : PySem.W.findIn K (.ref cNG) "__getattribute__" = some (some (.builtin "BaseException.__getattribute__")))
    (xkcNG : PySem.W.findIn K (.ref cNG) "__getattr__" = some none)
    (xbcNG : PySem.W.subIn K (.ref cNG) (.type "BaseException") = some true)
    (xdcNG : PySem.W.hasDictIn K cNG = true)
    (xacNG : PySem.W.findIn K (.ref cNG) "__class__" = some (some (.builtin "object.__class__")))
    (xmcNG : PySem.W.mroIn K cNG (.type "object") = some true)
    (xi0cNG : PySem.W.kitOne K (.ref cNG) (.ref cNG) = some true)
    (xi1cNG : PySem.W.kitOne K (.ref cNG) (.ref cSG) = some false)
    (xi2cNG : PySem.W.kitOne K (.ref cNG) (.ref cKA) = some false)
    (xi3cNG : PySem.W.kitOne K (.ref cNG) (.ref cST) = some false)
    (xi4cNG : PySem.W.kitOne K (.ref cNG) (.ref cBH) = some false)
    (xi5cNG : PySem.W.kitOne K (.ref cNG) (.ref cNT) = some false)
    (xvcNG : PySem.W.kitOne K (.ref cNG) (.type "ValueError") = some true)
    (xhcNG : PySem.W.exmOne K (.ref cNG) (.ref cHE) = some true)
    (xgcSG : PySem.W.findIn K (.ref cSG) "__getattribute__" = some (some (.builtin "BaseException.__getattribute__")))
    (xkcSG : PySem.W.findIn K (.ref cSG) "__getattr__" = some none)
    (xbcSG : PySem.W.subIn K (.ref cSG) (.type "BaseException") = some true)
    (xdcSG : PySem.W.hasDictIn K cSG = true)
    (xacSG : PySem.W.findIn K (.ref cSG) "__class__" = some (some (.builtin "object.__class__")))
    (xmcSG : PySem.W.mroIn K cSG (.type "object") = some true)
    (xi0cSG : PySem.W.kitOne K (.ref cSG) (.ref cNG) = some false)
    (xi1cSG : PySem.W.kitOne K (.ref cSG) (.ref cSG) = some true)
    (xi2cSG : PySem.W.kitOne K (.ref cSG) (.ref cKA) = some false)
    (xi3cSG : PySem.W.kitOne K (.ref cSG) (.ref cST) = some false)
    (xi4cSG : PySem.W.kitOne K (.ref cSG) (.ref cBH) = some false)
    (xi5cSG : PySem.W.kitOne K (.ref cSG) (.ref cNT) = some false)
    (xvcSG : PySem.W.kitOne K (.ref cSG) (.type "ValueError") = some true)
    (xhcSG : PySem.W.exmOne K (.ref cSG) (.ref cHE) = some true)
    (xgcKA : PySem.W.findIn K (.ref cKA) "__getattribute__" = some (some (.builtin "BaseException.__getattribute__")))
    (xkcKA : PySem.W.findIn K (.ref cKA) "__getattr__" = some none)
    (xbcKA : PySem.W.subIn K (.ref cKA) (.type "BaseException") = some true)
    (xdcKA : PySem.W.hasDictIn K cKA = true)
    (xacKA : PySem.W.findIn K (.ref cKA) "__class__" = some (some (.builtin "object.__class__")))
    (xmcKA : PySem.W.mroIn K cKA (.type "object") = some true)
    (xi0cKA : PySem.W.kitOne K (.ref cKA) (.ref cNG) = some false)
    (xi1cKA : PySem.W.kitOne K (.ref cKA) (.ref cSG) = some false)
    (xi2cKA : PySem.W.kitOne K (.ref cKA) (.ref cKA) = some true)
    (xi3cKA : PySem.W.kitOne K (.ref cKA) (.ref cST) = some false)
    (xi4cKA : PySem.W.kitOne K (.ref cKA) (.ref cBH) = some false)
    (xi5cKA : PySem.W.kitOne K (.ref cKA) (.ref cNT) = some false)
    (xvcKA : PySem.W.kitOne K (.ref cKA) (.type "ValueError") = some true)
    (xhcKA : PySem.W.exmOne K (.ref cKA) (.ref cHE) = some true)
    (xgcST : PySem.W.findIn K (.ref cST) "__getattribute__" = some (some (.builtin "BaseException.__getattribute__")))
    (xkcST : PySem.W.findIn K (.ref cST) "__getattr__" = some none)
    (xbcST : PySem.W.subIn K (.ref cST) (.type "BaseException") = some true)
    (xdcST : PySem.W.hasDictIn K cST = true)
    (xacST : PySem.W.findIn K (.ref cST) "__class__" = some (some (.builtin "object.__class__")))
    (xmcST : PySem.W.mroIn K cST (.type "object") = some true)
    (xi0cST : PySem.W.kitOne K (.ref cST) (.ref cNG) = some false)
    (xi1cST : PySem.W.kitOne K (.ref cST) (.ref cSG) = some false)
    (xi2cST : PySem.W.kitOne K (.ref cST) (.ref cKA) = some false)
    (xi3cST : PySem.W.kitOne K (.ref cST) (.ref cST) = some true)
    (xi4cST : PySem.W.kitOne K (.ref cST) (.ref cBH) = some false)
    (xi5cST : PySem.W.kitOne K (.ref cST) (.ref cNT) = some false)
    (xvcST : PySem.W.kitOne K (.ref cST) (.type "ValueError") = some true)
    (xhcST : PySem.W.exmOne K (.ref cST) (.ref cHE) = some true)
    (xgcBH : PySem.W.findIn K (.ref cBH) "__getattribute__" = some (some (.builtin "BaseException.__getattribute__")))
    (xkcBH : PySem.W.findIn K (.ref cBH) "__getattr__" = some none)
    (xbcBH : PySem.W.subIn K (.ref cBH) (.type "BaseException") = some true)
    (xdcBH : PySem.W.hasDictIn K cBH = true)
    (xacBH : PySem.W.findIn K (.ref cBH) "__class__" = some (some (.builtin "object.__class__")))
    (xmcBH : PySem.W.mroIn K cBH (.type "object") = some true)
    (xi0cBH : PySem.W.kitOne K (.ref cBH) (.ref cNG) = some false)
    (xi1cBH : PySem.W.kitOne K (.ref cBH) (.ref cSG) = some false)
    (xi2cBH : PySem.W.kitOne K (.ref cBH) (.ref cKA) = some false)
    (xi3cBH : PySem.W.kitOne K (.ref cBH) (.ref cST) = some false)
    (xi4cBH : PySem.W.kitOne K (.ref cBH) (.ref cBH) = some true)
    (xi5cBH : PySem.W.kitOne K (.ref cBH) (.ref cNT) = some false)
    (xvcBH : PySem.W.kitOne K (.ref cBH) (.type "ValueError") = some true)
    (xhcBH : PySem.W.exmOne K (.ref cBH) (.ref cHE) = some true)
    : ∃ fd : FuncData, (∀ (s : Shared) (v : Value), BindsTo s fd ⟨[v], []⟩ [("script", v)]) ∧ ∀ base : Heap, K.In base → base.Ns mainGlobals mg → FnOk P w K mg base CX0 6 fa fd ["script"] (spLaw K) := by
  have e := hfa.symm.trans (PySem.W.mg_of X G a18)
  cases e
  have T : HT K mg C cNG cSG cKA cST cBH := ⟨⟨pg, hd, po, sa⟩, nC, nP, ⟨PySem.W.mg_of X G gcNG, ecNG, kcNG, bcNG, tcNG⟩, ⟨PySem.W.mg_of X G gcSG, ecSG, kcSG, bcSG, tcSG⟩, ⟨PySem.W.mg_of X G gcKA, ecKA, kcKA, bcKA, tcKA⟩, ⟨PySem.W.mg_of X G gcST, ecST, kcST, bcST, tcST⟩, ⟨PySem.W.mg_of X G gcBH, ecBH, kcBH, bcBH, tcBH⟩, ⟨tgr, PySem.W.mg_of X G gr⟩, PySem.W.mg_none_of X G z_min, PySem.W.mg_none_of X G z_max, PySem.W.mg_none_of X G z_range, PySem.W.mg_none_of X G z_len⟩
  have McNG : MarkT K cNG cSG cKA cST cBH cNT cHE cNG 0 := ⟨⟨xgcNG, xkcNG, xbcNG, xdcNG, xacNG, x_sp, x_tk, xmcNG⟩, xi0cNG, xi1cNG, xi2cNG, xi3cNG, xi4cNG, xi5cNG, xvcNG, xhcNG, by decide⟩
  have McSG : MarkT K cNG cSG cKA cST cBH cNT cHE cSG 1 := ⟨⟨xgcSG, xkcSG, xbcSG, xdcSG, xacSG, x_sp, x_tk, xmcSG⟩, xi0cSG, xi1cSG, xi2cSG, xi3cSG, xi4cSG, xi5cSG, xvcSG, xhcSG, by decide⟩
  have McKA : MarkT K cNG cSG cKA cST cBH cNT cHE cKA 2 := ⟨⟨xgcKA, xkcKA, xbcKA, xdcKA, xacKA, x_sp, x_tk, xmcKA⟩, xi0cKA, xi1cKA, xi2cKA, xi3cKA, xi4cKA, xi5cKA, xvcKA, xhcKA, by decide⟩
  have McST : MarkT K cNG cSG cKA cST cBH cNT cHE cST 3 := ⟨⟨xgcST, xkcST, xbcST, xdcST, xacST, x_sp, x_tk, xmcST⟩, xi0cST, xi1cST, xi2cST, xi3cST, xi4cST, xi5cST, xvcST, xhcST, by decide⟩
  have McBH : MarkT K cNG cSG cKA cST cBH cNT cHE cBH 4 := ⟨⟨xgcBH, xkcBH, xbcBH, xdcBH, xacBH, x_sp, x_tk, xmcBH⟩, xi0cBH, xi1cBH, xi2cBH, xi3cBH, xi4cBH, xi5cBH, xvcBH, xhcBH, by decide⟩
  have GcNT := PySem.W.mg_of X G gcNT
  have GcHE := PySem.W.mg_of X G gcHE
  have F0 := fun_mk (st := st_Hall_init) l0 c0 k0
  have b0 := F0.binds (ps := ["self", "many"]) fun _ _ _ _ _ _ us hl => match us, hl with | [_, _], _ => rfl
  have F1 := fun_mk (st := st_Hall_many) l1 c1 k1
  have b1 := F1.binds (ps := ["self"]) fun _ _ _ _ _ _ us hl => match us, hl with | [_], _ => rfl
  have F2 := fun_mk (st := st_Hall_see) l2 c2 k2
  have b2 := F2.binds (ps := ["self", "guest"]) fun _ _ _ _ _ _ us hl => match us, hl with | [_, _], _ => rfl
  have F3 := fun_mk (st := st_Hall_see_two) l3 c3 k3
  have b3 := F3.binds (ps := ["self", "one", "other"]) fun _ _ _ _ _ _ us hl => match us, hl with | [_, _, _], _ => rfl
  have F4 := fun_mk (st := st_Hall_know) l4 c4 k4
  have b4 := F4.binds (ps := ["self", "one", "other"]) fun _ _ _ _ _ _ us hl => match us, hl with | [_, _, _], _ => rfl
  have F5 := fun_mk (st := st_Hall_meet) l5 c5 k5
  have b5 := F5.binds (ps := ["self", "one", "other"]) fun _ _ _ _ _ _ us hl => match us, hl with | [_, _, _], _ => rfl
  have F6 := fun_mk (st := st_Hall_part) l6 c6 k6
  have b6 := F6.binds (ps := ["self", "one", "other"]) fun _ _ _ _ _ _ us hl => match us, hl with | [_, _, _], _ => rfl
  have F7 := fun_mk (st := st_Hall_known) l7 c7 k7
  have b7 := F7.binds (ps := ["self", "guest"]) fun _ _ _ _ _ _ us hl => match us, hl with | [_, _], _ => rfl
  have F8 := fun_mk (st := st_Hall_strangers) l8 c8 k8
  have b8 := F8.binds (ps := ["self", "guest"]) fun _ _ _ _ _ _ us hl => match us, hl with | [_, _], _ => rfl
  have F9 := fun_mk (st := st_l_cell_at) l9 c9 k9
  have b9 := F9.binds (ps := ["script", "k"]) fun _ _ _ _ _ _ us hl => match us, hl with | [_, _], _ => rfl
  have F10 := fun_mk (st := st_l_whole) l10 c10 k10
  have b10 := F10.binds (ps := ["found"]) fun _ _ _ _ _ _ us hl => match us, hl with | [_], _ => rfl
  have F11 := fun_mk (st := st_l_numbers) l11 c11 k11
  have b11 := F11.binds (ps := ["found", "due"]) fun _ _ _ _ _ _ us hl => match us, hl with | [_, _], _ => rfl
  have F12 := fun_mk (st := st_l_known) l12 c12 k12
  have b12 := F12.binds (ps := ["pairs", "many", "guest"]) fun _ _ _ _ _ _ us hl => match us, hl with | [_, _, _], _ => rfl
  have F13 := fun_mk (st := st_l_same) l13 c13 k13
  have b13 := F13.binds (ps := ["hall", "pairs", "many"]) fun _ _ _ _ _ _ us hl => match us, hl with | [_, _, _], _ => rfl
  have F14 := fun_mk (st := st_l_marks_of) l14 c14 k14
  have b14 := F14.binds (ps := ["e"]) fun _ _ _ _ _ _ us hl => match us, hl with | [_], _ => rfl
  have F15 := fun_mk (st := st_l_did) l15 c15 k15
  have b15 := F15.binds (ps := ["hall", "kind", "one", "other"]) fun _ _ _ _ _ _ us hl => match us, hl with | [_, _, _, _], _ => rfl
  have F16 := fun_mk (st := st_l_due) l16 c16 k16
  have b16 := F16.binds (ps := ["pairs", "many", "kind", "one", "other"]) fun _ _ _ _ _ _ us hl => match us, hl with | [_, _, _, _, _], _ => rfl
  have F17 := fun_mk (st := st_l_no_hall) l17 c17 k17
  have b17 := F17.binds (ps := ["many"]) fun _ _ _ _ _ _ us hl => match us, hl with | [_], _ => rfl
  have F18 := fun_mk (st := st_law) l18 c18 k18
  refine ⟨PySem.W.fnOf "law" "law" (defArgs st_law) (defBody st_law) (defScope st_law) .none kV18 dc18 pm18 an18 cd18 ct18, fun s v => .of_eq rfl, fun base _ _ => ?_⟩
  have G0 : FnOk P w K mg base (L2N.CX P w) 1 f0 _ _ (spInit C cBH) := ok_init F0 T
  have B0 : MakD P w K mg base (L2N.CX P w) C 1 "Hall" (spInit C cBH) := ⟨_, _, _, ⟨mk, a0, i0, kc⟩, G0, b0, PySem.W.mg_of X G aC⟩
  have G1 : FnOk P w K mg base CX0 1 f1 _ _ (spMany C) := ok_many F1 T
  have B1 : MetD P w K mg base CX0 C 1 "many" (spMany C) := ⟨_, _, _, G1, b1, ⟨a1, i1, k1⟩⟩
  have G2 : FnOk P w K mg base (L2N.CX P w) 1 f2 _ _ (spSee C cNG) := ok_see F2 T
  have B2 : MetD P w K mg base (L2N.CX P w) C 1 "see" (spSee C cNG) := ⟨_, _, _, G2, b2, ⟨a2, i2, k2⟩⟩
  have G3 : FnOk P w K mg base (L2N.CX P w) 2 f3 _ _ (spSeeTwo C cNG cSG) := ok_see_two F3 T B2
  have B3 : MetD P w K mg base (L2N.CX P w) C 2 "see_two" (spSeeTwo C cNG cSG) := ⟨_, _, _, G3, b3, ⟨a3, i3, k3⟩⟩
  have G4 : FnOk P w K mg base (L2N.CX P w) 3 f4 _ _ (spKnow C cNG cSG) := ok_know F4 T B3
  have B4 : MetD P w K mg base (L2N.CX P w) C 3 "know" (spKnow C cNG cSG) := ⟨_, _, _, G4, b4, ⟨a4, i4, k4⟩⟩
  have G5 : FnOk P w K mg base (L2N.CX P w) 4 f5 _ _ (spMeet C cNG cSG cKA) := ok_meet F5 T B4
  have B5 : MetD P w K mg base (L2N.CX P w) C 4 "meet" (spMeet C cNG cSG cKA) := ⟨_, _, _, G5, b5, ⟨a5, i5, k5⟩⟩
  have G6 : FnOk P w K mg base (L2N.CX P w) 4 f6 _ _ (spPart C cNG cSG cST) := ok_part F6 T B4
  have B6 : MetD P w K mg base (L2N.CX P w) C 4 "part" (spPart C cNG cSG cST) := ⟨_, _, _, G6, b6, ⟨a6, i6, k6⟩⟩
  have G7 : FnOk P w K mg base (L2N.CX P w) 4 f7 _ _ (spOthers true C cNG) := ok_known F7 T B2 B4
  have B7 : MetD P w K mg base (L2N.CX P w) C 4 "known" (spOthers true C cNG) := ⟨_, _, _, G7, b7, ⟨a7, i7, k7⟩⟩
  have G8 : FnOk P w K mg base (L2N.CX P w) 4 f8 _ _ (spOthers false C cNG) := ok_strangers F8 T B2 B4
  have B8 : MetD P w K mg base (L2N.CX P w) C 4 "strangers" (spOthers false C cNG) := ⟨_, _, _, G8, b8, ⟨a8, i8, k8⟩⟩
  have G9 : FnOk P w K mg base CX0 1 f9 _ _ (spCell K) := ok_cell F9 (PySem.W.mg_none_of X G z_len)
  have B9 : CalD P w K mg base CX0 1 "_law_cell_at" (spCell K) := ⟨_, _, _, G9, b9, PySem.W.mg_of X G a9, k9⟩
  have G10 : FnOk P w K mg base CX0 1 f10 _ _ (spWhole) := ok_whole F10 (PySem.W.mg_none_of X G z_isinstance) (PySem.W.mg_none_of X G z_int) (PySem.W.mg_none_of X G z_bool)
  have B10 : CalD P w K mg base CX0 1 "_law_whole" (spWhole) := ⟨_, _, _, G10, b10, PySem.W.mg_of X G a10, k10⟩
  have G11 : FnOk P w K mg base CX0 2 f11 _ _ (spNumbers) := ok_numbers F11 (PySem.W.mg_none_of X G z_isinstance) (PySem.W.mg_none_of X G z_list) B10
  have B11 : CalD P w K mg base CX0 2 "_law_numbers" (spNumbers) := ⟨_, _, _, G11, b11, PySem.W.mg_of X G a11, k11⟩
  have G12 : FnOk P w K mg base CX0 1 f12 _ _ (spKnownD) := ok_lknownD F12 (PySem.W.mg_none_of X G z_min) (PySem.W.mg_none_of X G z_max) (PySem.W.mg_none_of X G z_range)
  have B12 : CalD P w K mg base CX0 1 "_law_known" (spKnownD) := ⟨_, _, _, G12, b12, PySem.W.mg_of X G a12, k12⟩
  have G12b : FnOk P w K mg base CX0 1 f12 _ _ (spKnownL) := ok_lknownL F12 (PySem.W.mg_none_of X G z_min) (PySem.W.mg_none_of X G z_max) (PySem.W.mg_none_of X G z_range)
  have B12b : CalD P w K mg base CX0 1 "_law_known" (spKnownL) := ⟨_, _, _, G12b, b12, PySem.W.mg_of X G a12, k12⟩
  have G13 : FnOk P w K mg base CX0 5 f13 _ _ (spSame C) := ok_same F13 T B1 B7 B8 B10 B11 B12
  have B13 : CalD P w K mg base CX0 5 "_law_same" (spSame C) := ⟨_, _, _, G13, b13, PySem.W.mg_of X G a13, k13⟩
  have G14 : FnP P w K mg base 1 f14 _ _ (spMarks K cNG cSG cKA cST cBH cNT cHE) := ok_marks F14 T GcNT (PySem.W.mg_none_of X G z_isinstance) (PySem.W.mg_none_of X G z_ValueError)
  have B14 : CalP P w K mg base 1 "_law_marks_of" (spMarks K cNG cSG cKA cST cBH cNT cHE) := ⟨_, _, _, G14, b14, PySem.W.mg_of X G a14, k14⟩
  have G15 : FnOk P w K mg base CX0 5 f15 _ _ (spDid C) := ok_did F15 T GcHE B6 B4 B5 B14 McNG McSG McKA McST
  have B15 : CalD P w K mg base CX0 5 "_law_did" (spDid C) := ⟨_, _, _, G15, b15, PySem.W.mg_of X G a15, k15⟩
  have G16 : FnOk P w K mg base CX0 1 f16 _ _ (spDue) := ok_due F16 (PySem.W.mg_none_of X G z_min) (PySem.W.mg_none_of X G z_max) (PySem.W.mg_none_of X G z_range)
  have B16 : CalD P w K mg base CX0 1 "_law_due" (spDue) := ⟨_, _, _, G16, b16, PySem.W.mg_of X G a16, k16⟩
  have G17 : FnOk P w K mg base CX0 5 f17 _ _ (spNoHall) := ok_no_hall F17 T GcHE B0 B14 McBH
  have B17 : CalD P w K mg base CX0 5 "_law_no_hall" (spNoHall) := ⟨_, _, _, G17, b17, PySem.W.mg_of X G a17, k17⟩
  exact ok_law F18 T (PySem.W.mg_none_of X G z_isinstance) (PySem.W.mg_none_of X G z_bool) B0 B7 B9 B17 B16 B15 B11 B12b B13
theorem walk {l : PySem.W.OpenLaw} {q : Program} {loose : List Str} {XP : (Str → Option Value) → Heap → Prop} {YP : World → Heap → Prop} {d : DefRec} {K : Params → PySem.W.Frag} (hn : l.most = some 63) (hdf : d.params.defaults = [])
    (hY : ∀ (w : World) (h : Heap), YP w h → (K w.params).In h)
    (F : ∀ (w : World) (mg : Str → Option Value) (fa : Addr) (h : Heap), (K w.params).In h → h.Ns mainGlobals mg → mg d.name = some (.ref fa) →
      ∃ fd : FuncData, (∀ (s : Shared) (u : Value), BindsTo s fd ⟨[u], []⟩ [("script", u)]) ∧ ∀ base : Heap, (K w.params).In base → base.Ns mainGlobals mg → FnOk l.prog w (K w.params) mg base CX0 6 fa fd ["script"] (spLaw (K w.params))) :
    PySem.W.WalkO q loose XP YP l.row.toRowW d [] (fun f vs => PySem.call f vs) :=
  L2.walk_of (n := 63) (k := 6) (x := "script") (CX := fun _ => CX0) (sp := fun w => spLaw (K w.params)) hn (by decide) hdf ⟨rfl, by decide, by decide⟩ hY F (fun _ _ a ns hl _ hS => ⟨a, ns, rfl, hS, hl, fun _ => rfl⟩) fun _ _ _ _ _ z => z
end KT
open PySem PySem.W PyProof.Rows in
set_option maxRecDepth 100000 in
set_option maxHeartbeats 0 in
theorem PySem.Challenge.cw_knowthree_k01_meeting_and_parting_holds : PySem.Challenge.rw_knowthree_k01_meeting_and_parting.Holds := by
  w_on; o_law; k_head; (case hw => w_witness2)
  k_fill
  refine KT.walk (l := PySem.Challenge.rw_knowthree_k01_meeting_and_parting) rfl rfl (fun w h Y => PySem.W.kIn_of Y) ?F
  case F =>
    intro w mg fa h KX G hmg
    refine' KT.all_mk KX G hmg ?aC ?gcNG ?ecNG ?kcNG ?bcNG ?tcNG ?gcSG ?ecSG ?kcSG ?bcSG ?tcSG ?gcKA ?ecKA ?kcKA ?bcKA ?tcKA ?gcST ?ecST ?kcST ?bcST ?tcST ?gcBH ?ecBH ?kcBH ?bcBH ?tcBH ?gr ?a0 ?i0 ?l0 ?c0 ?k0 ?a1 ?i1 ?l1 ?c1 ?k1 ?a2 ?i2 ?l2 ?c2 ?k2 ?a3 ?i3 ?l3 ?c3 ?k3 ?a4 ?i4 ?l4 ?c4 ?k4 ?a5 ?i5 ?l5 ?c5 ?k5 ?a6 ?i6 ?l6 ?c6 ?k6 ?a7 ?i7 ?l7 ?c7 ?k7 ?a8 ?i8 ?l8 ?c8 ?k8 ?a9 ?l9 ?c9 ?k9 ?a10 ?l10 ?c10 ?k10 ?a11 ?l11 ?c11 ?k11 ?a12 ?l12 ?c12 ?k12 ?a13 ?l13 ?c13 ?k13 ?a14 ?l14 ?c14 ?k14 ?a15 ?l15 ?c15 ?k15 ?a16 ?l16 ?c16 ?k16 ?a17 ?l17 ?c17 ?k17 ?a18 ?l18 ?c18 ?k18 ?pg ?hd ?po ?sa ?mk ?kc ?nC ?nP ?z_len ?z_isinstance ?z_int ?z_bool ?z_list ?z_min ?z_max ?z_range ?z_ValueError ?gcNT ?gcHE ?x_sp ?x_tk ?xgcNG ?xkcNG ?xbcNG ?xdcNG ?xacNG ?xmcNG ?xi0cNG ?xi1cNG ?xi2cNG ?xi3cNG ?xi4cNG ?xi5cNG ?xvcNG ?xhcNG ?xgcSG ?xkcSG ?xbcSG ?xdcSG ?xacSG ?xmcSG ?xi0cSG ?xi1cSG ?xi2cSG ?xi3cSG ?xi4cSG ?xi5cSG ?xvcSG ?xhcSG ?xgcKA ?xkcKA ?xbcKA ?xdcKA ?xacKA ?xmcKA ?xi0cKA ?xi1cKA ?xi2cKA ?xi3cKA ?xi4cKA ?xi5cKA ?xvcKA ?xhcKA ?xgcST ?xkcST ?xbcST ?xdcST ?xacST ?xmcST ?xi0cST ?xi1cST ?xi2cST ?xi3cST ?xi4cST ?xi5cST ?xvcST ?xhcST ?xgcBH ?xkcBH ?xbcBH ?xdcBH ?xacBH ?xmcBH ?xi0cBH ?xi1cBH ?xi2cBH ?xi3cBH ?xi4cBH ?xi5cBH ?xvcBH ?xhcBH
    (case aC => k_is)
    (case gcNG => k_is)
    (case ecNG => k_exc)
    (case kcNG => k_is)
    (case bcNG => k_is)
    (case tcNG => k_is)
    (case gcSG => k_is)
    (case ecSG => k_exc)
    (case kcSG => k_is)
    (case bcSG => k_is)
    (case tcSG => k_is)
    (case gcKA => k_is)
    (case ecKA => k_exc)
    (case kcKA => k_is)
    (case bcKA => k_is)
    (case tcKA => k_is)
    (case gcST => k_is)
    (case ecST => k_exc)
    (case kcST => k_is)
    (case bcST => k_is)
    (case tcST => k_is)
    (case gcBH => k_is)
    (case ecBH => k_exc)
    (case kcBH => k_is)
    (case bcBH => k_is)
    (case tcBH => k_is)
    (case gr => k_is)
    (case a0 => k_is)
    (case i0 => k_is)
    (case l0 => k_is)
    (case c0 => k_is)
    (case k0 => k_is)
    (case a1 => k_is)
    (case i1 => k_is)
    (case l1 => k_is)
    (case c1 => k_is)
    (case k1 => k_is)
    (case a2 => k_is)
    (case i2 => k_is)
    (case l2 => k_is)
    (case c2 => k_is)
    (case k2 => k_is)
    (case a3 => k_is)
    (case i3 => k_is)
    (case l3 => k_is)
    (case c3 => k_is)
    (case k3 => k_is)
    (case a4 => k_is)
    (case i4 => k_is)
    (case l4 => k_is)
    (case c4 => k_is)
    (case k4 => k_is)
    (case a5 => k_is)
    (case i5 => k_is)
    (case l5 => k_is)
    (case c5 => k_is)
    (case k5 => k_is)
    (case a6 => k_is)
    (case i6 => k_is)
    (case l6 => k_is)
    (case c6 => k_is)
    (case k6 => k_is)
    (case a7 => k_is)
    (case i7 => k_is)
    (case l7 => k_is)
    (case c7 => k_is)
    (case k7 => k_is)
    (case a8 => k_is)
    (case i8 => k_is)
    (case l8 => k_is)
    (case c8 => k_is)
    (case k8 => k_is)
    (case a9 => k_is)
    (case l9 => k_is)
    (case c9 => k_is)
    (case k9 => k_is)
    (case a10 => k_is)
    (case l10 => k_is)
    (case c10 => k_is)
    (case k10 => k_is)
    (case a11 => k_is)
    (case l11 => k_is)
    (case c11 => k_is)
    (case k11 => k_is)
    (case a12 => k_is)
    (case l12 => k_is)
    (case c12 => k_is)
    (case k12 => k_is)
    (case a13 => k_is)
    (case l13 => k_is)
    (case c13 => k_is)
    (case k13 => k_is)
    (case a14 => k_is)
    (case l14 => k_is)
    (case c14 => k_is)
    (case k14 => k_is)
    (case a15 => k_is)
    (case l15 => k_is)
    (case c15 => k_is)
    (case k15 => k_is)
    (case a16 => k_is)
    (case l16 => k_is)
    (case c16 => k_is)
    (case k16 => k_is)
    (case a17 => k_is)
    (case l17 => k_is)
    (case c17 => k_is)
    (case k17 => k_is)
    (case a18 => k_is)
    (case l18 => k_is)
    (case c18 => k_is)
    (case k18 => k_is)
    (case pg => k_is)
    (case hd => k_is)
    (case po => k_is)
    (case sa => k_is)
    (case mk => k_is)
    (case kc => k_is)
    (case nC => k_is)
    (case nP => k_is)
    (case z_len => k_is)
    (case z_isinstance => k_is)
    (case z_int => k_is)
    (case z_bool => k_is)
    (case z_list => k_is)
    (case z_min => k_is)
    (case z_max => k_is)
    (case z_range => k_is)
    (case z_ValueError => k_is)
    (case gcNT => k_is)
    (case gcHE => k_is)
    (case x_sp => k_is)
    (case x_tk => k_is)
    (case xgcNG => k_is)
    (case xkcNG => k_is)
    (case xbcNG => k_is)
    (case xdcNG => k_is)
    (case xacNG => k_is)
    (case xmcNG => k_is)
    (case xi0cNG => kit_is)
    (case xi1cNG => kit_is)
    (case xi2cNG => kit_is)
    (case xi3cNG => kit_is)
    (case xi4cNG => kit_is)
    (case xi5cNG => kit_is)
    (case xvcNG => kit_is)
    (case xhcNG => kts_exm)
    (case xgcSG => k_is)
    (case xkcSG => k_is)
    (case xbcSG => k_is)
    (case xdcSG => k_is)
    (case xacSG => k_is)
    (case xmcSG => k_is)
    (case xi0cSG => kit_is)
    (case xi1cSG => kit_is)
    (case xi2cSG => kit_is)
    (case xi3cSG => kit_is)
    (case xi4cSG => kit_is)
    (case xi5cSG => kit_is)
    (case xvcSG => kit_is)
    (case xhcSG => kts_exm)
    (case xgcKA => k_is)
    (case xkcKA => k_is)
    (case xbcKA => k_is)
    (case xdcKA => k_is)
    (case xacKA => k_is)
    (case xmcKA => k_is)
    (case xi0cKA => kit_is)
    (case xi1cKA => kit_is)
    (case xi2cKA => kit_is)
    (case xi3cKA => kit_is)
    (case xi4cKA => kit_is)
    (case xi5cKA => kit_is)
    (case xvcKA => kit_is)
    (case xhcKA => kts_exm)
    (case xgcST => k_is)
    (case xkcST => k_is)
    (case xbcST => k_is)
    (case xdcST => k_is)
    (case xacST => k_is)
    (case xmcST => k_is)
    (case xi0cST => kit_is)
    (case xi1cST => kit_is)
    (case xi2cST => kit_is)
    (case xi3cST => kit_is)
    (case xi4cST => kit_is)
    (case xi5cST => kit_is)
    (case xvcST => kit_is)
    (case xhcST => kts_exm)
    (case xgcBH => k_is)
    (case xkcBH => k_is)
    (case xbcBH => k_is)
    (case xdcBH => k_is)
    (case xacBH => k_is)
    (case xmcBH => k_is)
    (case xi0cBH => kit_is)
    (case xi1cBH => kit_is)
    (case xi2cBH => kit_is)
    (case xi3cBH => kit_is)
    (case xi4cBH => kit_is)
    (case xi5cBH => kit_is)
    (case xvcBH => kit_is)
    (case xhcBH => kts_exm)
#print axioms PySem.Challenge.cw_knowthree_k01_meeting_and_parting_holds
