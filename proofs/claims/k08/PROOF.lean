import PyProof.Rows.All
import Wide.All
import OpenK.AllK
import Wide.FinOn
import HandS.ForMost
import HandS.Exc
import HandS.TryOnly
import HandS.ExcOwn
import HandS.WordsExc
import HandS.ExcCtx
import HandS.HotCalls
import HandS.SuiteRaise
import HandS.ExcIs
import HandS.IsInst
import HandS.Deep
import HandS.RaiseOp
import HandS.DictTup
import HandS.SortRule
import KE.DataFind
import KE.RegKIsAll
import KE.RegKTryMore
import HandS.More
import PySem.Challenge.RW_knowthree_k08_crowds_known
set_option Elab.async false
set_option linter.all false
set_option maxRecDepth 100000
set_option maxHeartbeats 4000000
/-! own rules over the hand layer -/
namespace KT
open PySem PySem.Spec PyProof.Rows L2

/-! ### defs that raise, the exception's context being None -/
section
variable {P : Program} {w : World} {K : PySem.W.Frag} {mg : Str → Option Value} {base : Heap}
theorem okN {x qual : Str} {st : Stmt} {f : Addr} {fd : FuncData} {N ps : List Str} {k : Nat} {sp : Sp}
    (F : Fun K x qual st f fd) (S : FnScope N ps (defScope st))
    (len : ∀ vs H Q E, sp vs H Q E → vs.length = ps.length)
    (body : ∀ (cdv : Value) (A : Around) (outer : List Env) (s : Shared) (H : Hp) (vs : List V) (Q : VK) (E : XK),
      Room k (A.deeper (envOfC qual (defScope st) s.heap.objs.size f cdv)) → sp vs H Q E →
      ∃ t, PSs (cxOf (L2N.CX P w) P w K mg base N qual (defScope st) f cdv A outer s H E) (defBody st) t ∧
        t { nx := fun _ H' => Q .non H', rt := Q } (start N vs) H) :
    FnOk P w K mg base (L2N.CX P w) (k + 1) f fd ps sp := by
  obtain ⟨oc, od, kV, doc, pm, an, cdv, ct, osl, rfl, lk, hcd⟩ := F.ex
  exact fn_of lk hcd S len (fun A outer s H vs Q E hr hsp => body cdv A outer s H vs Q E hr hsp)
end
theorem passN {X : Cx} : Passes (L2N.CX X.prog X.w) X E0 := by
  intro _ _ _ _ _ _ _ h
  obtain ⟨_, _, _, _, _, _, _, _, _, _, _, _, z⟩ := h
  exact z.elim
/-- what flies with no context flies -/
theorem cx_weak {P : Program} {w : World} {outer : List Env} {H : Hp} {s : Shared} {E : XK} {u : Value} {s' : Shared}
    (h : L2N.CX P w outer H s E u s') : L2.CX P w outer H s E u s' := by
  obtain ⟨a, B, H', cls, d, e, fl, r⟩ := h
  exact ⟨a, B, H', cls, d, e, L2H.flyingZ_imp (fun _ z => L2N.Zn.zc z) fl, r⟩
theorem FnOk_weak {P : Program} {w : World} {K : PySem.W.Frag} {mg : Str → Option Value} {base : Heap} {k : Nat} {f : Addr}
    {fd : FuncData} {ps : List Str} {sp : Sp} (F : FnOk P w K mg base (L2N.CX P w) k f fd ps sp) :
    FnOk P w K mg base (L2.CX P w) k f fd ps sp := by
  refine ⟨F.len, ?_⟩
  intro A outer s H args us vs Q E hr e0 b r h
  refine codeAny_mono (F.run A outer s H args us vs Q E hr e0 b r h) ?_
  intro r s' q
  cases r with
  | error e => exact cx_weak q
  | ok fl => cases fl <;> exact q
/-- a def that lets nothing out may stand where one may -/
theorem FnOk_calm {P : Program} {w : World} {K : PySem.W.Frag} {mg : Str → Option Value} {base : Heap} {k : Nat} {f : Addr}
    {fd : FuncData} {ps : List Str} {sp : Sp} {CX : CXT} (F : FnOk P w K mg base CX0 k f fd ps sp) :
    FnOk P w K mg base CX k f fd ps sp := by
  refine ⟨F.len, ?_⟩
  intro A outer s H args us vs Q E hr e0 b r h
  refine codeAny_mono (F.run A outer s H args us vs Q E hr e0 b r h) ?_
  intro r s' q
  cases r with
  | error e => exact False.elim q
  | ok fl => cases fl <;> exact q

/-! ### methods and classes called where what is raised is wished for at the caller's slots -/
section
variable {X : Cx} {CX : CXT} {k : Nat} {f C : Addr} {fd : FuncData} {ps : List Str} {sp : Sp} {E : L2.St → XK}
  {x m : Str} {p pos apos : Pos} {e o : Expr} {es : List Expr} {ta : TE} {t : TA}
def tMethS (C : Addr) (m : Str) (sp : Sp) (E : L2.St → XK) (ta : TE) (t : TA) : TE := fun σ H Q => ta σ H fun x H1 =>
  ∃ a dx fs, x = .ref a ∧ H1 a = some (.ins C dx fs) ∧ fs.lookup m = none ∧ t σ H1 fun vs H2 => sp (x :: vs) H2 Q (E σ)
theorem pe_methS {pl : Sem Bool} (he : PE X o ta) (c : Cls X.K C) (hm : Meth X.K C m f)
    (F : FnOk X.prog X.w X.K X.mg X.base CX k f fd ps sp) (hr : Room k X.A) (hb : Binds X.K fd ps [])
    (hx : ∀ σ, PassesAt CX X σ (E σ)) (ha : PA X (e :: es) t)
    (hst : starEach (e :: es) X.env = (false, eval e X.env) :: starEach es X.env := by rfl)
    (hpl : (backTo pos (starEach es X.env)).any (·.1) = false := by rfl)
    (ht : eval (.Call (.Attribute o m apos) (e :: es) [] pos) X.env = (do
      let ov ← eval o X.env
      standAt apos.atName
      let (f, first) ← holding [ov] (getMethod ov m pl)
      callWith pos f first (backTo pos (starEach (e :: es) X.env)) (backToKw pos (keywordEach [] X.env))) := by rfl) :
    PE X (.Call (.Attribute o m apos) (e :: es) [] pos) (tMethS C m sp E ta t) := by
  constructor
  intro pins s σ H Q I h
  refine PySem.W.methodCall_KW (pl := pl) (thn (he.run pins s σ H _ I h) ?_) ht
  rintro u s1 ⟨x, H1, I1, rx, a, dx, fs, ex, ea, l, q⟩
  subst ex
  obtain rfl : u = Value.ref a := rx
  refine getmeth_ok I1 ea c hm l ?_
  refine PySem.W.callWith_K (first := [.ref a]) (h₀ := X.base) I.ok.mod.kin hm.kp (thn (ha.run pos pins s1 σ H1 _ I1 q) ?_) hst hpl
  rintro us s2 ⟨vs, H2, I2, r, q2⟩
  exact ⟨I2.kIn, run_fnS (us := .ref a :: us) (vs := .ref a :: vs) F hr hb (hx σ) I2 (.cons rfl r) q2⟩
def tMakeS (C : Addr) (sp : Sp) (E : L2.St → XK) (t : TA) : TE := fun σ H Q => t σ H fun vs H1 => ∀ x dx, H1 x = none → H1 dx = none → dx ≠ x →
  sp (.ref x :: vs) (upd (upd H1 dx (.own x)) x (.ins C dx [])) (fun v H2 => v = .non ∧ Q (.ref x) H2) (E σ)
theorem pe_makeS (M : Mk X.K C f) (F : FnOk X.prog X.w X.K X.mg X.base CX k f fd ps sp) (hr : Room (k + 1) X.A) (hg : Gl X x)
    (hm : X.mg x = some (.ref C)) (hb : Binds X.K fd ps []) (hx : ∀ σ, PassesAt CX X σ (E σ)) (ha : PA X (e :: es) t)
    (hdb : (x == ("__debug__" : Str)) = false := by decide)
    (he : starEach (e :: es) X.env = (false, eval e X.env) :: starEach es X.env := by rfl)
    (hpl : (backTo pos (starEach es X.env)).any (·.1) = false := by rfl) :
    PE X (.Call (.Name x p) (e :: es) [] pos) (tMakeS C sp E t) := by
  constructor
  intro pins s0 σ H0 Q I0 h0
  refine wpAny_Call_Name_kw (ld_glob I0 hg hm ?_ hdb)
  refine PySem.W.callWith_K (h₀ := X.base) I0.ok.mod.kin M.kp (thn (ha.run pos pins s0 σ H0 _ I0 h0) ?_) he hpl
  rintro us s ⟨vs, H, I, r, h⟩
  refine ⟨I.kIn, ?_⟩
  have hq := h (s.heap.objs.size + 1) s.heap.objs.size (I.hok.fresh (Nat.le_succ _)) (I.hok.fresh (Nat.le_refl _)) (Nat.ne_of_lt (Nat.lt_succ_self _))
  have I2 := Inv.made (C := C) I
  have r2 : Vals (V.ref (s.heap.objs.size + 1) :: vs) (Value.ref (s.heap.objs.size + 1) :: us) := .cons rfl r
  have hl : (Value.ref (s.heap.objs.size + 1) :: us).length = ps.length := by
    rw [← r2.length]
    exact F.len _ _ _ _ hq
  have b := hb _ (Value.ref (s.heap.objs.size + 1) :: us) I2.kIn (by rw [List.append_nil]; exact hl)
  rw [List.append_nil] at b
  refine wpAny_call (make_map (f := f) I.kIn M.makes M.init (beq_iff_eq.mp M.fn) ?_)
  refine codeAny_mono (F.run _ X.stack _ _ ⟨Value.ref (s.heap.objs.size + 1) :: us, []⟩ _ _ _ (E σ) (hr.make C us []) (I2.env0.make C us []) b r2 hq) ?_
  intro r s' hq'
  cases r with
  | error e => exact hx σ pins _ _ e s' I2 hq'
  | ok fl =>
    cases fl with
    | ret u =>
      obtain ⟨v, H', I3, rv, ev, q3⟩ := I2.after hq'
      subst ev
      exact ⟨rv, ⟨V.ref (s.heap.objs.size + 1), H', I3, rfl, q3⟩⟩
    | next => exact hq'.elim
    | brk => exact hq'.elim
    | cont => exact hq'.elim
end

/-! ### d.pop(t), t a tuple that is a key -/
section
variable {X : Cx}
def rPop1 : V → List V → Hp → VK → Prop := fun x xs H Q => ∃ (a : Addr) (kvs : List (List L2.Key × V)) (k : List L2.Key) (b : Addr) (v : V),
  x = .ref a ∧ xs = [.ref b] ∧ H a = some (.dT kvs) ∧ H b = some (.tup (k.map kV)) ∧ valV kvs k = some v ∧ Q v (upd H a (.dT (dropK kvs k)))
theorem meetsPop1 {prog : Program} {w : World} {K : Type} [DecidableEq K] {knd : HeapKind prog w K} {d b : Addr} {k : K} :
    MeetsIn prog w (Builtin.«dict.pop» ⟨[.ref d, .ref b], []⟩) (fun A R s => ∃ (xs : List (K × Addr × Value)) (p : Addr × Value), knd.room A.in1 ∧ knd.is s.heap k b ∧
      s.heap.DictOfH knd d xs ∧ xs.length ≤ sizeLine ∧ atKey xs k = some p ∧
      ∀ h' tk, h'.DictOfH knd d (DT.dropH xs k) → Heap.SameBut d s.heap h' → R (.ok (.ret p.2)) { s with heap := h', toks := tk }) := by
  refine .of_wp ?_
  rintro A R s ⟨xs, p, hu, hkey, hm, hsz, hp, hgo⟩
  obtain ⟨o, es, ep, ho, hc, hdat, he, his, hn⟩ := id hm
  have hes : es.size = xs.length := size_of_entries he
  have part : (keyPart (Value.ref b)).isSome = false := rfl
  unfold Builtin.«dict.pop»
  refine wpAny_bind ?_
  unfold Builtin.Dict.keyAndDefault
  refine wpAny_bind (wpAny_notOrdered_dict hm.typeIs ?_)
  show wpAny _ _ (pure (d, Value.ref b, none)) _ _ s
  refine wpAny_pure ?_
  simp only [part, Bool.false_eq_true, if_false]
  refine wpAny_bind (wpAny_dictEntries ho hdat (wpAny_bind (wpAny_pure ?_)))
  have hem : es.isEmpty = false := by
    cases q : es.isEmpty with
    | false => rfl
    | true =>
      have z : es.size = 0 := by simpa using q
      have z2 : xs = [] := List.length_eq_zero_iff.mp (by omega)
      subst z2
      exact absurd hp (by simp [atKey])
  rw [hem]
  simp only [Bool.false_eq_true, if_false]
  refine wpAny_bind (DT.takeH hu hkey hm hsz (fun no => ?_) (fun p' e hp' hev h' hm' hs' => ?_))
  · rw [no] at hp
    exact nomatch hp
  · have ep : p' = p := Option.some.inj (hp'.symm.trans hp)
    subst ep
    simp only [Option.isNone_some, Bool.false_eq_true, if_false]
    refine wpAny_bind (wpAny_letGo (wpAny_pure ⟨e.val, rfl, ?_⟩))
    rw [hev]
    exact hgo h' _ hm' hs'
theorem mt_pop1 (hu : X.A.units + 1 < cLine) : MtR X "dict.pop" rPop1 := by
  intro pins s σ H x xs v us Q I rx rxs h
  obtain ⟨a, kvs, k, b, v0, rfl, rfl, ha, hb, hv, q⟩ := h
  cases rx
  obtain ⟨u1, rfl, r1⟩ := vals1 rxs
  cases r1
  obtain ⟨z, hd, xs', rel, dd⟩ := dt_of I.hok ha
  have hz : xs'.length ≤ sizeLine := by rw [← Paired.length rel]; exact z
  obtain ⟨p, hp, rv⟩ : ∃ p, atKey xs' k = some p ∧ RelV v0 p.2 := by
    have r := rel.val k
    rw [hv] at r
    cases e : atKey xs' k with
    | none =>
      rw [e] at r
      exact (show False from r).elim
    | some p =>
      rw [e] at r
      exact ⟨p, rfl, r⟩
  refine call_meetsIn PySem.F.slot_dict_pop dd.typeIs PySem.F.entry_dict_pop (PySem.F.args_dict_pop_2 _ _) (meetsPop1 (knd := tupleKind (mixKind X.prog X.w)) (k := k)) ?_
  refine ⟨xs', p, tupleKind_room_in1 hu, key_of I.hok hb, dd, hz, hp, ?_⟩
  intro h' tk dd' hs
  obtain ⟨o, es, ep, hq, h2, h3, h4, _, h5⟩ := dd'
  have keepT : ∀ (c : Addr) (ys : List V), H c = some (.tup ys) → upd H a (.dT (dropK kvs k)) c = some (.tup ys) := by
    intro c ys ec
    rw [upd_ne (ne_of ec ha (fun z => nomatch z))]
    exact ec
  have I2 : Inv X pins σ (upd H a (.dT (dropK kvs k))) { s with heap := h', toks := tk } :=
    d_write I (by rw [ha]; exact True.intro) hs ⟨o, hq⟩ ⟨Nat.le_trans (dropK_le kvs k) z, hd, _, (L2.DX.KT_drop k rel).keeps keepT, o, es, ep, hq, h2, h3, h4, h5⟩
  show EP X pins σ Q p.2 _
  exact ⟨v0, _, I2, rv, q⟩
end
end KT

/-! ### l.remove(x) of data, x in l -/
namespace KT
open PySem PySem.Spec PyProof.Rows L2
section
variable {X : Cx}
def rRemD (K : PySem.W.Frag) : V → List V → Hp → VK → Prop := fun x xs H Q => ∃ (l : Addr) (ys : List V) (y : V) (ds : List PyData) (d : PyData) (j : Nat),
  x = .ref l ∧ xs = [y] ∧ H l = some (.lst ys) ∧ DpAll K H ys ds ∧ Dp K H y d ∧ PyData.plainAll ds = true ∧ d.plain = true ∧ d.depth ≤ 64 ∧
  SeqAt.dataPlace ds d = some j ∧ Q .non (upd H l (.lst (ys.eraseIdx j)))
theorem mt_removeD (hu : X.A.units + 65 < cLine) : MtR X "list.remove" (rRemD X.K) := by
  intro pins s σ H x xs v us Q I rx rxs h
  obtain ⟨l, ys, y, ds, d, j, rfl, rfl, hl, ha, hy, pl, pd, dep, hj, q⟩ := h
  cases rx
  obtain ⟨u, rfl, ru⟩ := vals1 rxs
  obtain ⟨bs, r1⟩ := Dp.reads I d y u hy ru
  obtain ⟨z, its, n, rv, hlen, e0⟩ := I.lstM hl
  obtain ⟨as, r2⟩ := Dp.readsAll I ds _ its ha rv
  have hroom : X.A.units + 1 + min (PyData.depthAll ds) d.depth < cLine := by
    have := Nat.min_le_right (PyData.depthAll ds) d.depth
    omega
  refine SeqAt.remove_list_data (vs := its.toArray) ⟨_, e0, rfl, n, rfl⟩ r2 r1 pl pd hroom hj (by rw [List.size_toArray, ← hlen]; exact z) ?_
  refine ⟨.non, _, I.lset (its' := its.eraseIdx j) hl e0 ?_ (rv.eraseIdx j) ?_, rfl, q⟩
  · show its.toArray.eraseIdxIfInBounds j = (its.eraseIdx j).toArray
    rw [List.eraseIdxIfInBounds_toArray]
  · have := List.length_eraseIdx_le ys j
    omega
end

/-! ### a def called in an except suite, with the exception as its argument -/
section
open L2H
structure FnP (P : Program) (w : World) (K : PySem.W.Frag) (mg : Str → Option Value) (base : Heap) (k : Nat) (f : Addr) (fd : FuncData)
    (ps : List Str) (sp : Addr → Value → Option Addr → Sp) : Prop where
  len : ∀ a cls d vs H Q E, sp a cls d vs H Q E → vs.length = ps.length
  run : ∀ (A : Around) (outer : List Env) (s : Shared) (H : Hp) (args : Args) (us : List Value) (vs : List V) (Q : VK) (E : XK)
    (p : Addr × Obj) (cls : Value) (d : Option Addr), RoomH k A → PinOk outer H s p → Zc cls d p.2 → (∃ fv, p.2.data = .fields fv) →
    Env0 P w K mg base A outer s H → BindsTo s fd args (ps.zip us) → Vals vs us →
    sp p.1 cls d vs H Q E → codeAny (model P w) A (.call (.ref f) args) (CR CX0 outer P w H s Q E) s
theorem okP {P : Program} {w : World} {K : PySem.W.Frag} {mg : Str → Option Value} {base : Heap} {x qual : Str} {st : Stmt} {f : Addr}
    {fd : FuncData} {N ps : List Str} {k : Nat} {sp : Addr → Value → Option Addr → Sp}
    (F : Fun K x qual st f fd) (S : FnScope N ps (defScope st)) (len : ∀ a cls d vs H Q E, sp a cls d vs H Q E → vs.length = ps.length)
    (body : ∀ (cdv : Value) (A : Around) (outer : List Env) (s : Shared) (H : Hp) (vs : List V) (Q : VK) (E : XK) (p : Addr × Obj)
      (cls : Value) (d : Option Addr), RoomH k (A.deeper (envOfC qual (defScope st) s.heap.objs.size f cdv)) → Zc cls d p.2 →
      (∃ fv, p.2.data = .fields fv) → sp p.1 cls d vs H Q E →
      ∃ t, PSs (cxH CX0 P w K mg base N qual (defScope st) f cdv A outer s H E p) (defBody st) t ∧
        t { nx := fun _ H' => Q .non H', rt := Q } (L2.start N vs) H) :
    FnP P w K mg base (k + 1) f fd ps sp := by
  obtain ⟨oc, od, kV, doc, pm, an, cdv, ct, osl, rfl, lk, hcd⟩ := F.ex
  refine ⟨len, ?_⟩
  intro A outer s H args us vs Q E p cls d hr hpin hz hf e0 hb r hsp
  have hl := len _ _ _ _ _ _ _ hsp
  have kb : ∀ b o, base.get? b = some o → s.heap.get? b = some o := fun b o e => (e0.bs b o e).1
  have KX : K.In s.heap := e0.mod.kin.keeps kb
  have lim : s.heap.NoLimit := e0.mod.nolimit.keeps kb
  refine codeAny_call_function hr.depth (KX _ _ lk) rfl S.co S.gen rfl (PySem.W.codeRec_of KX hcd) (hb _ _ _ _ ?_)
  refine wpAny_newFunctionEnv_cells S.kind ?kinds ?go
  case kinds =>
    rintro ⟨n, v⟩ hy
    rcases S.par n (List.of_mem_zip hy).1 with q | q
    · exact .inl q
    · exact .inr ⟨q, PySem.W.cellsFrom_some _ _ _ (.inl q)⟩
  intro env he s1 xin
  subst he
  refine ⟨lim.keeps xin.toInCall.keep, codeAny_func ?_⟩
  obtain ⟨t, ht, hq⟩ := body cdv A outer s H vs Q E p cls d (hr.deeper _) hz hf hsp
  have I := inv_startH (CX := CX0) (E := E) (N := N) (qual := qual) (f := f) (cd := cdv) S hpin e0 hl r xin
  refine wpAny_mono (ht.run [] s1 (L2.start N vs) H _ I hq) ?_ (fun e s' hs => hs)
  intro fl s' hs
  cases fl with
  | ret u =>
    obtain ⟨v, σ', H', J, rv, q⟩ := hs
    exact ⟨v, H', J.os, J.bare, J.base, J.hok, rv, q⟩
  | next =>
    obtain ⟨σ', H', J, q⟩ := hs
    exact ⟨V.non, H', J.os, J.bare, J.base, J.hok, rfl, q⟩
  | brk =>
    obtain ⟨_, _, _, q⟩ := hs
    exact q.elim
  | cont =>
    obtain ⟨_, _, _, q⟩ := hs
    exact q.elim
variable {X : Cx} {k : Nat} {f : Addr} {fd : FuncData} {ps : List Str} {sp : Addr → Value → Option Addr → Sp} {x : Str} {q pos : Pos} {e : Expr}
  {es : List Expr} {t : TA} {p : Addr × Obj} {cls : Value} {d : Option Addr}
def tCallP (sp : Addr → Value → Option Addr → Sp) (a : Addr) (cls : Value) (d : Option Addr) (t : TA) : TE := fun σ H Q => t σ H fun vs H1 => sp a cls d vs H1 Q E0
theorem pe_callP (F : FnP X.prog X.w X.K X.mg X.base k f fd ps sp) (hr : RoomH k X.A) (hp : p ∈ X.pn) (hz : Zc cls d p.2) (hf : ∃ fv, p.2.data = .fields fv)
    (hg : Gl X x) (hm : X.mg x = some (.ref f)) (hk : PySem.W.keepIn X.K (.ref f) = true) (hb : Binds X.K fd ps [])
    (ha : PA X (e :: es) t) (hdb : (x == ("__debug__" : Str)) = false := by decide)
    (he : starEach (e :: es) X.env = (false, eval e X.env) :: starEach es X.env := by rfl)
    (hpl : (backTo pos (starEach es X.env)).any (·.1) = false := by rfl) :
    PE X (.Call (.Name x q) (e :: es) [] pos) (tCallP sp p.1 cls d t) := by
  constructor
  intro pins s σ H Q I h
  refine wpAny_Call_Name_kw (ld_glob I hg hm ?_ hdb)
  refine PySem.W.callWith_K (h₀ := X.base) I.ok.mod.kin hk (thn (ha.run pos pins s σ H _ I h) ?_) he hpl
  rintro us s1 ⟨vs, H1, I1, r, h1⟩
  refine ⟨I1.kIn, ?_⟩
  have hl : us.length = ps.length := by rw [← r.length]; exact F.len _ _ _ _ _ _ _ h1
  have b := hb s1 us I1.kIn (by rw [List.append_nil]; exact hl)
  rw [List.append_nil] at b
  have P1 := I1.pin p (List.mem_append_left _ hp)
  have hpin : PinOk X.stack H1 s1 p := ⟨P1.1, P1.2.1, fun hm => (List.mem_cons.mp (I1.stkSub p.1 hm)).elim P1.2.2.1 P1.2.2.2.1, P1.2.2.2.2⟩
  refine wpAny_call (codeAny_mono (F.run X.A X.stack s1 H1 ⟨us, []⟩ us vs Q E0 p cls d hr hpin hz hf I1.env0 b r h1) ?_)
  intro r s' hq
  cases r with
  | error e => exact hq.elim
  | ok fl =>
    cases fl with
    | ret u => exact I1.after hq
    | next => exact False.elim hq
    | brk => exact False.elim hq
    | cont => exact False.elim hq
/-- isinstance(e, c), e a pinned exception -/
theorem call_isP {D : Addr} (hp : p ∈ X.pn) (C : ExcC X.K D) (hz : Zc (.ref D) none p.2) (hf : ∃ vs, p.2.data = .fields vs) :
    CallR X (.builtin "isinstance") (rIsE X.K D p.1) := by
  obtain ⟨a, oe⟩ := p
  intro pins s σ H xs us Q I r h
  obtain ⟨c, cv, b, rfl, hcv, ek, h1⟩ := h
  obtain ⟨u1, u2, rfl, r1, r2⟩ := vals2 r
  cases r1
  have ec := hcv _ r2
  subst ec
  have hget := (I.pin (a, oe) (List.mem_append_left _ hp)).1
  obtain ⟨vs, hv⟩ := hf
  have J : PySem.W.InstAt s.heap a oe D none := by
    obtain ⟨oc, od, oda, osl⟩ := oe
    obtain ⟨h1, h2⟩ := hz
    dsimp only at h1 h2 hv
    subst h1 h2 hv
    exact ⟨hget, rfl, rfl, trivial⟩
  refine PySem.W.kia_one (PySem.W.handS_kitx_exc C.hg C.hk C.hs C.hd C.ha C.hn C.ht C.hm) I.kIn J ek (fun z => nomatch z) ?_
  intro tk
  exact ⟨.bl b, H, I.kept (t' := tk) fun _ _ z => z, rfl, h1⟩
end
end KT

/-! pairs of guests, heaps, bundles -/
namespace KT
open PySem PySem.Spec PyProof.Rows L2

/-! ### plain: pairs -/
abbrev Pr := Nat × Nat
def nrm (i j : Nat) : Pr := (min i j, max i j)
def WF (n : Nat) (L : List Pr) : Prop := L.Nodup ∧ ∀ p ∈ L, p.1 < p.2 ∧ p.2 < n
theorem nrm_comm (i j : Nat) : nrm i j = nrm j i := by
  unfold nrm
  rw [Nat.min_comm, Nat.max_comm]
theorem nrm_lt {i j : Nat} (h : i < j) : nrm i j = (i, j) := by
  unfold nrm
  rw [Nat.min_eq_left (by omega), Nat.max_eq_right (by omega)]
theorem nrm_ok {i j n : Nat} (h : i ≠ j) (hi : i < n) (hj : j < n) : (nrm i j).1 < (nrm i j).2 ∧ (nrm i j).2 < n := by
  show min i j < max i j ∧ max i j < n
  omega
theorem min_py (i j : Nat) : (if (j : Int) < (i : Int) then (j : Int) else (i : Int)) = ((min i j : Nat) : Int) := by
  split <;> omega
theorem max_py (i j : Nat) : (if (j : Int) > (i : Int) then (j : Int) else (i : Int)) = ((max i j : Nat) : Int) := by
  split <;> omega
theorem len_bound : ∀ (m : Nat) (l : List Nat), l.Nodup → (∀ x ∈ l, x < m) → l.length ≤ m
  | 0, [], _, _ => Nat.le_refl _
  | 0, a :: l, _, h => absurd (h a List.mem_cons_self) (Nat.not_lt_zero _)
  | m + 1, l, nd, h => by
    by_cases hm : m ∈ l
    · have h1 := len_bound m (l.erase m) (nd.erase m) (fun x hx => by
        have a := h x (List.mem_of_mem_erase hx)
        have b : x ≠ m := fun e => by
          rw [e] at hx
          exact (List.Nodup.not_mem_erase nd) hx
        omega)
      rw [List.length_erase_of_mem hm] at h1
      omega
    · have h1 := len_bound m l nd (fun x hx => by
        have a := h x hx
        have b : x ≠ m := fun e => hm (by rw [← e]; exact hx)
        omega)
      omega
theorem map_nodup {α β : Type} {f : α → β} : ∀ {l : List α}, (∀ a ∈ l, ∀ b ∈ l, f a = f b → a = b) → l.Nodup → (l.map f).Nodup
  | [], _, _ => by simp
  | a :: l, inj, nd => by
    rw [List.nodup_cons] at nd
    rw [List.map_cons, List.nodup_cons]
    refine ⟨fun m => ?_, map_nodup (fun x hx y hy => inj x (List.mem_cons_of_mem _ hx) y (List.mem_cons_of_mem _ hy)) nd.2⟩
    obtain ⟨b, hb, e⟩ := List.mem_map.mp m
    have := inj b (List.mem_cons_of_mem _ hb) a List.mem_cons_self e
    exact nd.1 (by rw [← this]; exact hb)
theorem WF.len {n : Nat} {L : List Pr} (h : WF n L) (hn : n ≤ 20) : L.length ≤ 400 := by
  have h1 := len_bound 400 (L.map fun p => p.1 * 20 + p.2) (map_nodup (fun a ha b hb e => by
    have x := h.2 a ha
    have y := h.2 b hb
    obtain ⟨a1, a2⟩ := a
    obtain ⟨b1, b2⟩ := b
    simp only at x y e
    have e1 : a1 = b1 := by omega
    have e2 : a2 = b2 := by omega
    rw [e1, e2]) h.1) (fun x hx => by
      obtain ⟨p, hp, rfl⟩ := List.mem_map.mp hx
      have := h.2 p hp
      omega)
  rwa [List.length_map] at h1
theorem WF.nil (n : Nat) : WF n [] := ⟨List.nodup_nil, fun p hp => by cases hp⟩
theorem WF.snoc {n : Nat} {L : List Pr} {q : Pr} (h : WF n L) (hq : q.1 < q.2 ∧ q.2 < n) (nq : q ∉ L) : WF n (L ++ [q]) := by
  refine ⟨nd_snoc h.1 nq, fun p hp => ?_⟩
  rcases List.mem_append.mp hp with z | z
  · exact h.2 p z
  · rw [List.mem_singleton.mp z]
    exact hq
theorem WF.erase {n : Nat} {L : List Pr} (q : Pr) (h : WF n L) : WF n (L.erase q) := ⟨h.1.erase q, fun p hp => h.2 p (List.mem_of_mem_erase hp)⟩

/-! ### the dict of a hall -/
def kP (p : Pr) : List L2.Key := [Sum.inl (p.1 : Int), Sum.inl (p.2 : Int)]
def kvs (L : List Pr) : List (List L2.Key × V) := L.map fun p => (kP p, V.bl true)
theorem kP_inj {p q : Pr} (h : kP p = kP q) : p = q := by
  obtain ⟨a, b⟩ := p
  obtain ⟨c, d⟩ := q
  injection h with h1 h2
  injection h2 with h2 _
  have e1 := Int.ofNat.inj (Sum.inl.inj h1)
  have e2 := Int.ofNat.inj (Sum.inl.inj h2)
  exact Prod.ext e1 e2
theorem kP_map (p : Pr) : (kP p).map kV = [V.int (p.1 : Int), V.int (p.2 : Int)] := rfl
theorem valV_kvs (q : Pr) : ∀ L : List Pr, valV (kvs L) (kP q) = if q ∈ L then some (V.bl true) else none
  | [] => rfl
  | p :: L => by
    show valV ((kP p, V.bl true) :: kvs L) (kP q) = _
    by_cases e : p = q
    · subst e
      rw [valV_pos rfl, if_pos List.mem_cons_self]
    · rw [valV_neg (fun z => e (kP_inj z)), valV_kvs q L]
      by_cases m : q ∈ L
      · rw [if_pos m, if_pos (List.mem_cons_of_mem _ m)]
      · rw [if_neg m, if_neg (fun z => (List.mem_cons.mp z).elim (fun y => e y.symm) m)]
theorem isSome_kvs (q : Pr) (L : List Pr) : (valV (kvs L) (kP q)).isSome = decide (q ∈ L) := by
  rw [valV_kvs]
  by_cases m : q ∈ L
  · rw [if_pos m, decide_eq_true m] <;> rfl
  · rw [if_neg m, decide_eq_false m] <;> rfl
theorem put_kvs {q : Pr} {L : List Pr} (m : q ∉ L) : putK (kvs L) (kP q) (V.bl true) = kvs (L ++ [q]) := by
  rw [putK_new _ (by rw [valV_kvs, if_neg m])]
  unfold kvs
  rw [List.map_append]
  rfl
theorem drop_kvs {q : Pr} : ∀ {L : List Pr}, L.Nodup → dropK (kvs L) (kP q) = kvs (L.erase q)
  | [], _ => rfl
  | p :: L, nd => by
    have nd2 := List.nodup_cons.mp nd
    show dropK ((kP p, V.bl true) :: kvs L) (kP q) = _
    by_cases e : p = q
    · subst e
      rw [dropK_pos rfl, List.erase_cons_head]
      refine dropK_no fun m => nd2.1 ?_
      obtain ⟨z, hz, ez⟩ := List.mem_map.mp m
      obtain ⟨r, hr, er⟩ := List.mem_map.mp hz
      subst er
      rw [← kP_inj ez]
      exact hr
    · rw [dropK_neg (fun z => e (kP_inj z)), List.erase_cons_tail (by simpa using e), drop_kvs nd2.2]
      rfl
theorem length_kvs (L : List Pr) : (kvs L).length = L.length := List.length_map _

/-! ### heaps -/
def Keep (D : List Addr) (H H' : Hp) : Prop := ∀ b o, b ∉ D → H b = some o → H' b = some o
theorem Keep.of {H H' : Hp} (D : List Addr) (s : Same H H') : Keep D H H' := fun b o _ e => s b o e
theorem Keep.same {H H' : Hp} (k : Keep [] H H') : Same H H' := fun b o e => k b o (by simp) e
theorem Keep.refl (D : List Addr) (H : Hp) : Keep D H H := fun _ _ _ e => e
theorem Keep.trans {D : List Addr} {H H1 H2 : Hp} (a : Keep D H H1) (b : Keep D H1 H2) : Keep D H H2 := fun c o n e => b c o n (a c o n e)
theorem Keep.mono {D D' : List Addr} {H H1 : Hp} (a : Keep D H H1) (h : ∀ b ∈ D, b ∈ D') : Keep D' H H1 := fun c o n e => a c o (fun m => n (h c m)) e
theorem Keep.at1 {d : Addr} {H H' : Hp} (k : Keep [d] H H') {b : Addr} {o : HO} (n : b ≠ d) (e : H b = some o) : H' b = some o := k b o (by simpa using n) e
theorem same_new {H : Hp} {p : Addr} (o : HO) (h : H p = none) : Same H (upd H p o) := fun b u e => by
  rw [upd_ne (ne_of_none e h)]
  exact e
theorem Keep.put {H : Hp} (d : Addr) (o : HO) : Keep [d] H (upd H d o) := fun b u n e => by
  rw [upd_ne (by simpa using n)]
  exact e
/-- a new object that is changed later -/
theorem same_keepNew {H H1 H2 : Hp} {p : Addr} (s : Same H H1) (hp : H p = none) (k : Keep [p] H1 H2) : Same H H2 := fun b o e =>
  k.at1 (ne_of_none e hp) (s b o e)

/-! ### a hall -/
def hf (n : Nat) (d : Addr) : List (Str × V) := putF "pairs" (.ref d) (putF "count" (.int (n : Int)) [])
theorem cp_ : ¬ (("count" : Str) = "pairs") := by decide +kernel
theorem pc_ : ¬ (("pairs" : Str) = "count") := by decide +kernel
theorem hf_count (n : Nat) (d : Addr) : (hf n d).lookup ("count" : Str) = some (.int (n : Int)) := by
  unfold hf
  rw [lookup_putF, if_neg cp_, lookup_putF, if_pos rfl]
theorem hf_pairs (n : Nat) (d : Addr) : (hf n d).lookup ("pairs" : Str) = some (.ref d) := by
  unfold hf
  rw [lookup_putF, if_pos rfl]
theorem hf_no (n : Nat) (d : Addr) {m : Str} (h1 : ¬ m = "pairs") (h2 : ¬ m = "count") : (hf n d).lookup m = none := by
  unfold hf
  rw [lookup_putF, if_neg h1, lookup_putF, if_neg h2]
  rfl
structure HallAt (C : Addr) (H : Hp) (p : Addr) (n : Nat) (d : Addr) (L : List Pr) : Prop where
  ins : ∃ dx, H p = some (.ins C dx (hf n d))
  dic : H d = some (.dT (kvs L))
  wf : WF n L
  lo : 1 ≤ n
  hi : n ≤ 20
section
variable {C : Addr} {H H' : Hp} {p d : Addr} {n : Nat} {L : List Pr}
theorem HallAt.ne (h : HallAt C H p n d L) : p ≠ d := by
  obtain ⟨dx, e⟩ := h.ins
  exact ne_of e h.dic (fun z => nomatch z)
theorem HallAt.same (h : HallAt C H p n d L) (s : Same H H') : HallAt C H' p n d L :=
  ⟨let ⟨dx, e⟩ := h.ins; ⟨dx, s _ _ e⟩, s _ _ h.dic, h.wf, h.lo, h.hi⟩
theorem HallAt.keep {D : List Addr} (h : HallAt C H p n d L) (k : Keep D H H') (hp : p ∉ D) (hd : d ∉ D) : HallAt C H' p n d L :=
  ⟨let ⟨dx, e⟩ := h.ins; ⟨dx, k _ _ hp e⟩, k _ _ hd h.dic, h.wf, h.lo, h.hi⟩
end

/-! ### lists of pairs -/
def PairV (H : Hp) (v : V) (p : Pr) : Prop := ∃ a, v = .ref a ∧ H a = some (.tup [.int (p.1 : Int), .int (p.2 : Int)])
abbrev PairVs (H : Hp) : List V → List Pr → Prop := Paired (PairV H)
structure PairsAt (H : Hp) (l : Addr) (E : List Pr) : Prop where
  ex : ∃ xs, H l = some (.lst xs) ∧ PairVs H xs E
theorem PairVs.keep {H H' : Hp} (k : ∀ b ys, H b = some (.tup ys) → H' b = some (.tup ys)) {xs : List V} {E : List Pr} (h : PairVs H xs E) : PairVs H' xs E :=
  Paired.mapP h fun v p ⟨a, e, z⟩ => ⟨a, e, k _ _ z⟩
theorem PairVs.snoc {H : Hp} : ∀ {xs : List V} {E : List Pr} {v : V} {p : Pr}, PairVs H xs E → PairV H v p → PairVs H (xs ++ [v]) (E ++ [p])
  | _, _, _, _, .nil, h => .cons h .nil
  | _, _, _, _, .cons a r, h => .cons a (PairVs.snoc r h)
theorem PairVs.eraseIdx {H : Hp} : ∀ {xs : List V} {E : List Pr} (j : Nat), PairVs H xs E → PairVs H (xs.eraseIdx j) (E.eraseIdx j)
  | _, _, _, .nil => .nil
  | _, _, 0, .cons _ r => r
  | _, _, j + 1, .cons a r => .cons a (PairVs.eraseIdx j r)
theorem PairVs.get {H : Hp} : ∀ {xs : List V} {E : List Pr} {i : Nat} {v : V}, PairVs H xs E → xs[i]? = some v → ∃ p, E[i]? = some p ∧ PairV H v p
  | _, _, _, _, .nil, e => by simp at e
  | _, _, 0, _, .cons a _, e => by
    simp at e
    subst e
    exact ⟨_, rfl, a⟩
  | _, _, i + 1, v, .cons _ r, e => PairVs.get (i := i) (v := v) r (by simpa using e)
theorem PairsAt.same {H H' : Hp} {l : Addr} {E : List Pr} (h : PairsAt H l E) (s : Same H H') : PairsAt H' l E := by
  obtain ⟨xs, e, r⟩ := h.ex
  exact ⟨xs, s _ _ e, r.keep fun b ys z => s _ _ z⟩
/-- kept where lists and dicts of D alone change -/
theorem PairsAt.keep {D : List Addr} {H H' : Hp} {l : Addr} {E : List Pr} (h : PairsAt H l E) (k : Keep D H H') (hl : l ∉ D) (hD : ∀ b ∈ D, ∀ ys, H b ≠ some (.tup ys)) : PairsAt H' l E := by
  obtain ⟨xs, e, r⟩ := h.ex
  exact ⟨xs, k _ _ hl e, r.keep fun b ys z => k _ _ (fun m => hD b m ys z) z⟩
def pD (p : Pr) : PyData := .tuple [.int (p.1 : Int), .int (p.2 : Int)]
theorem PairV.dp {K : PySem.W.Frag} {H : Hp} {v : V} {p : Pr} (h : PairV H v p) : Dp K H v (pD p) := by
  obtain ⟨a, rfl, e⟩ := h
  exact .tup (SqT.of e) (.cons (.int _) (.cons (.int _) .nil))
theorem PairVs.dp {K : PySem.W.Frag} {H : Hp} : ∀ {xs : List V} {E : List Pr}, PairVs H xs E → DpAll K H xs (E.map pD)
  | _, _, .nil => .nil
  | _, _, .cons a r => .cons a.dp (PairVs.dp r)
theorem PairsAt.dp {K : PySem.W.Frag} {H : Hp} {l : Addr} {E : List Pr} (h : PairsAt H l E) : Dp K H (.ref l) (.list (E.map pD)) := by
  obtain ⟨xs, e, r⟩ := h.ex
  exact .lst (SqL.of e) r.dp
theorem pD_eqv (p q : Pr) : PyData.eqv (pD p) (pD q) = decide (p = q) := by
  obtain ⟨a, b⟩ := p
  obtain ⟨c, d⟩ := q
  have e : PyData.eqv (pD (a, b)) (pD (c, d)) = (((a : Int) == (c : Int)) && (((b : Int) == (d : Int)) && true)) := by
    simp only [pD, PyData.eqv, PyData.eqvAll]
  rw [e, Bool.eq_iff_iff]
  simp only [Bool.and_true, Bool.and_eq_true, beq_iff_eq, decide_eq_true_eq, Prod.mk.injEq]
  omega
theorem any_pD (q : Pr) : ∀ E : List Pr, ((E.map pD).any fun z => PyData.eqv z (pD q)) = decide (q ∈ E)
  | [] => by simp
  | p :: E => by
    rw [List.map_cons, List.any_cons, any_pD q E, pD_eqv, Bool.eq_iff_iff]
    simp only [Bool.or_eq_true, decide_eq_true_eq, List.mem_cons]
    constructor
    · rintro (h | h)
      · exact .inl h.symm
      · exact .inr h
    · rintro (h | h)
      · exact .inl h.symm
      · exact .inr h
theorem pD_lay (p : Pr) : (pD p).canLay0 = true := by simp [pD, PyData.canLay0, PyData.canLayAll0]
theorem pD_depth (p : Pr) : (pD p).depth = 1 := by simp [pD, PyData.depth, PyData.depthAll]
theorem pDs_lay : ∀ E : List Pr, PyData.canLayAll0 (E.map pD) = true
  | [] => by simp [PyData.canLayAll0]
  | z :: zs => by simp [PyData.canLayAll0, pD_lay z, pDs_lay zs]
theorem pDs_depth : ∀ E : List Pr, PyData.depthAll (E.map pD) ≤ 1
  | [] => by simp [PyData.depthAll]
  | z :: zs => by
    have h1 := pDs_depth zs
    have h2 := pD_depth z
    simp only [List.map_cons, PyData.depthAll]
    omega
theorem pD_shaped (p : Pr) : SeqAt.shaped (pD p) = true := by
  have h := pD_depth p
  unfold SeqAt.shaped
  rw [pD_lay, h] <;> rfl
theorem pDs_shaped (E : List Pr) : SeqAt.shaped (.list (E.map pD)) = true := by
  have h1 := pDs_depth E
  have h2 : PyData.depth (.list (E.map pD)) ≤ 64 := by
    simp only [PyData.depth]
    omega
  have h3 : PyData.canLay0 (.list (E.map pD)) = true := by
    simp only [PyData.canLay0]
    exact pDs_lay E
  unfold SeqAt.shaped
  rw [h3, decide_eq_true h2] <;> rfl
theorem pDs_plain : ∀ E : List Pr, PyData.plainAll (E.map pD) = true
  | [] => by simp [PyData.plainAll]
  | z :: zs => by
    have h := pDs_plain zs
    simp [PyData.plainAll, PyData.plain, pD, h]
theorem place_pD {q : Pr} : ∀ {E : List Pr}, q ∈ E → ∃ j, SeqAt.dataPlace (E.map pD) (pD q) = some j ∧ E.eraseIdx j = E.erase q
  | [], h => by cases h
  | p :: E, h => by
    by_cases e : p = q
    · refine ⟨0, ?_, ?_⟩
      · unfold SeqAt.dataPlace
        rw [List.map_cons, List.findIdx?_cons, pD_eqv, e] <;> simp
      · subst e
        rw [List.erase_cons_head] <;> rfl
    · obtain ⟨j, h1, h2⟩ := place_pD (E := E) (q := q) ((List.mem_cons.mp h).resolve_left fun z => e z.symm)
      refine ⟨j + 1, ?_, ?_⟩
      · unfold SeqAt.dataPlace at h1 ⊢
        rw [List.map_cons, List.findIdx?_cons, pD_eqv, decide_eq_false e, h1] <;> simp
      · rw [List.erase_cons_tail (by simpa using e), ← h2] <;> rfl

/-! ### bundles: what a caller is given of a def -/
section
variable (P : Program) (w : World) (K : PySem.W.Frag) (mg : Str → Option Value) (base : Heap) (CX : CXT)
structure CalD (k : Nat) (x : Str) (sp : Sp) : Prop where
  ex : ∃ f fd ps, FnOk P w K mg base CX k f fd ps sp ∧ Binds K fd ps [] ∧ mg x = some (.ref f) ∧ PySem.W.keepIn K (.ref f) = true
structure MetD (C : Addr) (k : Nat) (m : Str) (sp : Sp) : Prop where
  ex : ∃ f fd ps, FnOk P w K mg base CX k f fd ps sp ∧ Binds K fd ps [] ∧ Meth K C m f
structure MakD (C : Addr) (k : Nat) (x : Str) (sp : Sp) : Prop where
  ex : ∃ f fd ps, Mk K C f ∧ FnOk P w K mg base CX k f fd ps sp ∧ Binds K fd ps [] ∧ mg x = some (.ref C)
end
section
variable {X : Cx} {CX : CXT} {k j : Nat} {C : Addr} {sp : Sp} {E : XK} {ES : L2.St → XK} {x m : Str} {p pos apos : Pos} {e o : Expr} {es : List Expr} {ta : TE} {t : TA}
theorem pc (c : CalD X.prog X.w X.K X.mg X.base CX k x sp) (hr : Room j X.A) (hx : Passes CX X E) (ha : PA X (e :: es) t) (hk : k ≤ j := by decide) (hg : Gl X x := by rfl)
    (hdb : (x == ("__debug__" : Str)) = false := by decide) (he : starEach (e :: es) X.env = (false, eval e X.env) :: starEach es X.env := by rfl) (hpl : (backTo pos (starEach es X.env)).any (·.1) = false := by rfl) :
    PE X (.Call (.Name x p) (e :: es) [] pos) (tCall sp [] E t) := by
  obtain ⟨f, fd, ps, F, hb, hm, kp⟩ := c.ex
  exact pe_call F (hr.mono hk) hg hm kp hb .nil hx ha hdb he hpl
theorem pcS (c : CalD X.prog X.w X.K X.mg X.base CX k x sp) (hr : Room j X.A) (hx : ∀ σ, PassesAt CX X σ (ES σ)) (ha : PA X (e :: es) t) (hk : k ≤ j := by decide) (hg : Gl X x := by rfl)
    (hdb : (x == ("__debug__" : Str)) = false := by decide) (he : starEach (e :: es) X.env = (false, eval e X.env) :: starEach es X.env := by rfl) (hpl : (backTo pos (starEach es X.env)).any (·.1) = false := by rfl) :
    PE X (.Call (.Name x p) (e :: es) [] pos) (tCallS sp ES t) := by
  obtain ⟨f, fd, ps, F, hb, hm, kp⟩ := c.ex
  exact pe_callS F (hr.mono hk) hg hm kp hb hx ha hdb he hpl
theorem pm {pl : Sem Bool} (he : PE X o ta) (c : Cls X.K C) (d : MetD X.prog X.w X.K X.mg X.base CX C k m sp) (hr : Room j X.A) (hx : Passes CX X E) (ha : PA X (e :: es) t) (hk : k ≤ j := by decide)
    (hst : starEach (e :: es) X.env = (false, eval e X.env) :: starEach es X.env := by rfl) (hpl : (backTo pos (starEach es X.env)).any (·.1) = false := by rfl)
    (ht : eval (.Call (.Attribute o m apos) (e :: es) [] pos) X.env = (do
      let ov ← eval o X.env
      standAt apos.atName
      let (f, first) ← holding [ov] (getMethod ov m pl)
      callWith pos f first (backTo pos (starEach (e :: es) X.env)) (backToKw pos (keywordEach [] X.env))) := by rfl) :
    PE X (.Call (.Attribute o m apos) (e :: es) [] pos) (tMeth C m sp [] E ta t) := by
  obtain ⟨f, fd, ps, F, hb, hm⟩ := d.ex
  exact pe_meth (pl := pl) he c hm F (hr.mono hk) hb .nil hx ha hst hpl ht
theorem pmS {pl : Sem Bool} (he : PE X o ta) (c : Cls X.K C) (d : MetD X.prog X.w X.K X.mg X.base CX C k m sp) (hr : Room j X.A) (hx : ∀ σ, PassesAt CX X σ (ES σ)) (ha : PA X (e :: es) t) (hk : k ≤ j := by decide)
    (hst : starEach (e :: es) X.env = (false, eval e X.env) :: starEach es X.env := by rfl) (hpl : (backTo pos (starEach es X.env)).any (·.1) = false := by rfl)
    (ht : eval (.Call (.Attribute o m apos) (e :: es) [] pos) X.env = (do
      let ov ← eval o X.env
      standAt apos.atName
      let (f, first) ← holding [ov] (getMethod ov m pl)
      callWith pos f first (backTo pos (starEach (e :: es) X.env)) (backToKw pos (keywordEach [] X.env))) := by rfl) :
    PE X (.Call (.Attribute o m apos) (e :: es) [] pos) (tMethS C m sp ES ta t) := by
  obtain ⟨f, fd, ps, F, hb, hm⟩ := d.ex
  exact pe_methS (pl := pl) he c hm F (hr.mono hk) hb hx ha hst hpl ht
theorem pm0 {pl : Sem Bool} (he : PE X o ta) (c : Cls X.K C) (d : MetD X.prog X.w X.K X.mg X.base CX C k m sp) (hr : Room j X.A) (hx : Passes CX X E) (hk : k ≤ j := by decide)
    (ht : eval (.Call (.Attribute o m apos) [] [] pos) X.env = (do
      let ov ← eval o X.env
      standAt apos.atName
      let (f, first) ← holding [ov] (getMethod ov m pl)
      callWith pos f first (backTo pos (starEach [] X.env)) (backToKw pos (keywordEach [] X.env))) := by rfl) :
    PE X (.Call (.Attribute o m apos) [] [] pos) (tMeth C m sp [] E ta tNil) := by
  obtain ⟨f, fd, ps, F, hb, hm⟩ := d.ex
  exact pe_meth0 (pl := pl) he c hm F (hr.mono hk) hb .nil hx ht
theorem pk (d : MakD X.prog X.w X.K X.mg X.base CX C k x sp) (hr : Room j X.A) (hx : Passes CX X E) (ha : PA X (e :: es) t) (hk : k + 1 ≤ j := by decide) (hg : Gl X x := by rfl)
    (hdb : (x == ("__debug__" : Str)) = false := by decide) (he : starEach (e :: es) X.env = (false, eval e X.env) :: starEach es X.env := by rfl) (hpl : (backTo pos (starEach es X.env)).any (·.1) = false := by rfl) :
    PE X (.Call (.Name x p) (e :: es) [] pos) (tMake C sp [] E t) := by
  obtain ⟨f, fd, ps, M, F, hb, hm⟩ := d.ex
  exact pe_make M F (hr.mono hk) hg hm hb .nil hx ha hdb he hpl
theorem pkS (d : MakD X.prog X.w X.K X.mg X.base CX C k x sp) (hr : Room j X.A) (hx : ∀ σ, PassesAt CX X σ (ES σ)) (ha : PA X (e :: es) t) (hk : k + 1 ≤ j := by decide) (hg : Gl X x := by rfl)
    (hdb : (x == ("__debug__" : Str)) = false := by decide) (he : starEach (e :: es) X.env = (false, eval e X.env) :: starEach es X.env := by rfl) (hpl : (backTo pos (starEach es X.env)).any (·.1) = false := by rfl) :
    PE X (.Call (.Name x p) (e :: es) [] pos) (tMakeS C sp ES t) := by
  obtain ⟨f, fd, ps, M, F, hb, hm⟩ := d.ex
  exact pe_makeS M F (hr.mono hk) hg hm hb hx ha hdb he hpl
end
/-- what a callee lets out leaves the def -/
theorem px {P : Program} {w : World} {K : PySem.W.Frag} {mg : Str → Option Value} {base : Heap} {N : List Str} {qual : Str} {scope : Scope} {f : Addr} {cd : Value} {A : Around}
    {outer : List Env} {s : Shared} {H : Hp} {E : XK} : Passes (L2N.CX P w) (cxOf (L2N.CX P w) P w K mg base N qual scope f cd A outer s H E) E :=
  L2N.passes_call (W := fun cls d _ H => E cls d H) (L2N.takes_of rfl rfl rfl rfl) (fun _ _ _ _ h => h)
/-- what is raised leaves the def -/
theorem tk {P : Program} {w : World} {K : PySem.W.Frag} {mg : Str → Option Value} {base : Heap} {N : List Str} {qual : Str} {scope : Scope} {f : Addr} {cd : Value} {A : Around}
    {outer : List Env} {s : Shared} {H : Hp} {E : XK} : L2N.Takes (cxOf (L2N.CX P w) P w K mg base N qual scope f cd A outer s H E) (fun cls d _ H => E cls d H) :=
  L2N.takes_of rfl rfl rfl rfl
/-- an own exception class of the text -/
structure ExcT (K : PySem.W.Frag) (mg : Str → Option Value) (x : Str) (c : Addr) : Prop where
  g : mg x = some (.ref c)
  e : PySem.W.excIn K c [.type "ValueError", .type "Exception", .type "BaseException", .type "object"] "ValueError.__new__" = true
  k : PySem.W.keepIn K (.ref c) = true
  b : PySem.W.subIn K (.ref c) (.type "BaseException") = some true
  t : PySem.W.typeIn K (.ref c) = some (.type "type")
theorem pr {X : Cx} {x m : Str} {c : Addr} {j : Nat} {p p2 pos pos2 : Pos} {W : WX} (T : ExcT X.K X.mg x c) (tk : L2N.Takes X W) (hc : X.calm = true := by rfl) (hg : Gl X x := by rfl)
    (hdb : (x == ("__debug__" : Str)) = false := by decide) :
    PS X (.Raise (some (.Call (.Name x p) [.Constant (.str m) j p2] [] pos)) none pos2) (fun _ σ H => W (.ref c) none σ H) :=
  L2N.ps_raise hc tk (L2N.pmk_own PySem.F.excBase_ValueError T.e T.g T.k (raises_own T.b T.t) hg hdb)
end KT

/-! what the hall's defs promise -/
namespace KT
open PySem PySem.Spec PyProof.Rows L2
/-- the facts of the program's own classes -/
structure HT (K : PySem.W.Frag) (mg : Str → Option Value) (C cNG cSG cKA cST cBH : Addr) : Prop where
  cl : Cls K C
  nC : NoAttr K C "count"
  nP : NoAttr K C "pairs"
  ng : ExcT K mg "NoGuest" cNG
  sg : ExcT K mg "SameGuest" cSG
  ka : ExcT K mg "KnowAlready" cKA
  st : ExcT K mg "Strangers" cST
  bh : ExcT K mg "BadHall" cBH
  gr : ∃ t, mg "GREATEST" = some (.int 20 t)
  min : mg "min" = none
  max : mg "max" = none
  range : mg "range" = none
  len : mg "len" = none
def isG (n : Nat) (z : Int) : Prop := 0 ≤ z ∧ z < (n : Int)
theorem isG.nat {n : Nat} {z : Int} (h : isG n z) : ∃ i : Nat, z = (i : Int) ∧ i < n := ⟨z.toNat, by have := h.1; omega, by have := h.1; have := h.2; omega⟩
theorem isG.of {n i : Nat} (h : i < n) : isG n (i : Int) := ⟨by omega, by omega⟩
theorem notG {n : Nat} {z : Int} (h : ¬ isG n z) : z < 0 ∨ (n : Int) ≤ z := by
  unfold isG at h
  omega
/-- Hall(many): the new instance at p -/
def spInit (C cBH : Addr) : Sp := fun vs H Q E => ∃ (p dx : Addr) (z : Int), vs = [.ref p, .int z] ∧ H p = some (.ins C dx []) ∧ H dx = some (.own p) ∧
  (¬ (1 ≤ z ∧ z ≤ 20) → E (.ref cBH) none H) ∧
  (∀ n : Nat, z = (n : Int) → 1 ≤ n → n ≤ 20 → ∀ H' d, Keep [p] H H' → H d = none → HallAt C H' p n d [] → Q .non H')
def spMany (C : Addr) : Sp := fun vs H Q _ => ∃ (p d : Addr) (n : Nat) (L : List Pr), vs = [.ref p] ∧ HallAt C H p n d L ∧ Q (.int (n : Int)) H
def spSee (C cNG : Addr) : Sp := fun vs H Q E => ∃ (p d : Addr) (n : Nat) (L : List Pr) (z : Int), vs = [.ref p, .int z] ∧ HallAt C H p n d L ∧
  (¬ isG n z → E (.ref cNG) none H) ∧ (isG n z → Q .non H)
def spSeeTwo (C cNG cSG : Addr) : Sp := fun vs H Q E => ∃ (p d : Addr) (n : Nat) (L : List Pr) (y z : Int), vs = [.ref p, .int y, .int z] ∧ HallAt C H p n d L ∧
  (¬ (isG n y ∧ isG n z) → E (.ref cNG) none H) ∧ (isG n y → isG n z → y = z → E (.ref cSG) none H) ∧ (isG n y → isG n z → y ≠ z → Q .non H)
def spKnow (C cNG cSG : Addr) : Sp := fun vs H Q E => ∃ (p d : Addr) (n : Nat) (L : List Pr) (y z : Int), vs = [.ref p, .int y, .int z] ∧ HallAt C H p n d L ∧
  (¬ (isG n y ∧ isG n z) → E (.ref cNG) none H) ∧ (isG n y → isG n z → y = z → E (.ref cSG) none H) ∧
  (∀ i j : Nat, y = (i : Int) → z = (j : Int) → i < n → j < n → i ≠ j → ∀ H', Same H H' → Q (.bl (decide (nrm i j ∈ L))) H')
def spMeet (C cNG cSG cKA : Addr) : Sp := fun vs H Q E => ∃ (p d : Addr) (n : Nat) (L : List Pr) (y z : Int), vs = [.ref p, .int y, .int z] ∧ HallAt C H p n d L ∧
  (¬ (isG n y ∧ isG n z) → E (.ref cNG) none H) ∧ (isG n y → isG n z → y = z → E (.ref cSG) none H) ∧
  (∀ i j : Nat, y = (i : Int) → z = (j : Int) → i < n → j < n → i ≠ j → nrm i j ∈ L → ∀ H', Same H H' → E (.ref cKA) none H') ∧
  (∀ i j : Nat, y = (i : Int) → z = (j : Int) → i < n → j < n → i ≠ j → nrm i j ∉ L → ∀ H', Keep [d] H H' → HallAt C H' p n d (L ++ [nrm i j]) → Q .non H')
def spPart (C cNG cSG cST : Addr) : Sp := fun vs H Q E => ∃ (p d : Addr) (n : Nat) (L : List Pr) (y z : Int), vs = [.ref p, .int y, .int z] ∧ HallAt C H p n d L ∧
  (¬ (isG n y ∧ isG n z) → E (.ref cNG) none H) ∧ (isG n y → isG n z → y = z → E (.ref cSG) none H) ∧
  (∀ i j : Nat, y = (i : Int) → z = (j : Int) → i < n → j < n → i ≠ j → nrm i j ∉ L → ∀ H', Same H H' → E (.ref cST) none H') ∧
  (∀ i j : Nat, y = (i : Int) → z = (j : Int) → i < n → j < n → i ≠ j → nrm i j ∈ L → ∀ H', Keep [d] H H' → HallAt C H' p n d (L.erase (nrm i j)) → Q .non H')
/-- the others whom g knows (k), or doesn't -/
def oth (k : Bool) (L : List Pr) (g o : Nat) : Bool := decide (o ≠ g) && (decide (nrm g o ∈ L) == k)
def others (k : Bool) (n : Nat) (L : List Pr) (g : Nat) : List Nat := (List.range n).filter (oth k L g)
theorem oth_iff {k : Bool} {L : List Pr} {g o : Nat} : oth k L g o = true ↔ o ≠ g ∧ decide (nrm g o ∈ L) = k := by
  unfold oth
  rw [Bool.and_eq_true, decide_eq_true_eq, beq_iff_eq]
def iV (l : List Nat) : List V := l.map fun (i : Nat) => V.int (i : Int)
theorem iV_snoc (l : List Nat) (i : Nat) : iV (l ++ [i]) = iV l ++ [V.int (i : Int)] := by
  unfold iV
  rw [List.map_append]
  rfl
theorem filter_yes {f : Nat → Bool} {i : Nat} (h : f i = true) : (List.range (i + 1)).filter f = (List.range i).filter f ++ [i] := by
  rw [List.range_succ, List.filter_append, List.filter_cons_of_pos h]
  rfl
theorem filter_no {f : Nat → Bool} {i : Nat} (h : ¬ f i = true) : (List.range (i + 1)).filter f = (List.range i).filter f := by
  rw [List.range_succ, List.filter_append, List.filter_cons_of_neg h]
  exact List.append_nil _
theorem iV_line {f : Nat → Bool} {i : Nat} (h : i ≤ 1000000) : (iV ((List.range i).filter f)).length < sizeLine := by
  unfold iV
  rw [List.length_map]
  refine Nat.lt_of_le_of_lt (List.length_filter_le _ _) ?_
  rw [List.length_range]
  exact Nat.lt_of_le_of_lt h (by decide)
def spOthers (k : Bool) (C cNG : Addr) : Sp := fun vs H Q E => ∃ (p d : Addr) (n : Nat) (L : List Pr) (z : Int), vs = [.ref p, .int z] ∧ HallAt C H p n d L ∧
  (¬ isG n z → E (.ref cNG) none H) ∧
  (∀ g : Nat, z = (g : Int) → g < n → ∀ H' l, Same H H' → H l = none → H' l = some (.lst (iV (others k n L g))) → Q (.ref l) H')
section
variable {C cNG cSG cKA cST : Addr} {H : Hp} {Q : VK} {E : XK} {p d : Addr} {n i j : Nat} {L : List Pr}
theorem know_good (hall : HallAt C H p n d L) (hi : i < n) (hj : j < n) (nij : i ≠ j) (q : ∀ H', Same H H' → Q (.bl (decide (nrm i j ∈ L))) H') :
    spKnow C cNG cSG [.ref p, .int (i : Int), .int (j : Int)] H Q E := by
  refine ⟨p, d, n, L, _, _, rfl, hall, fun b => absurd ⟨isG.of hi, isG.of hj⟩ b, fun _ _ e => absurd (Int.ofNat.inj e) nij, fun i' j' ei ej _ _ _ => ?_⟩
  have a1 : i = i' := Int.ofNat.inj ei
  have a2 : j = j' := Int.ofNat.inj ej
  subst a1
  subst a2
  exact q
theorem meet_good (hall : HallAt C H p n d L) (hi : i < n) (hj : j < n) (nij : i ≠ j) (nin : nrm i j ∉ L) (q : ∀ H', Keep [d] H H' → HallAt C H' p n d (L ++ [nrm i j]) → Q .non H') :
    spMeet C cNG cSG cKA [.ref p, .int (i : Int), .int (j : Int)] H Q E := by
  refine ⟨p, d, n, L, _, _, rfl, hall, fun b => absurd ⟨isG.of hi, isG.of hj⟩ b, fun _ _ e => absurd (Int.ofNat.inj e) nij, fun i' j' ei ej _ _ _ m => ?_, fun i' j' ei ej _ _ _ _ => ?_⟩
  · have a1 : i = i' := Int.ofNat.inj ei
    have a2 : j = j' := Int.ofNat.inj ej
    subst a1
    subst a2
    exact absurd m nin
  · have a1 : i = i' := Int.ofNat.inj ei
    have a2 : j = j' := Int.ofNat.inj ej
    subst a1
    subst a2
    exact q
theorem others_good {k : Bool} (hall : HallAt C H p n d L) (hi : i < n) (q : ∀ H' l, Same H H' → H l = none → H' l = some (.lst (iV (others k n L i))) → Q (.ref l) H') :
    spOthers k C cNG [.ref p, .int (i : Int)] H Q E := by
  refine ⟨p, d, n, L, _, rfl, hall, fun b => absurd (isG.of hi) b, fun g eg _ => ?_⟩
  have a1 : i = g := Int.ofNat.inj eg
  subst a1
  exact q
end
/-! readings of calls that raise nothing -/
theorem rv {σ : L2.St} {H : Hp} {k : Nat} {v : V} (h : σ[k]? = some (some v)) : ∀ R : VK, R v H → tVar k σ H R := fun _ r => ⟨_, h, r⟩
theorem rvD {σ : L2.St} {k : Nat} {v : V} (h : σ[k]? = some (some v)) : ∀ (H : Hp) (R : VK), R v H → tVar k σ H R := fun _ _ r => ⟨_, h, r⟩
section
variable {C cNG cSG cKA cST : Addr} {σ : L2.St} {H : Hp} {Q : VK} {E : XK} {p d : Addr} {n i j : Nat} {L : List Pr} {to ta tb : TE}
theorem r_know (ho : ∀ R : VK, R (.ref p) H → to σ H R) (ha : ∀ R : VK, R (.int (i : Int)) H → ta σ H R) (hb : ∀ R : VK, R (.int (j : Int)) H → tb σ H R)
    (hall : HallAt C H p n d L) (hi : i < n) (hj : j < n) (nij : i ≠ j) (q : ∀ H', Same H H' → Q (.bl (decide (nrm i j ∈ L))) H') :
    tMeth C "know" (spKnow C cNG cSG) [] E to (tCons ta (tCons tb tNil)) σ H Q := by
  obtain ⟨dx, hp⟩ := hall.ins
  exact ho _ ⟨p, dx, _, rfl, hp, hf_no _ _ (by decide +kernel) (by decide +kernel), ha _ (hb _ (know_good hall hi hj nij q))⟩
theorem r_meet (ho : ∀ R : VK, R (.ref p) H → to σ H R) (ha : ∀ R : VK, R (.int (i : Int)) H → ta σ H R) (hb : ∀ R : VK, R (.int (j : Int)) H → tb σ H R)
    (hall : HallAt C H p n d L) (hi : i < n) (hj : j < n) (nij : i ≠ j) (nin : nrm i j ∉ L) (q : ∀ H', Keep [d] H H' → HallAt C H' p n d (L ++ [nrm i j]) → Q .non H') :
    tMeth C "meet" (spMeet C cNG cSG cKA) [] E to (tCons ta (tCons tb tNil)) σ H Q := by
  obtain ⟨dx, hp⟩ := hall.ins
  exact ho _ ⟨p, dx, _, rfl, hp, hf_no _ _ (by decide +kernel) (by decide +kernel), ha _ (hb _ (meet_good hall hi hj nij nin q))⟩
theorem r_known (ho : ∀ R : VK, R (.ref p) H → to σ H R) (ha : ∀ R : VK, R (.int (i : Int)) H → ta σ H R)
    (hall : HallAt C H p n d L) (hi : i < n) (q : ∀ H' l, Same H H' → H l = none → H' l = some (.lst (iV (others true n L i))) → Q (.ref l) H') :
    tMeth C "known" (spOthers true C cNG) [] E to (tCons ta tNil) σ H Q := by
  obtain ⟨dx, hp⟩ := hall.ins
  exact ho _ ⟨p, dx, _, rfl, hp, hf_no _ _ (by decide +kernel) (by decide +kernel), ha _ (others_good hall hi q)⟩
theorem r_strangers (ho : ∀ R : VK, R (.ref p) H → to σ H R) (ha : ∀ R : VK, R (.int (i : Int)) H → ta σ H R)
    (hall : HallAt C H p n d L) (hi : i < n) (q : ∀ H' l, Same H H' → H l = none → H' l = some (.lst (iV (others false n L i))) → Q (.ref l) H') :
    tMeth C "strangers" (spOthers false C cNG) [] E to (tCons ta tNil) σ H Q := by
  obtain ⟨dx, hp⟩ := hall.ins
  exact ho _ ⟨p, dx, _, rfl, hp, hf_no _ _ (by decide +kernel) (by decide +kernel), ha _ (others_good hall hi q)⟩
theorem r_many (ho : ∀ R : VK, R (.ref p) H → to σ H R) (hall : HallAt C H p n d L) (q : Q (.int (n : Int)) H) :
    tMeth C "many" (spMany C) [] E to tNil σ H Q := by
  obtain ⟨dx, hp⟩ := hall.ins
  exact ho _ ⟨p, dx, _, rfl, hp, hf_no _ _ (by decide +kernel) (by decide +kernel), p, d, n, L, rfl, hall, q⟩
end
/-- (x, y) in a dict of pairs -/
theorem get_new {H : Hp} {q t : Addr} {i j : Nat} {E : List Pr} (hq : H q = some (.dT (kvs E))) (ht : H t = none) :
    DGet (upd H t (.tup [V.int (i : Int), V.int (j : Int)])) q (.ref t) (valV (kvs E) (kP (i, j))) :=
  DGet.t (k := kP (i, j)) (same_new (.tup [V.int (i : Int), V.int (j : Int)]) ht _ _ hq) upd_same
/-- Hall(z) as an expression -/
theorem make_hall {C cBH : Addr} {z : Int} {H1 : Hp} {Q : Addr → Hp → Prop} {E : XK}
    (bad : ¬ (1 ≤ z ∧ z ≤ 20) → ∀ H', Same H1 H' → E (.ref cBH) none H')
    (good : ∀ n : Nat, z = (n : Int) → 1 ≤ n → n ≤ 20 → ∀ H' x d, H1 x = none → H1 d = none → Same H1 H' → HallAt C H' x n d [] → Q x H') :
    ∀ x dx, H1 x = none → H1 dx = none → dx ≠ x → spInit C cBH (.ref x :: [.int z]) (upd (upd H1 dx (.own x)) x (.ins C dx [])) (fun v H2 => v = .non ∧ Q x H2) E := by
  intro x dx hx hdx ne
  have s1 : Same H1 (upd (upd H1 dx (.own x)) x (.ins C dx [])) := (same_new _ hdx).trans (same_new _ (by rw [upd_ne ne.symm]; exact hx))
  refine ⟨x, dx, z, rfl, upd_same, by rw [upd_ne ne]; exact upd_same, fun b => bad b _ s1, ?_⟩
  intro n ez h1 h2 H' d kp nd hall
  refine ⟨rfl, good n ez h1 h2 H' x d hx ?_ (same_keepNew s1 hx kp) hall⟩
  exact s1.free nd
end KT

/-! the law's own defs: sorting of pairs, promises -/
namespace KT
open PySem PySem.Spec PyProof.Rows L2
def Srt (E : List Pr) : Prop := E.Pairwise fun p q => p.1 < q.1 ∨ (p.1 = q.1 ∧ p.2 < q.2)
/-- the ints of the tuple that v stands for -/
def tk2 (H : Hp) : V → Int × Int
  | .ref a => match H a with
    | some (.tup [.int i, .int j]) => (i, j)
    | _ => (0, 0)
  | _ => (0, 0)
theorem tk2_of {H : Hp} {v : V} {p : Pr} (h : PairV H v p) : tk2 H v = ((p.1 : Int), (p.2 : Int)) := by
  obtain ⟨a, rfl, e⟩ := h
  show (match H a with
    | some (.tup [.int i, .int j]) => (i, j)
    | _ => (0, 0)) = _
  rw [e]
theorem PairVs.mem {H : Hp} : ∀ {xs : List V} {E : List Pr}, PairVs H xs E → ∀ v ∈ xs, ∃ p, p ∈ E ∧ PairV H v p
  | _, _, .nil, v, h => by cases h
  | _, _, .cons a r, v, h => by
    rcases List.mem_cons.mp h with e | h
    · subst e
      exact ⟨_, List.mem_cons_self, a⟩
    · obtain ⟨p, hp, z⟩ := PairVs.mem r v h
      exact ⟨p, List.mem_cons_of_mem _ hp, z⟩
theorem PairVs.eq {H : Hp} : ∀ {xs : List V} {E : List Pr}, PairVs H xs E → E = xs.map fun v => ((tk2 H v).1.toNat, (tk2 H v).2.toNat)
  | _, _, .nil => rfl
  | _, _, .cons a r => by
    rw [List.map_cons, ← PairVs.eq r, tk2_of a]
    simp
theorem PairVs.of {H : Hp} : ∀ {ys : List V}, (∀ v ∈ ys, ∃ p, PairV H v p) → PairVs H ys (ys.map fun v => ((tk2 H v).1.toNat, (tk2 H v).2.toNat))
  | [], _ => .nil
  | v :: ys, h => by
    refine .cons ?_ (PairVs.of fun u hu => h u (List.mem_cons_of_mem _ hu))
    obtain ⟨p, hp⟩ := h v List.mem_cons_self
    show PairV H v ((tk2 H v).1.toNat, (tk2 H v).2.toNat)
    rw [tk2_of hp]
    simpa using hp
theorem sort_pairs {H : Hp} {xs : List V} {E : List Pr} (r : PairVs H xs E) (nd : E.Nodup) :
    (∀ x ∈ xs, ∃ t, x = V.ref t ∧ H t = some (.tup [.int (tk2 H x).1, .int (tk2 H x).2])) ∧
    ∀ ys, SrtO.Srtd (ltP (tk2 H)) ys → ys.Perm xs → ∃ E', PairVs H ys E' ∧ E'.Perm E ∧ Srt E' := by
  refine ⟨fun x hx => ?_, fun ys hs hp => ?_⟩
  · obtain ⟨p, _, hv⟩ := r.mem x hx
    rw [tk2_of hv]
    obtain ⟨a, rfl, e⟩ := hv
    exact ⟨a, rfl, e⟩
  · have all : ∀ v ∈ ys, ∃ p, PairV H v p := fun v hv => by
      obtain ⟨p, _, h⟩ := r.mem v (hp.mem_iff.mp hv)
      exact ⟨p, h⟩
    have pe : (ys.map fun v => ((tk2 H v).1.toNat, (tk2 H v).2.toNat)).Perm E := by
      rw [r.eq]
      exact hp.map _
    refine ⟨_, PairVs.of all, pe, ?_⟩
    have nd2 : (ys.map fun v => ((tk2 H v).1.toNat, (tk2 H v).2.toNat)).Nodup := pe.nodup_iff.mpr nd
    unfold Srt
    rw [List.pairwise_map]
    have nd3 : ys.Pairwise fun u v => ((tk2 H u).1.toNat, (tk2 H u).2.toNat) ≠ ((tk2 H v).1.toNat, (tk2 H v).2.toNat) := List.pairwise_map.mp nd2
    have both := List.pairwise_and_iff.mpr ⟨List.Pairwise.imp_of_mem (S := fun u v => ltP (tk2 H) v u = false ∧ u ∈ ys ∧ v ∈ ys) (fun hu hv h => ⟨h, hu, hv⟩) hs, nd3⟩
    refine both.imp ?_
    rintro u v ⟨⟨h1, hu, hv⟩, h2⟩
    obtain ⟨p, hp1⟩ := all u hu
    obtain ⟨q, hq1⟩ := all v hv
    have h3 := SrtO.lexB_no.mp h1
    rw [tk2_of hp1, tk2_of hq1] at *
    simp only [Int.toNat_natCast, ne_eq, Prod.mk.injEq, not_and] at h2 h3 ⊢
    by_cases c : p.1 = q.1
    · have := h2 c
      omega
    · omega

/-! ### promises -/
def spCell (K : PySem.W.Frag) : Sp := fun vs H Q _ => ∃ (a : Addr) (ns : List Int) (k : Nat), vs = [.ref a, .int (k : Int)] ∧ SqL K H a (ns.map V.int) ∧ Q (.int (ns.getD k 0)) H
def spWhole : Sp := fun vs H Q _ => ∃ i : Int, vs = [.int i] ∧ Q (.bl true) H
def spManyOf (K : PySem.W.Frag) : Sp := fun vs H Q _ => ∃ (a : Addr) (ns : List Int), vs = [.ref a] ∧ SqL K H a (ns.map V.int) ∧ ∀ n : Nat, 1 ≤ n → n ≤ 20 → Q (.int (n : Int)) H
def spPairsBy (K : PySem.W.Frag) : Sp := fun vs H Q _ => ∃ (a : Addr) (ns : List Int) (first n : Nat), vs = [.ref a, .int (first : Int), .int (n : Int)] ∧ SqL K H a (ns.map V.int) ∧ 1 ≤ n ∧ n ≤ 20 ∧
  ∀ H' l E, Same H H' → H l = none → PairsAt H' l E → WF n E → Srt E → Q (.ref l) H'
def spHallOf (C : Addr) : Sp := fun vs H Q _ => ∃ (l : Addr) (n : Nat) (E : List Pr), vs = [.int (n : Int), .ref l] ∧ PairsAt H l E ∧ WF n E ∧ 1 ≤ n ∧ n ≤ 20 ∧
  ∀ H' x d, Same H H' → H x = none → H d = none → HallAt C H' x n d E → Q (.ref x) H'
/-- the same pairs, in any order -/
def Eqv (L E : List Pr) : Prop := ∀ p, p ∈ L ↔ p ∈ E
theorem Eqv.refl (L : List Pr) : Eqv L L := fun _ => Iff.rfl
theorem Eqv.snoc {L E : List Pr} (h : Eqv L E) (q : Pr) : Eqv (L ++ [q]) (E ++ [q]) := fun p => by
  rw [List.mem_append, List.mem_append, h p]
theorem Eqv.erase {L E : List Pr} (h : Eqv L E) (nL : L.Nodup) (nE : E.Nodup) (q : Pr) : Eqv (L.erase q) (E.erase q) := fun p => by
  rw [nL.mem_erase_iff, nE.mem_erase_iff, h p]
def spTurnOne (C : Addr) : Sp := fun vs H Q _ => ∃ (x l d : Addr) (n : Nat) (L E : List Pr) (z : Int), vs = [.ref x, .ref l, .int (n : Int), .int z] ∧ HallAt C H x n d L ∧ PairsAt H l E ∧ WF n E ∧ Eqv L E ∧
  ∀ H' L' E', Keep [d, l] H H' → HallAt C H' x n d L' → PairsAt H' l E' → WF n E' → Eqv L' E' → Q .non H'
end KT

/-! what is refused: marks of a caught error, and lists of ints and of truth values -/
namespace KT
open PySem PySem.Spec PyProof.Rows L2
/-! ### bundles -/
theorem MetD.weak {P : Program} {w : World} {K : PySem.W.Frag} {mg : Str → Option Value} {base : Heap} {C : Addr} {k : Nat} {m : Str} {sp : Sp}
    (d : MetD P w K mg base (L2N.CX P w) C k m sp) : MetD P w K mg base (L2.CX P w) C k m sp := by
  obtain ⟨f, fd, ps, F, r⟩ := d.ex
  exact ⟨f, fd, ps, FnOk_weak F, r⟩
theorem MakD.weak {P : Program} {w : World} {K : PySem.W.Frag} {mg : Str → Option Value} {base : Heap} {C : Addr} {k : Nat} {m : Str} {sp : Sp}
    (d : MakD P w K mg base (L2N.CX P w) C k m sp) : MakD P w K mg base (L2.CX P w) C k m sp := by
  obtain ⟨f, fd, ps, M, F, r⟩ := d.ex
  exact ⟨f, fd, ps, M, FnOk_weak F, r⟩
theorem CalD.weak {P : Program} {w : World} {K : PySem.W.Frag} {mg : Str → Option Value} {base : Heap} {k : Nat} {m : Str} {sp : Sp}
    (d : CalD P w K mg base (L2N.CX P w) k m sp) : CalD P w K mg base (L2.CX P w) k m sp := by
  obtain ⟨f, fd, ps, F, r⟩ := d.ex
  exact ⟨f, fd, ps, FnOk_weak F, r⟩
structure CalP (P : Program) (w : World) (K : PySem.W.Frag) (mg : Str → Option Value) (base : Heap) (k : Nat) (x : Str) (sp : Addr → Value → Option Addr → Sp) : Prop where
  ex : ∃ f fd ps, FnP P w K mg base k f fd ps sp ∧ Binds K fd ps [] ∧ mg x = some (.ref f) ∧ PySem.W.keepIn K (.ref f) = true
theorem pcP {X : Cx} {k j : Nat} {A : Around} {sp : Addr → Value → Option Addr → Sp} {x : Str} {q pos : Pos} {e : Expr} {es : List Expr} {t : TA} {p : Addr × Obj} {cls : Value} {d : Option Addr}
    (c : CalP X.prog X.w X.K X.mg X.base k x sp) (hr : Room j A) (ed : X.A.depth = A.depth) (eu : X.A.units = A.units) (hp : p ∈ X.pn) (hz : Zc cls d p.2) (hf : ∃ fv, p.2.data = .fields fv)
    (ha : PA X (e :: es) t) (hk : k ≤ j := by decide) (hg : Gl X x := by rfl) (hdb : (x == ("__debug__" : Str)) = false := by decide)
    (he : starEach (e :: es) X.env = (false, eval e X.env) :: starEach es X.env := by rfl) (hpl : (backTo pos (starEach es X.env)).any (·.1) = false := by rfl) :
    PE X (.Call (.Name x q) (e :: es) [] pos) (tCallP sp p.1 cls d t) := by
  obtain ⟨f, fd, ps, F, hb, hm, kp⟩ := c.ex
  have r1 := hr.mono hk
  exact pe_callP F ⟨by rw [ed]; exact r1.dp, by rw [eu]; exact r1.un⟩ hp hz hf hg hm kp hb ha hdb he hpl
/-! ### lists of ints, of truth values, as data -/
def iD (l : List Nat) : PyData := .list (l.map fun (i : Nat) => PyData.int (i : Int))
theorem iV_all {K : PySem.W.Frag} {H : Hp} : ∀ l : List Nat, DpAll K H (iV l) (l.map fun (i : Nat) => PyData.int (i : Int))
  | [] => .nil
  | i :: l => .cons (.int _) (iV_all l)
theorem iD_dp {K : PySem.W.Frag} {H : Hp} {a : Addr} {l : List Nat} (h : SqL K H a (iV l)) : Dp K H (.ref a) (iD l) := .lst h (iV_all l)
theorem iD_plain : ∀ l : List Nat, PyData.plainAll (l.map fun (i : Nat) => PyData.int (i : Int)) = true
  | [] => by simp [PyData.plainAll]
  | i :: l => by
    have h := iD_plain l
    simp [PyData.plainAll, PyData.plain, h]
theorem iD_shaped (l : List Nat) : SeqAt.shaped (iD l) = true := by
  have h1 : ∀ l : List Nat, PyData.canLayAll0 (l.map fun (i : Nat) => PyData.int (i : Int)) = true ∧ PyData.depthAll (l.map fun (i : Nat) => PyData.int (i : Int)) = 0 := by
    intro l
    induction l with
    | nil => exact ⟨by simp [PyData.canLayAll0], by simp [PyData.depthAll]⟩
    | cons i l ih => exact ⟨by simp [PyData.canLayAll0, PyData.canLay0, ih.1], by simp [PyData.depthAll, PyData.depth, ih.2]⟩
  obtain ⟨a, b⟩ := h1 l
  unfold SeqAt.shaped iD
  simp only [PyData.canLay0, PyData.depth, a, b]
  rfl
theorem iD_refl (l : List Nat) : PyData.eqv (iD l) (iD l) = true := SeqAt.eqv_refl_plain _ (by unfold iD; simp only [PyData.plain]; exact iD_plain l)
def bV (l : List Bool) : List V := l.map V.bl
def bD (l : List Bool) : PyData := .list (l.map PyData.bool)
theorem bV_all {K : PySem.W.Frag} {H : Hp} : ∀ l : List Bool, DpAll K H (bV l) (l.map PyData.bool)
  | [] => .nil
  | i :: l => .cons (.bl _) (bV_all l)
theorem bD_dp {K : PySem.W.Frag} {H : Hp} {a : Addr} {l : List Bool} (h : SqL K H a (bV l)) : Dp K H (.ref a) (bD l) := .lst h (bV_all l)
theorem bD_plain : ∀ l : List Bool, PyData.plainAll (l.map PyData.bool) = true
  | [] => by simp [PyData.plainAll]
  | i :: l => by
    have h := bD_plain l
    simp [PyData.plainAll, PyData.plain, h]
theorem bD_shaped (l : List Bool) : SeqAt.shaped (bD l) = true := by
  have h1 : ∀ l : List Bool, PyData.canLayAll0 (l.map PyData.bool) = true ∧ PyData.depthAll (l.map PyData.bool) = 0 := by
    intro l
    induction l with
    | nil => exact ⟨by simp [PyData.canLayAll0], by simp [PyData.depthAll]⟩
    | cons i l ih => exact ⟨by simp [PyData.canLayAll0, PyData.canLay0, ih.1], by simp [PyData.depthAll, PyData.depth, ih.2]⟩
  obtain ⟨a, b⟩ := h1 l
  unfold SeqAt.shaped bD
  simp only [PyData.canLay0, PyData.depth, a, b]
  rfl
theorem bD_refl (l : List Bool) : PyData.eqv (bD l) (bD l) = true := SeqAt.eqv_refl_plain _ (by unfold bD; simp only [PyData.plain]; exact bD_plain l)
theorem iV_flat : ∀ l : List Nat, (iV l).all flatV = true
  | [] => rfl
  | i :: l => iV_flat l
theorem inV_iV (o : Nat) : ∀ l : List Nat, inV (.int (o : Int)) (iV l) = decide (o ∈ l)
  | [] => by simp [inV, iV]
  | i :: l => by
    have ih := inV_iV o l
    have e : inV (.int (o : Int)) (iV (i :: l)) = (eqV (.int (i : Int)) (.int (o : Int)) || inV (.int (o : Int)) (iV l)) := rfl
    have e2 : eqV (.int (i : Int)) (.int (o : Int)) = ((i : Int) == (o : Int)) := rfl
    rw [e, e2, ih, Bool.eq_iff_iff]
    simp only [Bool.or_eq_true, beq_iff_eq, decide_eq_true_eq, List.mem_cons]
    constructor
    · rintro (h | h)
      · exact .inl (by omega)
      · exact .inr h
    · rintro (h | h)
      · exact .inl (by omega)
      · exact .inr h
/-! ### [k == m for k in range(7)] -/
def marksTo (m i : Nat) : List Bool := (List.range i).map fun k => decide (k = m)
def marks (m : Nat) : List Bool := marksTo m 7
def tMarks (m : Nat) : TE := fun _ H Q => ∀ D H', H D = none → Same H H' → H' D = some (.lst (bV (marks m))) → Q (.ref D) H'
theorem dec_nat (i m : Nat) : decide (V.int (i : Int) = V.int (m : Int)) = decide (i = m) := by
  rw [decide_eq_decide]
  constructor
  · intro h
    have := V.int.inj h
    omega
  · intro h
    rw [h]
theorem yes_ite {σ : L2.St} {H : Hp} {A B : Hp → Prop} (h : A H) : tYes σ H fun b H3 => if b = true then A H3 else B H3 := by
  show (if true = true then A H else B H)
  rw [if_pos rfl]
  exact h
theorem pe_imp {X : Cx} {e : Expr} {t t' : TE} (h : PE X e t) (i : ∀ σ H Q, t' σ H Q → t σ H Q) : PE X e t' := ⟨fun pins s σ H Q I q => h.run pins s σ H Q I (i σ H Q q)⟩
theorem pe_marks {X : Cx} {i m : Nat} {j j2 : Nat} {p1 p2 p3 p4 p5 p6 p7 pos : Pos} {scope : Scope} (hc : X.calm = true) (hN : X.N.Nodup) (hi : i < X.N.length) (hm : X.mg "range" = none) (hgr : Gl X "range")
    (ok : BlkOk X.N X.env.scope scope [("k", i)])
    (hg : ∀ (s : Shared) (H : Hp) (C : Addr) (cl : List (Str × Addr)) (fp : List Addr), PG (X.blk s H scope (compEnvC scope cl C X.env) fp) (.Name "k" p4) (gName i))
    (hv : ∀ (s : Shared) (H : Hp) (C : Addr) (cl : List (Str × Addr)) (fp : List Addr), PE (X.blk s H scope (compEnvC scope cl C X.env) fp) (.Name "k" p1) (tVar i)) :
    PE X (.ListComp (.Compare (.Name "k" p1) [.Eq] [.Constant (.int (m : Int)) j p2] p3) [⟨.Name "k" p4, .Call (.Name "range" p5) [.Constant (.int 7) j2 p6] [] p7, [], 0⟩] scope pos) (tMarks m) := by
  constructor
  intro pins s σ H Q I q
  have hl : σ.length = X.N.length := I.len
  refine (pe_lc (own := [("k", i)]) (g := gName i) (tt := tYes) (te := tOp rEq (tVar i) (tC (.int (m : Int)))) hc hN (pi_range1 hgr hm (pa_cons pe_int pa_nil)) ok hg (fun _ _ _ _ _ => pts_nil)
    (fun s H C cl fp => pe_cmpR op_eq (hv s H C cl fp) pe_int (nomark _))).run pins s σ H Q I ?_
  refine ⟨7, rfl, by decide, by decide, fun D hD => ?_⟩
  refine lc_range (lo := 0) (n := 7) (fun n H' => Same H H' ∧ H' D = some (.lst (bV (marksTo m n)))) ⟨same_new _ hD, upd_same⟩ ?_ (fun H1 h1 => q D H1 hD h1.1 h1.2)
  rintro n H1 hn ⟨s1, h1⟩
  rw [Int.zero_add]
  have hw : i < (wipe σ [i]).length := by rw [wipe_length, hl]; exact hi
  have e1 : (List.set (wipe σ [i]) i (some (V.int (n : Int))))[i]? = some (some (V.int (n : Int))) := List.getElem?_set_self hw
  have e2 : wipe (List.set (wipe σ [i]) i (some (V.int (n : Int)))) [i] = wipe σ [i] := by
    show List.set (List.set (List.set σ i none) i (some (V.int (n : Int)))) i none = List.set σ i none
    rw [List.set_set, List.set_set]
  refine ⟨e2, ?_⟩
  refine yes_ite ?_
  refine ⟨_, e1, rfl, _, h1, ?_, same_keepNew s1 hD (Keep.put D _), ?_⟩
  · unfold bV marksTo
    rw [List.length_map, List.length_map, List.length_range]
    exact Nat.lt_of_lt_of_le hn (by decide)
  · rw [upd_same, dec_nat]
    unfold bV marksTo
    rw [List.range_succ, List.map_append, List.map_append]
    rfl
/-! ### marks of a caught error -/
structure MarkT (K : PySem.W.Frag) (cNG cSG cKA cST cBH cNT cHE D : Addr) (m : Nat) : Prop where
  ex : ExcC K D
  i0 : PySem.W.kitOne K (.ref D) (.ref cNG) = some (decide (0 = m))
  i1 : PySem.W.kitOne K (.ref D) (.ref cSG) = some (decide (1 = m))
  i2 : PySem.W.kitOne K (.ref D) (.ref cKA) = some (decide (2 = m))
  i3 : PySem.W.kitOne K (.ref D) (.ref cST) = some (decide (3 = m))
  i4 : PySem.W.kitOne K (.ref D) (.ref cBH) = some (decide (4 = m))
  i5 : PySem.W.kitOne K (.ref D) (.ref cNT) = some (decide (5 = m))
  iV : PySem.W.kitOne K (.ref D) (.type "ValueError") = some true
  h : PySem.W.exmOne K (.ref D) (.ref cHE) = some true
  m5 : m ≤ 5
/-- _law_marks_of -/
def spMarks (K : PySem.W.Frag) (cNG cSG cKA cST cBH cNT cHE : Addr) : Addr → Value → Option Addr → Sp := fun a cls d vs H Q _ => ∃ (D : Addr) (m : Nat), vs = [.ref a] ∧ cls = .ref D ∧ d = none ∧ MarkT K cNG cSG cKA cST cBH cNT cHE D m ∧
  ∀ H' l, Same H H' → H l = none → H' l = some (.lst (bV (marks m))) → Q (.ref l) H'
/-- _law_numbers -/
def spNumbers : Sp := fun vs H Q _ => ∃ (a b : Addr) (l : List Nat), vs = [.ref a, .ref b] ∧ H a = some (.lst (iV l)) ∧ H b = some (.lst (iV l)) ∧ Q (.bl true) H
/-- _law_known of a dict, of a list -/
def spKnownD : Sp := fun vs H Q _ => ∃ (q : Addr) (n g : Nat) (E : List Pr), vs = [.ref q, .int (n : Int), .int (g : Int)] ∧ H q = some (.dT (kvs E)) ∧ WF n E ∧ n ≤ 20 ∧ g < n ∧
  ∀ H' l, Same H H' → H l = none → H' l = some (.lst (iV (others true n E g))) → Q (.ref l) H'
def spKnownL : Sp := fun vs H Q _ => ∃ (q : Addr) (n g : Nat) (E : List Pr), vs = [.ref q, .int (n : Int), .int (g : Int)] ∧ PairsAt H q E ∧ WF n E ∧ n ≤ 20 ∧ g < n ∧
  ∀ H' l, Same H H' → H l = none → H' l = some (.lst (iV (others true n E g))) → Q (.ref l) H'
/-- _law_same -/
def spSame (C : Addr) : Sp := fun vs H Q _ => ∃ (p l d : Addr) (n : Nat) (L E : List Pr), vs = [.ref p, .ref l, .int (n : Int)] ∧ HallAt C H p n d L ∧ PairsAt H l E ∧ WF n E ∧ Eqv L E ∧ ∀ H', Same H H' → Q (.bl true) H'
theorem oth_eqv {L E : List Pr} (h : Eqv L E) (k : Bool) (g : Nat) : oth k L g = oth k E g := by
  funext o
  unfold oth
  rw [decide_eq_decide.mpr (h (nrm g o))]
theorem others_eqv {L E : List Pr} (h : Eqv L E) (k : Bool) (n g : Nat) : others k n L g = others k n E g := by
  unfold others
  rw [oth_eqv h]
theorem oth_known {n : Nat} {E : List Pr} (wf : WF n E) (g o : Nat) : oth true E g o = decide (nrm g o ∈ E) := by
  rw [Bool.eq_iff_iff, oth_iff, decide_eq_true_eq]
  constructor
  · exact fun h => h.2
  · intro h
    refine ⟨fun e => ?_, h⟩
    have := (wf.2 _ h).1
    rw [e] at this
    exact absurd this (by show ¬ (min g g < max g g); omega)
end KT

/-! takes -/
namespace KT
open PySem PySem.Spec PyProof.Rows L2
theorem take_more {α : Type} {l : List α} {i : Nat} {x : α} (h : l[i]? = some x) : l.take (i + 1) = l.take i ++ [x] := by
  rw [List.take_add_one, h]
  rfl
theorem take_notin {α : Type} {l : List α} {i : Nat} {x : α} (nd : l.Nodup) (h : l[i]? = some x) : x ∉ l.take i := by
  have z : (l.take (i + 1)).Nodup := nd.sublist (List.take_sublist _ _)
  rw [take_more h] at z
  exact fun m => (List.pairwise_append.mp z).2.2 x m x (List.mem_singleton.mpr rfl) rfl
theorem hu65 {k : Nat} {A : Around} (hr : Room k A) : A.units + 65 < cLine := by
  have := hr.un
  omega
end KT

/-! the law's promise -/
namespace KT
open PySem PySem.Spec PyProof.Rows L2
def spLaw (K : PySem.W.Frag) : Sp := fun vs H Q _ => ∃ (a : Addr) (ns : List Int), vs = [.ref a] ∧ SqL K H a (ns.map V.int) ∧ ns.length ≤ 63 ∧ ∀ H', Q (.bl true) H'
theorem seq_keep {K : PySem.W.Frag} {D : List Addr} {H H1 H2 : Hp} {a : Addr} {xs : List V} (k : Keep D H1 H2) (s : Same H H1) (h : SqL K H a xs) (n : ∀ b ∈ D, H b = none) : SqL K H2 a xs := by
  rcases h with (h | ⟨o, h⟩) | h
  · exact .inl (.inl (k _ _ (fun m => by rw [n _ m] at h; cases h) (s _ _ h)))
  · exact .inl (.inr ⟨o, k _ _ (fun m => by rw [n _ m] at h; cases h) (s _ _ h)⟩)
  · exact .inr h
end KT

/-! crowds: plain, promises -/
namespace KT
open PySem PySem.Spec PyProof.Rows L2
def okB (L : List Pr) (a b : Nat) : Bool := decide (a = b) || decide (nrm a b ∈ L)
def crowdB (L : List Pr) (gs : List Nat) : Bool := gs.all fun a => gs.all fun b => okB L a b
def crowdR (E : List Pr) (gs : List Nat) : Bool := gs.all fun a => gs.all fun b => !decide (a < b) || decide ((a, b) ∈ E)
theorem okB_iff {L : List Pr} {a b : Nat} : okB L a b = true ↔ a = b ∨ nrm a b ∈ L := by
  unfold okB
  rw [Bool.or_eq_true, decide_eq_true_eq, decide_eq_true_eq]
theorem crowdB_iff {L : List Pr} {gs : List Nat} : crowdB L gs = true ↔ ∀ a ∈ gs, ∀ b ∈ gs, a = b ∨ nrm a b ∈ L := by
  unfold crowdB
  simp only [List.all_eq_true, okB_iff]
theorem crowdR_iff {E : List Pr} {gs : List Nat} : crowdR E gs = true ↔ ∀ a ∈ gs, ∀ b ∈ gs, a < b → (a, b) ∈ E := by
  unfold crowdR
  simp only [List.all_eq_true, Bool.or_eq_true, Bool.not_eq_true', decide_eq_true_eq, decide_eq_false_iff_not]
  constructor
  · intro h a ha b hb c
    exact (h a ha b hb).resolve_left fun z => z c
  · intro h a ha b hb
    by_cases c : a < b
    · exact .inr (h a ha b hb c)
    · exact .inl c
theorem crowd_eq {L E : List Pr} (h : Eqv L E) (gs : List Nat) : crowdB L gs = crowdR E gs := by
  rw [Bool.eq_iff_iff, crowdB_iff, crowdR_iff]
  constructor
  · intro z a ha b hb c
    have y := (z a ha b hb).resolve_left (by omega)
    rw [nrm_lt c] at y
    exact (h _).mp y
  · intro z a ha b hb
    rcases Nat.lt_trichotomy a b with c | c | c
    · refine .inr ?_
      rw [nrm_lt c]
      exact (h _).mpr (z a ha b hb c)
    · exact .inl c
    · refine .inr ?_
      rw [nrm_comm, nrm_lt c]
      exact (h _).mpr (z b hb a ha c)
theorem iV_get {l : List Nat} {i : Nat} {v : V} (h : (iV l)[i]? = some v) : ∃ o : Nat, l[i]? = some o ∧ v = V.int (o : Int) := by
  unfold iV at h
  rw [List.getElem?_map] at h
  cases e : l[i]? with
  | none =>
    rw [e] at h
    cases h
  | some u =>
    rw [e] at h
    exact ⟨u, rfl, (Option.some.inj h).symm⟩
theorem iV_len (l : List Nat) : (iV l).length = l.length := by
  unfold iV
  rw [List.length_map]
theorem forall_take {α : Type} {l : List α} {i : Nat} {x : α} {p : α → Prop} (hx : l[i]? = some x) (h : ∀ a ∈ l.take i, p a) (hp : p x) : ∀ a ∈ l.take (i + 1), p a := by
  intro a ha
  rw [List.take_add_one, hx] at ha
  rcases List.mem_append.mp ha with ha | ha
  · exact h a ha
  · have : a = x := by simpa using ha
    rw [this]
    exact hp
def spIsCrowd (C cNG : Addr) : Sp := fun vs H Q E => ∃ (p l d : Addr) (n : Nat) (L : List Pr) (zs : List Int), vs = [.ref p, .ref l] ∧ HallAt C H p n d L ∧ H l = some (.lst (zs.map V.int)) ∧
  ((∃ z ∈ zs, ¬ isG n z) → E (.ref cNG) none H) ∧ (∀ gs : List Nat, zs.map V.int = iV gs → (∀ g ∈ gs, g < n) → ∀ H', Same H H' → Q (.bl (crowdB L gs)) H')
def spCrowdL : Sp := fun vs H Q _ => ∃ (l g : Addr) (n : Nat) (E : List Pr) (gs : List Nat), vs = [.ref l, .ref g] ∧ PairsAt H l E ∧ WF n E ∧ H g = some (.lst (iV gs)) ∧ ∀ H', Same H H' → Q (.bl (crowdR E gs)) H'
def spCrowdMarks (C : Addr) : Sp := fun vs H Q _ => ∃ (p l d : Addr) (n : Nat) (L : List Pr) (zs : List Int), vs = [.ref p, .ref l] ∧ HallAt C H p n d L ∧ H l = some (.lst (zs.map V.int)) ∧
  (∃ z ∈ zs, ¬ isG n z) ∧ ∀ H' m, Same H H' → H' m = some (.lst (bV (marks 0))) → Q (.ref m) H'
end KT

/-! several ways to one place: own rules -/
namespace KT
open PySem PySem.Spec PyProof.Rows L2
section
variable {X : Cx} {st : Stmt} {t : TS} {e : Expr} {te : TE}
def tJoin (t : TS) : TS := fun D σ H => ∃ R : L2.St → Hp → Prop, t { D with nx := R } σ H ∧ ∀ σ' H', R σ' H' → D.nx σ' H'
theorem ps_join (h : PS X st t) : PS X st (tJoin t) := by
  refine ⟨fun pins s σ H D I hw => ?_⟩
  obtain ⟨R, h1, h2⟩ := hw
  refine thn (h.run pins s σ H _ I h1) ?_
  intro f s' q
  cases f with
  | next =>
    obtain ⟨σ', H', I', r⟩ := q
    exact ⟨σ', H', I', h2 _ _ r⟩
  | brk => exact q
  | cont => exact q
  | ret u => exact q
def tJoinE (t : TE) : TE := fun σ H Q => ∃ R : VK, t σ H R ∧ ∀ v H', R v H' → Q v H'
theorem pe_join (h : PE X e te) : PE X e (tJoinE te) := by
  refine ⟨fun pins s σ H Q I hw => ?_⟩
  obtain ⟨R, h1, h2⟩ := hw
  refine thn (h.run pins s σ H _ I h1) ?_
  rintro v s' ⟨x, H', I', r, q⟩
  exact ⟨x, H', I', r, h2 _ _ q⟩
end
end KT

namespace KT
open PySem L2
def topS (i : Nat) : Stmt := PySem.Challenge.pw_knowthree_k08_crowds_known.main.body.getD i (.Pass ⟨0, 0, 0, 0⟩)
abbrev st__wall : Stmt := topS 0
abbrev st_Hall_init : Stmt := inClass (topS 11) 0
abbrev st_Hall_many : Stmt := inClass (topS 11) 1
abbrev st_Hall_see : Stmt := inClass (topS 11) 2
abbrev st_Hall_see_two : Stmt := inClass (topS 11) 3
abbrev st_Hall_meet : Stmt := inClass (topS 11) 4
abbrev st_Hall_part : Stmt := inClass (topS 11) 5
abbrev st_Hall_know : Stmt := inClass (topS 11) 6
abbrev st_Hall_known : Stmt := inClass (topS 11) 7
abbrev st_Hall_strangers : Stmt := inClass (topS 11) 8
abbrev st_is_crowd : Stmt := topS 13
abbrev st_l_cell_at : Stmt := topS 15
abbrev st_l_pairs_by : Stmt := topS 16
abbrev st_l_hall_of : Stmt := topS 17
abbrev st_l_known : Stmt := topS 18
abbrev st_l_many : Stmt := topS 19
abbrev st_l_marks_of : Stmt := topS 20
abbrev st_l_crowd : Stmt := topS 21
abbrev st_l_marks : Stmt := topS 22
abbrev st_law : Stmt := topS 23
end KT
/-! the hall's defs keep their promises: the parts that every law has -/
namespace KT
open PySem PySem.Spec PyProof.Rows L2
section
variable {P : Program} {w : World} {K : PySem.W.Frag} {mg : Str → Option Value} {base : Heap} {C cNG cSG cKA cST cBH : Addr}
theorem sc_init : FnScope ["self", "many"] ["self", "many"] (defScope st_Hall_init) := ⟨rfl, rfl, rfl, by decide +kernel, rfl, by decide +kernel, by decide +kernel⟩
theorem ok_init {f : Addr} {fd : FuncData} (F : Fun K "__init__" "Hall.__init__" st_Hall_init f fd) (T : HT K mg C cNG cSG cKA cST cBH) :
    FnOk P w K mg base (L2N.CX P w) 1 f fd ["self", "many"] (spInit C cBH) := by
  obtain ⟨tg, egr⟩ := T.gr
  refine okN F sc_init (fun vs H Q E h => ?_) (fun cdv A outer s H vs Q E hr h => ?_)
  · obtain ⟨p, dx, z, rfl, _⟩ := h
    rfl
  · obtain ⟨p, dx, z, rfl, hp, hdx, bad, good⟩ := h
    refine ⟨_, pss_cons (ps_if (PW.pt (pw_or (pt_cmpR op_lt (pv 1) pe_int (nomark _)) (pw_or1 (pt_cmpR op_gt (pv 1) (pe_glob (v := .int 20) rfl egr ⟨tg, rfl⟩) (nomark _)))))
        (pss_one (pr T.bh tk)) pss_nil)
      (pss_cons (ps_fld (pv 0) (pv 1) rfl) (pss_one (ps_fld (pv 0) pe_dnewT rfl))), ?_⟩
    refine ⟨_, rfl, _, _, rfl, rfl, _, rfl, ite2 (fun c => ?_) (fun c => ?_)⟩
    · exact iteT (bad (by have := of_decide_eq_true c; omega))
    have c1 : ¬ z < 1 := of_decide_eq_false (by simpa using c)
    refine ⟨_, rfl, _, _, rfl, rfl, _, rfl, ite2 (fun c2 => ?_) (fun c2 => ?_)⟩
    · exact bad (by have := of_decide_eq_true c2; omega)
    have c3 : ¬ (20 < z) := of_decide_eq_false (by simpa using c2)
    refine ⟨_, rfl, _, rfl, p, C, dx, _, rfl, hp, T.cl, T.nC, (by show 0 < 1000; decide), ?_⟩
    intro d hd
    have npd : p ≠ d := fun q => by
      rw [q, upd_same] at hd
      cases hd
    have hd0 : H d = none := by
      rw [upd_ne npd.symm] at hd
      exact hd
    obtain ⟨n, rfl⟩ : ∃ n : Nat, z = (n : Int) := ⟨z.toNat, by omega⟩
    refine ⟨_, rfl, p, C, dx, _, rfl, (by rw [upd_ne npd]; exact upd_same), T.cl, T.nP, (by show 1 < 1000; decide), ?_⟩
    refine good n rfl (by omega) (by omega) _ d ?_ hd0 ⟨⟨dx, upd_same⟩, by rw [upd_ne npd.symm]; exact upd_same, WF.nil n, by omega, by omega⟩
    intro b o nb e
    have nb : b ≠ p := by simpa using nb
    rw [upd_ne nb, upd_ne (ne_of_none e hd0), upd_ne nb]
    exact e
theorem sc_many : FnScope ["self"] ["self"] (defScope st_Hall_many) := ⟨rfl, rfl, rfl, by decide +kernel, rfl, by decide +kernel, by decide +kernel⟩
theorem ok_many {f : Addr} {fd : FuncData} (F : Fun K "many" "Hall.many" st_Hall_many f fd) (T : HT K mg C cNG cSG cKA cST cBH) :
    FnOk P w K mg base CX0 1 f fd ["self"] (spMany C) := by
  refine F.ok sc_many (fun vs H Q E h => ?_) (fun cdv A outer s H vs Q E hr h => ?_)
  · obtain ⟨p, d, n, L, rfl, _⟩ := h
    rfl
  · obtain ⟨p, d, n, L, rfl, hall, q⟩ := h
    obtain ⟨dx, hp⟩ := hall.ins
    refine ⟨_, pss_one (ps_ret (pe_fld (pv 0) rfl)), ?_⟩
    exact ⟨_, rfl, p, C, dx, _, _, rfl, hp, T.cl, T.nC, hf_count _ _, q⟩
theorem sc_see : FnScope ["self", "guest"] ["self", "guest"] (defScope st_Hall_see) := ⟨rfl, rfl, rfl, by decide +kernel, rfl, by decide +kernel, by decide +kernel⟩
theorem ok_see {f : Addr} {fd : FuncData} (F : Fun K "see" "Hall.see" st_Hall_see f fd) (T : HT K mg C cNG cSG cKA cST cBH) :
    FnOk P w K mg base (L2N.CX P w) 1 f fd ["self", "guest"] (spSee C cNG) := by
  refine okN F sc_see (fun vs H Q E h => ?_) (fun cdv A outer s H vs Q E hr h => ?_)
  · obtain ⟨p, d, n, L, z, rfl, _⟩ := h
    rfl
  · obtain ⟨p, d, n, L, z, rfl, hall, bad, good⟩ := h
    obtain ⟨dx, hp⟩ := hall.ins
    refine ⟨_, pss_one (ps_if (PW.pt (pw_or (pt_cmpR op_lt (pv 1) pe_int (nomark _)) (pw_or1 (pt_cmpR op_ge (pv 1) (pe_fld (pv 0) rfl) (nomark _)))))
        (pss_one (pr T.ng tk)) pss_nil), ?_⟩
    refine ⟨_, rfl, _, _, rfl, rfl, _, rfl, ite2 (fun c => ?_) (fun c => ?_)⟩
    · exact iteT (bad (by have := of_decide_eq_true c; unfold isG; omega))
    have c1 : ¬ z < 0 := of_decide_eq_false (by simpa using c)
    refine ⟨_, rfl, _, rfl, p, C, dx, _, _, rfl, hp, T.cl, T.nC, hf_count _ _, _, _, rfl, rfl, _, rfl, ite2 (fun c2 => ?_) (fun c2 => ?_)⟩
    · exact bad (by have := of_decide_eq_true c2; unfold isG; omega)
    have c3 : ¬ ((n : Int) ≤ z) := of_decide_eq_false (by simpa using c2)
    exact good ⟨by omega, by omega⟩
theorem sc_see_two : FnScope ["self", "one", "other"] ["self", "one", "other"] (defScope st_Hall_see_two) := ⟨rfl, rfl, rfl, by decide +kernel, rfl, by decide +kernel, by decide +kernel⟩
theorem ok_see_two {f : Addr} {fd : FuncData} (F : Fun K "see_two" "Hall.see_two" st_Hall_see_two f fd) (T : HT K mg C cNG cSG cKA cST cBH)
    (mS : MetD P w K mg base (L2N.CX P w) C 1 "see" (spSee C cNG)) :
    FnOk P w K mg base (L2N.CX P w) 2 f fd ["self", "one", "other"] (spSeeTwo C cNG cSG) := by
  refine okN F sc_see_two (fun vs H Q E h => ?_) (fun cdv A outer s H vs Q E hr h => ?_)
  · obtain ⟨p, d, n, L, y, z, rfl, _⟩ := h
    rfl
  · obtain ⟨p, d, n, L, y, z, rfl, hall, bad, same, good⟩ := h
    obtain ⟨dx, hp⟩ := hall.ins
    refine ⟨_, pss_cons (ps_expr (pm (pv 0) T.cl mS hr px (pa_cons (pv 1) pa_nil))) (pss_cons (ps_expr (pm (pv 0) T.cl mS hr px (pa_cons (pv 2) pa_nil)))
      (pss_one (ps_if (pt_cmpR op_eq (pv 1) (pv 2) (nomark _)) (pss_one (pr T.sg tk)) pss_nil))), ?_⟩
    have ns : (hf n d).lookup ("see" : Str) = none := hf_no _ _ (by decide +kernel) (by decide +kernel)
    refine ⟨_, rfl, p, dx, _, rfl, hp, ns, _, rfl, p, d, n, L, y, rfl, hall, fun b => bad fun c => b c.1, fun gy => ?_⟩
    refine ⟨_, rfl, p, dx, _, rfl, hp, ns, _, rfl, p, d, n, L, z, rfl, hall, fun b => bad fun c => b c.2, fun gz => ?_⟩
    refine ⟨_, rfl, _, rfl, rfl, _, rfl, ite2 (fun c => ?_) (fun c => ?_)⟩
    · exact same gy gz (by have := of_decide_eq_true c; exact V.int.inj this)
    · exact good gy gz (fun e => c (decide_eq_true (by rw [e])))
theorem sc_know : FnScope ["self", "one", "other"] ["self", "one", "other"] (defScope st_Hall_know) := ⟨rfl, rfl, rfl, by decide +kernel, rfl, by decide +kernel, by decide +kernel⟩
theorem ok_know {f : Addr} {fd : FuncData} (F : Fun K "know" "Hall.know" st_Hall_know f fd) (T : HT K mg C cNG cSG cKA cST cBH)
    (mS : MetD P w K mg base (L2N.CX P w) C 2 "see_two" (spSeeTwo C cNG cSG)) :
    FnOk P w K mg base (L2N.CX P w) 3 f fd ["self", "one", "other"] (spKnow C cNG cSG) := by
  refine okN F sc_know (fun vs H Q E h => ?_) (fun cdv A outer s H vs Q E hr h => ?_)
  · obtain ⟨p, d, n, L, y, z, rfl, _⟩ := h
    rfl
  · obtain ⟨p, d, n, L, y, z, rfl, hall, bad, same, good⟩ := h
    obtain ⟨dx, hp⟩ := hall.ins
    refine ⟨_, pss_cons (ps_expr (pm (pv 0) T.cl mS hr px (pa_cons (pv 1) (pa_cons (pv 2) pa_nil))))
      (pss_one (ps_ret (pe_cmp (pc_din (hu_of hr) (pe_tup (pa_cons (pe_callB (call_min2 rfl) (by rfl) T.min (by decide +kernel) (pa_cons (pv 1) (pa_cons (pv 2) pa_nil)))
        (pa_cons (pe_callB (call_max2 rfl) (by rfl) T.max (by decide +kernel) (pa_cons (pv 1) (pa_cons (pv 2) pa_nil))) pa_nil))) (pe_fld (pv 0) rfl)) rfl))), ?_⟩
    have ns : (hf n d).lookup ("see_two" : Str) = none := hf_no _ _ (by decide +kernel) (by decide +kernel)
    refine ⟨_, rfl, p, dx, _, rfl, hp, ns, _, rfl, _, rfl, p, d, n, L, y, z, rfl, hall, bad, same, fun gy gz nyz => ?_⟩
    obtain ⟨i, rfl, hi⟩ := gy.nat
    obtain ⟨j, rfl, hj⟩ := gz.nat
    refine ⟨_, rfl, _, rfl, _, _, rfl, _, rfl, _, rfl, _, _, rfl, (by show 2 ≤ sizeLine; decide), fun t ht => ?_⟩
    have s1 := same_new (.tup [V.int (if (j : Int) < (i : Int) then (j : Int) else (i : Int)), V.int (if (j : Int) > (i : Int) then (j : Int) else (i : Int))]) ht
    have h2 := hall.same s1
    obtain ⟨dx2, hp2⟩ := h2.ins
    refine ⟨_, rfl, p, C, dx2, _, _, rfl, hp2, T.cl, T.nP, hf_pairs _ _, d, _, rfl, DGet.t (k := kP (nrm i j)) h2.dic (by rw [upd_same, kP_map, min_py, max_py]; rfl), ?_⟩
    rw [isSome_kvs]
    exact good i j rfl rfl hi hj (fun e => nyz (by rw [e])) _ s1
end
end KT

/-! meet, part -/
namespace KT
open PySem PySem.Spec PyProof.Rows L2
section
variable {P : Program} {w : World} {K : PySem.W.Frag} {mg : Str → Option Value} {base : Heap} {C cNG cSG cKA cST cBH : Addr}
theorem sc_meet : FnScope ["self", "one", "other"] ["self", "one", "other"] (defScope st_Hall_meet) := ⟨rfl, rfl, rfl, by decide +kernel, rfl, by decide +kernel, by decide +kernel⟩
theorem ok_meet {f : Addr} {fd : FuncData} (F : Fun K "meet" "Hall.meet" st_Hall_meet f fd) (T : HT K mg C cNG cSG cKA cST cBH)
    (mK : MetD P w K mg base (L2N.CX P w) C 3 "know" (spKnow C cNG cSG)) :
    FnOk P w K mg base (L2N.CX P w) 4 f fd ["self", "one", "other"] (spMeet C cNG cSG cKA) := by
  refine okN F sc_meet (fun vs H Q E h => ?_) (fun cdv A outer s H vs Q E hr h => ?_)
  · obtain ⟨p, d, n, L, y, z, rfl, _⟩ := h
    rfl
  · obtain ⟨p, d, n, L, y, z, rfl, hall, bad, same, there, good⟩ := h
    obtain ⟨dx, hp⟩ := hall.ins
    refine ⟨_, pss_cons (ps_if (pt_val (pm (pv 0) T.cl mK hr px (pa_cons (pv 1) (pa_cons (pv 2) pa_nil)))) (pss_one (pr T.ka tk)) pss_nil)
      (pss_one (ps_dput (hu_of hr) (pe_fld (pv 0) rfl) (pe_tup (pa_cons (pe_callB (call_min2 rfl) (by rfl) T.min (by decide +kernel) (pa_cons (pv 1) (pa_cons (pv 2) pa_nil)))
        (pa_cons (pe_callB (call_max2 rfl) (by rfl) T.max (by decide +kernel) (pa_cons (pv 1) (pa_cons (pv 2) pa_nil))) pa_nil))) pe_bl rfl)), ?_⟩
    have nk : (hf n d).lookup ("know" : Str) = none := hf_no _ _ (by decide +kernel) (by decide +kernel)
    refine ⟨_, rfl, p, dx, _, rfl, hp, nk, _, rfl, _, rfl, p, d, n, L, y, z, rfl, hall, bad, same, ?_⟩
    intro i j ei ej hi hj nij H1 s1
    subst ei
    subst ej
    refine ⟨_, rfl, ite2 (fun c => ?_) (fun c => ?_)⟩
    · exact there i j rfl rfl hi hj nij (of_decide_eq_true c) _ s1
    have nin : nrm i j ∉ L := fun m => c (decide_eq_true m)
    have h1 := hall.same s1
    obtain ⟨dx1, hp1⟩ := h1.ins
    refine ⟨_, rfl, p, C, dx1, _, _, rfl, hp1, T.cl, T.nP, hf_pairs _ _, _, rfl, _, rfl, _, _, rfl, _, rfl, _, rfl, _, _, rfl, (by show 2 ≤ sizeLine; decide), fun t ht => ?_⟩
    have s2 := same_new (.tup [V.int (if (j : Int) < (i : Int) then (j : Int) else (i : Int)), V.int (if (j : Int) > (i : Int) then (j : Int) else (i : Int))]) ht
    have h2 := h1.same s2
    have key : upd H1 t (.tup [V.int (if (j : Int) < (i : Int) then (j : Int) else (i : Int)), V.int (if (j : Int) > (i : Int) then (j : Int) else (i : Int))]) t = some (.tup ((kP (nrm i j)).map kV)) := by
      rw [upd_same, kP_map, min_py, max_py]
      rfl
    have lenb : (kvs L).length < sizeLine := by
      rw [length_kvs]
      exact Nat.lt_of_le_of_lt (hall.wf.len hall.hi) (by decide)
    refine ⟨d, _, rfl, DPut.t (k := kP (nrm i j)) h2.dic key lenb, ?_⟩
    rw [put_kvs nin]
    obtain ⟨dx2, hp2⟩ := h2.ins
    refine good i j rfl rfl hi hj nij nin _ ?_ ⟨⟨dx2, by rw [upd_ne h2.ne]; exact hp2⟩, upd_same, hall.wf.snoc (nrm_ok nij hi hj) nin, hall.lo, hall.hi⟩
    exact (Keep.of [d] (s1.trans s2)).trans (Keep.put d _)
theorem sc_part : FnScope ["self", "one", "other"] ["self", "one", "other"] (defScope st_Hall_part) := ⟨rfl, rfl, rfl, by decide +kernel, rfl, by decide +kernel, by decide +kernel⟩
theorem ok_part {f : Addr} {fd : FuncData} (F : Fun K "part" "Hall.part" st_Hall_part f fd) (T : HT K mg C cNG cSG cKA cST cBH)
    (mK : MetD P w K mg base (L2N.CX P w) C 3 "know" (spKnow C cNG cSG)) :
    FnOk P w K mg base (L2N.CX P w) 4 f fd ["self", "one", "other"] (spPart C cNG cSG cST) := by
  refine okN F sc_part (fun vs H Q E h => ?_) (fun cdv A outer s H vs Q E hr h => ?_)
  · obtain ⟨p, d, n, L, y, z, rfl, _⟩ := h
    rfl
  · obtain ⟨p, d, n, L, y, z, rfl, hall, bad, same, there, good⟩ := h
    obtain ⟨dx, hp⟩ := hall.ins
    refine ⟨_, pss_cons (ps_if (pt_not (pt_val (pm (pv 0) T.cl mK hr px (pa_cons (pv 1) (pa_cons (pv 2) pa_nil))))) (pss_one (pr T.st tk)) pss_nil)
      (pss_one (ps_expr (pe_bm PySem.F.plainAttrs_dict PySem.F.slot_dict_pop PySem.F.type_dict_pop (mt_pop1 (hu_of hr)) (pe_fld (pv 0) rfl)
        (pa_cons (pe_tup (pa_cons (pe_callB (call_min2 rfl) (by rfl) T.min (by decide +kernel) (pa_cons (pv 1) (pa_cons (pv 2) pa_nil)))
        (pa_cons (pe_callB (call_max2 rfl) (by rfl) T.max (by decide +kernel) (pa_cons (pv 1) (pa_cons (pv 2) pa_nil))) pa_nil))) pa_nil)))), ?_⟩
    have nk : (hf n d).lookup ("know" : Str) = none := hf_no _ _ (by decide +kernel) (by decide +kernel)
    refine ⟨_, rfl, p, dx, _, rfl, hp, nk, _, rfl, _, rfl, p, d, n, L, y, z, rfl, hall, bad, same, ?_⟩
    intro i j ei ej hi hj nij H1 s1
    subst ei
    subst ej
    refine ⟨_, rfl, ite2 (fun c => ?_) (fun c => ?_)⟩
    · exact there i j rfl rfl hi hj nij (fun m => by rw [decide_eq_true m] at c; cases c) _ s1
    have isin : nrm i j ∈ L := by
      by_cases m : nrm i j ∈ L
      · exact m
      · exact absurd (by rw [decide_eq_false m] <;> rfl) c
    have h1 := hall.same s1
    obtain ⟨dx1, hp1⟩ := h1.ins
    refine ⟨_, rfl, p, C, dx1, _, _, rfl, hp1, T.cl, T.nP, hf_pairs _ _, .inr (.inr (.inl ⟨rfl, .inr ⟨_, h1.dic⟩⟩)), _, rfl, _, rfl, _, _, rfl, _, rfl, _, rfl, _, _, rfl, (by show 2 ≤ sizeLine; decide), fun t ht => ?_⟩
    have s2 := same_new (.tup [V.int (if (j : Int) < (i : Int) then (j : Int) else (i : Int)), V.int (if (j : Int) > (i : Int) then (j : Int) else (i : Int))]) ht
    have h2 := h1.same s2
    have key : upd H1 t (.tup [V.int (if (j : Int) < (i : Int) then (j : Int) else (i : Int)), V.int (if (j : Int) > (i : Int) then (j : Int) else (i : Int))]) t = some (.tup ((kP (nrm i j)).map kV)) := by
      rw [upd_same, kP_map, min_py, max_py]
      rfl
    refine ⟨d, _, kP (nrm i j), t, .bl true, rfl, rfl, h2.dic, key, by rw [valV_kvs, if_pos isin], ?_⟩
    rw [drop_kvs hall.wf.1]
    obtain ⟨dx2, hp2⟩ := h2.ins
    refine good i j rfl rfl hi hj nij isin _ ?_ ⟨⟨dx2, by rw [upd_ne h2.ne]; exact hp2⟩, upd_same, hall.wf.erase _, hall.lo, hall.hi⟩
    exact (Keep.of [d] (s1.trans s2)).trans (Keep.put d _)
end
end KT

/-! is_crowd -/
namespace KT
open PySem PySem.Spec PyProof.Rows L2
section
variable {P : Program} {w : World} {K : PySem.W.Frag} {mg : Str → Option Value} {base : Heap} {C cNG cSG cKA cST cBH : Addr}
theorem sc_is_crowd : FnScope ["hall", "guests", "guest", "one", "other"] ["hall", "guests"] (defScope st_is_crowd) := ⟨rfl, rfl, rfl, by decide +kernel, rfl, by decide +kernel, by decide +kernel⟩
theorem ok_is_crowd {f : Addr} {fd : FuncData} (F : Fun K "is_crowd" "is_crowd" st_is_crowd f fd) (T : HT K mg C cNG cSG cKA cST cBH)
    (mS : MetD P w K mg base (L2N.CX P w) C 1 "see" (spSee C cNG)) (mK : MetD P w K mg base (L2N.CX P w) C 3 "know" (spKnow C cNG cSG)) :
    FnOk P w K mg base (L2N.CX P w) 4 f fd ["hall", "guests"] (spIsCrowd C cNG) := by
  refine okN F sc_is_crowd (fun vs H Q E h => ?_) (fun cdv A outer s H vs Q E hr h => ?_)
  · obtain ⟨p, l, d, n, L, zs, rfl, _⟩ := h
    rfl
  · obtain ⟨p, l, d, n, L, zs, rfl, hall, hl, bad, good⟩ := h
    obtain ⟨dx, hp⟩ := hall.ins
    refine ⟨_, pss_cons (ps_for (passes_of rfl) rfl (pi_list (pv 1)) (pg_name (i := 2) sc_is_crowd.nd rfl (Or.inl rfl)) (pss_one (ps_expr (pm (pv 0) T.cl mS hr px (pa_cons (pv 2) pa_nil)))))
      (pss_cons (ps_for (passes_of rfl) rfl (pi_list (pv 1)) (pg_name (i := 3) sc_is_crowd.nd rfl (Or.inl rfl))
        (pss_one (ps_for (passes_of rfl) rfl (pi_list (pv 1)) (pg_name (i := 4) sc_is_crowd.nd rfl (Or.inl rfl))
          (pss_one (ps_if (PW.pt (pw_and (pt_cmpR op_ne (pv 3) (pv 4) (nomark _)) (pw_and1 (pt_not (pt_val (pm (pv 0) T.cl mK hr px (pa_cons (pv 3) (pa_cons (pv 4) pa_nil)))))))) (pss_one (ps_ret pe_bl)) pss_nil)))))
      (pss_one (ps_ret pe_bl))), ?_⟩
    have ns : (hf n d).lookup ("see" : Str) = none := hf_no _ _ (by decide +kernel) (by decide +kernel)
    refine ⟨_, rfl, l, rfl, ⟨_, SqL.of hl⟩, for_list (K := K) (a := l) (xs := zs.map V.int) (fun i σ H' => ∃ v2, σ = [some (.ref p), some (.ref l), v2, none, none] ∧ H' = H ∧ ∀ z ∈ zs.take i, isG n z) ⟨none, rfl, rfl, fun z hz => by simp at hz⟩ (fun i σ H' _ ⟨_, _, e, _⟩ => by rw [e]; exact SqL.of hl) ?_ ?_⟩
    · rintro i v σ H1 hi ⟨v2, rfl, rfl, g⟩
      rw [List.getElem?_map] at hi
      cases e : zs[i]? with
      | none =>
        rw [e] at hi
        cases hi
      | some z =>
        rw [e] at hi
        obtain rfl := Option.some.inj hi
        refine ⟨_, rfl, p, dx, _, rfl, hp, ns, _, rfl, p, d, n, L, z, rfl, hall, fun ng => bad ⟨z, List.mem_of_getElem? e, ng⟩, fun gz => ?_⟩
        exact ⟨_, rfl, rfl, forall_take e g gz⟩
    · rintro σ H1 ⟨v2, rfl, rfl, g⟩
      rw [List.length_map, List.take_length] at g
      obtain ⟨gs, ez, gn⟩ : ∃ gs : List Nat, zs.map V.int = iV gs ∧ ∀ g ∈ gs, g < n := by
        refine ⟨zs.map Int.toNat, ?_, fun x hx => ?_⟩
        · unfold iV
          rw [List.map_map]
          refine List.map_congr_left fun z hz => ?_
          have := (g z hz).1
          show V.int z = V.int ((z.toNat : Nat) : Int)
          rw [Int.toNat_of_nonneg this]
        · obtain ⟨z, hz, rfl⟩ := List.mem_map.mp hx
          have := g z hz
          unfold isG at this
          omega
      rw [ez] at hl
      have good := good gs ez gn
      refine ⟨_, rfl, l, rfl, ⟨_, SqL.of hl⟩, for_list (K := K) (a := l) (xs := iV gs) (fun i σ H' => ∃ v3 v4, σ = [some (.ref p), some (.ref l), v2, v3, v4] ∧ Same H1 H' ∧ ∀ a ∈ gs.take i, ∀ b ∈ gs, a = b ∨ nrm a b ∈ L) ⟨none, none, rfl, Same.refl _, fun z hz => by simp at hz⟩ (fun i σ H' _ ⟨_, _, _, s1, _⟩ => SqL.of (s1 _ _ hl)) ?_ ?_⟩
      · rintro i v σ H2 hi ⟨v3, v4, rfl, s2, k2⟩
        obtain ⟨a, ha, rfl⟩ := iV_get hi
        have ma := List.mem_of_getElem? ha
        refine ⟨_, rfl, l, rfl, ⟨_, SqL.of (s2 _ _ hl)⟩, for_list (K := K) (a := l) (xs := iV gs) (fun i σ H' => ∃ v4, σ = [some (.ref p), some (.ref l), v2, some (.int (a : Int)), v4] ∧ Same H1 H' ∧ ∀ b ∈ gs.take i, a = b ∨ nrm a b ∈ L) ⟨_, rfl, s2, fun z hz => by simp at hz⟩ (fun i σ H' _ ⟨_, _, s1, _⟩ => SqL.of (s1 _ _ hl)) ?_ ?_⟩
        · rintro j v σ H3 hj ⟨v4, rfl, s3, k3⟩
          obtain ⟨b, hb, rfl⟩ := iV_get hj
          have mb := List.mem_of_getElem? hb
          refine ⟨_, rfl, _, rfl, rfl, _, rfl, ite2 (fun c => ?_) (fun c => ?_)⟩
          · have nab : a ≠ b := fun e => by
              rw [e] at c
              simp at c
            refine r_know (rv rfl) (rv rfl) (rv rfl) (hall.same s3) (gn a ma) (gn b mb) nab fun H4 s4 => ?_
            refine ⟨_, rfl, ite2 (fun c2 => ?_) (fun c2 => ?_)⟩
            · have e : crowdB L gs = false := by
                rw [Bool.eq_false_iff]
                intro z
                have y := (crowdB_iff.mp z a ma b mb).resolve_left nab
                rw [decide_eq_true y] at c2
                cases c2
              rw [e] at good
              exact good _ (s3.trans s4)
            · refine ⟨_, rfl, s3.trans s4, forall_take hb k3 (.inr ?_)⟩
              by_cases m : nrm a b ∈ L
              · exact m
              · rw [decide_eq_false m] at c2
                exact absurd rfl c2
          · refine ⟨_, rfl, s3, forall_take hb k3 (.inl ?_)⟩
            by_cases e : a = b
            · exact e
            · exact absurd (by simp; omega) c
        · rintro σ H3 ⟨v4, rfl, s3, k3⟩
          rw [iV_len, List.take_length] at k3
          exact ⟨_, _, rfl, s3, forall_take ha k2 k3⟩
      · rintro σ H2 ⟨v3, v4, rfl, s2, k2⟩
        rw [iV_len, List.take_length] at k2
        have e : crowdB L gs = true := crowdB_iff.mpr k2
        rw [e] at good
        exact good _ s2
end
end KT

/-! the law's defs: a cell, a whole number, how many, the pairs -/
namespace KT
open PySem PySem.Spec PyProof.Rows L2
section
variable {P : Program} {w : World} {K : PySem.W.Frag} {mg : Str → Option Value} {base : Heap} {C cNG cSG cKA cST cBH : Addr}
theorem sc_cell : FnScope ["script", "k"] ["script", "k"] (defScope st_l_cell_at) := ⟨rfl, rfl, rfl, by decide +kernel, rfl, by decide +kernel, by decide +kernel⟩
theorem ok_cell {f : Addr} {fd : FuncData} (F : Fun K "_law_cell_at" "_law_cell_at" st_l_cell_at f fd) (hlen : mg "len" = none) :
    FnOk P w K mg base CX0 1 f fd ["script", "k"] (spCell K) := by
  refine F.ok sc_cell (fun vs H Q E h => ?_) (fun cdv A outer s H vs Q E hr h => ?_)
  · obtain ⟨a, ns, k, rfl, _⟩ := h
    rfl
  · obtain ⟨a, ns, k, rfl, hS, q⟩ := h
    refine ⟨_, pss_cons (ps_if (pt_cmpR op_lt (pv 1) (pe_callB call_len_seq (by rfl) hlen PySem.boot_len (pa_cons (pv 0) pa_nil)) (nomark _)) (pss_one (ps_ret (pe_ix ix_list (pv 0) (pv 1) (fun _ _ => rfl)))) pss_nil) (pss_one (ps_ret pe_int)), ?_⟩
    refine ⟨_, rfl, _, rfl, a, _, rfl, .inl hS, _, _, rfl, rfl, _, rfl, ite2 (fun c => ?_) (fun c => ?_)⟩
    · have hk : k < ns.length := by
        have := of_decide_eq_true c
        rw [List.length_map] at this
        omega
      refine ⟨_, rfl, _, rfl, a, _, _, _, rfl, rfl, hS, atI_nat (v := V.int (ns.getD k 0)) ?_, q⟩
      rw [List.getElem?_map, List.getD_eq_getElem?_getD, List.getElem?_eq_getElem hk]
      rfl
    · have hk : ns.length ≤ k := by
        have z : ¬ ((k : Int) < ((ns.map V.int).length : Nat)) := of_decide_eq_false (by simpa using c)
        rw [List.length_map] at z
        omega
      have e : ns.getD k 0 = 0 := by
        rw [List.getD_eq_getElem?_getD, List.getElem?_eq_none hk]
        rfl
      rw [e] at q
      exact q
theorem sc_pairs : FnScope ["script", "first", "many", "pairs", "guest", "digits", "other"] ["script", "first", "many"] (defScope st_l_pairs_by) := ⟨rfl, rfl, rfl, by decide +kernel, rfl, by decide +kernel, by decide +kernel⟩
theorem ok_pairs {f : Addr} {fd : FuncData} (F : Fun K "_law_pairs_by" "_law_pairs_by" st_l_pairs_by f fd) (hrange : mg "range" = none) (hsorted : mg "sorted" = none)
    (cC : CalD P w K mg base CX0 1 "_law_cell_at" (spCell K)) :
    FnOk P w K mg base CX0 2 f fd ["script", "first", "many"] (spPairsBy K) := by
  refine F.ok sc_pairs (fun vs H Q E h => ?_) (fun cdv A outer s H vs Q E hr h => ?_)
  · obtain ⟨a, ns, first, n, rfl, _⟩ := h
    rfl
  · obtain ⟨a, ns, first, n, rfl, hS, n1, n20, q⟩ := h
    refine ⟨_, pss_cons (ps_set (i := 3) sc_pairs.nd rfl (Or.inl rfl) (pe_lst pa_nil))
      (pss_cons (ps_for PassesOwn.never rfl (pi_range2 (by rfl) hrange (pa_cons pe_int (pa_cons (pv 2) pa_nil))) (pg_name (i := 4) sc_pairs.nd rfl (Or.inl rfl))
        (pss_cons (ps_set (i := 5) sc_pairs.nd rfl (Or.inl rfl) (pc cC hr pass0 (pa_cons (pv 0) (pa_cons (pe_op op_sub (pe_op op_add (pv 1) (pv 4)) pe_int) pa_nil))))
          (pss_one (ps_for PassesOwn.never rfl (pi_range1 (by rfl) hrange (pa_cons (pv 4) pa_nil)) (pg_name (i := 6) sc_pairs.nd rfl (Or.inl rfl))
            (pss_cons (ps_if (pt_cmpR op_eq (pe_op op_mod (pv 5) pe_int) pe_int (nomark _))
              (pss_one (ps_expr (pe_bm PySem.F.plainAttrs_list PySem.F.slot_list_append PySem.F.type_list_append mt_append (pv 3) (pa_cons (pe_tup (pa_cons (pv 6) (pa_cons (pv 4) pa_nil))) pa_nil)))) pss_nil)
              (pss_one (ps_set (i := 5) sc_pairs.nd rfl (Or.inl rfl) (pe_op op_fdiv (pv 5) pe_int))))))))
      (pss_one (ps_ret (pe_callB cr_sortedPO (by rfl) hsorted (by decide +kernel) (pa_cons (pv 3) pa_nil))))), ?_⟩
    refine ⟨Nat.zero_le _, fun l hl => ?_⟩
    have s0 : Same H (upd H l (.lst [])) := same_new _ hl
    refine ⟨_, rfl, 1, (n : Int), rfl, ⟨by omega, by omega, by omega, by omega⟩, for_range (lo := 1) (n := ((n : Int) - 1).toNat)
      (fun i σ H' => ∃ (E : List Pr) (xs : List V) (v4 v5 v6 : Option V), σ = [some (.ref a), some (.int (first : Int)), some (.int (n : Int)), some (.ref l), v4, v5, v6] ∧ Same H H' ∧ H' l = some (.lst xs) ∧ PairVs H' xs E ∧
        WF (1 + i) E) ⟨[], [], none, none, none, rfl, s0, upd_same, .nil, WF.nil _⟩ ?_ ?_⟩
    · rintro i σ H1 hi ⟨E, xs, v4, v5, v6, rfl, s1, hl1, r1, wf1⟩
      have ei : (1 : Int) + (i : Int) = ((1 + i : Nat) : Int) := by omega
      rw [ei]
      refine ⟨_, rfl, _, rfl, _, rfl, _, _, rfl, rfl, _, _, rfl, rfl, a, ns, first + i, ?_, s1.seq hS, ?_⟩
      · show [V.ref a, V.int ((first : Int) + ((1 + i : Nat) : Int) - 1)] = [V.ref a, V.int ((first + i : Nat) : Int)]
        have e : (first : Int) + ((1 + i : Nat) : Int) - 1 = ((first + i : Nat) : Int) := by omega
        rw [e]
      refine ⟨_, rfl, _, rfl, by omega, by omega, for_range (lo := 0) (n := 1 + i)
        (fun j σ H' => ∃ (E : List Pr) (xs : List V) (z : Int) (v6 : Option V), σ = [some (.ref a), some (.int (first : Int)), some (.int (n : Int)), some (.ref l), some (.int ((1 + i : Nat) : Int)), some (.int z), v6] ∧ Same H H' ∧ H' l = some (.lst xs) ∧ PairVs H' xs E ∧
          E.Nodup ∧ ∀ p ∈ E, p.1 < p.2 ∧ (p.2 < 1 + i ∨ (p.2 = 1 + i ∧ p.1 < j))) ?_ ?_ ?_⟩
      · exact ⟨E, xs, _, v6, rfl, s1, hl1, r1, wf1.1, fun p hp => ⟨(wf1.2 p hp).1, .inl (wf1.2 p hp).2⟩⟩
      · rintro j σ H2 hj ⟨E2, xs2, z, v6, rfl, s2, hl2, r2, nd2, wf2⟩
        rw [Int.zero_add]
        have wf2' : WF n E2 := ⟨nd2, fun p hp => ⟨(wf2 p hp).1, by have := (wf2 p hp).2; omega⟩⟩
        have len2 : xs2.length ≤ 400 := by
          have := wf2'.len n20
          have := Paired.length r2
          omega
        refine ⟨_, rfl, _, _, rfl, rfl, (by show (0 : Int) < 2; decide), rfl, _, rfl, ite2 (fun c => ?_) (fun c => ?_)⟩
        · refine ⟨_, rfl, .inl ⟨rfl, _, SqL.of hl2⟩, _, rfl, _, rfl, (by show 2 ≤ sizeLine; decide), fun t ht => ?_⟩
          have ntl : l ≠ t := ne_of_none hl2 ht
          refine ⟨l, xs2, _, rfl, rfl, (by rw [upd_ne ntl]; exact hl2), Nat.lt_of_le_of_lt len2 (by decide), ?_⟩
          refine ⟨_, rfl, _, _, rfl, rfl, ⟨by decide, by decide⟩, ?_⟩
          have nin : (j, 1 + i) ∉ E2 := fun m => by
            have := (wf2 _ m).2
            simp only at this
            omega
          refine ⟨E2 ++ [(j, 1 + i)], xs2 ++ [.ref t], _, _, rfl, ?_, upd_same, ?_, nd_snoc nd2 nin, ?_⟩
          · intro b o e
            have e2 := s2 b o e
            have nbl : b ≠ l := ne_of_none e hl
            rw [upd_ne nbl, upd_ne (ne_of_none e2 ht)]
            exact e2
          · refine PairVs.snoc (r2.keep fun b ys e => ?_) ⟨t, rfl, ?_⟩
            · rw [upd_ne (ne_of e hl2 (fun z => nomatch z)), upd_ne (ne_of_none e ht)]
              exact e
            · rw [upd_ne ntl.symm, upd_same]
          · intro p hp
            rcases List.mem_append.mp hp with hp | hp
            · have := wf2 p hp
              omega
            · rw [List.mem_singleton.mp hp]
              show j < 1 + i ∧ (1 + i < 1 + i ∨ (1 + i = 1 + i ∧ j < j + 1))
              omega
        · refine ⟨_, rfl, _, _, rfl, rfl, ⟨by decide, by decide⟩, ?_⟩
          refine ⟨E2, xs2, _, _, rfl, s2, hl2, r2, nd2, fun p hp => ?_⟩
          have := wf2 p hp
          omega
      · rintro σ H2 ⟨E2, xs2, z, v6, rfl, s2, hl2, r2, nd2, wf2⟩
        refine ⟨E2, xs2, _, _, _, rfl, s2, hl2, r2, nd2, fun p hp => ?_⟩
        have := wf2 p hp
        omega
    · rintro σ H1 ⟨E, xs, v4, v5, v6, rfl, s1, hl1, r1, wf1⟩
      have wfn : WF n E := ⟨wf1.1, fun p hp => by
        have := wf1.2 p hp
        omega⟩
      obtain ⟨h1, h2⟩ := sort_pairs r1 wf1.1
      refine ⟨_, rfl, l, xs, tk2 H1, rfl, SqL.of hl1, h1, fun ys p hs hst hp => ?_⟩
      obtain ⟨E', r', pe, so⟩ := h2 ys hs hst.perm
      have s2 := s1.trans (same_new (.lst ys) hp)
      refine q _ p E' s2 (s1.free hp) ⟨ys, upd_same, r'.keep fun b zs e => by rw [upd_ne (ne_of_none e hp)]; exact e⟩ ⟨pe.nodup_iff.mpr wfn.1, fun x hx => wfn.2 x (pe.mem_iff.mp hx)⟩ so
end
end KT

/-! the law's defs: how many, the hall of pairs -/
namespace KT
open PySem PySem.Spec PyProof.Rows L2
section
variable {P : Program} {w : World} {K : PySem.W.Frag} {mg : Str → Option Value} {base : Heap} {C cNG cSG cKA cST cBH : Addr}
theorem sc_hall_of : FnScope ["many", "pairs", "hall", "one", "other"] ["many", "pairs"] (defScope st_l_hall_of) := ⟨rfl, rfl, rfl, by decide +kernel, rfl, by decide +kernel, by decide +kernel⟩
theorem ok_hall_of {f : Addr} {fd : FuncData} (F : Fun K "_law_hall_of" "_law_hall_of" st_l_hall_of f fd) (T : HT K mg C cNG cSG cKA cST cBH)
    (mkH : MakD P w K mg base (L2N.CX P w) C 1 "Hall" (spInit C cBH)) (mM : MetD P w K mg base (L2N.CX P w) C 4 "meet" (spMeet C cNG cSG cKA)) :
    FnOk P w K mg base CX0 5 f fd ["many", "pairs"] (spHallOf C) := by
  refine F.ok sc_hall_of (fun vs H Q E h => ?_) (fun cdv A outer s H vs Q E hr h => ?_)
  · obtain ⟨l, n, E, rfl, _⟩ := h
    rfl
  · obtain ⟨l, n, E, rfl, hP, wf, n1, n20, q⟩ := h
    obtain ⟨xs, hl, r⟩ := hP.ex
    refine ⟨_, pss_cons (ps_set (i := 2) sc_hall_of.nd rfl (Or.inl rfl) (pk mkH hr passN (pa_cons (pv 0) pa_nil)))
      (pss_cons (ps_for PassesOwn.never rfl (pi_list (pv 1)) (pg_tup rfl (pgs_cons (pg_name (i := 3) sc_hall_of.nd rfl (Or.inl rfl)) (pgs_cons (pg_name (i := 4) sc_hall_of.nd rfl (Or.inl rfl)) pgs_nil)))
        (pss_one (ps_expr (pm (pv 2) T.cl mM hr passN (pa_cons (pv 3) (pa_cons (pv 4) pa_nil))))))
      (pss_one (ps_ret (pv 2)))), ?_⟩
    refine ⟨_, rfl, make_hall (z := (n : Int)) (fun b => absurd ⟨by omega, by omega⟩ b) ?_⟩
    intro n' en _ _ H1 x d hx hd s1 hall1
    have en : n = n' := by omega
    subst en
    have nxd := hall1.ne
    refine ⟨_, rfl, l, rfl, ⟨_, s1.seq (SqL.of hl)⟩, for_list (K := K) (a := l) (xs := xs) (fun i σ H' => ∃ v3 v4, σ = [some (.int (n : Int)), some (.ref l), some (.ref x), v3, v4] ∧ Same H H' ∧ HallAt C H' x n d (E.take i))
      ⟨none, none, rfl, s1, hall1⟩ (fun i σ H' _ ⟨_, _, _, s2, _⟩ => s2.seq (SqL.of hl)) ?_ ?_⟩
    · rintro i v σ H2 hi ⟨v3, v4, rfl, s2, hall2⟩
      obtain ⟨p, hp, hv⟩ := (r.keep (fun b ys z => s2 b _ z)).get hi
      obtain ⟨a, rfl, ha⟩ := hv
      obtain ⟨dx, hx2⟩ := hall2.ins
      have pw := wf.2 p (List.mem_of_getElem? hp)
      refine ⟨a, _, rfl, SqT.of ha, rfl, _, _, rfl, _, _, rfl, rfl, ?_⟩
      have nm : (hf n d).lookup ("meet" : Str) = none := hf_no _ _ (by decide +kernel) (by decide +kernel)
      have tk1 : E.take (i + 1) = E.take i ++ [p] := by
        rw [List.take_add_one, hp]
        rfl
      have nin : p ∉ E.take i := by
        have nd : (E.take (i + 1)).Nodup := wf.1.sublist (List.take_sublist _ _)
        rw [tk1] at nd
        exact fun m => (List.pairwise_append.mp nd).2.2 p m p (List.mem_singleton.mpr rfl) rfl
      have en : nrm p.1 p.2 = p := nrm_lt pw.1
      refine ⟨_, rfl, x, dx, _, rfl, hx2, nm, _, rfl, _, rfl, x, d, n, E.take i, (p.1 : Int), (p.2 : Int), rfl, hall2, fun b => b ⟨isG.of (by omega), isG.of pw.2⟩, fun _ _ e => by omega, ?_, ?_⟩
      · intro i' j' ei ej _ _ _ m
        have ei : p.1 = i' := by omega
        have ej : p.2 = j' := by omega
        rw [← ei, ← ej, en] at m
        exact absurd m nin
      · intro i' j' ei ej _ _ _ _ H3 k3 hall3
        have ei : p.1 = i' := by omega
        have ej : p.2 = j' := by omega
        rw [← ei, ← ej, en, ← tk1] at hall3
        exact ⟨_, _, rfl, same_keepNew s2 hd k3, hall3⟩
    · rintro σ H2 ⟨v3, v4, rfl, s2, hall2⟩
      have e : E.take xs.length = E := by
        rw [Paired.length r, List.take_length]
      rw [e] at hall2
      exact ⟨_, rfl, q _ x d s2 hx hd hall2⟩
end
end KT

/-! the law's def: how many -/
namespace KT
open PySem PySem.Spec PyProof.Rows L2
section
variable {P : Program} {w : World} {K : PySem.W.Frag} {mg : Str → Option Value} {base : Heap}
theorem sc_many_of : FnScope ["script", "head"] ["script"] (defScope st_l_many) := ⟨rfl, rfl, rfl, by decide +kernel, rfl, by decide +kernel, by decide +kernel⟩
theorem ok_many_of {f : Addr} {fd : FuncData} (F : Fun K "_law_many" "_law_many" st_l_many f fd) (cC : CalD P w K mg base CX0 1 "_law_cell_at" (spCell K)) :
    FnOk P w K mg base CX0 2 f fd ["script"] (spManyOf K) := by
  refine F.ok sc_many_of (fun vs H Q E h => ?_) (fun cdv A outer s H vs Q E hr h => ?_)
  · obtain ⟨a, ns, rfl, _⟩ := h
    rfl
  · obtain ⟨a, ns, rfl, hS, q⟩ := h
    refine ⟨_, pss_cons (ps_set (i := 1) sc_many_of.nd rfl (Or.inl rfl) (pc cC hr pass0 (pa_cons (pv 0) (pa_cons pe_int pa_nil))))
      (pss_cons (ps_if (pt_cmpR op_eq (pe_op op_mod (pe_op op_fdiv (pv 1) pe_int) pe_int) pe_int (nomark _)) (pss_one (ps_ret (pe_op op_add pe_int (pe_op op_mod (pe_op op_fdiv (pv 1) pe_int) pe_int)))) pss_nil)
      (pss_one (ps_ret (pe_op op_add pe_int (pe_op op_mod (pv 1) pe_int))))), ?_⟩
    refine ⟨_, rfl, a, ns, 0, rfl, hS, ?_⟩
    have fin : ∀ z : Int, 1 ≤ z → z ≤ 20 → Q (.int z) H := fun z h1 h2 => by
      have e : ((z.toNat : Nat) : Int) = z := by omega
      rw [← e]
      exact q z.toNat (by omega) (by omega)
    refine ⟨_, rfl, _, _, rfl, rfl, ⟨by decide, by decide⟩, _, _, rfl, rfl, (by show (0 : Int) < 4; decide), rfl, _, rfl, ite2 (fun c => ?_) (fun c => ?_)⟩
    · refine ⟨_, rfl, _, _, rfl, rfl, ⟨by decide, by decide⟩, _, _, rfl, rfl, (by show (0 : Int) < 10; decide), _, _, rfl, rfl, fin _ ?_ ?_⟩
      · generalize ns.getD 0 0 = z
        show 1 ≤ 11 + z / 40 % 10
        omega
      · generalize ns.getD 0 0 = z
        show 11 + z / 40 % 10 ≤ 20
        omega
    · refine ⟨_, rfl, _, _, rfl, rfl, (by show (0 : Int) < 10; decide), _, _, rfl, rfl, fin _ ?_ ?_⟩
      · generalize ns.getD 0 0 = z
        show 1 ≤ 1 + z % 10
        omega
      · generalize ns.getD 0 0 = z
        show 1 + z % 10 ≤ 20
        omega
end
end KT

/-! the marks of a caught error -/
namespace KT
open PySem PySem.Spec PyProof.Rows L2
section
variable {P : Program} {w : World} {K : PySem.W.Frag} {mg : Str → Option Value} {base : Heap} {C cNG cSG cKA cST cBH cNT cHE : Addr}
theorem sc_marks : FnScope ["e", "marks"] ["e"] (defScope st_l_marks_of) := ⟨rfl, rfl, rfl, by decide +kernel, rfl, by decide +kernel, by decide +kernel⟩
theorem ok_marks {f : Addr} {fd : FuncData} (F : Fun K "_law_marks_of" "_law_marks_of" st_l_marks_of f fd) (T : HT K mg C cNG cSG cKA cST cBH) (gNT : mg "NoText" = some (.ref cNT)) (his : mg "isinstance" = none) (hve : mg "ValueError" = none) :
    FnP P w K mg base 1 f fd ["e"] (spMarks K cNG cSG cKA cST cBH cNT cHE) := by
  refine okP F sc_marks (fun a cls d vs H Q E h => ?_) (fun cdv A outer s H vs Q E p cls d hr hz hf h => ?_)
  · obtain ⟨D, m, rfl, _⟩ := h
    rfl
  · obtain ⟨D, m, rfl, rfl, rfl, M, q⟩ := h
    have mem : p ∈ [p] := List.mem_singleton.mpr rfl
    refine ⟨_, pss_cons (ps_set (i := 1) sc_marks.nd rfl (Or.inl rfl) (pe_lst
        (pa_cons (pe_callB (call_isP (D := D) mem M.ex hz hf) (by rfl) his (by decide +kernel) (pa_cons (pv 0) (pa_cons (pe_glob (v := .ref cNG) rfl T.ng.g rfl) pa_nil)))
        (pa_cons (pe_callB (call_isP (D := D) mem M.ex hz hf) (by rfl) his (by decide +kernel) (pa_cons (pv 0) (pa_cons (pe_glob (v := .ref cSG) rfl T.sg.g rfl) pa_nil)))
        (pa_cons (pe_callB (call_isP (D := D) mem M.ex hz hf) (by rfl) his (by decide +kernel) (pa_cons (pv 0) (pa_cons (pe_glob (v := .ref cKA) rfl T.ka.g rfl) pa_nil)))
        (pa_cons (pe_callB (call_isP (D := D) mem M.ex hz hf) (by rfl) his (by decide +kernel) (pa_cons (pv 0) (pa_cons (pe_glob (v := .ref cST) rfl T.st.g rfl) pa_nil))) pa_nil))))))
      (pss_one (ps_ret (pe_op op_cat (pv 1) (pe_lst
        (pa_cons (pe_callB (call_isP (D := D) mem M.ex hz hf) (by rfl) his (by decide +kernel) (pa_cons (pv 0) (pa_cons (pe_glob (v := .ref cBH) rfl T.bh.g rfl) pa_nil)))
        (pa_cons (pe_callB (call_isP (D := D) mem M.ex hz hf) (by rfl) his (by decide +kernel) (pa_cons (pv 0) (pa_cons (pe_glob (v := .ref cNT) rfl gNT rfl) pa_nil)))
        (pa_cons (pe_not (pe_callB (call_isP (D := D) mem M.ex hz hf) (by rfl) his (by decide +kernel) (pa_cons (pv 0) (pa_cons (pe_bltn (v := .ty "ValueError") (by rfl) hve (by decide +kernel) rfl) pa_nil)))) pa_nil))))))), ?_⟩
    refine ⟨_, rfl, _, _, _, rfl, (fun u r => r), M.i0, ?_⟩
    refine ⟨_, rfl, _, _, _, rfl, (fun u r => r), M.i1, ?_⟩
    refine ⟨_, rfl, _, _, _, rfl, (fun u r => r), M.i2, ?_⟩
    refine ⟨_, rfl, _, _, _, rfl, (fun u r => r), M.i3, ?_⟩
    refine ⟨(by show 4 ≤ sizeLine; decide), fun l1 h1 => ?_⟩
    refine ⟨_, rfl, ?_⟩
    refine ⟨_, rfl, _, _, _, rfl, (fun u r => r), M.i4, ?_⟩
    refine ⟨_, rfl, _, _, _, rfl, (fun u r => r), M.i5, ?_⟩
    refine ⟨_, rfl, _, _, _, rfl, (fun u r => r), M.iV, ?_⟩
    refine ⟨true, rfl, ?_⟩
    refine ⟨(by show 3 ≤ sizeLine; decide), fun l2 h2 => ?_⟩
    refine ⟨l1, l2, _, _, rfl, rfl, (same_new _ h2) _ _ upd_same, upd_same, (by show 4 + 3 ≤ sizeLine; decide), fun l3 h3 => ?_⟩
    refine q _ l3 (((same_new _ h1).trans (same_new _ h2)).trans (same_new _ h3)) ?_ ?_
    · exact Same.free ((same_new _ h1).trans (same_new _ h2)) h3
    · rw [upd_same]
      have m5 := M.m5
      have e6 : decide (6 = m) = !true := decide_eq_false (by omega)
      show some (HO.lst [V.bl (decide (0 = m)), V.bl (decide (1 = m)), V.bl (decide (2 = m)), V.bl (decide (3 = m)), V.bl (decide (4 = m)), V.bl (decide (5 = m)), V.bl (!true)]) = _
      rw [← e6]
      rfl
end
end KT

/-! law 08 -/
namespace KT
open PySem PySem.Spec PyProof.Rows L2
section
variable {P : Program} {w : World} {K : PySem.W.Frag} {mg : Str → Option Value} {base : Heap} {C cNG cSG cKA cST cBH cNT cHE : Addr}
theorem sc_lcrowd : FnScope ["pairs", "guests", "one", "other"] ["pairs", "guests"] (defScope st_l_crowd) := ⟨rfl, rfl, rfl, by decide +kernel, rfl, by decide +kernel, by decide +kernel⟩
theorem ok_lcrowd {f : Addr} {fd : FuncData} (F : Fun K "_law_crowd" "_law_crowd" st_l_crowd f fd) : FnOk P w K mg base CX0 1 f fd ["pairs", "guests"] spCrowdL := by
  refine F.ok sc_lcrowd (fun vs H Q E h => ?_) (fun cdv A outer s H vs Q E hr h => ?_)
  · obtain ⟨l, g, n, E, gs, rfl, _⟩ := h
    rfl
  · obtain ⟨l, g, n, E, gs, rfl, hP, wf, hg, q⟩ := h
    refine ⟨_, pss_cons (ps_for PassesOwn.never rfl (pi_list (pv 1)) (pg_name (i := 2) sc_lcrowd.nd rfl (Or.inl rfl))
        (pss_one (ps_for PassesOwn.never rfl (pi_list (pv 1)) (pg_name (i := 3) sc_lcrowd.nd rfl (Or.inl rfl))
          (pss_one (ps_if (PW.pt (pw_and (pt_cmpR op_lt (pv 2) (pv 3) (nomark _)) (pw_and1 (pt_cmpR (op_notInD (hu65 hr)) (pe_tup (pa_cons (pv 2) (pa_cons (pv 3) pa_nil))) (pv 0) (by rfl))))) (pss_one (ps_ret pe_bl)) pss_nil)))))
      (pss_one (ps_ret pe_bl)), ?_⟩
    refine ⟨_, rfl, g, rfl, ⟨_, SqL.of hg⟩, for_list (K := K) (a := g) (xs := iV gs) (fun i σ H' => ∃ v3 v4, σ = [some (.ref l), some (.ref g), v3, v4] ∧ Same H H' ∧ ∀ a ∈ gs.take i, ∀ b ∈ gs, a < b → (a, b) ∈ E) ⟨none, none, rfl, Same.refl _, fun z hz => by simp at hz⟩ (fun i σ H' _ ⟨_, _, _, s1, _⟩ => SqL.of (s1 _ _ hg)) ?_ ?_⟩
    · rintro i v σ H2 hi ⟨v3, v4, rfl, s2, k2⟩
      obtain ⟨a, ha, rfl⟩ := iV_get hi
      have ma := List.mem_of_getElem? ha
      refine ⟨_, rfl, g, rfl, ⟨_, SqL.of (s2 _ _ hg)⟩, for_list (K := K) (a := g) (xs := iV gs) (fun i σ H' => ∃ v4, σ = [some (.ref l), some (.ref g), some (.int (a : Int)), v4] ∧ Same H H' ∧ ∀ b ∈ gs.take i, a < b → (a, b) ∈ E) ⟨_, rfl, s2, fun z hz => by simp at hz⟩ (fun i σ H' _ ⟨_, _, s1, _⟩ => SqL.of (s1 _ _ hg)) ?_ ?_⟩
      · rintro j v σ H3 hj ⟨v4, rfl, s3, k3⟩
        obtain ⟨b, hb, rfl⟩ := iV_get hj
        have mb := List.mem_of_getElem? hb
        refine ⟨_, rfl, _, rfl, _, _, rfl, rfl, _, rfl, ite2 (fun c => ?_) (fun c => ?_)⟩
        · have ab : a < b := by
            have := of_decide_eq_true c
            omega
          refine ⟨_, rfl, _, rfl, (by show 2 ≤ sizeLine; decide), fun t ht => ?_⟩
          have st := same_new (.tup [V.int (a : Int), V.int (b : Int)]) ht
          have tv : PairV (upd H3 t (.tup [V.int (a : Int), V.int (b : Int)])) (.ref t) (a, b) := ⟨t, rfl, upd_same⟩
          refine ⟨_, rfl, pD (a, b), E.map pD, tv.dp, ((hP.same s3).same st).dp, pD_shaped _, pDs_shaped _, _, rfl, ?_⟩
          rw [any_pD]
          refine ite2 (fun c2 => ?_) (fun c2 => ?_)
          · have e : crowdR E gs = false := by
              rw [Bool.eq_false_iff]
              intro z
              have y := crowdR_iff.mp z a ma b mb ab
              rw [decide_eq_true y] at c2
              cases c2
            rw [e] at q
            exact q _ (s3.trans st)
          · refine ⟨_, rfl, s3.trans st, forall_take hb k3 fun _ => ?_⟩
            by_cases m : (a, b) ∈ E
            · exact m
            · rw [decide_eq_false m] at c2
              exact absurd rfl c2
        · refine ⟨_, rfl, s3, forall_take hb k3 fun z => ?_⟩
          exact absurd (by simp; omega) c
      · rintro σ H3 ⟨v4, rfl, s3, k3⟩
        rw [iV_len, List.take_length] at k3
        exact ⟨_, _, rfl, s3, forall_take ha k2 k3⟩
    · rintro σ H2 ⟨v3, v4, rfl, s2, k2⟩
      rw [iV_len, List.take_length] at k2
      have e : crowdR E gs = true := crowdR_iff.mpr k2
      rw [e] at q
      exact q _ s2
theorem sc_lmarks : FnScope ["hall", "guests", "marks", "e"] ["hall", "guests"] (defScope st_l_marks) := ⟨rfl, rfl, rfl, by decide +kernel, rfl, by decide +kernel, by decide +kernel⟩
theorem ok_lmarks {f : Addr} {fd : FuncData} (F : Fun K "_law_marks" "_law_marks" st_l_marks f fd) (T : HT K mg C cNG cSG cKA cST cBH) (gHE : mg "HallError" = some (.ref cHE))
    (cI : CalD P w K mg base (L2N.CX P w) 4 "is_crowd" (spIsCrowd C cNG)) (cMk : CalP P w K mg base 1 "_law_marks_of" (spMarks K cNG cSG cKA cST cBH cNT cHE)) (M : MarkT K cNG cSG cKA cST cBH cNT cHE cNG 0) :
    FnOk P w K mg base CX0 5 f fd ["hall", "guests"] (spCrowdMarks C) := by
  refine F.ok sc_lmarks (fun vs H Q E h => ?_) (fun cdv A outer s H vs Q E hr h => ?_)
  · obtain ⟨p, l, d, n, L, zs, rfl, _⟩ := h
    rfl
  · obtain ⟨p, l, d, n, L, zs, rfl, hall, hl, bad, q⟩ := h
    refine ⟨_, pss_cons (ps_set (i := 2) sc_lmarks.nd rfl (Or.inl rfl) (pe_lst pa_nil))
      (pss_cons (ps_try_as (i := 3) (tb := fun W => tDrop (tCallS (spIsCrowd C cNG) (WE W) (tCons (tVar 0) (tCons (tVar 1) tNil))))
          (ts := fun a cls d => tAsg (tCallP (spMarks K cNG cSG cKA cST cBH cNT cHE) a cls d (tCons (tVar 3) tNil)) (gName 2)) (Wout := fun _ _ _ _ => False) rfl rfl sc_lmarks.nd rfl rfl ⟨rfl, by decide, Or.inl gHE⟩ takes0
          (fun W pn xe tk _ => pss_one (ps_expr (pcS cI.weak hr (fun σ => passAt tk σ) (pa_cons (pv 0) (pa_cons (pv 1) pa_nil)))))
          (fun a oe cls d pn hz hf => pss_one (ps_set (i := 2) sc_lmarks.nd rfl (Or.inl rfl) (pcP (p := (a, oe)) cMk hr rfl rfl List.mem_cons_self hz hf (pa_cons (pv 3) pa_nil)))))
      (pss_one (ps_ret (pv 2)))), ?_⟩
    refine ⟨Nat.zero_le _, fun l0 hl0 => ?_⟩
    have s0 : Same H (upd H l0 (.lst [])) := same_new _ hl0
    refine ⟨_, rfl, _, rfl, p, l, d, n, L, zs, rfl, hall.same s0, s0 _ _ hl, fun _ => ?_, fun gs ez gn => ?_⟩
    · refine ⟨true, M.h, fun _ a _ => ?_, fun z => Bool.noConfusion z⟩
      refine ⟨_, rfl, cNG, 0, rfl, rfl, rfl, M, fun H2 l2 s2 nl2 h2 => ?_⟩
      exact ⟨_, rfl, q _ _ (s0.trans s2) h2⟩
    · exfalso
      obtain ⟨z, hz, ng⟩ := bad
      have mz : V.int z ∈ iV gs := by
        rw [← ez]
        exact List.mem_map.mpr ⟨z, hz, rfl⟩
      obtain ⟨g, hg, e⟩ := List.mem_map.mp mz
      have e := V.int.inj e
      exact ng (by rw [← e]; exact isG.of (gn g hg))
theorem iV_rev (l : List Nat) : (iV l).reverse = iV l.reverse := by
  unfold iV
  rw [List.map_reverse]
theorem iV_int (l : List Nat) : iV l = (l.map fun (i : Nat) => (i : Int)).map V.int := by
  unfold iV
  rw [List.map_map]
  rfl
theorem sc_law : FnScope ["script", "many", "pairs", "hall", "digits", "guests", "guest", "fits", "handed", "found", "far", "bad", "k"] ["script"] (defScope st_law) := ⟨rfl, rfl, rfl, by decide +kernel, rfl, by decide +kernel, by decide +kernel⟩
theorem ok_law {f : Addr} {fd : FuncData} (F : Fun K "law" "law" st_law f fd) (T : HT K mg C cNG cSG cKA cST cBH) (his : mg "isinstance" = none) (hbool : mg "bool" = none) (hlist : mg "list" = none)
    (cC : CalD P w K mg base CX0 1 "_law_cell_at" (spCell K)) (cM : CalD P w K mg base CX0 2 "_law_many" (spManyOf K)) (cP : CalD P w K mg base CX0 2 "_law_pairs_by" (spPairsBy K))
    (cH : CalD P w K mg base CX0 5 "_law_hall_of" (spHallOf C)) (cR : CalD P w K mg base CX0 1 "_law_crowd" spCrowdL) (cI : CalD P w K mg base (L2N.CX P w) 4 "is_crowd" (spIsCrowd C cNG)) (cL : CalD P w K mg base CX0 5 "_law_marks" (spCrowdMarks C)) :
    FnOk P w K mg base CX0 6 f fd ["script"] (spLaw K) := by
  refine F.ok sc_law (fun vs H Q E h => ?_) (fun cdv A outer s H vs Q E hr h => ?_)
  · obtain ⟨a, ns, rfl, _⟩ := h
    rfl
  · obtain ⟨a, ns, rfl, hS, h63, q⟩ := h
    refine ⟨_, pss_cons (ps_set (i := 1) sc_law.nd rfl (Or.inl rfl) (pc cM hr pass0 (pa_cons (pv 0) pa_nil)))
      (pss_cons (ps_set (i := 2) sc_law.nd rfl (Or.inl rfl) (pc cP hr pass0 (pa_cons (pv 0) (pa_cons pe_int (pa_cons (pv 1) pa_nil)))))
      (pss_cons (ps_set (i := 3) sc_law.nd rfl (Or.inl rfl) (pc cH hr pass0 (pa_cons (pv 1) (pa_cons (pv 2) pa_nil))))
      (pss_cons (ps_set (i := 4) sc_law.nd rfl (Or.inl rfl) (pc cC hr pass0 (pa_cons (pv 0) (pa_cons pe_int pa_nil))))
      (pss_cons (ps_set (i := 5) sc_law.nd rfl (Or.inl rfl) (pe_lst pa_nil))
      (pss_cons (ps_for PassesOwn.never rfl (pi_range1 (by rfl) T.range (pa_cons (pv 1) pa_nil)) (pg_name (i := 6) sc_law.nd rfl (Or.inl rfl))
        (pss_cons (ps_set (i := 7) sc_law.nd rfl (Or.inl rfl) (pe_join (pe_or (pe_cmpR op_eq (pe_op op_mod (pc cC hr pass0 (pa_cons (pv 0) (pa_cons pe_int pa_nil))) pe_int) pe_int (nomark _))
          (pe_one (pc cR hr pass0 (pa_cons (pv 2) (pa_cons (pe_op op_cat (pv 5) (pe_lst (pa_cons (pv 6) pa_nil))) pa_nil)))))))
        (pss_cons (ps_join (ps_if (PW.pt (pw_and (pt_cmpR op_gt (pe_op op_mod (pv 4) pe_int) pe_int (nomark _)) (pw_and1 (pt_val (pv 7)))))
          (pss_one (ps_expr (pe_bm PySem.F.plainAttrs_list PySem.F.slot_list_append PySem.F.type_list_append mt_append (pv 5) (pa_cons (pv 6) pa_nil)))) pss_nil))
        (pss_one (ps_set (i := 4) sc_law.nd rfl (Or.inl rfl) (pe_op op_fdiv (pv 4) pe_int))))))
      (pss_cons (ps_join (ps_if (pt_cmpR op_eq (pe_op op_mod (pe_op op_fdiv (pc cC hr pass0 (pa_cons (pv 0) (pa_cons pe_int pa_nil))) pe_int) pe_int) pe_int (nomark _))
        (pss_one (ps_expr (pe_bm0 PySem.F.plainAttrs_list PySem.F.slot_list_reverse PySem.F.type_list_reverse mt_reverse (pv 5)))) pss_nil))
      (pss_cons (ps_set (i := 8) sc_law.nd rfl (Or.inl rfl) (pe_callTy call_list_of (by rfl) hlist (by decide +kernel) (pa_cons (pv 5) pa_nil)))
      (pss_cons (ps_set (i := 9) sc_law.nd rfl (Or.inl rfl) (pc cI hr passN (pa_cons (pv 3) (pa_cons (pv 8) pa_nil))))
      (pss_cons (ps_if (PW.pt (pw_or (pt_cmpR (op_neD hr.units) (pv 8) (pv 5) (nomark _)) (pw_or (pt_not (pt_val (pe_callB call_isi (by rfl) his (by decide +kernel) (pa_cons (pv 9) (pa_cons (pe_bltn (v := .ty "bool") (by rfl) hbool (by decide +kernel) rfl) pa_nil)))))
          (pw_or1 (pt_cmpR op_ne (pv 9) (pc cR hr pass0 (pa_cons (pv 2) (pa_cons (pv 5) pa_nil))) (nomark _)))))) (pss_one (ps_ret pe_bl)) pss_nil)
      (pss_cons (ps_set (i := 10) sc_law.nd rfl (Or.inl rfl) (pe_op op_mod (pe_op op_fdiv (pc cC hr pass0 (pa_cons (pv 0) (pa_cons pe_int pa_nil))) pe_int) pe_int))
      (pss_cons (ps_set (i := 11) sc_law.nd rfl (Or.inl rfl) (pe_ix ix_list (pe_lst (pa_cons (pe_un un_neg pe_int) (pa_cons (pv 1) (pa_cons (pe_op op_sub (pe_un un_neg pe_int) (pv 10)) (pa_cons (pe_op op_add (pv 1) (pv 10)) pa_nil)))))
          (pe_op op_mod (pc cC hr pass0 (pa_cons (pv 0) (pa_cons pe_int pa_nil))) pe_int) (fun _ _ => rfl)))
      (pss_cons (ps_expr (pe_bm PySem.F.plainAttrs_list PySem.F.slot_list_insert PySem.F.type_list_insert mt_insert (pv 5) (pa_cons (pe_op op_mod (pc cC hr pass0 (pa_cons (pv 0) (pa_cons pe_int pa_nil))) (pe_op op_add (pe_callB call_len_seq (by rfl) T.len PySem.boot_len (pa_cons (pv 5) pa_nil)) pe_int)) (pa_cons (pv 11) pa_nil))))
      (pss_one (ps_ret (pe_cmpR (op_eqD hr.units) (pc cL hr pass0 (pa_cons (pv 3) (pa_cons (pv 5) pa_nil))) (pe_marks (i := 12) (m := 0) rfl sc_law.nd (by show 12 < 13; decide) T.range (by rfl) (blkOk_by (own := [("k", 12)]) (N := ["script", "many", "pairs", "hall", "digits", "guests", "guest", "fits", "handed", "found", "far", "bad", "k"]) (sc := defScope st_law) (by decide +kernel))
        (fun _ _ _ _ _ => pg_name (i := 12) sc_law.nd rfl (Or.inl rfl)) (fun _ _ _ _ _ => pv 12)) (nomark _)))))))))))))))), ?_⟩
    refine ⟨_, rfl, a, ns, rfl, hS, fun n n1 n20 => ?_⟩
    refine ⟨_, rfl, _, rfl, a, ns, 3 + 2, n, rfl, hS, n1, n20, fun H1 l E s1 _ hP wf _ => ?_⟩
    refine ⟨_, rfl, _, rfl, l, n, E, rfl, hP, wf, n1, n20, fun H2 x d s2 _ _ hall => ?_⟩
    have hP2 := hP.same s2
    have S2 := s1.trans s2
    refine ⟨_, rfl, a, ns, 1, rfl, S2.seq hS, ?_⟩
    refine ⟨Nat.zero_le _, fun g0 ng0 => ?_⟩
    have s3 := same_new (.lst []) ng0
    refine ⟨_, rfl, (n : Int), rfl, by omega, by omega, for_range (lo := 0) (n := n) (fun i σ H' => ∃ (z : Int) (gs : List Nat) (v6 v7 : Option V), σ = [some (.ref a), some (.int (n : Int)), some (.ref l), some (.ref x), some (.int z), some (.ref g0), v6, v7, none, none, none, none, none] ∧ Same H2 H' ∧ H' g0 = some (.lst (iV gs)) ∧ (∀ g ∈ gs, g < i) ∧ gs.length ≤ i)
      ⟨_, [], none, none, rfl, s3, upd_same, (fun g hg => by cases hg), Nat.le_refl _⟩ ?_ ?_⟩
    · rintro i σ H4 hi ⟨z, gs, v6, v7, rfl, s4, h4, b4, c4⟩
      rw [Int.zero_add]
      have S4 := S2.trans s4
      refine ⟨fun v H' => ∃ b, v = V.bl b ∧ Same H4 H', ⟨_, rfl, a, ns, 2, rfl, S4.seq hS, _, _, rfl, rfl, (by show (0 : Int) < 2; decide), rfl, _, rfl, ite2 (fun c => ⟨_, rfl, Same.refl _⟩) (fun c => ?_)⟩, ?_⟩
      · refine ⟨_, rfl, _, rfl, _, rfl, (by show 1 ≤ sizeLine; decide), fun t1 ht1 => ?_⟩
        have st1 := same_new (.lst [V.int (i : Int)]) ht1
        refine ⟨g0, t1, _, _, rfl, rfl, st1 _ _ h4, upd_same, ?_, fun t2 ht2 => ?_⟩
        · rw [iV_len]
          exact Nat.le_trans (m := 100) (by show gs.length + 1 ≤ 100; omega) (by decide)
        · have st2 := st1.trans (same_new (.lst (iV gs ++ [V.int (i : Int)])) ht2)
          rw [← iV_snoc] at *
          exact ⟨l, t2, n, E, gs ++ [i], rfl, (hP2.same s4).same st2, wf, upd_same, fun H' s' => ⟨_, rfl, st2.trans s'⟩⟩
      · rintro v H5 ⟨b, rfl, s5⟩
        refine ⟨fun σ' H' => ∃ gs', σ' = [some (.ref a), some (.int (n : Int)), some (.ref l), some (.ref x), some (.int z), some (.ref g0), some (.int (i : Int)), some (.bl b), none, none, none, none, none] ∧ Same H2 H' ∧ H' g0 = some (.lst (iV gs')) ∧ (∀ g ∈ gs', g < i + 1) ∧ gs'.length ≤ i + 1, ?_, ?_⟩
        · refine ⟨_, rfl, _, _, rfl, rfl, (by show (0 : Int) < 3; decide), _, _, rfl, rfl, _, rfl, ite2 (fun c => ⟨_, rfl, b, rfl, ite2 (fun c2 => ?_) (fun c2 => ?_)⟩) (fun c => ?_)⟩
          · have h5 := s5 _ _ h4
            refine ⟨_, rfl, .inl ⟨rfl, _, SqL.of h5⟩, _, rfl, g0, _, _, rfl, rfl, h5, ?_, gs ++ [i], rfl, same_keepNew (s4.trans s5) ng0 (Keep.put g0 _), ?_, ?_, ?_⟩
            · rw [iV_len]
              exact Nat.lt_of_le_of_lt (m := 100) (by omega) (by decide)
            · rw [upd_same, iV_snoc]
            · intro g hg
              rcases List.mem_append.mp hg with hg | hg
              · have := b4 g hg
                omega
              · rw [List.mem_singleton.mp hg]
                omega
            · rw [List.length_append, List.length_singleton]
              omega
          · exact ⟨gs, rfl, s4.trans s5, s5 _ _ h4, (fun g hg => by have := b4 g hg; omega), by omega⟩
          · exact ⟨gs, rfl, s4.trans s5, s5 _ _ h4, (fun g hg => by have := b4 g hg; omega), by omega⟩
        · rintro σ' H6 ⟨gs', rfl, s6, h6, b6, c6⟩
          exact ⟨_, rfl, _, _, rfl, rfl, ⟨by decide, by decide⟩, _, gs', _, _, rfl, s6, h6, b6, c6⟩
    · rintro σ H4 ⟨z, gs, v6, v7, rfl, s4, h4, b4, c4⟩
      have S4 := S2.trans s4
      refine ⟨fun σ' H' => ∃ gs', σ' = [some (.ref a), some (.int (n : Int)), some (.ref l), some (.ref x), some (.int z), some (.ref g0), v6, v7, none, none, none, none, none] ∧ Same H2 H' ∧ H' g0 = some (.lst (iV gs')) ∧ (∀ g ∈ gs', g < n) ∧ gs'.length ≤ n, ?_, ?_⟩
      · refine ⟨_, rfl, a, ns, 2, rfl, S4.seq hS, _, _, rfl, rfl, ⟨by decide, by decide⟩, _, _, rfl, rfl, (by show (0 : Int) < 2; decide), rfl, _, rfl, ite2 (fun c => ?_) (fun c => ?_)⟩
        · refine ⟨_, rfl, .inl ⟨rfl, _, SqL.of h4⟩, g0, _, rfl, rfl, h4, gs.reverse, rfl, same_keepNew s4 ng0 (Keep.put g0 _), ?_, ?_, ?_⟩
          · rw [upd_same, iV_rev]
          · exact fun g hg => b4 g (List.mem_reverse.mp hg)
          · rw [List.length_reverse]
            exact c4
        · exact ⟨gs, rfl, s4, h4, b4, c4⟩
      · rintro σ' H5 ⟨gs', rfl, s5, h5, b5, c5⟩
        have S5 := S2.trans s5
        refine ⟨_, rfl, g0, _, rfl, .inl (SqL.of h5), fun hd nhd => ?_⟩
        have s6 := same_new (.lst (iV gs')) nhd
        have h6 : upd H5 hd (.lst (iV gs')) hd = some (.lst (iV gs')) := upd_same
        have h6b := s6 _ _ h5
        have S6 := s5.trans s6
        refine ⟨_, rfl, _, rfl, x, hd, d, n, E, gs'.map fun (i : Nat) => (i : Int), rfl, hall.same S6, (by rw [← iV_int]; exact h6), fun bad => ?_, fun gs2 e2 _ H7 s7 => ?_⟩
        · exfalso
          obtain ⟨y, hy, ng⟩ := bad
          obtain ⟨g, hg, rfl⟩ := List.mem_map.mp hy
          exact ng (isG.of (b5 g hg))
        · have eg : gs2 = gs' := by
            rw [← iV_int] at e2
            have z := congrArg (List.map fun v => match v with | V.int i => i.toNat | _ => 0) e2
            unfold iV at z
            rw [List.map_map, List.map_map] at z
            have k : ∀ l : List Nat, List.map ((fun v => match v with | V.int i => i.toNat | _ => 0) ∘ fun (i : Nat) => V.int (i : Int)) l = l := fun l => by
              induction l with
              | nil => rfl
              | cons a l ih =>
                rw [List.map_cons, ih]
                rfl
            rw [k, k] at z
            exact z.symm
          rw [eg]
          have S7 := S6.trans s7
          have h7 := s7 _ _ h6
          have h7b := s7 _ _ h6b
          refine ⟨_, rfl, _, rfl, iD gs', iD gs', iD_dp (SqL.of h7), iD_dp (SqL.of h7b), iD_shaped _, iD_shaped _, _, rfl, ?_⟩
          rw [iD_refl]
          refine iteF ?_
          refine ⟨_, rfl, _, _, _, _, true, rfl, .ty "bool", .base (.bl _), kit_ty (by decide +kernel), true, rfl, iteF ?_⟩
          refine ⟨_, rfl, _, rfl, _, rfl, l, g0, n, E, gs', rfl, hP2.same S7, wf, h7b, fun H8 s8 => ?_⟩
          rw [crowd_eq (Eqv.refl E)]
          refine ⟨rfl, _, rfl, iteNS (by simp) ?_⟩
          have S8 := S7.trans s8
          have h8 := s8 _ _ h7b
          have SH8 := S2.trans S8
          refine ⟨_, rfl, a, ns, 3, rfl, SH8.seq hS, _, _, rfl, rfl, ⟨by decide, by decide⟩, _, _, rfl, rfl, (by show (0 : Int) < 1000; decide), ?_⟩
          have f1 : 0 ≤ ns.getD 3 0 / 4 % 1000 := Int.emod_nonneg _ (by decide)
          dsimp only
          generalize ns.getD 3 0 / 4 % 1000 = far at f1
          refine ⟨_, rfl, _, rfl, _, rfl, _, rfl, _, _, rfl, rfl, _, rfl, _, rfl, _, _, rfl, rfl, (by show 4 ≤ sizeLine; decide), fun m nm => ?_⟩
          have s9 := same_new (.lst [V.int (-1), V.int (n : Int), V.int (-1 - far), V.int ((n : Int) + far)]) nm
          have h9 := s9 _ _ h8
          have f2 : 0 ≤ ns.getD 3 0 % 4 := Int.emod_nonneg _ (by decide)
          have f3 : ns.getD 3 0 % 4 < 4 := Int.emod_lt_of_pos _ (by decide)
          refine ⟨_, rfl, a, ns, 3, rfl, (SH8.trans s9).seq hS, _, _, rfl, rfl, (by show (0 : Int) < 4; decide), ?_⟩
          dsimp only
          obtain ⟨k, ek⟩ : ∃ k : Nat, ns.getD 3 0 % 4 = (k : Int) := ⟨_, (Int.toNat_of_nonneg f2).symm⟩
          rw [ek] at f3 ⊢
          obtain ⟨bad, hb, ng⟩ : ∃ bad : Int, [V.int (-1), V.int (n : Int), V.int (-1 - far), V.int ((n : Int) + far)][k]? = some (V.int bad) ∧ ¬ isG n bad := by
            unfold isG
            match k, f3 with
            | 0, _ => exact ⟨_, rfl, by omega⟩
            | 1, _ => exact ⟨_, rfl, by omega⟩
            | 2, _ => exact ⟨_, rfl, by omega⟩
            | 3, _ => exact ⟨_, rfl, by omega⟩
            | k + 4, h => exact absurd h (by omega)
          refine ⟨m, _, _, _, rfl, rfl, SqL.of upd_same, atI_nat hb, ?_⟩
          refine ⟨_, rfl, .inl ⟨rfl, _, SqL.of h9⟩, _, rfl, a, ns, 4, rfl, (SH8.trans s9).seq hS, _, rfl, g0, _, rfl, .inl (SqL.of h9), _, _, rfl, rfl, _, _, rfl, rfl, (by show (0 : Int) < ((iV gs').length : Int) + 1; omega), _, rfl, ?_⟩
          have f4 : 0 ≤ ns.getD 4 0 % (((iV gs').length : Int) + 1) := Int.emod_nonneg _ (by omega)
          have f5 : ns.getD 4 0 % (((iV gs').length : Int) + 1) < ((iV gs').length : Int) + 1 := Int.emod_lt_of_pos _ (by omega)
          have f6 : (iV gs').length ≤ 20 := by rw [iV_len]; omega
          dsimp only
          obtain ⟨j, ej⟩ : ∃ j : Nat, ns.getD 4 0 % (((iV gs').length : Int) + 1) = (j : Int) := ⟨_, (Int.toNat_of_nonneg f4).symm⟩
          rw [ej] at f5 ⊢
          refine ⟨g0, _, _, _, rfl, rfl, h9, Nat.lt_of_le_of_lt f6 (by decide), by omega, by omega, ?_⟩
          have ei : (iV gs').take (j : Int).toNat ++ [V.int bad] ++ (iV gs').drop (j : Int).toNat = ((gs'.map fun (i : Nat) => (i : Int)).take j ++ [bad] ++ (gs'.map fun (i : Nat) => (i : Int)).drop j).map V.int := by
            rw [iV_int, Int.toNat_natCast, List.map_append, List.map_append, List.map_take, List.map_drop]
            rfl
          have S10 : Same H2 (upd (upd H8 m (.lst [V.int (-1), V.int (n : Int), V.int (-1 - far), V.int ((n : Int) + far)])) g0 (.lst ((iV gs').take (j : Int).toNat ++ [V.int bad] ++ (iV gs').drop (j : Int).toNat))) := same_keepNew (S8.trans s9) ng0 (Keep.put g0 _)
          have h10 : upd (upd H8 m (.lst [V.int (-1), V.int (n : Int), V.int (-1 - far), V.int ((n : Int) + far)])) g0 (.lst ((iV gs').take (j : Int).toNat ++ [V.int bad] ++ (iV gs').drop (j : Int).toNat)) g0 = some (.lst (((gs'.map fun (i : Nat) => (i : Int)).take j ++ [bad] ++ (gs'.map fun (i : Nat) => (i : Int)).drop j).map V.int)) := by
            rw [upd_same, ei]
          refine ⟨_, rfl, _, rfl, x, g0, d, n, E, _, rfl, hall.same S10, h10, ⟨bad, by simp, ng⟩, fun H11 mk s11 h11 => ?_⟩
          refine fun D H12 nD s12 h12 => ?_
          refine ⟨bD (marks 0), bD (marks 0), bD_dp (SqL.of (s12 _ _ h11)), bD_dp (SqL.of h12), bD_shaped _, bD_shaped _, ?_⟩
          rw [bD_refl]
          exact q _
end
end KT

/-! what the top has written, each def in order -/
namespace KT
open PySem PySem.Spec PyProof.Rows L2
theorem all_mk {P : Program} {w : World} {K : PySem.W.Frag} {h : Heap} {mg : Str → Option Value} {fa C cNG cSG cKA cST cBH cNT cHE f0 f1 f2 f3 f4 f5 f6 f7 f8 f9 f10 f11 f12 f13 : Addr} {tgr : Tok}  (X : K.In h) (G : h.Ns mainGlobals mg) (hfa : mg "law" = some (.ref fa))
    {od0 an0 od1 an1 od2 an2 od3 an3 od4 an4 od5 an5 od6 an6 od7 an7 od8 an8 od9 an9 od10 an10 od11 an11 od12 an12 od13 an13 : Option Addr} {sl0 sl1 sl2 sl3 sl4 sl5 sl6 sl7 sl8 sl9 sl10 sl11 sl12 sl13 : Array (Option Value)} {oc0 kV0 dc0 pm0 cd0 ct0 oc1 kV1 dc1 pm1 cd1 ct1 oc2 kV2 dc2 pm2 cd2 ct2 oc3 kV3 dc3 pm3 cd3 ct3 oc4 kV4 dc4 pm4 cd4 ct4 oc5 kV5 dc5 pm5 cd5 ct5 oc6 kV6 dc6 pm6 cd6 ct6 oc7 kV7 dc7 pm7 cd7 ct7 oc8 kV8 dc8 pm8 cd8 ct8 oc9 kV9 dc9 pm9 cd9 ct9 oc10 kV10 dc10 pm10 cd10 ct10 oc11 kV11 dc11 pm11 cd11 ct11 oc12 kV12 dc12 pm12 cd12 ct12 oc13 kV13 dc13 pm13 cd13 ct13 : Value}
    (aC : PySem.W.nsIn K mainGlobals "Hall" = some (some (.ref C)))
    (gcNG : PySem.W.nsIn K mainGlobals "NoGuest" = some (some (.ref cNG)))
    (ecNG : PySem.W.excIn K cNG [.type "ValueError", .type "Exception", .type "BaseException", .type "object"] "ValueError.__new__" = true)
    (kcNG : PySem.W.keepIn K (.ref cNG) = true)
    (bcNG : PySem.W.subIn K (.ref cNG) (.type "BaseException") = some true)
    (tcNG : PySem.W.typeIn K (.ref cNG) = some (.type "type"))
    (gcSG : PySem.W.nsIn K mainGlobals "SameGuest" = some (some (.ref cSG)))
    (ecSG : PySem.W.excIn K cSG [.type "ValueError", .type "Exception", .type "BaseException", .type "object"] "ValueError.__new__" = true)
    (kcSG : PySem.W.keepIn K (.ref cSG) = true)
    (bcSG : PySem.W.subIn K (.ref cSG) (.type "BaseException") = some true)
    (tcSG : PySem.W.typeIn K (.ref cSG) = some (.type "type"))
    (gcKA : PySem.W.nsIn K mainGlobals "KnowAlready" = some (some (.ref cKA)))
    (ecKA : PySem.W.excIn K cKA [.type "ValueError", .type "Exception", .type "BaseException", .type "object"] "ValueError.__new__" = true)
    (kcKA : PySem.W.keepIn K (.ref cKA) = true)
    (bcKA : PySem.W.subIn K (.ref cKA) (.type "BaseException") = some true)
    (tcKA : PySem.W.typeIn K (.ref cKA) = some (.type "type"))
    (gcST : PySem.W.nsIn K mainGlobals "Strangers" = some (some (.ref cST)))
    (ecST : PySem.W.excIn K cST [.type "ValueError", .type "Exception", .type "BaseException", .type "object"] "ValueError.__new__" = true)
    (kcST : PySem.W.keepIn K (.ref cST) = true)
    (bcST : PySem.W.subIn K (.ref cST) (.type "BaseException") = some true)
    (tcST : PySem.W.typeIn K (.ref cST) = some (.type "type"))
    (gcBH : PySem.W.nsIn K mainGlobals "BadHall" = some (some (.ref cBH)))
    (ecBH : PySem.W.excIn K cBH [.type "ValueError", .type "Exception", .type "BaseException", .type "object"] "ValueError.__new__" = true)
    (kcBH : PySem.W.keepIn K (.ref cBH) = true)
    (bcBH : PySem.W.subIn K (.ref cBH) (.type "BaseException") = some true)
    (tcBH : PySem.W.typeIn K (.ref cBH) = some (.type "type"))
    (gr : PySem.W.nsIn K mainGlobals "GREATEST" = some (some (.int 20 tgr)))
    (a0 : PySem.W.findIn K (.ref C) "__init__" = some (some (.ref f0)))
    (i0 : PySem.W.isFn K (.ref f0) = true)
    (l0 : K.lookup f0 = some ⟨oc0, od0, .func (PySem.W.fnOf "__init__" "Hall.__init__" (defArgs st_Hall_init) (defBody st_Hall_init) (defScope st_Hall_init) .none kV0 dc0 pm0 an0 cd0 ct0), sl0⟩)
    (c0 : PySem.W.codeIn K cd0 "Hall.__init__" = true)
    (k0 : PySem.W.keepIn K (.ref f0) = true)
    (a1 : PySem.W.findIn K (.ref C) "see" = some (some (.ref f1)))
    (i1 : PySem.W.isFn K (.ref f1) = true)
    (l1 : K.lookup f1 = some ⟨oc1, od1, .func (PySem.W.fnOf "see" "Hall.see" (defArgs st_Hall_see) (defBody st_Hall_see) (defScope st_Hall_see) .none kV1 dc1 pm1 an1 cd1 ct1), sl1⟩)
    (c1 : PySem.W.codeIn K cd1 "Hall.see" = true)
    (k1 : PySem.W.keepIn K (.ref f1) = true)
    (a2 : PySem.W.findIn K (.ref C) "see_two" = some (some (.ref f2)))
    (i2 : PySem.W.isFn K (.ref f2) = true)
    (l2 : K.lookup f2 = some ⟨oc2, od2, .func (PySem.W.fnOf "see_two" "Hall.see_two" (defArgs st_Hall_see_two) (defBody st_Hall_see_two) (defScope st_Hall_see_two) .none kV2 dc2 pm2 an2 cd2 ct2), sl2⟩)
    (c2 : PySem.W.codeIn K cd2 "Hall.see_two" = true)
    (k2 : PySem.W.keepIn K (.ref f2) = true)
    (a3 : PySem.W.findIn K (.ref C) "know" = some (some (.ref f3)))
    (i3 : PySem.W.isFn K (.ref f3) = true)
    (l3 : K.lookup f3 = some ⟨oc3, od3, .func (PySem.W.fnOf "know" "Hall.know" (defArgs st_Hall_know) (defBody st_Hall_know) (defScope st_Hall_know) .none kV3 dc3 pm3 an3 cd3 ct3), sl3⟩)
    (c3 : PySem.W.codeIn K cd3 "Hall.know" = true)
    (k3 : PySem.W.keepIn K (.ref f3) = true)
    (a4 : PySem.W.findIn K (.ref C) "meet" = some (some (.ref f4)))
    (i4 : PySem.W.isFn K (.ref f4) = true)
    (l4 : K.lookup f4 = some ⟨oc4, od4, .func (PySem.W.fnOf "meet" "Hall.meet" (defArgs st_Hall_meet) (defBody st_Hall_meet) (defScope st_Hall_meet) .none kV4 dc4 pm4 an4 cd4 ct4), sl4⟩)
    (c4 : PySem.W.codeIn K cd4 "Hall.meet" = true)
    (k4 : PySem.W.keepIn K (.ref f4) = true)
    (a5 : PySem.W.nsIn K mainGlobals "is_crowd" = some (some (.ref f5)))
    (l5 : K.lookup f5 = some ⟨oc5, od5, .func (PySem.W.fnOf "is_crowd" "is_crowd" (defArgs st_is_crowd) (defBody st_is_crowd) (defScope st_is_crowd) .none kV5 dc5 pm5 an5 cd5 ct5), sl5⟩)
    (c5 : PySem.W.codeIn K cd5 "is_crowd" = true)
    (k5 : PySem.W.keepIn K (.ref f5) = true)
    (a6 : PySem.W.nsIn K mainGlobals "_law_cell_at" = some (some (.ref f6)))
    (l6 : K.lookup f6 = some ⟨oc6, od6, .func (PySem.W.fnOf "_law_cell_at" "_law_cell_at" (defArgs st_l_cell_at) (defBody st_l_cell_at) (defScope st_l_cell_at) .none kV6 dc6 pm6 an6 cd6 ct6), sl6⟩)
    (c6 : PySem.W.codeIn K cd6 "_law_cell_at" = true)
    (k6 : PySem.W.keepIn K (.ref f6) = true)
    (a7 : PySem.W.nsIn K mainGlobals "_law_pairs_by" = some (some (.ref f7)))
    (l7 : K.lookup f7 = some ⟨oc7, od7, .func (PySem.W.fnOf "_law_pairs_by" "_law_pairs_by" (defArgs st_l_pairs_by) (defBody st_l_pairs_by) (defScope st_l_pairs_by) .none kV7 dc7 pm7 an7 cd7 ct7), sl7⟩)
    (c7 : PySem.W.codeIn K cd7 "_law_pairs_by" = true)
    (k7 : PySem.W.keepIn K (.ref f7) = true)
    (a8 : PySem.W.nsIn K mainGlobals "_law_hall_of" = some (some (.ref f8)))
    (l8 : K.lookup f8 = some ⟨oc8, od8, .func (PySem.W.fnOf "_law_hall_of" "_law_hall_of" (defArgs st_l_hall_of) (defBody st_l_hall_of) (defScope st_l_hall_of) .none kV8 dc8 pm8 an8 cd8 ct8), sl8⟩)
    (c8 : PySem.W.codeIn K cd8 "_law_hall_of" = true)
    (k8 : PySem.W.keepIn K (.ref f8) = true)
    (a9 : PySem.W.nsIn K mainGlobals "_law_many" = some (some (.ref f9)))
    (l9 : K.lookup f9 = some ⟨oc9, od9, .func (PySem.W.fnOf "_law_many" "_law_many" (defArgs st_l_many) (defBody st_l_many) (defScope st_l_many) .none kV9 dc9 pm9 an9 cd9 ct9), sl9⟩)
    (c9 : PySem.W.codeIn K cd9 "_law_many" = true)
    (k9 : PySem.W.keepIn K (.ref f9) = true)
    (a10 : PySem.W.nsIn K mainGlobals "_law_marks_of" = some (some (.ref f10)))
    (l10 : K.lookup f10 = some ⟨oc10, od10, .func (PySem.W.fnOf "_law_marks_of" "_law_marks_of" (defArgs st_l_marks_of) (defBody st_l_marks_of) (defScope st_l_marks_of) .none kV10 dc10 pm10 an10 cd10 ct10), sl10⟩)
    (c10 : PySem.W.codeIn K cd10 "_law_marks_of" = true)
    (k10 : PySem.W.keepIn K (.ref f10) = true)
    (a11 : PySem.W.nsIn K mainGlobals "_law_crowd" = some (some (.ref f11)))
    (l11 : K.lookup f11 = some ⟨oc11, od11, .func (PySem.W.fnOf "_law_crowd" "_law_crowd" (defArgs st_l_crowd) (defBody st_l_crowd) (defScope st_l_crowd) .none kV11 dc11 pm11 an11 cd11 ct11), sl11⟩)
    (c11 : PySem.W.codeIn K cd11 "_law_crowd" = true)
    (k11 : PySem.W.keepIn K (.ref f11) = true)
    (a12 : PySem.W.nsIn K mainGlobals "_law_marks" = some (some (.ref f12)))
    (l12 : K.lookup f12 = some ⟨oc12, od12, .func (PySem.W.fnOf "_law_marks" "_law_marks" (defArgs st_l_marks) (defBody st_l_marks) (defScope st_l_marks) .none kV12 dc12 pm12 an12 cd12 ct12), sl12⟩)
    (c12 : PySem.W.codeIn K cd12 "_law_marks" = true)
    (k12 : PySem.W.keepIn K (.ref f12) = true)
    (a13 : PySem.W.nsIn K mainGlobals "law" = some (some (.ref f13)))
    (l13 : K.lookup f13 = some ⟨oc13, od13, .func (PySem.W.fnOf "law" "law" (defArgs st_law) (defBody st_law) (defScope st_law) .none kV13 dc13 pm13 an13 cd13 ct13), sl13⟩)
    (c13 : PySem.W.codeIn K cd13 "law" = true)
    (k13 : PySem.W.keepIn K (.ref f13) = true)
    (pg : PySem.W.plainGet K C Str.empty = true)
    (hd : PySem.W.hasDictIn K C = true)
    (po : PySem.W.plainOver K C = true)
    (sa : PySem.W.findIn K (.ref C) "__setattr__" = some (some (.builtin "object.__setattr__")))
    (mk : PySem.W.makesIn K C = true)
    (kc : PySem.W.keepIn K (.ref C) = true)
    (nC : PySem.W.findIn K (.ref C) "count" = some none)
    (nP : PySem.W.findIn K (.ref C) "pairs" = some none)
    (z_len : PySem.W.nsIn K mainGlobals "len" = some none)
    (z_range : PySem.W.nsIn K mainGlobals "range" = some none)
    (z_sorted : PySem.W.nsIn K mainGlobals "sorted" = some none)
    (z_isinstance : PySem.W.nsIn K mainGlobals "isinstance" = some none)
    (z_ValueError : PySem.W.nsIn K mainGlobals "ValueError" = some none)
    (z_bool : PySem.W.nsIn K mainGlobals "bool" = some none)
    (z_list : PySem.W.nsIn K mainGlobals "list" = some none)
    (z_min : PySem.W.nsIn K mainGlobals "min" = some none)
    (z_max : PySem.W.nsIn K mainGlobals "max" = some none)
    (gcNT : PySem.W.nsIn K mainGlobals "NoText" = some (some (.ref cNT)))
    (gcHE : PySem.W.nsIn K mainGlobals "HallError" = some (some (.ref cHE)))
    (x_sp : PySem.W.specialIn K (.builtin "object.__class__") "__get__" = some (some (.builtin "getset_descriptor.__get__")))
    (x_tk : PySem.W.takesIn K (.builtin "object.__class__") = some true)
    (xgcNG : PySem.W.findIn K (.ref cNG) "__getattribute__" = some (some (.builtin "BaseException.__getattribute__")))
    (xkcNG : PySem.W.findIn K (.ref cNG) "__getattr__" = some none)
    (xbcNG : PySem.W.subIn K (.ref cNG) (.type "BaseException") = some true)
    (xdcNG : PySem.W.hasDictIn K cNG = true)
    (xacNG : PySem.W.findIn K (.ref cNG) "__class__" = some (some (.builtin "object.__class__")))
    (xmcNG : PySem.W.mroIn K cNG (.type "object") = some true)
    (xi0cNG : PySem.W.kitOne K (.ref cNG) (.ref cNG) = some true)
    (xi1cNG : PySem.W.kitOne K (.ref cNG) (.ref cSG) = some false)
    (xi2cNG : PySem.W.kitOne K (.ref cNG) (.ref cKA) = some false)
    (xi3cNG : PySem.W.kitOne K (.ref cNG) (.ref cST) = some false)
    (xi4cNG : PySem.W.kitOne K (.ref cNG) (.ref cBH) = some false)
    (xi5cNG : PySem.W.kitOne K (.ref cNG) (.ref cNT) = some false)
    (xvcNG : PySem.W.kitOne K (.ref cNG) (.type "ValueError") = some true)
    (xhcNG : PySem.W.exmOne K (.ref cNG) (.ref cHE) = some true)
    : ∃ fd : FuncData, (∀ (s : Shared) (v : Value), BindsTo s fd ⟨[v], []⟩ [("script", v)]) ∧ ∀ base : Heap, K.In base → base.Ns mainGlobals mg → FnOk P w K mg base CX0 6 fa fd ["script"] (spLaw K) := by
  have e := hfa.symm.trans (PySem.W.mg_of X G a13)
  cases e
  have T : HT K mg C cNG cSG cKA cST cBH := ⟨⟨pg, hd, po, sa⟩, nC, nP, ⟨PySem.W.mg_of X G gcNG, ecNG, kcNG, bcNG, tcNG⟩, ⟨PySem.W.mg_of X G gcSG, ecSG, kcSG, bcSG, tcSG⟩, ⟨PySem.W.mg_of X G gcKA, ecKA, kcKA, bcKA, tcKA⟩, ⟨PySem.W.mg_of X G gcST, ecST, kcST, bcST, tcST⟩, ⟨PySem.W.mg_of X G gcBH, ecBH, kcBH, bcBH, tcBH⟩, ⟨tgr, PySem.W.mg_of X G gr⟩, PySem.W.mg_none_of X G z_min, PySem.W.mg_none_of X G z_max, PySem.W.mg_none_of X G z_range, PySem.W.mg_none_of X G z_len⟩
  have McNG : MarkT K cNG cSG cKA cST cBH cNT cHE cNG 0 := ⟨⟨xgcNG, xkcNG, xbcNG, xdcNG, xacNG, x_sp, x_tk, xmcNG⟩, xi0cNG, xi1cNG, xi2cNG, xi3cNG, xi4cNG, xi5cNG, xvcNG, xhcNG, by decide⟩
  have GcNT := PySem.W.mg_of X G gcNT
  have GcHE := PySem.W.mg_of X G gcHE
  have F0 := fun_mk (st := st_Hall_init) l0 c0 k0
  have b0 := F0.binds (ps := ["self", "many"]) fun _ _ _ _ _ _ us hl => match us, hl with | [_, _], _ => rfl
  have F1 := fun_mk (st := st_Hall_see) l1 c1 k1
  have b1 := F1.binds (ps := ["self", "guest"]) fun _ _ _ _ _ _ us hl => match us, hl with | [_, _], _ => rfl
  have F2 := fun_mk (st := st_Hall_see_two) l2 c2 k2
  have b2 := F2.binds (ps := ["self", "one", "other"]) fun _ _ _ _ _ _ us hl => match us, hl with | [_, _, _], _ => rfl
  have F3 := fun_mk (st := st_Hall_know) l3 c3 k3
  have b3 := F3.binds (ps := ["self", "one", "other"]) fun _ _ _ _ _ _ us hl => match us, hl with | [_, _, _], _ => rfl
  have F4 := fun_mk (st := st_Hall_meet) l4 c4 k4
  have b4 := F4.binds (ps := ["self", "one", "other"]) fun _ _ _ _ _ _ us hl => match us, hl with | [_, _, _], _ => rfl
  have F5 := fun_mk (st := st_is_crowd) l5 c5 k5
  have b5 := F5.binds (ps := ["hall", "guests"]) fun _ _ _ _ _ _ us hl => match us, hl with | [_, _], _ => rfl
  have F6 := fun_mk (st := st_l_cell_at) l6 c6 k6
  have b6 := F6.binds (ps := ["script", "k"]) fun _ _ _ _ _ _ us hl => match us, hl with | [_, _], _ => rfl
  have F7 := fun_mk (st := st_l_pairs_by) l7 c7 k7
  have b7 := F7.binds (ps := ["script", "first", "many"]) fun _ _ _ _ _ _ us hl => match us, hl with | [_, _, _], _ => rfl
  have F8 := fun_mk (st := st_l_hall_of) l8 c8 k8
  have b8 := F8.binds (ps := ["many", "pairs"]) fun _ _ _ _ _ _ us hl => match us, hl with | [_, _], _ => rfl
  have F9 := fun_mk (st := st_l_many) l9 c9 k9
  have b9 := F9.binds (ps := ["script"]) fun _ _ _ _ _ _ us hl => match us, hl with | [_], _ => rfl
  have F10 := fun_mk (st := st_l_marks_of) l10 c10 k10
  have b10 := F10.binds (ps := ["e"]) fun _ _ _ _ _ _ us hl => match us, hl with | [_], _ => rfl
  have F11 := fun_mk (st := st_l_crowd) l11 c11 k11
  have b11 := F11.binds (ps := ["pairs", "guests"]) fun _ _ _ _ _ _ us hl => match us, hl with | [_, _], _ => rfl
  have F12 := fun_mk (st := st_l_marks) l12 c12 k12
  have b12 := F12.binds (ps := ["hall", "guests"]) fun _ _ _ _ _ _ us hl => match us, hl with | [_, _], _ => rfl
  have F13 := fun_mk (st := st_law) l13 c13 k13
  refine ⟨PySem.W.fnOf "law" "law" (defArgs st_law) (defBody st_law) (defScope st_law) .none kV13 dc13 pm13 an13 cd13 ct13, fun s v => .of_eq rfl, fun base _ _ => ?_⟩
  have G0 : FnOk P w K mg base (L2N.CX P w) 1 f0 _ _ (spInit C cBH) := ok_init F0 T
  have B0 : MakD P w K mg base (L2N.CX P w) C 1 "Hall" (spInit C cBH) := ⟨_, _, _, ⟨mk, a0, i0, kc⟩, G0, b0, PySem.W.mg_of X G aC⟩
  have G1 : FnOk P w K mg base (L2N.CX P w) 1 f1 _ _ (spSee C cNG) := ok_see F1 T
  have B1 : MetD P w K mg base (L2N.CX P w) C 1 "see" (spSee C cNG) := ⟨_, _, _, G1, b1, ⟨a1, i1, k1⟩⟩
  have G2 : FnOk P w K mg base (L2N.CX P w) 2 f2 _ _ (spSeeTwo C cNG cSG) := ok_see_two F2 T B1
  have B2 : MetD P w K mg base (L2N.CX P w) C 2 "see_two" (spSeeTwo C cNG cSG) := ⟨_, _, _, G2, b2, ⟨a2, i2, k2⟩⟩
  have G3 : FnOk P w K mg base (L2N.CX P w) 3 f3 _ _ (spKnow C cNG cSG) := ok_know F3 T B2
  have B3 : MetD P w K mg base (L2N.CX P w) C 3 "know" (spKnow C cNG cSG) := ⟨_, _, _, G3, b3, ⟨a3, i3, k3⟩⟩
  have G4 : FnOk P w K mg base (L2N.CX P w) 4 f4 _ _ (spMeet C cNG cSG cKA) := ok_meet F4 T B3
  have B4 : MetD P w K mg base (L2N.CX P w) C 4 "meet" (spMeet C cNG cSG cKA) := ⟨_, _, _, G4, b4, ⟨a4, i4, k4⟩⟩
  have G5 : FnOk P w K mg base (L2N.CX P w) 4 f5 _ _ (spIsCrowd C cNG) := ok_is_crowd F5 T B1 B3
  have B5 : CalD P w K mg base (L2N.CX P w) 4 "is_crowd" (spIsCrowd C cNG) := ⟨_, _, _, G5, b5, PySem.W.mg_of X G a5, k5⟩
  have G6 : FnOk P w K mg base CX0 1 f6 _ _ (spCell K) := ok_cell F6 (PySem.W.mg_none_of X G z_len)
  have B6 : CalD P w K mg base CX0 1 "_law_cell_at" (spCell K) := ⟨_, _, _, G6, b6, PySem.W.mg_of X G a6, k6⟩
  have G7 : FnOk P w K mg base CX0 2 f7 _ _ (spPairsBy K) := ok_pairs F7 (PySem.W.mg_none_of X G z_range) (PySem.W.mg_none_of X G z_sorted) B6
  have B7 : CalD P w K mg base CX0 2 "_law_pairs_by" (spPairsBy K) := ⟨_, _, _, G7, b7, PySem.W.mg_of X G a7, k7⟩
  have G8 : FnOk P w K mg base CX0 5 f8 _ _ (spHallOf C) := ok_hall_of F8 T B0 B4
  have B8 : CalD P w K mg base CX0 5 "_law_hall_of" (spHallOf C) := ⟨_, _, _, G8, b8, PySem.W.mg_of X G a8, k8⟩
  have G9 : FnOk P w K mg base CX0 2 f9 _ _ (spManyOf K) := ok_many_of F9 B6
  have B9 : CalD P w K mg base CX0 2 "_law_many" (spManyOf K) := ⟨_, _, _, G9, b9, PySem.W.mg_of X G a9, k9⟩
  have G10 : FnP P w K mg base 1 f10 _ _ (spMarks K cNG cSG cKA cST cBH cNT cHE) := ok_marks F10 T GcNT (PySem.W.mg_none_of X G z_isinstance) (PySem.W.mg_none_of X G z_ValueError)
  have B10 : CalP P w K mg base 1 "_law_marks_of" (spMarks K cNG cSG cKA cST cBH cNT cHE) := ⟨_, _, _, G10, b10, PySem.W.mg_of X G a10, k10⟩
  have G11 : FnOk P w K mg base CX0 1 f11 _ _ (spCrowdL) := ok_lcrowd F11
  have B11 : CalD P w K mg base CX0 1 "_law_crowd" (spCrowdL) := ⟨_, _, _, G11, b11, PySem.W.mg_of X G a11, k11⟩
  have G12 : FnOk P w K mg base CX0 5 f12 _ _ (spCrowdMarks C) := ok_lmarks F12 T GcHE B5 B10 McNG
  have B12 : CalD P w K mg base CX0 5 "_law_marks" (spCrowdMarks C) := ⟨_, _, _, G12, b12, PySem.W.mg_of X G a12, k12⟩
  exact ok_law F13 T (PySem.W.mg_none_of X G z_isinstance) (PySem.W.mg_none_of X G z_bool) (PySem.W.mg_none_of X G z_list) B6 B9 B7 B8 B11 B5 B12
theorem walk {l : PySem.W.OpenLaw} {q : Program} {loose : List Str} {XP : (Str → Option Value) → Heap → Prop} {YP : World → Heap → Prop} {d : DefRec} {K : Params → PySem.W.Frag} (hn : l.most = some 63) (hdf : d.params.defaults = [])
    (hY : ∀ (w : World) (h : Heap), YP w h → (K w.params).In h)
    (F : ∀ (w : World) (mg : Str → Option Value) (fa : Addr) (h : Heap), (K w.params).In h → h.Ns mainGlobals mg → mg d.name = some (.ref fa) →
      ∃ fd : FuncData, (∀ (s : Shared) (u : Value), BindsTo s fd ⟨[u], []⟩ [("script", u)]) ∧ ∀ base : Heap, (K w.params).In base → base.Ns mainGlobals mg → FnOk l.prog w (K w.params) mg base CX0 6 fa fd ["script"] (spLaw (K w.params))) :
    PySem.W.WalkO q loose XP YP l.row.toRowW d [] (fun f vs => PySem.call f vs) :=
  L2.walk_of (n := 63) (k := 6) (x := "script") (CX := fun _ => CX0) (sp := fun w => spLaw (K w.params)) hn (by decide) hdf ⟨rfl, by decide, by decide⟩ hY F (fun _ _ a ns hl _ hS => ⟨a, ns, rfl, hS, hl, fun _ => rfl⟩) fun _ _ _ _ _ z => z
end KT
open PySem PySem.W PyProof.Rows in
set_option maxRecDepth 100000 in
set_option maxHeartbeats 0 in
theorem PySem.Challenge.cw_knowthree_k08_crowds_known_holds : PySem.Challenge.rw_knowthree_k08_crowds_known.Holds := by
  w_on; o_law; k_head; (case hw => w_witness2)
  k_fill
  refine KT.walk (l := PySem.Challenge.rw_knowthree_k08_crowds_known) rfl rfl (fun w h Y => PySem.W.kIn_of Y) ?F
  case F =>
    intro w mg fa h KX G hmg
    refine' KT.all_mk KX G hmg ?aC ?gcNG ?ecNG ?kcNG ?bcNG ?tcNG ?gcSG ?ecSG ?kcSG ?bcSG ?tcSG ?gcKA ?ecKA ?kcKA ?bcKA ?tcKA ?gcST ?ecST ?kcST ?bcST ?tcST ?gcBH ?ecBH ?kcBH ?bcBH ?tcBH ?gr ?a0 ?i0 ?l0 ?c0 ?k0 ?a1 ?i1 ?l1 ?c1 ?k1 ?a2 ?i2 ?l2 ?c2 ?k2 ?a3 ?i3 ?l3 ?c3 ?k3 ?a4 ?i4 ?l4 ?c4 ?k4 ?a5 ?l5 ?c5 ?k5 ?a6 ?l6 ?c6 ?k6 ?a7 ?l7 ?c7 ?k7 ?a8 ?l8 ?c8 ?k8 ?a9 ?l9 ?c9 ?k9 ?a10 ?l10 ?c10 ?k10 ?a11 ?l11 ?c11 ?k11 ?a12 ?l12 ?c12 ?k12 ?a13 ?l13 ?c13 ?k13 ?pg ?hd ?po ?sa ?mk ?kc ?nC ?nP ?z_len ?z_range ?z_sorted ?z_isinstance ?z_ValueError ?z_bool ?z_list ?z_min ?z_max ?gcNT ?gcHE ?x_sp ?x_tk ?xgcNG ?xkcNG ?xbcNG ?xdcNG ?xacNG ?xmcNG ?xi0cNG ?xi1cNG ?xi2cNG ?xi3cNG ?xi4cNG ?xi5cNG ?xvcNG ?xhcNG
    (case aC => k_is)
    (case gcNG => k_is)
    (case ecNG => k_exc)
    (case kcNG => k_is)
    (case bcNG => k_is)
    (case tcNG => k_is)
    (case gcSG => k_is)
    (case ecSG => k_exc)
    (case kcSG => k_is)
    (case bcSG => k_is)
    (case tcSG => k_is)
    (case gcKA => k_is)
    (case ecKA => k_exc)
    (case kcKA => k_is)
    (case bcKA => k_is)
    (case tcKA => k_is)
    (case gcST => k_is)
    (case ecST => k_exc)
    (case kcST => k_is)
    (case bcST => k_is)
    (case tcST => k_is)
    (case gcBH => k_is)
    (case ecBH => k_exc)
    (case kcBH => k_is)
    (case bcBH => k_is)
    (case tcBH => k_is)
    (case gr => k_is)
    (case a0 => k_is)
    (case i0 => k_is)
    (case l0 => k_is)
    (case c0 => k_is)
    (case k0 => k_is)
    (case a1 => k_is)
    (case i1 => k_is)
    (case l1 => k_is)
    (case c1 => k_is)
    (case k1 => k_is)
    (case a2 => k_is)
    (case i2 => k_is)
    (case l2 => k_is)
    (case c2 => k_is)
    (case k2 => k_is)
    (case a3 => k_is)
    (case i3 => k_is)
    (case l3 => k_is)
    (case c3 => k_is)
    (case k3 => k_is)
    (case a4 => k_is)
    (case i4 => k_is)
    (case l4 => k_is)
    (case c4 => k_is)
    (case k4 => k_is)
    (case a5 => k_is)
    (case l5 => k_is)
    (case c5 => k_is)
    (case k5 => k_is)
    (case a6 => k_is)
    (case l6 => k_is)
    (case c6 => k_is)
    (case k6 => k_is)
    (case a7 => k_is)
    (case l7 => k_is)
    (case c7 => k_is)
    (case k7 => k_is)
    (case a8 => k_is)
    (case l8 => k_is)
    (case c8 => k_is)
    (case k8 => k_is)
    (case a9 => k_is)
    (case l9 => k_is)
    (case c9 => k_is)
    (case k9 => k_is)
    (case a10 => k_is)
    (case l10 => k_is)
    (case c10 => k_is)
    (case k10 => k_is)
    (case a11 => k_is)
    (case l11 => k_is)
    (case c11 => k_is)
    (case k11 => k_is)
    (case a12 => k_is)
    (case l12 => k_is)
    (case c12 => k_is)
    (case k12 => k_is)
    (case a13 => k_is)
    (case l13 => k_is)
    (case c13 => k_is)
    (case k13 => k_is)
    (case pg => k_is)
    (case hd => k_is)
    (case po => k_is)
    (case sa => k_is)
    (case mk => k_is)
    (case kc => k_is)
    (case nC => k_is)
    (case nP => k_is)
    (case z_len => k_is)
    (case z_range => k_is)
    (case z_sorted => k_is)
    (case z_isinstance => k_is)
    (case z_ValueError => k_is)
    (case z_bool => k_is)
    (case z_list => k_is)
    (case z_min => k_is)
    (case z_max => k_is)
    (case gcNT => k_is)
    (case gcHE => k_is)
    (case x_sp => k_is)
    (case x_tk => k_is)
    (case xgcNG => k_is)
    (case xkcNG => k_is)
    (case xbcNG => k_is)
    (case xdcNG => k_is)
    (case xacNG => k_is)
    (case xmcNG => k_is)
    (case xi0cNG => kit_is)
    (case xi1cNG => kit_is)
    (case xi2cNG => kit_is)
    (case xi3cNG => kit_is)
    (case xi4cNG => kit_is)
    (case xi5cNG => kit_is)
    (case xvcNG => kit_is)
    (case xhcNG => kts_exm)
#print axioms PySem.Challenge.cw_knowthree_k08_crowds_known_holds
