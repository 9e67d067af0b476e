import PyProof.Rows.All
import Wide.All
import OpenK.AllK
import Wide.FinOn
import HandS.ForMost
import HandS.Exc
import HandS.TryOnly
import HandS.ExcOwn
import HandS.WordsExc
import HandS.ExcCtx
import HandS.HotCalls
import HandS.SuiteRaise
import HandS.ExcIs
import HandS.IsInst
import HandS.Deep
import HandS.RaiseOp
import HandS.DictTup
import HandS.SortRule
import KE.DataFind
import KE.RegKIsAll
import KE.RegKTryMore
import HandS.Text
import HandS.Codes
import PySem.Challenge.RW_knowthree_k11_halls_written
set_option Elab.async false
set_option linter.all false
set_option maxRecDepth 100000
set_option maxHeartbeats 4000000
/-! own rules over the hand layer -/
namespace KT
open PySem PySem.Spec PyProof.Rows L2

/-! ### defs that raise, the exception's context being None -/
section
variable {P : Program} {w : World} {K : PySem.W.Frag} {mg : Str → Option Value} {base : Heap}
theorem okN {x qual : Str} {st : Stmt} {f : Addr} {fd : FuncData} {N ps : List Str} {k : Nat} {sp : Sp}
    (F : Fun K x qual st f fd) (S : FnScope N ps (defScope st))
    (len : ∀ vs H Q E, sp vs H Q E → vs.length = ps.length)
    (body : ∀ (cdv : Value) (A : Around) (outer : List Env) (s : Shared) (H : Hp) (vs : List V) (Q : VK) (E : XK),
      Room k (A.deeper (envOfC qual (defScope st) s.heap.objs.size f cdv)) → sp vs H Q E →
      ∃ t, PSs (cxOf (L2N.CX P w) P w K mg base N qual (defScope st) f cdv A outer s H E) (defBody st) t ∧
        t { nx := fun _ H' => Q .non H', rt := Q } (start N vs) H) :
    FnOk P w K mg base (L2N.CX P w) (k + 1) f fd ps sp := by
  obtain ⟨oc, od, kV, doc, pm, an, cdv, ct, osl, rfl, lk, hcd⟩ := F.ex
  exact fn_of lk hcd S len (fun A outer s H vs Q E hr hsp => body cdv A outer s H vs Q E hr hsp)
end
theorem passN {X : Cx} : Passes (L2N.CX X.prog X.w) X E0 := by
  intro _ _ _ _ _ _ _ h
  obtain ⟨_, _, _, _, _, _, _, _, _, _, _, _, z⟩ := h
  exact z.elim
/-- what flies with no context flies -/
theorem cx_weak {P : Program} {w : World} {outer : List Env} {H : Hp} {s : Shared} {E : XK} {u : Value} {s' : Shared}
    (h : L2N.CX P w outer H s E u s') : L2.CX P w outer H s E u s' := by
  obtain ⟨a, B, H', cls, d, e, fl, r⟩ := h
  exact ⟨a, B, H', cls, d, e, L2H.flyingZ_imp (fun _ z => L2N.Zn.zc z) fl, r⟩
theorem FnOk_weak {P : Program} {w : World} {K : PySem.W.Frag} {mg : Str → Option Value} {base : Heap} {k : Nat} {f : Addr}
    {fd : FuncData} {ps : List Str} {sp : Sp} (F : FnOk P w K mg base (L2N.CX P w) k f fd ps sp) :
    FnOk P w K mg base (L2.CX P w) k f fd ps sp := by
  refine ⟨F.len, ?_⟩
  intro A outer s H args us vs Q E hr e0 b r h
  refine codeAny_mono (F.run A outer s H args us vs Q E hr e0 b r h) ?_
  intro r s' q
  cases r with
  | error e => exact cx_weak q
  | ok fl => cases fl <;> exact q
/-- a def that lets nothing out may stand where one may -/
theorem FnOk_calm {P : Program} {w : World} {K : PySem.W.Frag} {mg : Str → Option Value} {base : Heap} {k : Nat} {f : Addr}
    {fd : FuncData} {ps : List Str} {sp : Sp} {CX : CXT} (F : FnOk P w K mg base CX0 k f fd ps sp) :
    FnOk P w K mg base CX k f fd ps sp := by
  refine ⟨F.len, ?_⟩
  intro A outer s H args us vs Q E hr e0 b r h
  refine codeAny_mono (F.run A outer s H args us vs Q E hr e0 b r h) ?_
  intro r s' q
  cases r with
  | error e => exact False.elim q
  | ok fl => cases fl <;> exact q

/-! ### methods and classes called where what is raised is wished for at the caller's slots -/
section
variable {X : Cx} {CX : CXT} {k : Nat} {f C : Addr} {fd : FuncData} {ps : List Str} {sp : Sp} {E : L2.St → XK}
  {x m : Str} {p pos apos : Pos} {e o : Expr} {es : List Expr} {ta : TE} {t : TA}
def tMethS (C : Addr) (m : Str) (sp : Sp) (E : L2.St → XK) (ta : TE) (t : TA) : TE := fun σ H Q => ta σ H fun x H1 =>
  ∃ a dx fs, x = .ref a ∧ H1 a = some (.ins C dx fs) ∧ fs.lookup m = none ∧ t σ H1 fun vs H2 => sp (x :: vs) H2 Q (E σ)
theorem pe_methS {pl : Sem Bool} (he : PE X o ta) (c : Cls X.K C) (hm : Meth X.K C m f)
    (F : FnOk X.prog X.w X.K X.mg X.base CX k f fd ps sp) (hr : Room k X.A) (hb : Binds X.K fd ps [])
    (hx : ∀ σ, PassesAt CX X σ (E σ)) (ha : PA X (e :: es) t)
    (hst : starEach (e :: es) X.env = (false, eval e X.env) :: starEach es X.env := by rfl)
    (hpl : (backTo pos (starEach es X.env)).any (·.1) = false := by rfl)
    (ht : eval (.Call (.Attribute o m apos) (e :: es) [] pos) X.env = (do
      let ov ← eval o X.env
      standAt apos.atName
      let (f, first) ← holding [ov] (getMethod ov m pl)
      callWith pos f first (backTo pos (starEach (e :: es) X.env)) (backToKw pos (keywordEach [] X.env))) := by rfl) :
    PE X (.Call (.Attribute o m apos) (e :: es) [] pos) (tMethS C m sp E ta t) := by
  constructor
  intro pins s σ H Q I h
  refine PySem.W.methodCall_KW (pl := pl) (thn (he.run pins s σ H _ I h) ?_) ht
  rintro u s1 ⟨x, H1, I1, rx, a, dx, fs, ex, ea, l, q⟩
  subst ex
  obtain rfl : u = Value.ref a := rx
  refine getmeth_ok I1 ea c hm l ?_
  refine PySem.W.callWith_K (first := [.ref a]) (h₀ := X.base) I.ok.mod.kin hm.kp (thn (ha.run pos pins s1 σ H1 _ I1 q) ?_) hst hpl
  rintro us s2 ⟨vs, H2, I2, r, q2⟩
  exact ⟨I2.kIn, run_fnS (us := .ref a :: us) (vs := .ref a :: vs) F hr hb (hx σ) I2 (.cons rfl r) q2⟩
def tMakeS (C : Addr) (sp : Sp) (E : L2.St → XK) (t : TA) : TE := fun σ H Q => t σ H fun vs H1 => ∀ x dx, H1 x = none → H1 dx = none → dx ≠ x →
  sp (.ref x :: vs) (upd (upd H1 dx (.own x)) x (.ins C dx [])) (fun v H2 => v = .non ∧ Q (.ref x) H2) (E σ)
theorem pe_makeS (M : Mk X.K C f) (F : FnOk X.prog X.w X.K X.mg X.base CX k f fd ps sp) (hr : Room (k + 1) X.A) (hg : Gl X x)
    (hm : X.mg x = some (.ref C)) (hb : Binds X.K fd ps []) (hx : ∀ σ, PassesAt CX X σ (E σ)) (ha : PA X (e :: es) t)
    (hdb : (x == ("__debug__" : Str)) = false := by decide)
    (he : starEach (e :: es) X.env = (false, eval e X.env) :: starEach es X.env := by rfl)
    (hpl : (backTo pos (starEach es X.env)).any (·.1) = false := by rfl) :
    PE X (.Call (.Name x p) (e :: es) [] pos) (tMakeS C sp E t) := by
  constructor
  intro pins s0 σ H0 Q I0 h0
  refine wpAny_Call_Name_kw (ld_glob I0 hg hm ?_ hdb)
  refine PySem.W.callWith_K (h₀ := X.base) I0.ok.mod.kin M.kp (thn (ha.run pos pins s0 σ H0 _ I0 h0) ?_) he hpl
  rintro us s ⟨vs, H, I, r, h⟩
  refine ⟨I.kIn, ?_⟩
  have hq := h (s.heap.objs.size + 1) s.heap.objs.size (I.hok.fresh (Nat.le_succ _)) (I.hok.fresh (Nat.le_refl _)) (Nat.ne_of_lt (Nat.lt_succ_self _))
  have I2 := Inv.made (C := C) I
  have r2 : Vals (V.ref (s.heap.objs.size + 1) :: vs) (Value.ref (s.heap.objs.size + 1) :: us) := .cons rfl r
  have hl : (Value.ref (s.heap.objs.size + 1) :: us).length = ps.length := by
    rw [← r2.length]
    exact F.len _ _ _ _ hq
  have b := hb _ (Value.ref (s.heap.objs.size + 1) :: us) I2.kIn (by rw [List.append_nil]; exact hl)
  rw [List.append_nil] at b
  refine wpAny_call (make_map (f := f) I.kIn M.makes M.init (beq_iff_eq.mp M.fn) ?_)
  refine codeAny_mono (F.run _ X.stack _ _ ⟨Value.ref (s.heap.objs.size + 1) :: us, []⟩ _ _ _ (E σ) (hr.make C us []) (I2.env0.make C us []) b r2 hq) ?_
  intro r s' hq'
  cases r with
  | error e => exact hx σ pins _ _ e s' I2 hq'
  | ok fl =>
    cases fl with
    | ret u =>
      obtain ⟨v, H', I3, rv, ev, q3⟩ := I2.after hq'
      subst ev
      exact ⟨rv, ⟨V.ref (s.heap.objs.size + 1), H', I3, rfl, q3⟩⟩
    | next => exact hq'.elim
    | brk => exact hq'.elim
    | cont => exact hq'.elim
end

/-! ### d.pop(t), t a tuple that is a key -/
section
variable {X : Cx}
def rPop1 : V → List V → Hp → VK → Prop := fun x xs H Q => ∃ (a : Addr) (kvs : List (List L2.Key × V)) (k : List L2.Key) (b : Addr) (v : V),
  x = .ref a ∧ xs = [.ref b] ∧ H a = some (.dT kvs) ∧ H b = some (.tup (k.map kV)) ∧ valV kvs k = some v ∧ Q v (upd H a (.dT (dropK kvs k)))
theorem meetsPop1 {prog : Program} {w : World} {K : Type} [DecidableEq K] {knd : HeapKind prog w K} {d b : Addr} {k : K} :
    MeetsIn prog w (Builtin.«dict.pop» ⟨[.ref d, .ref b], []⟩) (fun A R s => ∃ (xs : List (K × Addr × Value)) (p : Addr × Value), knd.room A.in1 ∧ knd.is s.heap k b ∧
      s.heap.DictOfH knd d xs ∧ xs.length ≤ sizeLine ∧ atKey xs k = some p ∧
      ∀ h' tk, h'.DictOfH knd d (DT.dropH xs k) → Heap.SameBut d s.heap h' → R (.ok (.ret p.2)) { s with heap := h', toks := tk }) := by
  refine .of_wp ?_
  rintro A R s ⟨xs, p, hu, hkey, hm, hsz, hp, hgo⟩
  obtain ⟨o, es, ep, ho, hc, hdat, he, his, hn⟩ := id hm
  have hes : es.size = xs.length := size_of_entries he
  have part : (keyPart (Value.ref b)).isSome = false := rfl
  unfold Builtin.«dict.pop»
  refine wpAny_bind ?_
  unfold Builtin.Dict.keyAndDefault
  refine wpAny_bind (wpAny_notOrdered_dict hm.typeIs ?_)
  show wpAny _ _ (pure (d, Value.ref b, none)) _ _ s
  refine wpAny_pure ?_
  simp only [part, Bool.false_eq_true, if_false]
  refine wpAny_bind (wpAny_dictEntries ho hdat (wpAny_bind (wpAny_pure ?_)))
  have hem : es.isEmpty = false := by
    cases q : es.isEmpty with
    | false => rfl
    | true =>
      have z : es.size = 0 := by simpa using q
      have z2 : xs = [] := List.length_eq_zero_iff.mp (by omega)
      subst z2
      exact absurd hp (by simp [atKey])
  rw [hem]
  simp only [Bool.false_eq_true, if_false]
  refine wpAny_bind (DT.takeH hu hkey hm hsz (fun no => ?_) (fun p' e hp' hev h' hm' hs' => ?_))
  · rw [no] at hp
    exact nomatch hp
  · have ep : p' = p := Option.some.inj (hp'.symm.trans hp)
    subst ep
    simp only [Option.isNone_some, Bool.false_eq_true, if_false]
    refine wpAny_bind (wpAny_letGo (wpAny_pure ⟨e.val, rfl, ?_⟩))
    rw [hev]
    exact hgo h' _ hm' hs'
theorem mt_pop1 (hu : X.A.units + 1 < cLine) : MtR X "dict.pop" rPop1 := by
  intro pins s σ H x xs v us Q I rx rxs h
  obtain ⟨a, kvs, k, b, v0, rfl, rfl, ha, hb, hv, q⟩ := h
  cases rx
  obtain ⟨u1, rfl, r1⟩ := vals1 rxs
  cases r1
  obtain ⟨z, hd, xs', rel, dd⟩ := dt_of I.hok ha
  have hz : xs'.length ≤ sizeLine := by rw [← Paired.length rel]; exact z
  obtain ⟨p, hp, rv⟩ : ∃ p, atKey xs' k = some p ∧ RelV v0 p.2 := by
    have r := rel.val k
    rw [hv] at r
    cases e : atKey xs' k with
    | none =>
      rw [e] at r
      exact (show False from r).elim
    | some p =>
      rw [e] at r
      exact ⟨p, rfl, r⟩
  refine call_meetsIn PySem.F.slot_dict_pop dd.typeIs PySem.F.entry_dict_pop (PySem.F.args_dict_pop_2 _ _) (meetsPop1 (knd := tupleKind (mixKind X.prog X.w)) (k := k)) ?_
  refine ⟨xs', p, tupleKind_room_in1 hu, key_of I.hok hb, dd, hz, hp, ?_⟩
  intro h' tk dd' hs
  obtain ⟨o, es, ep, hq, h2, h3, h4, _, h5⟩ := dd'
  have keepT : ∀ (c : Addr) (ys : List V), H c = some (.tup ys) → upd H a (.dT (dropK kvs k)) c = some (.tup ys) := by
    intro c ys ec
    rw [upd_ne (ne_of ec ha (fun z => nomatch z))]
    exact ec
  have I2 : Inv X pins σ (upd H a (.dT (dropK kvs k))) { s with heap := h', toks := tk } :=
    d_write I (by rw [ha]; exact True.intro) hs ⟨o, hq⟩ ⟨Nat.le_trans (dropK_le kvs k) z, hd, _, (L2.DX.KT_drop k rel).keeps keepT, o, es, ep, hq, h2, h3, h4, h5⟩
  show EP X pins σ Q p.2 _
  exact ⟨v0, _, I2, rv, q⟩
end
end KT

/-! ### l.remove(x) of data, x in l -/
namespace KT
open PySem PySem.Spec PyProof.Rows L2
section
variable {X : Cx}
def rRemD (K : PySem.W.Frag) : V → List V → Hp → VK → Prop := fun x xs H Q => ∃ (l : Addr) (ys : List V) (y : V) (ds : List PyData) (d : PyData) (j : Nat),
  x = .ref l ∧ xs = [y] ∧ H l = some (.lst ys) ∧ DpAll K H ys ds ∧ Dp K H y d ∧ PyData.plainAll ds = true ∧ d.plain = true ∧ d.depth ≤ 64 ∧
  SeqAt.dataPlace ds d = some j ∧ Q .non (upd H l (.lst (ys.eraseIdx j)))
theorem mt_removeD (hu : X.A.units + 65 < cLine) : MtR X "list.remove" (rRemD X.K) := by
  intro pins s σ H x xs v us Q I rx rxs h
  obtain ⟨l, ys, y, ds, d, j, rfl, rfl, hl, ha, hy, pl, pd, dep, hj, q⟩ := h
  cases rx
  obtain ⟨u, rfl, ru⟩ := vals1 rxs
  obtain ⟨bs, r1⟩ := Dp.reads I d y u hy ru
  obtain ⟨z, its, n, rv, hlen, e0⟩ := I.lstM hl
  obtain ⟨as, r2⟩ := Dp.readsAll I ds _ its ha rv
  have hroom : X.A.units + 1 + min (PyData.depthAll ds) d.depth < cLine := by
    have := Nat.min_le_right (PyData.depthAll ds) d.depth
    omega
  refine SeqAt.remove_list_data (vs := its.toArray) ⟨_, e0, rfl, n, rfl⟩ r2 r1 pl pd hroom hj (by rw [List.size_toArray, ← hlen]; exact z) ?_
  refine ⟨.non, _, I.lset (its' := its.eraseIdx j) hl e0 ?_ (rv.eraseIdx j) ?_, rfl, q⟩
  · show its.toArray.eraseIdxIfInBounds j = (its.eraseIdx j).toArray
    rw [List.eraseIdxIfInBounds_toArray]
  · have := List.length_eraseIdx_le ys j
    omega
end

/-! ### a def called in an except suite, with the exception as its argument -/
section
open L2H
structure FnP (P : Program) (w : World) (K : PySem.W.Frag) (mg : Str → Option Value) (base : Heap) (k : Nat) (f : Addr) (fd : FuncData)
    (ps : List Str) (sp : Addr → Value → Option Addr → Sp) : Prop where
  len : ∀ a cls d vs H Q E, sp a cls d vs H Q E → vs.length = ps.length
  run : ∀ (A : Around) (outer : List Env) (s : Shared) (H : Hp) (args : Args) (us : List Value) (vs : List V) (Q : VK) (E : XK)
    (p : Addr × Obj) (cls : Value) (d : Option Addr), RoomH k A → PinOk outer H s p → Zc cls d p.2 → (∃ fv, p.2.data = .fields fv) →
    Env0 P w K mg base A outer s H → BindsTo s fd args (ps.zip us) → Vals vs us →
    sp p.1 cls d vs H Q E → codeAny (model P w) A (.call (.ref f) args) (CR CX0 outer P w H s Q E) s
theorem okP {P : Program} {w : World} {K : PySem.W.Frag} {mg : Str → Option Value} {base : Heap} {x qual : Str} {st : Stmt} {f : Addr}
    {fd : FuncData} {N ps : List Str} {k : Nat} {sp : Addr → Value → Option Addr → Sp}
    (F : Fun K x qual st f fd) (S : FnScope N ps (defScope st)) (len : ∀ a cls d vs H Q E, sp a cls d vs H Q E → vs.length = ps.length)
    (body : ∀ (cdv : Value) (A : Around) (outer : List Env) (s : Shared) (H : Hp) (vs : List V) (Q : VK) (E : XK) (p : Addr × Obj)
      (cls : Value) (d : Option Addr), RoomH k (A.deeper (envOfC qual (defScope st) s.heap.objs.size f cdv)) → Zc cls d p.2 →
      (∃ fv, p.2.data = .fields fv) → sp p.1 cls d vs H Q E →
      ∃ t, PSs (cxH CX0 P w K mg base N qual (defScope st) f cdv A outer s H E p) (defBody st) t ∧
        t { nx := fun _ H' => Q .non H', rt := Q } (L2.start N vs) H) :
    FnP P w K mg base (k + 1) f fd ps sp := by
  obtain ⟨oc, od, kV, doc, pm, an, cdv, ct, osl, rfl, lk, hcd⟩ := F.ex
  refine ⟨len, ?_⟩
  intro A outer s H args us vs Q E p cls d hr hpin hz hf e0 hb r hsp
  have hl := len _ _ _ _ _ _ _ hsp
  have kb : ∀ b o, base.get? b = some o → s.heap.get? b = some o := fun b o e => (e0.bs b o e).1
  have KX : K.In s.heap := e0.mod.kin.keeps kb
  have lim : s.heap.NoLimit := e0.mod.nolimit.keeps kb
  refine codeAny_call_function hr.depth (KX _ _ lk) rfl S.co S.gen rfl (PySem.W.codeRec_of KX hcd) (hb _ _ _ _ ?_)
  refine wpAny_newFunctionEnv_cells S.kind ?kinds ?go
  case kinds =>
    rintro ⟨n, v⟩ hy
    rcases S.par n (List.of_mem_zip hy).1 with q | q
    · exact .inl q
    · exact .inr ⟨q, PySem.W.cellsFrom_some _ _ _ (.inl q)⟩
  intro env he s1 xin
  subst he
  refine ⟨lim.keeps xin.toInCall.keep, codeAny_func ?_⟩
  obtain ⟨t, ht, hq⟩ := body cdv A outer s H vs Q E p cls d (hr.deeper _) hz hf hsp
  have I := inv_startH (CX := CX0) (E := E) (N := N) (qual := qual) (f := f) (cd := cdv) S hpin e0 hl r xin
  refine wpAny_mono (ht.run [] s1 (L2.start N vs) H _ I hq) ?_ (fun e s' hs => hs)
  intro fl s' hs
  cases fl with
  | ret u =>
    obtain ⟨v, σ', H', J, rv, q⟩ := hs
    exact ⟨v, H', J.os, J.bare, J.base, J.hok, rv, q⟩
  | next =>
    obtain ⟨σ', H', J, q⟩ := hs
    exact ⟨V.non, H', J.os, J.bare, J.base, J.hok, rfl, q⟩
  | brk =>
    obtain ⟨_, _, _, q⟩ := hs
    exact q.elim
  | cont =>
    obtain ⟨_, _, _, q⟩ := hs
    exact q.elim
variable {X : Cx} {k : Nat} {f : Addr} {fd : FuncData} {ps : List Str} {sp : Addr → Value → Option Addr → Sp} {x : Str} {q pos : Pos} {e : Expr}
  {es : List Expr} {t : TA} {p : Addr × Obj} {cls : Value} {d : Option Addr}
def tCallP (sp : Addr → Value → Option Addr → Sp) (a : Addr) (cls : Value) (d : Option Addr) (t : TA) : TE := fun σ H Q => t σ H fun vs H1 => sp a cls d vs H1 Q E0
theorem pe_callP (F : FnP X.prog X.w X.K X.mg X.base k f fd ps sp) (hr : RoomH k X.A) (hp : p ∈ X.pn) (hz : Zc cls d p.2) (hf : ∃ fv, p.2.data = .fields fv)
    (hg : Gl X x) (hm : X.mg x = some (.ref f)) (hk : PySem.W.keepIn X.K (.ref f) = true) (hb : Binds X.K fd ps [])
    (ha : PA X (e :: es) t) (hdb : (x == ("__debug__" : Str)) = false := by decide)
    (he : starEach (e :: es) X.env = (false, eval e X.env) :: starEach es X.env := by rfl)
    (hpl : (backTo pos (starEach es X.env)).any (·.1) = false := by rfl) :
    PE X (.Call (.Name x q) (e :: es) [] pos) (tCallP sp p.1 cls d t) := by
  constructor
  intro pins s σ H Q I h
  refine wpAny_Call_Name_kw (ld_glob I hg hm ?_ hdb)
  refine PySem.W.callWith_K (h₀ := X.base) I.ok.mod.kin hk (thn (ha.run pos pins s σ H _ I h) ?_) he hpl
  rintro us s1 ⟨vs, H1, I1, r, h1⟩
  refine ⟨I1.kIn, ?_⟩
  have hl : us.length = ps.length := by rw [← r.length]; exact F.len _ _ _ _ _ _ _ h1
  have b := hb s1 us I1.kIn (by rw [List.append_nil]; exact hl)
  rw [List.append_nil] at b
  have P1 := I1.pin p (List.mem_append_left _ hp)
  have hpin : PinOk X.stack H1 s1 p := ⟨P1.1, P1.2.1, fun hm => (List.mem_cons.mp (I1.stkSub p.1 hm)).elim P1.2.2.1 P1.2.2.2.1, P1.2.2.2.2⟩
  refine wpAny_call (codeAny_mono (F.run X.A X.stack s1 H1 ⟨us, []⟩ us vs Q E0 p cls d hr hpin hz hf I1.env0 b r h1) ?_)
  intro r s' hq
  cases r with
  | error e => exact hq.elim
  | ok fl =>
    cases fl with
    | ret u => exact I1.after hq
    | next => exact False.elim hq
    | brk => exact False.elim hq
    | cont => exact False.elim hq
/-- isinstance(e, c), e a pinned exception -/
theorem call_isP {D : Addr} (hp : p ∈ X.pn) (C : ExcC X.K D) (hz : Zc (.ref D) none p.2) (hf : ∃ vs, p.2.data = .fields vs) :
    CallR X (.builtin "isinstance") (rIsE X.K D p.1) := by
  obtain ⟨a, oe⟩ := p
  intro pins s σ H xs us Q I r h
  obtain ⟨c, cv, b, rfl, hcv, ek, h1⟩ := h
  obtain ⟨u1, u2, rfl, r1, r2⟩ := vals2 r
  cases r1
  have ec := hcv _ r2
  subst ec
  have hget := (I.pin (a, oe) (List.mem_append_left _ hp)).1
  obtain ⟨vs, hv⟩ := hf
  have J : PySem.W.InstAt s.heap a oe D none := by
    obtain ⟨oc, od, oda, osl⟩ := oe
    obtain ⟨h1, h2⟩ := hz
    dsimp only at h1 h2 hv
    subst h1 h2 hv
    exact ⟨hget, rfl, rfl, trivial⟩
  refine PySem.W.kia_one (PySem.W.handS_kitx_exc C.hg C.hk C.hs C.hd C.ha C.hn C.ht C.hm) I.kIn J ek (fun z => nomatch z) ?_
  intro tk
  exact ⟨.bl b, H, I.kept (t' := tk) fun _ _ z => z, rfl, h1⟩
end
end KT

/-! pairs of guests, heaps, bundles -/
namespace KT
open PySem PySem.Spec PyProof.Rows L2

/-! ### plain: pairs -/
abbrev Pr := Nat × Nat
def nrm (i j : Nat) : Pr := (min i j, max i j)
def WF (n : Nat) (L : List Pr) : Prop := L.Nodup ∧ ∀ p ∈ L, p.1 < p.2 ∧ p.2 < n
theorem nrm_comm (i j : Nat) : nrm i j = nrm j i := by
  unfold nrm
  rw [Nat.min_comm, Nat.max_comm]
theorem nrm_lt {i j : Nat} (h : i < j) : nrm i j = (i, j) := by
  unfold nrm
  rw [Nat.min_eq_left (by omega), Nat.max_eq_right (by omega)]
theorem nrm_ok {i j n : Nat} (h : i ≠ j) (hi : i < n) (hj : j < n) : (nrm i j).1 < (nrm i j).2 ∧ (nrm i j).2 < n := by
  show min i j < max i j ∧ max i j < n
  omega
theorem min_py (i j : Nat) : (if (j : Int) < (i : Int) then (j : Int) else (i : Int)) = ((min i j : Nat) : Int) := by
  split <;> omega
theorem max_py (i j : Nat) : (if (j : Int) > (i : Int) then (j : Int) else (i : Int)) = ((max i j : Nat) : Int) := by
  split <;> omega
theorem len_bound : ∀ (m : Nat) (l : List Nat), l.Nodup → (∀ x ∈ l, x < m) → l.length ≤ m
  | 0, [], _, _ => Nat.le_refl _
  | 0, a :: l, _, h => absurd (h a List.mem_cons_self) (Nat.not_lt_zero _)
  | m + 1, l, nd, h => by
    by_cases hm : m ∈ l
    · have h1 := len_bound m (l.erase m) (nd.erase m) (fun x hx => by
        have a := h x (List.mem_of_mem_erase hx)
        have b : x ≠ m := fun e => by
          rw [e] at hx
          exact (List.Nodup.not_mem_erase nd) hx
        omega)
      rw [List.length_erase_of_mem hm] at h1
      omega
    · have h1 := len_bound m l nd (fun x hx => by
        have a := h x hx
        have b : x ≠ m := fun e => hm (by rw [← e]; exact hx)
        omega)
      omega
theorem map_nodup {α β : Type} {f : α → β} : ∀ {l : List α}, (∀ a ∈ l, ∀ b ∈ l, f a = f b → a = b) → l.Nodup → (l.map f).Nodup
  | [], _, _ => by simp
  | a :: l, inj, nd => by
    rw [List.nodup_cons] at nd
    rw [List.map_cons, List.nodup_cons]
    refine ⟨fun m => ?_, map_nodup (fun x hx y hy => inj x (List.mem_cons_of_mem _ hx) y (List.mem_cons_of_mem _ hy)) nd.2⟩
    obtain ⟨b, hb, e⟩ := List.mem_map.mp m
    have := inj b (List.mem_cons_of_mem _ hb) a List.mem_cons_self e
    exact nd.1 (by rw [← this]; exact hb)
theorem WF.len {n : Nat} {L : List Pr} (h : WF n L) (hn : n ≤ 20) : L.length ≤ 400 := by
  have h1 := len_bound 400 (L.map fun p => p.1 * 20 + p.2) (map_nodup (fun a ha b hb e => by
    have x := h.2 a ha
    have y := h.2 b hb
    obtain ⟨a1, a2⟩ := a
    obtain ⟨b1, b2⟩ := b
    simp only at x y e
    have e1 : a1 = b1 := by omega
    have e2 : a2 = b2 := by omega
    rw [e1, e2]) h.1) (fun x hx => by
      obtain ⟨p, hp, rfl⟩ := List.mem_map.mp hx
      have := h.2 p hp
      omega)
  rwa [List.length_map] at h1
theorem WF.nil (n : Nat) : WF n [] := ⟨List.nodup_nil, fun p hp => by cases hp⟩
theorem WF.snoc {n : Nat} {L : List Pr} {q : Pr} (h : WF n L) (hq : q.1 < q.2 ∧ q.2 < n) (nq : q ∉ L) : WF n (L ++ [q]) := by
  refine ⟨nd_snoc h.1 nq, fun p hp => ?_⟩
  rcases List.mem_append.mp hp with z | z
  · exact h.2 p z
  · rw [List.mem_singleton.mp z]
    exact hq
theorem WF.erase {n : Nat} {L : List Pr} (q : Pr) (h : WF n L) : WF n (L.erase q) := ⟨h.1.erase q, fun p hp => h.2 p (List.mem_of_mem_erase hp)⟩

/-! ### the dict of a hall -/
def kP (p : Pr) : List L2.Key := [Sum.inl (p.1 : Int), Sum.inl (p.2 : Int)]
def kvs (L : List Pr) : List (List L2.Key × V) := L.map fun p => (kP p, V.bl true)
theorem kP_inj {p q : Pr} (h : kP p = kP q) : p = q := by
  obtain ⟨a, b⟩ := p
  obtain ⟨c, d⟩ := q
  injection h with h1 h2
  injection h2 with h2 _
  have e1 := Int.ofNat.inj (Sum.inl.inj h1)
  have e2 := Int.ofNat.inj (Sum.inl.inj h2)
  exact Prod.ext e1 e2
theorem kP_map (p : Pr) : (kP p).map kV = [V.int (p.1 : Int), V.int (p.2 : Int)] := rfl
theorem valV_kvs (q : Pr) : ∀ L : List Pr, valV (kvs L) (kP q) = if q ∈ L then some (V.bl true) else none
  | [] => rfl
  | p :: L => by
    show valV ((kP p, V.bl true) :: kvs L) (kP q) = _
    by_cases e : p = q
    · subst e
      rw [valV_pos rfl, if_pos List.mem_cons_self]
    · rw [valV_neg (fun z => e (kP_inj z)), valV_kvs q L]
      by_cases m : q ∈ L
      · rw [if_pos m, if_pos (List.mem_cons_of_mem _ m)]
      · rw [if_neg m, if_neg (fun z => (List.mem_cons.mp z).elim (fun y => e y.symm) m)]
theorem isSome_kvs (q : Pr) (L : List Pr) : (valV (kvs L) (kP q)).isSome = decide (q ∈ L) := by
  rw [valV_kvs]
  by_cases m : q ∈ L
  · rw [if_pos m, decide_eq_true m] <;> rfl
  · rw [if_neg m, decide_eq_false m] <;> rfl
theorem put_kvs {q : Pr} {L : List Pr} (m : q ∉ L) : putK (kvs L) (kP q) (V.bl true) = kvs (L ++ [q]) := by
  rw [putK_new _ (by rw [valV_kvs, if_neg m])]
  unfold kvs
  rw [List.map_append]
  rfl
theorem drop_kvs {q : Pr} : ∀ {L : List Pr}, L.Nodup → dropK (kvs L) (kP q) = kvs (L.erase q)
  | [], _ => rfl
  | p :: L, nd => by
    have nd2 := List.nodup_cons.mp nd
    show dropK ((kP p, V.bl true) :: kvs L) (kP q) = _
    by_cases e : p = q
    · subst e
      rw [dropK_pos rfl, List.erase_cons_head]
      refine dropK_no fun m => nd2.1 ?_
      obtain ⟨z, hz, ez⟩ := List.mem_map.mp m
      obtain ⟨r, hr, er⟩ := List.mem_map.mp hz
      subst er
      rw [← kP_inj ez]
      exact hr
    · rw [dropK_neg (fun z => e (kP_inj z)), List.erase_cons_tail (by simpa using e), drop_kvs nd2.2]
      rfl
theorem length_kvs (L : List Pr) : (kvs L).length = L.length := List.length_map _

/-! ### heaps -/
def Keep (D : List Addr) (H H' : Hp) : Prop := ∀ b o, b ∉ D → H b = some o → H' b = some o
theorem Keep.of {H H' : Hp} (D : List Addr) (s : Same H H') : Keep D H H' := fun b o _ e => s b o e
theorem Keep.same {H H' : Hp} (k : Keep [] H H') : Same H H' := fun b o e => k b o (by simp) e
theorem Keep.refl (D : List Addr) (H : Hp) : Keep D H H := fun _ _ _ e => e
theorem Keep.trans {D : List Addr} {H H1 H2 : Hp} (a : Keep D H H1) (b : Keep D H1 H2) : Keep D H H2 := fun c o n e => b c o n (a c o n e)
theorem Keep.mono {D D' : List Addr} {H H1 : Hp} (a : Keep D H H1) (h : ∀ b ∈ D, b ∈ D') : Keep D' H H1 := fun c o n e => a c o (fun m => n (h c m)) e
theorem Keep.at1 {d : Addr} {H H' : Hp} (k : Keep [d] H H') {b : Addr} {o : HO} (n : b ≠ d) (e : H b = some o) : H' b = some o := k b o (by simpa using n) e
theorem same_new {H : Hp} {p : Addr} (o : HO) (h : H p = none) : Same H (upd H p o) := fun b u e => by
  rw [upd_ne (ne_of_none e h)]
  exact e
theorem Keep.put {H : Hp} (d : Addr) (o : HO) : Keep [d] H (upd H d o) := fun b u n e => by
  rw [upd_ne (by simpa using n)]
  exact e
/-- a new object that is changed later -/
theorem same_keepNew {H H1 H2 : Hp} {p : Addr} (s : Same H H1) (hp : H p = none) (k : Keep [p] H1 H2) : Same H H2 := fun b o e =>
  k.at1 (ne_of_none e hp) (s b o e)

/-! ### a hall -/
def hf (n : Nat) (d : Addr) : List (Str × V) := putF "pairs" (.ref d) (putF "count" (.int (n : Int)) [])
theorem cp_ : ¬ (("count" : Str) = "pairs") := by decide +kernel
theorem pc_ : ¬ (("pairs" : Str) = "count") := by decide +kernel
theorem hf_count (n : Nat) (d : Addr) : (hf n d).lookup ("count" : Str) = some (.int (n : Int)) := by
  unfold hf
  rw [lookup_putF, if_neg cp_, lookup_putF, if_pos rfl]
theorem hf_pairs (n : Nat) (d : Addr) : (hf n d).lookup ("pairs" : Str) = some (.ref d) := by
  unfold hf
  rw [lookup_putF, if_pos rfl]
theorem hf_no (n : Nat) (d : Addr) {m : Str} (h1 : ¬ m = "pairs") (h2 : ¬ m = "count") : (hf n d).lookup m = none := by
  unfold hf
  rw [lookup_putF, if_neg h1, lookup_putF, if_neg h2]
  rfl
structure HallAt (C : Addr) (H : Hp) (p : Addr) (n : Nat) (d : Addr) (L : List Pr) : Prop where
  ins : ∃ dx, H p = some (.ins C dx (hf n d))
  dic : H d = some (.dT (kvs L))
  wf : WF n L
  lo : 1 ≤ n
  hi : n ≤ 20
section
variable {C : Addr} {H H' : Hp} {p d : Addr} {n : Nat} {L : List Pr}
theorem HallAt.ne (h : HallAt C H p n d L) : p ≠ d := by
  obtain ⟨dx, e⟩ := h.ins
  exact ne_of e h.dic (fun z => nomatch z)
theorem HallAt.same (h : HallAt C H p n d L) (s : Same H H') : HallAt C H' p n d L :=
  ⟨let ⟨dx, e⟩ := h.ins; ⟨dx, s _ _ e⟩, s _ _ h.dic, h.wf, h.lo, h.hi⟩
theorem HallAt.keep {D : List Addr} (h : HallAt C H p n d L) (k : Keep D H H') (hp : p ∉ D) (hd : d ∉ D) : HallAt C H' p n d L :=
  ⟨let ⟨dx, e⟩ := h.ins; ⟨dx, k _ _ hp e⟩, k _ _ hd h.dic, h.wf, h.lo, h.hi⟩
end

/-! ### lists of pairs -/
def PairV (H : Hp) (v : V) (p : Pr) : Prop := ∃ a, v = .ref a ∧ H a = some (.tup [.int (p.1 : Int), .int (p.2 : Int)])
abbrev PairVs (H : Hp) : List V → List Pr → Prop := Paired (PairV H)
structure PairsAt (H : Hp) (l : Addr) (E : List Pr) : Prop where
  ex : ∃ xs, H l = some (.lst xs) ∧ PairVs H xs E
theorem PairVs.keep {H H' : Hp} (k : ∀ b ys, H b = some (.tup ys) → H' b = some (.tup ys)) {xs : List V} {E : List Pr} (h : PairVs H xs E) : PairVs H' xs E :=
  Paired.mapP h fun v p ⟨a, e, z⟩ => ⟨a, e, k _ _ z⟩
theorem PairVs.snoc {H : Hp} : ∀ {xs : List V} {E : List Pr} {v : V} {p : Pr}, PairVs H xs E → PairV H v p → PairVs H (xs ++ [v]) (E ++ [p])
  | _, _, _, _, .nil, h => .cons h .nil
  | _, _, _, _, .cons a r, h => .cons a (PairVs.snoc r h)
theorem PairVs.eraseIdx {H : Hp} : ∀ {xs : List V} {E : List Pr} (j : Nat), PairVs H xs E → PairVs H (xs.eraseIdx j) (E.eraseIdx j)
  | _, _, _, .nil => .nil
  | _, _, 0, .cons _ r => r
  | _, _, j + 1, .cons a r => .cons a (PairVs.eraseIdx j r)
theorem PairVs.get {H : Hp} : ∀ {xs : List V} {E : List Pr} {i : Nat} {v : V}, PairVs H xs E → xs[i]? = some v → ∃ p, E[i]? = some p ∧ PairV H v p
  | _, _, _, _, .nil, e => by simp at e
  | _, _, 0, _, .cons a _, e => by
    simp at e
    subst e
    exact ⟨_, rfl, a⟩
  | _, _, i + 1, v, .cons _ r, e => PairVs.get (i := i) (v := v) r (by simpa using e)
theorem PairsAt.same {H H' : Hp} {l : Addr} {E : List Pr} (h : PairsAt H l E) (s : Same H H') : PairsAt H' l E := by
  obtain ⟨xs, e, r⟩ := h.ex
  exact ⟨xs, s _ _ e, r.keep fun b ys z => s _ _ z⟩
/-- kept where lists and dicts of D alone change -/
theorem PairsAt.keep {D : List Addr} {H H' : Hp} {l : Addr} {E : List Pr} (h : PairsAt H l E) (k : Keep D H H') (hl : l ∉ D) (hD : ∀ b ∈ D, ∀ ys, H b ≠ some (.tup ys)) : PairsAt H' l E := by
  obtain ⟨xs, e, r⟩ := h.ex
  exact ⟨xs, k _ _ hl e, r.keep fun b ys z => k _ _ (fun m => hD b m ys z) z⟩
def pD (p : Pr) : PyData := .tuple [.int (p.1 : Int), .int (p.2 : Int)]
theorem PairV.dp {K : PySem.W.Frag} {H : Hp} {v : V} {p : Pr} (h : PairV H v p) : Dp K H v (pD p) := by
  obtain ⟨a, rfl, e⟩ := h
  exact .tup (SqT.of e) (.cons (.int _) (.cons (.int _) .nil))
theorem PairVs.dp {K : PySem.W.Frag} {H : Hp} : ∀ {xs : List V} {E : List Pr}, PairVs H xs E → DpAll K H xs (E.map pD)
  | _, _, .nil => .nil
  | _, _, .cons a r => .cons a.dp (PairVs.dp r)
theorem PairsAt.dp {K : PySem.W.Frag} {H : Hp} {l : Addr} {E : List Pr} (h : PairsAt H l E) : Dp K H (.ref l) (.list (E.map pD)) := by
  obtain ⟨xs, e, r⟩ := h.ex
  exact .lst (SqL.of e) r.dp
theorem pD_eqv (p q : Pr) : PyData.eqv (pD p) (pD q) = decide (p = q) := by
  obtain ⟨a, b⟩ := p
  obtain ⟨c, d⟩ := q
  have e : PyData.eqv (pD (a, b)) (pD (c, d)) = (((a : Int) == (c : Int)) && (((b : Int) == (d : Int)) && true)) := by
    simp only [pD, PyData.eqv, PyData.eqvAll]
  rw [e, Bool.eq_iff_iff]
  simp only [Bool.and_true, Bool.and_eq_true, beq_iff_eq, decide_eq_true_eq, Prod.mk.injEq]
  omega
theorem any_pD (q : Pr) : ∀ E : List Pr, ((E.map pD).any fun z => PyData.eqv z (pD q)) = decide (q ∈ E)
  | [] => by simp
  | p :: E => by
    rw [List.map_cons, List.any_cons, any_pD q E, pD_eqv, Bool.eq_iff_iff]
    simp only [Bool.or_eq_true, decide_eq_true_eq, List.mem_cons]
    constructor
    · rintro (h | h)
      · exact .inl h.symm
      · exact .inr h
    · rintro (h | h)
      · exact .inl h.symm
      · exact .inr h
theorem pD_lay (p : Pr) : (pD p).canLay0 = true := by simp [pD, PyData.canLay0, PyData.canLayAll0]
theorem pD_depth (p : Pr) : (pD p).depth = 1 := by simp [pD, PyData.depth, PyData.depthAll]
theorem pDs_lay : ∀ E : List Pr, PyData.canLayAll0 (E.map pD) = true
  | [] => by simp [PyData.canLayAll0]
  | z :: zs => by simp [PyData.canLayAll0, pD_lay z, pDs_lay zs]
theorem pDs_depth : ∀ E : List Pr, PyData.depthAll (E.map pD) ≤ 1
  | [] => by simp [PyData.depthAll]
  | z :: zs => by
    have h1 := pDs_depth zs
    have h2 := pD_depth z
    simp only [List.map_cons, PyData.depthAll]
    omega
theorem pD_shaped (p : Pr) : SeqAt.shaped (pD p) = true := by
  have h := pD_depth p
  unfold SeqAt.shaped
  rw [pD_lay, h] <;> rfl
theorem pDs_shaped (E : List Pr) : SeqAt.shaped (.list (E.map pD)) = true := by
  have h1 := pDs_depth E
  have h2 : PyData.depth (.list (E.map pD)) ≤ 64 := by
    simp only [PyData.depth]
    omega
  have h3 : PyData.canLay0 (.list (E.map pD)) = true := by
    simp only [PyData.canLay0]
    exact pDs_lay E
  unfold SeqAt.shaped
  rw [h3, decide_eq_true h2] <;> rfl
theorem pDs_plain : ∀ E : List Pr, PyData.plainAll (E.map pD) = true
  | [] => by simp [PyData.plainAll]
  | z :: zs => by
    have h := pDs_plain zs
    simp [PyData.plainAll, PyData.plain, pD, h]
theorem place_pD {q : Pr} : ∀ {E : List Pr}, q ∈ E → ∃ j, SeqAt.dataPlace (E.map pD) (pD q) = some j ∧ E.eraseIdx j = E.erase q
  | [], h => by cases h
  | p :: E, h => by
    by_cases e : p = q
    · refine ⟨0, ?_, ?_⟩
      · unfold SeqAt.dataPlace
        rw [List.map_cons, List.findIdx?_cons, pD_eqv, e] <;> simp
      · subst e
        rw [List.erase_cons_head] <;> rfl
    · obtain ⟨j, h1, h2⟩ := place_pD (E := E) (q := q) ((List.mem_cons.mp h).resolve_left fun z => e z.symm)
      refine ⟨j + 1, ?_, ?_⟩
      · unfold SeqAt.dataPlace at h1 ⊢
        rw [List.map_cons, List.findIdx?_cons, pD_eqv, decide_eq_false e, h1] <;> simp
      · rw [List.erase_cons_tail (by simpa using e), ← h2] <;> rfl

/-! ### bundles: what a caller is given of a def -/
section
variable (P : Program) (w : World) (K : PySem.W.Frag) (mg : Str → Option Value) (base : Heap) (CX : CXT)
structure CalD (k : Nat) (x : Str) (sp : Sp) : Prop where
  ex : ∃ f fd ps, FnOk P w K mg base CX k f fd ps sp ∧ Binds K fd ps [] ∧ mg x = some (.ref f) ∧ PySem.W.keepIn K (.ref f) = true
structure MetD (C : Addr) (k : Nat) (m : Str) (sp : Sp) : Prop where
  ex : ∃ f fd ps, FnOk P w K mg base CX k f fd ps sp ∧ Binds K fd ps [] ∧ Meth K C m f
structure MakD (C : Addr) (k : Nat) (x : Str) (sp : Sp) : Prop where
  ex : ∃ f fd ps, Mk K C f ∧ FnOk P w K mg base CX k f fd ps sp ∧ Binds K fd ps [] ∧ mg x = some (.ref C)
end
section
variable {X : Cx} {CX : CXT} {k j : Nat} {C : Addr} {sp : Sp} {E : XK} {ES : L2.St → XK} {x m : Str} {p pos apos : Pos} {e o : Expr} {es : List Expr} {ta : TE} {t : TA}
theorem pc (c : CalD X.prog X.w X.K X.mg X.base CX k x sp) (hr : Room j X.A) (hx : Passes CX X E) (ha : PA X (e :: es) t) (hk : k ≤ j := by decide) (hg : Gl X x := by rfl)
    (hdb : (x == ("__debug__" : Str)) = false := by decide) (he : starEach (e :: es) X.env = (false, eval e X.env) :: starEach es X.env := by rfl) (hpl : (backTo pos (starEach es X.env)).any (·.1) = false := by rfl) :
    PE X (.Call (.Name x p) (e :: es) [] pos) (tCall sp [] E t) := by
  obtain ⟨f, fd, ps, F, hb, hm, kp⟩ := c.ex
  exact pe_call F (hr.mono hk) hg hm kp hb .nil hx ha hdb he hpl
theorem pcS (c : CalD X.prog X.w X.K X.mg X.base CX k x sp) (hr : Room j X.A) (hx : ∀ σ, PassesAt CX X σ (ES σ)) (ha : PA X (e :: es) t) (hk : k ≤ j := by decide) (hg : Gl X x := by rfl)
    (hdb : (x == ("__debug__" : Str)) = false := by decide) (he : starEach (e :: es) X.env = (false, eval e X.env) :: starEach es X.env := by rfl) (hpl : (backTo pos (starEach es X.env)).any (·.1) = false := by rfl) :
    PE X (.Call (.Name x p) (e :: es) [] pos) (tCallS sp ES t) := by
  obtain ⟨f, fd, ps, F, hb, hm, kp⟩ := c.ex
  exact pe_callS F (hr.mono hk) hg hm kp hb hx ha hdb he hpl
theorem pm {pl : Sem Bool} (he : PE X o ta) (c : Cls X.K C) (d : MetD X.prog X.w X.K X.mg X.base CX C k m sp) (hr : Room j X.A) (hx : Passes CX X E) (ha : PA X (e :: es) t) (hk : k ≤ j := by decide)
    (hst : starEach (e :: es) X.env = (false, eval e X.env) :: starEach es X.env := by rfl) (hpl : (backTo pos (starEach es X.env)).any (·.1) = false := by rfl)
    (ht : eval (.Call (.Attribute o m apos) (e :: es) [] pos) X.env = (do
      let ov ← eval o X.env
      standAt apos.atName
      let (f, first) ← holding [ov] (getMethod ov m pl)
      callWith pos f first (backTo pos (starEach (e :: es) X.env)) (backToKw pos (keywordEach [] X.env))) := by rfl) :
    PE X (.Call (.Attribute o m apos) (e :: es) [] pos) (tMeth C m sp [] E ta t) := by
  obtain ⟨f, fd, ps, F, hb, hm⟩ := d.ex
  exact pe_meth (pl := pl) he c hm F (hr.mono hk) hb .nil hx ha hst hpl ht
theorem pmS {pl : Sem Bool} (he : PE X o ta) (c : Cls X.K C) (d : MetD X.prog X.w X.K X.mg X.base CX C k m sp) (hr : Room j X.A) (hx : ∀ σ, PassesAt CX X σ (ES σ)) (ha : PA X (e :: es) t) (hk : k ≤ j := by decide)
    (hst : starEach (e :: es) X.env = (false, eval e X.env) :: starEach es X.env := by rfl) (hpl : (backTo pos (starEach es X.env)).any (·.1) = false := by rfl)
    (ht : eval (.Call (.Attribute o m apos) (e :: es) [] pos) X.env = (do
      let ov ← eval o X.env
      standAt apos.atName
      let (f, first) ← holding [ov] (getMethod ov m pl)
      callWith pos f first (backTo pos (starEach (e :: es) X.env)) (backToKw pos (keywordEach [] X.env))) := by rfl) :
    PE X (.Call (.Attribute o m apos) (e :: es) [] pos) (tMethS C m sp ES ta t) := by
  obtain ⟨f, fd, ps, F, hb, hm⟩ := d.ex
  exact pe_methS (pl := pl) he c hm F (hr.mono hk) hb hx ha hst hpl ht
theorem pm0 {pl : Sem Bool} (he : PE X o ta) (c : Cls X.K C) (d : MetD X.prog X.w X.K X.mg X.base CX C k m sp) (hr : Room j X.A) (hx : Passes CX X E) (hk : k ≤ j := by decide)
    (ht : eval (.Call (.Attribute o m apos) [] [] pos) X.env = (do
      let ov ← eval o X.env
      standAt apos.atName
      let (f, first) ← holding [ov] (getMethod ov m pl)
      callWith pos f first (backTo pos (starEach [] X.env)) (backToKw pos (keywordEach [] X.env))) := by rfl) :
    PE X (.Call (.Attribute o m apos) [] [] pos) (tMeth C m sp [] E ta tNil) := by
  obtain ⟨f, fd, ps, F, hb, hm⟩ := d.ex
  exact pe_meth0 (pl := pl) he c hm F (hr.mono hk) hb .nil hx ht
theorem pk (d : MakD X.prog X.w X.K X.mg X.base CX C k x sp) (hr : Room j X.A) (hx : Passes CX X E) (ha : PA X (e :: es) t) (hk : k + 1 ≤ j := by decide) (hg : Gl X x := by rfl)
    (hdb : (x == ("__debug__" : Str)) = false := by decide) (he : starEach (e :: es) X.env = (false, eval e X.env) :: starEach es X.env := by rfl) (hpl : (backTo pos (starEach es X.env)).any (·.1) = false := by rfl) :
    PE X (.Call (.Name x p) (e :: es) [] pos) (tMake C sp [] E t) := by
  obtain ⟨f, fd, ps, M, F, hb, hm⟩ := d.ex
  exact pe_make M F (hr.mono hk) hg hm hb .nil hx ha hdb he hpl
theorem pkS (d : MakD X.prog X.w X.K X.mg X.base CX C k x sp) (hr : Room j X.A) (hx : ∀ σ, PassesAt CX X σ (ES σ)) (ha : PA X (e :: es) t) (hk : k + 1 ≤ j := by decide) (hg : Gl X x := by rfl)
    (hdb : (x == ("__debug__" : Str)) = false := by decide) (he : starEach (e :: es) X.env = (false, eval e X.env) :: starEach es X.env := by rfl) (hpl : (backTo pos (starEach es X.env)).any (·.1) = false := by rfl) :
    PE X (.Call (.Name x p) (e :: es) [] pos) (tMakeS C sp ES t) := by
  obtain ⟨f, fd, ps, M, F, hb, hm⟩ := d.ex
  exact pe_makeS M F (hr.mono hk) hg hm hb hx ha hdb he hpl
end
/-- what a callee lets out leaves the def -/
theorem px {P : Program} {w : World} {K : PySem.W.Frag} {mg : Str → Option Value} {base : Heap} {N : List Str} {qual : Str} {scope : Scope} {f : Addr} {cd : Value} {A : Around}
    {outer : List Env} {s : Shared} {H : Hp} {E : XK} : Passes (L2N.CX P w) (cxOf (L2N.CX P w) P w K mg base N qual scope f cd A outer s H E) E :=
  L2N.passes_call (W := fun cls d _ H => E cls d H) (L2N.takes_of rfl rfl rfl rfl) (fun _ _ _ _ h => h)
/-- what is raised leaves the def -/
theorem tk {P : Program} {w : World} {K : PySem.W.Frag} {mg : Str → Option Value} {base : Heap} {N : List Str} {qual : Str} {scope : Scope} {f : Addr} {cd : Value} {A : Around}
    {outer : List Env} {s : Shared} {H : Hp} {E : XK} : L2N.Takes (cxOf (L2N.CX P w) P w K mg base N qual scope f cd A outer s H E) (fun cls d _ H => E cls d H) :=
  L2N.takes_of rfl rfl rfl rfl
/-- an own exception class of the text -/
structure ExcT (K : PySem.W.Frag) (mg : Str → Option Value) (x : Str) (c : Addr) : Prop where
  g : mg x = some (.ref c)
  e : PySem.W.excIn K c [.type "ValueError", .type "Exception", .type "BaseException", .type "object"] "ValueError.__new__" = true
  k : PySem.W.keepIn K (.ref c) = true
  b : PySem.W.subIn K (.ref c) (.type "BaseException") = some true
  t : PySem.W.typeIn K (.ref c) = some (.type "type")
theorem pr {X : Cx} {x m : Str} {c : Addr} {j : Nat} {p p2 pos pos2 : Pos} {W : WX} (T : ExcT X.K X.mg x c) (tk : L2N.Takes X W) (hc : X.calm = true := by rfl) (hg : Gl X x := by rfl)
    (hdb : (x == ("__debug__" : Str)) = false := by decide) :
    PS X (.Raise (some (.Call (.Name x p) [.Constant (.str m) j p2] [] pos)) none pos2) (fun _ σ H => W (.ref c) none σ H) :=
  L2N.ps_raise hc tk (L2N.pmk_own PySem.F.excBase_ValueError T.e T.g T.k (raises_own T.b T.t) hg hdb)
end KT

/-! what the hall's defs promise -/
namespace KT
open PySem PySem.Spec PyProof.Rows L2
/-- the facts of the program's own classes -/
structure HT (K : PySem.W.Frag) (mg : Str → Option Value) (C cNG cSG cKA cST cBH : Addr) : Prop where
  cl : Cls K C
  nC : NoAttr K C "count"
  nP : NoAttr K C "pairs"
  ng : ExcT K mg "NoGuest" cNG
  sg : ExcT K mg "SameGuest" cSG
  ka : ExcT K mg "KnowAlready" cKA
  st : ExcT K mg "Strangers" cST
  bh : ExcT K mg "BadHall" cBH
  gr : ∃ t, mg "GREATEST" = some (.int 20 t)
  min : mg "min" = none
  max : mg "max" = none
  range : mg "range" = none
  len : mg "len" = none
def isG (n : Nat) (z : Int) : Prop := 0 ≤ z ∧ z < (n : Int)
theorem isG.nat {n : Nat} {z : Int} (h : isG n z) : ∃ i : Nat, z = (i : Int) ∧ i < n := ⟨z.toNat, by have := h.1; omega, by have := h.1; have := h.2; omega⟩
theorem isG.of {n i : Nat} (h : i < n) : isG n (i : Int) := ⟨by omega, by omega⟩
theorem notG {n : Nat} {z : Int} (h : ¬ isG n z) : z < 0 ∨ (n : Int) ≤ z := by
  unfold isG at h
  omega
/-- Hall(many): the new instance at p -/
def spInit (C cBH : Addr) : Sp := fun vs H Q E => ∃ (p dx : Addr) (z : Int), vs = [.ref p, .int z] ∧ H p = some (.ins C dx []) ∧ H dx = some (.own p) ∧
  (¬ (1 ≤ z ∧ z ≤ 20) → E (.ref cBH) none H) ∧
  (∀ n : Nat, z = (n : Int) → 1 ≤ n → n ≤ 20 → ∀ H' d, Keep [p] H H' → H d = none → HallAt C H' p n d [] → Q .non H')
def spMany (C : Addr) : Sp := fun vs H Q _ => ∃ (p d : Addr) (n : Nat) (L : List Pr), vs = [.ref p] ∧ HallAt C H p n d L ∧ Q (.int (n : Int)) H
def spSee (C cNG : Addr) : Sp := fun vs H Q E => ∃ (p d : Addr) (n : Nat) (L : List Pr) (z : Int), vs = [.ref p, .int z] ∧ HallAt C H p n d L ∧
  (¬ isG n z → E (.ref cNG) none H) ∧ (isG n z → Q .non H)
def spSeeTwo (C cNG cSG : Addr) : Sp := fun vs H Q E => ∃ (p d : Addr) (n : Nat) (L : List Pr) (y z : Int), vs = [.ref p, .int y, .int z] ∧ HallAt C H p n d L ∧
  (¬ (isG n y ∧ isG n z) → E (.ref cNG) none H) ∧ (isG n y → isG n z → y = z → E (.ref cSG) none H) ∧ (isG n y → isG n z → y ≠ z → Q .non H)
def spKnow (C cNG cSG : Addr) : Sp := fun vs H Q E => ∃ (p d : Addr) (n : Nat) (L : List Pr) (y z : Int), vs = [.ref p, .int y, .int z] ∧ HallAt C H p n d L ∧
  (¬ (isG n y ∧ isG n z) → E (.ref cNG) none H) ∧ (isG n y → isG n z → y = z → E (.ref cSG) none H) ∧
  (∀ i j : Nat, y = (i : Int) → z = (j : Int) → i < n → j < n → i ≠ j → ∀ H', Same H H' → Q (.bl (decide (nrm i j ∈ L))) H')
def spMeet (C cNG cSG cKA : Addr) : Sp := fun vs H Q E => ∃ (p d : Addr) (n : Nat) (L : List Pr) (y z : Int), vs = [.ref p, .int y, .int z] ∧ HallAt C H p n d L ∧
  (¬ (isG n y ∧ isG n z) → E (.ref cNG) none H) ∧ (isG n y → isG n z → y = z → E (.ref cSG) none H) ∧
  (∀ i j : Nat, y = (i : Int) → z = (j : Int) → i < n → j < n → i ≠ j → nrm i j ∈ L → ∀ H', Same H H' → E (.ref cKA) none H') ∧
  (∀ i j : Nat, y = (i : Int) → z = (j : Int) → i < n → j < n → i ≠ j → nrm i j ∉ L → ∀ H', Keep [d] H H' → HallAt C H' p n d (L ++ [nrm i j]) → Q .non H')
def spPart (C cNG cSG cST : Addr) : Sp := fun vs H Q E => ∃ (p d : Addr) (n : Nat) (L : List Pr) (y z : Int), vs = [.ref p, .int y, .int z] ∧ HallAt C H p n d L ∧
  (¬ (isG n y ∧ isG n z) → E (.ref cNG) none H) ∧ (isG n y → isG n z → y = z → E (.ref cSG) none H) ∧
  (∀ i j : Nat, y = (i : Int) → z = (j : Int) → i < n → j < n → i ≠ j → nrm i j ∉ L → ∀ H', Same H H' → E (.ref cST) none H') ∧
  (∀ i j : Nat, y = (i : Int) → z = (j : Int) → i < n → j < n → i ≠ j → nrm i j ∈ L → ∀ H', Keep [d] H H' → HallAt C H' p n d (L.erase (nrm i j)) → Q .non H')
/-- the others whom g knows (k), or doesn't -/
def oth (k : Bool) (L : List Pr) (g o : Nat) : Bool := decide (o ≠ g) && (decide (nrm g o ∈ L) == k)
def others (k : Bool) (n : Nat) (L : List Pr) (g : Nat) : List Nat := (List.range n).filter (oth k L g)
theorem oth_iff {k : Bool} {L : List Pr} {g o : Nat} : oth k L g o = true ↔ o ≠ g ∧ decide (nrm g o ∈ L) = k := by
  unfold oth
  rw [Bool.and_eq_true, decide_eq_true_eq, beq_iff_eq]
def iV (l : List Nat) : List V := l.map fun (i : Nat) => V.int (i : Int)
theorem iV_snoc (l : List Nat) (i : Nat) : iV (l ++ [i]) = iV l ++ [V.int (i : Int)] := by
  unfold iV
  rw [List.map_append]
  rfl
theorem filter_yes {f : Nat → Bool} {i : Nat} (h : f i = true) : (List.range (i + 1)).filter f = (List.range i).filter f ++ [i] := by
  rw [List.range_succ, List.filter_append, List.filter_cons_of_pos h]
  rfl
theorem filter_no {f : Nat → Bool} {i : Nat} (h : ¬ f i = true) : (List.range (i + 1)).filter f = (List.range i).filter f := by
  rw [List.range_succ, List.filter_append, List.filter_cons_of_neg h]
  exact List.append_nil _
theorem iV_line {f : Nat → Bool} {i : Nat} (h : i ≤ 1000000) : (iV ((List.range i).filter f)).length < sizeLine := by
  unfold iV
  rw [List.length_map]
  refine Nat.lt_of_le_of_lt (List.length_filter_le _ _) ?_
  rw [List.length_range]
  exact Nat.lt_of_le_of_lt h (by decide)
def spOthers (k : Bool) (C cNG : Addr) : Sp := fun vs H Q E => ∃ (p d : Addr) (n : Nat) (L : List Pr) (z : Int), vs = [.ref p, .int z] ∧ HallAt C H p n d L ∧
  (¬ isG n z → E (.ref cNG) none H) ∧
  (∀ g : Nat, z = (g : Int) → g < n → ∀ H' l, Same H H' → H l = none → H' l = some (.lst (iV (others k n L g))) → Q (.ref l) H')
section
variable {C cNG cSG cKA cST : Addr} {H : Hp} {Q : VK} {E : XK} {p d : Addr} {n i j : Nat} {L : List Pr}
theorem know_good (hall : HallAt C H p n d L) (hi : i < n) (hj : j < n) (nij : i ≠ j) (q : ∀ H', Same H H' → Q (.bl (decide (nrm i j ∈ L))) H') :
    spKnow C cNG cSG [.ref p, .int (i : Int), .int (j : Int)] H Q E := by
  refine ⟨p, d, n, L, _, _, rfl, hall, fun b => absurd ⟨isG.of hi, isG.of hj⟩ b, fun _ _ e => absurd (Int.ofNat.inj e) nij, fun i' j' ei ej _ _ _ => ?_⟩
  have a1 : i = i' := Int.ofNat.inj ei
  have a2 : j = j' := Int.ofNat.inj ej
  subst a1
  subst a2
  exact q
theorem meet_good (hall : HallAt C H p n d L) (hi : i < n) (hj : j < n) (nij : i ≠ j) (nin : nrm i j ∉ L) (q : ∀ H', Keep [d] H H' → HallAt C H' p n d (L ++ [nrm i j]) → Q .non H') :
    spMeet C cNG cSG cKA [.ref p, .int (i : Int), .int (j : Int)] H Q E := by
  refine ⟨p, d, n, L, _, _, rfl, hall, fun b => absurd ⟨isG.of hi, isG.of hj⟩ b, fun _ _ e => absurd (Int.ofNat.inj e) nij, fun i' j' ei ej _ _ _ m => ?_, fun i' j' ei ej _ _ _ _ => ?_⟩
  · have a1 : i = i' := Int.ofNat.inj ei
    have a2 : j = j' := Int.ofNat.inj ej
    subst a1
    subst a2
    exact absurd m nin
  · have a1 : i = i' := Int.ofNat.inj ei
    have a2 : j = j' := Int.ofNat.inj ej
    subst a1
    subst a2
    exact q
theorem others_good {k : Bool} (hall : HallAt C H p n d L) (hi : i < n) (q : ∀ H' l, Same H H' → H l = none → H' l = some (.lst (iV (others k n L i))) → Q (.ref l) H') :
    spOthers k C cNG [.ref p, .int (i : Int)] H Q E := by
  refine ⟨p, d, n, L, _, rfl, hall, fun b => absurd (isG.of hi) b, fun g eg _ => ?_⟩
  have a1 : i = g := Int.ofNat.inj eg
  subst a1
  exact q
end
/-! readings of calls that raise nothing -/
theorem rv {σ : L2.St} {H : Hp} {k : Nat} {v : V} (h : σ[k]? = some (some v)) : ∀ R : VK, R v H → tVar k σ H R := fun _ r => ⟨_, h, r⟩
theorem rvD {σ : L2.St} {k : Nat} {v : V} (h : σ[k]? = some (some v)) : ∀ (H : Hp) (R : VK), R v H → tVar k σ H R := fun _ _ r => ⟨_, h, r⟩
section
variable {C cNG cSG cKA cST : Addr} {σ : L2.St} {H : Hp} {Q : VK} {E : XK} {p d : Addr} {n i j : Nat} {L : List Pr} {to ta tb : TE}
theorem r_know (ho : ∀ R : VK, R (.ref p) H → to σ H R) (ha : ∀ R : VK, R (.int (i : Int)) H → ta σ H R) (hb : ∀ R : VK, R (.int (j : Int)) H → tb σ H R)
    (hall : HallAt C H p n d L) (hi : i < n) (hj : j < n) (nij : i ≠ j) (q : ∀ H', Same H H' → Q (.bl (decide (nrm i j ∈ L))) H') :
    tMeth C "know" (spKnow C cNG cSG) [] E to (tCons ta (tCons tb tNil)) σ H Q := by
  obtain ⟨dx, hp⟩ := hall.ins
  exact ho _ ⟨p, dx, _, rfl, hp, hf_no _ _ (by decide +kernel) (by decide +kernel), ha _ (hb _ (know_good hall hi hj nij q))⟩
theorem r_meet (ho : ∀ R : VK, R (.ref p) H → to σ H R) (ha : ∀ R : VK, R (.int (i : Int)) H → ta σ H R) (hb : ∀ R : VK, R (.int (j : Int)) H → tb σ H R)
    (hall : HallAt C H p n d L) (hi : i < n) (hj : j < n) (nij : i ≠ j) (nin : nrm i j ∉ L) (q : ∀ H', Keep [d] H H' → HallAt C H' p n d (L ++ [nrm i j]) → Q .non H') :
    tMeth C "meet" (spMeet C cNG cSG cKA) [] E to (tCons ta (tCons tb tNil)) σ H Q := by
  obtain ⟨dx, hp⟩ := hall.ins
  exact ho _ ⟨p, dx, _, rfl, hp, hf_no _ _ (by decide +kernel) (by decide +kernel), ha _ (hb _ (meet_good hall hi hj nij nin q))⟩
theorem r_known (ho : ∀ R : VK, R (.ref p) H → to σ H R) (ha : ∀ R : VK, R (.int (i : Int)) H → ta σ H R)
    (hall : HallAt C H p n d L) (hi : i < n) (q : ∀ H' l, Same H H' → H l = none → H' l = some (.lst (iV (others true n L i))) → Q (.ref l) H') :
    tMeth C "known" (spOthers true C cNG) [] E to (tCons ta tNil) σ H Q := by
  obtain ⟨dx, hp⟩ := hall.ins
  exact ho _ ⟨p, dx, _, rfl, hp, hf_no _ _ (by decide +kernel) (by decide +kernel), ha _ (others_good hall hi q)⟩
theorem r_strangers (ho : ∀ R : VK, R (.ref p) H → to σ H R) (ha : ∀ R : VK, R (.int (i : Int)) H → ta σ H R)
    (hall : HallAt C H p n d L) (hi : i < n) (q : ∀ H' l, Same H H' → H l = none → H' l = some (.lst (iV (others false n L i))) → Q (.ref l) H') :
    tMeth C "strangers" (spOthers false C cNG) [] E to (tCons ta tNil) σ H Q := by
  obtain ⟨dx, hp⟩ := hall.ins
  exact ho _ ⟨p, dx, _, rfl, hp, hf_no _ _ (by decide +kernel) (by decide +kernel), ha _ (others_good hall hi q)⟩
theorem r_many (ho : ∀ R : VK, R (.ref p) H → to σ H R) (hall : HallAt C H p n d L) (q : Q (.int (n : Int)) H) :
    tMeth C "many" (spMany C) [] E to tNil σ H Q := by
  obtain ⟨dx, hp⟩ := hall.ins
  exact ho _ ⟨p, dx, _, rfl, hp, hf_no _ _ (by decide +kernel) (by decide +kernel), p, d, n, L, rfl, hall, q⟩
end
/-- (x, y) in a dict of pairs -/
theorem get_new {H : Hp} {q t : Addr} {i j : Nat} {E : List Pr} (hq : H q = some (.dT (kvs E))) (ht : H t = none) :
    DGet (upd H t (.tup [V.int (i : Int), V.int (j : Int)])) q (.ref t) (valV (kvs E) (kP (i, j))) :=
  DGet.t (k := kP (i, j)) (same_new (.tup [V.int (i : Int), V.int (j : Int)]) ht _ _ hq) upd_same
/-- Hall(z) as an expression -/
theorem make_hall {C cBH : Addr} {z : Int} {H1 : Hp} {Q : Addr → Hp → Prop} {E : XK}
    (bad : ¬ (1 ≤ z ∧ z ≤ 20) → ∀ H', Same H1 H' → E (.ref cBH) none H')
    (good : ∀ n : Nat, z = (n : Int) → 1 ≤ n → n ≤ 20 → ∀ H' x d, H1 x = none → H1 d = none → Same H1 H' → HallAt C H' x n d [] → Q x H') :
    ∀ x dx, H1 x = none → H1 dx = none → dx ≠ x → spInit C cBH (.ref x :: [.int z]) (upd (upd H1 dx (.own x)) x (.ins C dx [])) (fun v H2 => v = .non ∧ Q x H2) E := by
  intro x dx hx hdx ne
  have s1 : Same H1 (upd (upd H1 dx (.own x)) x (.ins C dx [])) := (same_new _ hdx).trans (same_new _ (by rw [upd_ne ne.symm]; exact hx))
  refine ⟨x, dx, z, rfl, upd_same, by rw [upd_ne ne]; exact upd_same, fun b => bad b _ s1, ?_⟩
  intro n ez h1 h2 H' d kp nd hall
  refine ⟨rfl, good n ez h1 h2 H' x d hx ?_ (same_keepNew s1 hx kp) hall⟩
  exact s1.free nd
end KT

/-! the law's own defs: sorting of pairs, promises -/
namespace KT
open PySem PySem.Spec PyProof.Rows L2
def Srt (E : List Pr) : Prop := E.Pairwise fun p q => p.1 < q.1 ∨ (p.1 = q.1 ∧ p.2 < q.2)
/-- the ints of the tuple that v stands for -/
def tk2 (H : Hp) : V → Int × Int
  | .ref a => match H a with
    | some (.tup [.int i, .int j]) => (i, j)
    | _ => (0, 0)
  | _ => (0, 0)
theorem tk2_of {H : Hp} {v : V} {p : Pr} (h : PairV H v p) : tk2 H v = ((p.1 : Int), (p.2 : Int)) := by
  obtain ⟨a, rfl, e⟩ := h
  show (match H a with
    | some (.tup [.int i, .int j]) => (i, j)
    | _ => (0, 0)) = _
  rw [e]
theorem PairVs.mem {H : Hp} : ∀ {xs : List V} {E : List Pr}, PairVs H xs E → ∀ v ∈ xs, ∃ p, p ∈ E ∧ PairV H v p
  | _, _, .nil, v, h => by cases h
  | _, _, .cons a r, v, h => by
    rcases List.mem_cons.mp h with e | h
    · subst e
      exact ⟨_, List.mem_cons_self, a⟩
    · obtain ⟨p, hp, z⟩ := PairVs.mem r v h
      exact ⟨p, List.mem_cons_of_mem _ hp, z⟩
theorem PairVs.eq {H : Hp} : ∀ {xs : List V} {E : List Pr}, PairVs H xs E → E = xs.map fun v => ((tk2 H v).1.toNat, (tk2 H v).2.toNat)
  | _, _, .nil => rfl
  | _, _, .cons a r => by
    rw [List.map_cons, ← PairVs.eq r, tk2_of a]
    simp
theorem PairVs.of {H : Hp} : ∀ {ys : List V}, (∀ v ∈ ys, ∃ p, PairV H v p) → PairVs H ys (ys.map fun v => ((tk2 H v).1.toNat, (tk2 H v).2.toNat))
  | [], _ => .nil
  | v :: ys, h => by
    refine .cons ?_ (PairVs.of fun u hu => h u (List.mem_cons_of_mem _ hu))
    obtain ⟨p, hp⟩ := h v List.mem_cons_self
    show PairV H v ((tk2 H v).1.toNat, (tk2 H v).2.toNat)
    rw [tk2_of hp]
    simpa using hp
theorem sort_pairs {H : Hp} {xs : List V} {E : List Pr} (r : PairVs H xs E) (nd : E.Nodup) :
    (∀ x ∈ xs, ∃ t, x = V.ref t ∧ H t = some (.tup [.int (tk2 H x).1, .int (tk2 H x).2])) ∧
    ∀ ys, SrtO.Srtd (ltP (tk2 H)) ys → ys.Perm xs → ∃ E', PairVs H ys E' ∧ E'.Perm E ∧ Srt E' := by
  refine ⟨fun x hx => ?_, fun ys hs hp => ?_⟩
  · obtain ⟨p, _, hv⟩ := r.mem x hx
    rw [tk2_of hv]
    obtain ⟨a, rfl, e⟩ := hv
    exact ⟨a, rfl, e⟩
  · have all : ∀ v ∈ ys, ∃ p, PairV H v p := fun v hv => by
      obtain ⟨p, _, h⟩ := r.mem v (hp.mem_iff.mp hv)
      exact ⟨p, h⟩
    have pe : (ys.map fun v => ((tk2 H v).1.toNat, (tk2 H v).2.toNat)).Perm E := by
      rw [r.eq]
      exact hp.map _
    refine ⟨_, PairVs.of all, pe, ?_⟩
    have nd2 : (ys.map fun v => ((tk2 H v).1.toNat, (tk2 H v).2.toNat)).Nodup := pe.nodup_iff.mpr nd
    unfold Srt
    rw [List.pairwise_map]
    have nd3 : ys.Pairwise fun u v => ((tk2 H u).1.toNat, (tk2 H u).2.toNat) ≠ ((tk2 H v).1.toNat, (tk2 H v).2.toNat) := List.pairwise_map.mp nd2
    have both := List.pairwise_and_iff.mpr ⟨List.Pairwise.imp_of_mem (S := fun u v => ltP (tk2 H) v u = false ∧ u ∈ ys ∧ v ∈ ys) (fun hu hv h => ⟨h, hu, hv⟩) hs, nd3⟩
    refine both.imp ?_
    rintro u v ⟨⟨h1, hu, hv⟩, h2⟩
    obtain ⟨p, hp1⟩ := all u hu
    obtain ⟨q, hq1⟩ := all v hv
    have h3 := SrtO.lexB_no.mp h1
    rw [tk2_of hp1, tk2_of hq1] at *
    simp only [Int.toNat_natCast, ne_eq, Prod.mk.injEq, not_and] at h2 h3 ⊢
    by_cases c : p.1 = q.1
    · have := h2 c
      omega
    · omega

/-! ### promises -/
def spCell (K : PySem.W.Frag) : Sp := fun vs H Q _ => ∃ (a : Addr) (ns : List Int) (k : Nat), vs = [.ref a, .int (k : Int)] ∧ SqL K H a (ns.map V.int) ∧ Q (.int (ns.getD k 0)) H
def spWhole : Sp := fun vs H Q _ => ∃ i : Int, vs = [.int i] ∧ Q (.bl true) H
def spManyOf (K : PySem.W.Frag) : Sp := fun vs H Q _ => ∃ (a : Addr) (ns : List Int), vs = [.ref a] ∧ SqL K H a (ns.map V.int) ∧ ∀ n : Nat, 1 ≤ n → n ≤ 20 → Q (.int (n : Int)) H
def spPairsBy (K : PySem.W.Frag) : Sp := fun vs H Q _ => ∃ (a : Addr) (ns : List Int) (first n : Nat), vs = [.ref a, .int (first : Int), .int (n : Int)] ∧ SqL K H a (ns.map V.int) ∧ 1 ≤ n ∧ n ≤ 20 ∧
  ∀ H' l E, Same H H' → H l = none → PairsAt H' l E → WF n E → Srt E → Q (.ref l) H'
def spHallOf (C : Addr) : Sp := fun vs H Q _ => ∃ (l : Addr) (n : Nat) (E : List Pr), vs = [.int (n : Int), .ref l] ∧ PairsAt H l E ∧ WF n E ∧ 1 ≤ n ∧ n ≤ 20 ∧
  ∀ H' x d, Same H H' → H x = none → H d = none → HallAt C H' x n d E → Q (.ref x) H'
/-- the same pairs, in any order -/
def Eqv (L E : List Pr) : Prop := ∀ p, p ∈ L ↔ p ∈ E
theorem Eqv.refl (L : List Pr) : Eqv L L := fun _ => Iff.rfl
theorem Eqv.snoc {L E : List Pr} (h : Eqv L E) (q : Pr) : Eqv (L ++ [q]) (E ++ [q]) := fun p => by
  rw [List.mem_append, List.mem_append, h p]
theorem Eqv.erase {L E : List Pr} (h : Eqv L E) (nL : L.Nodup) (nE : E.Nodup) (q : Pr) : Eqv (L.erase q) (E.erase q) := fun p => by
  rw [nL.mem_erase_iff, nE.mem_erase_iff, h p]
def spTurnOne (C : Addr) : Sp := fun vs H Q _ => ∃ (x l d : Addr) (n : Nat) (L E : List Pr) (z : Int), vs = [.ref x, .ref l, .int (n : Int), .int z] ∧ HallAt C H x n d L ∧ PairsAt H l E ∧ WF n E ∧ Eqv L E ∧
  ∀ H' L' E', Keep [d, l] H H' → HallAt C H' x n d L' → PairsAt H' l E' → WF n E' → Eqv L' E' → Q .non H'
end KT

/-! threes: plain, in the heap, promises -/
namespace KT
open PySem PySem.Spec PyProof.Rows L2
abbrev Tr := Nat × Nat × Nat
def mono (L : List Pr) (a b c : Nat) : Bool := (decide (nrm a b ∈ L) == decide (nrm a c ∈ L)) && (decide (nrm a b ∈ L) == decide (nrm b c ∈ L))
def th3 (L : List Pr) (a b k : Nat) : List Tr := (List.range k).flatMap fun i => if mono L a b (b + 1 + i) = true then [(a, b, b + 1 + i)] else []
def th2 (L : List Pr) (n a k : Nat) : List Tr := (List.range k).flatMap fun i => th3 L a (a + 1 + i) (n - (a + 1 + i + 1))
def th1 (L : List Pr) (n k : Nat) : List Tr := (List.range k).flatMap fun a => th2 L n a (n - (a + 1))
def threesL (n : Nat) (L : List Pr) : List Tr := th1 L n n
theorem flat_step {α : Type} (f : Nat → List α) (k : Nat) : (List.range (k + 1)).flatMap f = (List.range k).flatMap f ++ f k := by
  rw [List.range_succ, List.flatMap_append]
  simp
theorem th3_step (L : List Pr) (a b k : Nat) : th3 L a b (k + 1) = th3 L a b k ++ (if mono L a b (b + 1 + k) = true then [(a, b, b + 1 + k)] else []) := flat_step _ _
theorem th2_step (L : List Pr) (n a k : Nat) : th2 L n a (k + 1) = th2 L n a k ++ th3 L a (a + 1 + k) (n - (a + 1 + k + 1)) := flat_step _ _
theorem th1_step (L : List Pr) (n k : Nat) : th1 L n (k + 1) = th1 L n k ++ th2 L n k (n - (k + 1)) := flat_step _ _
theorem mono_eqv {L E : List Pr} (h : Eqv L E) (a b c : Nat) : mono L a b c = mono E a b c := by
  unfold mono
  rw [decide_eq_decide.mpr (h (nrm a b)), decide_eq_decide.mpr (h (nrm a c)), decide_eq_decide.mpr (h (nrm b c))]
theorem threes_eqv {L E : List Pr} (h : Eqv L E) (n : Nat) : threesL n L = threesL n E := by
  unfold threesL th1 th2 th3
  simp only [mono_eqv h]
theorem mem_threes {n : Nat} {L : List Pr} {t : Tr} : t ∈ threesL n L ↔ t.1 < t.2.1 ∧ t.2.1 < t.2.2 ∧ t.2.2 < n ∧ mono L t.1 t.2.1 t.2.2 = true := by
  obtain ⟨a, b, c⟩ := t
  unfold threesL th1 th2 th3
  simp only [List.mem_flatMap, List.mem_range]
  constructor
  · rintro ⟨a', ha, i, hi, j, hj, h⟩
    split at h
    · rename_i m
      have e := List.mem_singleton.mp h
      injection e with e1 e2
      injection e2 with e2 e3
      subst e1
      subst e2
      subst e3
      exact ⟨by omega, by omega, by omega, m⟩
    · cases h
  · rintro ⟨h1, h2, h3, m⟩
    refine ⟨a, by omega, b - (a + 1), by omega, c - (b + 1), by omega, ?_⟩
    have e1 : a + 1 + (b - (a + 1)) = b := by omega
    have e2 : b + 1 + (c - (b + 1)) = c := by omega
    rw [e1, e2, if_pos m]
    exact List.mem_singleton.mpr rfl
theorem th3_len (L : List Pr) (a b : Nat) : ∀ k, (th3 L a b k).length ≤ k
  | 0 => Nat.le_refl _
  | k + 1 => by
    have h := th3_len L a b k
    rw [th3_step, List.length_append]
    split
    · rw [List.length_singleton]
      omega
    · rw [List.length_nil]
      omega
theorem th2_len (L : List Pr) {n : Nat} (hn : n ≤ 20) (a : Nat) : ∀ k, (th2 L n a k).length ≤ 20 * k
  | 0 => Nat.le_refl _
  | k + 1 => by
    have h := th2_len L hn a k
    have h2 := th3_len L a (a + 1 + k) (n - (a + 1 + k + 1))
    rw [th2_step, List.length_append]
    omega
theorem th1_len (L : List Pr) {n : Nat} (hn : n ≤ 20) : ∀ k, (th1 L n k).length ≤ 400 * k
  | 0 => Nat.le_refl _
  | k + 1 => by
    have h := th1_len L hn k
    have h2 := th2_len L hn k (n - (k + 1))
    rw [th1_step, List.length_append]
    omega
theorem threes_len (L : List Pr) {n : Nat} (hn : n ≤ 20) : (threesL n L).length ≤ 8000 := by
  have h := th1_len L hn n
  unfold threesL
  omega
/-! in the heap -/
def TripV (H : Hp) (v : V) (t : Tr) : Prop := ∃ a, v = .ref a ∧ H a = some (.tup [.int (t.1 : Int), .int (t.2.1 : Int), .int (t.2.2 : Int)])
abbrev TripVs (H : Hp) : List V → List Tr → Prop := Paired (TripV H)
structure TripsAt (H : Hp) (l : Addr) (E : List Tr) : Prop where
  ex : ∃ xs, H l = some (.lst xs) ∧ TripVs H xs E
theorem TripVs.keep {H H' : Hp} (k : ∀ b ys, H b = some (.tup ys) → H' b = some (.tup ys)) {xs : List V} {E : List Tr} (h : TripVs H xs E) : TripVs H' xs E :=
  Paired.mapP h fun v p ⟨a, e, z⟩ => ⟨a, e, k _ _ z⟩
theorem TripVs.snoc {H : Hp} : ∀ {xs : List V} {E : List Tr} {v : V} {p : Tr}, TripVs H xs E → TripV H v p → TripVs H (xs ++ [v]) (E ++ [p])
  | _, _, _, _, .nil, h => .cons h .nil
  | _, _, _, _, .cons a r, h => .cons a (TripVs.snoc r h)
theorem TripVs.get {H : Hp} : ∀ {xs : List V} {E : List Tr} {i : Nat} {v : V}, TripVs H xs E → xs[i]? = some v → ∃ p, E[i]? = some p ∧ TripV H v p
  | _, _, _, _, .nil, e => by simp at e
  | _, _, 0, _, .cons a _, e => by
    simp at e
    subst e
    exact ⟨_, rfl, a⟩
  | _, _, i + 1, v, .cons _ r, e => TripVs.get (i := i) (v := v) r (by simpa using e)
theorem TripsAt.same {H H' : Hp} {l : Addr} {E : List Tr} (h : TripsAt H l E) (s : Same H H') : TripsAt H' l E := by
  obtain ⟨xs, e, r⟩ := h.ex
  exact ⟨xs, s _ _ e, r.keep fun b ys z => s _ _ z⟩
def tD (t : Tr) : PyData := .tuple [.int (t.1 : Int), .int (t.2.1 : Int), .int (t.2.2 : Int)]
theorem TripV.dp {K : PySem.W.Frag} {H : Hp} {v : V} {p : Tr} (h : TripV H v p) : Dp K H v (tD p) := by
  obtain ⟨a, rfl, e⟩ := h
  exact .tup (SqT.of e) (.cons (.int _) (.cons (.int _) (.cons (.int _) .nil)))
theorem TripVs.dp {K : PySem.W.Frag} {H : Hp} : ∀ {xs : List V} {E : List Tr}, TripVs H xs E → DpAll K H xs (E.map tD)
  | _, _, .nil => .nil
  | _, _, .cons a r => .cons a.dp (TripVs.dp r)
theorem TripsAt.dp {K : PySem.W.Frag} {H : Hp} {l : Addr} {E : List Tr} (h : TripsAt H l E) : Dp K H (.ref l) (.list (E.map tD)) := by
  obtain ⟨xs, e, r⟩ := h.ex
  exact .lst (SqL.of e) r.dp
theorem tD_depth (p : Tr) : (tD p).depth = 1 := by simp [tD, PyData.depth, PyData.depthAll]
theorem tDs_lay : ∀ E : List Tr, PyData.canLayAll0 (E.map tD) = true
  | [] => by simp [PyData.canLayAll0]
  | z :: zs => by simp [PyData.canLayAll0, PyData.canLay0, tD, tDs_lay zs]
theorem tDs_depth : ∀ E : List Tr, PyData.depthAll (E.map tD) ≤ 1
  | [] => by simp [PyData.depthAll]
  | z :: zs => by
    have h1 := tDs_depth zs
    have h2 := tD_depth z
    simp only [List.map_cons, PyData.depthAll]
    omega
theorem tDs_shaped (E : List Tr) : SeqAt.shaped (.list (E.map tD)) = true := by
  have h1 := tDs_depth E
  have h2 : PyData.depth (.list (E.map tD)) ≤ 64 := by
    simp only [PyData.depth]
    omega
  have h3 : PyData.canLay0 (.list (E.map tD)) = true := by
    simp only [PyData.canLay0]
    exact tDs_lay E
  unfold SeqAt.shaped
  rw [h3, decide_eq_true h2] <;> rfl
theorem tDs_plain : ∀ E : List Tr, PyData.plainAll (E.map tD) = true
  | [] => by simp [PyData.plainAll]
  | z :: zs => by
    have h := tDs_plain zs
    simp [PyData.plainAll, PyData.plain, tD, h]
/-! promises -/
def spIsThree (C : Addr) : Sp := fun vs H Q _ => ∃ (p d : Addr) (n a b c : Nat) (L : List Pr), vs = [.ref p, .int (a : Int), .int (b : Int), .int (c : Int)] ∧ HallAt C H p n d L ∧
  a < b ∧ b < c ∧ c < n ∧ ∀ H', Same H H' → Q (.bl (mono L a b c)) H'
def spThrees (C : Addr) : Sp := fun vs H Q _ => ∃ (p d : Addr) (n : Nat) (L : List Pr), vs = [.ref p] ∧ HallAt C H p n d L ∧
  ∀ H' l, Same H H' → H l = none → TripsAt H' l (threesL n L) → Q (.ref l) H'
/-- the law's own way, of a list of pairs -/
def spThreesL : Sp := fun vs H Q _ => ∃ (l : Addr) (n : Nat) (E : List Pr), vs = [.ref l, .int (n : Int)] ∧ PairsAt H l E ∧ WF n E ∧ n ≤ 20 ∧
  ∀ H' q, Same H H' → H q = none → TripsAt H' q (threesL n E) → Q (.ref q) H'
def spIsThreeL : Sp := fun vs H Q _ => ∃ (a l : Addr) (n : Nat) (E : List Pr) (t : Tr), vs = [.ref a, .ref l, .int (n : Int)] ∧ PairsAt H l E ∧ WF n E ∧ TripV H (.ref a) t ∧ t ∈ threesL n E ∧
  ∀ H', Same H H' → Q (.bl true) H'
/-- a new tuple t put behind the list at l -/
theorem trip_put {H0 H1 : Hp} {l t : Addr} {xs : List V} {E : List Tr} {x : Tr} (nl : H0 l = none) (s : Same H0 H1) (hl : H1 l = some (.lst xs)) (r : TripVs H1 xs E) (ht : H1 t = none) :
    Same H0 (upd (upd H1 t (.tup [.int (x.1 : Int), .int (x.2.1 : Int), .int (x.2.2 : Int)])) l (.lst (xs ++ [.ref t]))) ∧
    TripVs (upd (upd H1 t (.tup [.int (x.1 : Int), .int (x.2.1 : Int), .int (x.2.2 : Int)])) l (.lst (xs ++ [.ref t]))) (xs ++ [.ref t]) (E ++ [x]) := by
  have ntl : l ≠ t := ne_of_none hl ht
  refine ⟨fun b o e => ?_, TripVs.snoc (r.keep fun b ys e => ?_) ⟨t, rfl, ?_⟩⟩
  · have e2 := s b o e
    rw [upd_ne (ne_of_none e nl), upd_ne (ne_of_none e2 ht)]
    exact e2
  · rw [upd_ne (ne_of e hl (fun z => nomatch z)), upd_ne (ne_of_none e ht)]
    exact e
  · rw [upd_ne ntl.symm, upd_same]
end KT

/-! what is refused: marks of a caught error, and lists of ints and of truth values -/
namespace KT
open PySem PySem.Spec PyProof.Rows L2
/-! ### bundles -/
theorem MetD.weak {P : Program} {w : World} {K : PySem.W.Frag} {mg : Str → Option Value} {base : Heap} {C : Addr} {k : Nat} {m : Str} {sp : Sp}
    (d : MetD P w K mg base (L2N.CX P w) C k m sp) : MetD P w K mg base (L2.CX P w) C k m sp := by
  obtain ⟨f, fd, ps, F, r⟩ := d.ex
  exact ⟨f, fd, ps, FnOk_weak F, r⟩
theorem MakD.weak {P : Program} {w : World} {K : PySem.W.Frag} {mg : Str → Option Value} {base : Heap} {C : Addr} {k : Nat} {m : Str} {sp : Sp}
    (d : MakD P w K mg base (L2N.CX P w) C k m sp) : MakD P w K mg base (L2.CX P w) C k m sp := by
  obtain ⟨f, fd, ps, M, F, r⟩ := d.ex
  exact ⟨f, fd, ps, M, FnOk_weak F, r⟩
theorem CalD.weak {P : Program} {w : World} {K : PySem.W.Frag} {mg : Str → Option Value} {base : Heap} {k : Nat} {m : Str} {sp : Sp}
    (d : CalD P w K mg base (L2N.CX P w) k m sp) : CalD P w K mg base (L2.CX P w) k m sp := by
  obtain ⟨f, fd, ps, F, r⟩ := d.ex
  exact ⟨f, fd, ps, FnOk_weak F, r⟩
structure CalP (P : Program) (w : World) (K : PySem.W.Frag) (mg : Str → Option Value) (base : Heap) (k : Nat) (x : Str) (sp : Addr → Value → Option Addr → Sp) : Prop where
  ex : ∃ f fd ps, FnP P w K mg base k f fd ps sp ∧ Binds K fd ps [] ∧ mg x = some (.ref f) ∧ PySem.W.keepIn K (.ref f) = true
theorem pcP {X : Cx} {k j : Nat} {A : Around} {sp : Addr → Value → Option Addr → Sp} {x : Str} {q pos : Pos} {e : Expr} {es : List Expr} {t : TA} {p : Addr × Obj} {cls : Value} {d : Option Addr}
    (c : CalP X.prog X.w X.K X.mg X.base k x sp) (hr : Room j A) (ed : X.A.depth = A.depth) (eu : X.A.units = A.units) (hp : p ∈ X.pn) (hz : Zc cls d p.2) (hf : ∃ fv, p.2.data = .fields fv)
    (ha : PA X (e :: es) t) (hk : k ≤ j := by decide) (hg : Gl X x := by rfl) (hdb : (x == ("__debug__" : Str)) = false := by decide)
    (he : starEach (e :: es) X.env = (false, eval e X.env) :: starEach es X.env := by rfl) (hpl : (backTo pos (starEach es X.env)).any (·.1) = false := by rfl) :
    PE X (.Call (.Name x q) (e :: es) [] pos) (tCallP sp p.1 cls d t) := by
  obtain ⟨f, fd, ps, F, hb, hm, kp⟩ := c.ex
  have r1 := hr.mono hk
  exact pe_callP F ⟨by rw [ed]; exact r1.dp, by rw [eu]; exact r1.un⟩ hp hz hf hg hm kp hb ha hdb he hpl
/-! ### lists of ints, of truth values, as data -/
def iD (l : List Nat) : PyData := .list (l.map fun (i : Nat) => PyData.int (i : Int))
theorem iV_all {K : PySem.W.Frag} {H : Hp} : ∀ l : List Nat, DpAll K H (iV l) (l.map fun (i : Nat) => PyData.int (i : Int))
  | [] => .nil
  | i :: l => .cons (.int _) (iV_all l)
theorem iD_dp {K : PySem.W.Frag} {H : Hp} {a : Addr} {l : List Nat} (h : SqL K H a (iV l)) : Dp K H (.ref a) (iD l) := .lst h (iV_all l)
theorem iD_plain : ∀ l : List Nat, PyData.plainAll (l.map fun (i : Nat) => PyData.int (i : Int)) = true
  | [] => by simp [PyData.plainAll]
  | i :: l => by
    have h := iD_plain l
    simp [PyData.plainAll, PyData.plain, h]
theorem iD_shaped (l : List Nat) : SeqAt.shaped (iD l) = true := by
  have h1 : ∀ l : List Nat, PyData.canLayAll0 (l.map fun (i : Nat) => PyData.int (i : Int)) = true ∧ PyData.depthAll (l.map fun (i : Nat) => PyData.int (i : Int)) = 0 := by
    intro l
    induction l with
    | nil => exact ⟨by simp [PyData.canLayAll0], by simp [PyData.depthAll]⟩
    | cons i l ih => exact ⟨by simp [PyData.canLayAll0, PyData.canLay0, ih.1], by simp [PyData.depthAll, PyData.depth, ih.2]⟩
  obtain ⟨a, b⟩ := h1 l
  unfold SeqAt.shaped iD
  simp only [PyData.canLay0, PyData.depth, a, b]
  rfl
theorem iD_refl (l : List Nat) : PyData.eqv (iD l) (iD l) = true := SeqAt.eqv_refl_plain _ (by unfold iD; simp only [PyData.plain]; exact iD_plain l)
def bV (l : List Bool) : List V := l.map V.bl
def bD (l : List Bool) : PyData := .list (l.map PyData.bool)
theorem bV_all {K : PySem.W.Frag} {H : Hp} : ∀ l : List Bool, DpAll K H (bV l) (l.map PyData.bool)
  | [] => .nil
  | i :: l => .cons (.bl _) (bV_all l)
theorem bD_dp {K : PySem.W.Frag} {H : Hp} {a : Addr} {l : List Bool} (h : SqL K H a (bV l)) : Dp K H (.ref a) (bD l) := .lst h (bV_all l)
theorem bD_plain : ∀ l : List Bool, PyData.plainAll (l.map PyData.bool) = true
  | [] => by simp [PyData.plainAll]
  | i :: l => by
    have h := bD_plain l
    simp [PyData.plainAll, PyData.plain, h]
theorem bD_shaped (l : List Bool) : SeqAt.shaped (bD l) = true := by
  have h1 : ∀ l : List Bool, PyData.canLayAll0 (l.map PyData.bool) = true ∧ PyData.depthAll (l.map PyData.bool) = 0 := by
    intro l
    induction l with
    | nil => exact ⟨by simp [PyData.canLayAll0], by simp [PyData.depthAll]⟩
    | cons i l ih => exact ⟨by simp [PyData.canLayAll0, PyData.canLay0, ih.1], by simp [PyData.depthAll, PyData.depth, ih.2]⟩
  obtain ⟨a, b⟩ := h1 l
  unfold SeqAt.shaped bD
  simp only [PyData.canLay0, PyData.depth, a, b]
  rfl
theorem bD_refl (l : List Bool) : PyData.eqv (bD l) (bD l) = true := SeqAt.eqv_refl_plain _ (by unfold bD; simp only [PyData.plain]; exact bD_plain l)
theorem iV_flat : ∀ l : List Nat, (iV l).all flatV = true
  | [] => rfl
  | i :: l => iV_flat l
theorem inV_iV (o : Nat) : ∀ l : List Nat, inV (.int (o : Int)) (iV l) = decide (o ∈ l)
  | [] => by simp [inV, iV]
  | i :: l => by
    have ih := inV_iV o l
    have e : inV (.int (o : Int)) (iV (i :: l)) = (eqV (.int (i : Int)) (.int (o : Int)) || inV (.int (o : Int)) (iV l)) := rfl
    have e2 : eqV (.int (i : Int)) (.int (o : Int)) = ((i : Int) == (o : Int)) := rfl
    rw [e, e2, ih, Bool.eq_iff_iff]
    simp only [Bool.or_eq_true, beq_iff_eq, decide_eq_true_eq, List.mem_cons]
    constructor
    · rintro (h | h)
      · exact .inl (by omega)
      · exact .inr h
    · rintro (h | h)
      · exact .inl (by omega)
      · exact .inr h
/-! ### [k == m for k in range(7)] -/
def marksTo (m i : Nat) : List Bool := (List.range i).map fun k => decide (k = m)
def marks (m : Nat) : List Bool := marksTo m 7
def tMarks (m : Nat) : TE := fun _ H Q => ∀ D H', H D = none → Same H H' → H' D = some (.lst (bV (marks m))) → Q (.ref D) H'
theorem dec_nat (i m : Nat) : decide (V.int (i : Int) = V.int (m : Int)) = decide (i = m) := by
  rw [decide_eq_decide]
  constructor
  · intro h
    have := V.int.inj h
    omega
  · intro h
    rw [h]
theorem yes_ite {σ : L2.St} {H : Hp} {A B : Hp → Prop} (h : A H) : tYes σ H fun b H3 => if b = true then A H3 else B H3 := by
  show (if true = true then A H else B H)
  rw [if_pos rfl]
  exact h
theorem pe_imp {X : Cx} {e : Expr} {t t' : TE} (h : PE X e t) (i : ∀ σ H Q, t' σ H Q → t σ H Q) : PE X e t' := ⟨fun pins s σ H Q I q => h.run pins s σ H Q I (i σ H Q q)⟩
theorem pe_marks {X : Cx} {i m : Nat} {j j2 : Nat} {p1 p2 p3 p4 p5 p6 p7 pos : Pos} {scope : Scope} (hc : X.calm = true) (hN : X.N.Nodup) (hi : i < X.N.length) (hm : X.mg "range" = none) (hgr : Gl X "range")
    (ok : BlkOk X.N X.env.scope scope [("k", i)])
    (hg : ∀ (s : Shared) (H : Hp) (C : Addr) (cl : List (Str × Addr)) (fp : List Addr), PG (X.blk s H scope (compEnvC scope cl C X.env) fp) (.Name "k" p4) (gName i))
    (hv : ∀ (s : Shared) (H : Hp) (C : Addr) (cl : List (Str × Addr)) (fp : List Addr), PE (X.blk s H scope (compEnvC scope cl C X.env) fp) (.Name "k" p1) (tVar i)) :
    PE X (.ListComp (.Compare (.Name "k" p1) [.Eq] [.Constant (.int (m : Int)) j p2] p3) [⟨.Name "k" p4, .Call (.Name "range" p5) [.Constant (.int 7) j2 p6] [] p7, [], 0⟩] scope pos) (tMarks m) := by
  constructor
  intro pins s σ H Q I q
  have hl : σ.length = X.N.length := I.len
  refine (pe_lc (own := [("k", i)]) (g := gName i) (tt := tYes) (te := tOp rEq (tVar i) (tC (.int (m : Int)))) hc hN (pi_range1 hgr hm (pa_cons pe_int pa_nil)) ok hg (fun _ _ _ _ _ => pts_nil)
    (fun s H C cl fp => pe_cmpR op_eq (hv s H C cl fp) pe_int (nomark _))).run pins s σ H Q I ?_
  refine ⟨7, rfl, by decide, by decide, fun D hD => ?_⟩
  refine lc_range (lo := 0) (n := 7) (fun n H' => Same H H' ∧ H' D = some (.lst (bV (marksTo m n)))) ⟨same_new _ hD, upd_same⟩ ?_ (fun H1 h1 => q D H1 hD h1.1 h1.2)
  rintro n H1 hn ⟨s1, h1⟩
  rw [Int.zero_add]
  have hw : i < (wipe σ [i]).length := by rw [wipe_length, hl]; exact hi
  have e1 : (List.set (wipe σ [i]) i (some (V.int (n : Int))))[i]? = some (some (V.int (n : Int))) := List.getElem?_set_self hw
  have e2 : wipe (List.set (wipe σ [i]) i (some (V.int (n : Int)))) [i] = wipe σ [i] := by
    show List.set (List.set (List.set σ i none) i (some (V.int (n : Int)))) i none = List.set σ i none
    rw [List.set_set, List.set_set]
  refine ⟨e2, ?_⟩
  refine yes_ite ?_
  refine ⟨_, e1, rfl, _, h1, ?_, same_keepNew s1 hD (Keep.put D _), ?_⟩
  · unfold bV marksTo
    rw [List.length_map, List.length_map, List.length_range]
    exact Nat.lt_of_lt_of_le hn (by decide)
  · rw [upd_same, dec_nat]
    unfold bV marksTo
    rw [List.range_succ, List.map_append, List.map_append]
    rfl
/-! ### marks of a caught error -/
structure MarkT (K : PySem.W.Frag) (cNG cSG cKA cST cBH cNT cHE D : Addr) (m : Nat) : Prop where
  ex : ExcC K D
  i0 : PySem.W.kitOne K (.ref D) (.ref cNG) = some (decide (0 = m))
  i1 : PySem.W.kitOne K (.ref D) (.ref cSG) = some (decide (1 = m))
  i2 : PySem.W.kitOne K (.ref D) (.ref cKA) = some (decide (2 = m))
  i3 : PySem.W.kitOne K (.ref D) (.ref cST) = some (decide (3 = m))
  i4 : PySem.W.kitOne K (.ref D) (.ref cBH) = some (decide (4 = m))
  i5 : PySem.W.kitOne K (.ref D) (.ref cNT) = some (decide (5 = m))
  iV : PySem.W.kitOne K (.ref D) (.type "ValueError") = some true
  h : PySem.W.exmOne K (.ref D) (.ref cHE) = some true
  m5 : m ≤ 5
/-- _law_marks_of -/
def spMarks (K : PySem.W.Frag) (cNG cSG cKA cST cBH cNT cHE : Addr) : Addr → Value → Option Addr → Sp := fun a cls d vs H Q _ => ∃ (D : Addr) (m : Nat), vs = [.ref a] ∧ cls = .ref D ∧ d = none ∧ MarkT K cNG cSG cKA cST cBH cNT cHE D m ∧
  ∀ H' l, Same H H' → H l = none → H' l = some (.lst (bV (marks m))) → Q (.ref l) H'
/-- _law_numbers -/
def spNumbers : Sp := fun vs H Q _ => ∃ (a b : Addr) (l : List Nat), vs = [.ref a, .ref b] ∧ H a = some (.lst (iV l)) ∧ H b = some (.lst (iV l)) ∧ Q (.bl true) H
/-- _law_known of a dict, of a list -/
def spKnownD : Sp := fun vs H Q _ => ∃ (q : Addr) (n g : Nat) (E : List Pr), vs = [.ref q, .int (n : Int), .int (g : Int)] ∧ H q = some (.dT (kvs E)) ∧ WF n E ∧ n ≤ 20 ∧ g < n ∧
  ∀ H' l, Same H H' → H l = none → H' l = some (.lst (iV (others true n E g))) → Q (.ref l) H'
def spKnownL : Sp := fun vs H Q _ => ∃ (q : Addr) (n g : Nat) (E : List Pr), vs = [.ref q, .int (n : Int), .int (g : Int)] ∧ PairsAt H q E ∧ WF n E ∧ n ≤ 20 ∧ g < n ∧
  ∀ H' l, Same H H' → H l = none → H' l = some (.lst (iV (others true n E g))) → Q (.ref l) H'
/-- _law_same -/
def spSame (C : Addr) : Sp := fun vs H Q _ => ∃ (p l d : Addr) (n : Nat) (L E : List Pr), vs = [.ref p, .ref l, .int (n : Int)] ∧ HallAt C H p n d L ∧ PairsAt H l E ∧ WF n E ∧ Eqv L E ∧ ∀ H', Same H H' → Q (.bl true) H'
theorem oth_eqv {L E : List Pr} (h : Eqv L E) (k : Bool) (g : Nat) : oth k L g = oth k E g := by
  funext o
  unfold oth
  rw [decide_eq_decide.mpr (h (nrm g o))]
theorem others_eqv {L E : List Pr} (h : Eqv L E) (k : Bool) (n g : Nat) : others k n L g = others k n E g := by
  unfold others
  rw [oth_eqv h]
theorem oth_known {n : Nat} {E : List Pr} (wf : WF n E) (g o : Nat) : oth true E g o = decide (nrm g o ∈ E) := by
  rw [Bool.eq_iff_iff, oth_iff, decide_eq_true_eq]
  constructor
  · exact fun h => h.2
  · intro h
    refine ⟨fun e => ?_, h⟩
    have := (wf.2 _ h).1
    rw [e] at this
    exact absurd this (by show ¬ (min g g < max g g); omega)
end KT

/-! takes -/
namespace KT
open PySem PySem.Spec PyProof.Rows L2
theorem take_more {α : Type} {l : List α} {i : Nat} {x : α} (h : l[i]? = some x) : l.take (i + 1) = l.take i ++ [x] := by
  rw [List.take_add_one, h]
  rfl
theorem take_notin {α : Type} {l : List α} {i : Nat} {x : α} (nd : l.Nodup) (h : l[i]? = some x) : x ∉ l.take i := by
  have z : (l.take (i + 1)).Nodup := nd.sublist (List.take_sublist _ _)
  rw [take_more h] at z
  exact fun m => (List.pairwise_append.mp z).2.2 x m x (List.mem_singleton.mpr rfl) rfl
theorem hu65 {k : Nat} {A : Around} (hr : Room k A) : A.units + 65 < cLine := by
  have := hr.un
  omega
end KT

/-! the law's promise -/
namespace KT
open PySem PySem.Spec PyProof.Rows L2
def spLaw (K : PySem.W.Frag) : Sp := fun vs H Q _ => ∃ (a : Addr) (ns : List Int), vs = [.ref a] ∧ SqL K H a (ns.map V.int) ∧ ns.length ≤ 63 ∧ ∀ H', Q (.bl true) H'
theorem seq_keep {K : PySem.W.Frag} {D : List Addr} {H H1 H2 : Hp} {a : Addr} {xs : List V} (k : Keep D H1 H2) (s : Same H H1) (h : SqL K H a xs) (n : ∀ b ∈ D, H b = none) : SqL K H2 a xs := by
  rcases h with (h | ⟨o, h⟩) | h
  · exact .inl (.inl (k _ _ (fun m => by rw [n _ m] at h; cases h) (s _ _ h)))
  · exact .inl (.inr ⟨o, k _ _ (fun m => by rw [n _ m] at h; cases h) (s _ _ h)⟩)
  · exact .inr h
end KT

/-! several ways to one place: own rules -/
namespace KT
open PySem PySem.Spec PyProof.Rows L2
section
variable {X : Cx} {st : Stmt} {t : TS} {e : Expr} {te : TE}
def tJoin (t : TS) : TS := fun D σ H => ∃ R : L2.St → Hp → Prop, t { D with nx := R } σ H ∧ ∀ σ' H', R σ' H' → D.nx σ' H'
theorem ps_join (h : PS X st t) : PS X st (tJoin t) := by
  refine ⟨fun pins s σ H D I hw => ?_⟩
  obtain ⟨R, h1, h2⟩ := hw
  refine thn (h.run pins s σ H _ I h1) ?_
  intro f s' q
  cases f with
  | next =>
    obtain ⟨σ', H', I', r⟩ := q
    exact ⟨σ', H', I', h2 _ _ r⟩
  | brk => exact q
  | cont => exact q
  | ret u => exact q
def tJoinE (t : TE) : TE := fun σ H Q => ∃ R : VK, t σ H R ∧ ∀ v H', R v H' → Q v H'
theorem pe_jn (h : PE X e te) : PE X e (tJoinE te) := by
  refine ⟨fun pins s σ H Q I hw => ?_⟩
  obtain ⟨R, h1, h2⟩ := hw
  refine thn (h.run pins s σ H _ I h1) ?_
  rintro v s' ⟨x, H', I', r, q⟩
  exact ⟨x, H', I', r, h2 _ _ q⟩
end
end KT

/-! crowds: plain, promises -/
namespace KT
open PySem PySem.Spec PyProof.Rows L2
def okB (L : List Pr) (a b : Nat) : Bool := decide (a = b) || decide (nrm a b ∈ L)
def crowdB (L : List Pr) (gs : List Nat) : Bool := gs.all fun a => gs.all fun b => okB L a b
def crowdR (E : List Pr) (gs : List Nat) : Bool := gs.all fun a => gs.all fun b => !decide (a < b) || decide ((a, b) ∈ E)
theorem okB_iff {L : List Pr} {a b : Nat} : okB L a b = true ↔ a = b ∨ nrm a b ∈ L := by
  unfold okB
  rw [Bool.or_eq_true, decide_eq_true_eq, decide_eq_true_eq]
theorem crowdB_iff {L : List Pr} {gs : List Nat} : crowdB L gs = true ↔ ∀ a ∈ gs, ∀ b ∈ gs, a = b ∨ nrm a b ∈ L := by
  unfold crowdB
  simp only [List.all_eq_true, okB_iff]
theorem crowdR_iff {E : List Pr} {gs : List Nat} : crowdR E gs = true ↔ ∀ a ∈ gs, ∀ b ∈ gs, a < b → (a, b) ∈ E := by
  unfold crowdR
  simp only [List.all_eq_true, Bool.or_eq_true, Bool.not_eq_true', decide_eq_true_eq, decide_eq_false_iff_not]
  constructor
  · intro h a ha b hb c
    exact (h a ha b hb).resolve_left fun z => z c
  · intro h a ha b hb
    by_cases c : a < b
    · exact .inr (h a ha b hb c)
    · exact .inl c
theorem crowd_eq {L E : List Pr} (h : Eqv L E) (gs : List Nat) : crowdB L gs = crowdR E gs := by
  rw [Bool.eq_iff_iff, crowdB_iff, crowdR_iff]
  constructor
  · intro z a ha b hb c
    have y := (z a ha b hb).resolve_left (by omega)
    rw [nrm_lt c] at y
    exact (h _).mp y
  · intro z a ha b hb
    rcases Nat.lt_trichotomy a b with c | c | c
    · refine .inr ?_
      rw [nrm_lt c]
      exact (h _).mpr (z a ha b hb c)
    · exact .inl c
    · refine .inr ?_
      rw [nrm_comm, nrm_lt c]
      exact (h _).mpr (z b hb a ha c)
theorem iV_get {l : List Nat} {i : Nat} {v : V} (h : (iV l)[i]? = some v) : ∃ o : Nat, l[i]? = some o ∧ v = V.int (o : Int) := by
  unfold iV at h
  rw [List.getElem?_map] at h
  cases e : l[i]? with
  | none =>
    rw [e] at h
    cases h
  | some u =>
    rw [e] at h
    exact ⟨u, rfl, (Option.some.inj h).symm⟩
theorem iV_len (l : List Nat) : (iV l).length = l.length := by
  unfold iV
  rw [List.length_map]
theorem forall_take {α : Type} {l : List α} {i : Nat} {x : α} {p : α → Prop} (hx : l[i]? = some x) (h : ∀ a ∈ l.take i, p a) (hp : p x) : ∀ a ∈ l.take (i + 1), p a := by
  intro a ha
  rw [List.take_add_one, hx] at ha
  rcases List.mem_append.mp ha with ha | ha
  · exact h a ha
  · have : a = x := by simpa using ha
    rw [this]
    exact hp
def spIsCrowd (C cNG : Addr) : Sp := fun vs H Q E => ∃ (p l d : Addr) (n : Nat) (L : List Pr) (zs : List Int), vs = [.ref p, .ref l] ∧ HallAt C H p n d L ∧ H l = some (.lst (zs.map V.int)) ∧
  ((∃ z ∈ zs, ¬ isG n z) → E (.ref cNG) none H) ∧ (∀ gs : List Nat, zs.map V.int = iV gs → (∀ g ∈ gs, g < n) → ∀ H', Same H H' → Q (.bl (crowdB L gs)) H')
def spCrowdL : Sp := fun vs H Q _ => ∃ (l g : Addr) (n : Nat) (E : List Pr) (gs : List Nat), vs = [.ref l, .ref g] ∧ PairsAt H l E ∧ WF n E ∧ H g = some (.lst (iV gs)) ∧ ∀ H', Same H H' → Q (.bl (crowdR E gs)) H'
def spCrowdMarks (C : Addr) : Sp := fun vs H Q _ => ∃ (p l d : Addr) (n : Nat) (L : List Pr) (zs : List Int), vs = [.ref p, .ref l] ∧ HallAt C H p n d L ∧ H l = some (.lst (zs.map V.int)) ∧
  (∃ z ∈ zs, ¬ isG n z) ∧ ∀ H' m, Same H H' → H' m = some (.lst (bV (marks 0))) → Q (.ref m) H'
end KT

/-! a hall turned about: plain, promises -/
namespace KT
open PySem PySem.Spec PyProof.Rows L2
def cmpG (n : Nat) (L : List Pr) (i : Nat) : List Pr := ((others false n L i).filter fun j => decide (i < j)).map fun j => (i, j)
def cmpTo (n : Nat) (L : List Pr) (k : Nat) : List Pr := (List.range k).flatMap (cmpG n L)
def comp (n : Nat) (L : List Pr) : List Pr := cmpTo n L n
theorem mem_cmpG {n : Nat} {L : List Pr} {g i j : Nat} : (i, j) ∈ cmpG n L g ↔ i = g ∧ i < j ∧ j < n ∧ (i, j) ∉ L := by
  unfold cmpG others
  simp only [List.mem_map, List.mem_filter, List.mem_range, oth_iff, decide_eq_true_eq, decide_eq_false_iff_not]
  constructor
  · rintro ⟨a, ⟨⟨h1, h2, h3⟩, h4⟩, e⟩
    injection e with e1 e2
    subst e1
    subst e2
    rw [nrm_lt h4] at h3
    exact ⟨rfl, h4, h1, h3⟩
  · rintro ⟨rfl, h1, h2, h3⟩
    exact ⟨j, ⟨⟨h2, by omega, by rw [nrm_lt h1]; exact h3⟩, h1⟩, rfl⟩
theorem mem_cmpTo {n : Nat} {L : List Pr} {k i j : Nat} : (i, j) ∈ cmpTo n L k ↔ i < k ∧ i < j ∧ j < n ∧ (i, j) ∉ L := by
  unfold cmpTo
  rw [List.mem_flatMap]
  constructor
  · rintro ⟨g, hg, h⟩
    rw [List.mem_range] at hg
    obtain ⟨rfl, h2⟩ := mem_cmpG.mp h
    exact ⟨hg, h2⟩
  · rintro ⟨h1, h⟩
    exact ⟨i, List.mem_range.mpr h1, mem_cmpG.mpr ⟨rfl, h⟩⟩
theorem mem_comp {n : Nat} {L : List Pr} {i j : Nat} : (i, j) ∈ comp n L ↔ i < j ∧ j < n ∧ (i, j) ∉ L := by
  unfold comp
  rw [mem_cmpTo]
  constructor
  · exact fun h => h.2
  · exact fun h => ⟨by omega, h⟩
theorem comp_comp {n : Nat} {L : List Pr} (wf : WF n L) : Eqv (comp n (comp n L)) L := by
  rintro ⟨i, j⟩
  rw [mem_comp, mem_comp]
  constructor
  · rintro ⟨h1, h2, h3⟩
    by_cases m : (i, j) ∈ L
    · exact m
    · exact absurd ⟨h1, h2, m⟩ h3
  · intro m
    have h := wf.2 _ m
    exact ⟨h.1, h.2, fun z => z.2.2 m⟩
theorem flat_congr {α : Type} {f g : Nat → List α} : ∀ {k : Nat}, (∀ i, i < k → f i = g i) → (List.range k).flatMap f = (List.range k).flatMap g
  | 0, _ => rfl
  | k + 1, h => by rw [flat_step, flat_step, flat_congr (fun i hi => h i (by omega)), h k (by omega)]
theorem mono_comp {n : Nat} {L : List Pr} {a b c : Nat} (h1 : a < b) (h2 : b < c) (h3 : c < n) : mono (comp n L) a b c = mono L a b c := by
  have e : ∀ i j, i < j → j < n → decide (nrm i j ∈ comp n L) = !decide (nrm i j ∈ L) := by
    intro i j hij hj
    rw [nrm_lt hij, Bool.eq_iff_iff]
    simp only [decide_eq_true_eq, Bool.not_eq_true', decide_eq_false_iff_not, mem_comp]
    exact ⟨fun z => z.2.2, fun z => ⟨hij, hj, z⟩⟩
  unfold mono
  rw [e a b h1 (by omega), e a c (by omega) h3, e b c h2 h3]
  cases decide (nrm a b ∈ L) <;> cases decide (nrm a c ∈ L) <;> cases decide (nrm b c ∈ L) <;> rfl
theorem threes_comp (n : Nat) (L : List Pr) : threesL n (comp n L) = threesL n L := by
  unfold threesL th1
  refine flat_congr fun a ha => ?_
  unfold th2
  refine flat_congr fun i hi => ?_
  unfold th3
  refine flat_congr fun j hj => ?_
  rw [mono_comp (by omega) (by omega) (by omega)]
def spTurned (C : Addr) : Sp := fun vs H Q _ => ∃ (p d : Addr) (n : Nat) (L : List Pr), vs = [.ref p] ∧ HallAt C H p n d L ∧
  ∀ H' x d', Same H H' → H x = none → H d' = none → HallAt C H' x n d' (comp n L) → Q (.ref x) H'
end KT

/-! threes counted by acquaintances: the plain law -/
namespace KT
open PySem PySem.Spec PyProof.Rows L2
/-- sums over 0 .. n-1 -/
def sm (n : Nat) (f : Nat → Int) : Int := match n with
  | 0 => 0
  | k + 1 => sm k f + f k
theorem sm_congr {n : Nat} {f g : Nat → Int} (h : ∀ i, i < n → f i = g i) : sm n f = sm n g := by
  induction n with
  | zero => rfl
  | succ k ih =>
    show sm k f + f k = sm k g + g k
    rw [ih (fun i hi => h i (by omega)), h k (by omega)]
theorem sm_add (n : Nat) (f g : Nat → Int) : sm n (fun i => f i + g i) = sm n f + sm n g := by
  induction n with
  | zero => rfl
  | succ k ih =>
    show sm k (fun i => f i + g i) + (f k + g k) = (sm k f + f k) + (sm k g + g k)
    omega
theorem sm_zero (n : Nat) : sm n (fun _ => 0) = 0 := by
  induction n with
  | zero => rfl
  | succ k ih =>
    show sm k (fun _ => 0) + 0 = 0
    omega
theorem sm_mul (n : Nat) (c : Int) (f : Nat → Int) : sm n (fun i => c * f i) = c * sm n f := by
  induction n with
  | zero => exact (Int.mul_zero c).symm
  | succ k ih =>
    show sm k (fun i => c * f i) + c * f k = c * (sm k f + f k)
    rw [ih, Int.mul_add]
theorem sm_swap (n m : Nat) (f : Nat → Nat → Int) : sm n (fun i => sm m (fun j => f i j)) = sm m (fun j => sm n (fun i => f i j)) := by
  induction n with
  | zero => exact (sm_zero m).symm
  | succ k ih =>
    show sm k (fun i => sm m (fun j => f i j)) + sm m (fun j => f k j) = sm m (fun j => sm k (fun i => f i j) + f k j)
    rw [ih, sm_add]
theorem sm_cat (n m : Nat) (f : Nat → Int) : sm (n + m) f = sm n f + sm m (fun i => f (n + i)) := by
  induction m with
  | zero => exact (Int.add_zero _).symm
  | succ k ih =>
    show sm (n + k) f + f (n + k) = sm n f + (sm k (fun i => f (n + i)) + f (n + k))
    omega
/-- the upper part alone -/
theorem sm_up (n a : Nat) (f : Nat → Int) (ha : a < n) : sm (n - (a + 1)) (fun i => f (a + 1 + i)) = sm n (fun b => if a < b then f b else 0) := by
  have e : n = (a + 1) + (n - (a + 1)) := by omega
  have h := sm_cat (a + 1) (n - (a + 1)) (fun b => if a < b then f b else 0)
  rw [← e] at h
  rw [h, sm_congr (g := fun _ => 0) (n := a + 1) (fun i hi => if_neg (by omega)), sm_zero, sm_congr (n := n - (a + 1)) (f := fun i => if a < a + 1 + i then f (a + 1 + i) else 0) (g := fun i => f (a + 1 + i)) (fun i _ => if_pos (by omega))]
  omega
def ind (b : Bool) : Int := if b = true then 1 else 0
theorem len_flat {α : Type} (f : Nat → List α) (k : Nat) : (((List.range k).flatMap f).length : Int) = sm k fun i => ((f i).length : Int) := by
  induction k with
  | zero => rfl
  | succ k ih =>
    rw [flat_step, List.length_append]
    show _ = sm k (fun i => ((f i).length : Int)) + ((f k).length : Int)
    omega
theorem len_filt (f : Nat → Bool) (k : Nat) : (((List.range k).filter f).length : Int) = sm k fun i => ind (f i) := by
  induction k with
  | zero => rfl
  | succ k ih =>
    show _ = sm k (fun i => ind (f i)) + ind (f k)
    rw [List.range_succ, List.filter_append, List.length_append]
    cases e : f k with
    | true =>
      rw [List.filter_cons_of_pos e]
      show ((_ + 1 : Nat) : Int) = _ + 1
      omega
    | false =>
      rw [List.filter_cons_of_neg (by rw [e]; exact fun z => Bool.noConfusion z)]
      show ((_ + 0 : Nat) : Int) = _ + 0
      omega
/-- over all triples, over the rising ones -/
def s3 (n : Nat) (F : Nat → Nat → Nat → Int) : Int := sm n fun a => sm n fun b => sm n fun c => F a b c
def up (F : Nat → Nat → Nat → Int) (a b c : Nat) : Int := if a < b ∧ b < c then F a b c else 0
theorem s3_congr {n : Nat} {F G : Nat → Nat → Nat → Int} (h : ∀ a b c, a < n → b < n → c < n → F a b c = G a b c) : s3 n F = s3 n G :=
  sm_congr fun a ha => sm_congr fun b hb => sm_congr fun c hc => h a b c ha hb hc
theorem s3_add (n : Nat) (F G : Nat → Nat → Nat → Int) : s3 n (fun a b c => F a b c + G a b c) = s3 n F + s3 n G := by
  unfold s3
  simp only [sm_add]
theorem s3_mul (n : Nat) (k : Int) (F : Nat → Nat → Nat → Int) : s3 n (fun a b c => k * F a b c) = k * s3 n F := by
  unfold s3
  simp only [sm_mul]
theorem s3_bc (n : Nat) (F : Nat → Nat → Nat → Int) : s3 n F = s3 n (fun a b c => F a c b) := sm_congr fun a _ => sm_swap n n _
theorem s3_ab (n : Nat) (F : Nat → Nat → Nat → Int) : s3 n F = s3 n (fun a b c => F b a c) := sm_swap n n _
/-- what lies on three unlike alone is told on the rising ones -/
theorem s3_up (n : Nat) (F : Nat → Nat → Nat → Int) (h : ∀ a b c, a = b ∨ a = c ∨ b = c → F a b c = 0) :
    s3 n F = s3 n (up fun a b c => F a b c + F a c b + F b a c + F b c a + F c a b + F c b a) := by
  have e : s3 n F = s3 n (fun a b c => (if a < b ∧ b < c then F a b c else 0) + (if a < c ∧ c < b then F a b c else 0) + (if b < a ∧ a < c then F a b c else 0) + (if b < c ∧ c < a then F a b c else 0) + (if c < a ∧ a < b then F a b c else 0) + (if c < b ∧ b < a then F a b c else 0)) := by
    refine s3_congr fun a b c _ _ _ => ?_
    by_cases h1 : a = b ∨ a = c ∨ b = c
    · rw [h a b c h1]
      simp only [ite_self]
      rfl
    · rcases Nat.lt_trichotomy a b with x | x | x
      · rcases Nat.lt_trichotomy b c with y | y | y
        · rw [if_pos (show a < b ∧ b < c by omega), if_neg (by omega), if_neg (by omega), if_neg (by omega), if_neg (by omega), if_neg (by omega)]
          omega
        · exact absurd (by omega) h1
        · rcases Nat.lt_trichotomy a c with z | z | z
          · rw [if_neg (by omega), if_pos (show a < c ∧ c < b by omega), if_neg (by omega), if_neg (by omega), if_neg (by omega), if_neg (by omega)]
            omega
          · exact absurd (by omega) h1
          · rw [if_neg (by omega), if_neg (by omega), if_neg (by omega), if_neg (by omega), if_pos (show c < a ∧ a < b by omega), if_neg (by omega)]
            omega
      · exact absurd (by omega) h1
      · rcases Nat.lt_trichotomy a c with y | y | y
        · rw [if_neg (by omega), if_neg (by omega), if_pos (show b < a ∧ a < c by omega), if_neg (by omega), if_neg (by omega), if_neg (by omega)]
          omega
        · exact absurd (by omega) h1
        · rcases Nat.lt_trichotomy b c with z | z | z
          · rw [if_neg (by omega), if_neg (by omega), if_neg (by omega), if_pos (show b < c ∧ c < a by omega), if_neg (by omega), if_neg (by omega)]
            omega
          · exact absurd (by omega) h1
          · rw [if_neg (by omega), if_neg (by omega), if_neg (by omega), if_neg (by omega), if_neg (by omega), if_pos (show c < b ∧ b < a by omega)]
            omega
  rw [e]
  simp only [s3_add]
  have r2 : s3 n (fun a b c => if a < c ∧ c < b then F a b c else 0) = s3 n (up fun a b c => F a c b) := s3_bc n _
  have r3 : s3 n (fun a b c => if b < a ∧ a < c then F a b c else 0) = s3 n (up fun a b c => F b a c) := s3_ab n _
  have r4 : s3 n (fun a b c => if b < c ∧ c < a then F a b c else 0) = s3 n (up fun a b c => F c a b) := by
    rw [s3_ab, s3_bc]
    rfl
  have r5 : s3 n (fun a b c => if c < a ∧ a < b then F a b c else 0) = s3 n (up fun a b c => F b c a) := by
    rw [s3_bc, s3_ab]
    rfl
  have r6 : s3 n (fun a b c => if c < b ∧ b < a then F a b c else 0) = s3 n (up fun a b c => F c b a) := by
    rw [s3_ab, s3_bc, s3_ab]
    rfl
  have r0 : s3 n (up fun a b c => F a b c + F a c b + F b a c + F b c a + F c a b + F c b a) = s3 n (fun a b c => up F a b c + up (fun a b c => F a c b) a b c + up (fun a b c => F b a c) a b c + up (fun a b c => F b c a) a b c + up (fun a b c => F c a b) a b c + up (fun a b c => F c b a) a b c) := by
    refine s3_congr fun a b c _ _ _ => ?_
    unfold up
    by_cases k : a < b ∧ b < c
    · simp only [if_pos k]
    · simp only [if_neg k]
      rfl
  rw [r2, r3, r4, r5, r6, r0]
  simp only [s3_add]
  have r1 : s3 n (fun a b c => if a < b ∧ b < c then F a b c else 0) = s3 n (up F) := rfl
  rw [r1]
  omega
/-! the threes -/
theorem threes_sum (n : Nat) (L : List Pr) : ((threesL n L).length : Int) = s3 n (up fun a b c => ind (mono L a b c)) := by
  unfold threesL th1
  rw [len_flat]
  refine sm_congr fun a ha => ?_
  unfold th2
  rw [len_flat]
  have h1 := sm_up n a (fun b => ((th3 L a b (n - (b + 1))).length : Int)) ha
  refine h1.trans (sm_congr fun b hb => ?_)
  by_cases hab : a < b
  · rw [if_pos hab]
    unfold th3
    rw [len_flat]
    have h2 := sm_up n b (fun c => (((if mono L a b c = true then [(a, b, c)] else [] : List Tr)).length : Int)) hb
    refine h2.trans (sm_congr fun c hc => ?_)
    by_cases hbc : b < c
    · rw [if_pos hbc, show up (fun a b c => ind (mono L a b c)) a b c = ind (mono L a b c) from if_pos ⟨hab, hbc⟩]
      unfold ind
      by_cases m : mono L a b c = true
      · rw [if_pos m, if_pos m]
        rfl
      · rw [if_neg m, if_neg m]
        rfl
    · rw [if_neg hbc, show up (fun a b c => ind (mono L a b c)) a b c = 0 from if_neg (fun z => hbc z.2)]
  · rw [if_neg hab]
    refine Eq.symm ((sm_congr fun c _ => ?_).trans (sm_zero n))
    exact if_neg fun z => hab z.1
theorem count3 : ∀ n : Nat, n ≤ 20 → 6 * s3 n (up fun _ _ _ => 1) = (n : Int) * ((n : Int) - 1) * ((n : Int) - 2) := by
  have h : ∀ n : Fin 21, 6 * s3 n.val (up fun _ _ _ => 1) = (n.val : Int) * ((n.val : Int) - 1) * ((n.val : Int) - 2) := by decide +kernel
  intro n hn
  exact h ⟨n, by omega⟩
theorem div6 : ∀ n : Nat, n ≤ 20 → ((n : Int) * ((n : Int) - 1) * ((n : Int) - 2)) % 6 = 0 := by
  have h : ∀ n : Fin 21, ((n.val : Int) * ((n.val : Int) - 1) * ((n.val : Int) - 2)) % 6 = 0 := by decide +kernel
  intro n hn
  exact h ⟨n, by omega⟩
/-! whom each knows -/
def deg (n : Nat) (L : List Pr) (g : Nat) : Nat := (others true n L g).length
def mixt (n : Nat) (L : List Pr) (k : Nat) : Int := sm k fun g => (deg n L g : Int) * ((n : Int) - 1 - (deg n L g : Int))
theorem deg_lt {n g : Nat} (hg : g < n) (L : List Pr) : deg n L g + (others false n L g).length = n - 1 := by
  have h : ((deg n L g + (others false n L g).length : Nat) : Int) = ((n - 1 : Nat) : Int) := by
    unfold deg others
    rw [Int.natCast_add, len_filt, len_filt, ← sm_add]
    have e : sm n (fun i => ind (oth true L g i) + ind (oth false L g i)) = sm n (fun i => 1 + (-1) * ind (decide (i = g))) := by
      refine sm_congr fun i hi => ?_
      unfold oth ind
      by_cases c : i = g
      · simp [c]
      · by_cases d : nrm g i ∈ L <;> simp [c, d]
    rw [e, sm_add, sm_mul]
    have e1 : ∀ k : Nat, sm k (fun _ => 1) = (k : Int) := fun k => by
      induction k with
      | zero => rfl
      | succ k ih =>
        show sm k (fun _ => 1) + 1 = _
        omega
    have e2 : ∀ k : Nat, sm k (fun i => ind (decide (i = g))) = if g < k then 1 else 0 := fun k => by
      induction k with
      | zero => rfl
      | succ k ih =>
        show sm k (fun i => ind (decide (i = g))) + ind (decide (k = g)) = _
        rw [ih]
        unfold ind
        by_cases c : k = g
        · rw [if_neg (by omega), if_pos (by simp [c]), if_pos (by omega)]
          rfl
        · rw [if_neg (show ¬ decide (k = g) = true by simp [c])]
          by_cases d : g < k
          · rw [if_pos d, if_pos (by omega)]
            rfl
          · rw [if_neg d, if_neg (by omega)]
            rfl
    rw [e1, e2, if_pos hg]
    omega
  omega
def wF (L : List Pr) (g i j : Nat) : Int := ind (oth true L g i) * ind (oth false L g j)
theorem mixt_sum (n : Nat) (L : List Pr) : mixt n L n = s3 n (wF L) := by
  refine sm_congr fun g hg => ?_
  have h := deg_lt hg L
  have e : (n : Int) - 1 - (deg n L g : Int) = ((others false n L g).length : Int) := by omega
  rw [e]
  show ((others true n L g).length : Int) * _ = sm n fun i => sm n fun j => wF L g i j
  unfold others
  rw [len_filt, len_filt]
  unfold wF
  simp only [sm_mul]
  rw [Int.mul_comm, ← sm_mul]
  exact sm_congr fun i _ => Int.mul_comm _ _
theorem w_six {L : List Pr} {a b c : Nat} (h1 : a < b) (h2 : b < c) : wF L a b c + wF L a c b + wF L b a c + wF L b c a + wF L c a b + wF L c b a = 2 + (-2) * ind (mono L a b c) := by
  have e1 : nrm b a = nrm a b := by unfold nrm; rw [Nat.min_comm, Nat.max_comm]
  have e2 : nrm c a = nrm a c := by unfold nrm; rw [Nat.min_comm, Nat.max_comm]
  have e3 : nrm c b = nrm b c := by unfold nrm; rw [Nat.min_comm, Nat.max_comm]
  unfold wF oth mono
  rw [e1, e2, e3]
  generalize decide (nrm a b ∈ L) = x
  generalize decide (nrm a c ∈ L) = y
  generalize decide (nrm b c ∈ L) = z
  have n1 : decide (b ≠ a) = true := decide_eq_true (by omega)
  have n2 : decide (c ≠ a) = true := decide_eq_true (by omega)
  have n3 : decide (a ≠ b) = true := decide_eq_true (by omega)
  have n4 : decide (c ≠ b) = true := decide_eq_true (by omega)
  have n5 : decide (a ≠ c) = true := decide_eq_true (by omega)
  have n6 : decide (b ≠ c) = true := decide_eq_true (by omega)
  rw [n1, n2, n3, n4, n5, n6]
  cases x <;> cases y <;> cases z <;> rfl
theorem goodman {n : Nat} (hn : n ≤ 20) (L : List Pr) : 6 * ((threesL n L).length : Int) = (n : Int) * ((n : Int) - 1) * ((n : Int) - 2) - 3 * mixt n L n := by
  rw [mixt_sum, s3_up n (wF L), ← count3 n hn, threes_sum]
  · have e : s3 n (up fun a b c => wF L a b c + wF L a c b + wF L b a c + wF L b c a + wF L c a b + wF L c b a) = s3 n (fun a b c => 2 * up (fun _ _ _ => 1) a b c + (-2) * up (fun a b c => ind (mono L a b c)) a b c) := by
      refine s3_congr fun a b c _ _ _ => ?_
      by_cases k : a < b ∧ b < c
      · have w := w_six (L := L) k.1 k.2
        unfold up
        simp only [if_pos k]
        omega
      · unfold up
        simp only [if_neg k]
        rfl
    rw [e, s3_add, s3_mul, s3_mul]
    omega
  · intro a b c h
    unfold wF oth ind
    rcases h with rfl | rfl | rfl
    · simp
    · simp
    · by_cases d : nrm a b ∈ L <;> simp [d]
theorem mixt_even {n : Nat} (hn : n ≤ 20) (L : List Pr) : mixt n L n % 2 = 0 := by
  have h1 := goodman hn L
  have h2 := div6 n hn
  omega
/-- what is reckoned -/
theorem how_many_eq {n : Nat} (hn : n ≤ 20) (L : List Pr) : (n : Int) * ((n : Int) - 1) * ((n : Int) - 2) / 6 - mixt n L n / 2 = ((threesL n L).length : Int) := by
  have h1 := goodman hn L
  have h2 := div6 n hn
  have h3 := mixt_even hn L
  omega
theorem mixt_le {n : Nat} (hn : n ≤ 20) (L : List Pr) : ∀ k, k ≤ n → 0 ≤ mixt n L k ∧ mixt n L k ≤ 400 * (k : Int)
  | 0, _ => ⟨Int.le_refl _, Int.le_refl _⟩
  | k + 1, hk => by
    obtain ⟨h1, h2⟩ := mixt_le hn L k (by omega)
    have h3 := deg_lt (show k < n by omega) L
    have e : mixt n L (k + 1) = mixt n L k + (deg n L k : Int) * ((n : Int) - 1 - (deg n L k : Int)) := rfl
    obtain ⟨x, hx⟩ : ∃ x : Nat, (n : Int) - 1 - (deg n L k : Int) = (x : Int) := ⟨n - 1 - deg n L k, by omega⟩
    have hx2 : x ≤ 20 := by omega
    have hd : deg n L k ≤ 20 := by omega
    have p1 : deg n L k * x ≤ 20 * 20 := Nat.mul_le_mul hd hx2
    rw [e, hx, ← Int.natCast_mul]
    omega
theorem deg_eqv {L E : List Pr} (h : Eqv L E) (n g : Nat) : (others true n L g).length = (others true n E g).length := by
  unfold others oth
  have e : (fun o => decide (o ≠ g) && (decide (nrm g o ∈ L) == true)) = fun o => decide (o ≠ g) && (decide (nrm g o ∈ E) == true) := by
    funext o
    rw [decide_eq_decide.mpr (h (nrm g o))]
  rw [e]
/-- how_many -/
def spHowMany (C : Addr) : Sp := fun vs H Q _ => ∃ (p d : Addr) (n : Nat) (L : List Pr), vs = [.ref p] ∧ HallAt C H p n d L ∧
  ∀ H', Same H H' → Q (.int ((threesL n L).length : Int)) H'
end KT

/-! halls as texts: plain, promises -/
namespace KT
open PySem PySem.Spec PyProof.Rows L2
/-- a list of signs cut at each c -/
def cutC (c : Nat) : List Nat → List (List Nat)
  | [] => [[]]
  | x :: t => if x = c then [] :: cutC c t else match cutC c t with
    | [] => [[x]]
    | p :: ps => (x :: p) :: ps
theorem cutC_ne (c : Nat) : ∀ t, cutC c t ≠ []
  | [] => by simp [cutC]
  | x :: t => by
    unfold cutC
    split
    · simp
    · split <;> simp
theorem cutC_hit (c : Nat) (t : List Nat) : cutC c (c :: t) = [] :: cutC c t := by
  show (if c = c then _ else _) = _
  rw [if_pos rfl]
theorem cutC_miss {c x : Nat} (h : x ≠ c) {t p : List Nat} {ps : List (List Nat)} (e : cutC c t = p :: ps) : cutC c (x :: t) = (x :: p) :: ps := by
  show (if x = c then _ else match cutC c t with
    | [] => [[x]]
    | p :: ps => (x :: p) :: ps) = _
  rw [if_neg h, e]
theorem cutC_free {c : Nat} : ∀ (t : List Nat), ∀ p ∈ cutC c t, c ∉ p
  | [], p, hp => by
    rw [List.mem_singleton.mp hp]
    simp
  | x :: t, p, hp => by
    by_cases h : x = c
    · subst h
      rw [cutC_hit] at hp
      rcases List.mem_cons.mp hp with e | hp
      · rw [e]
        simp
      · exact cutC_free t p hp
    · obtain ⟨q, qs, e⟩ := List.exists_cons_of_ne_nil (cutC_ne c t)
      rw [cutC_miss h e] at hp
      have ih := cutC_free (c := c) t
      rw [e] at ih
      rcases List.mem_cons.mp hp with e2 | hp
      · rw [e2]
        intro m
        rcases List.mem_cons.mp m with e3 | m
        · exact h e3.symm
        · exact ih q List.mem_cons_self m
      · exact ih p (List.mem_cons_of_mem _ hp)
theorem cutC_join {c : Nat} : ∀ t : List Nat, TL.joinL [c] (cutC c t) = t
  | [] => rfl
  | x :: t => by
    obtain ⟨q, qs, e⟩ := List.exists_cons_of_ne_nil (cutC_ne c t)
    have ih := cutC_join (c := c) t
    rw [e] at ih
    by_cases h : x = c
    · subst h
      rw [cutC_hit, e]
      show [] ++ ([x] ++ TL.joinL [x] (q :: qs)) = x :: t
      rw [ih]
      rfl
    · rw [cutC_miss h e]
      cases qs with
      | nil =>
        show x :: q = x :: t
        have ih : q = t := ih
        rw [ih]
      | cons r rs =>
        show x :: (q ++ ([c] ++ TL.joinL [c] (r :: rs))) = x :: t
        have ih : q ++ ([c] ++ TL.joinL [c] (r :: rs)) = t := ih
        rw [ih]
theorem spl_cut (c : Nat) (t : List Nat) : TL.spl [c] 0 [] t = cutC c t := by
  have h := TL.spl_join (s := c) (S := []) (cutC_ne c t) (cutC_free t)
  rw [cutC_join] at h
  exact h
theorem split_cut {c : Nat} (hc : c < 256) (t : List Nat) : Txt.split (SX.S t) (SX.S [c]) = (cutC c t).map SX.S := by
  rw [SX.split_S (by simp) (by simp [hc]), spl_cut]
theorem cutC_len (c : Nat) : ∀ t : List Nat, (cutC c t).length ≤ t.length + 1
  | [] => Nat.le_refl _
  | x :: t => by
    have ih := cutC_len c t
    by_cases h : x = c
    · subst h
      rw [cutC_hit, List.length_cons, List.length_cons]
      omega
    · obtain ⟨q, qs, e⟩ := List.exists_cons_of_ne_nil (cutC_ne c t)
      rw [cutC_miss h e, List.length_cons, List.length_cons]
      rw [e, List.length_cons] at ih
      omega
theorem cutC_part {c : Nat} : ∀ (t p : List Nat), p ∈ cutC c t → p.length ≤ t.length
  | [], p, hp => by
    rw [List.mem_singleton.mp hp]
    exact Nat.le_refl _
  | x :: t, p, hp => by
    by_cases h : x = c
    · subst h
      rw [cutC_hit] at hp
      rcases List.mem_cons.mp hp with e | hp
      · rw [e]
        exact Nat.zero_le _
      · have := cutC_part t p hp
        rw [List.length_cons]
        omega
    · obtain ⟨q, qs, e⟩ := List.exists_cons_of_ne_nil (cutC_ne c t)
      rw [cutC_miss h e] at hp
      have ih := cutC_part (c := c) t
      rw [e] at ih
      rcases List.mem_cons.mp hp with e2 | hp
      · have := ih q List.mem_cons_self
        rw [e2, List.length_cons, List.length_cons]
        omega
      · have := ih p (List.mem_cons_of_mem _ hp)
        rw [List.length_cons]
        omega
/-- parts without c, joined, cut -/
theorem cut_joined {c : Nat} {parts : List (List Nat)} (hne : parts ≠ []) (h : ∀ p ∈ parts, c ∉ p) : cutC c (TL.joinL [c] parts) = parts := by
  rw [← spl_cut]
  exact TL.spl_join hne h
/-- a text with c behind its end -/
theorem cut_end (c : Nat) : ∀ t : List Nat, cutC c (t ++ [c]) = cutC c t ++ [[]]
  | [] => by
    show cutC c [c] = _
    rw [cutC_hit]
    rfl
  | x :: t => by
    have ih := cut_end c t
    by_cases h : x = c
    · subst h
      rw [List.cons_append, cutC_hit, cutC_hit, ih]
      rfl
    · obtain ⟨q, qs, e⟩ := List.exists_cons_of_ne_nil (cutC_ne c t)
      rw [e] at ih
      rw [List.cons_append, cutC_miss h ih, cutC_miss h e]
      rfl
/-- the last part is empty at a c alone -/
theorem cut_last {c : Nat} : ∀ {t : List Nat} {pre : List (List Nat)}, cutC c t = pre ++ [[]] → t = [] ∨ ∃ t', t = t' ++ [c]
  | [], _, _ => .inl rfl
  | x :: t, pre, h => by
    refine .inr ?_
    obtain ⟨q, qs, e⟩ := List.exists_cons_of_ne_nil (cutC_ne c t)
    by_cases hx : x = c
    · subst hx
      rw [cutC_hit] at h
      cases pre with
      | nil =>
        injection h with _ h
        exact absurd h (cutC_ne x t)
      | cons p pre =>
        injection h with _ h
        rcases cut_last h with rfl | ⟨t', rfl⟩
        · exact ⟨[], rfl⟩
        · exact ⟨x :: t', rfl⟩
    · rw [cutC_miss hx e] at h
      cases pre with
      | nil =>
        injection h with h _
        cases h
      | cons p pre =>
        injection h with h1 h2
        have e2 : cutC c t = (q :: pre) ++ [[]] := by rw [e, h2]; rfl
        rcases cut_last e2 with rfl | ⟨t', rfl⟩
        · rw [show cutC c [] = [[]] from rfl] at e2
          injection e2 with _ e2
          exact absurd e2 (by simp)
        · exact ⟨x :: t', rfl⟩
/-! numbers -/
def numF (w : List Nat) : Option Nat :=
  if w.length = 0 ∨ 2 < w.length ∨ (w.head? = some 48 ∧ 1 < w.length) then none
  else if w.all (fun c => decide (48 ≤ c) && decide (c ≤ 57)) = true then some (NumText.digitsVal w) else none
theorem numF_num : ∀ n : Nat, n < 100 → numF (TL.numL n) = some n := by
  intro n hn
  have h : ∀ n : Fin 100, (if n.val < 10 then [48 + n.val] else [48 + n.val / 10, 48 + n.val % 10]).length ≠ 0 ∧ numF (if n.val < 10 then [48 + n.val] else [48 + n.val / 10, 48 + n.val % 10]) = some n.val := by decide +kernel
  have e : TL.numL n = if n < 10 then [48 + n] else [48 + n / 10, 48 + n % 10] := by
    by_cases c : n < 10
    · rw [if_pos c, TL.numL_lt c]
    · rw [if_neg c, TL.numL_step (by omega), TL.numL_lt (by omega)]
      rfl
  rw [e]
  exact (h ⟨n, hn⟩).2
theorem numL_short {n : Nat} (h : n < 100) : (TL.numL n).length ≤ 2 := TL.numL_len (k := 2) (by decide) h
/-! lines -/
def guestsC : List Nat := [103, 117, 101, 115, 116, 115]
def lineC (p : Pr) : List Nat := TL.numL p.1 ++ ([32] ++ TL.numL p.2)
def headC (n : Nat) : List Nat := guestsC ++ ([32] ++ TL.numL n)
def linesC (n : Nat) (E : List Pr) : List (List Nat) := headC n :: E.map lineC
def textC (n : Nat) (E : List Pr) : List Nat := (linesC n E).flatMap fun l => l ++ [10]
def pairF (n : Nat) (L : List Pr) (line : List Nat) : Option Pr := match cutC 32 line with
  | [a, b] => match numF a, numF b with
    | some i, some j => if i < j ∧ j < n ∧ (i, j) ∉ L then some (i, j) else none
    | _, _ => none
  | _ => none
def pairsF (n : Nat) (L : List Pr) : List (List Nat) → Option (Nat × List Pr)
  | [] => some (n, L)
  | line :: r => match pairF n L line with
    | some p => pairsF n (L ++ [p]) r
    | none => none
def headF (line : List Nat) : Option Nat := match cutC 32 line with
  | [g, w] => if g = guestsC then match numF w with
    | some n => if 1 ≤ n ∧ n ≤ 20 then some n else none
    | none => none
    else none
  | _ => none
def dueF (lines : List (List Nat)) : Option (Nat × List Pr) := match headF (lines.headD []) with
  | some n => pairsF n [] lines.tail
  | none => none
def readF (t : List Nat) : Option (Nat × List Pr) := if t.getLast? = some 10 then dueF (cutC 10 t.dropLast) else none
theorem cut_two {a b : List Nat} (ha : 32 ∉ a) (hb : 32 ∉ b) : cutC 32 (a ++ ([32] ++ b)) = [a, b] :=
  cut_joined (c := 32) (parts := [a, b]) (by simp) (fun p hp => by
    simp only [List.mem_cons, List.not_mem_nil, or_false] at hp
    rcases hp with rfl | rfl
    · exact ha
    · exact hb)
theorem numL_no (n : Nat) {c : Nat} (h : c < 48) : c ∉ TL.numL n := TL.numL_free (.inl h)
theorem headF_head {n : Nat} (h1 : 1 ≤ n) (h2 : n ≤ 20) : headF (headC n) = some n := by
  unfold headF headC
  rw [cut_two (by decide) (numL_no n (by decide))]
  simp only [if_true]
  rw [numF_num n (by omega)]
  simp only
  rw [if_pos ⟨h1, h2⟩]
theorem pairF_line {n : Nat} {L : List Pr} {p : Pr} (hn : n ≤ 20) (h1 : p.1 < p.2) (h2 : p.2 < n) (nin : p ∉ L) : pairF n L (lineC p) = some p := by
  unfold pairF lineC
  rw [cut_two (numL_no _ (by decide)) (numL_no _ (by decide))]
  simp only
  rw [numF_num _ (by omega), numF_num _ (by omega)]
  simp only
  rw [if_pos ⟨h1, h2, nin⟩]
theorem pairsF_lines {n : Nat} (hn : n ≤ 20) : ∀ (E L : List Pr), WF n (L ++ E) → pairsF n L (E.map lineC) = some (n, L ++ E)
  | [], L, _ => by
    rw [List.append_nil]
    rfl
  | p :: E, L, wf => by
    have hp := wf.2 p (by simp)
    have nin : p ∉ L := fun m => (List.pairwise_append.mp wf.1).2.2 p m p List.mem_cons_self rfl
    show (match pairF n L (lineC p) with
      | some p => pairsF n (L ++ [p]) (E.map lineC)
      | none => none) = _
    rw [pairF_line hn hp.1 hp.2 nin]
    simp only
    have ih := pairsF_lines hn E (L ++ [p]) (by rw [List.append_assoc]; exact wf)
    rw [ih, List.append_assoc]
    rfl
theorem flat_join : ∀ (ls : List (List Nat)), ls ≠ [] → ls.flatMap (fun l => l ++ [10]) = TL.joinL [10] ls ++ [10]
  | [], h => absurd rfl h
  | [p], _ => by simp [TL.joinL]
  | p :: q :: r, _ => by
    rw [List.flatMap_cons, flat_join (q :: r) (by simp)]
    show p ++ [10] ++ (TL.joinL [10] (q :: r) ++ [10]) = (p ++ ([10] ++ TL.joinL [10] (q :: r))) ++ [10]
    simp only [List.append_assoc]
theorem lineC_no10 (p : Pr) : 10 ∉ lineC p := by
  unfold lineC
  rw [List.mem_append, List.mem_append]
  rintro (h | h | h)
  · exact numL_no _ (by decide) h
  · simp at h
  · exact numL_no _ (by decide) h
theorem headC_no10 (n : Nat) : 10 ∉ headC n := by
  unfold headC
  rw [List.mem_append, List.mem_append]
  rintro (h | h | h)
  · revert h
    decide
  · simp at h
  · exact numL_no _ (by decide) h
theorem read_text {n : Nat} {E : List Pr} (h1 : 1 ≤ n) (h2 : n ≤ 20) (wf : WF n E) : readF (textC n E) = some (n, E) := by
  unfold readF textC
  rw [flat_join _ (by unfold linesC; simp), List.getLast?_concat, if_pos rfl, List.dropLast_concat, cut_joined (by unfold linesC; simp) (fun p hp => by
    unfold linesC at hp
    rcases List.mem_cons.mp hp with rfl | hp
    · exact headC_no10 n
    · obtain ⟨q, _, rfl⟩ := List.mem_map.mp hp
      exact lineC_no10 q)]
  unfold dueF linesC
  simp only [List.headD_cons, List.tail_cons]
  rw [headF_head h1 h2]
  simp only
  exact pairsF_lines h2 E [] wf
/-! what is met -/
theorem pairF_ok {n : Nat} {L : List Pr} {line : List Nat} {p : Pr} (h : pairF n L line = some p) : ∃ a b, cutC 32 line = [a, b] ∧ numF a = some p.1 ∧ numF b = some p.2 ∧ p.1 < p.2 ∧ p.2 < n ∧ p ∉ L := by
  unfold pairF at h
  split at h
  · rename_i a b e
    split at h
    · rename_i i j e1 e2
      split at h
      · rename_i c
        injection h with h
        subst h
        exact ⟨a, b, e, e1, e2, c.1, c.2.1, c.2.2⟩
      · cases h
    · cases h
  · cases h
theorem pairF_of {n : Nat} {L : List Pr} {line a b : List Nat} {i j : Nat} (e : cutC 32 line = [a, b]) (ha : numF a = some i) (hb : numF b = some j) : pairF n L line = if i < j ∧ j < n ∧ (i, j) ∉ L then some (i, j) else none := by
  unfold pairF
  rw [e]
  simp only
  rw [ha, hb]
theorem pairF_words {n : Nat} {L : List Pr} {line : List Nat} (h : (cutC 32 line).length ≠ 2) : pairF n L line = none := by
  unfold pairF
  split
  · rename_i e
    rw [e] at h
    exact absurd rfl h
  · rfl
theorem pairF_a {n : Nat} {L : List Pr} {line a b : List Nat} (e : cutC 32 line = [a, b]) (ha : numF a = none) : pairF n L line = none := by
  unfold pairF
  rw [e]
  simp only
  rw [ha]
theorem pairF_b {n : Nat} {L : List Pr} {line a b : List Nat} (e : cutC 32 line = [a, b]) (hb : numF b = none) : pairF n L line = none := by
  unfold pairF
  rw [e]
  simp only
  rw [hb]
  split <;> first | rfl | contradiction
theorem numF_lt {w : List Nat} {v : Nat} (h : numF w = some v) : v < 100 ∧ w ≠ [] ∧ w.length ≤ 2 := by
  unfold numF at h
  split at h
  · cases h
  · rename_i c
    split at h
    · rename_i d
      injection h with h
      have d := List.all_eq_true.mp d
      match w, c with
      | [], c => exact absurd (.inl rfl) c
      | [x], _ =>
        have hx := d x (by simp)
        simp only [Bool.and_eq_true, decide_eq_true_eq] at hx
        refine ⟨?_, by simp, by simp⟩
        rw [← h]
        simp only [NumText.digitsVal, List.foldl_cons, List.foldl_nil]
        omega
      | [x, y], _ =>
        have hx := d x (by simp)
        have hy := d y (by simp)
        simp only [Bool.and_eq_true, decide_eq_true_eq] at hx hy
        refine ⟨?_, by simp, by simp⟩
        rw [← h]
        simp only [NumText.digitsVal, List.foldl_cons, List.foldl_nil]
        omega
      | x :: y :: z :: r, c => exact absurd (.inr (.inl (by simp))) c
    · cases h
end KT

/-! halls as texts: the order of the lines, promises, a loop over a text -/
namespace KT
open PySem PySem.Spec PyProof.Rows L2
/-- the pairs in the order in which they are shown -/
def edgeG (n : Nat) (L : List Pr) (i : Nat) : List Pr := ((others true n L i).filter fun j => decide (i < j)).map fun j => (i, j)
def edgeTo (n : Nat) (L : List Pr) (k : Nat) : List Pr := (List.range k).flatMap (edgeG n L)
def edgeL (n : Nat) (L : List Pr) : List Pr := edgeTo n L n
theorem edgeTo_step (n : Nat) (L : List Pr) (k : Nat) : edgeTo n L (k + 1) = edgeTo n L k ++ edgeG n L k := flat_step _ _
theorem mem_edgeG {n : Nat} {L : List Pr} {g i j : Nat} : (i, j) ∈ edgeG n L g ↔ i = g ∧ i < j ∧ j < n ∧ (i, j) ∈ L := by
  unfold edgeG others
  simp only [List.mem_map, List.mem_filter, List.mem_range, oth_iff, decide_eq_true_eq]
  constructor
  · rintro ⟨a, ⟨⟨h1, h2, h3⟩, h4⟩, e⟩
    injection e with e1 e2
    subst e1
    subst e2
    rw [nrm_lt h4] at h3
    exact ⟨rfl, h4, h1, h3⟩
  · rintro ⟨rfl, h1, h2, h3⟩
    exact ⟨j, ⟨⟨h2, by omega, by rw [nrm_lt h1]; exact h3⟩, h1⟩, rfl⟩
theorem mem_edgeTo {n : Nat} {L : List Pr} {k i j : Nat} : (i, j) ∈ edgeTo n L k ↔ i < k ∧ i < j ∧ j < n ∧ (i, j) ∈ L := by
  unfold edgeTo
  rw [List.mem_flatMap]
  constructor
  · rintro ⟨g, hg, h⟩
    rw [List.mem_range] at hg
    obtain ⟨rfl, h2⟩ := mem_edgeG.mp h
    exact ⟨hg, h2⟩
  · rintro ⟨h1, h⟩
    exact ⟨i, List.mem_range.mpr h1, mem_edgeG.mpr ⟨rfl, h⟩⟩
theorem edgeL_eqv {n : Nat} {L : List Pr} (wf : WF n L) : Eqv (edgeL n L) L := by
  rintro ⟨i, j⟩
  unfold edgeL
  rw [mem_edgeTo]
  constructor
  · exact fun h => h.2.2.2
  · intro h
    have := wf.2 _ h
    exact ⟨by omega, this.1, this.2, h⟩
theorem edgeTo_srt (n : Nat) (L : List Pr) : ∀ k, Srt (edgeTo n L k)
  | 0 => List.Pairwise.nil
  | k + 1 => by
    rw [edgeTo_step]
    refine List.pairwise_append.mpr ⟨edgeTo_srt n L k, ?_, ?_⟩
    · unfold edgeG others
      rw [List.pairwise_map]
      have h : (((List.range n).filter (oth true L k)).filter fun j => decide (k < j)).Pairwise (· < ·) := List.Pairwise.sublist (List.filter_sublist.trans List.filter_sublist) List.pairwise_lt_range
      exact h.imp fun {a b} z => .inr ⟨rfl, z⟩
    · rintro ⟨a, b⟩ h1 ⟨c, d⟩ h2
      have z1 := (mem_edgeTo.mp h1).1
      have z2 := (mem_edgeG.mp h2).1
      exact .inl (by omega)
theorem srt_nodup {E : List Pr} (h : Srt E) : E.Nodup := List.Pairwise.imp (fun {p q} z e => by
  subst e
  rcases z with z | z
  · omega
  · omega) h
theorem edgeL_wf {n : Nat} (L : List Pr) : WF n (edgeL n L) := ⟨srt_nodup (edgeTo_srt n L n), fun ⟨i, j⟩ h => by
  have z := mem_edgeTo.mp h
  exact ⟨z.2.1, z.2.2.1⟩⟩
def lt2 (p q : Pr) : Prop := p.1 < q.1 ∨ (p.1 = q.1 ∧ p.2 < q.2)
theorem lt2_irr {p q : Pr} (h : lt2 p q) (h2 : lt2 q p) : False := by
  unfold lt2 at h h2
  omega
theorem srt_eq : ∀ {A B : List Pr}, Srt A → Srt B → (∀ p, p ∈ A ↔ p ∈ B) → A = B
  | [], [], _, _, _ => rfl
  | [], b :: B, _, _, h => absurd ((h b).mpr List.mem_cons_self) (by simp)
  | a :: A, [], _, _, h => absurd ((h a).mp List.mem_cons_self) (by simp)
  | a :: A, b :: B, hA, hB, h => by
    have pA := List.pairwise_cons.mp hA
    have pB := List.pairwise_cons.mp hB
    have e : a = b := by
      rcases List.mem_cons.mp ((h a).mp List.mem_cons_self) with e | m1
      · exact e
      rcases List.mem_cons.mp ((h b).mpr List.mem_cons_self) with e | m2
      · exact e.symm
      exact (lt2_irr (pB.1 a m1) (pA.1 b m2)).elim
    subst e
    have t : A = B := srt_eq pA.2 pB.2 fun p => by
      constructor
      · intro m
        rcases List.mem_cons.mp ((h p).mp (List.mem_cons_of_mem _ m)) with e | m1
        · subst e
          exact (lt2_irr (pA.1 p m) (pA.1 p m)).elim
        · exact m1
      · intro m
        rcases List.mem_cons.mp ((h p).mpr (List.mem_cons_of_mem _ m)) with e | m1
        · subst e
          exact (lt2_irr (pB.1 p m) (pB.1 p m)).elim
        · exact m1
    rw [t]
theorem edgeL_same {L E : List Pr} (h : Eqv L E) (n : Nat) : edgeL n L = edgeL n E := by
  unfold edgeL edgeTo
  have e : edgeG n L = edgeG n E := by
    funext i
    unfold edgeG
    rw [others_eqv h]
  rw [e]
/-- several new objects that are changed later -/
theorem same_keepNews {D : List Addr} {H H1 H2 : Hp} (s : Same H H1) (hD : ∀ p ∈ D, H p = none) (k : Keep D H1 H2) : Same H H2 := fun b o e => k b o (fun m => by
  rw [hD b m] at e
  cases e) (s b o e)
theorem passX {X : Cx} : Passes (L2.CX X.prog X.w) X E0 := by
  intro _ _ _ _ _ _ _ h
  obtain ⟨_, _, _, _, _, _, _, _, _, _, _, _, z⟩ := h
  exact z.elim
/-! lengths -/
def bodyC (E : List Pr) : List Nat := E.flatMap fun p => lineC p ++ [10]
theorem textC_eq (n : Nat) (E : List Pr) : textC n E = headC n ++ [10] ++ bodyC E := by
  unfold textC linesC bodyC
  rw [List.flatMap_cons, List.flatMap_map]
theorem bodyC_snoc (E : List Pr) (p : Pr) : bodyC (E ++ [p]) = bodyC E ++ (lineC p ++ [10]) := by
  unfold bodyC
  rw [List.flatMap_append]
  simp
theorem lineC_len {p : Pr} (h1 : p.1 < 100) (h2 : p.2 < 100) : (lineC p).length ≤ 5 := by
  unfold lineC
  have a := numL_short h1
  have b := numL_short h2
  rw [List.length_append, List.length_append, List.length_singleton]
  omega
theorem headC_len {n : Nat} (h : n < 100) : (headC n).length ≤ 9 := by
  unfold headC guestsC
  have a := numL_short h
  rw [List.length_append, List.length_append, List.length_singleton]
  show 6 + (1 + _) ≤ 9
  omega
theorem bodyC_len {n : Nat} (hn : n ≤ 20) : ∀ {E : List Pr}, (∀ p ∈ E, p.1 < n ∧ p.2 < n) → (bodyC E).length ≤ 6 * E.length
  | [], _ => Nat.le_refl _
  | p :: E, h => by
    have ih := bodyC_len hn (E := E) fun q hq => h q (List.mem_cons_of_mem _ hq)
    have hp := h p List.mem_cons_self
    have l := lineC_len (p := p) (by omega) (by omega)
    show (lineC p ++ [10] ++ bodyC E).length ≤ _
    rw [List.length_append, List.length_append, List.length_singleton, List.length_cons]
    omega
theorem wf_both {n : Nat} {E : List Pr} (wf : WF n E) : ∀ p ∈ E, p.1 < n ∧ p.2 < n := fun p hp => by
  have := wf.2 p hp
  omega
theorem textC_len {n : Nat} {E : List Pr} (hn : n ≤ 20) (wf : WF n E) : (textC n E).length ≤ 3000 := by
  rw [textC_eq, List.length_append, List.length_append, List.length_singleton]
  have a := headC_len (n := n) (by omega)
  have b := bodyC_len hn (wf_both wf)
  have c := wf.len hn
  omega
/-! texts written -/
theorem lit_guests : ("guests " : Str) = SX.S (guestsC ++ [32]) := by decide +kernel
theorem lit_guest : ("guests" : Str) = SX.S guestsC := by decide +kernel
theorem lit_nl : ("\n" : Str) = SX.S [10] := by decide +kernel
theorem lit_sp : (" " : Str) = SX.S [32] := by decide +kernel
theorem lit_0 : ("0" : Str) = SX.S [48] := by decide +kernel
theorem lit_e : ("" : Str) = SX.S [] := by decide +kernel
theorem len_guests : (("guests " : Str)).length = 7 := by decide +kernel
theorem len_nl : (("\n" : Str)).length = 1 := by decide +kernel
theorem len_sp : ((" " : Str)).length = 1 := by decide +kernel
theorem lit_figs : (("0123456789" : Str)).cps.toList = [48, 49, 50, 51, 52, 53, 54, 55, 56, 57] := by decide +kernel
theorem txt_head (n : Nat) : (("guests " : Str) ++ Str.ofString (toString (n : Int))) ++ ("\n" : Str) = SX.S (headC n ++ [10]) := by
  rw [SX.num_S, lit_guests, lit_nl, SX.S_cat, SX.S_cat]
  unfold headC
  simp only [List.append_assoc]
theorem txt_line {z : Str} {l : List Nat} (e : z = SX.S l) (i j : Nat) : (((z ++ Str.ofString (toString (i : Int))) ++ (" " : Str)) ++ Str.ofString (toString (j : Int))) ++ ("\n" : Str) = SX.S (l ++ (lineC (i, j) ++ [10])) := by
  rw [e, SX.num_S, SX.num_S, lit_sp, lit_nl, SX.S_cat, SX.S_cat, SX.S_cat, SX.S_cat]
  unfold lineC
  simp only [List.append_assoc]
theorem log2_small {i : Nat} (h : i < 100) : ((i : Int)).natAbs.log2 < 1920 := by
  have k : ∀ i : Fin 100, i.val.log2 < 1920 := by decide +kernel
  exact k ⟨i, h⟩
theorem len_num {i : Nat} (h : i < 100) : (Str.ofString (toString (i : Int))).length ≤ 2 := by
  rw [SX.num_S, SX.S_len]
  exact numL_short h
theorem len_cat (a b : Str) : (a ++ b).length = a.length + b.length := by
  rw [← SX.S_tl a, ← SX.S_tl b, SX.S_cat, SX.S_len, SX.S_len, SX.S_len, List.length_append]
/-- for c in a text -/
theorem for_str {x : Str} {g : TG} {tb : TS} {D : Ends} {σ : L2.St} {H : Hp} (Pv : Nat → L2.St → Hp → Prop) (h0 : Pv 0 σ H)
    (hs : ∀ i c σ H, x.cps[i]? = some c → Pv i σ H → g (.str ⟨#[c]⟩) σ H fun σ2 H2 => tb { D with nx := Pv (i + 1), ct := Pv (i + 1), bk := D.nx } σ2 H2) (hd : ∀ σ H, Pv x.cps.size σ H → D.nx σ H) :
    ∃ W : Nat → Nat → L2.St → Hp → Prop, (∃ m, W 0 m σ H) ∧ ∀ i m σ H, W i m σ H →
      ((Its x).stop i H ∧ D.nx σ H) ∨ ((Its x).go i H ∧ ∃ N : L2.St → Hp → Prop, (∀ σ' H', N σ' H' → ∃ m', m' < m ∧ W (i + 1) m' σ' H') ∧ ∀ y H', (Its x).yld i H y H' → g y σ H' fun σ2 H2 => tb { D with nx := N, ct := N, bk := D.nx } σ2 H2) := by
  refine ⟨fun i m σ H => m = x.cps.size - i ∧ i ≤ x.cps.size ∧ Pv i σ H, ⟨x.cps.size, by simp, Nat.zero_le _, h0⟩, ?_⟩
  rintro i m σ H ⟨rfl, hi, p⟩
  by_cases hlt : i < x.cps.size
  · refine .inr ⟨hlt, Pv (i + 1), fun σ' H' p' => ⟨x.cps.size - (i + 1), by omega, rfl, hlt, p'⟩, fun y H' h => ?_⟩
    obtain ⟨e1, c, hc, rfl⟩ := h
    rw [e1]
    exact hs i c σ H hc p
  · have e : i = x.cps.size := by omega
    subst e
    exact .inl ⟨Nat.le_refl _, hd σ H p⟩
/-! promises -/
def sV (l : List (List Nat)) : List V := (l.map SX.S).map V.str
theorem sV_get {l : List (List Nat)} {i : Nat} {w : List Nat} (h : l[i]? = some w) : (sV l)[i]? = some (V.str (SX.S w)) := by
  unfold sV
  rw [List.getElem?_map, List.getElem?_map, h]
  rfl
theorem sV_of {l : List (List Nat)} {i : Nat} {v : V} (h : (sV l)[i]? = some v) : ∃ w, l[i]? = some w ∧ v = V.str (SX.S w) := by
  unfold sV at h
  rw [List.getElem?_map, List.getElem?_map] at h
  cases e : l[i]? with
  | none =>
    rw [e] at h
    cases h
  | some w =>
    rw [e] at h
    exact ⟨w, rfl, (Option.some.inj h).symm⟩
theorem sV_len (l : List (List Nat)) : (sV l).length = l.length := by
  unfold sV
  rw [List.length_map, List.length_map]
theorem str_S {a b : List Nat} : V.str (SX.S a) = V.str (SX.S b) ↔ a = b := ⟨fun h => SX.S_inj (V.str.inj h), fun h => by rw [h]⟩
/-- what is a refusal -/
structure HEs (K : PySem.W.Frag) (cNG cSG cKA cBH cNT cHE : Addr) : Prop where
  ng : PySem.W.exmOne K (.ref cNG) (.ref cHE) = some true
  sg : PySem.W.exmOne K (.ref cSG) (.ref cHE) = some true
  ka : PySem.W.exmOne K (.ref cKA) (.ref cHE) = some true
  bh : PySem.W.exmOne K (.ref cBH) (.ref cHE) = some true
  nt : PySem.W.exmOne K (.ref cNT) (.ref cHE) = some true
def spShown (C : Addr) : Sp := fun vs H Q _ => ∃ (p d : Addr) (n : Nat) (L : List Pr), vs = [.ref p] ∧ HallAt C H p n d L ∧ ∀ H', Same H H' → Q (.str (SX.S (textC n (edgeL n L)))) H'
def spNumberOf (cNT : Addr) : Sp := fun vs H Q E => ∃ w : List Nat, vs = [.str (SX.S w)] ∧ w.length ≤ 1000000 ∧ (numF w = none → E (.ref cNT) none H) ∧ (∀ v : Nat, numF w = some v → Q (.int (v : Int)) H)
def spMetL (C cNG cSG cKA cNT : Addr) : Sp := fun vs H Q E => ∃ (p d : Addr) (n : Nat) (L : List Pr) (line : List Nat), vs = [.ref p, .str (SX.S line)] ∧ HallAt C H p n d L ∧ line.length ≤ 1000000 ∧
  (pairF n L line = none → ∀ c, c = cNT ∨ c = cNG ∨ c = cSG ∨ c = cKA → ∀ H', Same H H' → E (.ref c) none H') ∧ (∀ q, pairF n L line = some q → ∀ H', Keep [d] H H' → HallAt C H' p n d (L ++ [q]) → Q .non H')
def spRead (C cNT : Addr) : Sp := fun vs H Q E => ∃ t : List Nat, vs = [.str (SX.S t)] ∧ t.length ≤ 900000 ∧ (readF t = none → ∀ H', Same H H' → E (.ref cNT) none H') ∧
  (∀ n L, readF t = some (n, L) → ∀ H' x d, Same H H' → H x = none → H d = none → HallAt C H' x n d L → Q (.ref x) H')
end KT

namespace KT
open PySem L2
def topS (i : Nat) : Stmt := PySem.Challenge.pw_knowthree_k11_halls_written.main.body.getD i (.Pass ⟨0, 0, 0, 0⟩)
abbrev st_Hall_init : Stmt := inClass (topS 10) 0
abbrev st_Hall_many : Stmt := inClass (topS 10) 1
abbrev st_Hall_see : Stmt := inClass (topS 10) 2
abbrev st_Hall_see_two : Stmt := inClass (topS 10) 3
abbrev st_Hall_meet : Stmt := inClass (topS 10) 4
abbrev st_Hall_part : Stmt := inClass (topS 10) 5
abbrev st_Hall_know : Stmt := inClass (topS 10) 6
abbrev st_Hall_known : Stmt := inClass (topS 10) 7
abbrev st_Hall_strangers : Stmt := inClass (topS 10) 8
abbrev st_shown : Stmt := topS 13
abbrev st_number_of : Stmt := topS 14
abbrev st_met : Stmt := topS 15
abbrev st_read : Stmt := topS 16
abbrev st_is_three : Stmt := topS 18
abbrev st_threes : Stmt := topS 19
abbrev st_how_many : Stmt := topS 20
abbrev st_l_cell_at : Stmt := topS 22
abbrev st_l_whole : Stmt := topS 23
abbrev st_l_pairs_by : Stmt := topS 24
abbrev st_l_hall_of : Stmt := topS 25
abbrev st_l_known : Stmt := topS 26
abbrev st_l_many : Stmt := topS 27
abbrev st_l_numbers : Stmt := topS 28
abbrev st_l_turn_one : Stmt := topS 29
abbrev st_l_same : Stmt := topS 30
abbrev st_l_right : Stmt := topS 31
abbrev st_law : Stmt := topS 32
end KT
/-! the hall's defs keep their promises: the parts that every law has -/
namespace KT
open PySem PySem.Spec PyProof.Rows L2
section
variable {P : Program} {w : World} {K : PySem.W.Frag} {mg : Str → Option Value} {base : Heap} {C cNG cSG cKA cST cBH : Addr}
theorem sc_init : FnScope ["self", "many"] ["self", "many"] (defScope st_Hall_init) := ⟨rfl, rfl, rfl, by decide +kernel, rfl, by decide +kernel, by decide +kernel⟩
theorem ok_init {f : Addr} {fd : FuncData} (F : Fun K "__init__" "Hall.__init__" st_Hall_init f fd) (T : HT K mg C cNG cSG cKA cST cBH) :
    FnOk P w K mg base (L2N.CX P w) 1 f fd ["self", "many"] (spInit C cBH) := by
  obtain ⟨tg, egr⟩ := T.gr
  refine okN F sc_init (fun vs H Q E h => ?_) (fun cdv A outer s H vs Q E hr h => ?_)
  · obtain ⟨p, dx, z, rfl, _⟩ := h
    rfl
  · obtain ⟨p, dx, z, rfl, hp, hdx, bad, good⟩ := h
    refine ⟨_, pss_cons (ps_if (PW.pt (pw_or (pt_cmpR op_lt (pv 1) pe_int (nomark _)) (pw_or1 (pt_cmpR op_gt (pv 1) (pe_glob (v := .int 20) rfl egr ⟨tg, rfl⟩) (nomark _)))))
        (pss_one (pr T.bh tk)) pss_nil)
      (pss_cons (ps_fld (pv 0) (pv 1) rfl) (pss_one (ps_fld (pv 0) pe_dnewT rfl))), ?_⟩
    refine ⟨_, rfl, _, _, rfl, rfl, _, rfl, ite2 (fun c => ?_) (fun c => ?_)⟩
    · exact iteT (bad (by have := of_decide_eq_true c; omega))
    have c1 : ¬ z < 1 := of_decide_eq_false (by simpa using c)
    refine ⟨_, rfl, _, _, rfl, rfl, _, rfl, ite2 (fun c2 => ?_) (fun c2 => ?_)⟩
    · exact bad (by have := of_decide_eq_true c2; omega)
    have c3 : ¬ (20 < z) := of_decide_eq_false (by simpa using c2)
    refine ⟨_, rfl, _, rfl, p, C, dx, _, rfl, hp, T.cl, T.nC, (by show 0 < 1000; decide), ?_⟩
    intro d hd
    have npd : p ≠ d := fun q => by
      rw [q, upd_same] at hd
      cases hd
    have hd0 : H d = none := by
      rw [upd_ne npd.symm] at hd
      exact hd
    obtain ⟨n, rfl⟩ : ∃ n : Nat, z = (n : Int) := ⟨z.toNat, by omega⟩
    refine ⟨_, rfl, p, C, dx, _, rfl, (by rw [upd_ne npd]; exact upd_same), T.cl, T.nP, (by show 1 < 1000; decide), ?_⟩
    refine good n rfl (by omega) (by omega) _ d ?_ hd0 ⟨⟨dx, upd_same⟩, by rw [upd_ne npd.symm]; exact upd_same, WF.nil n, by omega, by omega⟩
    intro b o nb e
    have nb : b ≠ p := by simpa using nb
    rw [upd_ne nb, upd_ne (ne_of_none e hd0), upd_ne nb]
    exact e
theorem sc_many : FnScope ["self"] ["self"] (defScope st_Hall_many) := ⟨rfl, rfl, rfl, by decide +kernel, rfl, by decide +kernel, by decide +kernel⟩
theorem ok_many {f : Addr} {fd : FuncData} (F : Fun K "many" "Hall.many" st_Hall_many f fd) (T : HT K mg C cNG cSG cKA cST cBH) :
    FnOk P w K mg base CX0 1 f fd ["self"] (spMany C) := by
  refine F.ok sc_many (fun vs H Q E h => ?_) (fun cdv A outer s H vs Q E hr h => ?_)
  · obtain ⟨p, d, n, L, rfl, _⟩ := h
    rfl
  · obtain ⟨p, d, n, L, rfl, hall, q⟩ := h
    obtain ⟨dx, hp⟩ := hall.ins
    refine ⟨_, pss_one (ps_ret (pe_fld (pv 0) rfl)), ?_⟩
    exact ⟨_, rfl, p, C, dx, _, _, rfl, hp, T.cl, T.nC, hf_count _ _, q⟩
theorem sc_see : FnScope ["self", "guest"] ["self", "guest"] (defScope st_Hall_see) := ⟨rfl, rfl, rfl, by decide +kernel, rfl, by decide +kernel, by decide +kernel⟩
theorem ok_see {f : Addr} {fd : FuncData} (F : Fun K "see" "Hall.see" st_Hall_see f fd) (T : HT K mg C cNG cSG cKA cST cBH) :
    FnOk P w K mg base (L2N.CX P w) 1 f fd ["self", "guest"] (spSee C cNG) := by
  refine okN F sc_see (fun vs H Q E h => ?_) (fun cdv A outer s H vs Q E hr h => ?_)
  · obtain ⟨p, d, n, L, z, rfl, _⟩ := h
    rfl
  · obtain ⟨p, d, n, L, z, rfl, hall, bad, good⟩ := h
    obtain ⟨dx, hp⟩ := hall.ins
    refine ⟨_, pss_one (ps_if (PW.pt (pw_or (pt_cmpR op_lt (pv 1) pe_int (nomark _)) (pw_or1 (pt_cmpR op_ge (pv 1) (pe_fld (pv 0) rfl) (nomark _)))))
        (pss_one (pr T.ng tk)) pss_nil), ?_⟩
    refine ⟨_, rfl, _, _, rfl, rfl, _, rfl, ite2 (fun c => ?_) (fun c => ?_)⟩
    · exact iteT (bad (by have := of_decide_eq_true c; unfold isG; omega))
    have c1 : ¬ z < 0 := of_decide_eq_false (by simpa using c)
    refine ⟨_, rfl, _, rfl, p, C, dx, _, _, rfl, hp, T.cl, T.nC, hf_count _ _, _, _, rfl, rfl, _, rfl, ite2 (fun c2 => ?_) (fun c2 => ?_)⟩
    · exact bad (by have := of_decide_eq_true c2; unfold isG; omega)
    have c3 : ¬ ((n : Int) ≤ z) := of_decide_eq_false (by simpa using c2)
    exact good ⟨by omega, by omega⟩
theorem sc_see_two : FnScope ["self", "one", "other"] ["self", "one", "other"] (defScope st_Hall_see_two) := ⟨rfl, rfl, rfl, by decide +kernel, rfl, by decide +kernel, by decide +kernel⟩
theorem ok_see_two {f : Addr} {fd : FuncData} (F : Fun K "see_two" "Hall.see_two" st_Hall_see_two f fd) (T : HT K mg C cNG cSG cKA cST cBH)
    (mS : MetD P w K mg base (L2N.CX P w) C 1 "see" (spSee C cNG)) :
    FnOk P w K mg base (L2N.CX P w) 2 f fd ["self", "one", "other"] (spSeeTwo C cNG cSG) := by
  refine okN F sc_see_two (fun vs H Q E h => ?_) (fun cdv A outer s H vs Q E hr h => ?_)
  · obtain ⟨p, d, n, L, y, z, rfl, _⟩ := h
    rfl
  · obtain ⟨p, d, n, L, y, z, rfl, hall, bad, same, good⟩ := h
    obtain ⟨dx, hp⟩ := hall.ins
    refine ⟨_, pss_cons (ps_expr (pm (pv 0) T.cl mS hr px (pa_cons (pv 1) pa_nil))) (pss_cons (ps_expr (pm (pv 0) T.cl mS hr px (pa_cons (pv 2) pa_nil)))
      (pss_one (ps_if (pt_cmpR op_eq (pv 1) (pv 2) (nomark _)) (pss_one (pr T.sg tk)) pss_nil))), ?_⟩
    have ns : (hf n d).lookup ("see" : Str) = none := hf_no _ _ (by decide +kernel) (by decide +kernel)
    refine ⟨_, rfl, p, dx, _, rfl, hp, ns, _, rfl, p, d, n, L, y, rfl, hall, fun b => bad fun c => b c.1, fun gy => ?_⟩
    refine ⟨_, rfl, p, dx, _, rfl, hp, ns, _, rfl, p, d, n, L, z, rfl, hall, fun b => bad fun c => b c.2, fun gz => ?_⟩
    refine ⟨_, rfl, _, rfl, rfl, _, rfl, ite2 (fun c => ?_) (fun c => ?_)⟩
    · exact same gy gz (by have := of_decide_eq_true c; exact V.int.inj this)
    · exact good gy gz (fun e => c (decide_eq_true (by rw [e])))
theorem sc_know : FnScope ["self", "one", "other"] ["self", "one", "other"] (defScope st_Hall_know) := ⟨rfl, rfl, rfl, by decide +kernel, rfl, by decide +kernel, by decide +kernel⟩
theorem ok_know {f : Addr} {fd : FuncData} (F : Fun K "know" "Hall.know" st_Hall_know f fd) (T : HT K mg C cNG cSG cKA cST cBH)
    (mS : MetD P w K mg base (L2N.CX P w) C 2 "see_two" (spSeeTwo C cNG cSG)) :
    FnOk P w K mg base (L2N.CX P w) 3 f fd ["self", "one", "other"] (spKnow C cNG cSG) := by
  refine okN F sc_know (fun vs H Q E h => ?_) (fun cdv A outer s H vs Q E hr h => ?_)
  · obtain ⟨p, d, n, L, y, z, rfl, _⟩ := h
    rfl
  · obtain ⟨p, d, n, L, y, z, rfl, hall, bad, same, good⟩ := h
    obtain ⟨dx, hp⟩ := hall.ins
    refine ⟨_, pss_cons (ps_expr (pm (pv 0) T.cl mS hr px (pa_cons (pv 1) (pa_cons (pv 2) pa_nil))))
      (pss_one (ps_ret (pe_cmp (pc_din (hu_of hr) (pe_tup (pa_cons (pe_callB (call_min2 rfl) (by rfl) T.min (by decide +kernel) (pa_cons (pv 1) (pa_cons (pv 2) pa_nil)))
        (pa_cons (pe_callB (call_max2 rfl) (by rfl) T.max (by decide +kernel) (pa_cons (pv 1) (pa_cons (pv 2) pa_nil))) pa_nil))) (pe_fld (pv 0) rfl)) rfl))), ?_⟩
    have ns : (hf n d).lookup ("see_two" : Str) = none := hf_no _ _ (by decide +kernel) (by decide +kernel)
    refine ⟨_, rfl, p, dx, _, rfl, hp, ns, _, rfl, _, rfl, p, d, n, L, y, z, rfl, hall, bad, same, fun gy gz nyz => ?_⟩
    obtain ⟨i, rfl, hi⟩ := gy.nat
    obtain ⟨j, rfl, hj⟩ := gz.nat
    refine ⟨_, rfl, _, rfl, _, _, rfl, _, rfl, _, rfl, _, _, rfl, (by show 2 ≤ sizeLine; decide), fun t ht => ?_⟩
    have s1 := same_new (.tup [V.int (if (j : Int) < (i : Int) then (j : Int) else (i : Int)), V.int (if (j : Int) > (i : Int) then (j : Int) else (i : Int))]) ht
    have h2 := hall.same s1
    obtain ⟨dx2, hp2⟩ := h2.ins
    refine ⟨_, rfl, p, C, dx2, _, _, rfl, hp2, T.cl, T.nP, hf_pairs _ _, d, _, rfl, DGet.t (k := kP (nrm i j)) h2.dic (by rw [upd_same, kP_map, min_py, max_py]; rfl), ?_⟩
    rw [isSome_kvs]
    exact good i j rfl rfl hi hj (fun e => nyz (by rw [e])) _ s1
end
end KT

/-! meet, part -/
namespace KT
open PySem PySem.Spec PyProof.Rows L2
section
variable {P : Program} {w : World} {K : PySem.W.Frag} {mg : Str → Option Value} {base : Heap} {C cNG cSG cKA cST cBH : Addr}
theorem sc_meet : FnScope ["self", "one", "other"] ["self", "one", "other"] (defScope st_Hall_meet) := ⟨rfl, rfl, rfl, by decide +kernel, rfl, by decide +kernel, by decide +kernel⟩
theorem ok_meet {f : Addr} {fd : FuncData} (F : Fun K "meet" "Hall.meet" st_Hall_meet f fd) (T : HT K mg C cNG cSG cKA cST cBH)
    (mK : MetD P w K mg base (L2N.CX P w) C 3 "know" (spKnow C cNG cSG)) :
    FnOk P w K mg base (L2N.CX P w) 4 f fd ["self", "one", "other"] (spMeet C cNG cSG cKA) := by
  refine okN F sc_meet (fun vs H Q E h => ?_) (fun cdv A outer s H vs Q E hr h => ?_)
  · obtain ⟨p, d, n, L, y, z, rfl, _⟩ := h
    rfl
  · obtain ⟨p, d, n, L, y, z, rfl, hall, bad, same, there, good⟩ := h
    obtain ⟨dx, hp⟩ := hall.ins
    refine ⟨_, pss_cons (ps_if (pt_val (pm (pv 0) T.cl mK hr px (pa_cons (pv 1) (pa_cons (pv 2) pa_nil)))) (pss_one (pr T.ka tk)) pss_nil)
      (pss_one (ps_dput (hu_of hr) (pe_fld (pv 0) rfl) (pe_tup (pa_cons (pe_callB (call_min2 rfl) (by rfl) T.min (by decide +kernel) (pa_cons (pv 1) (pa_cons (pv 2) pa_nil)))
        (pa_cons (pe_callB (call_max2 rfl) (by rfl) T.max (by decide +kernel) (pa_cons (pv 1) (pa_cons (pv 2) pa_nil))) pa_nil))) pe_bl rfl)), ?_⟩
    have nk : (hf n d).lookup ("know" : Str) = none := hf_no _ _ (by decide +kernel) (by decide +kernel)
    refine ⟨_, rfl, p, dx, _, rfl, hp, nk, _, rfl, _, rfl, p, d, n, L, y, z, rfl, hall, bad, same, ?_⟩
    intro i j ei ej hi hj nij H1 s1
    subst ei
    subst ej
    refine ⟨_, rfl, ite2 (fun c => ?_) (fun c => ?_)⟩
    · exact there i j rfl rfl hi hj nij (of_decide_eq_true c) _ s1
    have nin : nrm i j ∉ L := fun m => c (decide_eq_true m)
    have h1 := hall.same s1
    obtain ⟨dx1, hp1⟩ := h1.ins
    refine ⟨_, rfl, p, C, dx1, _, _, rfl, hp1, T.cl, T.nP, hf_pairs _ _, _, rfl, _, rfl, _, _, rfl, _, rfl, _, rfl, _, _, rfl, (by show 2 ≤ sizeLine; decide), fun t ht => ?_⟩
    have s2 := same_new (.tup [V.int (if (j : Int) < (i : Int) then (j : Int) else (i : Int)), V.int (if (j : Int) > (i : Int) then (j : Int) else (i : Int))]) ht
    have h2 := h1.same s2
    have key : upd H1 t (.tup [V.int (if (j : Int) < (i : Int) then (j : Int) else (i : Int)), V.int (if (j : Int) > (i : Int) then (j : Int) else (i : Int))]) t = some (.tup ((kP (nrm i j)).map kV)) := by
      rw [upd_same, kP_map, min_py, max_py]
      rfl
    have lenb : (kvs L).length < sizeLine := by
      rw [length_kvs]
      exact Nat.lt_of_le_of_lt (hall.wf.len hall.hi) (by decide)
    refine ⟨d, _, rfl, DPut.t (k := kP (nrm i j)) h2.dic key lenb, ?_⟩
    rw [put_kvs nin]
    obtain ⟨dx2, hp2⟩ := h2.ins
    refine good i j rfl rfl hi hj nij nin _ ?_ ⟨⟨dx2, by rw [upd_ne h2.ne]; exact hp2⟩, upd_same, hall.wf.snoc (nrm_ok nij hi hj) nin, hall.lo, hall.hi⟩
    exact (Keep.of [d] (s1.trans s2)).trans (Keep.put d _)
theorem sc_part : FnScope ["self", "one", "other"] ["self", "one", "other"] (defScope st_Hall_part) := ⟨rfl, rfl, rfl, by decide +kernel, rfl, by decide +kernel, by decide +kernel⟩
theorem ok_part {f : Addr} {fd : FuncData} (F : Fun K "part" "Hall.part" st_Hall_part f fd) (T : HT K mg C cNG cSG cKA cST cBH)
    (mK : MetD P w K mg base (L2N.CX P w) C 3 "know" (spKnow C cNG cSG)) :
    FnOk P w K mg base (L2N.CX P w) 4 f fd ["self", "one", "other"] (spPart C cNG cSG cST) := by
  refine okN F sc_part (fun vs H Q E h => ?_) (fun cdv A outer s H vs Q E hr h => ?_)
  · obtain ⟨p, d, n, L, y, z, rfl, _⟩ := h
    rfl
  · obtain ⟨p, d, n, L, y, z, rfl, hall, bad, same, there, good⟩ := h
    obtain ⟨dx, hp⟩ := hall.ins
    refine ⟨_, pss_cons (ps_if (pt_not (pt_val (pm (pv 0) T.cl mK hr px (pa_cons (pv 1) (pa_cons (pv 2) pa_nil))))) (pss_one (pr T.st tk)) pss_nil)
      (pss_one (ps_expr (pe_bm PySem.F.plainAttrs_dict PySem.F.slot_dict_pop PySem.F.type_dict_pop (mt_pop1 (hu_of hr)) (pe_fld (pv 0) rfl)
        (pa_cons (pe_tup (pa_cons (pe_callB (call_min2 rfl) (by rfl) T.min (by decide +kernel) (pa_cons (pv 1) (pa_cons (pv 2) pa_nil)))
        (pa_cons (pe_callB (call_max2 rfl) (by rfl) T.max (by decide +kernel) (pa_cons (pv 1) (pa_cons (pv 2) pa_nil))) pa_nil))) pa_nil)))), ?_⟩
    have nk : (hf n d).lookup ("know" : Str) = none := hf_no _ _ (by decide +kernel) (by decide +kernel)
    refine ⟨_, rfl, p, dx, _, rfl, hp, nk, _, rfl, _, rfl, p, d, n, L, y, z, rfl, hall, bad, same, ?_⟩
    intro i j ei ej hi hj nij H1 s1
    subst ei
    subst ej
    refine ⟨_, rfl, ite2 (fun c => ?_) (fun c => ?_)⟩
    · exact there i j rfl rfl hi hj nij (fun m => by rw [decide_eq_true m] at c; cases c) _ s1
    have isin : nrm i j ∈ L := by
      by_cases m : nrm i j ∈ L
      · exact m
      · exact absurd (by rw [decide_eq_false m] <;> rfl) c
    have h1 := hall.same s1
    obtain ⟨dx1, hp1⟩ := h1.ins
    refine ⟨_, rfl, p, C, dx1, _, _, rfl, hp1, T.cl, T.nP, hf_pairs _ _, .inr (.inr (.inl ⟨rfl, .inr ⟨_, h1.dic⟩⟩)), _, rfl, _, rfl, _, _, rfl, _, rfl, _, rfl, _, _, rfl, (by show 2 ≤ sizeLine; decide), fun t ht => ?_⟩
    have s2 := same_new (.tup [V.int (if (j : Int) < (i : Int) then (j : Int) else (i : Int)), V.int (if (j : Int) > (i : Int) then (j : Int) else (i : Int))]) ht
    have h2 := h1.same s2
    have key : upd H1 t (.tup [V.int (if (j : Int) < (i : Int) then (j : Int) else (i : Int)), V.int (if (j : Int) > (i : Int) then (j : Int) else (i : Int))]) t = some (.tup ((kP (nrm i j)).map kV)) := by
      rw [upd_same, kP_map, min_py, max_py]
      rfl
    refine ⟨d, _, kP (nrm i j), t, .bl true, rfl, rfl, h2.dic, key, by rw [valV_kvs, if_pos isin], ?_⟩
    rw [drop_kvs hall.wf.1]
    obtain ⟨dx2, hp2⟩ := h2.ins
    refine good i j rfl rfl hi hj nij isin _ ?_ ⟨⟨dx2, by rw [upd_ne h2.ne]; exact hp2⟩, upd_same, hall.wf.erase _, hall.lo, hall.hi⟩
    exact (Keep.of [d] (s1.trans s2)).trans (Keep.put d _)
end
end KT

/-! known -/
namespace KT
open PySem PySem.Spec PyProof.Rows L2
section
variable {P : Program} {w : World} {K : PySem.W.Frag} {mg : Str → Option Value} {base : Heap} {C cNG cSG cKA cST cBH : Addr}
theorem sc_known : FnScope ["self", "guest", "other"] ["self", "guest"] (defScope st_Hall_known) := ⟨rfl, rfl, rfl, by decide +kernel, rfl, by decide +kernel, by decide +kernel⟩
theorem ok_known {f : Addr} {fd : FuncData} (F : Fun K "known" "Hall.known" st_Hall_known f fd) (T : HT K mg C cNG cSG cKA cST cBH)
    (mS : MetD P w K mg base (L2N.CX P w) C 1 "see" (spSee C cNG)) (mK : MetD P w K mg base (L2N.CX P w) C 3 "know" (spKnow C cNG cSG)) :
    FnOk P w K mg base (L2N.CX P w) 4 f fd ["self", "guest"] (spOthers true C cNG) := by
  refine okN F sc_known (fun vs H Q E h => ?_) (fun cdv A outer s H vs Q E hr h => ?_)
  · obtain ⟨p, d, n, L, z, rfl, _⟩ := h
    rfl
  · obtain ⟨p, d, n, L, z, rfl, hall, bad, good⟩ := h
    obtain ⟨dx, hp⟩ := hall.ins
    refine ⟨_, pss_cons (ps_expr (pm (pv 0) T.cl mS hr px (pa_cons (pv 1) pa_nil)))
      (pss_one (ps_ret (pe_lc (own := [("other", 2)]) (g := gName 2) rfl sc_known.nd (pi_range1 rfl T.range (pa_cons (pe_fld (pv 0) rfl) pa_nil))
        (blkOk_by (own := [("other", 2)]) (N := ["self", "guest", "other"]) (sc := defScope st_Hall_known) (by decide +kernel)) (fun _ _ _ _ _ => pg_name (i := 2) sc_known.nd rfl (Or.inl rfl))
        (fun _ _ _ _ _ => pts_one (PW.pt (pw_and (pt_cmpR op_ne (pv 2) (pv 1) (nomark _)) (pw_and1 (pt_val (pm (pv 0) T.cl mK hr passN (pa_cons (pv 1) (pa_cons (pv 2) pa_nil))))))))
        (fun _ _ _ _ _ => pv 2)))), ?_⟩
    have ns : (hf n d).lookup ("see" : Str) = none := hf_no _ _ (by decide +kernel) (by decide +kernel)
    have nk : (hf n d).lookup ("know" : Str) = none := hf_no _ _ (by decide +kernel) (by decide +kernel)
    refine ⟨_, rfl, p, dx, _, rfl, hp, ns, _, rfl, p, d, n, L, z, rfl, hall, bad, fun gz => ?_⟩
    obtain ⟨g, rfl, hg⟩ := gz.nat
    have hn := hall.hi
    refine ⟨_, rfl, p, C, dx, _, _, rfl, hp, T.cl, T.nC, hf_count _ _, _, rfl, by omega, by omega, fun D hD => ?_⟩
    refine lc_range (lo := 0) (n := n) (fun i H' => Same H H' ∧ H' D = some (.lst (iV ((List.range i).filter (oth true L g))))) ⟨same_new _ hD, upd_same⟩ ?_ ?_
    · rintro i H1 hi ⟨s1, hl⟩
      rw [Int.zero_add]
      refine ⟨rfl, _, rfl, _, rfl, rfl, _, rfl, ?_⟩
      refine ite2 (fun c => ?_) (fun c => ?_)
      · have nig : i ≠ g := fun e => by
          rw [e] at c
          simp at c
        have h1 := hall.same s1
        obtain ⟨dx1, hp1⟩ := h1.ins
        refine ⟨_, rfl, p, dx1, _, rfl, hp1, nk, _, rfl, _, rfl, p, d, n, L, (g : Int), (i : Int), rfl, h1, fun b => b ⟨isG.of hg, isG.of hi⟩, fun _ _ e => nig (by omega), ?_⟩
        intro i' j' ei ej _ _ _ H2 s2
        have ei : g = i' := by omega
        have ej : i = j' := by omega
        subst ei
        subst ej
        have hl2 := s2 _ _ hl
        refine ⟨_, rfl, ite2 (fun c2 => ?_) (fun c2 => ?_)⟩
        · refine ⟨_, rfl, _, hl2, iV_line (by omega), same_keepNew (s1.trans s2) hD (Keep.put D _), ?_⟩
          rw [upd_same, filter_yes (oth_iff.mpr ⟨nig, by simpa using c2⟩), iV_snoc]
        · refine ⟨s1.trans s2, ?_⟩
          rw [filter_no (fun z => c2 (by simpa using (oth_iff.mp z).2))]
          exact hl2
      · refine ⟨s1, ?_⟩
        rw [filter_no (fun z => c (by simpa using (show ¬ (i : Int) = (g : Int) from fun e => (oth_iff.mp z).1 (by omega))))]
        exact hl
    · rintro H1 ⟨s1, hl⟩
      exact good g rfl hg _ D s1 hD hl
end
end KT

/-! strangers -/
namespace KT
open PySem PySem.Spec PyProof.Rows L2
section
variable {P : Program} {w : World} {K : PySem.W.Frag} {mg : Str → Option Value} {base : Heap} {C cNG cSG cKA cST cBH : Addr}
theorem sc_strangers : FnScope ["self", "guest", "other"] ["self", "guest"] (defScope st_Hall_strangers) := ⟨rfl, rfl, rfl, by decide +kernel, rfl, by decide +kernel, by decide +kernel⟩
theorem ok_strangers {f : Addr} {fd : FuncData} (F : Fun K "strangers" "Hall.strangers" st_Hall_strangers f fd) (T : HT K mg C cNG cSG cKA cST cBH)
    (mS : MetD P w K mg base (L2N.CX P w) C 1 "see" (spSee C cNG)) (mK : MetD P w K mg base (L2N.CX P w) C 3 "know" (spKnow C cNG cSG)) :
    FnOk P w K mg base (L2N.CX P w) 4 f fd ["self", "guest"] (spOthers false C cNG) := by
  refine okN F sc_strangers (fun vs H Q E h => ?_) (fun cdv A outer s H vs Q E hr h => ?_)
  · obtain ⟨p, d, n, L, z, rfl, _⟩ := h
    rfl
  · obtain ⟨p, d, n, L, z, rfl, hall, bad, good⟩ := h
    obtain ⟨dx, hp⟩ := hall.ins
    refine ⟨_, pss_cons (ps_expr (pm (pv 0) T.cl mS hr px (pa_cons (pv 1) pa_nil)))
      (pss_one (ps_ret (pe_lc (own := [("other", 2)]) (g := gName 2) rfl sc_strangers.nd (pi_range1 rfl T.range (pa_cons (pe_fld (pv 0) rfl) pa_nil))
        (blkOk_by (own := [("other", 2)]) (N := ["self", "guest", "other"]) (sc := defScope st_Hall_strangers) (by decide +kernel)) (fun _ _ _ _ _ => pg_name (i := 2) sc_strangers.nd rfl (Or.inl rfl))
        (fun _ _ _ _ _ => pts_one (PW.pt (pw_and (pt_cmpR op_ne (pv 2) (pv 1) (nomark _)) (pw_and1 (pt_not (pt_val (pm (pv 0) T.cl mK hr passN (pa_cons (pv 1) (pa_cons (pv 2) pa_nil)))))))))
        (fun _ _ _ _ _ => pv 2)))), ?_⟩
    have ns : (hf n d).lookup ("see" : Str) = none := hf_no _ _ (by decide +kernel) (by decide +kernel)
    have nk : (hf n d).lookup ("know" : Str) = none := hf_no _ _ (by decide +kernel) (by decide +kernel)
    refine ⟨_, rfl, p, dx, _, rfl, hp, ns, _, rfl, p, d, n, L, z, rfl, hall, bad, fun gz => ?_⟩
    obtain ⟨g, rfl, hg⟩ := gz.nat
    have hn := hall.hi
    refine ⟨_, rfl, p, C, dx, _, _, rfl, hp, T.cl, T.nC, hf_count _ _, _, rfl, by omega, by omega, fun D hD => ?_⟩
    refine lc_range (lo := 0) (n := n) (fun i H' => Same H H' ∧ H' D = some (.lst (iV ((List.range i).filter (oth false L g))))) ⟨same_new _ hD, upd_same⟩ ?_ ?_
    · rintro i H1 hi ⟨s1, hl⟩
      rw [Int.zero_add]
      refine ⟨rfl, _, rfl, _, rfl, rfl, _, rfl, ?_⟩
      refine ite2 (fun c => ?_) (fun c => ?_)
      · have nig : i ≠ g := fun e => by
          rw [e] at c
          simp at c
        have h1 := hall.same s1
        obtain ⟨dx1, hp1⟩ := h1.ins
        refine ⟨_, rfl, p, dx1, _, rfl, hp1, nk, _, rfl, _, rfl, p, d, n, L, (g : Int), (i : Int), rfl, h1, fun b => b ⟨isG.of hg, isG.of hi⟩, fun _ _ e => nig (by omega), ?_⟩
        intro i' j' ei ej _ _ _ H2 s2
        have ei : g = i' := by omega
        have ej : i = j' := by omega
        subst ei
        subst ej
        have hl2 := s2 _ _ hl
        refine ⟨_, rfl, ite2 (fun c2 => ?_) (fun c2 => ?_)⟩
        · refine ⟨_, rfl, _, hl2, iV_line (by omega), same_keepNew (s1.trans s2) hD (Keep.put D _), ?_⟩
          rw [upd_same, filter_yes (oth_iff.mpr ⟨nig, by simpa using c2⟩), iV_snoc]
        · refine ⟨s1.trans s2, ?_⟩
          rw [filter_no (fun z => c2 (by simpa using (oth_iff.mp z).2))]
          exact hl2
      · refine ⟨s1, ?_⟩
        rw [filter_no (fun z => c (by simpa using (show ¬ (i : Int) = (g : Int) from fun e => (oth_iff.mp z).1 (by omega))))]
        exact hl
    · rintro H1 ⟨s1, hl⟩
      exact good g rfl hg _ D s1 hD hl
end
end KT

/-! the program's threes -/
namespace KT
open PySem PySem.Spec PyProof.Rows L2
section
variable {P : Program} {w : World} {K : PySem.W.Frag} {mg : Str → Option Value} {base : Heap} {C cNG cSG cKA cST cBH : Addr}
theorem sc_is_three : FnScope ["hall", "one", "two", "three", "first"] ["hall", "one", "two", "three"] (defScope st_is_three) := ⟨rfl, rfl, rfl, by decide +kernel, rfl, by decide +kernel, by decide +kernel⟩
theorem ok_is_three {f : Addr} {fd : FuncData} (F : Fun K "is_three" "is_three" st_is_three f fd) (T : HT K mg C cNG cSG cKA cST cBH)
    (mK : MetD P w K mg base (L2N.CX P w) C 3 "know" (spKnow C cNG cSG)) :
    FnOk P w K mg base CX0 4 f fd ["hall", "one", "two", "three"] (spIsThree C) := by
  refine F.ok sc_is_three (fun vs H Q E h => ?_) (fun cdv A outer s H vs Q E hr h => ?_)
  · obtain ⟨p, d, n, a, b, c, L, rfl, _⟩ := h
    rfl
  · obtain ⟨p, d, n, a, b, c, L, rfl, hall, h1, h2, h3, q⟩ := h
    refine ⟨_, pss_cons (ps_set (i := 4) sc_is_three.nd rfl (Or.inl rfl) (pm (pv 0) T.cl mK hr passN (pa_cons (pv 1) (pa_cons (pv 2) pa_nil))))
      (pss_one (ps_ret (pe_and (pe_cmpR op_eq (pv 4) (pm (pv 0) T.cl mK hr passN (pa_cons (pv 1) (pa_cons (pv 3) pa_nil))) (nomark _))
        (pe_one (pe_cmpR op_eq (pv 4) (pm (pv 0) T.cl mK hr passN (pa_cons (pv 2) (pa_cons (pv 3) pa_nil))) (nomark _)))))), ?_⟩
    obtain ⟨dx, hp⟩ := hall.ins
    refine r_know (rv rfl) (rv rfl) (rv rfl) hall (by omega) (by omega) (by omega) fun H1 s1 => ?_
    refine ⟨_, rfl, r_know (rv rfl) (rv rfl) (rv rfl) (hall.same s1) (by omega) (by omega) (by omega) fun H2 s2 => ?_⟩
    have s12 := s1.trans s2
    have m : mono L a b c = (decide (V.bl (decide (nrm a b ∈ L)) = V.bl (decide (nrm a c ∈ L))) && decide (V.bl (decide (nrm a b ∈ L)) = V.bl (decide (nrm b c ∈ L)))) := by
      rw [dec_bl, dec_bl]
      rfl
    refine ⟨rfl, _, rfl, ite2 (fun c1 => ?_) (fun c1 => ?_)⟩
    · refine ⟨_, rfl, r_know (rv rfl) (rv rfl) (rv rfl) (hall.same s12) (by omega) (by omega) (by omega) fun H3 s3 => ?_⟩
      refine ⟨rfl, ?_⟩
      rw [c1, Bool.true_and] at m
      rw [← m]
      exact q _ (s12.trans s3)
    · have c1' : decide (V.bl (decide (nrm a b ∈ L)) = V.bl (decide (nrm a c ∈ L))) = false := by simpa using c1
      rw [c1', Bool.false_and] at m
      rw [m] at q
      exact q _ s12
theorem sc_threes : FnScope ["hall", "found", "one", "two", "three"] ["hall"] (defScope st_threes) := ⟨rfl, rfl, rfl, by decide +kernel, rfl, by decide +kernel, by decide +kernel⟩
theorem ok_threes {f : Addr} {fd : FuncData} (F : Fun K "threes" "threes" st_threes f fd) (T : HT K mg C cNG cSG cKA cST cBH)
    (mM : MetD P w K mg base CX0 C 1 "many" (spMany C)) (c3 : CalD P w K mg base CX0 4 "is_three" (spIsThree C)) :
    FnOk P w K mg base CX0 5 f fd ["hall"] (spThrees C) := by
  refine F.ok sc_threes (fun vs H Q E h => ?_) (fun cdv A outer s H vs Q E hr h => ?_)
  · obtain ⟨p, d, n, L, rfl, _⟩ := h
    rfl
  · obtain ⟨p, d, n, L, rfl, hall, q⟩ := h
    have nm : (hf n d).lookup ("many" : Str) = none := hf_no _ _ (by decide +kernel) (by decide +kernel)
    refine ⟨_, pss_cons (ps_set (i := 1) sc_threes.nd rfl (Or.inl rfl) (pe_lst pa_nil))
      (pss_cons (ps_for PassesOwn.never rfl (pi_range1 (by rfl) T.range (pa_cons (pm0 (pv 0) T.cl mM hr pass0) pa_nil)) (pg_name (i := 2) sc_threes.nd rfl (Or.inl rfl))
        (pss_one (ps_for PassesOwn.never rfl (pi_range2 (by rfl) T.range (pa_cons (pe_op op_add (pv 2) pe_int) (pa_cons (pm0 (pv 0) T.cl mM hr pass0) pa_nil))) (pg_name (i := 3) sc_threes.nd rfl (Or.inl rfl))
          (pss_one (ps_for PassesOwn.never rfl (pi_range2 (by rfl) T.range (pa_cons (pe_op op_add (pv 3) pe_int) (pa_cons (pm0 (pv 0) T.cl mM hr pass0) pa_nil))) (pg_name (i := 4) sc_threes.nd rfl (Or.inl rfl))
            (pss_one (ps_if (pt_val (pc c3 hr pass0 (pa_cons (pv 0) (pa_cons (pv 2) (pa_cons (pv 3) (pa_cons (pv 4) pa_nil))))))
              (pss_one (ps_expr (pe_bm PySem.F.plainAttrs_list PySem.F.slot_list_append PySem.F.type_list_append mt_append (pv 1) (pa_cons (pe_tup (pa_cons (pv 2) (pa_cons (pv 3) (pa_cons (pv 4) pa_nil)))) pa_nil)))) pss_nil)))))))
      (pss_one (ps_ret (pv 1)))), ?_⟩
    refine ⟨Nat.zero_le _, fun l hl => ?_⟩
    have s0 : Same H (upd H l (.lst [])) := same_new _ hl
    obtain ⟨dx, hp⟩ := hall.ins
    have n20 := hall.hi
    refine ⟨_, rfl, p, dx, _, rfl, s0 _ _ hp, nm, p, d, n, L, rfl, hall.same s0, (n : Int), rfl, by omega, by omega, for_range (lo := 0) (n := n)
      (fun i σ H' => ∃ (xs : List V) (v2 v3 v4 : Option V), σ = [some (.ref p), some (.ref l), v2, v3, v4] ∧ Same H H' ∧ H' l = some (.lst xs) ∧ TripVs H' xs (th1 L n i) ∧ xs.length ≤ 400 * i) ⟨[], none, none, none, rfl, s0, upd_same, .nil, Nat.le_refl _⟩ ?_ ?_⟩
    · rintro i σ H1 hi ⟨xs, v2, v3, v4, rfl, s1, hl1, r1, b1⟩
      rw [Int.zero_add]
      refine ⟨_, rfl, _, _, rfl, rfl, _, rfl, p, dx, _, rfl, s1 _ _ hp, nm, p, d, n, L, rfl, hall.same s1, _, _, rfl, ⟨by omega, by omega, by omega, by omega⟩, for_range (lo := (i : Int) + 1) (n := ((n : Int) - ((i : Int) + 1)).toNat)
        (fun j σ H' => ∃ (xs : List V) (v3 v4 : Option V), σ = [some (.ref p), some (.ref l), some (.int (i : Int)), v3, v4] ∧ Same H H' ∧ H' l = some (.lst xs) ∧ TripVs H' xs (th1 L n i ++ th2 L n i j) ∧ xs.length ≤ 400 * i + 20 * j) ⟨xs, _, _, rfl, s1, hl1, by rw [show th2 L n i 0 = [] from rfl, List.append_nil]; exact r1, b1⟩ ?_ ?_⟩
      · rintro j σ H2 hj ⟨xs2, v3, v4, rfl, s2, hl2, r2, b2⟩
        have ej : (i : Int) + 1 + (j : Int) = ((i + 1 + j : Nat) : Int) := by omega
        rw [ej]
        refine ⟨_, rfl, _, _, rfl, rfl, _, rfl, p, dx, _, rfl, s2 _ _ hp, nm, p, d, n, L, rfl, hall.same s2, _, _, rfl, ⟨by omega, by omega, by omega, by omega⟩, for_range (lo := ((i + 1 + j : Nat) : Int) + 1) (n := ((n : Int) - (((i + 1 + j : Nat) : Int) + 1)).toNat)
          (fun k σ H' => ∃ (xs : List V) (v4 : Option V), σ = [some (.ref p), some (.ref l), some (.int (i : Int)), some (.int ((i + 1 + j : Nat) : Int)), v4] ∧ Same H H' ∧ H' l = some (.lst xs) ∧ TripVs H' xs (th1 L n i ++ th2 L n i j ++ th3 L i (i + 1 + j) k) ∧ xs.length ≤ 400 * i + 20 * j + k) ⟨xs2, _, rfl, s2, hl2, by rw [show th3 L i (i + 1 + j) 0 = [] from rfl, List.append_nil]; exact r2, b2⟩ ?_ ?_⟩
        · rintro k σ H3 hk ⟨xs3, v4, rfl, s3, hl3, r3, b3⟩
          have ek : ((i + 1 + j : Nat) : Int) + 1 + (k : Int) = ((i + 1 + j + 1 + k : Nat) : Int) := by omega
          rw [ek]
          refine ⟨_, rfl, _, rfl, _, rfl, _, rfl, p, d, n, i, i + 1 + j, i + 1 + j + 1 + k, L, rfl, hall.same s3, by omega, by omega, by omega, fun H4 s4 => ?_⟩
          have s34 := s3.trans s4
          have hl4 := s4 _ _ hl3
          have r4 := r3.keep fun b ys z => s4 _ _ z
          refine ⟨_, rfl, ite2 (fun c => ?_) (fun c => ?_)⟩
          · refine ⟨_, rfl, .inl ⟨rfl, _, SqL.of hl4⟩, _, rfl, _, rfl, _, rfl, (by show 3 ≤ sizeLine; decide), fun t ht => ?_⟩
            obtain ⟨g1, g2⟩ := trip_put (x := (i, i + 1 + j, i + 1 + j + 1 + k)) hl s34 hl4 r4 ht
            refine ⟨l, xs3, _, rfl, rfl, (by rw [upd_ne (ne_of_none hl4 ht)]; exact hl4), Nat.lt_of_le_of_lt (by omega : xs3.length ≤ 100000) (by decide), ?_⟩
            refine ⟨xs3 ++ [.ref t], _, rfl, g1, upd_same, ?_, ?_⟩
            · rw [th3_step, if_pos c, ← List.append_assoc]
              exact g2
            · rw [List.length_append, List.length_singleton]
              omega
          · refine ⟨xs3, _, rfl, s34, hl4, ?_, by omega⟩
            rw [th3_step, if_neg c, List.append_nil]
            exact r4
        · rintro σ H3 ⟨xs3, v4, rfl, s3, hl3, r3, b3⟩
          have e : ((n : Int) - (((i + 1 + j : Nat) : Int) + 1)).toNat = n - (i + 1 + j + 1) := by omega
          rw [e] at r3
          refine ⟨xs3, _, _, rfl, s3, hl3, ?_, by omega⟩
          rw [th2_step, ← List.append_assoc]
          exact r3
      · rintro σ H2 ⟨xs2, v3, v4, rfl, s2, hl2, r2, b2⟩
        have e : ((n : Int) - ((i : Int) + 1)).toNat = n - (i + 1) := by omega
        rw [e] at r2
        refine ⟨xs2, _, _, _, rfl, s2, hl2, ?_, by omega⟩
        rw [th1_step]
        exact r2
    · rintro σ H1 ⟨xs, v2, v3, v4, rfl, s1, hl1, r1, b1⟩
      exact ⟨_, rfl, q _ l s1 hl ⟨xs, hl1, r1⟩⟩
end
end KT

/-! how_many -/
namespace KT
open PySem PySem.Spec PyProof.Rows L2
section
variable {P : Program} {w : World} {K : PySem.W.Frag} {mg : Str → Option Value} {base : Heap} {C cNG cSG cKA cST cBH : Addr}
theorem sc_how_many : FnScope ["hall", "many", "mixed", "guest", "friends"] ["hall"] (defScope st_how_many) := ⟨rfl, rfl, rfl, by decide +kernel, rfl, by decide +kernel, by decide +kernel⟩
theorem ok_how_many {f : Addr} {fd : FuncData} (F : Fun K "how_many" "how_many" st_how_many f fd) (T : HT K mg C cNG cSG cKA cST cBH)
    (mM : MetD P w K mg base CX0 C 1 "many" (spMany C)) (mKn : MetD P w K mg base (L2N.CX P w) C 4 "known" (spOthers true C cNG)) :
    FnOk P w K mg base CX0 5 f fd ["hall"] (spHowMany C) := by
  refine F.ok sc_how_many (fun vs H Q E h => ?_) (fun cdv A outer s H vs Q E hr h => ?_)
  · obtain ⟨p, d, n, L, rfl, _⟩ := h
    rfl
  · obtain ⟨p, d, n, L, rfl, hall, q⟩ := h
    refine ⟨_, pss_cons (ps_set (i := 1) sc_how_many.nd rfl (Or.inl rfl) (pm0 (pv 0) T.cl mM hr pass0))
      (pss_cons (ps_set (i := 2) sc_how_many.nd rfl (Or.inl rfl) pe_int)
      (pss_cons (ps_for PassesOwn.never rfl (pi_range1 (by rfl) T.range (pa_cons (pv 1) pa_nil)) (pg_name (i := 3) sc_how_many.nd rfl (Or.inl rfl))
        (pss_cons (ps_set (i := 4) sc_how_many.nd rfl (Or.inl rfl) (pe_callB call_len_seq (by rfl) T.len PySem.boot_len (pa_cons (pm (pv 0) T.cl mKn hr passN (pa_cons (pv 3) pa_nil)) pa_nil)))
          (pss_one (ps_set (i := 2) sc_how_many.nd rfl (Or.inl rfl) (pe_op op_add (pv 2) (pe_op op_mul (pv 4) (pe_op op_sub (pe_op op_sub (pv 1) pe_int) (pv 4))))))))
      (pss_one (ps_ret (pe_op op_sub (pe_op op_fdiv (pe_op op_mul (pe_op op_mul (pv 1) (pe_op op_sub (pv 1) pe_int)) (pe_op op_sub (pv 1) pe_int)) pe_int) (pe_op op_fdiv (pv 2) pe_int)))))), ?_⟩
    have n20 := hall.hi
    refine r_many (rv rfl) hall ?_
    refine ⟨_, rfl, (n : Int), rfl, by omega, by omega, for_range (lo := 0) (n := n) (fun i σ H' => ∃ v3 v4, σ = [some (.ref p), some (.int (n : Int)), some (.int (mixt n L i)), v3, v4] ∧ Same H H') ⟨none, none, rfl, Same.refl _⟩ ?_ ?_⟩
    · rintro g σ H1 hg ⟨v3, v4, rfl, s1⟩
      rw [Int.zero_add]
      refine r_known (rv rfl) (rv rfl) (hall.same s1) hg fun H2 l s2 nl h2 => ?_
      refine ⟨l, _, rfl, .inl (SqL.of h2), ?_⟩
      have e : (((iV (others true n L g)).length : Nat) : Int) = (deg n L g : Int) := by
        unfold iV deg
        rw [List.length_map]
      have hd := deg_lt hg L
      refine ⟨_, rfl, _, rfl, _, rfl, _, _, rfl, rfl, _, rfl, _, _, rfl, rfl, ?_⟩
      rw [e]
      refine ⟨_, _, rfl, rfl, .inl ⟨by omega, by omega⟩, ?_⟩
      refine ⟨_, _, rfl, rfl, ?_⟩
      exact ⟨_, _, rfl, s1.trans s2⟩
    · rintro σ H1 ⟨v3, v4, rfl, s1⟩
      refine ⟨_, rfl, _, rfl, _, _, rfl, rfl, _, _, rfl, rfl, .inl ⟨by omega, by omega⟩, _, rfl, _, _, rfl, rfl, _, _, rfl, rfl, .inr ⟨by omega, by omega⟩, _, _, rfl, rfl, ⟨by decide, by decide⟩, _, rfl, _, _, rfl, rfl, ⟨by decide, by decide⟩, _, _, rfl, rfl, ?_⟩
      dsimp only
      rw [how_many_eq n20]
      exact q _ s1
end
end KT

/-! shown -/
namespace KT
open PySem PySem.Spec PyProof.Rows L2
section
variable {P : Program} {w : World} {K : PySem.W.Frag} {mg : Str → Option Value} {base : Heap} {C cNG cSG cKA cST cBH : Addr}
theorem sc_shown : FnScope ["hall", "text", "one", "other"] ["hall"] (defScope st_shown) := ⟨rfl, rfl, rfl, by decide +kernel, rfl, by decide +kernel, by decide +kernel⟩
theorem ok_shown {f : Addr} {fd : FuncData} (F : Fun K "shown" "shown" st_shown f fd) (T : HT K mg C cNG cSG cKA cST cBH) (hstr : mg "str" = none)
    (mN : MetD P w K mg base CX0 C 1 "many" (spMany C)) (mKn : MetD P w K mg base (L2N.CX P w) C 4 "known" (spOthers true C cNG)) :
    FnOk P w K mg base CX0 5 f fd ["hall"] (spShown C) := by
  refine F.ok sc_shown (fun vs H Q E h => ?_) (fun cdv A outer s H vs Q E hr h => ?_)
  · obtain ⟨p, d, n, L, rfl, _⟩ := h
    rfl
  · obtain ⟨p, d, n, L, rfl, hall, q⟩ := h
    have n20 := hall.hi
    refine ⟨_, pss_cons (ps_set (i := 1) sc_shown.nd rfl (Or.inl rfl) (pe_op op_add_str (pe_op op_add_str pe_str (pe_callTy call_str_int (by rfl) hstr (by decide +kernel) (pa_cons (pm0 (pv 0) T.cl mN hr pass0) pa_nil))) pe_str))
      (pss_cons (ps_for PassesOwn.never rfl (pi_range1 (by rfl) T.range (pa_cons (pm0 (pv 0) T.cl mN hr pass0) pa_nil)) (pg_name (i := 2) sc_shown.nd rfl (Or.inl rfl))
        (pss_one (ps_for PassesOwn.never rfl (pi_list (pm (pv 0) T.cl mKn hr passN (pa_cons (pv 2) pa_nil))) (pg_name (i := 3) sc_shown.nd rfl (Or.inl rfl))
          (pss_one (ps_if (pt_cmpR op_lt (pv 2) (pv 3) (nomark _)) (pss_one (ps_set (i := 1) sc_shown.nd rfl (Or.inl rfl) (pe_op op_add_str (pe_op op_add_str (pe_op op_add_str (pe_op op_add_str (pv 1) (pe_callTy call_str_int (by rfl) hstr (by decide +kernel) (pa_cons (pv 2) pa_nil))) pe_str) (pe_callTy call_str_int (by rfl) hstr (by decide +kernel) (pa_cons (pv 3) pa_nil))) pe_str))) pss_nil)))))
      (pss_one (ps_ret (pv 1)))), ?_⟩
    refine r_many (rv rfl) hall ⟨_, rfl, log2_small (by omega), _, _, rfl, rfl, ?_, _, _, rfl, rfl, ?_, ?_⟩
    · have a := len_num (i := n) (by omega)
      rw [len_guests]
      exact Nat.le_trans (m := 100) (by omega) (by decide)
    · have a := len_num (i := n) (by omega)
      rw [len_cat, len_guests, len_nl]
      exact Nat.le_trans (m := 100) (by omega) (by decide)
    refine r_many (rv rfl) hall ?_
    refine ⟨(n : Int), rfl, by omega, by omega, for_range (lo := 0) (n := n) (fun i σ H' => ∃ (z : Str) (v2 v3 : Option V), σ = [some (.ref p), some (.str z), v2, v3] ∧ Same H H' ∧ z = SX.S (headC n ++ [10] ++ bodyC (edgeTo n L i))) ⟨_, none, none, rfl, Same.refl _, ?_⟩ ?_ ?_⟩
    · show _ = SX.S (headC n ++ [10] ++ [])
      rw [List.append_nil]
      exact txt_head n
    · rintro g σ H2 hg ⟨z, v2, v3, rfl, s2, ez⟩
      rw [Int.zero_add]
      refine r_known (rv rfl) (rv rfl) (hall.same s2) hg fun H3 l s3 nl h3 => ?_
      have ol : (others true n L g).length ≤ 20 := by
        unfold others
        refine Nat.le_trans (List.length_filter_le _ _) ?_
        rw [List.length_range]
        exact n20
      refine ⟨l, rfl, ⟨_, SqL.of h3⟩, for_list (K := K) (a := l) (xs := iV (others true n L g)) (fun i σ H' => ∃ (z : Str) (v3 : Option V), σ = [some (.ref p), some (.str z), some (.int (g : Int)), v3] ∧ Same H3 H' ∧
        z = SX.S (headC n ++ [10] ++ bodyC (edgeTo n L g ++ (((others true n L g).take i).filter fun j => decide (g < j)).map fun j => (g, j)))) ⟨z, _, rfl, Same.refl _, ?_⟩ (fun i σ H' _ ⟨_, _, _, s4, _⟩ => SqL.of (s4 _ _ h3)) ?_ ?_⟩
      · rw [List.take_zero, List.filter_nil, List.map_nil, List.append_nil]
        exact ez
      · rintro i v σ H4 hi ⟨z, v3, rfl, s4, ez⟩
        obtain ⟨o, ho, rfl⟩ := iV_get hi
        have mo := List.mem_of_getElem? ho
        have on : o < n := by
          unfold others at mo
          exact List.mem_range.mp (List.mem_filter.mp mo).1
        refine ⟨_, rfl, _, rfl, _, _, rfl, rfl, _, rfl, ite2 (fun c => ?_) (fun c => ?_)⟩
        · have c : g < o := by
            have := of_decide_eq_true c
            omega
          -- the length so far
          have zl : z.length ≤ 3000 := by
            rw [ez, SX.S_len, List.length_append, List.length_append, List.length_singleton]
            have a := headC_len (n := n) (by omega)
            have wfE : ∀ q ∈ edgeTo n L g ++ (((others true n L g).take i).filter fun j => decide (g < j)).map fun j => (g, j), q.1 < n ∧ q.2 < n := by
              intro q hq
              rcases List.mem_append.mp hq with hq | hq
              · have := mem_edgeTo (i := q.1) (j := q.2) |>.mp hq
                omega
              · obtain ⟨x, hx, rfl⟩ := List.mem_map.mp hq
                have := List.mem_of_mem_take (List.mem_filter.mp hx).1
                unfold others at this
                have := List.mem_range.mp (List.mem_filter.mp this).1
                exact ⟨hg, this⟩
            have b := bodyC_len n20 wfE
            rw [List.length_append, List.length_map] at b
            have f1 := List.length_filter_le (fun j => decide (g < j)) ((others true n L g).take i)
            have f2 := List.length_take_le' i (others true n L g)
            have wE : WF n (edgeTo n L g) := ⟨srt_nodup (edgeTo_srt n L g), fun ⟨x, y⟩ h => by
              have z := mem_edgeTo.mp h
              exact ⟨z.2.1, z.2.2.1⟩⟩
            have f3 := wE.len n20
            omega
          have a1 := len_num (i := g) (by omega)
          have a2 := len_num (i := o) (by omega)
          have sl : sizeLine = 16777216 := sizeLine_eq
          refine ⟨_, rfl, _, rfl, _, rfl, log2_small (by omega), _, _, rfl, rfl, (by omega), _, _, rfl, rfl, ?_, _, rfl, _, rfl, log2_small (by omega), _, _, rfl, rfl, ?_, _, _, rfl, rfl, ?_, ?_⟩
          · rw [len_cat, len_sp]
            omega
          · rw [len_cat, len_cat, len_sp]
            omega
          · rw [len_cat, len_cat, len_cat, len_sp, len_nl]
            omega
          · refine ⟨_, _, rfl, s4, ?_⟩
            rw [take_more ho, List.filter_append, List.map_append, ← List.append_assoc, List.filter_cons_of_pos (by rw [decide_eq_true c])]
            show _ = SX.S (headC n ++ [10] ++ bodyC ((edgeTo n L g ++ (((others true n L g).take i).filter fun j => decide (g < j)).map fun j => (g, j)) ++ [(g, o)]))
            rw [bodyC_snoc, ← List.append_assoc]
            exact txt_line ez g o
        · have c : ¬ g < o := by
            have := c
            simp at this
            omega
          refine ⟨z, _, rfl, s4, ?_⟩
          rw [take_more ho, List.filter_append, List.filter_cons_of_neg (by rw [decide_eq_false c]; exact fun z => Bool.noConfusion z), List.filter_nil, List.append_nil]
          exact ez
      · rintro σ H4 ⟨z, v3, rfl, s4, ez⟩
        refine ⟨z, _, _, rfl, s2.trans (s3.trans s4), ?_⟩
        rw [iV_len, List.take_length] at ez
        rw [edgeTo_step]
        exact ez
    · rintro σ H2 ⟨z, v2, v3, rfl, s2, ez⟩
      refine ⟨_, rfl, ?_⟩
      rw [ez]
      have e := q _ s2
      rw [textC_eq] at e
      exact e
end
end KT

/-! number_of, met, read -/
namespace KT
open PySem PySem.Spec PyProof.Rows L2
theorem S_at (w : List Nat) (i : Nat) : (SX.S w).cps[i]? = w[i]? := by
  show w.toArray[i]? = w[i]?
  simp
theorem S_size (w : List Nat) : (SX.S w).cps.size = w.length := by
  show w.toArray.size = w.length
  simp
theorem one_S (c : Nat) : (⟨#[c]⟩ : Str) = SX.S [c] := rfl
theorem not_fig {w : List Nat} {c : Nat} (hc : c ∈ w) (n : ¬ (48 ≤ c ∧ c ≤ 57)) : numF w = none := by
  unfold numF
  split
  · rfl
  · rw [if_neg]
    intro h
    have := List.all_eq_true.mp h c hc
    simp only [Bool.and_eq_true, decide_eq_true_eq] at this
    exact n this
theorem pairs_step {n : Nat} {L : List Pr} {ls : List (List Nat)} {i : Nat} {line : List Nat} (h : ls[i]? = some line) : pairsF n L (ls.drop i) = match pairF n L line with
    | some p => pairsF n (L ++ [p]) (ls.drop (i + 1))
    | none => none := by
  obtain ⟨hi, e⟩ := List.getElem?_eq_some_iff.mp h
  rw [List.drop_eq_getElem_cons hi, e]
  rfl
section
variable {P : Program} {w : World} {K : PySem.W.Frag} {mg : Str → Option Value} {base : Heap} {C cNG cSG cKA cST cBH cNT cHE : Addr}
theorem sc_number : FnScope ["word", "sign"] ["word"] (defScope st_number_of) := ⟨rfl, rfl, rfl, by decide +kernel, rfl, by decide +kernel, by decide +kernel⟩
theorem ok_number {f : Addr} {fd : FuncData} (F : Fun K "number_of" "number_of" st_number_of f fd) (hlen : mg "len" = none) (hint : mg "int" = none) (TN : ExcT K mg "NoText" cNT) {tF : Tok} (gF : mg "FIGURES" = some (.str "0123456789" tF)) :
    FnOk P w K mg base (L2N.CX P w) 1 f fd ["word"] (spNumberOf cNT) := by
  refine okN F sc_number (fun vs H Q E h => ?_) (fun cdv A outer s H vs Q E hr h => ?_)
  · obtain ⟨u, rfl, _⟩ := h
    rfl
  · obtain ⟨u, rfl, lu, bad, good⟩ := h
    refine ⟨_, pss_cons (ps_join (ps_if (PW.pt (pw_or (pt_cmpR op_lt (pe_callB call_len_str (by rfl) hlen PySem.boot_len (pa_cons (pv 0) pa_nil)) pe_int (nomark _)) (pw_or (pt_cmpR op_gt (pe_callB call_len_str (by rfl) hlen PySem.boot_len (pa_cons (pv 0) pa_nil)) pe_int (nomark _))
        (pw_or1 (PW.pt (pw_and (pt_cmpR op_eq (pe_ix ix_str (pv 0) pe_int (fun _ _ => rfl)) pe_str (nomark _)) (pw_and1 (pt_cmpR op_gt (pe_callB call_len_str (by rfl) hlen PySem.boot_len (pa_cons (pv 0) pa_nil)) pe_int (nomark _))))))))) (pss_one (pr TN tk)) pss_nil))
      (pss_cons (ps_for (passes_of rfl) rfl (pi_str (pv 0)) (pg_name (i := 1) sc_number.nd rfl (Or.inl rfl)) (pss_one (ps_if (pt_cmpR op_notIn_sign (pv 1) (pe_glob (v := .str "0123456789") rfl gF ⟨_, rfl⟩) (by rfl)) (pss_one (pr TN tk)) pss_nil)))
      (pss_one (ps_ret (pe_callTy call_int_str (by rfl) hint (by decide +kernel) (pa_cons (pv 0) pa_nil))))), ?_⟩
    have sl : sizeLine = 16777216 := sizeLine_eq
    have zl : (SX.S u).length = u.length := SX.S_len u
    have zle : (SX.S u).length ≤ sizeLine := by rw [zl]; omega
    refine ⟨fun σ' H' => σ' = [some (V.str (SX.S u)), none] ∧ H' = H ∧ ¬ (u.length = 0 ∨ 2 < u.length ∨ (u.head? = some 48 ∧ 1 < u.length)), ?_, ?_⟩
    · refine ⟨_, rfl, _, rfl, zle, _, _, rfl, rfl, _, rfl, ite2 (fun c => ?_) (fun c => ?_)⟩
      · have c := of_decide_eq_true c
        rw [zl] at c
        refine bad ?_
        unfold numF
        exact if_pos (.inl (by omega))
      have c : ¬ (((SX.S u).length : Int) < 1) := fun z => c (decide_eq_true z)
      rw [zl] at c
      refine ⟨_, rfl, _, rfl, zle, _, _, rfl, rfl, _, rfl, ite2 (fun c2 => ?_) (fun c2 => ?_)⟩
      · have c2 := of_decide_eq_true c2
        rw [zl] at c2
        refine bad ?_
        unfold numF
        exact if_pos (.inr (.inl (by omega)))
      have c2 : ¬ (((SX.S u).length : Int) > 2) := fun z => c2 (decide_eq_true z)
      rw [zl] at c2
      obtain ⟨x, u', eu⟩ := List.exists_cons_of_ne_nil (show u ≠ [] from fun e => by rw [e] at c; exact c (by decide))
      have hx : (SX.S u).cps.toList[0]? = some x := by
        show u.toArray.toList[0]? = some x
        rw [eu]
        rfl
      have hd : u.head? = some x := by rw [eu]; rfl
      refine ⟨_, rfl, _, _, _, rfl, rfl, zle, atI_nat (j := 0) hx, rfl, _, rfl, ite2 (fun c3 => ?_) (fun c3 => ?_)⟩
      · have c3 := of_decide_eq_true c3
        rw [one_S, lit_0, str_S] at c3
        have x48 : x = 48 := by simpa using c3
        refine ⟨_, rfl, _, rfl, zle, _, _, rfl, rfl, _, rfl, ite2 (fun c4 => ?_) (fun c4 => ?_)⟩
        · have c4 := of_decide_eq_true c4
          rw [zl] at c4
          refine bad ?_
          unfold numF
          exact if_pos (.inr (.inr ⟨by rw [hd, x48], by omega⟩))
        · have c4 : ¬ (((SX.S u).length : Int) > 1) := fun z => c4 (decide_eq_true z)
          rw [zl] at c4
          exact ⟨rfl, rfl, by omega⟩
      · refine ⟨rfl, rfl, ?_⟩
        have nx : x ≠ 48 := fun e => c3 (decide_eq_true (by rw [e, one_S, lit_0]))
        rintro (e | e | ⟨e, _⟩)
        · omega
        · omega
        · rw [hd] at e
          exact nx (Option.some.inj e)
    rintro σ' H' ⟨rfl, rfl, nb⟩
    refine ⟨_, rfl, _, rfl, for_str (x := SX.S u) (fun i σ H'' => ∃ v1, σ = [some (V.str (SX.S u)), v1] ∧ H'' = H' ∧ ∀ c ∈ u.take i, 48 ≤ c ∧ c ≤ 57) ⟨none, rfl, rfl, fun c hc => by simp at hc⟩ ?_ ?_⟩
    · rintro i c σ H1 hc ⟨v1, rfl, rfl, k⟩
      rw [S_at] at hc
      refine ⟨_, rfl, c, _, rfl, rfl, _, rfl, ?_⟩
      rw [lit_figs]
      refine ite2 (fun d => ?_) (fun d => ?_)
      · refine bad (not_fig (List.mem_of_getElem? hc) fun z => ?_)
        have m : c ∈ [48, 49, 50, 51, 52, 53, 54, 55, 56, 57] := by
          simp only [List.mem_cons, List.not_mem_nil, or_false]
          omega
        rw [decide_eq_true m] at d
        cases d
      · refine ⟨_, rfl, rfl, forall_take hc k ?_⟩
        by_cases m : c ∈ [48, 49, 50, 51, 52, 53, 54, 55, 56, 57]
        · simp only [List.mem_cons, List.not_mem_nil, or_false] at m
          omega
        · rw [decide_eq_false m] at d
          exact absurd rfl d
    · rintro σ H1 ⟨v1, rfl, rfl, k⟩
      rw [S_size, List.take_length] at k
      have al : u.all (fun c => decide (48 ≤ c) && decide (c ≤ 57)) = true := List.all_eq_true.mpr fun c hc => by
        have := k c hc
        simp [this.1, this.2]
      have ne : u ≠ [] := fun e => nb (.inl (by rw [e]; rfl))
      have l2 : u.length ≤ 2 := by omega
      refine ⟨_, rfl, SX.S u, _, rfl, SX.int_S al ne (by omega), by rw [zl]; omega, good _ ?_⟩
      unfold numF
      rw [if_neg nb, if_pos al]
theorem sc_met : FnScope ["hall", "line", "words"] ["hall", "line"] (defScope st_met) := ⟨rfl, rfl, rfl, by decide +kernel, rfl, by decide +kernel, by decide +kernel⟩
theorem ok_met {f : Addr} {fd : FuncData} (F : Fun K "met" "met" st_met f fd) (T : HT K mg C cNG cSG cKA cST cBH) (TN : ExcT K mg "NoText" cNT)
    (cN : CalD P w K mg base (L2N.CX P w) 1 "number_of" (spNumberOf cNT)) (mM : MetD P w K mg base (L2N.CX P w) C 4 "meet" (spMeet C cNG cSG cKA)) :
    FnOk P w K mg base (L2N.CX P w) 5 f fd ["hall", "line"] (spMetL C cNG cSG cKA cNT) := by
  refine okN F sc_met (fun vs H Q E h => ?_) (fun cdv A outer s H vs Q E hr h => ?_)
  · obtain ⟨p, d, n, L, line, rfl, _⟩ := h
    rfl
  · obtain ⟨p, d, n, L, line, rfl, hall, ll, bad, good⟩ := h
    have sl : sizeLine = 16777216 := sizeLine_eq
    refine ⟨_, pss_cons (ps_set (i := 2) sc_met.nd rfl (Or.inl rfl) (pe_split (pv 1) pe_str))
      (pss_cons (ps_if (PW.pt (pw_or (pt_cmpR op_ne (pe_callB call_len_seq (by rfl) T.len PySem.boot_len (pa_cons (pv 2) pa_nil)) pe_int (nomark _))
          (pw_or1 (pt_cmpR op_gt (pc cN hr px (pa_cons (pe_ix ix_list (pv 2) pe_int (fun _ _ => rfl)) pa_nil)) (pc cN hr px (pa_cons (pe_ix ix_list (pv 2) pe_int (fun _ _ => rfl)) pa_nil)) (nomark _))))) (pss_one (pr TN tk)) pss_nil)
      (pss_one (ps_expr (pm (pv 0) T.cl mM hr px (pa_cons (pc cN hr px (pa_cons (pe_ix ix_list (pv 2) pe_int (fun _ _ => rfl)) pa_nil)) (pa_cons (pc cN hr px (pa_cons (pe_ix ix_list (pv 2) pe_int (fun _ _ => rfl)) pa_nil)) pa_nil)))))), ?_⟩
    refine ⟨_, rfl, ⟨_, rfl⟩, SX.S line, SX.S [32], rfl, by rw [lit_sp], rfl, by rw [SX.S_len]; omega, fun q nq => ?_⟩
    rw [split_cut (by decide)]
    have s1 := same_new (.lst (sV (cutC 32 line))) nq
    have hq : upd H q (.lst (sV (cutC 32 line))) q = some (.lst (sV (cutC 32 line))) := upd_same
    show tSeq _ _ _ _ (upd H q (.lst (sV (cutC 32 line))))
    generalize upd H q (.lst (sV (cutC 32 line))) = H1 at s1 hq
    refine ⟨_, rfl, q, _, rfl, .inl (SqL.of hq), rfl, _, rfl, ite2 (fun c => ?_) (fun c => ?_)⟩
    · refine bad (pairF_words fun e => ?_) _ (.inl rfl) _ s1
      rw [sV_len, e] at c
      simp at c
    have l2 : (cutC 32 line).length = 2 := by
      rw [sV_len] at c
      by_cases e : (cutC 32 line).length = 2
      · exact e
      · exact absurd (by simp; omega) c
    obtain ⟨a, b, eab⟩ : ∃ a b, cutC 32 line = [a, b] := by
      match cutC 32 line, l2 with
      | [a, b], _ => exact ⟨a, b, rfl⟩
    have la : a.length ≤ line.length := cutC_part line a (by rw [eab]; simp)
    have lb : b.length ≤ line.length := cutC_part line b (by rw [eab]; simp)
    rw [eab] at hq
    have g0 : (sV [a, b])[0]? = some (V.str (SX.S a)) := rfl
    have g1 : (sV [a, b])[1]? = some (V.str (SX.S b)) := rfl
    refine ⟨_, rfl, q, _, _, _, rfl, rfl, SqL.of hq, atI_nat (j := 0) g0, a, rfl, by omega, fun na => bad (pairF_a eab na) _ (.inl rfl) _ s1, fun i hi => ?_⟩
    refine ⟨_, rfl, q, _, _, _, rfl, rfl, SqL.of hq, atI_nat (j := 1) g1, b, rfl, by omega, fun nb => bad (pairF_b eab nb) _ (.inl rfl) _ s1, fun j hj => ?_⟩
    have ep := pairF_of (n := n) (L := L) eab hi hj
    refine ⟨_, _, rfl, rfl, _, rfl, ite2 (fun c2 => ?_) (fun c2 => ?_)⟩
    · have c2 := of_decide_eq_true c2
      refine bad ?_ _ (.inl rfl) _ s1
      rw [ep, if_neg (by omega)]
    have c2 : ¬ ((i : Int) > (j : Int)) := fun z => c2 (decide_eq_true z)
    have h1 := hall.same s1
    obtain ⟨dx, hp⟩ := h1.ins
    refine ⟨_, rfl, p, dx, _, rfl, hp, hf_no _ _ (by decide +kernel) (by decide +kernel), ?_⟩
    refine ⟨_, rfl, q, _, _, _, rfl, rfl, SqL.of hq, atI_nat (j := 0) g0, a, rfl, by omega, fun na => (by rw [hi] at na; cases na), fun i' hi' => ?_⟩
    have ei : i = i' := by
      rw [hi] at hi'
      exact Option.some.inj hi'
    subst ei
    refine ⟨_, rfl, q, _, _, _, rfl, rfl, SqL.of hq, atI_nat (j := 1) g1, b, rfl, by omega, fun na => (by rw [hj] at na; cases na), fun j' hj' => ?_⟩
    have ej : j = j' := by
      rw [hj] at hj'
      exact Option.some.inj hj'
    subst ej
    refine ⟨p, d, n, L, (i : Int), (j : Int), rfl, h1, fun b0 => ?_, fun g1 g2 e => ?_, fun i' j' ei ej hi' hj' nij m H2 s2 => ?_, fun i' j' ei ej hi' hj' nij m H2 k2 hall2 => ?_⟩
    · refine bad ?_ _ (.inr (.inl rfl)) _ s1
      rw [ep, if_neg]
      rintro ⟨c3, c4, _⟩
      exact b0 ⟨isG.of (by omega), isG.of c4⟩
    · refine bad ?_ _ (.inr (.inr (.inl rfl))) _ s1
      rw [ep, if_neg (by omega)]
    · have e1 : i = i' := by omega
      have e2 : j = j' := by omega
      subst e1
      subst e2
      rw [nrm_lt (by omega)] at m
      refine bad ?_ _ (.inr (.inr (.inr rfl))) _ (s1.trans s2)
      rw [ep, if_neg (fun z => z.2.2 m)]
    · have e1 : i = i' := by omega
      have e2 : j = j' := by omega
      subst e1
      subst e2
      rw [nrm_lt (by omega)] at m hall2
      refine good (i, j) ?_ _ (fun b o nb e => k2 b o nb (s1 b o e)) hall2
      rw [ep, if_pos ⟨by omega, hj', m⟩]
theorem sc_read : FnScope ["text", "lines", "words", "hall", "line"] ["text"] (defScope st_read) := ⟨rfl, rfl, rfl, by decide +kernel, rfl, by decide +kernel, by decide +kernel⟩
theorem ok_read {f : Addr} {fd : FuncData} (F : Fun K "read" "read" st_read f fd) (T : HT K mg C cNG cSG cKA cST cBH) (TN : ExcT K mg "NoText" cNT) (gHE : mg "HallError" = some (.ref cHE)) (HE : HEs K cNG cSG cKA cBH cNT cHE)
    (mkH : MakD P w K mg base (L2N.CX P w) C 1 "Hall" (spInit C cBH)) (cN : CalD P w K mg base (L2N.CX P w) 1 "number_of" (spNumberOf cNT)) (cM : CalD P w K mg base (L2N.CX P w) 5 "met" (spMetL C cNG cSG cKA cNT)) :
    FnOk P w K mg base (L2.CX P w) 6 f fd ["text"] (spRead C cNT) := by
  refine F.okX sc_read (fun vs H Q E h => ?_) (fun cdv A outer s H vs Q E hr h => ?_)
  · obtain ⟨t, rfl, _⟩ := h
    rfl
  · obtain ⟨t, rfl, lt, bad, good⟩ := h
    have sl : sizeLine = 16777216 := sizeLine_eq
    refine ⟨_, pss_cons (ps_set (i := 1) sc_read.nd rfl (Or.inl rfl) (pe_split (pv 0) pe_str))
      (pss_cons (ps_set (i := 2) sc_read.nd rfl (Or.inl rfl) (pe_split (pe_ix ix_list (pv 1) pe_int (fun _ _ => rfl)) pe_str))
      (pss_cons (ps_if (PW.pt (pw_or (pt_cmpR op_ne (pe_ix ix_list (pv 1) (pe_un un_neg pe_int) (fun _ _ => rfl)) pe_str (nomark _)) (pw_or (pt_cmpR op_lt (pe_callB call_len_seq (by rfl) T.len PySem.boot_len (pa_cons (pv 1) pa_nil)) pe_int (nomark _))
          (pw_or (pt_cmpR op_ne (pe_callB call_len_seq (by rfl) T.len PySem.boot_len (pa_cons (pv 2) pa_nil)) pe_int (nomark _)) (pw_or1 (pt_cmpR op_ne (pe_ix ix_list (pv 2) pe_int (fun _ _ => rfl)) pe_str (nomark _)))))))
        (pss_one (L2.ps_raise rfl (L2.takes_of rfl rfl rfl rfl) (L2.pmk_own PySem.F.excBase_ValueError TN.e TN.g TN.k (raises_own TN.b TN.t) rfl))) pss_nil)
      (pss_cons (L2H.ps_try_onlyX (c := .ref cHE) (Wout := fun cls d _ H => E cls d H)
          (tb := fun W => tSeq (tAsg (tMakeS C (spInit C cBH) (WE W) (tCons (tCallS (spNumberOf cNT) (WE W) (tCons (tOp (rIxL K) (tVar 2) (tC (.int 1))) tNil)) tNil)) (gName 3))
            (tFor (iList K (tSl (rSlL K) (tVar 1) (tPart (tC (.int 1))) (tPart (tUn (rU fun i => .int (-i)) (tC (.int 1)))))) (gName 4) (tDrop (tCallS (spMetL C cNG cSG cKA cNT) (WE W) (tCons (tVar 3) (tCons (tVar 4) tNil))))))
          (ts := fun _ _ _ => fun _ _ H => E (.ref cNT) none H) rfl rfl ⟨rfl, by decide, Or.inl gHE⟩ (fun hd => L2H.passesAt_of rfl hd) (L2.takes_of rfl rfl rfl rfl)
          (fun W pn xe tk _ po => pss_cons (ps_set (i := 3) sc_read.nd rfl (Or.inl rfl) (pkS mkH hr (fun σ => L2N.passAt tk σ) (pa_cons (pcS cN hr (fun σ => L2N.passAt tk σ) (pa_cons (pe_ix ix_list (pv 2) pe_int (fun _ _ => rfl)) pa_nil)) pa_nil)))
            (pss_one (ps_for po rfl (pi_list (pe_slice sl_list (pv 1) (po_some pe_int) (po_some (pe_un un_neg pe_int)))) (pg_name (i := 4) sc_read.nd rfl (Or.inl rfl)) (pss_one (ps_expr (pcS cM hr (fun σ => L2N.passAt tk σ) (pa_cons (pv 3) (pa_cons (pv 4) pa_nil))))))))
          (fun a oe cls d pn hz hf tk hot => pss_one (L2H.ps_raiseH hot tk (L2N.pmk_own PySem.F.excBase_ValueError TN.e TN.g TN.k (raises_own TN.b TN.t) rfl))))
      (pss_one (ps_ret (pv 3)))))), ?_⟩
    obtain ⟨l0, lr, els⟩ := List.exists_cons_of_ne_nil (cutC_ne 10 t)
    have l0t : l0.length ≤ t.length := cutC_part t l0 (by rw [els]; exact List.mem_cons_self)
    refine ⟨_, rfl, ⟨_, rfl⟩, SX.S t, SX.S [10], rfl, by rw [lit_nl], rfl, by rw [SX.S_len]; omega, fun q nq => ?_⟩
    rw [split_cut (by decide)]
    have s1 := same_new (.lst (sV (cutC 10 t))) nq
    have hq : upd H q (.lst (sV (cutC 10 t))) q = some (.lst (sV (cutC 10 t))) := upd_same
    show tSeq _ _ _ _ (upd H q (.lst (sV (cutC 10 t))))
    generalize upd H q (.lst (sV (cutC 10 t))) = H1 at s1 hq
    have g0 : (sV (cutC 10 t))[0]? = some (V.str (SX.S l0)) := by rw [els]; rfl
    refine ⟨_, rfl, q, _, _, _, rfl, rfl, SqL.of hq, atI_nat (j := 0) g0, ⟨_, rfl⟩, SX.S l0, SX.S [32], rfl, by rw [lit_sp], rfl, by rw [SX.S_len]; omega, fun q2 nq2 => ?_⟩
    rw [split_cut (by decide)]
    have s2 := same_new (.lst (sV (cutC 32 l0))) nq2
    have hq2 : upd H1 q2 (.lst (sV (cutC 32 l0))) q2 = some (.lst (sV (cutC 32 l0))) := upd_same
    show tSeq _ _ _ _ (upd H1 q2 (.lst (sV (cutC 32 l0))))
    generalize upd H1 q2 (.lst (sV (cutC 32 l0))) = H2 at s2 hq2
    have S2 := s1.trans s2
    have hq' := s2 _ _ hq
    have bad2 := fun e : readF t = none => bad e _ S2
    obtain ⟨pre, z, epz⟩ : ∃ pre z, cutC 10 t = pre ++ [z] := by
      rcases List.eq_nil_or_concat (cutC 10 t) with e | ⟨pre, z, e⟩
      · exact absurd e (cutC_ne 10 t)
      · exact ⟨pre, z, by rw [e, List.concat_eq_append]⟩
    have hq3 : H2 q = some (.lst (sV pre ++ [V.str (SX.S z)])) := by
      rw [hq', epz]
      unfold sV
      rw [List.map_append, List.map_append]
      rfl
    -- the text ends with a line feed, or is refused
    have ends : ∀ t', t = t' ++ [10] → pre = cutC 10 t' ∧ z = [] ∧ readF t = dueF pre := by
      intro t' e
      have e2 := epz
      rw [e, cut_end] at e2
      have e3 := List.append_inj' e2 rfl
      have e4 : z = [] := by simpa using e3.2.symm
      refine ⟨e3.1.symm, e4, ?_⟩
      unfold readF
      rw [e, List.getLast?_concat, if_pos rfl, List.dropLast_concat, e3.1]
    have none_of : (∀ t', t ≠ t' ++ [10]) → readF t = none := by
      intro h
      unfold readF
      rw [if_neg]
      intro e
      obtain ⟨t', e⟩ := List.getLast?_eq_some_iff.mp e
      exact h t' e
    refine ⟨_, rfl, _, rfl, q, _, _, _, rfl, rfl, SqL.of hq3, atI_last _ _, rfl, _, rfl, ite2 (fun c => ?_) (fun c => ?_)⟩
    · refine bad2 (none_of fun t' e => ?_)
      have := (ends t' e).2.1
      rw [this, lit_e] at c
      simp at c
    have ez : z = [] := by
      by_cases e : z = []
      · exact e
      · refine absurd ?_ c
        rw [lit_e]
        simp only [str_S, Bool.not_eq_true', decide_eq_false_iff_not]
        exact e
    subst ez
    refine ⟨_, rfl, q, _, rfl, .inl (SqL.of hq3), _, _, rfl, rfl, _, rfl, ite2 (fun c2 => ?_) (fun c2 => ?_)⟩
    · have c2 := of_decide_eq_true c2
      rw [List.length_append, sV_len, List.length_singleton] at c2
      refine bad2 (none_of fun t' e => ?_)
      have e1 := (ends t' e).1
      have e2 := List.length_pos_iff.mpr (cutC_ne 10 t')
      rw [← e1] at e2
      omega
    have c2 : ¬ (((sV pre ++ [V.str (SX.S [])]).length : Int) < 2) := fun z => c2 (decide_eq_true z)
    rw [List.length_append, sV_len, List.length_singleton] at c2
    have pne : pre ≠ [] := fun e => by
      rw [e] at c2
      exact c2 (by decide)
    obtain ⟨t', et⟩ : ∃ t', t = t' ++ [10] := by
      rcases cut_last epz with e | e
      · subst e
        rw [show cutC 10 [] = [[]] from rfl] at epz
        cases pre with
        | nil => exact absurd rfl pne
        | cons y ys =>
          injection epz with _ e
          exact absurd e (by simp)
      · exact e
    obtain ⟨e1, _, er⟩ := ends t' et
    obtain ⟨p0, pr, ep⟩ := List.exists_cons_of_ne_nil pne
    have e0 : p0 = l0 := by
      rw [els, ep] at epz
      injection epz with e _
      exact e.symm
    subst e0
    have ed : dueF pre = match headF p0 with
      | some n => pairsF n [] pr
      | none => none := by
      rw [ep]
      rfl
    rw [ed] at er
    refine ⟨_, rfl, q2, _, rfl, .inl (SqL.of hq2), rfl, _, rfl, ite2 (fun c3 => ?_) (fun c3 => ?_)⟩
    · refine bad2 ?_
      have hf : headF p0 = none := by
        unfold headF
        split
        · rename_i e
          rw [sV_len, e] at c3
          simp at c3
        · rfl
      rw [er, hf]
    have l2 : (cutC 32 p0).length = 2 := by
      rw [sV_len] at c3
      by_cases e : (cutC 32 p0).length = 2
      · exact e
      · exact absurd (by simp; omega) c3
    obtain ⟨a, b, eab⟩ : ∃ a b, cutC 32 p0 = [a, b] := by
      match cutC 32 p0, l2 with
      | [a, b], _ => exact ⟨a, b, rfl⟩
    have lb : b.length ≤ p0.length := cutC_part p0 b (by rw [eab]; simp)
    have hf : headF p0 = if a = guestsC then match numF b with
        | some n => if 1 ≤ n ∧ n ≤ 20 then some n else none
        | none => none
        else none := by
      unfold headF
      rw [eab] <;> rfl
    rw [eab] at hq2
    have w0 : (sV [a, b])[0]? = some (V.str (SX.S a)) := rfl
    have w1 : (sV [a, b])[1]? = some (V.str (SX.S b)) := rfl
    refine ⟨_, rfl, q2, _, _, _, rfl, rfl, SqL.of hq2, atI_nat (j := 0) w0, rfl, _, rfl, ite2 (fun c4 => ?_) (fun c4 => ?_)⟩
    · refine bad2 ?_
      have na : a ≠ guestsC := fun e => by
        rw [e, lit_guest] at c4
        simp at c4
      rw [er, hf, if_neg na]
    have ea : a = guestsC := by
      by_cases e : a = guestsC
      · exact e
      · refine absurd ?_ c4
        rw [lit_guest]
        simp only [str_S, Bool.not_eq_true', decide_eq_false_iff_not]
        exact e
    rw [if_pos ea] at hf
    -- the lines
    refine ⟨_, rfl, q2, _, _, _, rfl, rfl, SqL.of hq2, atI_nat (j := 1) w1, b, rfl, by omega, fun nb => ?_, fun v hv => ?_⟩
    · refine ⟨true, HE.nt, fun _ _ _ => bad2 ?_, fun z => Bool.noConfusion z⟩
      rw [er, hf, nb]
    rw [hv] at hf
    simp only at hf
    refine make_hall (z := (v : Int)) (fun b0 H3 s3 => ?_) (fun n en n1 n20 H3 x d s3' => ?_)
    · refine ⟨true, HE.bh, fun _ _ _ => bad ?_ _ (S2.trans s3), fun z => Bool.noConfusion z⟩
      rw [er, hf, if_neg (fun z => b0 ⟨by omega, by omega⟩)]
    intro nd s3 hall3
    have en : v = n := by omega
    subst en
    rw [if_pos ⟨n1, n20⟩] at hf
    rw [hf] at er
    simp only at er
    have S3 := S2.trans s3
    have nx : H x = none := S2.free s3'
    have nd' : H d = none := S2.free nd
    refine ⟨_, rfl, _, rfl, _, rfl, _, rfl, q, _, rfl, SqL.of (s3 _ _ hq3), fun q3 nq3 => ?_⟩
    have ec : cutV (sV pre ++ [V.str (SX.S [])]) (some 1) (some (-1)) = sV pr := by
      unfold cutV
      have n1' : (sV pre ++ [V.str (SX.S [])]).length = pr.length + 2 := by
        rw [List.length_append, sV_len, ep, List.length_singleton, List.length_cons]
      have a1 : HT.sIx (pr.length + 2) 0 (some 1) = 1 := by
        have := HT.sIx_nat (pr.length + 2) 0 1
        rw [show ((1 : Nat) : Int) = 1 from rfl] at this
        rw [this]
        omega
      have a2 : HT.sIx (pr.length + 2) (pr.length + 2) (some (-1)) = pr.length + 1 := by
        show (if (-1 : Int) < 0 then ((-1 : Int) + ((pr.length + 2 : Nat) : Int)).toNat else min (-1 : Int).toNat (pr.length + 2)) = pr.length + 1
        rw [if_pos (by decide)]
        omega
      rw [n1', a1, a2, ep]
      show List.take (pr.length + 1 - 1) (List.drop 1 ((V.str (SX.S p0) :: sV pr) ++ [V.str (SX.S [])])) = sV pr
      have h1 : pr.length ≤ (sV pr).length := by
        rw [sV_len]
        exact Nat.le_refl _
      rw [List.cons_append, List.drop_one, List.tail_cons, Nat.add_sub_cancel, List.take_append_of_le_length h1]
      have := sV_len pr
      rw [← this, List.take_length]
    rw [show (-(1 : Int)) = -1 from rfl, ec]
    have s4 := same_new (.lst (sV pr)) nq3
    have hq4 : upd H3 q3 (.lst (sV pr)) q3 = some (.lst (sV pr)) := upd_same
    generalize upd H3 q3 (.lst (sV pr)) = H4 at s4 hq4
    have nq3d : q3 ≠ d := (ne_of_none hall3.dic nq3).symm
    refine ⟨q3, rfl, ⟨_, SqL.of hq4⟩, for_list (K := K) (a := q3) (xs := sV pr) (fun i σ H' => ∃ (v4 : Option V) (L : List Pr), σ = [some (V.str (SX.S t)), some (V.ref q), some (V.ref q2), some (V.ref x), v4] ∧ Same H H' ∧ H' q3 = some (.lst (sV pr)) ∧ HallAt C H' x v d L ∧ readF t = pairsF v L (pr.drop i))
      ⟨none, [], rfl, S3.trans s4, hq4, hall3.same s4, by rw [er, List.drop_zero]⟩ (fun i σ H' _ ⟨_, _, _, _, e, _⟩ => SqL.of e) ?_ ?_⟩
    · rintro i u σ H5 hi ⟨v4, L, rfl, S5, h5, hall5, er5⟩
      obtain ⟨line, hl, rfl⟩ := sV_of hi
      have ll : line.length ≤ t.length := cutC_part t line (by
        rw [epz, ep]
        exact List.mem_append_left _ (List.mem_cons_of_mem _ (List.mem_of_getElem? hl)))
      rw [pairs_step hl] at er5
      refine ⟨_, rfl, _, rfl, x, d, v, L, line, rfl, hall5, by omega, fun np c0 hc H6 s6 => ?_, fun qq hqq H6 k6 hall6 => ?_⟩
      · rw [np] at er5
        refine ⟨true, ?_, fun _ _ _ => bad er5 _ (S5.trans s6), fun z => Bool.noConfusion z⟩
        rcases hc with rfl | rfl | rfl | rfl
        · exact HE.nt
        · exact HE.ng
        · exact HE.sg
        · exact HE.ka
      · rw [hqq] at er5
        exact ⟨_, _, rfl, same_keepNew S5 nd' k6, k6.at1 nq3d h5, hall6, er5⟩
    · rintro σ H5 ⟨v4, L, rfl, S5, h5, hall5, er5⟩
      rw [sV_len, List.drop_length] at er5
      exact ⟨_, rfl, good v L er5 _ x d S5 nx nd' hall5⟩
end
end KT

/-! the law's defs: a cell -/
namespace KT
open PySem PySem.Spec PyProof.Rows L2
section
variable {P : Program} {w : World} {K : PySem.W.Frag} {mg : Str → Option Value} {base : Heap} {C cNG cSG cKA cST cBH : Addr}
theorem sc_cell : FnScope ["script", "k"] ["script", "k"] (defScope st_l_cell_at) := ⟨rfl, rfl, rfl, by decide +kernel, rfl, by decide +kernel, by decide +kernel⟩
theorem ok_cell {f : Addr} {fd : FuncData} (F : Fun K "_law_cell_at" "_law_cell_at" st_l_cell_at f fd) (hlen : mg "len" = none) :
    FnOk P w K mg base CX0 1 f fd ["script", "k"] (spCell K) := by
  refine F.ok sc_cell (fun vs H Q E h => ?_) (fun cdv A outer s H vs Q E hr h => ?_)
  · obtain ⟨a, ns, k, rfl, _⟩ := h
    rfl
  · obtain ⟨a, ns, k, rfl, hS, q⟩ := h
    refine ⟨_, pss_cons (ps_if (pt_cmpR op_lt (pv 1) (pe_callB call_len_seq (by rfl) hlen PySem.boot_len (pa_cons (pv 0) pa_nil)) (nomark _)) (pss_one (ps_ret (pe_ix ix_list (pv 0) (pv 1) (fun _ _ => rfl)))) pss_nil) (pss_one (ps_ret pe_int)), ?_⟩
    refine ⟨_, rfl, _, rfl, a, _, rfl, .inl hS, _, _, rfl, rfl, _, rfl, ite2 (fun c => ?_) (fun c => ?_)⟩
    · have hk : k < ns.length := by
        have := of_decide_eq_true c
        rw [List.length_map] at this
        omega
      refine ⟨_, rfl, _, rfl, a, _, _, _, rfl, rfl, hS, atI_nat (v := V.int (ns.getD k 0)) ?_, q⟩
      rw [List.getElem?_map, List.getD_eq_getElem?_getD, List.getElem?_eq_getElem hk]
      rfl
    · have hk : ns.length ≤ k := by
        have z : ¬ ((k : Int) < ((ns.map V.int).length : Nat)) := of_decide_eq_false (by simpa using c)
        rw [List.length_map] at z
        omega
      have e : ns.getD k 0 = 0 := by
        rw [List.getD_eq_getElem?_getD, List.getElem?_eq_none hk]
        rfl
      rw [e] at q
      exact q
end
end KT

/-! the law's defs: a cell, a whole number, how many, the pairs -/
namespace KT
open PySem PySem.Spec PyProof.Rows L2
section
variable {P : Program} {w : World} {K : PySem.W.Frag} {mg : Str → Option Value} {base : Heap} {C cNG cSG cKA cST cBH : Addr}
theorem sc_pairs : FnScope ["script", "first", "many", "pairs", "guest", "digits", "other"] ["script", "first", "many"] (defScope st_l_pairs_by) := ⟨rfl, rfl, rfl, by decide +kernel, rfl, by decide +kernel, by decide +kernel⟩
theorem ok_pairs {f : Addr} {fd : FuncData} (F : Fun K "_law_pairs_by" "_law_pairs_by" st_l_pairs_by f fd) (hrange : mg "range" = none) (hsorted : mg "sorted" = none)
    (cC : CalD P w K mg base CX0 1 "_law_cell_at" (spCell K)) :
    FnOk P w K mg base CX0 2 f fd ["script", "first", "many"] (spPairsBy K) := by
  refine F.ok sc_pairs (fun vs H Q E h => ?_) (fun cdv A outer s H vs Q E hr h => ?_)
  · obtain ⟨a, ns, first, n, rfl, _⟩ := h
    rfl
  · obtain ⟨a, ns, first, n, rfl, hS, n1, n20, q⟩ := h
    refine ⟨_, pss_cons (ps_set (i := 3) sc_pairs.nd rfl (Or.inl rfl) (pe_lst pa_nil))
      (pss_cons (ps_for PassesOwn.never rfl (pi_range2 (by rfl) hrange (pa_cons pe_int (pa_cons (pv 2) pa_nil))) (pg_name (i := 4) sc_pairs.nd rfl (Or.inl rfl))
        (pss_cons (ps_set (i := 5) sc_pairs.nd rfl (Or.inl rfl) (pc cC hr pass0 (pa_cons (pv 0) (pa_cons (pe_op op_sub (pe_op op_add (pv 1) (pv 4)) pe_int) pa_nil))))
          (pss_one (ps_for PassesOwn.never rfl (pi_range1 (by rfl) hrange (pa_cons (pv 4) pa_nil)) (pg_name (i := 6) sc_pairs.nd rfl (Or.inl rfl))
            (pss_cons (ps_if (pt_cmpR op_eq (pe_op op_mod (pv 5) pe_int) pe_int (nomark _))
              (pss_one (ps_expr (pe_bm PySem.F.plainAttrs_list PySem.F.slot_list_append PySem.F.type_list_append mt_append (pv 3) (pa_cons (pe_tup (pa_cons (pv 6) (pa_cons (pv 4) pa_nil))) pa_nil)))) pss_nil)
              (pss_one (ps_set (i := 5) sc_pairs.nd rfl (Or.inl rfl) (pe_op op_fdiv (pv 5) pe_int))))))))
      (pss_one (ps_ret (pe_callB cr_sortedPO (by rfl) hsorted (by decide +kernel) (pa_cons (pv 3) pa_nil))))), ?_⟩
    refine ⟨Nat.zero_le _, fun l hl => ?_⟩
    have s0 : Same H (upd H l (.lst [])) := same_new _ hl
    refine ⟨_, rfl, 1, (n : Int), rfl, ⟨by omega, by omega, by omega, by omega⟩, for_range (lo := 1) (n := ((n : Int) - 1).toNat)
      (fun i σ H' => ∃ (E : List Pr) (xs : List V) (v4 v5 v6 : Option V), σ = [some (.ref a), some (.int (first : Int)), some (.int (n : Int)), some (.ref l), v4, v5, v6] ∧ Same H H' ∧ H' l = some (.lst xs) ∧ PairVs H' xs E ∧
        WF (1 + i) E) ⟨[], [], none, none, none, rfl, s0, upd_same, .nil, WF.nil _⟩ ?_ ?_⟩
    · rintro i σ H1 hi ⟨E, xs, v4, v5, v6, rfl, s1, hl1, r1, wf1⟩
      have ei : (1 : Int) + (i : Int) = ((1 + i : Nat) : Int) := by omega
      rw [ei]
      refine ⟨_, rfl, _, rfl, _, rfl, _, _, rfl, rfl, _, _, rfl, rfl, a, ns, first + i, ?_, s1.seq hS, ?_⟩
      · show [V.ref a, V.int ((first : Int) + ((1 + i : Nat) : Int) - 1)] = [V.ref a, V.int ((first + i : Nat) : Int)]
        have e : (first : Int) + ((1 + i : Nat) : Int) - 1 = ((first + i : Nat) : Int) := by omega
        rw [e]
      refine ⟨_, rfl, _, rfl, by omega, by omega, for_range (lo := 0) (n := 1 + i)
        (fun j σ H' => ∃ (E : List Pr) (xs : List V) (z : Int) (v6 : Option V), σ = [some (.ref a), some (.int (first : Int)), some (.int (n : Int)), some (.ref l), some (.int ((1 + i : Nat) : Int)), some (.int z), v6] ∧ Same H H' ∧ H' l = some (.lst xs) ∧ PairVs H' xs E ∧
          E.Nodup ∧ ∀ p ∈ E, p.1 < p.2 ∧ (p.2 < 1 + i ∨ (p.2 = 1 + i ∧ p.1 < j))) ?_ ?_ ?_⟩
      · exact ⟨E, xs, _, v6, rfl, s1, hl1, r1, wf1.1, fun p hp => ⟨(wf1.2 p hp).1, .inl (wf1.2 p hp).2⟩⟩
      · rintro j σ H2 hj ⟨E2, xs2, z, v6, rfl, s2, hl2, r2, nd2, wf2⟩
        rw [Int.zero_add]
        have wf2' : WF n E2 := ⟨nd2, fun p hp => ⟨(wf2 p hp).1, by have := (wf2 p hp).2; omega⟩⟩
        have len2 : xs2.length ≤ 400 := by
          have := wf2'.len n20
          have := Paired.length r2
          omega
        refine ⟨_, rfl, _, _, rfl, rfl, (by show (0 : Int) < 2; decide), rfl, _, rfl, ite2 (fun c => ?_) (fun c => ?_)⟩
        · refine ⟨_, rfl, .inl ⟨rfl, _, SqL.of hl2⟩, _, rfl, _, rfl, (by show 2 ≤ sizeLine; decide), fun t ht => ?_⟩
          have ntl : l ≠ t := ne_of_none hl2 ht
          refine ⟨l, xs2, _, rfl, rfl, (by rw [upd_ne ntl]; exact hl2), Nat.lt_of_le_of_lt len2 (by decide), ?_⟩
          refine ⟨_, rfl, _, _, rfl, rfl, ⟨by decide, by decide⟩, ?_⟩
          have nin : (j, 1 + i) ∉ E2 := fun m => by
            have := (wf2 _ m).2
            simp only at this
            omega
          refine ⟨E2 ++ [(j, 1 + i)], xs2 ++ [.ref t], _, _, rfl, ?_, upd_same, ?_, nd_snoc nd2 nin, ?_⟩
          · intro b o e
            have e2 := s2 b o e
            have nbl : b ≠ l := ne_of_none e hl
            rw [upd_ne nbl, upd_ne (ne_of_none e2 ht)]
            exact e2
          · refine PairVs.snoc (r2.keep fun b ys e => ?_) ⟨t, rfl, ?_⟩
            · rw [upd_ne (ne_of e hl2 (fun z => nomatch z)), upd_ne (ne_of_none e ht)]
              exact e
            · rw [upd_ne ntl.symm, upd_same]
          · intro p hp
            rcases List.mem_append.mp hp with hp | hp
            · have := wf2 p hp
              omega
            · rw [List.mem_singleton.mp hp]
              show j < 1 + i ∧ (1 + i < 1 + i ∨ (1 + i = 1 + i ∧ j < j + 1))
              omega
        · refine ⟨_, rfl, _, _, rfl, rfl, ⟨by decide, by decide⟩, ?_⟩
          refine ⟨E2, xs2, _, _, rfl, s2, hl2, r2, nd2, fun p hp => ?_⟩
          have := wf2 p hp
          omega
      · rintro σ H2 ⟨E2, xs2, z, v6, rfl, s2, hl2, r2, nd2, wf2⟩
        refine ⟨E2, xs2, _, _, _, rfl, s2, hl2, r2, nd2, fun p hp => ?_⟩
        have := wf2 p hp
        omega
    · rintro σ H1 ⟨E, xs, v4, v5, v6, rfl, s1, hl1, r1, wf1⟩
      have wfn : WF n E := ⟨wf1.1, fun p hp => by
        have := wf1.2 p hp
        omega⟩
      obtain ⟨h1, h2⟩ := sort_pairs r1 wf1.1
      refine ⟨_, rfl, l, xs, tk2 H1, rfl, SqL.of hl1, h1, fun ys p hs hst hp => ?_⟩
      obtain ⟨E', r', pe, so⟩ := h2 ys hs hst.perm
      have s2 := s1.trans (same_new (.lst ys) hp)
      refine q _ p E' s2 (s1.free hp) ⟨ys, upd_same, r'.keep fun b zs e => by rw [upd_ne (ne_of_none e hp)]; exact e⟩ ⟨pe.nodup_iff.mpr wfn.1, fun x hx => wfn.2 x (pe.mem_iff.mp hx)⟩ so
end
end KT

/-! a whole number -/
namespace KT
open PySem PySem.Spec PyProof.Rows L2
section
variable {P : Program} {w : World} {K : PySem.W.Frag} {mg : Str → Option Value} {base : Heap} {C cNG cSG cKA cST cBH : Addr}
theorem sc_whole : FnScope ["found"] ["found"] (defScope st_l_whole) := ⟨rfl, rfl, rfl, by decide +kernel, rfl, by decide +kernel, by decide +kernel⟩
theorem ok_whole {f : Addr} {fd : FuncData} (F : Fun K "_law_whole" "_law_whole" st_l_whole f fd) (his : mg "isinstance" = none) (hint : mg "int" = none) (hbool : mg "bool" = none) :
    FnOk P w K mg base CX0 1 f fd ["found"] spWhole := by
  refine F.ok sc_whole (fun vs H Q E h => ?_) (fun cdv A outer s H vs Q E hr h => ?_)
  · obtain ⟨i, rfl, _⟩ := h
    rfl
  · obtain ⟨i, rfl, q⟩ := h
    refine ⟨_, pss_one (ps_ret (pe_and (pe_callB call_isi (by rfl) his (by decide +kernel) (pa_cons (pv 0) (pa_cons (pe_bltn (v := .ty "int") (by rfl) hint (by decide +kernel) rfl) pa_nil)))
      (pe_one (pe_not (pe_callB call_isi (by rfl) his (by decide +kernel) (pa_cons (pv 0) (pa_cons (pe_bltn (v := .ty "bool") (by rfl) hbool (by decide +kernel) rfl) pa_nil))))))), ?_⟩
    refine ⟨_, rfl, _, _, _, _, true, rfl, .ty "int", .base (.int i), kit_ty (by decide +kernel), true, rfl, iteT ?_⟩
    exact ⟨_, rfl, _, _, _, _, false, rfl, .ty "bool", .base (.int i), kit_ty (by decide +kernel), false, rfl, q⟩
end
end KT

/-! the law's defs: numbers, whom a guest knows, the same hall -/
namespace KT
open PySem PySem.Spec PyProof.Rows L2
section
variable {P : Program} {w : World} {K : PySem.W.Frag} {mg : Str → Option Value} {base : Heap} {C cNG cSG cKA cST cBH : Addr}
theorem sc_numbers : FnScope ["found", "due", "number"] ["found", "due"] (defScope st_l_numbers) := ⟨rfl, rfl, rfl, by decide +kernel, rfl, by decide +kernel, by decide +kernel⟩
theorem ok_numbers {f : Addr} {fd : FuncData} (F : Fun K "_law_numbers" "_law_numbers" st_l_numbers f fd) (his : mg "isinstance" = none) (hlist : mg "list" = none)
    (cW : CalD P w K mg base CX0 1 "_law_whole" spWhole) : FnOk P w K mg base CX0 2 f fd ["found", "due"] spNumbers := by
  refine F.ok sc_numbers (fun vs H Q E h => ?_) (fun cdv A outer s H vs Q E hr h => ?_)
  · obtain ⟨a, b, l, rfl, _⟩ := h
    rfl
  · obtain ⟨a, b, l, rfl, ha, hb, q⟩ := h
    refine ⟨_, pss_cons (ps_if (pt_not (pt_val (pe_callB call_isi (by rfl) his (by decide +kernel) (pa_cons (pv 0) (pa_cons (pe_bltn (v := .ty "list") (by rfl) hlist (by decide +kernel) rfl) pa_nil))))) (pss_one (ps_ret pe_bl)) pss_nil)
      (pss_cons (ps_for PassesOwn.never rfl (pi_list (pv 0)) (pg_name (i := 2) sc_numbers.nd rfl (Or.inl rfl)) (pss_one (ps_if (pt_not (pt_val (pc cW hr pass0 (pa_cons (pv 2) pa_nil)))) (pss_one (ps_ret pe_bl)) pss_nil)))
      (pss_one (ps_ret (pe_cmpR (op_eqD hr.units) (pv 0) (pv 1) (nomark _))))), ?_⟩
    refine ⟨_, rfl, _, _, _, _, true, rfl, .ty "list", .base (.lst ha), kit_ty (by decide +kernel), true, rfl, iteF ?_⟩
    refine ⟨_, rfl, a, rfl, ⟨_, SqL.of ha⟩, for_list (K := K) (a := a) (xs := iV l) (fun i σ H' => ∃ v, σ = [some (.ref a), some (.ref b), v] ∧ H' = H) ⟨none, rfl, rfl⟩ (fun i σ H' _ ⟨_, _, e⟩ => by rw [e]; exact SqL.of ha) ?_ ?_⟩
    · rintro i x σ H1 hx ⟨v, rfl, rfl⟩
      obtain ⟨u, rfl⟩ : ∃ u : Nat, x = V.int (u : Int) := by
        unfold iV at hx
        rw [List.getElem?_map] at hx
        cases e : l[i]? with
        | none =>
          rw [e] at hx
          cases hx
        | some u =>
          rw [e] at hx
          exact ⟨u, (Option.some.inj hx).symm⟩
      exact ⟨_, rfl, _, rfl, true, rfl, iteF ⟨_, rfl, rfl⟩⟩
    · rintro σ H1 ⟨v, rfl, rfl⟩
      refine ⟨_, rfl, _, rfl, iD l, iD l, iD_dp (SqL.of ha), iD_dp (SqL.of hb), iD_shaped l, iD_shaped l, ?_⟩
      rw [iD_refl]
      exact q
theorem sc_lknown : FnScope ["pairs", "many", "guest", "other"] ["pairs", "many", "guest"] (defScope st_l_known) := ⟨rfl, rfl, rfl, by decide +kernel, rfl, by decide +kernel, by decide +kernel⟩
theorem ok_lknownD {f : Addr} {fd : FuncData} (F : Fun K "_law_known" "_law_known" st_l_known f fd) (hmin : mg "min" = none) (hmax : mg "max" = none) (hrange : mg "range" = none) :
    FnOk P w K mg base CX0 1 f fd ["pairs", "many", "guest"] spKnownD := by
  refine F.ok sc_lknown (fun vs H Q E h => ?_) (fun cdv A outer s H vs Q E hr h => ?_)
  · obtain ⟨q, n, g, E, rfl, _⟩ := h
    rfl
  · obtain ⟨q, n, g, E, rfl, hq, wf, n20, hg, k⟩ := h
    refine ⟨_, pss_one (ps_ret (pe_lc (own := [("other", 3)]) (g := gName 3) rfl sc_lknown.nd (pi_range1 (by rfl) hrange (pa_cons (pv 1) pa_nil))
      (blkOk_by (own := [("other", 3)]) (N := ["pairs", "many", "guest", "other"]) (sc := defScope st_l_known) (by decide +kernel)) (fun _ _ _ _ _ => pg_name (i := 3) sc_lknown.nd rfl (Or.inl rfl))
      (fun _ _ _ _ _ => pts_one (pt_cmp (pc_din (hu_of hr) (pe_tup (pa_cons (pe_callB (call_min2 rfl) (by rfl) hmin (by decide +kernel) (pa_cons (pv 2) (pa_cons (pv 3) pa_nil)))
        (pa_cons (pe_callB (call_max2 rfl) (by rfl) hmax (by decide +kernel) (pa_cons (pv 2) (pa_cons (pv 3) pa_nil))) pa_nil))) (pv 0)))) (fun _ _ _ _ _ => pv 3))), ?_⟩
    refine ⟨_, rfl, _, rfl, by omega, by omega, fun D hD => ?_⟩
    refine lc_range (lo := 0) (n := n) (fun i H' => Same H H' ∧ H' D = some (.lst (iV ((List.range i).filter (oth true E g))))) ⟨same_new _ hD, upd_same⟩ ?_ (fun H1 h1 => k H1 D h1.1 hD h1.2)
    rintro i H1 hi ⟨s1, h1⟩
    rw [Int.zero_add]
    refine ⟨rfl, _, rfl, _, rfl, _, _, rfl, _, rfl, _, rfl, _, _, rfl, (by show 2 ≤ sizeLine; decide), fun t ht => ?_⟩
    rw [min_py, max_py]
    have st := same_new (.tup [V.int ((min g i : Nat) : Int), V.int ((max g i : Nat) : Int)]) ht
    refine ⟨_, rfl, q, _, rfl, get_new (s1 _ _ hq) ht, ?_⟩
    rw [isSome_kvs]
    refine ⟨_, rfl, ite2 (fun c => ?_) (fun c => ?_)⟩
    · refine ⟨_, rfl, _, st _ _ h1, iV_line (by omega), same_keepNew (s1.trans st) hD (Keep.put D _), ?_⟩
      rw [upd_same, filter_yes (by rw [oth_known wf]; exact c), iV_snoc]
    · refine ⟨s1.trans st, ?_⟩
      rw [filter_no (by rw [oth_known wf]; exact c)]
      exact st _ _ h1
theorem sc_same : FnScope ["hall", "pairs", "many", "told", "there", "pair", "guest", "due", "others", "other"] ["hall", "pairs", "many"] (defScope st_l_same) := ⟨rfl, rfl, rfl, by decide +kernel, rfl, by decide +kernel, by decide +kernel⟩
theorem ok_same {f : Addr} {fd : FuncData} (F : Fun K "_law_same" "_law_same" st_l_same f fd) (T : HT K mg C cNG cSG cKA cST cBH)
    (mM : MetD P w K mg base CX0 C 1 "many" (spMany C)) (mKn : MetD P w K mg base (L2N.CX P w) C 4 "known" (spOthers true C cNG)) (mSt : MetD P w K mg base (L2N.CX P w) C 4 "strangers" (spOthers false C cNG))
    (cW : CalD P w K mg base CX0 1 "_law_whole" spWhole) (cN : CalD P w K mg base CX0 2 "_law_numbers" spNumbers) (cK : CalD P w K mg base CX0 1 "_law_known" spKnownD) :
    FnOk P w K mg base CX0 5 f fd ["hall", "pairs", "many"] (spSame C) := by
  refine F.ok sc_same (fun vs H Q E h => ?_) (fun cdv A outer s H vs Q E hr h => ?_)
  · obtain ⟨p, l, d, n, L, E, rfl, _⟩ := h
    rfl
  · obtain ⟨p, l, d, n, L, E, rfl, hall, hP, wf, eqv, q⟩ := h
    obtain ⟨ps, hps, rps⟩ := hP.ex
    have n20 := hall.hi
    refine ⟨_, pss_cons (ps_set (i := 3) sc_same.nd rfl (Or.inl rfl) (pm0 (pv 0) T.cl mM hr pass0))
      (pss_cons (ps_if (PW.pt (pw_or (pt_not (pt_val (pc cW hr pass0 (pa_cons (pv 3) pa_nil)))) (pw_or1 (pt_cmpR op_ne (pv 3) (pv 2) (nomark _))))) (pss_one (ps_ret pe_bl)) pss_nil)
      (pss_cons (ps_set (i := 4) sc_same.nd rfl (Or.inl rfl) pe_dnewT)
      (pss_cons (ps_for PassesOwn.never rfl (pi_list (pv 1)) (pg_name (i := 5) sc_same.nd rfl (Or.inl rfl)) (pss_one (ps_dput (hu_of hr) (pv 4) (pv 5) pe_bl rfl)))
      (pss_cons (ps_for PassesOwn.never rfl (pi_range1 (by rfl) T.range (pa_cons (pv 2) pa_nil)) (pg_name (i := 6) sc_same.nd rfl (Or.inr rfl))
        (pss_cons (ps_set (i := 7) sc_same.nd rfl (Or.inr rfl) (pc cK hr pass0 (pa_cons (pv 4) (pa_cons (pv 2) (pa_cons (pv 6) pa_nil)))))
        (pss_cons (ps_setLc (i := 8) (own := [("other", 9)]) (g := gName 9) (tt := tAnd (tTest (tOp rNe (tVar 9) (tVar 6))) (tTest (tOp (rIn K true) (tVar 9) (tVar 7)))) (by rfl) sc_same.nd rfl rfl (sw_true rfl rfl rfl (by decide +kernel))
            (pi_range1 (by rfl) T.range (pa_cons (pv 2) pa_nil)) (blkOk_by (own := [("other", 9)]) (N := ["hall", "pairs", "many", "told", "there", "pair", "guest", "due", "others", "other"]) (sc := defScope st_l_same) (by decide +kernel))
            (fun _ _ _ _ _ => pg_name (i := 9) sc_same.nd rfl (Or.inl rfl)) (fun _ _ _ _ _ => pts_one (PW.pt (pw_and (pt_cmpR op_ne (pv 9) (pv 6) (nomark _)) (pw_and1 (pt_cmpR op_notIn_seq (pv 9) (pv 7) (by rfl)))))) (fun _ _ _ _ _ => pv 9))
        (pss_one (ps_if (PW.pt (pw_or (pt_not (pt_val (pc cN hr pass0 (pa_cons (pm (pv 0) T.cl mKn hr passN (pa_cons (pv 6) pa_nil)) (pa_cons (pv 7) pa_nil)))))
          (pw_or1 (pt_not (pt_val (pc cN hr pass0 (pa_cons (pm (pv 0) T.cl mSt hr passN (pa_cons (pv 6) pa_nil)) (pa_cons (pv 8) pa_nil)))))))) (pss_one (ps_ret pe_bl)) pss_nil)))))
      (pss_one (ps_ret pe_bl)))))), ?_⟩
    refine r_many (rv rfl) hall ?_
    refine ⟨_, rfl, _, rfl, true, rfl, iteF ?_⟩
    refine ⟨_, rfl, _, rfl, rfl, _, rfl, iteNS rfl ?_⟩
    intro d0 hd0
    have sd : Same H (upd H d0 (.dT [])) := same_new _ hd0
    refine ⟨_, rfl, l, rfl, ⟨_, SqL.of (sd _ _ hps)⟩, for_list (K := K) (a := l) (xs := ps) (fun i σ H' => ∃ v5, σ = [some (.ref p), some (.ref l), some (.int (n : Int)), some (.int (n : Int)), some (.ref d0), v5, none, none, none, none] ∧ Same H H' ∧ H' d0 = some (.dT (kvs (E.take i))))
      ⟨none, rfl, sd, upd_same⟩ (fun i σ H' _ ⟨_, _, s1, _⟩ => SqL.of (s1 _ _ hps)) ?_ ?_⟩
    · rintro i v σ H1 hi ⟨v5, rfl, s1, hd1⟩
      obtain ⟨pr, hp, hv⟩ := (rps.keep (fun b ys z => s1 b _ z)).get hi
      obtain ⟨a, rfl, ha⟩ := hv
      refine ⟨_, rfl, _, rfl, d0, _, rfl, DPut.t (k := kP pr) hd1 ha ?_, ?_⟩
      · rw [length_kvs]
        refine Nat.lt_of_le_of_lt (m := 400) ?_ (by decide)
        have z1 := wf.len n20
        have z2 := List.length_take_le' i E
        omega
      · refine ⟨_, rfl, same_keepNew s1 hd0 (Keep.put d0 _), ?_⟩
        rw [upd_same, put_kvs (take_notin wf.1 hp), take_more hp]
    · rintro σ H1 ⟨v5, rfl, s1, hd1⟩
      rw [Paired.length rps, List.take_length] at hd1
      refine ⟨_, rfl, (n : Int), rfl, by omega, by omega, for_range (lo := 0) (n := n) (fun i σ H' => ∃ v6 v7 v8 v9 : Option V, σ = [some (.ref p), some (.ref l), some (.int (n : Int)), some (.int (n : Int)), some (.ref d0), v5, v6, v7, v8, v9] ∧ Same H1 H') ⟨_, _, _, _, rfl, Same.refl _⟩ ?_ ?_⟩
      · rintro g σ H2 hg ⟨v6, v7, v8, v9, rfl, s2⟩
        rw [Int.zero_add]
        refine ⟨_, rfl, _, rfl, _, rfl, d0, n, g, E, rfl, s2 _ _ hd1, wf, n20, hg, fun H3 ld s3 nld hld => ?_⟩
        refine ⟨_, rfl, _, rfl, by omega, by omega, fun D hD => ?_⟩
        refine lc_range (lo := 0) (n := n) (fun i H' => Same H3 H' ∧ H' D = some (.lst (iV ((List.range i).filter (oth false E g))))) ⟨same_new _ hD, upd_same⟩ ?_ ?_
        · rintro i H4 hi ⟨s4, h4⟩
          rw [Int.zero_add]
          refine ⟨rfl, _, rfl, _, rfl, rfl, _, rfl, ite2 (fun c => ?_) (fun c => ?_)⟩
          · have nig : i ≠ g := fun e => by
              rw [e] at c
              simp at c
            refine ⟨_, rfl, _, rfl, ld, _, rfl, .inl (SqL.of (s4 _ _ hld)), rfl, iV_flat _, _, rfl, ?_⟩
            show (if (if true = true then !inV (V.int (i : Int)) (iV (others true n E g)) else inV (V.int (i : Int)) (iV (others true n E g))) = true then _ else _)
            rw [if_pos rfl, inV_iV]
            have eo : oth false E g i = !decide (i ∈ others true n E g) := by
              rw [Bool.eq_iff_iff, oth_iff]
              unfold others
              simp only [List.mem_filter, List.mem_range, oth_iff, decide_eq_false_iff_not, Bool.not_eq_true', decide_eq_true_eq, not_and]
              constructor
              · rintro ⟨_, h⟩ _ _
                exact h
              · intro h
                exact ⟨nig, h hi nig⟩
            rw [← eo]
            refine ite2 (fun c2 => ?_) (fun c2 => ?_)
            · refine ⟨_, rfl, _, h4, iV_line (by omega), same_keepNew s4 hD (Keep.put D _), ?_⟩
              rw [upd_same, filter_yes c2, iV_snoc]
            · refine ⟨s4, ?_⟩
              rw [filter_no c2]
              exact h4
          · have eig : i = g := by
              by_cases e : i = g
              · exact e
              · exact absurd (by simp; omega) c
            refine ⟨s4, ?_⟩
            rw [filter_no (by rw [oth_iff]; exact fun z => z.1 eig)]
            exact h4
        · rintro H4 ⟨s4, h4⟩
          have S4 := s1.trans (s2.trans (s3.trans s4))
          refine r_known (rv rfl) (rv rfl) (hall.same S4) hg fun H5 l5 s5 n5 h5 => ?_
          rw [others_eqv eqv] at h5
          refine ⟨_, rfl, l5, ld, _, rfl, h5, s5 _ _ (s4 _ _ hld), true, rfl, iteF ?_⟩
          refine r_strangers (rv rfl) (rv rfl) (hall.same (S4.trans s5)) hg fun H6 l6 s6 n6 h6 => ?_
          rw [others_eqv eqv] at h6
          refine ⟨_, rfl, l6, D, _, rfl, h6, s6 _ _ (s5 _ _ h4), true, rfl, iteF ?_⟩
          exact ⟨_, _, _, _, rfl, s2.trans (s3.trans (s4.trans (s5.trans s6)))⟩
      · rintro σ H2 ⟨v6, v7, v8, v9, rfl, s2⟩
        exact q _ (s1.trans s2)
end
end KT

/-! the law's defs: how many, the hall of pairs -/
namespace KT
open PySem PySem.Spec PyProof.Rows L2
section
variable {P : Program} {w : World} {K : PySem.W.Frag} {mg : Str → Option Value} {base : Heap} {C cNG cSG cKA cST cBH : Addr}
theorem sc_hall_of : FnScope ["many", "pairs", "hall", "one", "other"] ["many", "pairs"] (defScope st_l_hall_of) := ⟨rfl, rfl, rfl, by decide +kernel, rfl, by decide +kernel, by decide +kernel⟩
theorem ok_hall_of {f : Addr} {fd : FuncData} (F : Fun K "_law_hall_of" "_law_hall_of" st_l_hall_of f fd) (T : HT K mg C cNG cSG cKA cST cBH)
    (mkH : MakD P w K mg base (L2N.CX P w) C 1 "Hall" (spInit C cBH)) (mM : MetD P w K mg base (L2N.CX P w) C 4 "meet" (spMeet C cNG cSG cKA)) :
    FnOk P w K mg base CX0 5 f fd ["many", "pairs"] (spHallOf C) := by
  refine F.ok sc_hall_of (fun vs H Q E h => ?_) (fun cdv A outer s H vs Q E hr h => ?_)
  · obtain ⟨l, n, E, rfl, _⟩ := h
    rfl
  · obtain ⟨l, n, E, rfl, hP, wf, n1, n20, q⟩ := h
    obtain ⟨xs, hl, r⟩ := hP.ex
    refine ⟨_, pss_cons (ps_set (i := 2) sc_hall_of.nd rfl (Or.inl rfl) (pk mkH hr passN (pa_cons (pv 0) pa_nil)))
      (pss_cons (ps_for PassesOwn.never rfl (pi_list (pv 1)) (pg_tup rfl (pgs_cons (pg_name (i := 3) sc_hall_of.nd rfl (Or.inl rfl)) (pgs_cons (pg_name (i := 4) sc_hall_of.nd rfl (Or.inl rfl)) pgs_nil)))
        (pss_one (ps_expr (pm (pv 2) T.cl mM hr passN (pa_cons (pv 3) (pa_cons (pv 4) pa_nil))))))
      (pss_one (ps_ret (pv 2)))), ?_⟩
    refine ⟨_, rfl, make_hall (z := (n : Int)) (fun b => absurd ⟨by omega, by omega⟩ b) ?_⟩
    intro n' en _ _ H1 x d hx hd s1 hall1
    have en : n = n' := by omega
    subst en
    have nxd := hall1.ne
    refine ⟨_, rfl, l, rfl, ⟨_, s1.seq (SqL.of hl)⟩, for_list (K := K) (a := l) (xs := xs) (fun i σ H' => ∃ v3 v4, σ = [some (.int (n : Int)), some (.ref l), some (.ref x), v3, v4] ∧ Same H H' ∧ HallAt C H' x n d (E.take i))
      ⟨none, none, rfl, s1, hall1⟩ (fun i σ H' _ ⟨_, _, _, s2, _⟩ => s2.seq (SqL.of hl)) ?_ ?_⟩
    · rintro i v σ H2 hi ⟨v3, v4, rfl, s2, hall2⟩
      obtain ⟨p, hp, hv⟩ := (r.keep (fun b ys z => s2 b _ z)).get hi
      obtain ⟨a, rfl, ha⟩ := hv
      obtain ⟨dx, hx2⟩ := hall2.ins
      have pw := wf.2 p (List.mem_of_getElem? hp)
      refine ⟨a, _, rfl, SqT.of ha, rfl, _, _, rfl, _, _, rfl, rfl, ?_⟩
      have nm : (hf n d).lookup ("meet" : Str) = none := hf_no _ _ (by decide +kernel) (by decide +kernel)
      have tk1 : E.take (i + 1) = E.take i ++ [p] := by
        rw [List.take_add_one, hp]
        rfl
      have nin : p ∉ E.take i := by
        have nd : (E.take (i + 1)).Nodup := wf.1.sublist (List.take_sublist _ _)
        rw [tk1] at nd
        exact fun m => (List.pairwise_append.mp nd).2.2 p m p (List.mem_singleton.mpr rfl) rfl
      have en : nrm p.1 p.2 = p := nrm_lt pw.1
      refine ⟨_, rfl, x, dx, _, rfl, hx2, nm, _, rfl, _, rfl, x, d, n, E.take i, (p.1 : Int), (p.2 : Int), rfl, hall2, fun b => b ⟨isG.of (by omega), isG.of pw.2⟩, fun _ _ e => by omega, ?_, ?_⟩
      · intro i' j' ei ej _ _ _ m
        have ei : p.1 = i' := by omega
        have ej : p.2 = j' := by omega
        rw [← ei, ← ej, en] at m
        exact absurd m nin
      · intro i' j' ei ej _ _ _ _ H3 k3 hall3
        have ei : p.1 = i' := by omega
        have ej : p.2 = j' := by omega
        rw [← ei, ← ej, en, ← tk1] at hall3
        exact ⟨_, _, rfl, same_keepNew s2 hd k3, hall3⟩
    · rintro σ H2 ⟨v3, v4, rfl, s2, hall2⟩
      have e : E.take xs.length = E := by
        rw [Paired.length r, List.take_length]
      rw [e] at hall2
      exact ⟨_, rfl, q _ x d s2 hx hd hall2⟩
end
end KT

/-! the law's def: how many -/
namespace KT
open PySem PySem.Spec PyProof.Rows L2
section
variable {P : Program} {w : World} {K : PySem.W.Frag} {mg : Str → Option Value} {base : Heap}
theorem sc_many_of : FnScope ["script", "head"] ["script"] (defScope st_l_many) := ⟨rfl, rfl, rfl, by decide +kernel, rfl, by decide +kernel, by decide +kernel⟩
theorem ok_many_of {f : Addr} {fd : FuncData} (F : Fun K "_law_many" "_law_many" st_l_many f fd) (cC : CalD P w K mg base CX0 1 "_law_cell_at" (spCell K)) :
    FnOk P w K mg base CX0 2 f fd ["script"] (spManyOf K) := by
  refine F.ok sc_many_of (fun vs H Q E h => ?_) (fun cdv A outer s H vs Q E hr h => ?_)
  · obtain ⟨a, ns, rfl, _⟩ := h
    rfl
  · obtain ⟨a, ns, rfl, hS, q⟩ := h
    refine ⟨_, pss_cons (ps_set (i := 1) sc_many_of.nd rfl (Or.inl rfl) (pc cC hr pass0 (pa_cons (pv 0) (pa_cons pe_int pa_nil))))
      (pss_cons (ps_if (pt_cmpR op_eq (pe_op op_mod (pe_op op_fdiv (pv 1) pe_int) pe_int) pe_int (nomark _)) (pss_one (ps_ret (pe_op op_add pe_int (pe_op op_mod (pe_op op_fdiv (pv 1) pe_int) pe_int)))) pss_nil)
      (pss_one (ps_ret (pe_op op_add pe_int (pe_op op_mod (pv 1) pe_int))))), ?_⟩
    refine ⟨_, rfl, a, ns, 0, rfl, hS, ?_⟩
    have fin : ∀ z : Int, 1 ≤ z → z ≤ 20 → Q (.int z) H := fun z h1 h2 => by
      have e : ((z.toNat : Nat) : Int) = z := by omega
      rw [← e]
      exact q z.toNat (by omega) (by omega)
    refine ⟨_, rfl, _, _, rfl, rfl, ⟨by decide, by decide⟩, _, _, rfl, rfl, (by show (0 : Int) < 4; decide), rfl, _, rfl, ite2 (fun c => ?_) (fun c => ?_)⟩
    · refine ⟨_, rfl, _, _, rfl, rfl, ⟨by decide, by decide⟩, _, _, rfl, rfl, (by show (0 : Int) < 10; decide), _, _, rfl, rfl, fin _ ?_ ?_⟩
      · generalize ns.getD 0 0 = z
        show 1 ≤ 11 + z / 40 % 10
        omega
      · generalize ns.getD 0 0 = z
        show 11 + z / 40 % 10 ≤ 20
        omega
    · refine ⟨_, rfl, _, _, rfl, rfl, (by show (0 : Int) < 10; decide), _, _, rfl, rfl, fin _ ?_ ?_⟩
      · generalize ns.getD 0 0 = z
        show 1 ≤ 1 + z % 10
        omega
      · generalize ns.getD 0 0 = z
        show 1 + z % 10 ≤ 20
        omega
end
end KT

/-! the law's def: two meet or part -/
namespace KT
open PySem PySem.Spec PyProof.Rows L2
theorem turn_ij (n : Nat) (z : Int) (h : 1 < n) : ∃ i j : Nat, z % (n : Int) = (i : Int) ∧ ((i : Int) + 1 + z / (n : Int) % ((n : Int) - 1)) % (n : Int) = (j : Int) ∧ i < n ∧ j < n ∧ i ≠ j := by
  have hn : (0 : Int) < (n : Int) := by omega
  have a1 := Int.emod_nonneg z (Int.ne_of_gt hn)
  have a2 := Int.emod_lt_of_pos z hn
  have hm : (0 : Int) < (n : Int) - 1 := by omega
  have b1 := Int.emod_nonneg (z / (n : Int)) (Int.ne_of_gt hm)
  have b2 := Int.emod_lt_of_pos (z / (n : Int)) hm
  generalize z / (n : Int) % ((n : Int) - 1) = q at *
  obtain ⟨i, ei⟩ : ∃ i : Nat, z % (n : Int) = (i : Int) := ⟨(z % (n : Int)).toNat, by omega⟩
  rw [ei] at a1 a2
  by_cases c : (i : Int) + 1 + q < (n : Int)
  · refine ⟨i, ((i : Int) + 1 + q).toNat, ei, ?_, by omega, by omega, by omega⟩
    rw [Int.emod_eq_of_lt (by omega) c]
    omega
  · refine ⟨i, ((i : Int) + 1 + q - (n : Int)).toNat, ei, ?_, by omega, by omega, by omega⟩
    rw [← Int.sub_emod_right, Int.emod_eq_of_lt (by omega) (by omega)]
    omega
section
variable {P : Program} {w : World} {K : PySem.W.Frag} {mg : Str → Option Value} {base : Heap} {C cNG cSG cKA cST cBH : Addr}
theorem sc_turn : FnScope ["hall", "pairs", "many", "cell", "one", "other", "pair"] ["hall", "pairs", "many", "cell"] (defScope st_l_turn_one) := ⟨rfl, rfl, rfl, by decide +kernel, rfl, by decide +kernel, by decide +kernel⟩
theorem ok_turn {f : Addr} {fd : FuncData} (F : Fun K "_law_turn_one" "_law_turn_one" st_l_turn_one f fd) (T : HT K mg C cNG cSG cKA cST cBH)
    (mP : MetD P w K mg base (L2N.CX P w) C 4 "part" (spPart C cNG cSG cST)) (mM : MetD P w K mg base (L2N.CX P w) C 4 "meet" (spMeet C cNG cSG cKA)) :
    FnOk P w K mg base CX0 5 f fd ["hall", "pairs", "many", "cell"] (spTurnOne C) := by
  refine F.ok sc_turn (fun vs H Q E h => ?_) (fun cdv A outer s H vs Q E hr h => ?_)
  · obtain ⟨x, l, d, n, L, E, z, rfl, _⟩ := h
    rfl
  · obtain ⟨x, l, d, n, L, E, z, rfl, hall, hP, wf, eqv, q⟩ := h
    refine ⟨_, pss_one (ps_if (pt_cmpR op_gt (pv 2) pe_int (nomark _))
      (pss_cons (ps_set (i := 4) sc_turn.nd rfl (Or.inl rfl) (pe_op op_mod (pv 3) (pv 2)))
      (pss_cons (ps_set (i := 5) sc_turn.nd rfl (Or.inl rfl) (pe_op op_mod (pe_op op_add (pe_op op_add (pv 4) pe_int) (pe_op op_mod (pe_op op_fdiv (pv 3) (pv 2)) (pe_op op_sub (pv 2) pe_int))) (pv 2)))
      (pss_cons (ps_set (i := 6) sc_turn.nd rfl (Or.inl rfl) (pe_tup (pa_cons (pe_callB (call_min2 rfl) (by rfl) T.min (by decide +kernel) (pa_cons (pv 4) (pa_cons (pv 5) pa_nil)))
        (pa_cons (pe_callB (call_max2 rfl) (by rfl) T.max (by decide +kernel) (pa_cons (pv 4) (pa_cons (pv 5) pa_nil))) pa_nil))))
      (pss_one (ps_if (pt_cmpR (op_inD (hu65 hr)) (pv 6) (pv 1) (by rfl))
        (pss_cons (ps_expr (pm (pv 0) T.cl mP hr passN (pa_cons (pv 4) (pa_cons (pv 5) pa_nil))))
          (pss_one (ps_expr (pe_bm PySem.F.plainAttrs_list PySem.F.slot_list_remove PySem.F.type_list_remove (mt_removeD (hu65 hr)) (pv 1) (pa_cons (pv 6) pa_nil)))))
        (pss_cons (ps_expr (pm (pv 0) T.cl mM hr passN (pa_cons (pv 4) (pa_cons (pv 5) pa_nil))))
          (pss_one (ps_expr (pe_bm PySem.F.plainAttrs_list PySem.F.slot_list_append PySem.F.type_list_append mt_append (pv 1) (pa_cons (pv 6) pa_nil)))))))))) pss_nil), ?_⟩
    refine ⟨_, rfl, _, _, rfl, rfl, _, rfl, ite2 (fun c => ?pos) (fun c => ?neg)⟩
    case neg => exact q H L E (Keep.refl _ _) hall hP wf eqv
    have n1 : 1 < n := by
      have := of_decide_eq_true c
      omega
    have n20 := hall.hi
    obtain ⟨i, j, ei, ej, hi, hj, nij⟩ := turn_ij n z n1
    refine ⟨_, rfl, _, rfl, _, _, rfl, rfl, (by omega), ?_⟩
    dsimp only
    rw [ei]
    refine ⟨_, rfl, _, _, rfl, rfl, _, rfl, _, rfl, _, _, rfl, rfl, ⟨by omega, by omega⟩, _, rfl, _, _, rfl, rfl, _, _, rfl, rfl, (by omega), _, _, rfl, rfl, _, rfl, _, _, rfl, rfl, (by omega), ?_⟩
    dsimp only
    rw [ej]
    refine ⟨_, rfl, _, rfl, _, _, rfl, _, rfl, _, rfl, _, _, rfl, (by show 2 ≤ sizeLine; decide), fun t ht => ?_⟩
    dsimp only
    rw [min_py, max_py]
    have s1 := same_new (.tup [V.int ((min i j : Nat) : Int), V.int ((max i j : Nat) : Int)]) ht
    have h1 := hall.same s1
    have p1 := hP.same s1
    have tv : PairV (upd H t (.tup [V.int ((min i j : Nat) : Int), V.int ((max i j : Nat) : Int)])) (.ref t) (nrm i j) := ⟨t, rfl, upd_same⟩
    obtain ⟨dx, hx⟩ := h1.ins
    have no1 : (hf n d).lookup ("part" : Str) = none := hf_no _ _ (by decide +kernel) (by decide +kernel)
    have no2 : (hf n d).lookup ("meet" : Str) = none := hf_no _ _ (by decide +kernel) (by decide +kernel)
    have nld : l ≠ d := by
      obtain ⟨xs, e, _⟩ := hP.ex
      exact ne_of e hall.dic (fun z => nomatch z)
    have hD : ∀ b ∈ [d], ∀ ys, (upd H t (.tup [V.int ((min i j : Nat) : Int), V.int ((max i j : Nat) : Int)])) b ≠ some (.tup ys) := fun b hb ys e => by
      rw [List.mem_singleton.mp hb, h1.dic] at e
      cases e
    refine ⟨_, rfl, _, rfl, pD (nrm i j), E.map pD, tv.dp, p1.dp, pD_shaped _, pDs_shaped _, _, rfl, ?_⟩
    rw [any_pD]
    refine ite2 (fun c2 => ?_) (fun c2 => ?_)
    · have inE : nrm i j ∈ E := of_decide_eq_true c2
      have inL : nrm i j ∈ L := (eqv _).mpr inE
      refine ⟨_, rfl, x, dx, _, rfl, hx, no1, _, rfl, _, rfl, x, d, n, L, (i : Int), (j : Int), rfl, h1, fun b => b ⟨isG.of hi, isG.of hj⟩, fun _ _ e => by omega, ?_, ?_⟩
      · intro i' j' ei' ej' _ _ _ nm
        have a1 : i = i' := by omega
        have a2 : j = j' := by omega
        subst a1
        subst a2
        exact absurd inL nm
      · intro i' j' ei' ej' _ _ _ _ H2 k2 hall2
        have a1 : i = i' := by omega
        have a2 : j = j' := by omega
        subst a1
        subst a2
        have p2 : PairsAt H2 l E := p1.keep k2 (by simpa using nld) hD
        have tv2 : PairV H2 (.ref t) (nrm i j) := ⟨t, rfl, k2.at1 (ne_of upd_same h1.dic (fun z => nomatch z)) upd_same⟩
        obtain ⟨xs, hl2, r2⟩ := p2.ex
        obtain ⟨m, pm1, pm2⟩ := place_pD inE
        refine ⟨_, rfl, .inl ⟨rfl, _, SqL.of hl2⟩, _, rfl, l, xs, _, E.map pD, pD (nrm i j), m, rfl, rfl, hl2, r2.dp, tv2.dp, pDs_plain E, (by simp [PyData.plain, PyData.plainAll, pD]), (by rw [pD_depth]; decide), pm1, ?_⟩
        refine q _ (L.erase (nrm i j)) (E.erase (nrm i j)) ?_ (hall2.keep (Keep.put l _) ?_ ?_) ⟨xs.eraseIdx m, upd_same, ?_⟩ (wf.erase _) (eqv.erase hall.wf.1 wf.1 _)
        · intro b o nb e
          simp only [List.mem_cons, List.not_mem_nil, or_false, not_or] at nb
          rw [upd_ne nb.2]
          exact k2.at1 nb.1 (s1 b o e)
        · obtain ⟨dx2, e2⟩ := hall2.ins
          simpa using ne_of e2 hl2 (fun z => nomatch z)
        · simpa using nld.symm
        · rw [← pm2]
          exact (r2.eraseIdx m).keep fun b ys z => by rw [upd_ne (ne_of z hl2 (fun z => nomatch z))]; exact z
    · have ninE : nrm i j ∉ E := fun m => c2 (decide_eq_true m)
      have ninL : nrm i j ∉ L := fun m => ninE ((eqv _).mp m)
      refine ⟨_, rfl, x, dx, _, rfl, hx, no2, _, rfl, _, rfl, x, d, n, L, (i : Int), (j : Int), rfl, h1, fun b => b ⟨isG.of hi, isG.of hj⟩, fun _ _ e => by omega, ?_, ?_⟩
      · intro i' j' ei' ej' _ _ _ nm
        have a1 : i = i' := by omega
        have a2 : j = j' := by omega
        subst a1
        subst a2
        exact absurd nm ninL
      · intro i' j' ei' ej' _ _ _ _ H2 k2 hall2
        have a1 : i = i' := by omega
        have a2 : j = j' := by omega
        subst a1
        subst a2
        have p2 : PairsAt H2 l E := p1.keep k2 (by simpa using nld) hD
        have tv2 : PairV H2 (.ref t) (nrm i j) := ⟨t, rfl, k2.at1 (ne_of upd_same h1.dic (fun z => nomatch z)) upd_same⟩
        obtain ⟨xs, hl2, r2⟩ := p2.ex
        have len2 : xs.length < sizeLine := by
          rw [Paired.length r2]
          exact Nat.lt_of_le_of_lt (wf.len n20) (by decide)
        refine ⟨_, rfl, .inl ⟨rfl, _, SqL.of hl2⟩, _, rfl, l, xs, _, rfl, rfl, hl2, len2, ?_⟩
        refine q _ (L ++ [nrm i j]) (E ++ [nrm i j]) ?_ (hall2.keep (Keep.put l _) ?_ ?_) ⟨xs ++ [.ref t], upd_same, ?_⟩ (wf.snoc (nrm_ok nij hi hj) ninE) (eqv.snoc _)
        · intro b o nb e
          simp only [List.mem_cons, List.not_mem_nil, or_false, not_or] at nb
          rw [upd_ne nb.2]
          exact k2.at1 nb.1 (s1 b o e)
        · obtain ⟨dx2, e2⟩ := hall2.ins
          simpa using ne_of e2 hl2 (fun z => nomatch z)
        · simpa using nld.symm
        · exact (r2.snoc tv2).keep fun b ys z => by rw [upd_ne (ne_of z hl2 (fun z => nomatch z))]; exact z
end
end KT

/-! law 11 -/
namespace KT
open PySem PySem.Spec PyProof.Rows L2
def spRight11 (C : Addr) : Sp := fun vs H Q _ => ∃ (p l d : Addr) (n : Nat) (L E : List Pr) (z : Int), vs = [.ref p, .ref l, .int (n : Int), .int z] ∧ HallAt C H p n d L ∧ PairsAt H l E ∧ WF n E ∧ Eqv L E ∧ ∀ H', Same H H' → Q (.bl true) H'
section
variable {P : Program} {w : World} {K : PySem.W.Frag} {mg : Str → Option Value} {base : Heap} {C cNG cSG cKA cST cBH cNT cHE : Addr}
theorem sc_right : FnScope ["hall", "pairs", "many", "cell", "text", "one", "other", "found", "again"] ["hall", "pairs", "many", "cell"] (defScope st_l_right) := ⟨rfl, rfl, rfl, by decide +kernel, rfl, by decide +kernel, by decide +kernel⟩
theorem ok_right {f : Addr} {fd : FuncData} (F : Fun K "_law_right" "_law_right" st_l_right f fd) (his : mg "isinstance" = none) (hstr : mg "str" = none) (hlist : mg "list" = none) (hsorted : mg "sorted" = none)
    (cSh : CalD P w K mg base CX0 5 "shown" (spShown C)) (cR : CalD P w K mg base (L2.CX P w) 6 "read" (spRead C cNT)) (cS : CalD P w K mg base CX0 5 "_law_same" (spSame C)) (c3 : CalD P w K mg base CX0 5 "threes" (spThrees C)) (cHm : CalD P w K mg base CX0 5 "how_many" (spHowMany C))
    (cT : CalD P w K mg base CX0 5 "_law_turn_one" (spTurnOne C)) : FnOk P w K mg base CX0 7 f fd ["hall", "pairs", "many", "cell"] (spRight11 C) := by
  refine F.ok sc_right (fun vs H Q E h => ?_) (fun cdv A outer s H vs Q E hr h => ?_)
  · obtain ⟨p, l, d, n, L, E, z, rfl, _⟩ := h
    rfl
  · obtain ⟨p, l, d, n, L, E, z, rfl, hall, hP, wf, eqv, q⟩ := h
    have n1 := hall.lo
    have n20 := hall.hi
    have sl : sizeLine = 16777216 := sizeLine_eq
    refine ⟨_, pss_cons (ps_set (i := 4) sc_right.nd rfl (Or.inl rfl) (pe_op op_add_str (pe_op op_add_str pe_str (pe_callTy call_str_int (by rfl) hstr (by decide +kernel) (pa_cons (pv 2) pa_nil))) pe_str))
      (pss_cons (ps_for PassesOwn.never rfl (pi_list (pe_callB cr_sortedPO (by rfl) hsorted (by decide +kernel) (pa_cons (pv 1) pa_nil))) (pg_tup rfl (pgs_cons (pg_name (i := 5) sc_right.nd rfl (Or.inl rfl)) (pgs_cons (pg_name (i := 6) sc_right.nd rfl (Or.inl rfl)) pgs_nil)))
        (pss_one (ps_set (i := 4) sc_right.nd rfl (Or.inl rfl) (pe_op op_add_str (pe_op op_add_str (pe_op op_add_str (pe_op op_add_str (pv 4) (pe_callTy call_str_int (by rfl) hstr (by decide +kernel) (pa_cons (pv 5) pa_nil))) pe_str) (pe_callTy call_str_int (by rfl) hstr (by decide +kernel) (pa_cons (pv 6) pa_nil))) pe_str))))
      (pss_cons (ps_set (i := 7) sc_right.nd rfl (Or.inl rfl) (pc cSh hr pass0 (pa_cons (pv 0) pa_nil)))
      (pss_cons (ps_if (PW.pt (pw_or (pt_not (pt_val (pe_callB call_isi (by rfl) his (by decide +kernel) (pa_cons (pv 7) (pa_cons (pe_bltn (v := .ty "str") (by rfl) hstr (by decide +kernel) rfl) pa_nil))))) (pw_or1 (pt_cmpR op_ne (pv 7) (pv 4) (nomark _))))) (pss_one (ps_ret pe_bl)) pss_nil)
      (pss_cons (ps_set (i := 8) sc_right.nd rfl (Or.inl rfl) (pc cR hr passX (pa_cons (pv 7) pa_nil)))
      (pss_cons (ps_if (PW.pt (pw_or (pt_not (pt_val (pc cS hr pass0 (pa_cons (pv 8) (pa_cons (pv 1) (pa_cons (pv 2) pa_nil)))))) (pw_or1 (pt_cmpR op_ne (pc cSh hr pass0 (pa_cons (pv 8) pa_nil)) (pv 4) (nomark _))))) (pss_one (ps_ret pe_bl)) pss_nil)
      (pss_cons (ps_if (PW.pt (pw_or (pt_cmpR op_ne (pc cHm hr pass0 (pa_cons (pv 8) pa_nil)) (pc cHm hr pass0 (pa_cons (pv 0) pa_nil)) (nomark _)) (pw_or1 (pt_cmpR (op_neD hr.units) (pc c3 hr pass0 (pa_cons (pv 8) pa_nil)) (pc c3 hr pass0 (pa_cons (pv 0) pa_nil)) (nomark _))))) (pss_one (ps_ret pe_bl)) pss_nil)
      (pss_cons (ps_expr (pc cT hr pass0 (pa_cons (pv 8) (pa_cons (pe_callTy call_list_of (by rfl) hlist (by decide +kernel) (pa_cons (pv 1) pa_nil)) (pa_cons (pv 2) (pa_cons (pv 3) pa_nil))))))
      (pss_one (ps_ret (pe_and (pc cS hr pass0 (pa_cons (pv 0) (pa_cons (pv 1) (pa_cons (pv 2) pa_nil)))) (pe_one (pe_cmpR op_eq (pc cSh hr pass0 (pa_cons (pv 0) pa_nil)) (pv 4) (nomark _))))))))))))), ?_⟩
    have ln := len_num (i := n) (by omega)
    refine ⟨_, rfl, _, rfl, log2_small (i := n) (by omega), _, _, rfl, rfl, ?_, _, _, rfl, rfl, ?_, ?_⟩
    · rw [len_guests]
      omega
    · rw [len_cat, len_guests, len_nl]
      omega
    obtain ⟨ps, hps, rps⟩ := hP.ex
    obtain ⟨k1, k2⟩ := sort_pairs rps wf.1
    refine ⟨_, rfl, l, ps, tk2 H, rfl, SqL.of hps, k1, fun ys a0 hs hst na0 => ?_⟩
    obtain ⟨E', r', pe, so⟩ := k2 ys hs hst.perm
    have eE : E' = edgeL n L := srt_eq so (edgeTo_srt n L n) fun x => (pe.mem_iff).trans (((eqv x).symm).trans ((edgeL_eqv hall.wf) x).symm)
    have s1 := same_new (.lst ys) na0
    have ha : upd H a0 (.lst ys) a0 = some (.lst ys) := upd_same
    have r1 := r'.keep fun b zs e => s1 _ _ e
    generalize upd H a0 (.lst ys) = H1 at s1 ha r1
    have wfe : WF n (edgeL n L) := edgeL_wf L
    refine ⟨a0, rfl, ⟨_, SqL.of ha⟩, for_list (K := K) (a := a0) (xs := ys) (fun i σ H' => ∃ (t : Str) (v5 v6 : Option V), σ = [some (.ref p), some (.ref l), some (.int (n : Int)), some (.int z), some (.str t), v5, v6, none, none] ∧ H' = H1 ∧ t = SX.S (headC n ++ [10] ++ bodyC (E'.take i)))
      ⟨_, none, none, rfl, rfl, ?_⟩ (fun i σ H' _ ⟨_, _, _, _, e, _⟩ => by rw [e]; exact SqL.of ha) ?_ ?_⟩
    · show _ = SX.S (headC n ++ [10] ++ [])
      rw [List.append_nil]
      exact txt_head n
    · rintro i v σ H2 hi ⟨t, v5, v6, rfl, rfl, et⟩
      obtain ⟨pr, hpr, hv⟩ := r1.get hi
      obtain ⟨b, rfl, hb⟩ := hv
      have pm := wfe.2 pr (by rw [← eE]; exact List.mem_of_getElem? hpr)
      have tl : t.length ≤ 3000 := by
        rw [et, SX.S_len, List.length_append, List.length_append, List.length_singleton]
        have a := headC_len (n := n) (by omega)
        have b := bodyC_len n20 (E := E'.take i) fun q hq => wf_both wfe q (by rw [← eE]; exact List.mem_of_mem_take hq)
        have c := List.length_take_le' i E'
        have e := wfe.len n20
        rw [← eE] at e
        omega
      have a1 := len_num (i := pr.1) (by omega)
      have a2 := len_num (i := pr.2) (by omega)
      refine ⟨b, _, rfl, SqT.of hb, rfl, _, _, rfl, _, _, rfl, rfl, ?_⟩
      refine ⟨_, rfl, _, rfl, _, rfl, log2_small (by omega), _, _, rfl, rfl, (by omega), _, _, rfl, rfl, ?_, _, rfl, _, rfl, log2_small (by omega), _, _, rfl, rfl, ?_, _, _, rfl, rfl, ?_, ?_⟩
      · rw [len_cat, len_sp]
        omega
      · rw [len_cat, len_cat, len_sp]
        omega
      · rw [len_cat, len_cat, len_cat, len_sp, len_nl]
        omega
      · refine ⟨_, _, _, rfl, rfl, ?_⟩
        rw [take_more hpr, bodyC_snoc, ← List.append_assoc]
        exact txt_line et pr.1 pr.2
    · rintro σ H2 ⟨t, v5, v6, rfl, rfl, et⟩
      have lE : ys.length = E'.length := Paired.length r1
      rw [lE, List.take_length, eE, ← textC_eq] at et
      subst et
      refine ⟨_, rfl, p, d, n, L, rfl, hall.same s1, fun H3 s3 => ?_⟩
      refine ⟨_, rfl, _, _, _, _, true, rfl, .ty "str", .base (.str _), kit_ty (by decide +kernel), true, rfl, iteF ?_⟩
      refine ⟨_, rfl, _, rfl, rfl, _, rfl, iteNS rfl ?_⟩
      have S3 := s1.trans s3
      have rd := read_text n1 n20 wfe
      refine ⟨_, rfl, textC n (edgeL n L), rfl, (by have := textC_len n20 wfe; omega), fun no => (by rw [rd] at no; cases no), fun n' L' e H4 x d4 s4 nx nd4 hall4 => ?_⟩
      have en : n' = n ∧ L' = edgeL n L := by
        rw [rd] at e
        injection e with e
        injection e with e1 e2
        exact ⟨e1.symm, e2.symm⟩
      obtain ⟨rfl, rfl⟩ := en
      have S4 := S3.trans s4
      have ev := edgeL_eqv hall.wf
      have ev2 : Eqv (edgeL n' L) E := fun x => (ev x).trans (eqv x)
      refine ⟨_, rfl, _, rfl, _, rfl, x, l, d4, n', edgeL n' L, E, rfl, hall4, hP.same S4, wf, ev2, fun H5 s5 => ⟨true, rfl, iteF ?_⟩⟩
      refine ⟨_, rfl, x, d4, n', _, rfl, hall4.same s5, fun H6 s6 => ?_⟩
      rw [edgeL_same ev]
      refine ⟨_, rfl, rfl, _, rfl, iteNS rfl ?_⟩
      have s46 := s5.trans s6
      refine ⟨_, rfl, x, d4, n', _, rfl, hall4.same s46, fun H7 s7 => ?_⟩
      have S7 := S4.trans (s46.trans s7)
      refine ⟨_, rfl, p, d, n', L, rfl, hall.same S7, fun H8 s8 => ?_⟩
      rw [threes_eqv ev]
      refine ⟨rfl, _, rfl, iteNS rfl ?_⟩
      have s48 := s46.trans (s7.trans s8)
      refine ⟨_, rfl, x, d4, n', _, rfl, hall4.same s48, fun H9 t1 s9 _ q1 => ?_⟩
      have s49 := s48.trans s9
      have S9 := S4.trans s49
      refine ⟨_, rfl, p, d, n', L, rfl, hall.same S9, fun H10 t2 s10 _ q2 => ?_⟩
      rw [threes_eqv ev] at q1
      refine ⟨_, _, (q1.same s10).dp, q2.dp, tDs_shaped _, tDs_shaped _, _, rfl, ?_⟩
      rw [SeqAt.eqv_refl_plain _ (show PyData.plain (.list ((threesL n' L).map tD)) = true by simp [PyData.plain, tDs_plain])]
      refine iteF ?_
      have s410 := s49.trans s10
      have S10 := S4.trans s410
      have hP10 := hP.same S10
      obtain ⟨ps2, hps2, rps2⟩ := hP10.ex
      refine ⟨_, rfl, _, rfl, l, _, rfl, .inl (SqL.of hps2), fun c0 nc0 => ?_⟩
      have s11 := same_new (.lst ps2) nc0
      have pc : PairsAt (upd H10 c0 (.lst ps2)) c0 E := ⟨ps2, upd_same, rps2.keep fun b zs z => s11 _ _ z⟩
      generalize upd H10 c0 (.lst ps2) = H11 at s11 pc
      refine ⟨_, rfl, _, rfl, x, c0, d4, n', edgeL n' L, E, z, rfl, hall4.same (s410.trans s11), pc, wf, ev2, fun H12 L12 E12 k12 _ _ _ _ => ?_⟩
      have S12 : Same H H12 := same_keepNews (S10.trans s11) (by
        intro b hb
        simp only [List.mem_cons, List.not_mem_nil, or_false] at hb
        rcases hb with rfl | rfl
        · exact S3.free nd4
        · exact S10.free nc0) k12
      refine ⟨_, rfl, _, rfl, _, rfl, p, l, d, n', L, E, rfl, hall.same S12, hP.same S12, wf, eqv, fun H13 s13 => ⟨true, rfl, iteT ?_⟩⟩
      refine ⟨_, rfl, p, d, n', L, rfl, hall.same (S12.trans s13), fun H14 s14 => ?_⟩
      refine ⟨_, rfl, rfl, ?_⟩
      have e : decide (V.str (SX.S (textC n' (edgeL n' L))) = V.str (SX.S (textC n' (edgeL n' L)))) = true := decide_eq_true rfl
      rw [e]
      exact q _ ((S12.trans s13).trans s14)
theorem sc_law : FnScope ["script", "many", "pairs", "hall"] ["script"] (defScope st_law) := ⟨rfl, rfl, rfl, by decide +kernel, rfl, by decide +kernel, by decide +kernel⟩
theorem ok_law {f : Addr} {fd : FuncData} (F : Fun K "law" "law" st_law f fd)
    (cC : CalD P w K mg base CX0 1 "_law_cell_at" (spCell K)) (cM : CalD P w K mg base CX0 2 "_law_many" (spManyOf K)) (cP : CalD P w K mg base CX0 2 "_law_pairs_by" (spPairsBy K))
    (cH : CalD P w K mg base CX0 5 "_law_hall_of" (spHallOf C)) (cT : CalD P w K mg base CX0 5 "_law_turn_one" (spTurnOne C)) (cR : CalD P w K mg base CX0 7 "_law_right" (spRight11 C)) :
    FnOk P w K mg base CX0 8 f fd ["script"] (spLaw K) := by
  refine F.ok sc_law (fun vs H Q E h => ?_) (fun cdv A outer s H vs Q E hr h => ?_)
  · obtain ⟨a, ns, rfl, _⟩ := h
    rfl
  · obtain ⟨a, ns, rfl, hS, h63, q⟩ := h
    refine ⟨_, pss_cons (ps_set (i := 1) sc_law.nd rfl (Or.inl rfl) (pc cM hr pass0 (pa_cons (pv 0) pa_nil)))
      (pss_cons (ps_set (i := 2) sc_law.nd rfl (Or.inl rfl) (pc cP hr pass0 (pa_cons (pv 0) (pa_cons pe_int (pa_cons (pv 1) pa_nil)))))
      (pss_cons (ps_set (i := 3) sc_law.nd rfl (Or.inl rfl) (pc cH hr pass0 (pa_cons (pv 1) (pa_cons (pv 2) pa_nil))))
      (pss_cons (ps_if (pt_not (pt_val (pc cR hr pass0 (pa_cons (pv 3) (pa_cons (pv 2) (pa_cons (pv 1) (pa_cons (pc cC hr pass0 (pa_cons (pv 0) (pa_cons pe_int pa_nil))) pa_nil))))))) (pss_one (ps_ret pe_bl)) pss_nil)
      (pss_cons (ps_expr (pc cT hr pass0 (pa_cons (pv 3) (pa_cons (pv 2) (pa_cons (pv 1) (pa_cons (pc cC hr pass0 (pa_cons (pv 0) (pa_cons pe_int pa_nil))) pa_nil))))))
      (pss_one (ps_ret (pc cR hr pass0 (pa_cons (pv 3) (pa_cons (pv 2) (pa_cons (pv 1) (pa_cons (pc cC hr pass0 (pa_cons (pv 0) (pa_cons pe_int pa_nil))) pa_nil))))))))))), ?_⟩
    refine ⟨_, rfl, a, ns, rfl, hS, fun n n1 n20 => ?_⟩
    refine ⟨_, rfl, _, rfl, a, ns, 3, n, rfl, hS, n1, n20, fun H1 l E s1 nl hP wf _ => ?_⟩
    refine ⟨_, rfl, _, rfl, l, n, E, rfl, hP, wf, n1, n20, fun H2 x d s2 _ nd hall => ?_⟩
    have hP2 := hP.same s2
    have S2 := s1.trans s2
    refine ⟨_, rfl, _, rfl, _, rfl, _, rfl, a, ns, 2, rfl, S2.seq hS, ?_⟩
    refine ⟨x, l, d, n, E, E, _, rfl, hall, hP2, wf, Eqv.refl E, fun H3 s3 => ?_⟩
    refine ⟨true, rfl, iteF ?_⟩
    have S3 := S2.trans s3
    refine ⟨_, rfl, _, rfl, _, rfl, _, rfl, a, ns, 1, rfl, S3.seq hS, ?_⟩
    refine ⟨x, l, d, n, E, E, _, rfl, hall.same s3, hP2.same s3, wf, Eqv.refl E, fun H5 L' E' k5 hall5 hP5 wf5 eqv5 => ?_⟩
    have hS5 : SqL K H5 a (ns.map V.int) := seq_keep k5 S3 hS (by
      intro b hb
      simp only [List.mem_cons, List.not_mem_nil, or_false] at hb
      rcases hb with rfl | rfl
      · exact s1.free nd
      · exact nl)
    refine ⟨_, rfl, _, rfl, _, rfl, _, rfl, a, ns, 2, rfl, hS5, ?_⟩
    exact ⟨x, l, d, n, L', E', _, rfl, hall5, hP5, wf5, eqv5, fun H6 _ => q H6⟩
end
end KT

/-! what the top has written, each def in order -/
namespace KT
open PySem PySem.Spec PyProof.Rows L2
theorem all_mk {P : Program} {w : World} {K : PySem.W.Frag} {h : Heap} {mg : Str → Option Value} {fa C cNG cSG cKA cST cBH cNT cHE f0 f1 f2 f3 f4 f5 f6 f7 f8 f9 f10 f11 f12 f13 f14 f15 f16 f17 f18 f19 f20 f21 f22 f23 f24 f25 f26 : Addr} {tgr : Tok} {tF : Tok} (X : K.In h) (G : h.Ns mainGlobals mg) (hfa : mg "law" = some (.ref fa))
    {od0 an0 od1 an1 od2 an2 od3 an3 od4 an4 od5 an5 od6 an6 od7 an7 od8 an8 od9 an9 od10 an10 od11 an11 od12 an12 od13 an13 od14 an14 od15 an15 od16 an16 od17 an17 od18 an18 od19 an19 od20 an20 od21 an21 od22 an22 od23 an23 od24 an24 od25 an25 od26 an26 : Option Addr} {sl0 sl1 sl2 sl3 sl4 sl5 sl6 sl7 sl8 sl9 sl10 sl11 sl12 sl13 sl14 sl15 sl16 sl17 sl18 sl19 sl20 sl21 sl22 sl23 sl24 sl25 sl26 : Array (Option Value)} {oc0 kV0 dc0 pm0 cd0 ct0 oc1 kV1 dc1 pm1 cd1 ct1 oc2 kV2 dc2 pm2 cd2 ct2 oc3 kV3 dc3 pm3 cd3 ct3 oc4 kV4 dc4 pm4 cd4 ct4 oc5 kV5 dc5 pm5 cd5 ct5 oc6 kV6 dc6 pm6 cd6 ct6 oc7 kV7 dc7 pm7 cd7 ct7 oc8 kV8 dc8 pm8 cd8 ct8 oc9 kV9 dc9 pm9 cd9 ct9 oc10 kV10 dc10 pm10 cd10 ct10 oc11 kV11 dc11 pm11 cd11 ct11 oc12 kV12 dc12 pm12 cd12 ct12 oc13 kV13 dc13 pm13 cd13 ct13 oc14 kV14 dc14 pm14 cd14 ct14 oc15 kV15 dc15 pm15 cd15 ct15 oc16 kV16 dc16 pm16 cd16 ct16 oc17 kV17 dc17 pm17 cd17 ct17 oc18 kV18 dc18 pm18 cd18 ct18 oc19 kV19 dc19 pm19 cd19 ct19 oc20 kV20 dc20 pm20 cd20 ct20 oc21 kV21 dc21 pm21 cd21 ct21 oc22 kV22 dc22 pm22 cd22 ct22 oc23 kV23 dc23 pm23 cd23 ct23 oc24 kV24 dc24 pm24 cd24 ct24 oc25 kV25 dc25 pm25 cd25 ct25 oc26 kV26 dc26 pm26 cd26 ct26 : Value}
    (aC : PySem.W.nsIn K mainGlobals "Hall" = some (some (.ref C)))
    (gcNG : PySem.W.nsIn K mainGlobals "NoGuest" = some (some (.ref cNG)))
    (ecNG : PySem.W.excIn K cNG [.type "ValueError", .type "Exception", .type "BaseException", .type "object"] "ValueError.__new__" = true)
    (kcNG : PySem.W.keepIn K (.ref cNG) = true)
    (bcNG : PySem.W.subIn K (.ref cNG) (.type "BaseException") = some true)
    (tcNG : PySem.W.typeIn K (.ref cNG) = some (.type "type"))
    (gcSG : PySem.W.nsIn K mainGlobals "SameGuest" = some (some (.ref cSG)))
    (ecSG : PySem.W.excIn K cSG [.type "ValueError", .type "Exception", .type "BaseException", .type "object"] "ValueError.__new__" = true)
    (kcSG : PySem.W.keepIn K (.ref cSG) = true)
    (bcSG : PySem.W.subIn K (.ref cSG) (.type "BaseException") = some true)
    (tcSG : PySem.W.typeIn K (.ref cSG) = some (.type "type"))
    (gcKA : PySem.W.nsIn K mainGlobals "KnowAlready" = some (some (.ref cKA)))
    (ecKA : PySem.W.excIn K cKA [.type "ValueError", .type "Exception", .type "BaseException", .type "object"] "ValueError.__new__" = true)
    (kcKA : PySem.W.keepIn K (.ref cKA) = true)
    (bcKA : PySem.W.subIn K (.ref cKA) (.type "BaseException") = some true)
    (tcKA : PySem.W.typeIn K (.ref cKA) = some (.type "type"))
    (gcST : PySem.W.nsIn K mainGlobals "Strangers" = some (some (.ref cST)))
    (ecST : PySem.W.excIn K cST [.type "ValueError", .type "Exception", .type "BaseException", .type "object"] "ValueError.__new__" = true)
    (kcST : PySem.W.keepIn K (.ref cST) = true)
    (bcST : PySem.W.subIn K (.ref cST) (.type "BaseException") = some true)
    (tcST : PySem.W.typeIn K (.ref cST) = some (.type "type"))
    (gcBH : PySem.W.nsIn K mainGlobals "BadHall" = some (some (.ref cBH)))
    (ecBH : PySem.W.excIn K cBH [.type "ValueError", .type "Exception", .type "BaseException", .type "object"] "ValueError.__new__" = true)
    (kcBH : PySem.W.keepIn K (.ref cBH) = true)
    (bcBH : PySem.W.subIn K (.ref cBH) (.type "BaseException") = some true)
    (tcBH : PySem.W.typeIn K (.ref cBH) = some (.type "type"))
    (gcNT : PySem.W.nsIn K mainGlobals "NoText" = some (some (.ref cNT)))
    (ecNT : PySem.W.excIn K cNT [.type "ValueError", .type "Exception", .type "BaseException", .type "object"] "ValueError.__new__" = true)
    (kcNT : PySem.W.keepIn K (.ref cNT) = true)
    (bcNT : PySem.W.subIn K (.ref cNT) (.type "BaseException") = some true)
    (tcNT : PySem.W.typeIn K (.ref cNT) = some (.type "type"))
    (gr : PySem.W.nsIn K mainGlobals "GREATEST" = some (some (.int 20 tgr)))
    (a0 : PySem.W.findIn K (.ref C) "__init__" = some (some (.ref f0)))
    (i0 : PySem.W.isFn K (.ref f0) = true)
    (l0 : K.lookup f0 = some ⟨oc0, od0, .func (PySem.W.fnOf "__init__" "Hall.__init__" (defArgs st_Hall_init) (defBody st_Hall_init) (defScope st_Hall_init) .none kV0 dc0 pm0 an0 cd0 ct0), sl0⟩)
    (c0 : PySem.W.codeIn K cd0 "Hall.__init__" = true)
    (k0 : PySem.W.keepIn K (.ref f0) = true)
    (a1 : PySem.W.findIn K (.ref C) "many" = some (some (.ref f1)))
    (i1 : PySem.W.isFn K (.ref f1) = true)
    (l1 : K.lookup f1 = some ⟨oc1, od1, .func (PySem.W.fnOf "many" "Hall.many" (defArgs st_Hall_many) (defBody st_Hall_many) (defScope st_Hall_many) .none kV1 dc1 pm1 an1 cd1 ct1), sl1⟩)
    (c1 : PySem.W.codeIn K cd1 "Hall.many" = true)
    (k1 : PySem.W.keepIn K (.ref f1) = true)
    (a2 : PySem.W.findIn K (.ref C) "see" = some (some (.ref f2)))
    (i2 : PySem.W.isFn K (.ref f2) = true)
    (l2 : K.lookup f2 = some ⟨oc2, od2, .func (PySem.W.fnOf "see" "Hall.see" (defArgs st_Hall_see) (defBody st_Hall_see) (defScope st_Hall_see) .none kV2 dc2 pm2 an2 cd2 ct2), sl2⟩)
    (c2 : PySem.W.codeIn K cd2 "Hall.see" = true)
    (k2 : PySem.W.keepIn K (.ref f2) = true)
    (a3 : PySem.W.findIn K (.ref C) "see_two" = some (some (.ref f3)))
    (i3 : PySem.W.isFn K (.ref f3) = true)
    (l3 : K.lookup f3 = some ⟨oc3, od3, .func (PySem.W.fnOf "see_two" "Hall.see_two" (defArgs st_Hall_see_two) (defBody st_Hall_see_two) (defScope st_Hall_see_two) .none kV3 dc3 pm3 an3 cd3 ct3), sl3⟩)
    (c3 : PySem.W.codeIn K cd3 "Hall.see_two" = true)
    (k3 : PySem.W.keepIn K (.ref f3) = true)
    (a4 : PySem.W.findIn K (.ref C) "know" = some (some (.ref f4)))
    (i4 : PySem.W.isFn K (.ref f4) = true)
    (l4 : K.lookup f4 = some ⟨oc4, od4, .func (PySem.W.fnOf "know" "Hall.know" (defArgs st_Hall_know) (defBody st_Hall_know) (defScope st_Hall_know) .none kV4 dc4 pm4 an4 cd4 ct4), sl4⟩)
    (c4 : PySem.W.codeIn K cd4 "Hall.know" = true)
    (k4 : PySem.W.keepIn K (.ref f4) = true)
    (a5 : PySem.W.findIn K (.ref C) "meet" = some (some (.ref f5)))
    (i5 : PySem.W.isFn K (.ref f5) = true)
    (l5 : K.lookup f5 = some ⟨oc5, od5, .func (PySem.W.fnOf "meet" "Hall.meet" (defArgs st_Hall_meet) (defBody st_Hall_meet) (defScope st_Hall_meet) .none kV5 dc5 pm5 an5 cd5 ct5), sl5⟩)
    (c5 : PySem.W.codeIn K cd5 "Hall.meet" = true)
    (k5 : PySem.W.keepIn K (.ref f5) = true)
    (a6 : PySem.W.findIn K (.ref C) "part" = some (some (.ref f6)))
    (i6 : PySem.W.isFn K (.ref f6) = true)
    (l6 : K.lookup f6 = some ⟨oc6, od6, .func (PySem.W.fnOf "part" "Hall.part" (defArgs st_Hall_part) (defBody st_Hall_part) (defScope st_Hall_part) .none kV6 dc6 pm6 an6 cd6 ct6), sl6⟩)
    (c6 : PySem.W.codeIn K cd6 "Hall.part" = true)
    (k6 : PySem.W.keepIn K (.ref f6) = true)
    (a7 : PySem.W.findIn K (.ref C) "known" = some (some (.ref f7)))
    (i7 : PySem.W.isFn K (.ref f7) = true)
    (l7 : K.lookup f7 = some ⟨oc7, od7, .func (PySem.W.fnOf "known" "Hall.known" (defArgs st_Hall_known) (defBody st_Hall_known) (defScope st_Hall_known) .none kV7 dc7 pm7 an7 cd7 ct7), sl7⟩)
    (c7 : PySem.W.codeIn K cd7 "Hall.known" = true)
    (k7 : PySem.W.keepIn K (.ref f7) = true)
    (a8 : PySem.W.findIn K (.ref C) "strangers" = some (some (.ref f8)))
    (i8 : PySem.W.isFn K (.ref f8) = true)
    (l8 : K.lookup f8 = some ⟨oc8, od8, .func (PySem.W.fnOf "strangers" "Hall.strangers" (defArgs st_Hall_strangers) (defBody st_Hall_strangers) (defScope st_Hall_strangers) .none kV8 dc8 pm8 an8 cd8 ct8), sl8⟩)
    (c8 : PySem.W.codeIn K cd8 "Hall.strangers" = true)
    (k8 : PySem.W.keepIn K (.ref f8) = true)
    (a9 : PySem.W.nsIn K mainGlobals "is_three" = some (some (.ref f9)))
    (l9 : K.lookup f9 = some ⟨oc9, od9, .func (PySem.W.fnOf "is_three" "is_three" (defArgs st_is_three) (defBody st_is_three) (defScope st_is_three) .none kV9 dc9 pm9 an9 cd9 ct9), sl9⟩)
    (c9 : PySem.W.codeIn K cd9 "is_three" = true)
    (k9 : PySem.W.keepIn K (.ref f9) = true)
    (a10 : PySem.W.nsIn K mainGlobals "threes" = some (some (.ref f10)))
    (l10 : K.lookup f10 = some ⟨oc10, od10, .func (PySem.W.fnOf "threes" "threes" (defArgs st_threes) (defBody st_threes) (defScope st_threes) .none kV10 dc10 pm10 an10 cd10 ct10), sl10⟩)
    (c10 : PySem.W.codeIn K cd10 "threes" = true)
    (k10 : PySem.W.keepIn K (.ref f10) = true)
    (a11 : PySem.W.nsIn K mainGlobals "how_many" = some (some (.ref f11)))
    (l11 : K.lookup f11 = some ⟨oc11, od11, .func (PySem.W.fnOf "how_many" "how_many" (defArgs st_how_many) (defBody st_how_many) (defScope st_how_many) .none kV11 dc11 pm11 an11 cd11 ct11), sl11⟩)
    (c11 : PySem.W.codeIn K cd11 "how_many" = true)
    (k11 : PySem.W.keepIn K (.ref f11) = true)
    (a12 : PySem.W.nsIn K mainGlobals "shown" = some (some (.ref f12)))
    (l12 : K.lookup f12 = some ⟨oc12, od12, .func (PySem.W.fnOf "shown" "shown" (defArgs st_shown) (defBody st_shown) (defScope st_shown) .none kV12 dc12 pm12 an12 cd12 ct12), sl12⟩)
    (c12 : PySem.W.codeIn K cd12 "shown" = true)
    (k12 : PySem.W.keepIn K (.ref f12) = true)
    (a13 : PySem.W.nsIn K mainGlobals "number_of" = some (some (.ref f13)))
    (l13 : K.lookup f13 = some ⟨oc13, od13, .func (PySem.W.fnOf "number_of" "number_of" (defArgs st_number_of) (defBody st_number_of) (defScope st_number_of) .none kV13 dc13 pm13 an13 cd13 ct13), sl13⟩)
    (c13 : PySem.W.codeIn K cd13 "number_of" = true)
    (k13 : PySem.W.keepIn K (.ref f13) = true)
    (a14 : PySem.W.nsIn K mainGlobals "met" = some (some (.ref f14)))
    (l14 : K.lookup f14 = some ⟨oc14, od14, .func (PySem.W.fnOf "met" "met" (defArgs st_met) (defBody st_met) (defScope st_met) .none kV14 dc14 pm14 an14 cd14 ct14), sl14⟩)
    (c14 : PySem.W.codeIn K cd14 "met" = true)
    (k14 : PySem.W.keepIn K (.ref f14) = true)
    (a15 : PySem.W.nsIn K mainGlobals "read" = some (some (.ref f15)))
    (l15 : K.lookup f15 = some ⟨oc15, od15, .func (PySem.W.fnOf "read" "read" (defArgs st_read) (defBody st_read) (defScope st_read) .none kV15 dc15 pm15 an15 cd15 ct15), sl15⟩)
    (c15 : PySem.W.codeIn K cd15 "read" = true)
    (k15 : PySem.W.keepIn K (.ref f15) = true)
    (a16 : PySem.W.nsIn K mainGlobals "_law_cell_at" = some (some (.ref f16)))
    (l16 : K.lookup f16 = some ⟨oc16, od16, .func (PySem.W.fnOf "_law_cell_at" "_law_cell_at" (defArgs st_l_cell_at) (defBody st_l_cell_at) (defScope st_l_cell_at) .none kV16 dc16 pm16 an16 cd16 ct16), sl16⟩)
    (c16 : PySem.W.codeIn K cd16 "_law_cell_at" = true)
    (k16 : PySem.W.keepIn K (.ref f16) = true)
    (a17 : PySem.W.nsIn K mainGlobals "_law_whole" = some (some (.ref f17)))
    (l17 : K.lookup f17 = some ⟨oc17, od17, .func (PySem.W.fnOf "_law_whole" "_law_whole" (defArgs st_l_whole) (defBody st_l_whole) (defScope st_l_whole) .none kV17 dc17 pm17 an17 cd17 ct17), sl17⟩)
    (c17 : PySem.W.codeIn K cd17 "_law_whole" = true)
    (k17 : PySem.W.keepIn K (.ref f17) = true)
    (a18 : PySem.W.nsIn K mainGlobals "_law_pairs_by" = some (some (.ref f18)))
    (l18 : K.lookup f18 = some ⟨oc18, od18, .func (PySem.W.fnOf "_law_pairs_by" "_law_pairs_by" (defArgs st_l_pairs_by) (defBody st_l_pairs_by) (defScope st_l_pairs_by) .none kV18 dc18 pm18 an18 cd18 ct18), sl18⟩)
    (c18 : PySem.W.codeIn K cd18 "_law_pairs_by" = true)
    (k18 : PySem.W.keepIn K (.ref f18) = true)
    (a19 : PySem.W.nsIn K mainGlobals "_law_hall_of" = some (some (.ref f19)))
    (l19 : K.lookup f19 = some ⟨oc19, od19, .func (PySem.W.fnOf "_law_hall_of" "_law_hall_of" (defArgs st_l_hall_of) (defBody st_l_hall_of) (defScope st_l_hall_of) .none kV19 dc19 pm19 an19 cd19 ct19), sl19⟩)
    (c19 : PySem.W.codeIn K cd19 "_law_hall_of" = true)
    (k19 : PySem.W.keepIn K (.ref f19) = true)
    (a20 : PySem.W.nsIn K mainGlobals "_law_many" = some (some (.ref f20)))
    (l20 : K.lookup f20 = some ⟨oc20, od20, .func (PySem.W.fnOf "_law_many" "_law_many" (defArgs st_l_many) (defBody st_l_many) (defScope st_l_many) .none kV20 dc20 pm20 an20 cd20 ct20), sl20⟩)
    (c20 : PySem.W.codeIn K cd20 "_law_many" = true)
    (k20 : PySem.W.keepIn K (.ref f20) = true)
    (a21 : PySem.W.nsIn K mainGlobals "_law_turn_one" = some (some (.ref f21)))
    (l21 : K.lookup f21 = some ⟨oc21, od21, .func (PySem.W.fnOf "_law_turn_one" "_law_turn_one" (defArgs st_l_turn_one) (defBody st_l_turn_one) (defScope st_l_turn_one) .none kV21 dc21 pm21 an21 cd21 ct21), sl21⟩)
    (c21 : PySem.W.codeIn K cd21 "_law_turn_one" = true)
    (k21 : PySem.W.keepIn K (.ref f21) = true)
    (a22 : PySem.W.nsIn K mainGlobals "_law_numbers" = some (some (.ref f22)))
    (l22 : K.lookup f22 = some ⟨oc22, od22, .func (PySem.W.fnOf "_law_numbers" "_law_numbers" (defArgs st_l_numbers) (defBody st_l_numbers) (defScope st_l_numbers) .none kV22 dc22 pm22 an22 cd22 ct22), sl22⟩)
    (c22 : PySem.W.codeIn K cd22 "_law_numbers" = true)
    (k22 : PySem.W.keepIn K (.ref f22) = true)
    (a23 : PySem.W.nsIn K mainGlobals "_law_known" = some (some (.ref f23)))
    (l23 : K.lookup f23 = some ⟨oc23, od23, .func (PySem.W.fnOf "_law_known" "_law_known" (defArgs st_l_known) (defBody st_l_known) (defScope st_l_known) .none kV23 dc23 pm23 an23 cd23 ct23), sl23⟩)
    (c23 : PySem.W.codeIn K cd23 "_law_known" = true)
    (k23 : PySem.W.keepIn K (.ref f23) = true)
    (a24 : PySem.W.nsIn K mainGlobals "_law_same" = some (some (.ref f24)))
    (l24 : K.lookup f24 = some ⟨oc24, od24, .func (PySem.W.fnOf "_law_same" "_law_same" (defArgs st_l_same) (defBody st_l_same) (defScope st_l_same) .none kV24 dc24 pm24 an24 cd24 ct24), sl24⟩)
    (c24 : PySem.W.codeIn K cd24 "_law_same" = true)
    (k24 : PySem.W.keepIn K (.ref f24) = true)
    (a25 : PySem.W.nsIn K mainGlobals "_law_right" = some (some (.ref f25)))
    (l25 : K.lookup f25 = some ⟨oc25, od25, .func (PySem.W.fnOf "_law_right" "_law_right" (defArgs st_l_right) (defBody st_l_right) (defScope st_l_right) .none kV25 dc25 pm25 an25 cd25 ct25), sl25⟩)
    (c25 : PySem.W.codeIn K cd25 "_law_right" = true)
    (k25 : PySem.W.keepIn K (.ref f25) = true)
    (a26 : PySem.W.nsIn K mainGlobals "law" = some (some (.ref f26)))
    (l26 : K.lookup f26 = some ⟨oc26, od26, .func (PySem.W.fnOf "law" "law" (defArgs st_law) (defBody st_law) (defScope st_law) .none kV26 dc26 pm26 an26 cd26 ct26), sl26⟩)
    (c26 : PySem.W.codeIn K cd26 "law" = true)
    (k26 : PySem.W.keepIn K (.ref f26) = true)
    (pg : PySem.W.plainGet K C Str.empty = true)
    (hd : PySem.W.hasDictIn K C = true)
    (po : PySem.W.plainOver K C = true)
    (sa : PySem.W.findIn K (.ref C) "__setattr__" = some (some (.builtin "object.__setattr__")))
    (mk : PySem.W.makesIn K C = true)
    (kc : PySem.W.keepIn K (.ref C) = true)
    (nC : PySem.W.findIn K (.ref C) "count" = some none)
    (nP : PySem.W.findIn K (.ref C) "pairs" = some none)
    (z_str : PySem.W.nsIn K mainGlobals "str" = some none)
    (z_len : PySem.W.nsIn K mainGlobals "len" = some none)
    (z_int : PySem.W.nsIn K mainGlobals "int" = some none)
    (z_isinstance : PySem.W.nsIn K mainGlobals "isinstance" = some none)
    (z_bool : PySem.W.nsIn K mainGlobals "bool" = some none)
    (z_range : PySem.W.nsIn K mainGlobals "range" = some none)
    (z_sorted : PySem.W.nsIn K mainGlobals "sorted" = some none)
    (z_list : PySem.W.nsIn K mainGlobals "list" = some none)
    (z_min : PySem.W.nsIn K mainGlobals "min" = some none)
    (z_max : PySem.W.nsIn K mainGlobals "max" = some none)
    (gcHE : PySem.W.nsIn K mainGlobals "HallError" = some (some (.ref cHE)))
    (gFig : PySem.W.nsIn K mainGlobals "FIGURES" = some (some (.str "0123456789" tF)))
    (xhe_NG : PySem.W.exmOne K (.ref cNG) (.ref cHE) = some true)
    (xhe_SG : PySem.W.exmOne K (.ref cSG) (.ref cHE) = some true)
    (xhe_KA : PySem.W.exmOne K (.ref cKA) (.ref cHE) = some true)
    (xhe_BH : PySem.W.exmOne K (.ref cBH) (.ref cHE) = some true)
    (xhe_NT : PySem.W.exmOne K (.ref cNT) (.ref cHE) = some true)
    : ∃ fd : FuncData, (∀ (s : Shared) (v : Value), BindsTo s fd ⟨[v], []⟩ [("script", v)]) ∧ ∀ base : Heap, K.In base → base.Ns mainGlobals mg → FnOk P w K mg base CX0 8 fa fd ["script"] (spLaw K) := by
  have e := hfa.symm.trans (PySem.W.mg_of X G a26)
  cases e
  have T : HT K mg C cNG cSG cKA cST cBH := ⟨⟨pg, hd, po, sa⟩, nC, nP, ⟨PySem.W.mg_of X G gcNG, ecNG, kcNG, bcNG, tcNG⟩, ⟨PySem.W.mg_of X G gcSG, ecSG, kcSG, bcSG, tcSG⟩, ⟨PySem.W.mg_of X G gcKA, ecKA, kcKA, bcKA, tcKA⟩, ⟨PySem.W.mg_of X G gcST, ecST, kcST, bcST, tcST⟩, ⟨PySem.W.mg_of X G gcBH, ecBH, kcBH, bcBH, tcBH⟩, ⟨tgr, PySem.W.mg_of X G gr⟩, PySem.W.mg_none_of X G z_min, PySem.W.mg_none_of X G z_max, PySem.W.mg_none_of X G z_range, PySem.W.mg_none_of X G z_len⟩
  have TN : ExcT K mg "NoText" cNT := ⟨PySem.W.mg_of X G gcNT, ecNT, kcNT, bcNT, tcNT⟩
  have GF := PySem.W.mg_of X G gFig
  have GcHE := PySem.W.mg_of X G gcHE
  have F0 := fun_mk (st := st_Hall_init) l0 c0 k0
  have b0 := F0.binds (ps := ["self", "many"]) fun _ _ _ _ _ _ us hl => match us, hl with | [_, _], _ => rfl
  have F1 := fun_mk (st := st_Hall_many) l1 c1 k1
  have b1 := F1.binds (ps := ["self"]) fun _ _ _ _ _ _ us hl => match us, hl with | [_], _ => rfl
  have F2 := fun_mk (st := st_Hall_see) l2 c2 k2
  have b2 := F2.binds (ps := ["self", "guest"]) fun _ _ _ _ _ _ us hl => match us, hl with | [_, _], _ => rfl
  have F3 := fun_mk (st := st_Hall_see_two) l3 c3 k3
  have b3 := F3.binds (ps := ["self", "one", "other"]) fun _ _ _ _ _ _ us hl => match us, hl with | [_, _, _], _ => rfl
  have F4 := fun_mk (st := st_Hall_know) l4 c4 k4
  have b4 := F4.binds (ps := ["self", "one", "other"]) fun _ _ _ _ _ _ us hl => match us, hl with | [_, _, _], _ => rfl
  have F5 := fun_mk (st := st_Hall_meet) l5 c5 k5
  have b5 := F5.binds (ps := ["self", "one", "other"]) fun _ _ _ _ _ _ us hl => match us, hl with | [_, _, _], _ => rfl
  have F6 := fun_mk (st := st_Hall_part) l6 c6 k6
  have b6 := F6.binds (ps := ["self", "one", "other"]) fun _ _ _ _ _ _ us hl => match us, hl with | [_, _, _], _ => rfl
  have F7 := fun_mk (st := st_Hall_known) l7 c7 k7
  have b7 := F7.binds (ps := ["self", "guest"]) fun _ _ _ _ _ _ us hl => match us, hl with | [_, _], _ => rfl
  have F8 := fun_mk (st := st_Hall_strangers) l8 c8 k8
  have b8 := F8.binds (ps := ["self", "guest"]) fun _ _ _ _ _ _ us hl => match us, hl with | [_, _], _ => rfl
  have F9 := fun_mk (st := st_is_three) l9 c9 k9
  have b9 := F9.binds (ps := ["hall", "one", "two", "three"]) fun _ _ _ _ _ _ us hl => match us, hl with | [_, _, _, _], _ => rfl
  have F10 := fun_mk (st := st_threes) l10 c10 k10
  have b10 := F10.binds (ps := ["hall"]) fun _ _ _ _ _ _ us hl => match us, hl with | [_], _ => rfl
  have F11 := fun_mk (st := st_how_many) l11 c11 k11
  have b11 := F11.binds (ps := ["hall"]) fun _ _ _ _ _ _ us hl => match us, hl with | [_], _ => rfl
  have F12 := fun_mk (st := st_shown) l12 c12 k12
  have b12 := F12.binds (ps := ["hall"]) fun _ _ _ _ _ _ us hl => match us, hl with | [_], _ => rfl
  have F13 := fun_mk (st := st_number_of) l13 c13 k13
  have b13 := F13.binds (ps := ["word"]) fun _ _ _ _ _ _ us hl => match us, hl with | [_], _ => rfl
  have F14 := fun_mk (st := st_met) l14 c14 k14
  have b14 := F14.binds (ps := ["hall", "line"]) fun _ _ _ _ _ _ us hl => match us, hl with | [_, _], _ => rfl
  have F15 := fun_mk (st := st_read) l15 c15 k15
  have b15 := F15.binds (ps := ["text"]) fun _ _ _ _ _ _ us hl => match us, hl with | [_], _ => rfl
  have F16 := fun_mk (st := st_l_cell_at) l16 c16 k16
  have b16 := F16.binds (ps := ["script", "k"]) fun _ _ _ _ _ _ us hl => match us, hl with | [_, _], _ => rfl
  have F17 := fun_mk (st := st_l_whole) l17 c17 k17
  have b17 := F17.binds (ps := ["found"]) fun _ _ _ _ _ _ us hl => match us, hl with | [_], _ => rfl
  have F18 := fun_mk (st := st_l_pairs_by) l18 c18 k18
  have b18 := F18.binds (ps := ["script", "first", "many"]) fun _ _ _ _ _ _ us hl => match us, hl with | [_, _, _], _ => rfl
  have F19 := fun_mk (st := st_l_hall_of) l19 c19 k19
  have b19 := F19.binds (ps := ["many", "pairs"]) fun _ _ _ _ _ _ us hl => match us, hl with | [_, _], _ => rfl
  have F20 := fun_mk (st := st_l_many) l20 c20 k20
  have b20 := F20.binds (ps := ["script"]) fun _ _ _ _ _ _ us hl => match us, hl with | [_], _ => rfl
  have F21 := fun_mk (st := st_l_turn_one) l21 c21 k21
  have b21 := F21.binds (ps := ["hall", "pairs", "many", "cell"]) fun _ _ _ _ _ _ us hl => match us, hl with | [_, _, _, _], _ => rfl
  have F22 := fun_mk (st := st_l_numbers) l22 c22 k22
  have b22 := F22.binds (ps := ["found", "due"]) fun _ _ _ _ _ _ us hl => match us, hl with | [_, _], _ => rfl
  have F23 := fun_mk (st := st_l_known) l23 c23 k23
  have b23 := F23.binds (ps := ["pairs", "many", "guest"]) fun _ _ _ _ _ _ us hl => match us, hl with | [_, _, _], _ => rfl
  have F24 := fun_mk (st := st_l_same) l24 c24 k24
  have b24 := F24.binds (ps := ["hall", "pairs", "many"]) fun _ _ _ _ _ _ us hl => match us, hl with | [_, _, _], _ => rfl
  have F25 := fun_mk (st := st_l_right) l25 c25 k25
  have b25 := F25.binds (ps := ["hall", "pairs", "many", "cell"]) fun _ _ _ _ _ _ us hl => match us, hl with | [_, _, _, _], _ => rfl
  have F26 := fun_mk (st := st_law) l26 c26 k26
  refine ⟨PySem.W.fnOf "law" "law" (defArgs st_law) (defBody st_law) (defScope st_law) .none kV26 dc26 pm26 an26 cd26 ct26, fun s v => .of_eq rfl, fun base _ _ => ?_⟩
  have G0 : FnOk P w K mg base (L2N.CX P w) 1 f0 _ _ (spInit C cBH) := ok_init F0 T
  have B0 : MakD P w K mg base (L2N.CX P w) C 1 "Hall" (spInit C cBH) := ⟨_, _, _, ⟨mk, a0, i0, kc⟩, G0, b0, PySem.W.mg_of X G aC⟩
  have G1 : FnOk P w K mg base CX0 1 f1 _ _ (spMany C) := ok_many F1 T
  have B1 : MetD P w K mg base CX0 C 1 "many" (spMany C) := ⟨_, _, _, G1, b1, ⟨a1, i1, k1⟩⟩
  have G2 : FnOk P w K mg base (L2N.CX P w) 1 f2 _ _ (spSee C cNG) := ok_see F2 T
  have B2 : MetD P w K mg base (L2N.CX P w) C 1 "see" (spSee C cNG) := ⟨_, _, _, G2, b2, ⟨a2, i2, k2⟩⟩
  have G3 : FnOk P w K mg base (L2N.CX P w) 2 f3 _ _ (spSeeTwo C cNG cSG) := ok_see_two F3 T B2
  have B3 : MetD P w K mg base (L2N.CX P w) C 2 "see_two" (spSeeTwo C cNG cSG) := ⟨_, _, _, G3, b3, ⟨a3, i3, k3⟩⟩
  have G4 : FnOk P w K mg base (L2N.CX P w) 3 f4 _ _ (spKnow C cNG cSG) := ok_know F4 T B3
  have B4 : MetD P w K mg base (L2N.CX P w) C 3 "know" (spKnow C cNG cSG) := ⟨_, _, _, G4, b4, ⟨a4, i4, k4⟩⟩
  have G5 : FnOk P w K mg base (L2N.CX P w) 4 f5 _ _ (spMeet C cNG cSG cKA) := ok_meet F5 T B4
  have B5 : MetD P w K mg base (L2N.CX P w) C 4 "meet" (spMeet C cNG cSG cKA) := ⟨_, _, _, G5, b5, ⟨a5, i5, k5⟩⟩
  have G6 : FnOk P w K mg base (L2N.CX P w) 4 f6 _ _ (spPart C cNG cSG cST) := ok_part F6 T B4
  have B6 : MetD P w K mg base (L2N.CX P w) C 4 "part" (spPart C cNG cSG cST) := ⟨_, _, _, G6, b6, ⟨a6, i6, k6⟩⟩
  have G7 : FnOk P w K mg base (L2N.CX P w) 4 f7 _ _ (spOthers true C cNG) := ok_known F7 T B2 B4
  have B7 : MetD P w K mg base (L2N.CX P w) C 4 "known" (spOthers true C cNG) := ⟨_, _, _, G7, b7, ⟨a7, i7, k7⟩⟩
  have G8 : FnOk P w K mg base (L2N.CX P w) 4 f8 _ _ (spOthers false C cNG) := ok_strangers F8 T B2 B4
  have B8 : MetD P w K mg base (L2N.CX P w) C 4 "strangers" (spOthers false C cNG) := ⟨_, _, _, G8, b8, ⟨a8, i8, k8⟩⟩
  have G9 : FnOk P w K mg base CX0 4 f9 _ _ (spIsThree C) := ok_is_three F9 T B4
  have B9 : CalD P w K mg base CX0 4 "is_three" (spIsThree C) := ⟨_, _, _, G9, b9, PySem.W.mg_of X G a9, k9⟩
  have G10 : FnOk P w K mg base CX0 5 f10 _ _ (spThrees C) := ok_threes F10 T B1 B9
  have B10 : CalD P w K mg base CX0 5 "threes" (spThrees C) := ⟨_, _, _, G10, b10, PySem.W.mg_of X G a10, k10⟩
  have G11 : FnOk P w K mg base CX0 5 f11 _ _ (spHowMany C) := ok_how_many F11 T B1 B7
  have B11 : CalD P w K mg base CX0 5 "how_many" (spHowMany C) := ⟨_, _, _, G11, b11, PySem.W.mg_of X G a11, k11⟩
  have G12 : FnOk P w K mg base CX0 5 f12 _ _ (spShown C) := ok_shown F12 T (PySem.W.mg_none_of X G z_str) B1 B7
  have B12 : CalD P w K mg base CX0 5 "shown" (spShown C) := ⟨_, _, _, G12, b12, PySem.W.mg_of X G a12, k12⟩
  have G13 : FnOk P w K mg base (L2N.CX P w) 1 f13 _ _ (spNumberOf cNT) := ok_number F13 (PySem.W.mg_none_of X G z_len) (PySem.W.mg_none_of X G z_int) TN GF
  have B13 : CalD P w K mg base (L2N.CX P w) 1 "number_of" (spNumberOf cNT) := ⟨_, _, _, G13, b13, PySem.W.mg_of X G a13, k13⟩
  have G14 : FnOk P w K mg base (L2N.CX P w) 5 f14 _ _ (spMetL C cNG cSG cKA cNT) := ok_met F14 T TN B13 B5
  have B14 : CalD P w K mg base (L2N.CX P w) 5 "met" (spMetL C cNG cSG cKA cNT) := ⟨_, _, _, G14, b14, PySem.W.mg_of X G a14, k14⟩
  have G15 : FnOk P w K mg base (L2.CX P w) 6 f15 _ _ (spRead C cNT) := ok_read F15 T TN GcHE ⟨xhe_NG,xhe_SG,xhe_KA,xhe_BH,xhe_NT⟩ B0 B13 B14
  have B15 : CalD P w K mg base (L2.CX P w) 6 "read" (spRead C cNT) := ⟨_, _, _, G15, b15, PySem.W.mg_of X G a15, k15⟩
  have G16 : FnOk P w K mg base CX0 1 f16 _ _ (spCell K) := ok_cell F16 (PySem.W.mg_none_of X G z_len)
  have B16 : CalD P w K mg base CX0 1 "_law_cell_at" (spCell K) := ⟨_, _, _, G16, b16, PySem.W.mg_of X G a16, k16⟩
  have G17 : FnOk P w K mg base CX0 1 f17 _ _ (spWhole) := ok_whole F17 (PySem.W.mg_none_of X G z_isinstance) (PySem.W.mg_none_of X G z_int) (PySem.W.mg_none_of X G z_bool)
  have B17 : CalD P w K mg base CX0 1 "_law_whole" (spWhole) := ⟨_, _, _, G17, b17, PySem.W.mg_of X G a17, k17⟩
  have G18 : FnOk P w K mg base CX0 2 f18 _ _ (spPairsBy K) := ok_pairs F18 (PySem.W.mg_none_of X G z_range) (PySem.W.mg_none_of X G z_sorted) B16
  have B18 : CalD P w K mg base CX0 2 "_law_pairs_by" (spPairsBy K) := ⟨_, _, _, G18, b18, PySem.W.mg_of X G a18, k18⟩
  have G19 : FnOk P w K mg base CX0 5 f19 _ _ (spHallOf C) := ok_hall_of F19 T B0 B5
  have B19 : CalD P w K mg base CX0 5 "_law_hall_of" (spHallOf C) := ⟨_, _, _, G19, b19, PySem.W.mg_of X G a19, k19⟩
  have G20 : FnOk P w K mg base CX0 2 f20 _ _ (spManyOf K) := ok_many_of F20 B16
  have B20 : CalD P w K mg base CX0 2 "_law_many" (spManyOf K) := ⟨_, _, _, G20, b20, PySem.W.mg_of X G a20, k20⟩
  have G21 : FnOk P w K mg base CX0 5 f21 _ _ (spTurnOne C) := ok_turn F21 T B6 B5
  have B21 : CalD P w K mg base CX0 5 "_law_turn_one" (spTurnOne C) := ⟨_, _, _, G21, b21, PySem.W.mg_of X G a21, k21⟩
  have G22 : FnOk P w K mg base CX0 2 f22 _ _ (spNumbers) := ok_numbers F22 (PySem.W.mg_none_of X G z_isinstance) (PySem.W.mg_none_of X G z_list) B17
  have B22 : CalD P w K mg base CX0 2 "_law_numbers" (spNumbers) := ⟨_, _, _, G22, b22, PySem.W.mg_of X G a22, k22⟩
  have G23 : FnOk P w K mg base CX0 1 f23 _ _ (spKnownD) := ok_lknownD F23 (PySem.W.mg_none_of X G z_min) (PySem.W.mg_none_of X G z_max) (PySem.W.mg_none_of X G z_range)
  have B23 : CalD P w K mg base CX0 1 "_law_known" (spKnownD) := ⟨_, _, _, G23, b23, PySem.W.mg_of X G a23, k23⟩
  have G24 : FnOk P w K mg base CX0 5 f24 _ _ (spSame C) := ok_same F24 T B1 B7 B8 B17 B22 B23
  have B24 : CalD P w K mg base CX0 5 "_law_same" (spSame C) := ⟨_, _, _, G24, b24, PySem.W.mg_of X G a24, k24⟩
  have G25 : FnOk P w K mg base CX0 7 f25 _ _ (spRight11 C) := ok_right F25 (PySem.W.mg_none_of X G z_isinstance) (PySem.W.mg_none_of X G z_str) (PySem.W.mg_none_of X G z_list) (PySem.W.mg_none_of X G z_sorted) B12 B15 B24 B10 B11 B21
  have B25 : CalD P w K mg base CX0 7 "_law_right" (spRight11 C) := ⟨_, _, _, G25, b25, PySem.W.mg_of X G a25, k25⟩
  exact ok_law F26 B16 B20 B18 B19 B21 B25
theorem walk {l : PySem.W.OpenLaw} {q : Program} {loose : List Str} {XP : (Str → Option Value) → Heap → Prop} {YP : World → Heap → Prop} {d : DefRec} {K : Params → PySem.W.Frag} (hn : l.most = some 63) (hdf : d.params.defaults = [])
    (hY : ∀ (w : World) (h : Heap), YP w h → (K w.params).In h)
    (F : ∀ (w : World) (mg : Str → Option Value) (fa : Addr) (h : Heap), (K w.params).In h → h.Ns mainGlobals mg → mg d.name = some (.ref fa) →
      ∃ fd : FuncData, (∀ (s : Shared) (u : Value), BindsTo s fd ⟨[u], []⟩ [("script", u)]) ∧ ∀ base : Heap, (K w.params).In base → base.Ns mainGlobals mg → FnOk l.prog w (K w.params) mg base CX0 8 fa fd ["script"] (spLaw (K w.params))) :
    PySem.W.WalkO q loose XP YP l.row.toRowW d [] (fun f vs => PySem.call f vs) :=
  L2.walk_of (n := 63) (k := 8) (x := "script") (CX := fun _ => CX0) (sp := fun w => spLaw (K w.params)) hn (by decide) hdf ⟨rfl, by decide, by decide⟩ hY F (fun _ _ a ns hl _ hS => ⟨a, ns, rfl, hS, hl, fun _ => rfl⟩) fun _ _ _ _ _ z => z
end KT
open PySem PySem.W PyProof.Rows in
set_option maxRecDepth 100000 in
set_option maxHeartbeats 0 in
theorem PySem.Challenge.cw_knowthree_k11_halls_written_holds : PySem.Challenge.rw_knowthree_k11_halls_written.Holds := by
  w_on; o_law; k_head; (case hw => w_witness2)
  k_fill
  refine KT.walk (l := PySem.Challenge.rw_knowthree_k11_halls_written) rfl rfl (fun w h Y => PySem.W.kIn_of Y) ?F
  case F =>
    intro w mg fa h KX G hmg
    refine' KT.all_mk KX G hmg ?aC ?gcNG ?ecNG ?kcNG ?bcNG ?tcNG ?gcSG ?ecSG ?kcSG ?bcSG ?tcSG ?gcKA ?ecKA ?kcKA ?bcKA ?tcKA ?gcST ?ecST ?kcST ?bcST ?tcST ?gcBH ?ecBH ?kcBH ?bcBH ?tcBH ?gcNT ?ecNT ?kcNT ?bcNT ?tcNT ?gr ?a0 ?i0 ?l0 ?c0 ?k0 ?a1 ?i1 ?l1 ?c1 ?k1 ?a2 ?i2 ?l2 ?c2 ?k2 ?a3 ?i3 ?l3 ?c3 ?k3 ?a4 ?i4 ?l4 ?c4 ?k4 ?a5 ?i5 ?l5 ?c5 ?k5 ?a6 ?i6 ?l6 ?c6 ?k6 ?a7 ?i7 ?l7 ?c7 ?k7 ?a8 ?i8 ?l8 ?c8 ?k8 ?a9 ?l9 ?c9 ?k9 ?a10 ?l10 ?c10 ?k10 ?a11 ?l11 ?c11 ?k11 ?a12 ?l12 ?c12 ?k12 ?a13 ?l13 ?c13 ?k13 ?a14 ?l14 ?c14 ?k14 ?a15 ?l15 ?c15 ?k15 ?a16 ?l16 ?c16 ?k16 ?a17 ?l17 ?c17 ?k17 ?a18 ?l18 ?c18 ?k18 ?a19 ?l19 ?c19 ?k19 ?a20 ?l20 ?c20 ?k20 ?a21 ?l21 ?c21 ?k21 ?a22 ?l22 ?c22 ?k22 ?a23 ?l23 ?c23 ?k23 ?a24 ?l24 ?c24 ?k24 ?a25 ?l25 ?c25 ?k25 ?a26 ?l26 ?c26 ?k26 ?pg ?hd ?po ?sa ?mk ?kc ?nC ?nP ?z_str ?z_len ?z_int ?z_isinstance ?z_bool ?z_range ?z_sorted ?z_list ?z_min ?z_max ?gcHE ?gFig ?xhe_NG ?xhe_SG ?xhe_KA ?xhe_BH ?xhe_NT
    (case aC => k_is)
    (case gcNG => k_is)
    (case ecNG => k_exc)
    (case kcNG => k_is)
    (case bcNG => k_is)
    (case tcNG => k_is)
    (case gcSG => k_is)
    (case ecSG => k_exc)
    (case kcSG => k_is)
    (case bcSG => k_is)
    (case tcSG => k_is)
    (case gcKA => k_is)
    (case ecKA => k_exc)
    (case kcKA => k_is)
    (case bcKA => k_is)
    (case tcKA => k_is)
    (case gcST => k_is)
    (case ecST => k_exc)
    (case kcST => k_is)
    (case bcST => k_is)
    (case tcST => k_is)
    (case gcBH => k_is)
    (case ecBH => k_exc)
    (case kcBH => k_is)
    (case bcBH => k_is)
    (case tcBH => k_is)
    (case gcNT => k_is)
    (case ecNT => k_exc)
    (case kcNT => k_is)
    (case bcNT => k_is)
    (case tcNT => k_is)
    (case gr => k_is)
    (case a0 => k_is)
    (case i0 => k_is)
    (case l0 => k_is)
    (case c0 => k_is)
    (case k0 => k_is)
    (case a1 => k_is)
    (case i1 => k_is)
    (case l1 => k_is)
    (case c1 => k_is)
    (case k1 => k_is)
    (case a2 => k_is)
    (case i2 => k_is)
    (case l2 => k_is)
    (case c2 => k_is)
    (case k2 => k_is)
    (case a3 => k_is)
    (case i3 => k_is)
    (case l3 => k_is)
    (case c3 => k_is)
    (case k3 => k_is)
    (case a4 => k_is)
    (case i4 => k_is)
    (case l4 => k_is)
    (case c4 => k_is)
    (case k4 => k_is)
    (case a5 => k_is)
    (case i5 => k_is)
    (case l5 => k_is)
    (case c5 => k_is)
    (case k5 => k_is)
    (case a6 => k_is)
    (case i6 => k_is)
    (case l6 => k_is)
    (case c6 => k_is)
    (case k6 => k_is)
    (case a7 => k_is)
    (case i7 => k_is)
    (case l7 => k_is)
    (case c7 => k_is)
    (case k7 => k_is)
    (case a8 => k_is)
    (case i8 => k_is)
    (case l8 => k_is)
    (case c8 => k_is)
    (case k8 => k_is)
    (case a9 => k_is)
    (case l9 => k_is)
    (case c9 => k_is)
    (case k9 => k_is)
    (case a10 => k_is)
    (case l10 => k_is)
    (case c10 => k_is)
    (case k10 => k_is)
    (case a11 => k_is)
    (case l11 => k_is)
    (case c11 => k_is)
    (case k11 => k_is)
    (case a12 => k_is)
    (case l12 => k_is)
    (case c12 => k_is)
    (case k12 => k_is)
    (case a13 => k_is)
    (case l13 => k_is)
    (case c13 => k_is)
    (case k13 => k_is)
    (case a14 => k_is)
    (case l14 => k_is)
    (case c14 => k_is)
    (case k14 => k_is)
    (case a15 => k_is)
    (case l15 => k_is)
    (case c15 => k_is)
    (case k15 => k_is)
    (case a16 => k_is)
    (case l16 => k_is)
    (case c16 => k_is)
    (case k16 => k_is)
    (case a17 => k_is)
    (case l17 => k_is)
    (case c17 => k_is)
    (case k17 => k_is)
    (case a18 => k_is)
    (case l18 => k_is)
    (case c18 => k_is)
    (case k18 => k_is)
    (case a19 => k_is)
    (case l19 => k_is)
    (case c19 => k_is)
    (case k19 => k_is)
    (case a20 => k_is)
    (case l20 => k_is)
    (case c20 => k_is)
    (case k20 => k_is)
    (case a21 => k_is)
    (case l21 => k_is)
    (case c21 => k_is)
    (case k21 => k_is)
    (case a22 => k_is)
    (case l22 => k_is)
    (case c22 => k_is)
    (case k22 => k_is)
    (case a23 => k_is)
    (case l23 => k_is)
    (case c23 => k_is)
    (case k23 => k_is)
    (case a24 => k_is)
    (case l24 => k_is)
    (case c24 => k_is)
    (case k24 => k_is)
    (case a25 => k_is)
    (case l25 => k_is)
    (case c25 => k_is)
    (case k25 => k_is)
    (case a26 => k_is)
    (case l26 => k_is)
    (case c26 => k_is)
    (case k26 => k_is)
    (case pg => k_is)
    (case hd => k_is)
    (case po => k_is)
    (case sa => k_is)
    (case mk => k_is)
    (case kc => k_is)
    (case nC => k_is)
    (case nP => k_is)
    (case z_str => k_is)
    (case z_len => k_is)
    (case z_int => k_is)
    (case z_isinstance => k_is)
    (case z_bool => k_is)
    (case z_range => k_is)
    (case z_sorted => k_is)
    (case z_list => k_is)
    (case z_min => k_is)
    (case z_max => k_is)
    (case gcHE => k_is)
    (case gFig => k_is)
    (case xhe_NG => kts_exm)
    (case xhe_SG => kts_exm)
    (case xhe_KA => kts_exm)
    (case xhe_BH => kts_exm)
    (case xhe_NT => kts_exm)
#print axioms PySem.Challenge.cw_knowthree_k11_halls_written_holds
