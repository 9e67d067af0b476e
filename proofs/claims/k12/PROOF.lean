import PyProof.Rows.All
import Wide.All
import OpenK.AllK
import Wide.FinOn
import HandS.ForMost
import HandS.Exc
import HandS.TryOnly
import HandS.ExcOwn
import HandS.WordsExc
import HandS.ExcCtx
import HandS.HotCalls
import HandS.SuiteRaise
import HandS.ExcIs
import HandS.IsInst
import HandS.Deep
import HandS.RaiseOp
import HandS.DictTup
import HandS.SortRule
import KE.DataFind
import KE.RegKIsAll
import KE.RegKTryMore
import KE.KRevSl
import HandS.Text
import HandS.Codes
import HandS.MapJoin
import PySem.Challenge.RW_knowthree_k12_halls_read_or_refused
set_option Elab.async false
set_option linter.all false
set_option maxRecDepth 100000
set_option maxHeartbeats 4000000
/-! own rules over the hand layer -/
namespace KT
open PySem PySem.Spec PyProof.Rows L2

/-! ### defs that raise, the exception's context being None -/
section
variable {P : Program} {w : World} {K : PySem.W.Frag} {mg : Str → Option Value} {base : Heap}
theorem okN {x qual : Str} {st : Stmt} {f : Addr} {fd : FuncData} {N ps : List Str} {k : Nat} {sp : Sp}
    (F : Fun K x qual st f fd) (S : FnScope N ps (defScope st))
    (len : ∀ vs H Q E, sp vs H Q E → vs.length = ps.length)
    (body : ∀ (cdv : Value) (A : Around) (outer : List Env) (s : Shared) (H : Hp) (vs : List V) (Q : VK) (E : XK),
      Room k (A.deeper (envOfC qual (defScope st) s.heap.objs.size f cdv)) → sp vs H Q E →
      ∃ t, PSs (cxOf (L2N.CX P w) P w K mg base N qual (defScope st) f cdv A outer s H E) (defBody st) t ∧
        t { nx := fun _ H' => Q .non H', rt := Q } (start N vs) H) :
    FnOk P w K mg base (L2N.CX P w) (k + 1) f fd ps sp := by
  obtain ⟨oc, od, kV, doc, pm, an, cdv, ct, osl, rfl, lk, hcd⟩ := F.ex
  exact fn_of lk hcd S len (fun A outer s H vs Q E hr hsp => body cdv A outer s H vs Q E hr hsp)
end
theorem passN {X : Cx} : Passes (L2N.CX X.prog X.w) X E0 := by
  intro _ _ _ _ _ _ _ h
  obtain ⟨_, _, _, _, _, _, _, _, _, _, _, _, z⟩ := h
  exact z.elim
/-- what flies with no context flies -/
theorem cx_weak {P : Program} {w : World} {outer : List Env} {H : Hp} {s : Shared} {E : XK} {u : Value} {s' : Shared}
    (h : L2N.CX P w outer H s E u s') : L2.CX P w outer H s E u s' := by
  obtain ⟨a, B, H', cls, d, e, fl, r⟩ := h
  exact ⟨a, B, H', cls, d, e, L2H.flyingZ_imp (fun _ z => L2N.Zn.zc z) fl, r⟩
theorem FnOk_weak {P : Program} {w : World} {K : PySem.W.Frag} {mg : Str → Option Value} {base : Heap} {k : Nat} {f : Addr}
    {fd : FuncData} {ps : List Str} {sp : Sp} (F : FnOk P w K mg base (L2N.CX P w) k f fd ps sp) :
    FnOk P w K mg base (L2.CX P w) k f fd ps sp := by
  refine ⟨F.len, ?_⟩
  intro A outer s H args us vs Q E hr e0 b r h
  refine codeAny_mono (F.run A outer s H args us vs Q E hr e0 b r h) ?_
  intro r s' q
  cases r with
  | error e => exact cx_weak q
  | ok fl => cases fl <;> exact q
/-- a def that lets nothing out may stand where one may -/
theorem FnOk_calm {P : Program} {w : World} {K : PySem.W.Frag} {mg : Str → Option Value} {base : Heap} {k : Nat} {f : Addr}
    {fd : FuncData} {ps : List Str} {sp : Sp} {CX : CXT} (F : FnOk P w K mg base CX0 k f fd ps sp) :
    FnOk P w K mg base CX k f fd ps sp := by
  refine ⟨F.len, ?_⟩
  intro A outer s H args us vs Q E hr e0 b r h
  refine codeAny_mono (F.run A outer s H args us vs Q E hr e0 b r h) ?_
  intro r s' q
  cases r with
  | error e => exact False.elim q
  | ok fl => cases fl <;> exact q

/-! ### methods and classes called where what is raised is wished for at the caller's slots -/
section
variable {X : Cx} {CX : CXT} {k : Nat} {f C : Addr} {fd : FuncData} {ps : List Str} {sp : Sp} {E : L2.St → XK}
  {x m : Str} {p pos apos : Pos} {e o : Expr} {es : List Expr} {ta : TE} {t : TA}
def tMethS (C : Addr) (m : Str) (sp : Sp) (E : L2.St → XK) (ta : TE) (t : TA) : TE := fun σ H Q => ta σ H fun x H1 =>
  ∃ a dx fs, x = .ref a ∧ H1 a = some (.ins C dx fs) ∧ fs.lookup m = none ∧ t σ H1 fun vs H2 => sp (x :: vs) H2 Q (E σ)
theorem pe_methS {pl : Sem Bool} (he : PE X o ta) (c : Cls X.K C) (hm : Meth X.K C m f)
    (F : FnOk X.prog X.w X.K X.mg X.base CX k f fd ps sp) (hr : Room k X.A) (hb : Binds X.K fd ps [])
    (hx : ∀ σ, PassesAt CX X σ (E σ)) (ha : PA X (e :: es) t)
    (hst : starEach (e :: es) X.env = (false, eval e X.env) :: starEach es X.env := by rfl)
    (hpl : (backTo pos (starEach es X.env)).any (·.1) = false := by rfl)
    (ht : eval (.Call (.Attribute o m apos) (e :: es) [] pos) X.env = (do
      let ov ← eval o X.env
      standAt apos.atName
      let (f, first) ← holding [ov] (getMethod ov m pl)
      callWith pos f first (backTo pos (starEach (e :: es) X.env)) (backToKw pos (keywordEach [] X.env))) := by rfl) :
    PE X (.Call (.Attribute o m apos) (e :: es) [] pos) (tMethS C m sp E ta t) := by
  constructor
  intro pins s σ H Q I h
  refine PySem.W.methodCall_KW (pl := pl) (thn (he.run pins s σ H _ I h) ?_) ht
  rintro u s1 ⟨x, H1, I1, rx, a, dx, fs, ex, ea, l, q⟩
  subst ex
  obtain rfl : u = Value.ref a := rx
  refine getmeth_ok I1 ea c hm l ?_
  refine PySem.W.callWith_K (first := [.ref a]) (h₀ := X.base) I.ok.mod.kin hm.kp (thn (ha.run pos pins s1 σ H1 _ I1 q) ?_) hst hpl
  rintro us s2 ⟨vs, H2, I2, r, q2⟩
  exact ⟨I2.kIn, run_fnS (us := .ref a :: us) (vs := .ref a :: vs) F hr hb (hx σ) I2 (.cons rfl r) q2⟩
def tMakeS (C : Addr) (sp : Sp) (E : L2.St → XK) (t : TA) : TE := fun σ H Q => t σ H fun vs H1 => ∀ x dx, H1 x = none → H1 dx = none → dx ≠ x →
  sp (.ref x :: vs) (upd (upd H1 dx (.own x)) x (.ins C dx [])) (fun v H2 => v = .non ∧ Q (.ref x) H2) (E σ)
theorem pe_makeS (M : Mk X.K C f) (F : FnOk X.prog X.w X.K X.mg X.base CX k f fd ps sp) (hr : Room (k + 1) X.A) (hg : Gl X x)
    (hm : X.mg x = some (.ref C)) (hb : Binds X.K fd ps []) (hx : ∀ σ, PassesAt CX X σ (E σ)) (ha : PA X (e :: es) t)
    (hdb : (x == ("__debug__" : Str)) = false := by decide)
    (he : starEach (e :: es) X.env = (false, eval e X.env) :: starEach es X.env := by rfl)
    (hpl : (backTo pos (starEach es X.env)).any (·.1) = false := by rfl) :
    PE X (.Call (.Name x p) (e :: es) [] pos) (tMakeS C sp E t) := by
  constructor
  intro pins s0 σ H0 Q I0 h0
  refine wpAny_Call_Name_kw (ld_glob I0 hg hm ?_ hdb)
  refine PySem.W.callWith_K (h₀ := X.base) I0.ok.mod.kin M.kp (thn (ha.run pos pins s0 σ H0 _ I0 h0) ?_) he hpl
  rintro us s ⟨vs, H, I, r, h⟩
  refine ⟨I.kIn, ?_⟩
  have hq := h (s.heap.objs.size + 1) s.heap.objs.size (I.hok.fresh (Nat.le_succ _)) (I.hok.fresh (Nat.le_refl _)) (Nat.ne_of_lt (Nat.lt_succ_self _))
  have I2 := Inv.made (C := C) I
  have r2 : Vals (V.ref (s.heap.objs.size + 1) :: vs) (Value.ref (s.heap.objs.size + 1) :: us) := .cons rfl r
  have hl : (Value.ref (s.heap.objs.size + 1) :: us).length = ps.length := by
    rw [← r2.length]
    exact F.len _ _ _ _ hq
  have b := hb _ (Value.ref (s.heap.objs.size + 1) :: us) I2.kIn (by rw [List.append_nil]; exact hl)
  rw [List.append_nil] at b
  refine wpAny_call (make_map (f := f) I.kIn M.makes M.init (beq_iff_eq.mp M.fn) ?_)
  refine codeAny_mono (F.run _ X.stack _ _ ⟨Value.ref (s.heap.objs.size + 1) :: us, []⟩ _ _ _ (E σ) (hr.make C us []) (I2.env0.make C us []) b r2 hq) ?_
  intro r s' hq'
  cases r with
  | error e => exact hx σ pins _ _ e s' I2 hq'
  | ok fl =>
    cases fl with
    | ret u =>
      obtain ⟨v, H', I3, rv, ev, q3⟩ := I2.after hq'
      subst ev
      exact ⟨rv, ⟨V.ref (s.heap.objs.size + 1), H', I3, rfl, q3⟩⟩
    | next => exact hq'.elim
    | brk => exact hq'.elim
    | cont => exact hq'.elim
end

/-! ### d.pop(t), t a tuple that is a key -/
section
variable {X : Cx}
def rPop1 : V → List V → Hp → VK → Prop := fun x xs H Q => ∃ (a : Addr) (kvs : List (List L2.Key × V)) (k : List L2.Key) (b : Addr) (v : V),
  x = .ref a ∧ xs = [.ref b] ∧ H a = some (.dT kvs) ∧ H b = some (.tup (k.map kV)) ∧ valV kvs k = some v ∧ Q v (upd H a (.dT (dropK kvs k)))
theorem meetsPop1 {prog : Program} {w : World} {K : Type} [DecidableEq K] {knd : HeapKind prog w K} {d b : Addr} {k : K} :
    MeetsIn prog w (Builtin.«dict.pop» ⟨[.ref d, .ref b], []⟩) (fun A R s => ∃ (xs : List (K × Addr × Value)) (p : Addr × Value), knd.room A.in1 ∧ knd.is s.heap k b ∧
      s.heap.DictOfH knd d xs ∧ xs.length ≤ sizeLine ∧ atKey xs k = some p ∧
      ∀ h' tk, h'.DictOfH knd d (DT.dropH xs k) → Heap.SameBut d s.heap h' → R (.ok (.ret p.2)) { s with heap := h', toks := tk }) := by
  refine .of_wp ?_
  rintro A R s ⟨xs, p, hu, hkey, hm, hsz, hp, hgo⟩
  obtain ⟨o, es, ep, ho, hc, hdat, he, his, hn⟩ := id hm
  have hes : es.size = xs.length := size_of_entries he
  have part : (keyPart (Value.ref b)).isSome = false := rfl
  unfold Builtin.«dict.pop»
  refine wpAny_bind ?_
  unfold Builtin.Dict.keyAndDefault
  refine wpAny_bind (wpAny_notOrdered_dict hm.typeIs ?_)
  show wpAny _ _ (pure (d, Value.ref b, none)) _ _ s
  refine wpAny_pure ?_
  simp only [part, Bool.false_eq_true, if_false]
  refine wpAny_bind (wpAny_dictEntries ho hdat (wpAny_bind (wpAny_pure ?_)))
  have hem : es.isEmpty = false := by
    cases q : es.isEmpty with
    | false => rfl
    | true =>
      have z : es.size = 0 := by simpa using q
      have z2 : xs = [] := List.length_eq_zero_iff.mp (by omega)
      subst z2
      exact absurd hp (by simp [atKey])
  rw [hem]
  simp only [Bool.false_eq_true, if_false]
  refine wpAny_bind (DT.takeH hu hkey hm hsz (fun no => ?_) (fun p' e hp' hev h' hm' hs' => ?_))
  · rw [no] at hp
    exact nomatch hp
  · have ep : p' = p := Option.some.inj (hp'.symm.trans hp)
    subst ep
    simp only [Option.isNone_some, Bool.false_eq_true, if_false]
    refine wpAny_bind (wpAny_letGo (wpAny_pure ⟨e.val, rfl, ?_⟩))
    rw [hev]
    exact hgo h' _ hm' hs'
theorem mt_pop1 (hu : X.A.units + 1 < cLine) : MtR X "dict.pop" rPop1 := by
  intro pins s σ H x xs v us Q I rx rxs h
  obtain ⟨a, kvs, k, b, v0, rfl, rfl, ha, hb, hv, q⟩ := h
  cases rx
  obtain ⟨u1, rfl, r1⟩ := vals1 rxs
  cases r1
  obtain ⟨z, hd, xs', rel, dd⟩ := dt_of I.hok ha
  have hz : xs'.length ≤ sizeLine := by rw [← Paired.length rel]; exact z
  obtain ⟨p, hp, rv⟩ : ∃ p, atKey xs' k = some p ∧ RelV v0 p.2 := by
    have r := rel.val k
    rw [hv] at r
    cases e : atKey xs' k with
    | none =>
      rw [e] at r
      exact (show False from r).elim
    | some p =>
      rw [e] at r
      exact ⟨p, rfl, r⟩
  refine call_meetsIn PySem.F.slot_dict_pop dd.typeIs PySem.F.entry_dict_pop (PySem.F.args_dict_pop_2 _ _) (meetsPop1 (knd := tupleKind (mixKind X.prog X.w)) (k := k)) ?_
  refine ⟨xs', p, tupleKind_room_in1 hu, key_of I.hok hb, dd, hz, hp, ?_⟩
  intro h' tk dd' hs
  obtain ⟨o, es, ep, hq, h2, h3, h4, _, h5⟩ := dd'
  have keepT : ∀ (c : Addr) (ys : List V), H c = some (.tup ys) → upd H a (.dT (dropK kvs k)) c = some (.tup ys) := by
    intro c ys ec
    rw [upd_ne (ne_of ec ha (fun z => nomatch z))]
    exact ec
  have I2 : Inv X pins σ (upd H a (.dT (dropK kvs k))) { s with heap := h', toks := tk } :=
    d_write I (by rw [ha]; exact True.intro) hs ⟨o, hq⟩ ⟨Nat.le_trans (dropK_le kvs k) z, hd, _, (L2.DX.KT_drop k rel).keeps keepT, o, es, ep, hq, h2, h3, h4, h5⟩
  show EP X pins σ Q p.2 _
  exact ⟨v0, _, I2, rv, q⟩
end
end KT

/-! ### l.remove(x) of data, x in l -/
namespace KT
open PySem PySem.Spec PyProof.Rows L2
section
variable {X : Cx}
def rRemD (K : PySem.W.Frag) : V → List V → Hp → VK → Prop := fun x xs H Q => ∃ (l : Addr) (ys : List V) (y : V) (ds : List PyData) (d : PyData) (j : Nat),
  x = .ref l ∧ xs = [y] ∧ H l = some (.lst ys) ∧ DpAll K H ys ds ∧ Dp K H y d ∧ PyData.plainAll ds = true ∧ d.plain = true ∧ d.depth ≤ 64 ∧
  SeqAt.dataPlace ds d = some j ∧ Q .non (upd H l (.lst (ys.eraseIdx j)))
theorem mt_removeD (hu : X.A.units + 65 < cLine) : MtR X "list.remove" (rRemD X.K) := by
  intro pins s σ H x xs v us Q I rx rxs h
  obtain ⟨l, ys, y, ds, d, j, rfl, rfl, hl, ha, hy, pl, pd, dep, hj, q⟩ := h
  cases rx
  obtain ⟨u, rfl, ru⟩ := vals1 rxs
  obtain ⟨bs, r1⟩ := Dp.reads I d y u hy ru
  obtain ⟨z, its, n, rv, hlen, e0⟩ := I.lstM hl
  obtain ⟨as, r2⟩ := Dp.readsAll I ds _ its ha rv
  have hroom : X.A.units + 1 + min (PyData.depthAll ds) d.depth < cLine := by
    have := Nat.min_le_right (PyData.depthAll ds) d.depth
    omega
  refine SeqAt.remove_list_data (vs := its.toArray) ⟨_, e0, rfl, n, rfl⟩ r2 r1 pl pd hroom hj (by rw [List.size_toArray, ← hlen]; exact z) ?_
  refine ⟨.non, _, I.lset (its' := its.eraseIdx j) hl e0 ?_ (rv.eraseIdx j) ?_, rfl, q⟩
  · show its.toArray.eraseIdxIfInBounds j = (its.eraseIdx j).toArray
    rw [List.eraseIdxIfInBounds_toArray]
  · have := List.length_eraseIdx_le ys j
    omega
end

/-! ### a def called in an except suite, with the exception as its argument -/
section
open L2H
structure FnP (P : Program) (w : World) (K : PySem.W.Frag) (mg : Str → Option Value) (base : Heap) (k : Nat) (f : Addr) (fd : FuncData)
    (ps : List Str) (sp : Addr → Value → Option Addr → Sp) : Prop where
  len : ∀ a cls d vs H Q E, sp a cls d vs H Q E → vs.length = ps.length
  run : ∀ (A : Around) (outer : List Env) (s : Shared) (H : Hp) (args : Args) (us : List Value) (vs : List V) (Q : VK) (E : XK)
    (p : Addr × Obj) (cls : Value) (d : Option Addr), RoomH k A → PinOk outer H s p → Zc cls d p.2 → (∃ fv, p.2.data = .fields fv) →
    Env0 P w K mg base A outer s H → BindsTo s fd args (ps.zip us) → Vals vs us →
    sp p.1 cls d vs H Q E → codeAny (model P w) A (.call (.ref f) args) (CR CX0 outer P w H s Q E) s
theorem okP {P : Program} {w : World} {K : PySem.W.Frag} {mg : Str → Option Value} {base : Heap} {x qual : Str} {st : Stmt} {f : Addr}
    {fd : FuncData} {N ps : List Str} {k : Nat} {sp : Addr → Value → Option Addr → Sp}
    (F : Fun K x qual st f fd) (S : FnScope N ps (defScope st)) (len : ∀ a cls d vs H Q E, sp a cls d vs H Q E → vs.length = ps.length)
    (body : ∀ (cdv : Value) (A : Around) (outer : List Env) (s : Shared) (H : Hp) (vs : List V) (Q : VK) (E : XK) (p : Addr × Obj)
      (cls : Value) (d : Option Addr), RoomH k (A.deeper (envOfC qual (defScope st) s.heap.objs.size f cdv)) → Zc cls d p.2 →
      (∃ fv, p.2.data = .fields fv) → sp p.1 cls d vs H Q E →
      ∃ t, PSs (cxH CX0 P w K mg base N qual (defScope st) f cdv A outer s H E p) (defBody st) t ∧
        t { nx := fun _ H' => Q .non H', rt := Q } (L2.start N vs) H) :
    FnP P w K mg base (k + 1) f fd ps sp := by
  obtain ⟨oc, od, kV, doc, pm, an, cdv, ct, osl, rfl, lk, hcd⟩ := F.ex
  refine ⟨len, ?_⟩
  intro A outer s H args us vs Q E p cls d hr hpin hz hf e0 hb r hsp
  have hl := len _ _ _ _ _ _ _ hsp
  have kb : ∀ b o, base.get? b = some o → s.heap.get? b = some o := fun b o e => (e0.bs b o e).1
  have KX : K.In s.heap := e0.mod.kin.keeps kb
  have lim : s.heap.NoLimit := e0.mod.nolimit.keeps kb
  refine codeAny_call_function hr.depth (KX _ _ lk) rfl S.co S.gen rfl (PySem.W.codeRec_of KX hcd) (hb _ _ _ _ ?_)
  refine wpAny_newFunctionEnv_cells S.kind ?kinds ?go
  case kinds =>
    rintro ⟨n, v⟩ hy
    rcases S.par n (List.of_mem_zip hy).1 with q | q
    · exact .inl q
    · exact .inr ⟨q, PySem.W.cellsFrom_some _ _ _ (.inl q)⟩
  intro env he s1 xin
  subst he
  refine ⟨lim.keeps xin.toInCall.keep, codeAny_func ?_⟩
  obtain ⟨t, ht, hq⟩ := body cdv A outer s H vs Q E p cls d (hr.deeper _) hz hf hsp
  have I := inv_startH (CX := CX0) (E := E) (N := N) (qual := qual) (f := f) (cd := cdv) S hpin e0 hl r xin
  refine wpAny_mono (ht.run [] s1 (L2.start N vs) H _ I hq) ?_ (fun e s' hs => hs)
  intro fl s' hs
  cases fl with
  | ret u =>
    obtain ⟨v, σ', H', J, rv, q⟩ := hs
    exact ⟨v, H', J.os, J.bare, J.base, J.hok, rv, q⟩
  | next =>
    obtain ⟨σ', H', J, q⟩ := hs
    exact ⟨V.non, H', J.os, J.bare, J.base, J.hok, rfl, q⟩
  | brk =>
    obtain ⟨_, _, _, q⟩ := hs
    exact q.elim
  | cont =>
    obtain ⟨_, _, _, q⟩ := hs
    exact q.elim
variable {X : Cx} {k : Nat} {f : Addr} {fd : FuncData} {ps : List Str} {sp : Addr → Value → Option Addr → Sp} {x : Str} {q pos : Pos} {e : Expr}
  {es : List Expr} {t : TA} {p : Addr × Obj} {cls : Value} {d : Option Addr}
def tCallP (sp : Addr → Value → Option Addr → Sp) (a : Addr) (cls : Value) (d : Option Addr) (t : TA) : TE := fun σ H Q => t σ H fun vs H1 => sp a cls d vs H1 Q E0
theorem pe_callP (F : FnP X.prog X.w X.K X.mg X.base k f fd ps sp) (hr : RoomH k X.A) (hp : p ∈ X.pn) (hz : Zc cls d p.2) (hf : ∃ fv, p.2.data = .fields fv)
    (hg : Gl X x) (hm : X.mg x = some (.ref f)) (hk : PySem.W.keepIn X.K (.ref f) = true) (hb : Binds X.K fd ps [])
    (ha : PA X (e :: es) t) (hdb : (x == ("__debug__" : Str)) = false := by decide)
    (he : starEach (e :: es) X.env = (false, eval e X.env) :: starEach es X.env := by rfl)
    (hpl : (backTo pos (starEach es X.env)).any (·.1) = false := by rfl) :
    PE X (.Call (.Name x q) (e :: es) [] pos) (tCallP sp p.1 cls d t) := by
  constructor
  intro pins s σ H Q I h
  refine wpAny_Call_Name_kw (ld_glob I hg hm ?_ hdb)
  refine PySem.W.callWith_K (h₀ := X.base) I.ok.mod.kin hk (thn (ha.run pos pins s σ H _ I h) ?_) he hpl
  rintro us s1 ⟨vs, H1, I1, r, h1⟩
  refine ⟨I1.kIn, ?_⟩
  have hl : us.length = ps.length := by rw [← r.length]; exact F.len _ _ _ _ _ _ _ h1
  have b := hb s1 us I1.kIn (by rw [List.append_nil]; exact hl)
  rw [List.append_nil] at b
  have P1 := I1.pin p (List.mem_append_left _ hp)
  have hpin : PinOk X.stack H1 s1 p := ⟨P1.1, P1.2.1, fun hm => (List.mem_cons.mp (I1.stkSub p.1 hm)).elim P1.2.2.1 P1.2.2.2.1, P1.2.2.2.2⟩
  refine wpAny_call (codeAny_mono (F.run X.A X.stack s1 H1 ⟨us, []⟩ us vs Q E0 p cls d hr hpin hz hf I1.env0 b r h1) ?_)
  intro r s' hq
  cases r with
  | error e => exact hq.elim
  | ok fl =>
    cases fl with
    | ret u => exact I1.after hq
    | next => exact False.elim hq
    | brk => exact False.elim hq
    | cont => exact False.elim hq
/-- isinstance(e, c), e a pinned exception -/
theorem call_isP {D : Addr} (hp : p ∈ X.pn) (C : ExcC X.K D) (hz : Zc (.ref D) none p.2) (hf : ∃ vs, p.2.data = .fields vs) :
    CallR X (.builtin "isinstance") (rIsE X.K D p.1) := by
  obtain ⟨a, oe⟩ := p
  intro pins s σ H xs us Q I r h
  obtain ⟨c, cv, b, rfl, hcv, ek, h1⟩ := h
  obtain ⟨u1, u2, rfl, r1, r2⟩ := vals2 r
  cases r1
  have ec := hcv _ r2
  subst ec
  have hget := (I.pin (a, oe) (List.mem_append_left _ hp)).1
  obtain ⟨vs, hv⟩ := hf
  have J : PySem.W.InstAt s.heap a oe D none := by
    obtain ⟨oc, od, oda, osl⟩ := oe
    obtain ⟨h1, h2⟩ := hz
    dsimp only at h1 h2 hv
    subst h1 h2 hv
    exact ⟨hget, rfl, rfl, trivial⟩
  refine PySem.W.kia_one (PySem.W.handS_kitx_exc C.hg C.hk C.hs C.hd C.ha C.hn C.ht C.hm) I.kIn J ek (fun z => nomatch z) ?_
  intro tk
  exact ⟨.bl b, H, I.kept (t' := tk) fun _ _ z => z, rfl, h1⟩
end
end KT

/-! pairs of guests, heaps, bundles -/
namespace KT
open PySem PySem.Spec PyProof.Rows L2

/-! ### plain: pairs -/
abbrev Pr := Nat × Nat
def nrm (i j : Nat) : Pr := (min i j, max i j)
def WF (n : Nat) (L : List Pr) : Prop := L.Nodup ∧ ∀ p ∈ L, p.1 < p.2 ∧ p.2 < n
theorem nrm_comm (i j : Nat) : nrm i j = nrm j i := by
  unfold nrm
  rw [Nat.min_comm, Nat.max_comm]
theorem nrm_lt {i j : Nat} (h : i < j) : nrm i j = (i, j) := by
  unfold nrm
  rw [Nat.min_eq_left (by omega), Nat.max_eq_right (by omega)]
theorem nrm_ok {i j n : Nat} (h : i ≠ j) (hi : i < n) (hj : j < n) : (nrm i j).1 < (nrm i j).2 ∧ (nrm i j).2 < n := by
  show min i j < max i j ∧ max i j < n
  omega
theorem min_py (i j : Nat) : (if (j : Int) < (i : Int) then (j : Int) else (i : Int)) = ((min i j : Nat) : Int) := by
  split <;> omega
theorem max_py (i j : Nat) : (if (j : Int) > (i : Int) then (j : Int) else (i : Int)) = ((max i j : Nat) : Int) := by
  split <;> omega
theorem len_bound : ∀ (m : Nat) (l : List Nat), l.Nodup → (∀ x ∈ l, x < m) → l.length ≤ m
  | 0, [], _, _ => Nat.le_refl _
  | 0, a :: l, _, h => absurd (h a List.mem_cons_self) (Nat.not_lt_zero _)
  | m + 1, l, nd, h => by
    by_cases hm : m ∈ l
    · have h1 := len_bound m (l.erase m) (nd.erase m) (fun x hx => by
        have a := h x (List.mem_of_mem_erase hx)
        have b : x ≠ m := fun e => by
          rw [e] at hx
          exact (List.Nodup.not_mem_erase nd) hx
        omega)
      rw [List.length_erase_of_mem hm] at h1
      omega
    · have h1 := len_bound m l nd (fun x hx => by
        have a := h x hx
        have b : x ≠ m := fun e => hm (by rw [← e]; exact hx)
        omega)
      omega
theorem map_nodup {α β : Type} {f : α → β} : ∀ {l : List α}, (∀ a ∈ l, ∀ b ∈ l, f a = f b → a = b) → l.Nodup → (l.map f).Nodup
  | [], _, _ => by simp
  | a :: l, inj, nd => by
    rw [List.nodup_cons] at nd
    rw [List.map_cons, List.nodup_cons]
    refine ⟨fun m => ?_, map_nodup (fun x hx y hy => inj x (List.mem_cons_of_mem _ hx) y (List.mem_cons_of_mem _ hy)) nd.2⟩
    obtain ⟨b, hb, e⟩ := List.mem_map.mp m
    have := inj b (List.mem_cons_of_mem _ hb) a List.mem_cons_self e
    exact nd.1 (by rw [← this]; exact hb)
theorem WF.len {n : Nat} {L : List Pr} (h : WF n L) (hn : n ≤ 20) : L.length ≤ 400 := by
  have h1 := len_bound 400 (L.map fun p => p.1 * 20 + p.2) (map_nodup (fun a ha b hb e => by
    have x := h.2 a ha
    have y := h.2 b hb
    obtain ⟨a1, a2⟩ := a
    obtain ⟨b1, b2⟩ := b
    simp only at x y e
    have e1 : a1 = b1 := by omega
    have e2 : a2 = b2 := by omega
    rw [e1, e2]) h.1) (fun x hx => by
      obtain ⟨p, hp, rfl⟩ := List.mem_map.mp hx
      have := h.2 p hp
      omega)
  rwa [List.length_map] at h1
theorem WF.nil (n : Nat) : WF n [] := ⟨List.nodup_nil, fun p hp => by cases hp⟩
theorem WF.snoc {n : Nat} {L : List Pr} {q : Pr} (h : WF n L) (hq : q.1 < q.2 ∧ q.2 < n) (nq : q ∉ L) : WF n (L ++ [q]) := by
  refine ⟨nd_snoc h.1 nq, fun p hp => ?_⟩
  rcases List.mem_append.mp hp with z | z
  · exact h.2 p z
  · rw [List.mem_singleton.mp z]
    exact hq
theorem WF.erase {n : Nat} {L : List Pr} (q : Pr) (h : WF n L) : WF n (L.erase q) := ⟨h.1.erase q, fun p hp => h.2 p (List.mem_of_mem_erase hp)⟩

/-! ### the dict of a hall -/
def kP (p : Pr) : List L2.Key := [Sum.inl (p.1 : Int), Sum.inl (p.2 : Int)]
def kvs (L : List Pr) : List (List L2.Key × V) := L.map fun p => (kP p, V.bl true)
theorem kP_inj {p q : Pr} (h : kP p = kP q) : p = q := by
  obtain ⟨a, b⟩ := p
  obtain ⟨c, d⟩ := q
  injection h with h1 h2
  injection h2 with h2 _
  have e1 := Int.ofNat.inj (Sum.inl.inj h1)
  have e2 := Int.ofNat.inj (Sum.inl.inj h2)
  exact Prod.ext e1 e2
theorem kP_map (p : Pr) : (kP p).map kV = [V.int (p.1 : Int), V.int (p.2 : Int)] := rfl
theorem valV_kvs (q : Pr) : ∀ L : List Pr, valV (kvs L) (kP q) = if q ∈ L then some (V.bl true) else none
  | [] => rfl
  | p :: L => by
    show valV ((kP p, V.bl true) :: kvs L) (kP q) = _
    by_cases e : p = q
    · subst e
      rw [valV_pos rfl, if_pos List.mem_cons_self]
    · rw [valV_neg (fun z => e (kP_inj z)), valV_kvs q L]
      by_cases m : q ∈ L
      · rw [if_pos m, if_pos (List.mem_cons_of_mem _ m)]
      · rw [if_neg m, if_neg (fun z => (List.mem_cons.mp z).elim (fun y => e y.symm) m)]
theorem isSome_kvs (q : Pr) (L : List Pr) : (valV (kvs L) (kP q)).isSome = decide (q ∈ L) := by
  rw [valV_kvs]
  by_cases m : q ∈ L
  · rw [if_pos m, decide_eq_true m] <;> rfl
  · rw [if_neg m, decide_eq_false m] <;> rfl
theorem put_kvs {q : Pr} {L : List Pr} (m : q ∉ L) : putK (kvs L) (kP q) (V.bl true) = kvs (L ++ [q]) := by
  rw [putK_new _ (by rw [valV_kvs, if_neg m])]
  unfold kvs
  rw [List.map_append]
  rfl
theorem drop_kvs {q : Pr} : ∀ {L : List Pr}, L.Nodup → dropK (kvs L) (kP q) = kvs (L.erase q)
  | [], _ => rfl
  | p :: L, nd => by
    have nd2 := List.nodup_cons.mp nd
    show dropK ((kP p, V.bl true) :: kvs L) (kP q) = _
    by_cases e : p = q
    · subst e
      rw [dropK_pos rfl, List.erase_cons_head]
      refine dropK_no fun m => nd2.1 ?_
      obtain ⟨z, hz, ez⟩ := List.mem_map.mp m
      obtain ⟨r, hr, er⟩ := List.mem_map.mp hz
      subst er
      rw [← kP_inj ez]
      exact hr
    · rw [dropK_neg (fun z => e (kP_inj z)), List.erase_cons_tail (by simpa using e), drop_kvs nd2.2]
      rfl
theorem length_kvs (L : List Pr) : (kvs L).length = L.length := List.length_map _

/-! ### heaps -/
def Keep (D : List Addr) (H H' : Hp) : Prop := ∀ b o, b ∉ D → H b = some o → H' b = some o
theorem Keep.of {H H' : Hp} (D : List Addr) (s : Same H H') : Keep D H H' := fun b o _ e => s b o e
theorem Keep.same {H H' : Hp} (k : Keep [] H H') : Same H H' := fun b o e => k b o (by simp) e
theorem Keep.refl (D : List Addr) (H : Hp) : Keep D H H := fun _ _ _ e => e
theorem Keep.trans {D : List Addr} {H H1 H2 : Hp} (a : Keep D H H1) (b : Keep D H1 H2) : Keep D H H2 := fun c o n e => b c o n (a c o n e)
theorem Keep.mono {D D' : List Addr} {H H1 : Hp} (a : Keep D H H1) (h : ∀ b ∈ D, b ∈ D') : Keep D' H H1 := fun c o n e => a c o (fun m => n (h c m)) e
theorem Keep.at1 {d : Addr} {H H' : Hp} (k : Keep [d] H H') {b : Addr} {o : HO} (n : b ≠ d) (e : H b = some o) : H' b = some o := k b o (by simpa using n) e
theorem same_new {H : Hp} {p : Addr} (o : HO) (h : H p = none) : Same H (upd H p o) := fun b u e => by
  rw [upd_ne (ne_of_none e h)]
  exact e
theorem Keep.put {H : Hp} (d : Addr) (o : HO) : Keep [d] H (upd H d o) := fun b u n e => by
  rw [upd_ne (by simpa using n)]
  exact e
/-- a new object that is changed later -/
theorem same_keepNew {H H1 H2 : Hp} {p : Addr} (s : Same H H1) (hp : H p = none) (k : Keep [p] H1 H2) : Same H H2 := fun b o e =>
  k.at1 (ne_of_none e hp) (s b o e)

/-! ### a hall -/
def hf (n : Nat) (d : Addr) : List (Str × V) := putF "pairs" (.ref d) (putF "count" (.int (n : Int)) [])
theorem cp_ : ¬ (("count" : Str) = "pairs") := by decide +kernel
theorem pc_ : ¬ (("pairs" : Str) = "count") := by decide +kernel
theorem hf_count (n : Nat) (d : Addr) : (hf n d).lookup ("count" : Str) = some (.int (n : Int)) := by
  unfold hf
  rw [lookup_putF, if_neg cp_, lookup_putF, if_pos rfl]
theorem hf_pairs (n : Nat) (d : Addr) : (hf n d).lookup ("pairs" : Str) = some (.ref d) := by
  unfold hf
  rw [lookup_putF, if_pos rfl]
theorem hf_no (n : Nat) (d : Addr) {m : Str} (h1 : ¬ m = "pairs") (h2 : ¬ m = "count") : (hf n d).lookup m = none := by
  unfold hf
  rw [lookup_putF, if_neg h1, lookup_putF, if_neg h2]
  rfl
structure HallAt (C : Addr) (H : Hp) (p : Addr) (n : Nat) (d : Addr) (L : List Pr) : Prop where
  ins : ∃ dx, H p = some (.ins C dx (hf n d))
  dic : H d = some (.dT (kvs L))
  wf : WF n L
  lo : 1 ≤ n
  hi : n ≤ 20
section
variable {C : Addr} {H H' : Hp} {p d : Addr} {n : Nat} {L : List Pr}
theorem HallAt.ne (h : HallAt C H p n d L) : p ≠ d := by
  obtain ⟨dx, e⟩ := h.ins
  exact ne_of e h.dic (fun z => nomatch z)
theorem HallAt.same (h : HallAt C H p n d L) (s : Same H H') : HallAt C H' p n d L :=
  ⟨let ⟨dx, e⟩ := h.ins; ⟨dx, s _ _ e⟩, s _ _ h.dic, h.wf, h.lo, h.hi⟩
theorem HallAt.keep {D : List Addr} (h : HallAt C H p n d L) (k : Keep D H H') (hp : p ∉ D) (hd : d ∉ D) : HallAt C H' p n d L :=
  ⟨let ⟨dx, e⟩ := h.ins; ⟨dx, k _ _ hp e⟩, k _ _ hd h.dic, h.wf, h.lo, h.hi⟩
end

/-! ### lists of pairs -/
def PairV (H : Hp) (v : V) (p : Pr) : Prop := ∃ a, v = .ref a ∧ H a = some (.tup [.int (p.1 : Int), .int (p.2 : Int)])
abbrev PairVs (H : Hp) : List V → List Pr → Prop := Paired (PairV H)
structure PairsAt (H : Hp) (l : Addr) (E : List Pr) : Prop where
  ex : ∃ xs, H l = some (.lst xs) ∧ PairVs H xs E
theorem PairVs.keep {H H' : Hp} (k : ∀ b ys, H b = some (.tup ys) → H' b = some (.tup ys)) {xs : List V} {E : List Pr} (h : PairVs H xs E) : PairVs H' xs E :=
  Paired.mapP h fun v p ⟨a, e, z⟩ => ⟨a, e, k _ _ z⟩
theorem PairVs.snoc {H : Hp} : ∀ {xs : List V} {E : List Pr} {v : V} {p : Pr}, PairVs H xs E → PairV H v p → PairVs H (xs ++ [v]) (E ++ [p])
  | _, _, _, _, .nil, h => .cons h .nil
  | _, _, _, _, .cons a r, h => .cons a (PairVs.snoc r h)
theorem PairVs.eraseIdx {H : Hp} : ∀ {xs : List V} {E : List Pr} (j : Nat), PairVs H xs E → PairVs H (xs.eraseIdx j) (E.eraseIdx j)
  | _, _, _, .nil => .nil
  | _, _, 0, .cons _ r => r
  | _, _, j + 1, .cons a r => .cons a (PairVs.eraseIdx j r)
theorem PairVs.get {H : Hp} : ∀ {xs : List V} {E : List Pr} {i : Nat} {v : V}, PairVs H xs E → xs[i]? = some v → ∃ p, E[i]? = some p ∧ PairV H v p
  | _, _, _, _, .nil, e => by simp at e
  | _, _, 0, _, .cons a _, e => by
    simp at e
    subst e
    exact ⟨_, rfl, a⟩
  | _, _, i + 1, v, .cons _ r, e => PairVs.get (i := i) (v := v) r (by simpa using e)
theorem PairsAt.same {H H' : Hp} {l : Addr} {E : List Pr} (h : PairsAt H l E) (s : Same H H') : PairsAt H' l E := by
  obtain ⟨xs, e, r⟩ := h.ex
  exact ⟨xs, s _ _ e, r.keep fun b ys z => s _ _ z⟩
/-- kept where lists and dicts of D alone change -/
theorem PairsAt.keep {D : List Addr} {H H' : Hp} {l : Addr} {E : List Pr} (h : PairsAt H l E) (k : Keep D H H') (hl : l ∉ D) (hD : ∀ b ∈ D, ∀ ys, H b ≠ some (.tup ys)) : PairsAt H' l E := by
  obtain ⟨xs, e, r⟩ := h.ex
  exact ⟨xs, k _ _ hl e, r.keep fun b ys z => k _ _ (fun m => hD b m ys z) z⟩
def pD (p : Pr) : PyData := .tuple [.int (p.1 : Int), .int (p.2 : Int)]
theorem PairV.dp {K : PySem.W.Frag} {H : Hp} {v : V} {p : Pr} (h : PairV H v p) : Dp K H v (pD p) := by
  obtain ⟨a, rfl, e⟩ := h
  exact .tup (SqT.of e) (.cons (.int _) (.cons (.int _) .nil))
theorem PairVs.dp {K : PySem.W.Frag} {H : Hp} : ∀ {xs : List V} {E : List Pr}, PairVs H xs E → DpAll K H xs (E.map pD)
  | _, _, .nil => .nil
  | _, _, .cons a r => .cons a.dp (PairVs.dp r)
theorem PairsAt.dp {K : PySem.W.Frag} {H : Hp} {l : Addr} {E : List Pr} (h : PairsAt H l E) : Dp K H (.ref l) (.list (E.map pD)) := by
  obtain ⟨xs, e, r⟩ := h.ex
  exact .lst (SqL.of e) r.dp
theorem pD_eqv (p q : Pr) : PyData.eqv (pD p) (pD q) = decide (p = q) := by
  obtain ⟨a, b⟩ := p
  obtain ⟨c, d⟩ := q
  have e : PyData.eqv (pD (a, b)) (pD (c, d)) = (((a : Int) == (c : Int)) && (((b : Int) == (d : Int)) && true)) := by
    simp only [pD, PyData.eqv, PyData.eqvAll]
  rw [e, Bool.eq_iff_iff]
  simp only [Bool.and_true, Bool.and_eq_true, beq_iff_eq, decide_eq_true_eq, Prod.mk.injEq]
  omega
theorem any_pD (q : Pr) : ∀ E : List Pr, ((E.map pD).any fun z => PyData.eqv z (pD q)) = decide (q ∈ E)
  | [] => by simp
  | p :: E => by
    rw [List.map_cons, List.any_cons, any_pD q E, pD_eqv, Bool.eq_iff_iff]
    simp only [Bool.or_eq_true, decide_eq_true_eq, List.mem_cons]
    constructor
    · rintro (h | h)
      · exact .inl h.symm
      · exact .inr h
    · rintro (h | h)
      · exact .inl h.symm
      · exact .inr h
theorem pD_lay (p : Pr) : (pD p).canLay0 = true := by simp [pD, PyData.canLay0, PyData.canLayAll0]
theorem pD_depth (p : Pr) : (pD p).depth = 1 := by simp [pD, PyData.depth, PyData.depthAll]
theorem pDs_lay : ∀ E : List Pr, PyData.canLayAll0 (E.map pD) = true
  | [] => by simp [PyData.canLayAll0]
  | z :: zs => by simp [PyData.canLayAll0, pD_lay z, pDs_lay zs]
theorem pDs_depth : ∀ E : List Pr, PyData.depthAll (E.map pD) ≤ 1
  | [] => by simp [PyData.depthAll]
  | z :: zs => by
    have h1 := pDs_depth zs
    have h2 := pD_depth z
    simp only [List.map_cons, PyData.depthAll]
    omega
theorem pD_shaped (p : Pr) : SeqAt.shaped (pD p) = true := by
  have h := pD_depth p
  unfold SeqAt.shaped
  rw [pD_lay, h] <;> rfl
theorem pDs_shaped (E : List Pr) : SeqAt.shaped (.list (E.map pD)) = true := by
  have h1 := pDs_depth E
  have h2 : PyData.depth (.list (E.map pD)) ≤ 64 := by
    simp only [PyData.depth]
    omega
  have h3 : PyData.canLay0 (.list (E.map pD)) = true := by
    simp only [PyData.canLay0]
    exact pDs_lay E
  unfold SeqAt.shaped
  rw [h3, decide_eq_true h2] <;> rfl
theorem pDs_plain : ∀ E : List Pr, PyData.plainAll (E.map pD) = true
  | [] => by simp [PyData.plainAll]
  | z :: zs => by
    have h := pDs_plain zs
    simp [PyData.plainAll, PyData.plain, pD, h]
theorem place_pD {q : Pr} : ∀ {E : List Pr}, q ∈ E → ∃ j, SeqAt.dataPlace (E.map pD) (pD q) = some j ∧ E.eraseIdx j = E.erase q
  | [], h => by cases h
  | p :: E, h => by
    by_cases e : p = q
    · refine ⟨0, ?_, ?_⟩
      · unfold SeqAt.dataPlace
        rw [List.map_cons, List.findIdx?_cons, pD_eqv, e] <;> simp
      · subst e
        rw [List.erase_cons_head] <;> rfl
    · obtain ⟨j, h1, h2⟩ := place_pD (E := E) (q := q) ((List.mem_cons.mp h).resolve_left fun z => e z.symm)
      refine ⟨j + 1, ?_, ?_⟩
      · unfold SeqAt.dataPlace at h1 ⊢
        rw [List.map_cons, List.findIdx?_cons, pD_eqv, decide_eq_false e, h1] <;> simp
      · rw [List.erase_cons_tail (by simpa using e), ← h2] <;> rfl

/-! ### bundles: what a caller is given of a def -/
section
variable (P : Program) (w : World) (K : PySem.W.Frag) (mg : Str → Option Value) (base : Heap) (CX : CXT)
structure CalD (k : Nat) (x : Str) (sp : Sp) : Prop where
  ex : ∃ f fd ps, FnOk P w K mg base CX k f fd ps sp ∧ Binds K fd ps [] ∧ mg x = some (.ref f) ∧ PySem.W.keepIn K (.ref f) = true
structure MetD (C : Addr) (k : Nat) (m : Str) (sp : Sp) : Prop where
  ex : ∃ f fd ps, FnOk P w K mg base CX k f fd ps sp ∧ Binds K fd ps [] ∧ Meth K C m f
structure MakD (C : Addr) (k : Nat) (x : Str) (sp : Sp) : Prop where
  ex : ∃ f fd ps, Mk K C f ∧ FnOk P w K mg base CX k f fd ps sp ∧ Binds K fd ps [] ∧ mg x = some (.ref C)
end
section
variable {X : Cx} {CX : CXT} {k j : Nat} {C : Addr} {sp : Sp} {E : XK} {ES : L2.St → XK} {x m : Str} {p pos apos : Pos} {e o : Expr} {es : List Expr} {ta : TE} {t : TA}
theorem pc (c : CalD X.prog X.w X.K X.mg X.base CX k x sp) (hr : Room j X.A) (hx : Passes CX X E) (ha : PA X (e :: es) t) (hk : k ≤ j := by decide) (hg : Gl X x := by rfl)
    (hdb : (x == ("__debug__" : Str)) = false := by decide) (he : starEach (e :: es) X.env = (false, eval e X.env) :: starEach es X.env := by rfl) (hpl : (backTo pos (starEach es X.env)).any (·.1) = false := by rfl) :
    PE X (.Call (.Name x p) (e :: es) [] pos) (tCall sp [] E t) := by
  obtain ⟨f, fd, ps, F, hb, hm, kp⟩ := c.ex
  exact pe_call F (hr.mono hk) hg hm kp hb .nil hx ha hdb he hpl
theorem pcS (c : CalD X.prog X.w X.K X.mg X.base CX k x sp) (hr : Room j X.A) (hx : ∀ σ, PassesAt CX X σ (ES σ)) (ha : PA X (e :: es) t) (hk : k ≤ j := by decide) (hg : Gl X x := by rfl)
    (hdb : (x == ("__debug__" : Str)) = false := by decide) (he : starEach (e :: es) X.env = (false, eval e X.env) :: starEach es X.env := by rfl) (hpl : (backTo pos (starEach es X.env)).any (·.1) = false := by rfl) :
    PE X (.Call (.Name x p) (e :: es) [] pos) (tCallS sp ES t) := by
  obtain ⟨f, fd, ps, F, hb, hm, kp⟩ := c.ex
  exact pe_callS F (hr.mono hk) hg hm kp hb hx ha hdb he hpl
theorem pm {pl : Sem Bool} (he : PE X o ta) (c : Cls X.K C) (d : MetD X.prog X.w X.K X.mg X.base CX C k m sp) (hr : Room j X.A) (hx : Passes CX X E) (ha : PA X (e :: es) t) (hk : k ≤ j := by decide)
    (hst : starEach (e :: es) X.env = (false, eval e X.env) :: starEach es X.env := by rfl) (hpl : (backTo pos (starEach es X.env)).any (·.1) = false := by rfl)
    (ht : eval (.Call (.Attribute o m apos) (e :: es) [] pos) X.env = (do
      let ov ← eval o X.env
      standAt apos.atName
      let (f, first) ← holding [ov] (getMethod ov m pl)
      callWith pos f first (backTo pos (starEach (e :: es) X.env)) (backToKw pos (keywordEach [] X.env))) := by rfl) :
    PE X (.Call (.Attribute o m apos) (e :: es) [] pos) (tMeth C m sp [] E ta t) := by
  obtain ⟨f, fd, ps, F, hb, hm⟩ := d.ex
  exact pe_meth (pl := pl) he c hm F (hr.mono hk) hb .nil hx ha hst hpl ht
theorem pmS {pl : Sem Bool} (he : PE X o ta) (c : Cls X.K C) (d : MetD X.prog X.w X.K X.mg X.base CX C k m sp) (hr : Room j X.A) (hx : ∀ σ, PassesAt CX X σ (ES σ)) (ha : PA X (e :: es) t) (hk : k ≤ j := by decide)
    (hst : starEach (e :: es) X.env = (false, eval e X.env) :: starEach es X.env := by rfl) (hpl : (backTo pos (starEach es X.env)).any (·.1) = false := by rfl)
    (ht : eval (.Call (.Attribute o m apos) (e :: es) [] pos) X.env = (do
      let ov ← eval o X.env
      standAt apos.atName
      let (f, first) ← holding [ov] (getMethod ov m pl)
      callWith pos f first (backTo pos (starEach (e :: es) X.env)) (backToKw pos (keywordEach [] X.env))) := by rfl) :
    PE X (.Call (.Attribute o m apos) (e :: es) [] pos) (tMethS C m sp ES ta t) := by
  obtain ⟨f, fd, ps, F, hb, hm⟩ := d.ex
  exact pe_methS (pl := pl) he c hm F (hr.mono hk) hb hx ha hst hpl ht
theorem pm0 {pl : Sem Bool} (he : PE X o ta) (c : Cls X.K C) (d : MetD X.prog X.w X.K X.mg X.base CX C k m sp) (hr : Room j X.A) (hx : Passes CX X E) (hk : k ≤ j := by decide)
    (ht : eval (.Call (.Attribute o m apos) [] [] pos) X.env = (do
      let ov ← eval o X.env
      standAt apos.atName
      let (f, first) ← holding [ov] (getMethod ov m pl)
      callWith pos f first (backTo pos (starEach [] X.env)) (backToKw pos (keywordEach [] X.env))) := by rfl) :
    PE X (.Call (.Attribute o m apos) [] [] pos) (tMeth C m sp [] E ta tNil) := by
  obtain ⟨f, fd, ps, F, hb, hm⟩ := d.ex
  exact pe_meth0 (pl := pl) he c hm F (hr.mono hk) hb .nil hx ht
theorem pk (d : MakD X.prog X.w X.K X.mg X.base CX C k x sp) (hr : Room j X.A) (hx : Passes CX X E) (ha : PA X (e :: es) t) (hk : k + 1 ≤ j := by decide) (hg : Gl X x := by rfl)
    (hdb : (x == ("__debug__" : Str)) = false := by decide) (he : starEach (e :: es) X.env = (false, eval e X.env) :: starEach es X.env := by rfl) (hpl : (backTo pos (starEach es X.env)).any (·.1) = false := by rfl) :
    PE X (.Call (.Name x p) (e :: es) [] pos) (tMake C sp [] E t) := by
  obtain ⟨f, fd, ps, M, F, hb, hm⟩ := d.ex
  exact pe_make M F (hr.mono hk) hg hm hb .nil hx ha hdb he hpl
theorem pkS (d : MakD X.prog X.w X.K X.mg X.base CX C k x sp) (hr : Room j X.A) (hx : ∀ σ, PassesAt CX X σ (ES σ)) (ha : PA X (e :: es) t) (hk : k + 1 ≤ j := by decide) (hg : Gl X x := by rfl)
    (hdb : (x == ("__debug__" : Str)) = false := by decide) (he : starEach (e :: es) X.env = (false, eval e X.env) :: starEach es X.env := by rfl) (hpl : (backTo pos (starEach es X.env)).any (·.1) = false := by rfl) :
    PE X (.Call (.Name x p) (e :: es) [] pos) (tMakeS C sp ES t) := by
  obtain ⟨f, fd, ps, M, F, hb, hm⟩ := d.ex
  exact pe_makeS M F (hr.mono hk) hg hm hb hx ha hdb he hpl
end
/-- what a callee lets out leaves the def -/
theorem px {P : Program} {w : World} {K : PySem.W.Frag} {mg : Str → Option Value} {base : Heap} {N : List Str} {qual : Str} {scope : Scope} {f : Addr} {cd : Value} {A : Around}
    {outer : List Env} {s : Shared} {H : Hp} {E : XK} : Passes (L2N.CX P w) (cxOf (L2N.CX P w) P w K mg base N qual scope f cd A outer s H E) E :=
  L2N.passes_call (W := fun cls d _ H => E cls d H) (L2N.takes_of rfl rfl rfl rfl) (fun _ _ _ _ h => h)
/-- what is raised leaves the def -/
theorem tk {P : Program} {w : World} {K : PySem.W.Frag} {mg : Str → Option Value} {base : Heap} {N : List Str} {qual : Str} {scope : Scope} {f : Addr} {cd : Value} {A : Around}
    {outer : List Env} {s : Shared} {H : Hp} {E : XK} : L2N.Takes (cxOf (L2N.CX P w) P w K mg base N qual scope f cd A outer s H E) (fun cls d _ H => E cls d H) :=
  L2N.takes_of rfl rfl rfl rfl
/-- an own exception class of the text -/
structure ExcT (K : PySem.W.Frag) (mg : Str → Option Value) (x : Str) (c : Addr) : Prop where
  g : mg x = some (.ref c)
  e : PySem.W.excIn K c [.type "ValueError", .type "Exception", .type "BaseException", .type "object"] "ValueError.__new__" = true
  k : PySem.W.keepIn K (.ref c) = true
  b : PySem.W.subIn K (.ref c) (.type "BaseException") = some true
  t : PySem.W.typeIn K (.ref c) = some (.type "type")
theorem pr {X : Cx} {x m : Str} {c : Addr} {j : Nat} {p p2 pos pos2 : Pos} {W : WX} (T : ExcT X.K X.mg x c) (tk : L2N.Takes X W) (hc : X.calm = true := by rfl) (hg : Gl X x := by rfl)
    (hdb : (x == ("__debug__" : Str)) = false := by decide) :
    PS X (.Raise (some (.Call (.Name x p) [.Constant (.str m) j p2] [] pos)) none pos2) (fun _ σ H => W (.ref c) none σ H) :=
  L2N.ps_raise hc tk (L2N.pmk_own PySem.F.excBase_ValueError T.e T.g T.k (raises_own T.b T.t) hg hdb)
end KT

/-! what the hall's defs promise -/
namespace KT
open PySem PySem.Spec PyProof.Rows L2
/-- the facts of the program's own classes -/
structure HT (K : PySem.W.Frag) (mg : Str → Option Value) (C cNG cSG cKA cST cBH : Addr) : Prop where
  cl : Cls K C
  nC : NoAttr K C "count"
  nP : NoAttr K C "pairs"
  ng : ExcT K mg "NoGuest" cNG
  sg : ExcT K mg "SameGuest" cSG
  ka : ExcT K mg "KnowAlready" cKA
  st : ExcT K mg "Strangers" cST
  bh : ExcT K mg "BadHall" cBH
  gr : ∃ t, mg "GREATEST" = some (.int 20 t)
  min : mg "min" = none
  max : mg "max" = none
  range : mg "range" = none
  len : mg "len" = none
def isG (n : Nat) (z : Int) : Prop := 0 ≤ z ∧ z < (n : Int)
theorem isG.nat {n : Nat} {z : Int} (h : isG n z) : ∃ i : Nat, z = (i : Int) ∧ i < n := ⟨z.toNat, by have := h.1; omega, by have := h.1; have := h.2; omega⟩
theorem isG.of {n i : Nat} (h : i < n) : isG n (i : Int) := ⟨by omega, by omega⟩
theorem notG {n : Nat} {z : Int} (h : ¬ isG n z) : z < 0 ∨ (n : Int) ≤ z := by
  unfold isG at h
  omega
/-- Hall(many): the new instance at p -/
def spInit (C cBH : Addr) : Sp := fun vs H Q E => ∃ (p dx : Addr) (z : Int), vs = [.ref p, .int z] ∧ H p = some (.ins C dx []) ∧ H dx = some (.own p) ∧
  (¬ (1 ≤ z ∧ z ≤ 20) → E (.ref cBH) none H) ∧
  (∀ n : Nat, z = (n : Int) → 1 ≤ n → n ≤ 20 → ∀ H' d, Keep [p] H H' → H d = none → HallAt C H' p n d [] → Q .non H')
def spMany (C : Addr) : Sp := fun vs H Q _ => ∃ (p d : Addr) (n : Nat) (L : List Pr), vs = [.ref p] ∧ HallAt C H p n d L ∧ Q (.int (n : Int)) H
def spSee (C cNG : Addr) : Sp := fun vs H Q E => ∃ (p d : Addr) (n : Nat) (L : List Pr) (z : Int), vs = [.ref p, .int z] ∧ HallAt C H p n d L ∧
  (¬ isG n z → E (.ref cNG) none H) ∧ (isG n z → Q .non H)
def spSeeTwo (C cNG cSG : Addr) : Sp := fun vs H Q E => ∃ (p d : Addr) (n : Nat) (L : List Pr) (y z : Int), vs = [.ref p, .int y, .int z] ∧ HallAt C H p n d L ∧
  (¬ (isG n y ∧ isG n z) → E (.ref cNG) none H) ∧ (isG n y → isG n z → y = z → E (.ref cSG) none H) ∧ (isG n y → isG n z → y ≠ z → Q .non H)
def spKnow (C cNG cSG : Addr) : Sp := fun vs H Q E => ∃ (p d : Addr) (n : Nat) (L : List Pr) (y z : Int), vs = [.ref p, .int y, .int z] ∧ HallAt C H p n d L ∧
  (¬ (isG n y ∧ isG n z) → E (.ref cNG) none H) ∧ (isG n y → isG n z → y = z → E (.ref cSG) none H) ∧
  (∀ i j : Nat, y = (i : Int) → z = (j : Int) → i < n → j < n → i ≠ j → ∀ H', Same H H' → Q (.bl (decide (nrm i j ∈ L))) H')
def spMeet (C cNG cSG cKA : Addr) : Sp := fun vs H Q E => ∃ (p d : Addr) (n : Nat) (L : List Pr) (y z : Int), vs = [.ref p, .int y, .int z] ∧ HallAt C H p n d L ∧
  (¬ (isG n y ∧ isG n z) → E (.ref cNG) none H) ∧ (isG n y → isG n z → y = z → E (.ref cSG) none H) ∧
  (∀ i j : Nat, y = (i : Int) → z = (j : Int) → i < n → j < n → i ≠ j → nrm i j ∈ L → ∀ H', Same H H' → E (.ref cKA) none H') ∧
  (∀ i j : Nat, y = (i : Int) → z = (j : Int) → i < n → j < n → i ≠ j → nrm i j ∉ L → ∀ H', Keep [d] H H' → HallAt C H' p n d (L ++ [nrm i j]) → Q .non H')
def spPart (C cNG cSG cST : Addr) : Sp := fun vs H Q E => ∃ (p d : Addr) (n : Nat) (L : List Pr) (y z : Int), vs = [.ref p, .int y, .int z] ∧ HallAt C H p n d L ∧
  (¬ (isG n y ∧ isG n z) → E (.ref cNG) none H) ∧ (isG n y → isG n z → y = z → E (.ref cSG) none H) ∧
  (∀ i j : Nat, y = (i : Int) → z = (j : Int) → i < n → j < n → i ≠ j → nrm i j ∉ L → ∀ H', Same H H' → E (.ref cST) none H') ∧
  (∀ i j : Nat, y = (i : Int) → z = (j : Int) → i < n → j < n → i ≠ j → nrm i j ∈ L → ∀ H', Keep [d] H H' → HallAt C H' p n d (L.erase (nrm i j)) → Q .non H')
/-- the others whom g knows (k), or doesn't -/
def oth (k : Bool) (L : List Pr) (g o : Nat) : Bool := decide (o ≠ g) && (decide (nrm g o ∈ L) == k)
def others (k : Bool) (n : Nat) (L : List Pr) (g : Nat) : List Nat := (List.range n).filter (oth k L g)
theorem oth_iff {k : Bool} {L : List Pr} {g o : Nat} : oth k L g o = true ↔ o ≠ g ∧ decide (nrm g o ∈ L) = k := by
  unfold oth
  rw [Bool.and_eq_true, decide_eq_true_eq, beq_iff_eq]
def iV (l : List Nat) : List V := l.map fun (i : Nat) => V.int (i : Int)
theorem iV_snoc (l : List Nat) (i : Nat) : iV (l ++ [i]) = iV l ++ [V.int (i : Int)] := by
  unfold iV
  rw [List.map_append]
  rfl
theorem filter_yes {f : Nat → Bool} {i : Nat} (h : f i = true) : (List.range (i + 1)).filter f = (List.range i).filter f ++ [i] := by
  rw [List.range_succ, List.filter_append, List.filter_cons_of_pos h]
  rfl
theorem filter_no {f : Nat → Bool} {i : Nat} (h : ¬ f i = true) : (List.range (i + 1)).filter f = (List.range i).filter f := by
  rw [List.range_succ, List.filter_append, List.filter_cons_of_neg h]
  exact List.append_nil _
theorem iV_line {f : Nat → Bool} {i : Nat} (h : i ≤ 1000000) : (iV ((List.range i).filter f)).length < sizeLine := by
  unfold iV
  rw [List.length_map]
  refine Nat.lt_of_le_of_lt (List.length_filter_le _ _) ?_
  rw [List.length_range]
  exact Nat.lt_of_le_of_lt h (by decide)
def spOthers (k : Bool) (C cNG : Addr) : Sp := fun vs H Q E => ∃ (p d : Addr) (n : Nat) (L : List Pr) (z : Int), vs = [.ref p, .int z] ∧ HallAt C H p n d L ∧
  (¬ isG n z → E (.ref cNG) none H) ∧
  (∀ g : Nat, z = (g : Int) → g < n → ∀ H' l, Same H H' → H l = none → H' l = some (.lst (iV (others k n L g))) → Q (.ref l) H')
section
variable {C cNG cSG cKA cST : Addr} {H : Hp} {Q : VK} {E : XK} {p d : Addr} {n i j : Nat} {L : List Pr}
theorem know_good (hall : HallAt C H p n d L) (hi : i < n) (hj : j < n) (nij : i ≠ j) (q : ∀ H', Same H H' → Q (.bl (decide (nrm i j ∈ L))) H') :
    spKnow C cNG cSG [.ref p, .int (i : Int), .int (j : Int)] H Q E := by
  refine ⟨p, d, n, L, _, _, rfl, hall, fun b => absurd ⟨isG.of hi, isG.of hj⟩ b, fun _ _ e => absurd (Int.ofNat.inj e) nij, fun i' j' ei ej _ _ _ => ?_⟩
  have a1 : i = i' := Int.ofNat.inj ei
  have a2 : j = j' := Int.ofNat.inj ej
  subst a1
  subst a2
  exact q
theorem meet_good (hall : HallAt C H p n d L) (hi : i < n) (hj : j < n) (nij : i ≠ j) (nin : nrm i j ∉ L) (q : ∀ H', Keep [d] H H' → HallAt C H' p n d (L ++ [nrm i j]) → Q .non H') :
    spMeet C cNG cSG cKA [.ref p, .int (i : Int), .int (j : Int)] H Q E := by
  refine ⟨p, d, n, L, _, _, rfl, hall, fun b => absurd ⟨isG.of hi, isG.of hj⟩ b, fun _ _ e => absurd (Int.ofNat.inj e) nij, fun i' j' ei ej _ _ _ m => ?_, fun i' j' ei ej _ _ _ _ => ?_⟩
  · have a1 : i = i' := Int.ofNat.inj ei
    have a2 : j = j' := Int.ofNat.inj ej
    subst a1
    subst a2
    exact absurd m nin
  · have a1 : i = i' := Int.ofNat.inj ei
    have a2 : j = j' := Int.ofNat.inj ej
    subst a1
    subst a2
    exact q
theorem others_good {k : Bool} (hall : HallAt C H p n d L) (hi : i < n) (q : ∀ H' l, Same H H' → H l = none → H' l = some (.lst (iV (others k n L i))) → Q (.ref l) H') :
    spOthers k C cNG [.ref p, .int (i : Int)] H Q E := by
  refine ⟨p, d, n, L, _, rfl, hall, fun b => absurd (isG.of hi) b, fun g eg _ => ?_⟩
  have a1 : i = g := Int.ofNat.inj eg
  subst a1
  exact q
end
/-! readings of calls that raise nothing -/
theorem rv {σ : L2.St} {H : Hp} {k : Nat} {v : V} (h : σ[k]? = some (some v)) : ∀ R : VK, R v H → tVar k σ H R := fun _ r => ⟨_, h, r⟩
theorem rvD {σ : L2.St} {k : Nat} {v : V} (h : σ[k]? = some (some v)) : ∀ (H : Hp) (R : VK), R v H → tVar k σ H R := fun _ _ r => ⟨_, h, r⟩
section
variable {C cNG cSG cKA cST : Addr} {σ : L2.St} {H : Hp} {Q : VK} {E : XK} {p d : Addr} {n i j : Nat} {L : List Pr} {to ta tb : TE}
theorem r_know (ho : ∀ R : VK, R (.ref p) H → to σ H R) (ha : ∀ R : VK, R (.int (i : Int)) H → ta σ H R) (hb : ∀ R : VK, R (.int (j : Int)) H → tb σ H R)
    (hall : HallAt C H p n d L) (hi : i < n) (hj : j < n) (nij : i ≠ j) (q : ∀ H', Same H H' → Q (.bl (decide (nrm i j ∈ L))) H') :
    tMeth C "know" (spKnow C cNG cSG) [] E to (tCons ta (tCons tb tNil)) σ H Q := by
  obtain ⟨dx, hp⟩ := hall.ins
  exact ho _ ⟨p, dx, _, rfl, hp, hf_no _ _ (by decide +kernel) (by decide +kernel), ha _ (hb _ (know_good hall hi hj nij q))⟩
theorem r_meet (ho : ∀ R : VK, R (.ref p) H → to σ H R) (ha : ∀ R : VK, R (.int (i : Int)) H → ta σ H R) (hb : ∀ R : VK, R (.int (j : Int)) H → tb σ H R)
    (hall : HallAt C H p n d L) (hi : i < n) (hj : j < n) (nij : i ≠ j) (nin : nrm i j ∉ L) (q : ∀ H', Keep [d] H H' → HallAt C H' p n d (L ++ [nrm i j]) → Q .non H') :
    tMeth C "meet" (spMeet C cNG cSG cKA) [] E to (tCons ta (tCons tb tNil)) σ H Q := by
  obtain ⟨dx, hp⟩ := hall.ins
  exact ho _ ⟨p, dx, _, rfl, hp, hf_no _ _ (by decide +kernel) (by decide +kernel), ha _ (hb _ (meet_good hall hi hj nij nin q))⟩
theorem r_known (ho : ∀ R : VK, R (.ref p) H → to σ H R) (ha : ∀ R : VK, R (.int (i : Int)) H → ta σ H R)
    (hall : HallAt C H p n d L) (hi : i < n) (q : ∀ H' l, Same H H' → H l = none → H' l = some (.lst (iV (others true n L i))) → Q (.ref l) H') :
    tMeth C "known" (spOthers true C cNG) [] E to (tCons ta tNil) σ H Q := by
  obtain ⟨dx, hp⟩ := hall.ins
  exact ho _ ⟨p, dx, _, rfl, hp, hf_no _ _ (by decide +kernel) (by decide +kernel), ha _ (others_good hall hi q)⟩
theorem r_strangers (ho : ∀ R : VK, R (.ref p) H → to σ H R) (ha : ∀ R : VK, R (.int (i : Int)) H → ta σ H R)
    (hall : HallAt C H p n d L) (hi : i < n) (q : ∀ H' l, Same H H' → H l = none → H' l = some (.lst (iV (others false n L i))) → Q (.ref l) H') :
    tMeth C "strangers" (spOthers false C cNG) [] E to (tCons ta tNil) σ H Q := by
  obtain ⟨dx, hp⟩ := hall.ins
  exact ho _ ⟨p, dx, _, rfl, hp, hf_no _ _ (by decide +kernel) (by decide +kernel), ha _ (others_good hall hi q)⟩
theorem r_many (ho : ∀ R : VK, R (.ref p) H → to σ H R) (hall : HallAt C H p n d L) (q : Q (.int (n : Int)) H) :
    tMeth C "many" (spMany C) [] E to tNil σ H Q := by
  obtain ⟨dx, hp⟩ := hall.ins
  exact ho _ ⟨p, dx, _, rfl, hp, hf_no _ _ (by decide +kernel) (by decide +kernel), p, d, n, L, rfl, hall, q⟩
end
/-- (x, y) in a dict of pairs -/
theorem get_new {H : Hp} {q t : Addr} {i j : Nat} {E : List Pr} (hq : H q = some (.dT (kvs E))) (ht : H t = none) :
    DGet (upd H t (.tup [V.int (i : Int), V.int (j : Int)])) q (.ref t) (valV (kvs E) (kP (i, j))) :=
  DGet.t (k := kP (i, j)) (same_new (.tup [V.int (i : Int), V.int (j : Int)]) ht _ _ hq) upd_same
/-- Hall(z) as an expression -/
theorem make_hall {C cBH : Addr} {z : Int} {H1 : Hp} {Q : Addr → Hp → Prop} {E : XK}
    (bad : ¬ (1 ≤ z ∧ z ≤ 20) → ∀ H', Same H1 H' → E (.ref cBH) none H')
    (good : ∀ n : Nat, z = (n : Int) → 1 ≤ n → n ≤ 20 → ∀ H' x d, H1 x = none → H1 d = none → Same H1 H' → HallAt C H' x n d [] → Q x H') :
    ∀ x dx, H1 x = none → H1 dx = none → dx ≠ x → spInit C cBH (.ref x :: [.int z]) (upd (upd H1 dx (.own x)) x (.ins C dx [])) (fun v H2 => v = .non ∧ Q x H2) E := by
  intro x dx hx hdx ne
  have s1 : Same H1 (upd (upd H1 dx (.own x)) x (.ins C dx [])) := (same_new _ hdx).trans (same_new _ (by rw [upd_ne ne.symm]; exact hx))
  refine ⟨x, dx, z, rfl, upd_same, by rw [upd_ne ne]; exact upd_same, fun b => bad b _ s1, ?_⟩
  intro n ez h1 h2 H' d kp nd hall
  refine ⟨rfl, good n ez h1 h2 H' x d hx ?_ (same_keepNew s1 hx kp) hall⟩
  exact s1.free nd
end KT

/-! the law's own defs: sorting of pairs, promises -/
namespace KT
open PySem PySem.Spec PyProof.Rows L2
def Srt (E : List Pr) : Prop := E.Pairwise fun p q => p.1 < q.1 ∨ (p.1 = q.1 ∧ p.2 < q.2)
/-- the ints of the tuple that v stands for -/
def tk2 (H : Hp) : V → Int × Int
  | .ref a => match H a with
    | some (.tup [.int i, .int j]) => (i, j)
    | _ => (0, 0)
  | _ => (0, 0)
theorem tk2_of {H : Hp} {v : V} {p : Pr} (h : PairV H v p) : tk2 H v = ((p.1 : Int), (p.2 : Int)) := by
  obtain ⟨a, rfl, e⟩ := h
  show (match H a with
    | some (.tup [.int i, .int j]) => (i, j)
    | _ => (0, 0)) = _
  rw [e]
theorem PairVs.mem {H : Hp} : ∀ {xs : List V} {E : List Pr}, PairVs H xs E → ∀ v ∈ xs, ∃ p, p ∈ E ∧ PairV H v p
  | _, _, .nil, v, h => by cases h
  | _, _, .cons a r, v, h => by
    rcases List.mem_cons.mp h with e | h
    · subst e
      exact ⟨_, List.mem_cons_self, a⟩
    · obtain ⟨p, hp, z⟩ := PairVs.mem r v h
      exact ⟨p, List.mem_cons_of_mem _ hp, z⟩
theorem PairVs.eq {H : Hp} : ∀ {xs : List V} {E : List Pr}, PairVs H xs E → E = xs.map fun v => ((tk2 H v).1.toNat, (tk2 H v).2.toNat)
  | _, _, .nil => rfl
  | _, _, .cons a r => by
    rw [List.map_cons, ← PairVs.eq r, tk2_of a]
    simp
theorem PairVs.of {H : Hp} : ∀ {ys : List V}, (∀ v ∈ ys, ∃ p, PairV H v p) → PairVs H ys (ys.map fun v => ((tk2 H v).1.toNat, (tk2 H v).2.toNat))
  | [], _ => .nil
  | v :: ys, h => by
    refine .cons ?_ (PairVs.of fun u hu => h u (List.mem_cons_of_mem _ hu))
    obtain ⟨p, hp⟩ := h v List.mem_cons_self
    show PairV H v ((tk2 H v).1.toNat, (tk2 H v).2.toNat)
    rw [tk2_of hp]
    simpa using hp
theorem sort_pairs {H : Hp} {xs : List V} {E : List Pr} (r : PairVs H xs E) (nd : E.Nodup) :
    (∀ x ∈ xs, ∃ t, x = V.ref t ∧ H t = some (.tup [.int (tk2 H x).1, .int (tk2 H x).2])) ∧
    ∀ ys, SrtO.Srtd (ltP (tk2 H)) ys → ys.Perm xs → ∃ E', PairVs H ys E' ∧ E'.Perm E ∧ Srt E' := by
  refine ⟨fun x hx => ?_, fun ys hs hp => ?_⟩
  · obtain ⟨p, _, hv⟩ := r.mem x hx
    rw [tk2_of hv]
    obtain ⟨a, rfl, e⟩ := hv
    exact ⟨a, rfl, e⟩
  · have all : ∀ v ∈ ys, ∃ p, PairV H v p := fun v hv => by
      obtain ⟨p, _, h⟩ := r.mem v (hp.mem_iff.mp hv)
      exact ⟨p, h⟩
    have pe : (ys.map fun v => ((tk2 H v).1.toNat, (tk2 H v).2.toNat)).Perm E := by
      rw [r.eq]
      exact hp.map _
    refine ⟨_, PairVs.of all, pe, ?_⟩
    have nd2 : (ys.map fun v => ((tk2 H v).1.toNat, (tk2 H v).2.toNat)).Nodup := pe.nodup_iff.mpr nd
    unfold Srt
    rw [List.pairwise_map]
    have nd3 : ys.Pairwise fun u v => ((tk2 H u).1.toNat, (tk2 H u).2.toNat) ≠ ((tk2 H v).1.toNat, (tk2 H v).2.toNat) := List.pairwise_map.mp nd2
    have both := List.pairwise_and_iff.mpr ⟨List.Pairwise.imp_of_mem (S := fun u v => ltP (tk2 H) v u = false ∧ u ∈ ys ∧ v ∈ ys) (fun hu hv h => ⟨h, hu, hv⟩) hs, nd3⟩
    refine both.imp ?_
    rintro u v ⟨⟨h1, hu, hv⟩, h2⟩
    obtain ⟨p, hp1⟩ := all u hu
    obtain ⟨q, hq1⟩ := all v hv
    have h3 := SrtO.lexB_no.mp h1
    rw [tk2_of hp1, tk2_of hq1] at *
    simp only [Int.toNat_natCast, ne_eq, Prod.mk.injEq, not_and] at h2 h3 ⊢
    by_cases c : p.1 = q.1
    · have := h2 c
      omega
    · omega

/-! ### promises -/
def spCell (K : PySem.W.Frag) : Sp := fun vs H Q _ => ∃ (a : Addr) (ns : List Int) (k : Nat), vs = [.ref a, .int (k : Int)] ∧ SqL K H a (ns.map V.int) ∧ Q (.int (ns.getD k 0)) H
def spWhole : Sp := fun vs H Q _ => ∃ i : Int, vs = [.int i] ∧ Q (.bl true) H
def spManyOf (K : PySem.W.Frag) : Sp := fun vs H Q _ => ∃ (a : Addr) (ns : List Int), vs = [.ref a] ∧ SqL K H a (ns.map V.int) ∧ ∀ n : Nat, 1 ≤ n → n ≤ 20 → Q (.int (n : Int)) H
def spPairsBy (K : PySem.W.Frag) : Sp := fun vs H Q _ => ∃ (a : Addr) (ns : List Int) (first n : Nat), vs = [.ref a, .int (first : Int), .int (n : Int)] ∧ SqL K H a (ns.map V.int) ∧ 1 ≤ n ∧ n ≤ 20 ∧
  ∀ H' l E, Same H H' → H l = none → PairsAt H' l E → WF n E → Srt E → Q (.ref l) H'
def spHallOf (C : Addr) : Sp := fun vs H Q _ => ∃ (l : Addr) (n : Nat) (E : List Pr), vs = [.int (n : Int), .ref l] ∧ PairsAt H l E ∧ WF n E ∧ 1 ≤ n ∧ n ≤ 20 ∧
  ∀ H' x d, Same H H' → H x = none → H d = none → HallAt C H' x n d E → Q (.ref x) H'
/-- the same pairs, in any order -/
def Eqv (L E : List Pr) : Prop := ∀ p, p ∈ L ↔ p ∈ E
theorem Eqv.refl (L : List Pr) : Eqv L L := fun _ => Iff.rfl
theorem Eqv.snoc {L E : List Pr} (h : Eqv L E) (q : Pr) : Eqv (L ++ [q]) (E ++ [q]) := fun p => by
  rw [List.mem_append, List.mem_append, h p]
theorem Eqv.erase {L E : List Pr} (h : Eqv L E) (nL : L.Nodup) (nE : E.Nodup) (q : Pr) : Eqv (L.erase q) (E.erase q) := fun p => by
  rw [nL.mem_erase_iff, nE.mem_erase_iff, h p]
def spTurnOne (C : Addr) : Sp := fun vs H Q _ => ∃ (x l d : Addr) (n : Nat) (L E : List Pr) (z : Int), vs = [.ref x, .ref l, .int (n : Int), .int z] ∧ HallAt C H x n d L ∧ PairsAt H l E ∧ WF n E ∧ Eqv L E ∧
  ∀ H' L' E', Keep [d, l] H H' → HallAt C H' x n d L' → PairsAt H' l E' → WF n E' → Eqv L' E' → Q .non H'
end KT

/-! threes: plain, in the heap, promises -/
namespace KT
open PySem PySem.Spec PyProof.Rows L2
abbrev Tr := Nat × Nat × Nat
def mono (L : List Pr) (a b c : Nat) : Bool := (decide (nrm a b ∈ L) == decide (nrm a c ∈ L)) && (decide (nrm a b ∈ L) == decide (nrm b c ∈ L))
def th3 (L : List Pr) (a b k : Nat) : List Tr := (List.range k).flatMap fun i => if mono L a b (b + 1 + i) = true then [(a, b, b + 1 + i)] else []
def th2 (L : List Pr) (n a k : Nat) : List Tr := (List.range k).flatMap fun i => th3 L a (a + 1 + i) (n - (a + 1 + i + 1))
def th1 (L : List Pr) (n k : Nat) : List Tr := (List.range k).flatMap fun a => th2 L n a (n - (a + 1))
def threesL (n : Nat) (L : List Pr) : List Tr := th1 L n n
theorem flat_step {α : Type} (f : Nat → List α) (k : Nat) : (List.range (k + 1)).flatMap f = (List.range k).flatMap f ++ f k := by
  rw [List.range_succ, List.flatMap_append]
  simp
theorem th3_step (L : List Pr) (a b k : Nat) : th3 L a b (k + 1) = th3 L a b k ++ (if mono L a b (b + 1 + k) = true then [(a, b, b + 1 + k)] else []) := flat_step _ _
theorem th2_step (L : List Pr) (n a k : Nat) : th2 L n a (k + 1) = th2 L n a k ++ th3 L a (a + 1 + k) (n - (a + 1 + k + 1)) := flat_step _ _
theorem th1_step (L : List Pr) (n k : Nat) : th1 L n (k + 1) = th1 L n k ++ th2 L n k (n - (k + 1)) := flat_step _ _
theorem mono_eqv {L E : List Pr} (h : Eqv L E) (a b c : Nat) : mono L a b c = mono E a b c := by
  unfold mono
  rw [decide_eq_decide.mpr (h (nrm a b)), decide_eq_decide.mpr (h (nrm a c)), decide_eq_decide.mpr (h (nrm b c))]
theorem threes_eqv {L E : List Pr} (h : Eqv L E) (n : Nat) : threesL n L = threesL n E := by
  unfold threesL th1 th2 th3
  simp only [mono_eqv h]
theorem mem_threes {n : Nat} {L : List Pr} {t : Tr} : t ∈ threesL n L ↔ t.1 < t.2.1 ∧ t.2.1 < t.2.2 ∧ t.2.2 < n ∧ mono L t.1 t.2.1 t.2.2 = true := by
  obtain ⟨a, b, c⟩ := t
  unfold threesL th1 th2 th3
  simp only [List.mem_flatMap, List.mem_range]
  constructor
  · rintro ⟨a', ha, i, hi, j, hj, h⟩
    split at h
    · rename_i m
      have e := List.mem_singleton.mp h
      injection e with e1 e2
      injection e2 with e2 e3
      subst e1
      subst e2
      subst e3
      exact ⟨by omega, by omega, by omega, m⟩
    · cases h
  · rintro ⟨h1, h2, h3, m⟩
    refine ⟨a, by omega, b - (a + 1), by omega, c - (b + 1), by omega, ?_⟩
    have e1 : a + 1 + (b - (a + 1)) = b := by omega
    have e2 : b + 1 + (c - (b + 1)) = c := by omega
    rw [e1, e2, if_pos m]
    exact List.mem_singleton.mpr rfl
theorem th3_len (L : List Pr) (a b : Nat) : ∀ k, (th3 L a b k).length ≤ k
  | 0 => Nat.le_refl _
  | k + 1 => by
    have h := th3_len L a b k
    rw [th3_step, List.length_append]
    split
    · rw [List.length_singleton]
      omega
    · rw [List.length_nil]
      omega
theorem th2_len (L : List Pr) {n : Nat} (hn : n ≤ 20) (a : Nat) : ∀ k, (th2 L n a k).length ≤ 20 * k
  | 0 => Nat.le_refl _
  | k + 1 => by
    have h := th2_len L hn a k
    have h2 := th3_len L a (a + 1 + k) (n - (a + 1 + k + 1))
    rw [th2_step, List.length_append]
    omega
theorem th1_len (L : List Pr) {n : Nat} (hn : n ≤ 20) : ∀ k, (th1 L n k).length ≤ 400 * k
  | 0 => Nat.le_refl _
  | k + 1 => by
    have h := th1_len L hn k
    have h2 := th2_len L hn k (n - (k + 1))
    rw [th1_step, List.length_append]
    omega
theorem threes_len (L : List Pr) {n : Nat} (hn : n ≤ 20) : (threesL n L).length ≤ 8000 := by
  have h := th1_len L hn n
  unfold threesL
  omega
/-! in the heap -/
def TripV (H : Hp) (v : V) (t : Tr) : Prop := ∃ a, v = .ref a ∧ H a = some (.tup [.int (t.1 : Int), .int (t.2.1 : Int), .int (t.2.2 : Int)])
abbrev TripVs (H : Hp) : List V → List Tr → Prop := Paired (TripV H)
structure TripsAt (H : Hp) (l : Addr) (E : List Tr) : Prop where
  ex : ∃ xs, H l = some (.lst xs) ∧ TripVs H xs E
theorem TripVs.keep {H H' : Hp} (k : ∀ b ys, H b = some (.tup ys) → H' b = some (.tup ys)) {xs : List V} {E : List Tr} (h : TripVs H xs E) : TripVs H' xs E :=
  Paired.mapP h fun v p ⟨a, e, z⟩ => ⟨a, e, k _ _ z⟩
theorem TripVs.snoc {H : Hp} : ∀ {xs : List V} {E : List Tr} {v : V} {p : Tr}, TripVs H xs E → TripV H v p → TripVs H (xs ++ [v]) (E ++ [p])
  | _, _, _, _, .nil, h => .cons h .nil
  | _, _, _, _, .cons a r, h => .cons a (TripVs.snoc r h)
theorem TripVs.get {H : Hp} : ∀ {xs : List V} {E : List Tr} {i : Nat} {v : V}, TripVs H xs E → xs[i]? = some v → ∃ p, E[i]? = some p ∧ TripV H v p
  | _, _, _, _, .nil, e => by simp at e
  | _, _, 0, _, .cons a _, e => by
    simp at e
    subst e
    exact ⟨_, rfl, a⟩
  | _, _, i + 1, v, .cons _ r, e => TripVs.get (i := i) (v := v) r (by simpa using e)
theorem TripsAt.same {H H' : Hp} {l : Addr} {E : List Tr} (h : TripsAt H l E) (s : Same H H') : TripsAt H' l E := by
  obtain ⟨xs, e, r⟩ := h.ex
  exact ⟨xs, s _ _ e, r.keep fun b ys z => s _ _ z⟩
def tD (t : Tr) : PyData := .tuple [.int (t.1 : Int), .int (t.2.1 : Int), .int (t.2.2 : Int)]
theorem TripV.dp {K : PySem.W.Frag} {H : Hp} {v : V} {p : Tr} (h : TripV H v p) : Dp K H v (tD p) := by
  obtain ⟨a, rfl, e⟩ := h
  exact .tup (SqT.of e) (.cons (.int _) (.cons (.int _) (.cons (.int _) .nil)))
theorem TripVs.dp {K : PySem.W.Frag} {H : Hp} : ∀ {xs : List V} {E : List Tr}, TripVs H xs E → DpAll K H xs (E.map tD)
  | _, _, .nil => .nil
  | _, _, .cons a r => .cons a.dp (TripVs.dp r)
theorem TripsAt.dp {K : PySem.W.Frag} {H : Hp} {l : Addr} {E : List Tr} (h : TripsAt H l E) : Dp K H (.ref l) (.list (E.map tD)) := by
  obtain ⟨xs, e, r⟩ := h.ex
  exact .lst (SqL.of e) r.dp
theorem tD_depth (p : Tr) : (tD p).depth = 1 := by simp [tD, PyData.depth, PyData.depthAll]
theorem tDs_lay : ∀ E : List Tr, PyData.canLayAll0 (E.map tD) = true
  | [] => by simp [PyData.canLayAll0]
  | z :: zs => by simp [PyData.canLayAll0, PyData.canLay0, tD, tDs_lay zs]
theorem tDs_depth : ∀ E : List Tr, PyData.depthAll (E.map tD) ≤ 1
  | [] => by simp [PyData.depthAll]
  | z :: zs => by
    have h1 := tDs_depth zs
    have h2 := tD_depth z
    simp only [List.map_cons, PyData.depthAll]
    omega
theorem tDs_shaped (E : List Tr) : SeqAt.shaped (.list (E.map tD)) = true := by
  have h1 := tDs_depth E
  have h2 : PyData.depth (.list (E.map tD)) ≤ 64 := by
    simp only [PyData.depth]
    omega
  have h3 : PyData.canLay0 (.list (E.map tD)) = true := by
    simp only [PyData.canLay0]
    exact tDs_lay E
  unfold SeqAt.shaped
  rw [h3, decide_eq_true h2] <;> rfl
theorem tDs_plain : ∀ E : List Tr, PyData.plainAll (E.map tD) = true
  | [] => by simp [PyData.plainAll]
  | z :: zs => by
    have h := tDs_plain zs
    simp [PyData.plainAll, PyData.plain, tD, h]
/-! promises -/
def spIsThree (C : Addr) : Sp := fun vs H Q _ => ∃ (p d : Addr) (n a b c : Nat) (L : List Pr), vs = [.ref p, .int (a : Int), .int (b : Int), .int (c : Int)] ∧ HallAt C H p n d L ∧
  a < b ∧ b < c ∧ c < n ∧ ∀ H', Same H H' → Q (.bl (mono L a b c)) H'
def spThrees (C : Addr) : Sp := fun vs H Q _ => ∃ (p d : Addr) (n : Nat) (L : List Pr), vs = [.ref p] ∧ HallAt C H p n d L ∧
  ∀ H' l, Same H H' → H l = none → TripsAt H' l (threesL n L) → Q (.ref l) H'
/-- the law's own way, of a list of pairs -/
def spThreesL : Sp := fun vs H Q _ => ∃ (l : Addr) (n : Nat) (E : List Pr), vs = [.ref l, .int (n : Int)] ∧ PairsAt H l E ∧ WF n E ∧ n ≤ 20 ∧
  ∀ H' q, Same H H' → H q = none → TripsAt H' q (threesL n E) → Q (.ref q) H'
def spIsThreeL : Sp := fun vs H Q _ => ∃ (a l : Addr) (n : Nat) (E : List Pr) (t : Tr), vs = [.ref a, .ref l, .int (n : Int)] ∧ PairsAt H l E ∧ WF n E ∧ TripV H (.ref a) t ∧ t ∈ threesL n E ∧
  ∀ H', Same H H' → Q (.bl true) H'
/-- a new tuple t put behind the list at l -/
theorem trip_put {H0 H1 : Hp} {l t : Addr} {xs : List V} {E : List Tr} {x : Tr} (nl : H0 l = none) (s : Same H0 H1) (hl : H1 l = some (.lst xs)) (r : TripVs H1 xs E) (ht : H1 t = none) :
    Same H0 (upd (upd H1 t (.tup [.int (x.1 : Int), .int (x.2.1 : Int), .int (x.2.2 : Int)])) l (.lst (xs ++ [.ref t]))) ∧
    TripVs (upd (upd H1 t (.tup [.int (x.1 : Int), .int (x.2.1 : Int), .int (x.2.2 : Int)])) l (.lst (xs ++ [.ref t]))) (xs ++ [.ref t]) (E ++ [x]) := by
  have ntl : l ≠ t := ne_of_none hl ht
  refine ⟨fun b o e => ?_, TripVs.snoc (r.keep fun b ys e => ?_) ⟨t, rfl, ?_⟩⟩
  · have e2 := s b o e
    rw [upd_ne (ne_of_none e nl), upd_ne (ne_of_none e2 ht)]
    exact e2
  · rw [upd_ne (ne_of e hl (fun z => nomatch z)), upd_ne (ne_of_none e ht)]
    exact e
  · rw [upd_ne ntl.symm, upd_same]
end KT

/-! what is refused: marks of a caught error, and lists of ints and of truth values -/
namespace KT
open PySem PySem.Spec PyProof.Rows L2
/-! ### bundles -/
theorem MetD.weak {P : Program} {w : World} {K : PySem.W.Frag} {mg : Str → Option Value} {base : Heap} {C : Addr} {k : Nat} {m : Str} {sp : Sp}
    (d : MetD P w K mg base (L2N.CX P w) C k m sp) : MetD P w K mg base (L2.CX P w) C k m sp := by
  obtain ⟨f, fd, ps, F, r⟩ := d.ex
  exact ⟨f, fd, ps, FnOk_weak F, r⟩
theorem MakD.weak {P : Program} {w : World} {K : PySem.W.Frag} {mg : Str → Option Value} {base : Heap} {C : Addr} {k : Nat} {m : Str} {sp : Sp}
    (d : MakD P w K mg base (L2N.CX P w) C k m sp) : MakD P w K mg base (L2.CX P w) C k m sp := by
  obtain ⟨f, fd, ps, M, F, r⟩ := d.ex
  exact ⟨f, fd, ps, M, FnOk_weak F, r⟩
theorem CalD.weak {P : Program} {w : World} {K : PySem.W.Frag} {mg : Str → Option Value} {base : Heap} {k : Nat} {m : Str} {sp : Sp}
    (d : CalD P w K mg base (L2N.CX P w) k m sp) : CalD P w K mg base (L2.CX P w) k m sp := by
  obtain ⟨f, fd, ps, F, r⟩ := d.ex
  exact ⟨f, fd, ps, FnOk_weak F, r⟩
structure CalP (P : Program) (w : World) (K : PySem.W.Frag) (mg : Str → Option Value) (base : Heap) (k : Nat) (x : Str) (sp : Addr → Value → Option Addr → Sp) : Prop where
  ex : ∃ f fd ps, FnP P w K mg base k f fd ps sp ∧ Binds K fd ps [] ∧ mg x = some (.ref f) ∧ PySem.W.keepIn K (.ref f) = true
theorem pcP {X : Cx} {k j : Nat} {A : Around} {sp : Addr → Value → Option Addr → Sp} {x : Str} {q pos : Pos} {e : Expr} {es : List Expr} {t : TA} {p : Addr × Obj} {cls : Value} {d : Option Addr}
    (c : CalP X.prog X.w X.K X.mg X.base k x sp) (hr : Room j A) (ed : X.A.depth = A.depth) (eu : X.A.units = A.units) (hp : p ∈ X.pn) (hz : Zc cls d p.2) (hf : ∃ fv, p.2.data = .fields fv)
    (ha : PA X (e :: es) t) (hk : k ≤ j := by decide) (hg : Gl X x := by rfl) (hdb : (x == ("__debug__" : Str)) = false := by decide)
    (he : starEach (e :: es) X.env = (false, eval e X.env) :: starEach es X.env := by rfl) (hpl : (backTo pos (starEach es X.env)).any (·.1) = false := by rfl) :
    PE X (.Call (.Name x q) (e :: es) [] pos) (tCallP sp p.1 cls d t) := by
  obtain ⟨f, fd, ps, F, hb, hm, kp⟩ := c.ex
  have r1 := hr.mono hk
  exact pe_callP F ⟨by rw [ed]; exact r1.dp, by rw [eu]; exact r1.un⟩ hp hz hf hg hm kp hb ha hdb he hpl
/-! ### lists of ints, of truth values, as data -/
def iD (l : List Nat) : PyData := .list (l.map fun (i : Nat) => PyData.int (i : Int))
theorem iV_all {K : PySem.W.Frag} {H : Hp} : ∀ l : List Nat, DpAll K H (iV l) (l.map fun (i : Nat) => PyData.int (i : Int))
  | [] => .nil
  | i :: l => .cons (.int _) (iV_all l)
theorem iD_dp {K : PySem.W.Frag} {H : Hp} {a : Addr} {l : List Nat} (h : SqL K H a (iV l)) : Dp K H (.ref a) (iD l) := .lst h (iV_all l)
theorem iD_plain : ∀ l : List Nat, PyData.plainAll (l.map fun (i : Nat) => PyData.int (i : Int)) = true
  | [] => by simp [PyData.plainAll]
  | i :: l => by
    have h := iD_plain l
    simp [PyData.plainAll, PyData.plain, h]
theorem iD_shaped (l : List Nat) : SeqAt.shaped (iD l) = true := by
  have h1 : ∀ l : List Nat, PyData.canLayAll0 (l.map fun (i : Nat) => PyData.int (i : Int)) = true ∧ PyData.depthAll (l.map fun (i : Nat) => PyData.int (i : Int)) = 0 := by
    intro l
    induction l with
    | nil => exact ⟨by simp [PyData.canLayAll0], by simp [PyData.depthAll]⟩
    | cons i l ih => exact ⟨by simp [PyData.canLayAll0, PyData.canLay0, ih.1], by simp [PyData.depthAll, PyData.depth, ih.2]⟩
  obtain ⟨a, b⟩ := h1 l
  unfold SeqAt.shaped iD
  simp only [PyData.canLay0, PyData.depth, a, b]
  rfl
theorem iD_refl (l : List Nat) : PyData.eqv (iD l) (iD l) = true := SeqAt.eqv_refl_plain _ (by unfold iD; simp only [PyData.plain]; exact iD_plain l)
def bV (l : List Bool) : List V := l.map V.bl
def bD (l : List Bool) : PyData := .list (l.map PyData.bool)
theorem bV_all {K : PySem.W.Frag} {H : Hp} : ∀ l : List Bool, DpAll K H (bV l) (l.map PyData.bool)
  | [] => .nil
  | i :: l => .cons (.bl _) (bV_all l)
theorem bD_dp {K : PySem.W.Frag} {H : Hp} {a : Addr} {l : List Bool} (h : SqL K H a (bV l)) : Dp K H (.ref a) (bD l) := .lst h (bV_all l)
theorem bD_plain : ∀ l : List Bool, PyData.plainAll (l.map PyData.bool) = true
  | [] => by simp [PyData.plainAll]
  | i :: l => by
    have h := bD_plain l
    simp [PyData.plainAll, PyData.plain, h]
theorem bD_shaped (l : List Bool) : SeqAt.shaped (bD l) = true := by
  have h1 : ∀ l : List Bool, PyData.canLayAll0 (l.map PyData.bool) = true ∧ PyData.depthAll (l.map PyData.bool) = 0 := by
    intro l
    induction l with
    | nil => exact ⟨by simp [PyData.canLayAll0], by simp [PyData.depthAll]⟩
    | cons i l ih => exact ⟨by simp [PyData.canLayAll0, PyData.canLay0, ih.1], by simp [PyData.depthAll, PyData.depth, ih.2]⟩
  obtain ⟨a, b⟩ := h1 l
  unfold SeqAt.shaped bD
  simp only [PyData.canLay0, PyData.depth, a, b]
  rfl
theorem bD_refl (l : List Bool) : PyData.eqv (bD l) (bD l) = true := SeqAt.eqv_refl_plain _ (by unfold bD; simp only [PyData.plain]; exact bD_plain l)
theorem iV_flat : ∀ l : List Nat, (iV l).all flatV = true
  | [] => rfl
  | i :: l => iV_flat l
theorem inV_iV (o : Nat) : ∀ l : List Nat, inV (.int (o : Int)) (iV l) = decide (o ∈ l)
  | [] => by simp [inV, iV]
  | i :: l => by
    have ih := inV_iV o l
    have e : inV (.int (o : Int)) (iV (i :: l)) = (eqV (.int (i : Int)) (.int (o : Int)) || inV (.int (o : Int)) (iV l)) := rfl
    have e2 : eqV (.int (i : Int)) (.int (o : Int)) = ((i : Int) == (o : Int)) := rfl
    rw [e, e2, ih, Bool.eq_iff_iff]
    simp only [Bool.or_eq_true, beq_iff_eq, decide_eq_true_eq, List.mem_cons]
    constructor
    · rintro (h | h)
      · exact .inl (by omega)
      · exact .inr h
    · rintro (h | h)
      · exact .inl (by omega)
      · exact .inr h
/-! ### [k == m for k in range(7)] -/
def marksTo (m i : Nat) : List Bool := (List.range i).map fun k => decide (k = m)
def marks (m : Nat) : List Bool := marksTo m 7
def tMarks (m : Nat) : TE := fun _ H Q => ∀ D H', H D = none → Same H H' → H' D = some (.lst (bV (marks m))) → Q (.ref D) H'
theorem dec_nat (i m : Nat) : decide (V.int (i : Int) = V.int (m : Int)) = decide (i = m) := by
  rw [decide_eq_decide]
  constructor
  · intro h
    have := V.int.inj h
    omega
  · intro h
    rw [h]
theorem yes_ite {σ : L2.St} {H : Hp} {A B : Hp → Prop} (h : A H) : tYes σ H fun b H3 => if b = true then A H3 else B H3 := by
  show (if true = true then A H else B H)
  rw [if_pos rfl]
  exact h
theorem pe_imp {X : Cx} {e : Expr} {t t' : TE} (h : PE X e t) (i : ∀ σ H Q, t' σ H Q → t σ H Q) : PE X e t' := ⟨fun pins s σ H Q I q => h.run pins s σ H Q I (i σ H Q q)⟩
theorem pe_marks {X : Cx} {i m : Nat} {j j2 : Nat} {p1 p2 p3 p4 p5 p6 p7 pos : Pos} {scope : Scope} (hc : X.calm = true) (hN : X.N.Nodup) (hi : i < X.N.length) (hm : X.mg "range" = none) (hgr : Gl X "range")
    (ok : BlkOk X.N X.env.scope scope [("k", i)])
    (hg : ∀ (s : Shared) (H : Hp) (C : Addr) (cl : List (Str × Addr)) (fp : List Addr), PG (X.blk s H scope (compEnvC scope cl C X.env) fp) (.Name "k" p4) (gName i))
    (hv : ∀ (s : Shared) (H : Hp) (C : Addr) (cl : List (Str × Addr)) (fp : List Addr), PE (X.blk s H scope (compEnvC scope cl C X.env) fp) (.Name "k" p1) (tVar i)) :
    PE X (.ListComp (.Compare (.Name "k" p1) [.Eq] [.Constant (.int (m : Int)) j p2] p3) [⟨.Name "k" p4, .Call (.Name "range" p5) [.Constant (.int 7) j2 p6] [] p7, [], 0⟩] scope pos) (tMarks m) := by
  constructor
  intro pins s σ H Q I q
  have hl : σ.length = X.N.length := I.len
  refine (pe_lc (own := [("k", i)]) (g := gName i) (tt := tYes) (te := tOp rEq (tVar i) (tC (.int (m : Int)))) hc hN (pi_range1 hgr hm (pa_cons pe_int pa_nil)) ok hg (fun _ _ _ _ _ => pts_nil)
    (fun s H C cl fp => pe_cmpR op_eq (hv s H C cl fp) pe_int (nomark _))).run pins s σ H Q I ?_
  refine ⟨7, rfl, by decide, by decide, fun D hD => ?_⟩
  refine lc_range (lo := 0) (n := 7) (fun n H' => Same H H' ∧ H' D = some (.lst (bV (marksTo m n)))) ⟨same_new _ hD, upd_same⟩ ?_ (fun H1 h1 => q D H1 hD h1.1 h1.2)
  rintro n H1 hn ⟨s1, h1⟩
  rw [Int.zero_add]
  have hw : i < (wipe σ [i]).length := by rw [wipe_length, hl]; exact hi
  have e1 : (List.set (wipe σ [i]) i (some (V.int (n : Int))))[i]? = some (some (V.int (n : Int))) := List.getElem?_set_self hw
  have e2 : wipe (List.set (wipe σ [i]) i (some (V.int (n : Int)))) [i] = wipe σ [i] := by
    show List.set (List.set (List.set σ i none) i (some (V.int (n : Int)))) i none = List.set σ i none
    rw [List.set_set, List.set_set]
  refine ⟨e2, ?_⟩
  refine yes_ite ?_
  refine ⟨_, e1, rfl, _, h1, ?_, same_keepNew s1 hD (Keep.put D _), ?_⟩
  · unfold bV marksTo
    rw [List.length_map, List.length_map, List.length_range]
    exact Nat.lt_of_lt_of_le hn (by decide)
  · rw [upd_same, dec_nat]
    unfold bV marksTo
    rw [List.range_succ, List.map_append, List.map_append]
    rfl
/-! ### marks of a caught error -/
structure MarkT (K : PySem.W.Frag) (cNG cSG cKA cST cBH cNT cHE D : Addr) (m : Nat) : Prop where
  ex : ExcC K D
  i0 : PySem.W.kitOne K (.ref D) (.ref cNG) = some (decide (0 = m))
  i1 : PySem.W.kitOne K (.ref D) (.ref cSG) = some (decide (1 = m))
  i2 : PySem.W.kitOne K (.ref D) (.ref cKA) = some (decide (2 = m))
  i3 : PySem.W.kitOne K (.ref D) (.ref cST) = some (decide (3 = m))
  i4 : PySem.W.kitOne K (.ref D) (.ref cBH) = some (decide (4 = m))
  i5 : PySem.W.kitOne K (.ref D) (.ref cNT) = some (decide (5 = m))
  iV : PySem.W.kitOne K (.ref D) (.type "ValueError") = some true
  h : PySem.W.exmOne K (.ref D) (.ref cHE) = some true
  m5 : m ≤ 5
/-- _law_marks_of -/
def spMarks (K : PySem.W.Frag) (cNG cSG cKA cST cBH cNT cHE : Addr) : Addr → Value → Option Addr → Sp := fun a cls d vs H Q _ => ∃ (D : Addr) (m : Nat), vs = [.ref a] ∧ cls = .ref D ∧ d = none ∧ MarkT K cNG cSG cKA cST cBH cNT cHE D m ∧
  ∀ H' l, Same H H' → H l = none → H' l = some (.lst (bV (marks m))) → Q (.ref l) H'
/-- _law_numbers -/
def spNumbers : Sp := fun vs H Q _ => ∃ (a b : Addr) (l : List Nat), vs = [.ref a, .ref b] ∧ H a = some (.lst (iV l)) ∧ H b = some (.lst (iV l)) ∧ Q (.bl true) H
/-- _law_known of a dict, of a list -/
def spKnownD : Sp := fun vs H Q _ => ∃ (q : Addr) (n g : Nat) (E : List Pr), vs = [.ref q, .int (n : Int), .int (g : Int)] ∧ H q = some (.dT (kvs E)) ∧ WF n E ∧ n ≤ 20 ∧ g < n ∧
  ∀ H' l, Same H H' → H l = none → H' l = some (.lst (iV (others true n E g))) → Q (.ref l) H'
def spKnownL : Sp := fun vs H Q _ => ∃ (q : Addr) (n g : Nat) (E : List Pr), vs = [.ref q, .int (n : Int), .int (g : Int)] ∧ PairsAt H q E ∧ WF n E ∧ n ≤ 20 ∧ g < n ∧
  ∀ H' l, Same H H' → H l = none → H' l = some (.lst (iV (others true n E g))) → Q (.ref l) H'
/-- _law_same -/
def spSame (C : Addr) : Sp := fun vs H Q _ => ∃ (p l d : Addr) (n : Nat) (L E : List Pr), vs = [.ref p, .ref l, .int (n : Int)] ∧ HallAt C H p n d L ∧ PairsAt H l E ∧ WF n E ∧ Eqv L E ∧ ∀ H', Same H H' → Q (.bl true) H'
theorem oth_eqv {L E : List Pr} (h : Eqv L E) (k : Bool) (g : Nat) : oth k L g = oth k E g := by
  funext o
  unfold oth
  rw [decide_eq_decide.mpr (h (nrm g o))]
theorem others_eqv {L E : List Pr} (h : Eqv L E) (k : Bool) (n g : Nat) : others k n L g = others k n E g := by
  unfold others
  rw [oth_eqv h]
theorem oth_known {n : Nat} {E : List Pr} (wf : WF n E) (g o : Nat) : oth true E g o = decide (nrm g o ∈ E) := by
  rw [Bool.eq_iff_iff, oth_iff, decide_eq_true_eq]
  constructor
  · exact fun h => h.2
  · intro h
    refine ⟨fun e => ?_, h⟩
    have := (wf.2 _ h).1
    rw [e] at this
    exact absurd this (by show ¬ (min g g < max g g); omega)
end KT

/-! own rules: xs[::-1], a < b < c < d -/
namespace KT
open PySem PySem.Spec PyProof.Rows L2
theorem vals_snoc : ∀ {xs : List V} {us : List Value} {x : V} {u : Value}, Vals xs us → RelV x u → Vals (xs ++ [x]) (us ++ [u])
  | _, _, _, _, .nil, h => .cons h .nil
  | _, _, _, _, .cons a r, h => .cons a (vals_snoc r h)
theorem vals_back : ∀ {xs : List V} {us : List Value}, Vals xs us → Vals xs.reverse us.reverse
  | _, _, .nil => .nil
  | _, _, .cons a r => by
    rw [List.reverse_cons, List.reverse_cons]
    exact vals_snoc (vals_back r) a
section
variable {X : Cx} {e st : Expr} {te tst : TE} {pos p2 : Pos}
def tRev (K : PySem.W.Frag) (te tst : TE) : TE := fun σ H Q => te σ H fun x H1 => tst σ H1 fun y H2 => y = .int (-1) ∧ ∃ a xs, x = .ref a ∧ SqL K H2 a xs ∧ ∀ p, H2 p = none → Q (.ref p) (upd H2 p (.lst xs.reverse))
theorem pe_rev (he : PE X e te) (hst : PE X st tst) (hsub : ∀ v u : Value, ∃ ops, subscripted (.Slice none none (some st) p2) false v u = operate ops (getItem v u) := by intro _ _; exact ⟨_, by with_unfolding_all rfl⟩) : PE X (.Subscript e (.Slice none none (some st) p2) pos) (tRev X.K te tst) := by
  refine ⟨fun pins s σ H Q I h => ?_⟩
  refine Subscript_ (thn (he.run pins s σ H _ I h) fun v s1 ⟨x, H1, I1, r1, q1⟩ => ?_)
  refine wpAny_Slice ?_
  rw [evalPart_none]
  refine wpAny_pure (wpAny_pure ?_)
  rw [evalPart_some]
  refine thn (hst.run pins s1 σ H1 _ I1 q1) ?_
  rintro vs s3 ⟨y, H3, I3, ry, ey, a, xs, ex, hx, q3⟩
  subst ey
  subst ex
  obtain ⟨tk, rfl⟩ := ry
  cases r1
  have I4 : Inv X pins σ H3 { s3 with heap := s3.heap.push { cls := .type "slice", data := .fields #[.none, .none, .int (-1) tk] } } := I3.kept (t' := s3.toks) fun b ob q => Heap.get?_push_of_some _ q
  obtain ⟨its, r, ht, hz⟩ := I4.list hx
  have hlen := r.length
  show wpAny (model X.prog X.w) X.A (subscriptTail e (.Slice none none (some st) p2) (.ref a) (.ref s3.heap.objs.size)) (EP X pins σ Q) X.xe { s3 with heap := s3.heap.push { cls := .type "slice", data := .fields #[.none, .none, .int (-1) tk] } }
  obtain ⟨ops, hops⟩ := hsub (.ref a) (.ref s3.heap.objs.size)
  refine tail_any (ops := ops) ht.isList.typeIs slot_list_getitem.lookup ?_ hops
  refine wpAny_getItem_list_slice ht.isList (Heap.IsSliceOf.new ..) .none .none (.int _ _) (by decide) ?_ (by rw [List.size_toArray] <;> omega)
  rw [PySem.W.krv_pick]
  have rr : Vals xs.reverse its.reverse := vals_back r
  refine ⟨.ref _, _, I4.laid (t' := s3.toks) (o := .lst xs.reverse) (fun b ob q => Heap.get?_push_of_some _ q) (Nat.le_refl _) ?_, rfl, q3 _ (I4.hok.fresh (Nat.le_refl _))⟩
  exact ⟨by rw [List.length_reverse]; exact hz, its.reverse, 0, rr, Heap.get?_push_size _ rfl⟩
/-- a op1 b op2 c op3 d -/
def tChain3 (r r' r'' : R2) (ta tb tc td : TE) : TE := fun σ H Q => ta σ H fun x H1 => tb σ H1 fun y H2 => r x y H2 fun z H3 => ∃ k, z = .bl k ∧
  (if k = true then tc σ H3 fun w' H4 => r' y w' H4 fun z2 H5 => ∃ k2, z2 = .bl k2 ∧ (if k2 = true then td σ H5 fun u H6 => r'' w' u H6 Q else Q (.bl false) H5) else Q (.bl false) H3)
theorem pt_chain3 {op op' op'' : CmpOp} {r r' r'' : R2} {a b c d : Expr} {ta tb tc td : TE} (ho : OpR X (compareOp op) r) (ho' : OpR X (compareOp op') r') (ho'' : OpR X (compareOp op'') r'') (ha : PE X a ta) (hb : PE X b tb) (hc : PE X c tc) (hd : PE X d td)
    (hm : lastMarks [op, op', op''] [b, c, d] = false := by with_unfolding_all rfl) : PT X (.Compare a [op, op', op''] [b, c, d] pos) (tTest (tChain3 r r' r'' ta tb tc td)) := by
  refine ⟨fun pins s σ H Q I h => ?_⟩
  refine isTrue_chain (thn (ha.run pins s σ H _ I h) fun v s1 ⟨x, H1, I1, r1, q1⟩ => test_link (thn (hb.run pins s1 σ H1 _ I1 q1) fun u s2 ⟨y, H2, I2, r2, q2⟩ =>
    thn (ho pins s2 σ H2 x y v u _ I2 r1 r2 q2) fun d s3 ⟨z, H3, I3, r3, k, e, q3⟩ => ?_)) hm
  subst e
  cases r3
  refine wpAny_truthy_bool ?_
  cases k with
  | false =>
    obtain ⟨k', e', q'⟩ := q3
    cases e'
    exact ite_ff ⟨H3, I3, q'⟩
  | true =>
    refine ite_tt (test_link (thn (hc.run pins s3 σ H3 _ I3 q3) fun w' s4 ⟨z', H4, I4, r4, q4⟩ => thn (ho' pins s4 σ H4 y z' u w' _ I4 r2 r4 q4) fun d5 s5 ⟨z5, H5, I5, r5, k5, e5, q5⟩ => ?_))
    subst e5
    cases r5
    refine wpAny_truthy_bool ?_
    cases k5 with
    | false =>
      obtain ⟨k', e', q'⟩ := q5
      cases e'
      exact ite_ff ⟨H5, I5, q'⟩
    | true =>
      refine ite_tt (test_last (thn (hd.run pins s5 σ H5 _ I5 q5) fun u6 s6 ⟨z6, H6, I6, r6, q6⟩ => thn (ho'' pins s6 σ H6 z' z6 w' u6 _ I6 r4 r6 q6) fun d7 s7 ⟨z7, H7, I7, r7, k7, e7, q7⟩ => ?_))
      subst e7
      cases r7
      exact wpAny_truthy_bool ⟨H7, I7, q7⟩
end
end KT

/-! takes -/
namespace KT
open PySem PySem.Spec PyProof.Rows L2
theorem take_more {α : Type} {l : List α} {i : Nat} {x : α} (h : l[i]? = some x) : l.take (i + 1) = l.take i ++ [x] := by
  rw [List.take_add_one, h]
  rfl
theorem take_notin {α : Type} {l : List α} {i : Nat} {x : α} (nd : l.Nodup) (h : l[i]? = some x) : x ∉ l.take i := by
  have z : (l.take (i + 1)).Nodup := nd.sublist (List.take_sublist _ _)
  rw [take_more h] at z
  exact fun m => (List.pairwise_append.mp z).2.2 x m x (List.mem_singleton.mpr rfl) rfl
theorem hu65 {k : Nat} {A : Around} (hr : Room k A) : A.units + 65 < cLine := by
  have := hr.un
  omega
end KT

/-! the law's promise -/
namespace KT
open PySem PySem.Spec PyProof.Rows L2
def spLaw (K : PySem.W.Frag) : Sp := fun vs H Q _ => ∃ (a : Addr) (ns : List Int), vs = [.ref a] ∧ SqL K H a (ns.map V.int) ∧ ns.length ≤ 63 ∧ ∀ H', Q (.bl true) H'
theorem seq_keep {K : PySem.W.Frag} {D : List Addr} {H H1 H2 : Hp} {a : Addr} {xs : List V} (k : Keep D H1 H2) (s : Same H H1) (h : SqL K H a xs) (n : ∀ b ∈ D, H b = none) : SqL K H2 a xs := by
  rcases h with (h | ⟨o, h⟩) | h
  · exact .inl (.inl (k _ _ (fun m => by rw [n _ m] at h; cases h) (s _ _ h)))
  · exact .inl (.inr ⟨o, k _ _ (fun m => by rw [n _ m] at h; cases h) (s _ _ h)⟩)
  · exact .inr h
end KT

/-! several ways to one place: own rules -/
namespace KT
open PySem PySem.Spec PyProof.Rows L2
section
variable {X : Cx} {st : Stmt} {t : TS} {e : Expr} {te : TE}
def tJoin (t : TS) : TS := fun D σ H => ∃ R : L2.St → Hp → Prop, t { D with nx := R } σ H ∧ ∀ σ' H', R σ' H' → D.nx σ' H'
theorem ps_join (h : PS X st t) : PS X st (tJoin t) := by
  refine ⟨fun pins s σ H D I hw => ?_⟩
  obtain ⟨R, h1, h2⟩ := hw
  refine thn (h.run pins s σ H _ I h1) ?_
  intro f s' q
  cases f with
  | next =>
    obtain ⟨σ', H', I', r⟩ := q
    exact ⟨σ', H', I', h2 _ _ r⟩
  | brk => exact q
  | cont => exact q
  | ret u => exact q
def tJoinE (t : TE) : TE := fun σ H Q => ∃ R : VK, t σ H R ∧ ∀ v H', R v H' → Q v H'
theorem pe_jn (h : PE X e te) : PE X e (tJoinE te) := by
  refine ⟨fun pins s σ H Q I hw => ?_⟩
  obtain ⟨R, h1, h2⟩ := hw
  refine thn (h.run pins s σ H _ I h1) ?_
  rintro v s' ⟨x, H', I', r, q⟩
  exact ⟨x, H', I', r, h2 _ _ q⟩
end
end KT

/-! crowds: plain, promises -/
namespace KT
open PySem PySem.Spec PyProof.Rows L2
def okB (L : List Pr) (a b : Nat) : Bool := decide (a = b) || decide (nrm a b ∈ L)
def crowdB (L : List Pr) (gs : List Nat) : Bool := gs.all fun a => gs.all fun b => okB L a b
def crowdR (E : List Pr) (gs : List Nat) : Bool := gs.all fun a => gs.all fun b => !decide (a < b) || decide ((a, b) ∈ E)
theorem okB_iff {L : List Pr} {a b : Nat} : okB L a b = true ↔ a = b ∨ nrm a b ∈ L := by
  unfold okB
  rw [Bool.or_eq_true, decide_eq_true_eq, decide_eq_true_eq]
theorem crowdB_iff {L : List Pr} {gs : List Nat} : crowdB L gs = true ↔ ∀ a ∈ gs, ∀ b ∈ gs, a = b ∨ nrm a b ∈ L := by
  unfold crowdB
  simp only [List.all_eq_true, okB_iff]
theorem crowdR_iff {E : List Pr} {gs : List Nat} : crowdR E gs = true ↔ ∀ a ∈ gs, ∀ b ∈ gs, a < b → (a, b) ∈ E := by
  unfold crowdR
  simp only [List.all_eq_true, Bool.or_eq_true, Bool.not_eq_true', decide_eq_true_eq, decide_eq_false_iff_not]
  constructor
  · intro h a ha b hb c
    exact (h a ha b hb).resolve_left fun z => z c
  · intro h a ha b hb
    by_cases c : a < b
    · exact .inr (h a ha b hb c)
    · exact .inl c
theorem crowd_eq {L E : List Pr} (h : Eqv L E) (gs : List Nat) : crowdB L gs = crowdR E gs := by
  rw [Bool.eq_iff_iff, crowdB_iff, crowdR_iff]
  constructor
  · intro z a ha b hb c
    have y := (z a ha b hb).resolve_left (by omega)
    rw [nrm_lt c] at y
    exact (h _).mp y
  · intro z a ha b hb
    rcases Nat.lt_trichotomy a b with c | c | c
    · refine .inr ?_
      rw [nrm_lt c]
      exact (h _).mpr (z a ha b hb c)
    · exact .inl c
    · refine .inr ?_
      rw [nrm_comm, nrm_lt c]
      exact (h _).mpr (z b hb a ha c)
theorem iV_get {l : List Nat} {i : Nat} {v : V} (h : (iV l)[i]? = some v) : ∃ o : Nat, l[i]? = some o ∧ v = V.int (o : Int) := by
  unfold iV at h
  rw [List.getElem?_map] at h
  cases e : l[i]? with
  | none =>
    rw [e] at h
    cases h
  | some u =>
    rw [e] at h
    exact ⟨u, rfl, (Option.some.inj h).symm⟩
theorem iV_len (l : List Nat) : (iV l).length = l.length := by
  unfold iV
  rw [List.length_map]
theorem forall_take {α : Type} {l : List α} {i : Nat} {x : α} {p : α → Prop} (hx : l[i]? = some x) (h : ∀ a ∈ l.take i, p a) (hp : p x) : ∀ a ∈ l.take (i + 1), p a := by
  intro a ha
  rw [List.take_add_one, hx] at ha
  rcases List.mem_append.mp ha with ha | ha
  · exact h a ha
  · have : a = x := by simpa using ha
    rw [this]
    exact hp
def spIsCrowd (C cNG : Addr) : Sp := fun vs H Q E => ∃ (p l d : Addr) (n : Nat) (L : List Pr) (zs : List Int), vs = [.ref p, .ref l] ∧ HallAt C H p n d L ∧ H l = some (.lst (zs.map V.int)) ∧
  ((∃ z ∈ zs, ¬ isG n z) → E (.ref cNG) none H) ∧ (∀ gs : List Nat, zs.map V.int = iV gs → (∀ g ∈ gs, g < n) → ∀ H', Same H H' → Q (.bl (crowdB L gs)) H')
def spCrowdL : Sp := fun vs H Q _ => ∃ (l g : Addr) (n : Nat) (E : List Pr) (gs : List Nat), vs = [.ref l, .ref g] ∧ PairsAt H l E ∧ WF n E ∧ H g = some (.lst (iV gs)) ∧ ∀ H', Same H H' → Q (.bl (crowdR E gs)) H'
def spCrowdMarks (C : Addr) : Sp := fun vs H Q _ => ∃ (p l d : Addr) (n : Nat) (L : List Pr) (zs : List Int), vs = [.ref p, .ref l] ∧ HallAt C H p n d L ∧ H l = some (.lst (zs.map V.int)) ∧
  (∃ z ∈ zs, ¬ isG n z) ∧ ∀ H' m, Same H H' → H' m = some (.lst (bV (marks 0))) → Q (.ref m) H'
end KT

/-! a hall turned about: plain, promises -/
namespace KT
open PySem PySem.Spec PyProof.Rows L2
def cmpG (n : Nat) (L : List Pr) (i : Nat) : List Pr := ((others false n L i).filter fun j => decide (i < j)).map fun j => (i, j)
def cmpTo (n : Nat) (L : List Pr) (k : Nat) : List Pr := (List.range k).flatMap (cmpG n L)
def comp (n : Nat) (L : List Pr) : List Pr := cmpTo n L n
theorem mem_cmpG {n : Nat} {L : List Pr} {g i j : Nat} : (i, j) ∈ cmpG n L g ↔ i = g ∧ i < j ∧ j < n ∧ (i, j) ∉ L := by
  unfold cmpG others
  simp only [List.mem_map, List.mem_filter, List.mem_range, oth_iff, decide_eq_true_eq, decide_eq_false_iff_not]
  constructor
  · rintro ⟨a, ⟨⟨h1, h2, h3⟩, h4⟩, e⟩
    injection e with e1 e2
    subst e1
    subst e2
    rw [nrm_lt h4] at h3
    exact ⟨rfl, h4, h1, h3⟩
  · rintro ⟨rfl, h1, h2, h3⟩
    exact ⟨j, ⟨⟨h2, by omega, by rw [nrm_lt h1]; exact h3⟩, h1⟩, rfl⟩
theorem mem_cmpTo {n : Nat} {L : List Pr} {k i j : Nat} : (i, j) ∈ cmpTo n L k ↔ i < k ∧ i < j ∧ j < n ∧ (i, j) ∉ L := by
  unfold cmpTo
  rw [List.mem_flatMap]
  constructor
  · rintro ⟨g, hg, h⟩
    rw [List.mem_range] at hg
    obtain ⟨rfl, h2⟩ := mem_cmpG.mp h
    exact ⟨hg, h2⟩
  · rintro ⟨h1, h⟩
    exact ⟨i, List.mem_range.mpr h1, mem_cmpG.mpr ⟨rfl, h⟩⟩
theorem mem_comp {n : Nat} {L : List Pr} {i j : Nat} : (i, j) ∈ comp n L ↔ i < j ∧ j < n ∧ (i, j) ∉ L := by
  unfold comp
  rw [mem_cmpTo]
  constructor
  · exact fun h => h.2
  · exact fun h => ⟨by omega, h⟩
theorem comp_comp {n : Nat} {L : List Pr} (wf : WF n L) : Eqv (comp n (comp n L)) L := by
  rintro ⟨i, j⟩
  rw [mem_comp, mem_comp]
  constructor
  · rintro ⟨h1, h2, h3⟩
    by_cases m : (i, j) ∈ L
    · exact m
    · exact absurd ⟨h1, h2, m⟩ h3
  · intro m
    have h := wf.2 _ m
    exact ⟨h.1, h.2, fun z => z.2.2 m⟩
theorem flat_congr {α : Type} {f g : Nat → List α} : ∀ {k : Nat}, (∀ i, i < k → f i = g i) → (List.range k).flatMap f = (List.range k).flatMap g
  | 0, _ => rfl
  | k + 1, h => by rw [flat_step, flat_step, flat_congr (fun i hi => h i (by omega)), h k (by omega)]
theorem mono_comp {n : Nat} {L : List Pr} {a b c : Nat} (h1 : a < b) (h2 : b < c) (h3 : c < n) : mono (comp n L) a b c = mono L a b c := by
  have e : ∀ i j, i < j → j < n → decide (nrm i j ∈ comp n L) = !decide (nrm i j ∈ L) := by
    intro i j hij hj
    rw [nrm_lt hij, Bool.eq_iff_iff]
    simp only [decide_eq_true_eq, Bool.not_eq_true', decide_eq_false_iff_not, mem_comp]
    exact ⟨fun z => z.2.2, fun z => ⟨hij, hj, z⟩⟩
  unfold mono
  rw [e a b h1 (by omega), e a c (by omega) h3, e b c h2 h3]
  cases decide (nrm a b ∈ L) <;> cases decide (nrm a c ∈ L) <;> cases decide (nrm b c ∈ L) <;> rfl
theorem threes_comp (n : Nat) (L : List Pr) : threesL n (comp n L) = threesL n L := by
  unfold threesL th1
  refine flat_congr fun a ha => ?_
  unfold th2
  refine flat_congr fun i hi => ?_
  unfold th3
  refine flat_congr fun j hj => ?_
  rw [mono_comp (by omega) (by omega) (by omega)]
def spTurned (C : Addr) : Sp := fun vs H Q _ => ∃ (p d : Addr) (n : Nat) (L : List Pr), vs = [.ref p] ∧ HallAt C H p n d L ∧
  ∀ H' x d', Same H H' → H x = none → H d' = none → HallAt C H' x n d' (comp n L) → Q (.ref x) H'
end KT

/-! halls as texts: plain, promises -/
namespace KT
open PySem PySem.Spec PyProof.Rows L2
/-- a list of signs cut at each c -/
def cutC (c : Nat) : List Nat → List (List Nat)
  | [] => [[]]
  | x :: t => if x = c then [] :: cutC c t else match cutC c t with
    | [] => [[x]]
    | p :: ps => (x :: p) :: ps
theorem cutC_ne (c : Nat) : ∀ t, cutC c t ≠ []
  | [] => by simp [cutC]
  | x :: t => by
    unfold cutC
    split
    · simp
    · split <;> simp
theorem cutC_hit (c : Nat) (t : List Nat) : cutC c (c :: t) = [] :: cutC c t := by
  show (if c = c then _ else _) = _
  rw [if_pos rfl]
theorem cutC_miss {c x : Nat} (h : x ≠ c) {t p : List Nat} {ps : List (List Nat)} (e : cutC c t = p :: ps) : cutC c (x :: t) = (x :: p) :: ps := by
  show (if x = c then _ else match cutC c t with
    | [] => [[x]]
    | p :: ps => (x :: p) :: ps) = _
  rw [if_neg h, e]
theorem cutC_free {c : Nat} : ∀ (t : List Nat), ∀ p ∈ cutC c t, c ∉ p
  | [], p, hp => by
    rw [List.mem_singleton.mp hp]
    simp
  | x :: t, p, hp => by
    by_cases h : x = c
    · subst h
      rw [cutC_hit] at hp
      rcases List.mem_cons.mp hp with e | hp
      · rw [e]
        simp
      · exact cutC_free t p hp
    · obtain ⟨q, qs, e⟩ := List.exists_cons_of_ne_nil (cutC_ne c t)
      rw [cutC_miss h e] at hp
      have ih := cutC_free (c := c) t
      rw [e] at ih
      rcases List.mem_cons.mp hp with e2 | hp
      · rw [e2]
        intro m
        rcases List.mem_cons.mp m with e3 | m
        · exact h e3.symm
        · exact ih q List.mem_cons_self m
      · exact ih p (List.mem_cons_of_mem _ hp)
theorem cutC_join {c : Nat} : ∀ t : List Nat, TL.joinL [c] (cutC c t) = t
  | [] => rfl
  | x :: t => by
    obtain ⟨q, qs, e⟩ := List.exists_cons_of_ne_nil (cutC_ne c t)
    have ih := cutC_join (c := c) t
    rw [e] at ih
    by_cases h : x = c
    · subst h
      rw [cutC_hit, e]
      show [] ++ ([x] ++ TL.joinL [x] (q :: qs)) = x :: t
      rw [ih]
      rfl
    · rw [cutC_miss h e]
      cases qs with
      | nil =>
        show x :: q = x :: t
        have ih : q = t := ih
        rw [ih]
      | cons r rs =>
        show x :: (q ++ ([c] ++ TL.joinL [c] (r :: rs))) = x :: t
        have ih : q ++ ([c] ++ TL.joinL [c] (r :: rs)) = t := ih
        rw [ih]
theorem spl_cut (c : Nat) (t : List Nat) : TL.spl [c] 0 [] t = cutC c t := by
  have h := TL.spl_join (s := c) (S := []) (cutC_ne c t) (cutC_free t)
  rw [cutC_join] at h
  exact h
theorem split_cut {c : Nat} (hc : c < 256) (t : List Nat) : Txt.split (SX.S t) (SX.S [c]) = (cutC c t).map SX.S := by
  rw [SX.split_S (by simp) (by simp [hc]), spl_cut]
theorem cutC_len (c : Nat) : ∀ t : List Nat, (cutC c t).length ≤ t.length + 1
  | [] => Nat.le_refl _
  | x :: t => by
    have ih := cutC_len c t
    by_cases h : x = c
    · subst h
      rw [cutC_hit, List.length_cons, List.length_cons]
      omega
    · obtain ⟨q, qs, e⟩ := List.exists_cons_of_ne_nil (cutC_ne c t)
      rw [cutC_miss h e, List.length_cons, List.length_cons]
      rw [e, List.length_cons] at ih
      omega
theorem cutC_part {c : Nat} : ∀ (t p : List Nat), p ∈ cutC c t → p.length ≤ t.length
  | [], p, hp => by
    rw [List.mem_singleton.mp hp]
    exact Nat.le_refl _
  | x :: t, p, hp => by
    by_cases h : x = c
    · subst h
      rw [cutC_hit] at hp
      rcases List.mem_cons.mp hp with e | hp
      · rw [e]
        exact Nat.zero_le _
      · have := cutC_part t p hp
        rw [List.length_cons]
        omega
    · obtain ⟨q, qs, e⟩ := List.exists_cons_of_ne_nil (cutC_ne c t)
      rw [cutC_miss h e] at hp
      have ih := cutC_part (c := c) t
      rw [e] at ih
      rcases List.mem_cons.mp hp with e2 | hp
      · have := ih q List.mem_cons_self
        rw [e2, List.length_cons, List.length_cons]
        omega
      · have := ih p (List.mem_cons_of_mem _ hp)
        rw [List.length_cons]
        omega
/-- parts without c, joined, cut -/
theorem cut_joined {c : Nat} {parts : List (List Nat)} (hne : parts ≠ []) (h : ∀ p ∈ parts, c ∉ p) : cutC c (TL.joinL [c] parts) = parts := by
  rw [← spl_cut]
  exact TL.spl_join hne h
/-- a text with c behind its end -/
theorem cut_end (c : Nat) : ∀ t : List Nat, cutC c (t ++ [c]) = cutC c t ++ [[]]
  | [] => by
    show cutC c [c] = _
    rw [cutC_hit]
    rfl
  | x :: t => by
    have ih := cut_end c t
    by_cases h : x = c
    · subst h
      rw [List.cons_append, cutC_hit, cutC_hit, ih]
      rfl
    · obtain ⟨q, qs, e⟩ := List.exists_cons_of_ne_nil (cutC_ne c t)
      rw [e] at ih
      rw [List.cons_append, cutC_miss h ih, cutC_miss h e]
      rfl
/-- the last part is empty at a c alone -/
theorem cut_last {c : Nat} : ∀ {t : List Nat} {pre : List (List Nat)}, cutC c t = pre ++ [[]] → t = [] ∨ ∃ t', t = t' ++ [c]
  | [], _, _ => .inl rfl
  | x :: t, pre, h => by
    refine .inr ?_
    obtain ⟨q, qs, e⟩ := List.exists_cons_of_ne_nil (cutC_ne c t)
    by_cases hx : x = c
    · subst hx
      rw [cutC_hit] at h
      cases pre with
      | nil =>
        injection h with _ h
        exact absurd h (cutC_ne x t)
      | cons p pre =>
        injection h with _ h
        rcases cut_last h with rfl | ⟨t', rfl⟩
        · exact ⟨[], rfl⟩
        · exact ⟨x :: t', rfl⟩
    · rw [cutC_miss hx e] at h
      cases pre with
      | nil =>
        injection h with h _
        cases h
      | cons p pre =>
        injection h with h1 h2
        have e2 : cutC c t = (q :: pre) ++ [[]] := by rw [e, h2]; rfl
        rcases cut_last e2 with rfl | ⟨t', rfl⟩
        · rw [show cutC c [] = [[]] from rfl] at e2
          injection e2 with _ e2
          exact absurd e2 (by simp)
        · exact ⟨x :: t', rfl⟩
/-! numbers -/
def numF (w : List Nat) : Option Nat :=
  if w.length = 0 ∨ 2 < w.length ∨ (w.head? = some 48 ∧ 1 < w.length) then none
  else if w.all (fun c => decide (48 ≤ c) && decide (c ≤ 57)) = true then some (NumText.digitsVal w) else none
theorem numF_num : ∀ n : Nat, n < 100 → numF (TL.numL n) = some n := by
  intro n hn
  have h : ∀ n : Fin 100, (if n.val < 10 then [48 + n.val] else [48 + n.val / 10, 48 + n.val % 10]).length ≠ 0 ∧ numF (if n.val < 10 then [48 + n.val] else [48 + n.val / 10, 48 + n.val % 10]) = some n.val := by decide +kernel
  have e : TL.numL n = if n < 10 then [48 + n] else [48 + n / 10, 48 + n % 10] := by
    by_cases c : n < 10
    · rw [if_pos c, TL.numL_lt c]
    · rw [if_neg c, TL.numL_step (by omega), TL.numL_lt (by omega)]
      rfl
  rw [e]
  exact (h ⟨n, hn⟩).2
theorem numL_short {n : Nat} (h : n < 100) : (TL.numL n).length ≤ 2 := TL.numL_len (k := 2) (by decide) h
/-! lines -/
def guestsC : List Nat := [103, 117, 101, 115, 116, 115]
def lineC (p : Pr) : List Nat := TL.numL p.1 ++ ([32] ++ TL.numL p.2)
def headC (n : Nat) : List Nat := guestsC ++ ([32] ++ TL.numL n)
def linesC (n : Nat) (E : List Pr) : List (List Nat) := headC n :: E.map lineC
def textC (n : Nat) (E : List Pr) : List Nat := (linesC n E).flatMap fun l => l ++ [10]
def pairF (n : Nat) (L : List Pr) (line : List Nat) : Option Pr := match cutC 32 line with
  | [a, b] => match numF a, numF b with
    | some i, some j => if i < j ∧ j < n ∧ (i, j) ∉ L then some (i, j) else none
    | _, _ => none
  | _ => none
def pairsF (n : Nat) (L : List Pr) : List (List Nat) → Option (Nat × List Pr)
  | [] => some (n, L)
  | line :: r => match pairF n L line with
    | some p => pairsF n (L ++ [p]) r
    | none => none
def headF (line : List Nat) : Option Nat := match cutC 32 line with
  | [g, w] => if g = guestsC then match numF w with
    | some n => if 1 ≤ n ∧ n ≤ 20 then some n else none
    | none => none
    else none
  | _ => none
def dueF (lines : List (List Nat)) : Option (Nat × List Pr) := match headF (lines.headD []) with
  | some n => pairsF n [] lines.tail
  | none => none
def readF (t : List Nat) : Option (Nat × List Pr) := if t.getLast? = some 10 then dueF (cutC 10 t.dropLast) else none
theorem cut_two {a b : List Nat} (ha : 32 ∉ a) (hb : 32 ∉ b) : cutC 32 (a ++ ([32] ++ b)) = [a, b] :=
  cut_joined (c := 32) (parts := [a, b]) (by simp) (fun p hp => by
    simp only [List.mem_cons, List.not_mem_nil, or_false] at hp
    rcases hp with rfl | rfl
    · exact ha
    · exact hb)
theorem numL_no (n : Nat) {c : Nat} (h : c < 48) : c ∉ TL.numL n := TL.numL_free (.inl h)
theorem headF_head {n : Nat} (h1 : 1 ≤ n) (h2 : n ≤ 20) : headF (headC n) = some n := by
  unfold headF headC
  rw [cut_two (by decide) (numL_no n (by decide))]
  simp only [if_true]
  rw [numF_num n (by omega)]
  simp only
  rw [if_pos ⟨h1, h2⟩]
theorem pairF_line {n : Nat} {L : List Pr} {p : Pr} (hn : n ≤ 20) (h1 : p.1 < p.2) (h2 : p.2 < n) (nin : p ∉ L) : pairF n L (lineC p) = some p := by
  unfold pairF lineC
  rw [cut_two (numL_no _ (by decide)) (numL_no _ (by decide))]
  simp only
  rw [numF_num _ (by omega), numF_num _ (by omega)]
  simp only
  rw [if_pos ⟨h1, h2, nin⟩]
theorem pairsF_lines {n : Nat} (hn : n ≤ 20) : ∀ (E L : List Pr), WF n (L ++ E) → pairsF n L (E.map lineC) = some (n, L ++ E)
  | [], L, _ => by
    rw [List.append_nil]
    rfl
  | p :: E, L, wf => by
    have hp := wf.2 p (by simp)
    have nin : p ∉ L := fun m => (List.pairwise_append.mp wf.1).2.2 p m p List.mem_cons_self rfl
    show (match pairF n L (lineC p) with
      | some p => pairsF n (L ++ [p]) (E.map lineC)
      | none => none) = _
    rw [pairF_line hn hp.1 hp.2 nin]
    simp only
    have ih := pairsF_lines hn E (L ++ [p]) (by rw [List.append_assoc]; exact wf)
    rw [ih, List.append_assoc]
    rfl
theorem flat_join : ∀ (ls : List (List Nat)), ls ≠ [] → ls.flatMap (fun l => l ++ [10]) = TL.joinL [10] ls ++ [10]
  | [], h => absurd rfl h
  | [p], _ => by simp [TL.joinL]
  | p :: q :: r, _ => by
    rw [List.flatMap_cons, flat_join (q :: r) (by simp)]
    show p ++ [10] ++ (TL.joinL [10] (q :: r) ++ [10]) = (p ++ ([10] ++ TL.joinL [10] (q :: r))) ++ [10]
    simp only [List.append_assoc]
theorem lineC_no10 (p : Pr) : 10 ∉ lineC p := by
  unfold lineC
  rw [List.mem_append, List.mem_append]
  rintro (h | h | h)
  · exact numL_no _ (by decide) h
  · simp at h
  · exact numL_no _ (by decide) h
theorem headC_no10 (n : Nat) : 10 ∉ headC n := by
  unfold headC
  rw [List.mem_append, List.mem_append]
  rintro (h | h | h)
  · revert h
    decide
  · simp at h
  · exact numL_no _ (by decide) h
theorem read_text {n : Nat} {E : List Pr} (h1 : 1 ≤ n) (h2 : n ≤ 20) (wf : WF n E) : readF (textC n E) = some (n, E) := by
  unfold readF textC
  rw [flat_join _ (by unfold linesC; simp), List.getLast?_concat, if_pos rfl, List.dropLast_concat, cut_joined (by unfold linesC; simp) (fun p hp => by
    unfold linesC at hp
    rcases List.mem_cons.mp hp with rfl | hp
    · exact headC_no10 n
    · obtain ⟨q, _, rfl⟩ := List.mem_map.mp hp
      exact lineC_no10 q)]
  unfold dueF linesC
  simp only [List.headD_cons, List.tail_cons]
  rw [headF_head h1 h2]
  simp only
  exact pairsF_lines h2 E [] wf
/-! what is met -/
theorem pairF_ok {n : Nat} {L : List Pr} {line : List Nat} {p : Pr} (h : pairF n L line = some p) : ∃ a b, cutC 32 line = [a, b] ∧ numF a = some p.1 ∧ numF b = some p.2 ∧ p.1 < p.2 ∧ p.2 < n ∧ p ∉ L := by
  unfold pairF at h
  split at h
  · rename_i a b e
    split at h
    · rename_i i j e1 e2
      split at h
      · rename_i c
        injection h with h
        subst h
        exact ⟨a, b, e, e1, e2, c.1, c.2.1, c.2.2⟩
      · cases h
    · cases h
  · cases h
theorem pairF_of {n : Nat} {L : List Pr} {line a b : List Nat} {i j : Nat} (e : cutC 32 line = [a, b]) (ha : numF a = some i) (hb : numF b = some j) : pairF n L line = if i < j ∧ j < n ∧ (i, j) ∉ L then some (i, j) else none := by
  unfold pairF
  rw [e]
  simp only
  rw [ha, hb]
theorem pairF_words {n : Nat} {L : List Pr} {line : List Nat} (h : (cutC 32 line).length ≠ 2) : pairF n L line = none := by
  unfold pairF
  split
  · rename_i e
    rw [e] at h
    exact absurd rfl h
  · rfl
theorem pairF_a {n : Nat} {L : List Pr} {line a b : List Nat} (e : cutC 32 line = [a, b]) (ha : numF a = none) : pairF n L line = none := by
  unfold pairF
  rw [e]
  simp only
  rw [ha]
theorem pairF_b {n : Nat} {L : List Pr} {line a b : List Nat} (e : cutC 32 line = [a, b]) (hb : numF b = none) : pairF n L line = none := by
  unfold pairF
  rw [e]
  simp only
  rw [hb]
  split <;> first | rfl | contradiction
theorem numF_lt {w : List Nat} {v : Nat} (h : numF w = some v) : v < 100 ∧ w ≠ [] ∧ w.length ≤ 2 := by
  unfold numF at h
  split at h
  · cases h
  · rename_i c
    split at h
    · rename_i d
      injection h with h
      have d := List.all_eq_true.mp d
      match w, c with
      | [], c => exact absurd (.inl rfl) c
      | [x], _ =>
        have hx := d x (by simp)
        simp only [Bool.and_eq_true, decide_eq_true_eq] at hx
        refine ⟨?_, by simp, by simp⟩
        rw [← h]
        simp only [NumText.digitsVal, List.foldl_cons, List.foldl_nil]
        omega
      | [x, y], _ =>
        have hx := d x (by simp)
        have hy := d y (by simp)
        simp only [Bool.and_eq_true, decide_eq_true_eq] at hx hy
        refine ⟨?_, by simp, by simp⟩
        rw [← h]
        simp only [NumText.digitsVal, List.foldl_cons, List.foldl_nil]
        omega
      | x :: y :: z :: r, c => exact absurd (.inr (.inl (by simp))) c
    · cases h
end KT

/-! halls as texts: the order of the lines, promises, a loop over a text -/
namespace KT
open PySem PySem.Spec PyProof.Rows L2
/-- the pairs in the order in which they are shown -/
def edgeG (n : Nat) (L : List Pr) (i : Nat) : List Pr := ((others true n L i).filter fun j => decide (i < j)).map fun j => (i, j)
def edgeTo (n : Nat) (L : List Pr) (k : Nat) : List Pr := (List.range k).flatMap (edgeG n L)
def edgeL (n : Nat) (L : List Pr) : List Pr := edgeTo n L n
theorem edgeTo_step (n : Nat) (L : List Pr) (k : Nat) : edgeTo n L (k + 1) = edgeTo n L k ++ edgeG n L k := flat_step _ _
theorem mem_edgeG {n : Nat} {L : List Pr} {g i j : Nat} : (i, j) ∈ edgeG n L g ↔ i = g ∧ i < j ∧ j < n ∧ (i, j) ∈ L := by
  unfold edgeG others
  simp only [List.mem_map, List.mem_filter, List.mem_range, oth_iff, decide_eq_true_eq]
  constructor
  · rintro ⟨a, ⟨⟨h1, h2, h3⟩, h4⟩, e⟩
    injection e with e1 e2
    subst e1
    subst e2
    rw [nrm_lt h4] at h3
    exact ⟨rfl, h4, h1, h3⟩
  · rintro ⟨rfl, h1, h2, h3⟩
    exact ⟨j, ⟨⟨h2, by omega, by rw [nrm_lt h1]; exact h3⟩, h1⟩, rfl⟩
theorem mem_edgeTo {n : Nat} {L : List Pr} {k i j : Nat} : (i, j) ∈ edgeTo n L k ↔ i < k ∧ i < j ∧ j < n ∧ (i, j) ∈ L := by
  unfold edgeTo
  rw [List.mem_flatMap]
  constructor
  · rintro ⟨g, hg, h⟩
    rw [List.mem_range] at hg
    obtain ⟨rfl, h2⟩ := mem_edgeG.mp h
    exact ⟨hg, h2⟩
  · rintro ⟨h1, h⟩
    exact ⟨i, List.mem_range.mpr h1, mem_edgeG.mpr ⟨rfl, h⟩⟩
theorem edgeL_eqv {n : Nat} {L : List Pr} (wf : WF n L) : Eqv (edgeL n L) L := by
  rintro ⟨i, j⟩
  unfold edgeL
  rw [mem_edgeTo]
  constructor
  · exact fun h => h.2.2.2
  · intro h
    have := wf.2 _ h
    exact ⟨by omega, this.1, this.2, h⟩
theorem edgeTo_srt (n : Nat) (L : List Pr) : ∀ k, Srt (edgeTo n L k)
  | 0 => List.Pairwise.nil
  | k + 1 => by
    rw [edgeTo_step]
    refine List.pairwise_append.mpr ⟨edgeTo_srt n L k, ?_, ?_⟩
    · unfold edgeG others
      rw [List.pairwise_map]
      have h : (((List.range n).filter (oth true L k)).filter fun j => decide (k < j)).Pairwise (· < ·) := List.Pairwise.sublist (List.filter_sublist.trans List.filter_sublist) List.pairwise_lt_range
      exact h.imp fun {a b} z => .inr ⟨rfl, z⟩
    · rintro ⟨a, b⟩ h1 ⟨c, d⟩ h2
      have z1 := (mem_edgeTo.mp h1).1
      have z2 := (mem_edgeG.mp h2).1
      exact .inl (by omega)
theorem srt_nodup {E : List Pr} (h : Srt E) : E.Nodup := List.Pairwise.imp (fun {p q} z e => by
  subst e
  rcases z with z | z
  · omega
  · omega) h
theorem edgeL_wf {n : Nat} (L : List Pr) : WF n (edgeL n L) := ⟨srt_nodup (edgeTo_srt n L n), fun ⟨i, j⟩ h => by
  have z := mem_edgeTo.mp h
  exact ⟨z.2.1, z.2.2.1⟩⟩
def lt2 (p q : Pr) : Prop := p.1 < q.1 ∨ (p.1 = q.1 ∧ p.2 < q.2)
theorem lt2_irr {p q : Pr} (h : lt2 p q) (h2 : lt2 q p) : False := by
  unfold lt2 at h h2
  omega
theorem srt_eq : ∀ {A B : List Pr}, Srt A → Srt B → (∀ p, p ∈ A ↔ p ∈ B) → A = B
  | [], [], _, _, _ => rfl
  | [], b :: B, _, _, h => absurd ((h b).mpr List.mem_cons_self) (by simp)
  | a :: A, [], _, _, h => absurd ((h a).mp List.mem_cons_self) (by simp)
  | a :: A, b :: B, hA, hB, h => by
    have pA := List.pairwise_cons.mp hA
    have pB := List.pairwise_cons.mp hB
    have e : a = b := by
      rcases List.mem_cons.mp ((h a).mp List.mem_cons_self) with e | m1
      · exact e
      rcases List.mem_cons.mp ((h b).mpr List.mem_cons_self) with e | m2
      · exact e.symm
      exact (lt2_irr (pB.1 a m1) (pA.1 b m2)).elim
    subst e
    have t : A = B := srt_eq pA.2 pB.2 fun p => by
      constructor
      · intro m
        rcases List.mem_cons.mp ((h p).mp (List.mem_cons_of_mem _ m)) with e | m1
        · subst e
          exact (lt2_irr (pA.1 p m) (pA.1 p m)).elim
        · exact m1
      · intro m
        rcases List.mem_cons.mp ((h p).mpr (List.mem_cons_of_mem _ m)) with e | m1
        · subst e
          exact (lt2_irr (pB.1 p m) (pB.1 p m)).elim
        · exact m1
    rw [t]
theorem edgeL_same {L E : List Pr} (h : Eqv L E) (n : Nat) : edgeL n L = edgeL n E := by
  unfold edgeL edgeTo
  have e : edgeG n L = edgeG n E := by
    funext i
    unfold edgeG
    rw [others_eqv h]
  rw [e]
/-- several new objects that are changed later -/
theorem same_keepNews {D : List Addr} {H H1 H2 : Hp} (s : Same H H1) (hD : ∀ p ∈ D, H p = none) (k : Keep D H1 H2) : Same H H2 := fun b o e => k b o (fun m => by
  rw [hD b m] at e
  cases e) (s b o e)
theorem passX {X : Cx} : Passes (L2.CX X.prog X.w) X E0 := by
  intro _ _ _ _ _ _ _ h
  obtain ⟨_, _, _, _, _, _, _, _, _, _, _, _, z⟩ := h
  exact z.elim
/-! lengths -/
def bodyC (E : List Pr) : List Nat := E.flatMap fun p => lineC p ++ [10]
theorem textC_eq (n : Nat) (E : List Pr) : textC n E = headC n ++ [10] ++ bodyC E := by
  unfold textC linesC bodyC
  rw [List.flatMap_cons, List.flatMap_map]
theorem bodyC_snoc (E : List Pr) (p : Pr) : bodyC (E ++ [p]) = bodyC E ++ (lineC p ++ [10]) := by
  unfold bodyC
  rw [List.flatMap_append]
  simp
theorem lineC_len {p : Pr} (h1 : p.1 < 100) (h2 : p.2 < 100) : (lineC p).length ≤ 5 := by
  unfold lineC
  have a := numL_short h1
  have b := numL_short h2
  rw [List.length_append, List.length_append, List.length_singleton]
  omega
theorem headC_len {n : Nat} (h : n < 100) : (headC n).length ≤ 9 := by
  unfold headC guestsC
  have a := numL_short h
  rw [List.length_append, List.length_append, List.length_singleton]
  show 6 + (1 + _) ≤ 9
  omega
theorem bodyC_len {n : Nat} (hn : n ≤ 20) : ∀ {E : List Pr}, (∀ p ∈ E, p.1 < n ∧ p.2 < n) → (bodyC E).length ≤ 6 * E.length
  | [], _ => Nat.le_refl _
  | p :: E, h => by
    have ih := bodyC_len hn (E := E) fun q hq => h q (List.mem_cons_of_mem _ hq)
    have hp := h p List.mem_cons_self
    have l := lineC_len (p := p) (by omega) (by omega)
    show (lineC p ++ [10] ++ bodyC E).length ≤ _
    rw [List.length_append, List.length_append, List.length_singleton, List.length_cons]
    omega
theorem wf_both {n : Nat} {E : List Pr} (wf : WF n E) : ∀ p ∈ E, p.1 < n ∧ p.2 < n := fun p hp => by
  have := wf.2 p hp
  omega
theorem textC_len {n : Nat} {E : List Pr} (hn : n ≤ 20) (wf : WF n E) : (textC n E).length ≤ 3000 := by
  rw [textC_eq, List.length_append, List.length_append, List.length_singleton]
  have a := headC_len (n := n) (by omega)
  have b := bodyC_len hn (wf_both wf)
  have c := wf.len hn
  omega
/-! texts written -/
theorem lit_guests : ("guests " : Str) = SX.S (guestsC ++ [32]) := by decide +kernel
theorem lit_guest : ("guests" : Str) = SX.S guestsC := by decide +kernel
theorem lit_nl : ("\n" : Str) = SX.S [10] := by decide +kernel
theorem lit_sp : (" " : Str) = SX.S [32] := by decide +kernel
theorem lit_0 : ("0" : Str) = SX.S [48] := by decide +kernel
theorem lit_e : ("" : Str) = SX.S [] := by decide +kernel
theorem len_guests : (("guests " : Str)).length = 7 := by decide +kernel
theorem len_nl : (("\n" : Str)).length = 1 := by decide +kernel
theorem len_sp : ((" " : Str)).length = 1 := by decide +kernel
theorem lit_figs : (("0123456789" : Str)).cps.toList = [48, 49, 50, 51, 52, 53, 54, 55, 56, 57] := by decide +kernel
theorem txt_head (n : Nat) : (("guests " : Str) ++ Str.ofString (toString (n : Int))) ++ ("\n" : Str) = SX.S (headC n ++ [10]) := by
  rw [SX.num_S, lit_guests, lit_nl, SX.S_cat, SX.S_cat]
  unfold headC
  simp only [List.append_assoc]
theorem txt_line {z : Str} {l : List Nat} (e : z = SX.S l) (i j : Nat) : (((z ++ Str.ofString (toString (i : Int))) ++ (" " : Str)) ++ Str.ofString (toString (j : Int))) ++ ("\n" : Str) = SX.S (l ++ (lineC (i, j) ++ [10])) := by
  rw [e, SX.num_S, SX.num_S, lit_sp, lit_nl, SX.S_cat, SX.S_cat, SX.S_cat, SX.S_cat]
  unfold lineC
  simp only [List.append_assoc]
theorem log2_small {i : Nat} (h : i < 100) : ((i : Int)).natAbs.log2 < 1920 := by
  have k : ∀ i : Fin 100, i.val.log2 < 1920 := by decide +kernel
  exact k ⟨i, h⟩
theorem len_num {i : Nat} (h : i < 100) : (Str.ofString (toString (i : Int))).length ≤ 2 := by
  rw [SX.num_S, SX.S_len]
  exact numL_short h
theorem len_cat (a b : Str) : (a ++ b).length = a.length + b.length := by
  rw [← SX.S_tl a, ← SX.S_tl b, SX.S_cat, SX.S_len, SX.S_len, SX.S_len, List.length_append]
/-- for c in a text -/
theorem for_str {x : Str} {g : TG} {tb : TS} {D : Ends} {σ : L2.St} {H : Hp} (Pv : Nat → L2.St → Hp → Prop) (h0 : Pv 0 σ H)
    (hs : ∀ i c σ H, x.cps[i]? = some c → Pv i σ H → g (.str ⟨#[c]⟩) σ H fun σ2 H2 => tb { D with nx := Pv (i + 1), ct := Pv (i + 1), bk := D.nx } σ2 H2) (hd : ∀ σ H, Pv x.cps.size σ H → D.nx σ H) :
    ∃ W : Nat → Nat → L2.St → Hp → Prop, (∃ m, W 0 m σ H) ∧ ∀ i m σ H, W i m σ H →
      ((Its x).stop i H ∧ D.nx σ H) ∨ ((Its x).go i H ∧ ∃ N : L2.St → Hp → Prop, (∀ σ' H', N σ' H' → ∃ m', m' < m ∧ W (i + 1) m' σ' H') ∧ ∀ y H', (Its x).yld i H y H' → g y σ H' fun σ2 H2 => tb { D with nx := N, ct := N, bk := D.nx } σ2 H2) := by
  refine ⟨fun i m σ H => m = x.cps.size - i ∧ i ≤ x.cps.size ∧ Pv i σ H, ⟨x.cps.size, by simp, Nat.zero_le _, h0⟩, ?_⟩
  rintro i m σ H ⟨rfl, hi, p⟩
  by_cases hlt : i < x.cps.size
  · refine .inr ⟨hlt, Pv (i + 1), fun σ' H' p' => ⟨x.cps.size - (i + 1), by omega, rfl, hlt, p'⟩, fun y H' h => ?_⟩
    obtain ⟨e1, c, hc, rfl⟩ := h
    rw [e1]
    exact hs i c σ H hc p
  · have e : i = x.cps.size := by omega
    subst e
    exact .inl ⟨Nat.le_refl _, hd σ H p⟩
/-! promises -/
def sV (l : List (List Nat)) : List V := (l.map SX.S).map V.str
theorem sV_get {l : List (List Nat)} {i : Nat} {w : List Nat} (h : l[i]? = some w) : (sV l)[i]? = some (V.str (SX.S w)) := by
  unfold sV
  rw [List.getElem?_map, List.getElem?_map, h]
  rfl
theorem sV_of {l : List (List Nat)} {i : Nat} {v : V} (h : (sV l)[i]? = some v) : ∃ w, l[i]? = some w ∧ v = V.str (SX.S w) := by
  unfold sV at h
  rw [List.getElem?_map, List.getElem?_map] at h
  cases e : l[i]? with
  | none =>
    rw [e] at h
    cases h
  | some w =>
    rw [e] at h
    exact ⟨w, rfl, (Option.some.inj h).symm⟩
theorem sV_len (l : List (List Nat)) : (sV l).length = l.length := by
  unfold sV
  rw [List.length_map, List.length_map]
theorem str_S {a b : List Nat} : V.str (SX.S a) = V.str (SX.S b) ↔ a = b := ⟨fun h => SX.S_inj (V.str.inj h), fun h => by rw [h]⟩
/-- what is a refusal -/
structure HEs (K : PySem.W.Frag) (cNG cSG cKA cBH cNT cHE : Addr) : Prop where
  ng : PySem.W.exmOne K (.ref cNG) (.ref cHE) = some true
  sg : PySem.W.exmOne K (.ref cSG) (.ref cHE) = some true
  ka : PySem.W.exmOne K (.ref cKA) (.ref cHE) = some true
  bh : PySem.W.exmOne K (.ref cBH) (.ref cHE) = some true
  nt : PySem.W.exmOne K (.ref cNT) (.ref cHE) = some true
def spShown (C : Addr) : Sp := fun vs H Q _ => ∃ (p d : Addr) (n : Nat) (L : List Pr), vs = [.ref p] ∧ HallAt C H p n d L ∧ ∀ H', Same H H' → Q (.str (SX.S (textC n (edgeL n L)))) H'
def spNumberOf (cNT : Addr) : Sp := fun vs H Q E => ∃ w : List Nat, vs = [.str (SX.S w)] ∧ w.length ≤ 1000000 ∧ (numF w = none → E (.ref cNT) none H) ∧ (∀ v : Nat, numF w = some v → Q (.int (v : Int)) H)
def spMetL (C cNG cSG cKA cNT : Addr) : Sp := fun vs H Q E => ∃ (p d : Addr) (n : Nat) (L : List Pr) (line : List Nat), vs = [.ref p, .str (SX.S line)] ∧ HallAt C H p n d L ∧ line.length ≤ 1000000 ∧
  (pairF n L line = none → ∀ c, c = cNT ∨ c = cNG ∨ c = cSG ∨ c = cKA → ∀ H', Same H H' → E (.ref c) none H') ∧ (∀ q, pairF n L line = some q → ∀ H', Keep [d] H H' → HallAt C H' p n d (L ++ [q]) → Q .non H')
def spRead (C cNT : Addr) : Sp := fun vs H Q E => ∃ t : List Nat, vs = [.str (SX.S t)] ∧ t.length ≤ 900000 ∧ (readF t = none → ∀ H', Same H H' → E (.ref cNT) none H') ∧
  (∀ n L, readF t = some (n, L) → ∀ H' x d, Same H H' → H x = none → H d = none → HallAt C H' x n d L → Q (.ref x) H')
end KT

namespace KT
open PySem L2
def topS (i : Nat) : Stmt := PySem.Challenge.pw_knowthree_k12_halls_read_or_refused.main.body.getD i (.Pass ⟨0, 0, 0, 0⟩)
abbrev st_Hall_init : Stmt := inClass (topS 10) 0
abbrev st_Hall_many : Stmt := inClass (topS 10) 1
abbrev st_Hall_see : Stmt := inClass (topS 10) 2
abbrev st_Hall_see_two : Stmt := inClass (topS 10) 3
abbrev st_Hall_meet : Stmt := inClass (topS 10) 4
abbrev st_Hall_part : Stmt := inClass (topS 10) 5
abbrev st_Hall_know : Stmt := inClass (topS 10) 6
abbrev st_Hall_known : Stmt := inClass (topS 10) 7
abbrev st_Hall_strangers : Stmt := inClass (topS 10) 8
abbrev st_number_of : Stmt := topS 13
abbrev st_met : Stmt := topS 14
abbrev st_read : Stmt := topS 15
abbrev st_l_cell_at : Stmt := topS 17
abbrev st_l_whole : Stmt := topS 18
abbrev st_l_many : Stmt := topS 19
abbrev st_l_pairs_by : Stmt := topS 20
abbrev st_l_known : Stmt := topS 21
abbrev st_l_numbers : Stmt := topS 22
abbrev st_l_marks_of : Stmt := topS 23
abbrev st_l_same : Stmt := topS 24
abbrev st_l_sign_by : Stmt := topS 25
abbrev st_l_spoiled : Stmt := topS 26
abbrev st_l_number : Stmt := topS 27
abbrev st_l_due : Stmt := topS 28
abbrev st_law : Stmt := topS 29
end KT
/-! the hall's defs keep their promises: the parts that every law has -/
namespace KT
open PySem PySem.Spec PyProof.Rows L2
section
variable {P : Program} {w : World} {K : PySem.W.Frag} {mg : Str → Option Value} {base : Heap} {C cNG cSG cKA cST cBH : Addr}
theorem sc_init : FnScope ["self", "many"] ["self", "many"] (defScope st_Hall_init) := ⟨rfl, rfl, rfl, by decide +kernel, rfl, by decide +kernel, by decide +kernel⟩
theorem ok_init {f : Addr} {fd : FuncData} (F : Fun K "__init__" "Hall.__init__" st_Hall_init f fd) (T : HT K mg C cNG cSG cKA cST cBH) :
    FnOk P w K mg base (L2N.CX P w) 1 f fd ["self", "many"] (spInit C cBH) := by
  obtain ⟨tg, egr⟩ := T.gr
  refine okN F sc_init (fun vs H Q E h => ?_) (fun cdv A outer s H vs Q E hr h => ?_)
  · obtain ⟨p, dx, z, rfl, _⟩ := h
    rfl
  · obtain ⟨p, dx, z, rfl, hp, hdx, bad, good⟩ := h
    refine ⟨_, pss_cons (ps_if (PW.pt (pw_or (pt_cmpR op_lt (pv 1) pe_int (nomark _)) (pw_or1 (pt_cmpR op_gt (pv 1) (pe_glob (v := .int 20) rfl egr ⟨tg, rfl⟩) (nomark _)))))
        (pss_one (pr T.bh tk)) pss_nil)
      (pss_cons (ps_fld (pv 0) (pv 1) rfl) (pss_one (ps_fld (pv 0) pe_dnewT rfl))), ?_⟩
    refine ⟨_, rfl, _, _, rfl, rfl, _, rfl, ite2 (fun c => ?_) (fun c => ?_)⟩
    · exact iteT (bad (by have := of_decide_eq_true c; omega))
    have c1 : ¬ z < 1 := of_decide_eq_false (by simpa using c)
    refine ⟨_, rfl, _, _, rfl, rfl, _, rfl, ite2 (fun c2 => ?_) (fun c2 => ?_)⟩
    · exact bad (by have := of_decide_eq_true c2; omega)
    have c3 : ¬ (20 < z) := of_decide_eq_false (by simpa using c2)
    refine ⟨_, rfl, _, rfl, p, C, dx, _, rfl, hp, T.cl, T.nC, (by show 0 < 1000; decide), ?_⟩
    intro d hd
    have npd : p ≠ d := fun q => by
      rw [q, upd_same] at hd
      cases hd
    have hd0 : H d = none := by
      rw [upd_ne npd.symm] at hd
      exact hd
    obtain ⟨n, rfl⟩ : ∃ n : Nat, z = (n : Int) := ⟨z.toNat, by omega⟩
    refine ⟨_, rfl, p, C, dx, _, rfl, (by rw [upd_ne npd]; exact upd_same), T.cl, T.nP, (by show 1 < 1000; decide), ?_⟩
    refine good n rfl (by omega) (by omega) _ d ?_ hd0 ⟨⟨dx, upd_same⟩, by rw [upd_ne npd.symm]; exact upd_same, WF.nil n, by omega, by omega⟩
    intro b o nb e
    have nb : b ≠ p := by simpa using nb
    rw [upd_ne nb, upd_ne (ne_of_none e hd0), upd_ne nb]
    exact e
theorem sc_many : FnScope ["self"] ["self"] (defScope st_Hall_many) := ⟨rfl, rfl, rfl, by decide +kernel, rfl, by decide +kernel, by decide +kernel⟩
theorem ok_many {f : Addr} {fd : FuncData} (F : Fun K "many" "Hall.many" st_Hall_many f fd) (T : HT K mg C cNG cSG cKA cST cBH) :
    FnOk P w K mg base CX0 1 f fd ["self"] (spMany C) := by
  refine F.ok sc_many (fun vs H Q E h => ?_) (fun cdv A outer s H vs Q E hr h => ?_)
  · obtain ⟨p, d, n, L, rfl, _⟩ := h
    rfl
  · obtain ⟨p, d, n, L, rfl, hall, q⟩ := h
    obtain ⟨dx, hp⟩ := hall.ins
    refine ⟨_, pss_one (ps_ret (pe_fld (pv 0) rfl)), ?_⟩
    exact ⟨_, rfl, p, C, dx, _, _, rfl, hp, T.cl, T.nC, hf_count _ _, q⟩
theorem sc_see : FnScope ["self", "guest"] ["self", "guest"] (defScope st_Hall_see) := ⟨rfl, rfl, rfl, by decide +kernel, rfl, by decide +kernel, by decide +kernel⟩
theorem ok_see {f : Addr} {fd : FuncData} (F : Fun K "see" "Hall.see" st_Hall_see f fd) (T : HT K mg C cNG cSG cKA cST cBH) :
    FnOk P w K mg base (L2N.CX P w) 1 f fd ["self", "guest"] (spSee C cNG) := by
  refine okN F sc_see (fun vs H Q E h => ?_) (fun cdv A outer s H vs Q E hr h => ?_)
  · obtain ⟨p, d, n, L, z, rfl, _⟩ := h
    rfl
  · obtain ⟨p, d, n, L, z, rfl, hall, bad, good⟩ := h
    obtain ⟨dx, hp⟩ := hall.ins
    refine ⟨_, pss_one (ps_if (PW.pt (pw_or (pt_cmpR op_lt (pv 1) pe_int (nomark _)) (pw_or1 (pt_cmpR op_ge (pv 1) (pe_fld (pv 0) rfl) (nomark _)))))
        (pss_one (pr T.ng tk)) pss_nil), ?_⟩
    refine ⟨_, rfl, _, _, rfl, rfl, _, rfl, ite2 (fun c => ?_) (fun c => ?_)⟩
    · exact iteT (bad (by have := of_decide_eq_true c; unfold isG; omega))
    have c1 : ¬ z < 0 := of_decide_eq_false (by simpa using c)
    refine ⟨_, rfl, _, rfl, p, C, dx, _, _, rfl, hp, T.cl, T.nC, hf_count _ _, _, _, rfl, rfl, _, rfl, ite2 (fun c2 => ?_) (fun c2 => ?_)⟩
    · exact bad (by have := of_decide_eq_true c2; unfold isG; omega)
    have c3 : ¬ ((n : Int) ≤ z) := of_decide_eq_false (by simpa using c2)
    exact good ⟨by omega, by omega⟩
theorem sc_see_two : FnScope ["self", "one", "other"] ["self", "one", "other"] (defScope st_Hall_see_two) := ⟨rfl, rfl, rfl, by decide +kernel, rfl, by decide +kernel, by decide +kernel⟩
theorem ok_see_two {f : Addr} {fd : FuncData} (F : Fun K "see_two" "Hall.see_two" st_Hall_see_two f fd) (T : HT K mg C cNG cSG cKA cST cBH)
    (mS : MetD P w K mg base (L2N.CX P w) C 1 "see" (spSee C cNG)) :
    FnOk P w K mg base (L2N.CX P w) 2 f fd ["self", "one", "other"] (spSeeTwo C cNG cSG) := by
  refine okN F sc_see_two (fun vs H Q E h => ?_) (fun cdv A outer s H vs Q E hr h => ?_)
  · obtain ⟨p, d, n, L, y, z, rfl, _⟩ := h
    rfl
  · obtain ⟨p, d, n, L, y, z, rfl, hall, bad, same, good⟩ := h
    obtain ⟨dx, hp⟩ := hall.ins
    refine ⟨_, pss_cons (ps_expr (pm (pv 0) T.cl mS hr px (pa_cons (pv 1) pa_nil))) (pss_cons (ps_expr (pm (pv 0) T.cl mS hr px (pa_cons (pv 2) pa_nil)))
      (pss_one (ps_if (pt_cmpR op_eq (pv 1) (pv 2) (nomark _)) (pss_one (pr T.sg tk)) pss_nil))), ?_⟩
    have ns : (hf n d).lookup ("see" : Str) = none := hf_no _ _ (by decide +kernel) (by decide +kernel)
    refine ⟨_, rfl, p, dx, _, rfl, hp, ns, _, rfl, p, d, n, L, y, rfl, hall, fun b => bad fun c => b c.1, fun gy => ?_⟩
    refine ⟨_, rfl, p, dx, _, rfl, hp, ns, _, rfl, p, d, n, L, z, rfl, hall, fun b => bad fun c => b c.2, fun gz => ?_⟩
    refine ⟨_, rfl, _, rfl, rfl, _, rfl, ite2 (fun c => ?_) (fun c => ?_)⟩
    · exact same gy gz (by have := of_decide_eq_true c; exact V.int.inj this)
    · exact good gy gz (fun e => c (decide_eq_true (by rw [e])))
theorem sc_know : FnScope ["self", "one", "other"] ["self", "one", "other"] (defScope st_Hall_know) := ⟨rfl, rfl, rfl, by decide +kernel, rfl, by decide +kernel, by decide +kernel⟩
theorem ok_know {f : Addr} {fd : FuncData} (F : Fun K "know" "Hall.know" st_Hall_know f fd) (T : HT K mg C cNG cSG cKA cST cBH)
    (mS : MetD P w K mg base (L2N.CX P w) C 2 "see_two" (spSeeTwo C cNG cSG)) :
    FnOk P w K mg base (L2N.CX P w) 3 f fd ["self", "one", "other"] (spKnow C cNG cSG) := by
  refine okN F sc_know (fun vs H Q E h => ?_) (fun cdv A outer s H vs Q E hr h => ?_)
  · obtain ⟨p, d, n, L, y, z, rfl, _⟩ := h
    rfl
  · obtain ⟨p, d, n, L, y, z, rfl, hall, bad, same, good⟩ := h
    obtain ⟨dx, hp⟩ := hall.ins
    refine ⟨_, pss_cons (ps_expr (pm (pv 0) T.cl mS hr px (pa_cons (pv 1) (pa_cons (pv 2) pa_nil))))
      (pss_one (ps_ret (pe_cmp (pc_din (hu_of hr) (pe_tup (pa_cons (pe_callB (call_min2 rfl) (by rfl) T.min (by decide +kernel) (pa_cons (pv 1) (pa_cons (pv 2) pa_nil)))
        (pa_cons (pe_callB (call_max2 rfl) (by rfl) T.max (by decide +kernel) (pa_cons (pv 1) (pa_cons (pv 2) pa_nil))) pa_nil))) (pe_fld (pv 0) rfl)) rfl))), ?_⟩
    have ns : (hf n d).lookup ("see_two" : Str) = none := hf_no _ _ (by decide +kernel) (by decide +kernel)
    refine ⟨_, rfl, p, dx, _, rfl, hp, ns, _, rfl, _, rfl, p, d, n, L, y, z, rfl, hall, bad, same, fun gy gz nyz => ?_⟩
    obtain ⟨i, rfl, hi⟩ := gy.nat
    obtain ⟨j, rfl, hj⟩ := gz.nat
    refine ⟨_, rfl, _, rfl, _, _, rfl, _, rfl, _, rfl, _, _, rfl, (by show 2 ≤ sizeLine; decide), fun t ht => ?_⟩
    have s1 := same_new (.tup [V.int (if (j : Int) < (i : Int) then (j : Int) else (i : Int)), V.int (if (j : Int) > (i : Int) then (j : Int) else (i : Int))]) ht
    have h2 := hall.same s1
    obtain ⟨dx2, hp2⟩ := h2.ins
    refine ⟨_, rfl, p, C, dx2, _, _, rfl, hp2, T.cl, T.nP, hf_pairs _ _, d, _, rfl, DGet.t (k := kP (nrm i j)) h2.dic (by rw [upd_same, kP_map, min_py, max_py]; rfl), ?_⟩
    rw [isSome_kvs]
    exact good i j rfl rfl hi hj (fun e => nyz (by rw [e])) _ s1
end
end KT

/-! meet, part -/
namespace KT
open PySem PySem.Spec PyProof.Rows L2
section
variable {P : Program} {w : World} {K : PySem.W.Frag} {mg : Str → Option Value} {base : Heap} {C cNG cSG cKA cST cBH : Addr}
theorem sc_meet : FnScope ["self", "one", "other"] ["self", "one", "other"] (defScope st_Hall_meet) := ⟨rfl, rfl, rfl, by decide +kernel, rfl, by decide +kernel, by decide +kernel⟩
theorem ok_meet {f : Addr} {fd : FuncData} (F : Fun K "meet" "Hall.meet" st_Hall_meet f fd) (T : HT K mg C cNG cSG cKA cST cBH)
    (mK : MetD P w K mg base (L2N.CX P w) C 3 "know" (spKnow C cNG cSG)) :
    FnOk P w K mg base (L2N.CX P w) 4 f fd ["self", "one", "other"] (spMeet C cNG cSG cKA) := by
  refine okN F sc_meet (fun vs H Q E h => ?_) (fun cdv A outer s H vs Q E hr h => ?_)
  · obtain ⟨p, d, n, L, y, z, rfl, _⟩ := h
    rfl
  · obtain ⟨p, d, n, L, y, z, rfl, hall, bad, same, there, good⟩ := h
    obtain ⟨dx, hp⟩ := hall.ins
    refine ⟨_, pss_cons (ps_if (pt_val (pm (pv 0) T.cl mK hr px (pa_cons (pv 1) (pa_cons (pv 2) pa_nil)))) (pss_one (pr T.ka tk)) pss_nil)
      (pss_one (ps_dput (hu_of hr) (pe_fld (pv 0) rfl) (pe_tup (pa_cons (pe_callB (call_min2 rfl) (by rfl) T.min (by decide +kernel) (pa_cons (pv 1) (pa_cons (pv 2) pa_nil)))
        (pa_cons (pe_callB (call_max2 rfl) (by rfl) T.max (by decide +kernel) (pa_cons (pv 1) (pa_cons (pv 2) pa_nil))) pa_nil))) pe_bl rfl)), ?_⟩
    have nk : (hf n d).lookup ("know" : Str) = none := hf_no _ _ (by decide +kernel) (by decide +kernel)
    refine ⟨_, rfl, p, dx, _, rfl, hp, nk, _, rfl, _, rfl, p, d, n, L, y, z, rfl, hall, bad, same, ?_⟩
    intro i j ei ej hi hj nij H1 s1
    subst ei
    subst ej
    refine ⟨_, rfl, ite2 (fun c => ?_) (fun c => ?_)⟩
    · exact there i j rfl rfl hi hj nij (of_decide_eq_true c) _ s1
    have nin : nrm i j ∉ L := fun m => c (decide_eq_true m)
    have h1 := hall.same s1
    obtain ⟨dx1, hp1⟩ := h1.ins
    refine ⟨_, rfl, p, C, dx1, _, _, rfl, hp1, T.cl, T.nP, hf_pairs _ _, _, rfl, _, rfl, _, _, rfl, _, rfl, _, rfl, _, _, rfl, (by show 2 ≤ sizeLine; decide), fun t ht => ?_⟩
    have s2 := same_new (.tup [V.int (if (j : Int) < (i : Int) then (j : Int) else (i : Int)), V.int (if (j : Int) > (i : Int) then (j : Int) else (i : Int))]) ht
    have h2 := h1.same s2
    have key : upd H1 t (.tup [V.int (if (j : Int) < (i : Int) then (j : Int) else (i : Int)), V.int (if (j : Int) > (i : Int) then (j : Int) else (i : Int))]) t = some (.tup ((kP (nrm i j)).map kV)) := by
      rw [upd_same, kP_map, min_py, max_py]
      rfl
    have lenb : (kvs L).length < sizeLine := by
      rw [length_kvs]
      exact Nat.lt_of_le_of_lt (hall.wf.len hall.hi) (by decide)
    refine ⟨d, _, rfl, DPut.t (k := kP (nrm i j)) h2.dic key lenb, ?_⟩
    rw [put_kvs nin]
    obtain ⟨dx2, hp2⟩ := h2.ins
    refine good i j rfl rfl hi hj nij nin _ ?_ ⟨⟨dx2, by rw [upd_ne h2.ne]; exact hp2⟩, upd_same, hall.wf.snoc (nrm_ok nij hi hj) nin, hall.lo, hall.hi⟩
    exact (Keep.of [d] (s1.trans s2)).trans (Keep.put d _)
theorem sc_part : FnScope ["self", "one", "other"] ["self", "one", "other"] (defScope st_Hall_part) := ⟨rfl, rfl, rfl, by decide +kernel, rfl, by decide +kernel, by decide +kernel⟩
theorem ok_part {f : Addr} {fd : FuncData} (F : Fun K "part" "Hall.part" st_Hall_part f fd) (T : HT K mg C cNG cSG cKA cST cBH)
    (mK : MetD P w K mg base (L2N.CX P w) C 3 "know" (spKnow C cNG cSG)) :
    FnOk P w K mg base (L2N.CX P w) 4 f fd ["self", "one", "other"] (spPart C cNG cSG cST) := by
  refine okN F sc_part (fun vs H Q E h => ?_) (fun cdv A outer s H vs Q E hr h => ?_)
  · obtain ⟨p, d, n, L, y, z, rfl, _⟩ := h
    rfl
  · obtain ⟨p, d, n, L, y, z, rfl, hall, bad, same, there, good⟩ := h
    obtain ⟨dx, hp⟩ := hall.ins
    refine ⟨_, pss_cons (ps_if (pt_not (pt_val (pm (pv 0) T.cl mK hr px (pa_cons (pv 1) (pa_cons (pv 2) pa_nil))))) (pss_one (pr T.st tk)) pss_nil)
      (pss_one (ps_expr (pe_bm PySem.F.plainAttrs_dict PySem.F.slot_dict_pop PySem.F.type_dict_pop (mt_pop1 (hu_of hr)) (pe_fld (pv 0) rfl)
        (pa_cons (pe_tup (pa_cons (pe_callB (call_min2 rfl) (by rfl) T.min (by decide +kernel) (pa_cons (pv 1) (pa_cons (pv 2) pa_nil)))
        (pa_cons (pe_callB (call_max2 rfl) (by rfl) T.max (by decide +kernel) (pa_cons (pv 1) (pa_cons (pv 2) pa_nil))) pa_nil))) pa_nil)))), ?_⟩
    have nk : (hf n d).lookup ("know" : Str) = none := hf_no _ _ (by decide +kernel) (by decide +kernel)
    refine ⟨_, rfl, p, dx, _, rfl, hp, nk, _, rfl, _, rfl, p, d, n, L, y, z, rfl, hall, bad, same, ?_⟩
    intro i j ei ej hi hj nij H1 s1
    subst ei
    subst ej
    refine ⟨_, rfl, ite2 (fun c => ?_) (fun c => ?_)⟩
    · exact there i j rfl rfl hi hj nij (fun m => by rw [decide_eq_true m] at c; cases c) _ s1
    have isin : nrm i j ∈ L := by
      by_cases m : nrm i j ∈ L
      · exact m
      · exact absurd (by rw [decide_eq_false m] <;> rfl) c
    have h1 := hall.same s1
    obtain ⟨dx1, hp1⟩ := h1.ins
    refine ⟨_, rfl, p, C, dx1, _, _, rfl, hp1, T.cl, T.nP, hf_pairs _ _, .inr (.inr (.inl ⟨rfl, .inr ⟨_, h1.dic⟩⟩)), _, rfl, _, rfl, _, _, rfl, _, rfl, _, rfl, _, _, rfl, (by show 2 ≤ sizeLine; decide), fun t ht => ?_⟩
    have s2 := same_new (.tup [V.int (if (j : Int) < (i : Int) then (j : Int) else (i : Int)), V.int (if (j : Int) > (i : Int) then (j : Int) else (i : Int))]) ht
    have h2 := h1.same s2
    have key : upd H1 t (.tup [V.int (if (j : Int) < (i : Int) then (j : Int) else (i : Int)), V.int (if (j : Int) > (i : Int) then (j : Int) else (i : Int))]) t = some (.tup ((kP (nrm i j)).map kV)) := by
      rw [upd_same, kP_map, min_py, max_py]
      rfl
    refine ⟨d, _, kP (nrm i j), t, .bl true, rfl, rfl, h2.dic, key, by rw [valV_kvs, if_pos isin], ?_⟩
    rw [drop_kvs hall.wf.1]
    obtain ⟨dx2, hp2⟩ := h2.ins
    refine good i j rfl rfl hi hj nij isin _ ?_ ⟨⟨dx2, by rw [upd_ne h2.ne]; exact hp2⟩, upd_same, hall.wf.erase _, hall.lo, hall.hi⟩
    exact (Keep.of [d] (s1.trans s2)).trans (Keep.put d _)
end
end KT

/-! known -/
namespace KT
open PySem PySem.Spec PyProof.Rows L2
section
variable {P : Program} {w : World} {K : PySem.W.Frag} {mg : Str → Option Value} {base : Heap} {C cNG cSG cKA cST cBH : Addr}
theorem sc_known : FnScope ["self", "guest", "other"] ["self", "guest"] (defScope st_Hall_known) := ⟨rfl, rfl, rfl, by decide +kernel, rfl, by decide +kernel, by decide +kernel⟩
theorem ok_known {f : Addr} {fd : FuncData} (F : Fun K "known" "Hall.known" st_Hall_known f fd) (T : HT K mg C cNG cSG cKA cST cBH)
    (mS : MetD P w K mg base (L2N.CX P w) C 1 "see" (spSee C cNG)) (mK : MetD P w K mg base (L2N.CX P w) C 3 "know" (spKnow C cNG cSG)) :
    FnOk P w K mg base (L2N.CX P w) 4 f fd ["self", "guest"] (spOthers true C cNG) := by
  refine okN F sc_known (fun vs H Q E h => ?_) (fun cdv A outer s H vs Q E hr h => ?_)
  · obtain ⟨p, d, n, L, z, rfl, _⟩ := h
    rfl
  · obtain ⟨p, d, n, L, z, rfl, hall, bad, good⟩ := h
    obtain ⟨dx, hp⟩ := hall.ins
    refine ⟨_, pss_cons (ps_expr (pm (pv 0) T.cl mS hr px (pa_cons (pv 1) pa_nil)))
      (pss_one (ps_ret (pe_lc (own := [("other", 2)]) (g := gName 2) rfl sc_known.nd (pi_range1 rfl T.range (pa_cons (pe_fld (pv 0) rfl) pa_nil))
        (blkOk_by (own := [("other", 2)]) (N := ["self", "guest", "other"]) (sc := defScope st_Hall_known) (by decide +kernel)) (fun _ _ _ _ _ => pg_name (i := 2) sc_known.nd rfl (Or.inl rfl))
        (fun _ _ _ _ _ => pts_one (PW.pt (pw_and (pt_cmpR op_ne (pv 2) (pv 1) (nomark _)) (pw_and1 (pt_val (pm (pv 0) T.cl mK hr passN (pa_cons (pv 1) (pa_cons (pv 2) pa_nil))))))))
        (fun _ _ _ _ _ => pv 2)))), ?_⟩
    have ns : (hf n d).lookup ("see" : Str) = none := hf_no _ _ (by decide +kernel) (by decide +kernel)
    have nk : (hf n d).lookup ("know" : Str) = none := hf_no _ _ (by decide +kernel) (by decide +kernel)
    refine ⟨_, rfl, p, dx, _, rfl, hp, ns, _, rfl, p, d, n, L, z, rfl, hall, bad, fun gz => ?_⟩
    obtain ⟨g, rfl, hg⟩ := gz.nat
    have hn := hall.hi
    refine ⟨_, rfl, p, C, dx, _, _, rfl, hp, T.cl, T.nC, hf_count _ _, _, rfl, by omega, by omega, fun D hD => ?_⟩
    refine lc_range (lo := 0) (n := n) (fun i H' => Same H H' ∧ H' D = some (.lst (iV ((List.range i).filter (oth true L g))))) ⟨same_new _ hD, upd_same⟩ ?_ ?_
    · rintro i H1 hi ⟨s1, hl⟩
      rw [Int.zero_add]
      refine ⟨rfl, _, rfl, _, rfl, rfl, _, rfl, ?_⟩
      refine ite2 (fun c => ?_) (fun c => ?_)
      · have nig : i ≠ g := fun e => by
          rw [e] at c
          simp at c
        have h1 := hall.same s1
        obtain ⟨dx1, hp1⟩ := h1.ins
        refine ⟨_, rfl, p, dx1, _, rfl, hp1, nk, _, rfl, _, rfl, p, d, n, L, (g : Int), (i : Int), rfl, h1, fun b => b ⟨isG.of hg, isG.of hi⟩, fun _ _ e => nig (by omega), ?_⟩
        intro i' j' ei ej _ _ _ H2 s2
        have ei : g = i' := by omega
        have ej : i = j' := by omega
        subst ei
        subst ej
        have hl2 := s2 _ _ hl
        refine ⟨_, rfl, ite2 (fun c2 => ?_) (fun c2 => ?_)⟩
        · refine ⟨_, rfl, _, hl2, iV_line (by omega), same_keepNew (s1.trans s2) hD (Keep.put D _), ?_⟩
          rw [upd_same, filter_yes (oth_iff.mpr ⟨nig, by simpa using c2⟩), iV_snoc]
        · refine ⟨s1.trans s2, ?_⟩
          rw [filter_no (fun z => c2 (by simpa using (oth_iff.mp z).2))]
          exact hl2
      · refine ⟨s1, ?_⟩
        rw [filter_no (fun z => c (by simpa using (show ¬ (i : Int) = (g : Int) from fun e => (oth_iff.mp z).1 (by omega))))]
        exact hl
    · rintro H1 ⟨s1, hl⟩
      exact good g rfl hg _ D s1 hD hl
end
end KT

/-! strangers -/
namespace KT
open PySem PySem.Spec PyProof.Rows L2
section
variable {P : Program} {w : World} {K : PySem.W.Frag} {mg : Str → Option Value} {base : Heap} {C cNG cSG cKA cST cBH : Addr}
theorem sc_strangers : FnScope ["self", "guest", "other"] ["self", "guest"] (defScope st_Hall_strangers) := ⟨rfl, rfl, rfl, by decide +kernel, rfl, by decide +kernel, by decide +kernel⟩
theorem ok_strangers {f : Addr} {fd : FuncData} (F : Fun K "strangers" "Hall.strangers" st_Hall_strangers f fd) (T : HT K mg C cNG cSG cKA cST cBH)
    (mS : MetD P w K mg base (L2N.CX P w) C 1 "see" (spSee C cNG)) (mK : MetD P w K mg base (L2N.CX P w) C 3 "know" (spKnow C cNG cSG)) :
    FnOk P w K mg base (L2N.CX P w) 4 f fd ["self", "guest"] (spOthers false C cNG) := by
  refine okN F sc_strangers (fun vs H Q E h => ?_) (fun cdv A outer s H vs Q E hr h => ?_)
  · obtain ⟨p, d, n, L, z, rfl, _⟩ := h
    rfl
  · obtain ⟨p, d, n, L, z, rfl, hall, bad, good⟩ := h
    obtain ⟨dx, hp⟩ := hall.ins
    refine ⟨_, pss_cons (ps_expr (pm (pv 0) T.cl mS hr px (pa_cons (pv 1) pa_nil)))
      (pss_one (ps_ret (pe_lc (own := [("other", 2)]) (g := gName 2) rfl sc_strangers.nd (pi_range1 rfl T.range (pa_cons (pe_fld (pv 0) rfl) pa_nil))
        (blkOk_by (own := [("other", 2)]) (N := ["self", "guest", "other"]) (sc := defScope st_Hall_strangers) (by decide +kernel)) (fun _ _ _ _ _ => pg_name (i := 2) sc_strangers.nd rfl (Or.inl rfl))
        (fun _ _ _ _ _ => pts_one (PW.pt (pw_and (pt_cmpR op_ne (pv 2) (pv 1) (nomark _)) (pw_and1 (pt_not (pt_val (pm (pv 0) T.cl mK hr passN (pa_cons (pv 1) (pa_cons (pv 2) pa_nil)))))))))
        (fun _ _ _ _ _ => pv 2)))), ?_⟩
    have ns : (hf n d).lookup ("see" : Str) = none := hf_no _ _ (by decide +kernel) (by decide +kernel)
    have nk : (hf n d).lookup ("know" : Str) = none := hf_no _ _ (by decide +kernel) (by decide +kernel)
    refine ⟨_, rfl, p, dx, _, rfl, hp, ns, _, rfl, p, d, n, L, z, rfl, hall, bad, fun gz => ?_⟩
    obtain ⟨g, rfl, hg⟩ := gz.nat
    have hn := hall.hi
    refine ⟨_, rfl, p, C, dx, _, _, rfl, hp, T.cl, T.nC, hf_count _ _, _, rfl, by omega, by omega, fun D hD => ?_⟩
    refine lc_range (lo := 0) (n := n) (fun i H' => Same H H' ∧ H' D = some (.lst (iV ((List.range i).filter (oth false L g))))) ⟨same_new _ hD, upd_same⟩ ?_ ?_
    · rintro i H1 hi ⟨s1, hl⟩
      rw [Int.zero_add]
      refine ⟨rfl, _, rfl, _, rfl, rfl, _, rfl, ?_⟩
      refine ite2 (fun c => ?_) (fun c => ?_)
      · have nig : i ≠ g := fun e => by
          rw [e] at c
          simp at c
        have h1 := hall.same s1
        obtain ⟨dx1, hp1⟩ := h1.ins
        refine ⟨_, rfl, p, dx1, _, rfl, hp1, nk, _, rfl, _, rfl, p, d, n, L, (g : Int), (i : Int), rfl, h1, fun b => b ⟨isG.of hg, isG.of hi⟩, fun _ _ e => nig (by omega), ?_⟩
        intro i' j' ei ej _ _ _ H2 s2
        have ei : g = i' := by omega
        have ej : i = j' := by omega
        subst ei
        subst ej
        have hl2 := s2 _ _ hl
        refine ⟨_, rfl, ite2 (fun c2 => ?_) (fun c2 => ?_)⟩
        · refine ⟨_, rfl, _, hl2, iV_line (by omega), same_keepNew (s1.trans s2) hD (Keep.put D _), ?_⟩
          rw [upd_same, filter_yes (oth_iff.mpr ⟨nig, by simpa using c2⟩), iV_snoc]
        · refine ⟨s1.trans s2, ?_⟩
          rw [filter_no (fun z => c2 (by simpa using (oth_iff.mp z).2))]
          exact hl2
      · refine ⟨s1, ?_⟩
        rw [filter_no (fun z => c (by simpa using (show ¬ (i : Int) = (g : Int) from fun e => (oth_iff.mp z).1 (by omega))))]
        exact hl
    · rintro H1 ⟨s1, hl⟩
      exact good g rfl hg _ D s1 hD hl
end
end KT

/-! number_of, met, read -/
namespace KT
open PySem PySem.Spec PyProof.Rows L2
theorem S_at (w : List Nat) (i : Nat) : (SX.S w).cps[i]? = w[i]? := by
  show w.toArray[i]? = w[i]?
  simp
theorem S_size (w : List Nat) : (SX.S w).cps.size = w.length := by
  show w.toArray.size = w.length
  simp
theorem one_S (c : Nat) : (⟨#[c]⟩ : Str) = SX.S [c] := rfl
theorem not_fig {w : List Nat} {c : Nat} (hc : c ∈ w) (n : ¬ (48 ≤ c ∧ c ≤ 57)) : numF w = none := by
  unfold numF
  split
  · rfl
  · rw [if_neg]
    intro h
    have := List.all_eq_true.mp h c hc
    simp only [Bool.and_eq_true, decide_eq_true_eq] at this
    exact n this
theorem pairs_step {n : Nat} {L : List Pr} {ls : List (List Nat)} {i : Nat} {line : List Nat} (h : ls[i]? = some line) : pairsF n L (ls.drop i) = match pairF n L line with
    | some p => pairsF n (L ++ [p]) (ls.drop (i + 1))
    | none => none := by
  obtain ⟨hi, e⟩ := List.getElem?_eq_some_iff.mp h
  rw [List.drop_eq_getElem_cons hi, e]
  rfl
section
variable {P : Program} {w : World} {K : PySem.W.Frag} {mg : Str → Option Value} {base : Heap} {C cNG cSG cKA cST cBH cNT cHE : Addr}
theorem sc_number : FnScope ["word", "sign"] ["word"] (defScope st_number_of) := ⟨rfl, rfl, rfl, by decide +kernel, rfl, by decide +kernel, by decide +kernel⟩
theorem ok_number {f : Addr} {fd : FuncData} (F : Fun K "number_of" "number_of" st_number_of f fd) (hlen : mg "len" = none) (hint : mg "int" = none) (TN : ExcT K mg "NoText" cNT) {tF : Tok} (gF : mg "FIGURES" = some (.str "0123456789" tF)) :
    FnOk P w K mg base (L2N.CX P w) 1 f fd ["word"] (spNumberOf cNT) := by
  refine okN F sc_number (fun vs H Q E h => ?_) (fun cdv A outer s H vs Q E hr h => ?_)
  · obtain ⟨u, rfl, _⟩ := h
    rfl
  · obtain ⟨u, rfl, lu, bad, good⟩ := h
    refine ⟨_, pss_cons (ps_join (ps_if (PW.pt (pw_or (pt_cmpR op_lt (pe_callB call_len_str (by rfl) hlen PySem.boot_len (pa_cons (pv 0) pa_nil)) pe_int (nomark _)) (pw_or (pt_cmpR op_gt (pe_callB call_len_str (by rfl) hlen PySem.boot_len (pa_cons (pv 0) pa_nil)) pe_int (nomark _))
        (pw_or1 (PW.pt (pw_and (pt_cmpR op_eq (pe_ix ix_str (pv 0) pe_int (fun _ _ => rfl)) pe_str (nomark _)) (pw_and1 (pt_cmpR op_gt (pe_callB call_len_str (by rfl) hlen PySem.boot_len (pa_cons (pv 0) pa_nil)) pe_int (nomark _))))))))) (pss_one (pr TN tk)) pss_nil))
      (pss_cons (ps_for (passes_of rfl) rfl (pi_str (pv 0)) (pg_name (i := 1) sc_number.nd rfl (Or.inl rfl)) (pss_one (ps_if (pt_cmpR op_notIn_sign (pv 1) (pe_glob (v := .str "0123456789") rfl gF ⟨_, rfl⟩) (by rfl)) (pss_one (pr TN tk)) pss_nil)))
      (pss_one (ps_ret (pe_callTy call_int_str (by rfl) hint (by decide +kernel) (pa_cons (pv 0) pa_nil))))), ?_⟩
    have sl : sizeLine = 16777216 := sizeLine_eq
    have zl : (SX.S u).length = u.length := SX.S_len u
    have zle : (SX.S u).length ≤ sizeLine := by rw [zl]; omega
    refine ⟨fun σ' H' => σ' = [some (V.str (SX.S u)), none] ∧ H' = H ∧ ¬ (u.length = 0 ∨ 2 < u.length ∨ (u.head? = some 48 ∧ 1 < u.length)), ?_, ?_⟩
    · refine ⟨_, rfl, _, rfl, zle, _, _, rfl, rfl, _, rfl, ite2 (fun c => ?_) (fun c => ?_)⟩
      · have c := of_decide_eq_true c
        rw [zl] at c
        refine bad ?_
        unfold numF
        exact if_pos (.inl (by omega))
      have c : ¬ (((SX.S u).length : Int) < 1) := fun z => c (decide_eq_true z)
      rw [zl] at c
      refine ⟨_, rfl, _, rfl, zle, _, _, rfl, rfl, _, rfl, ite2 (fun c2 => ?_) (fun c2 => ?_)⟩
      · have c2 := of_decide_eq_true c2
        rw [zl] at c2
        refine bad ?_
        unfold numF
        exact if_pos (.inr (.inl (by omega)))
      have c2 : ¬ (((SX.S u).length : Int) > 2) := fun z => c2 (decide_eq_true z)
      rw [zl] at c2
      obtain ⟨x, u', eu⟩ := List.exists_cons_of_ne_nil (show u ≠ [] from fun e => by rw [e] at c; exact c (by decide))
      have hx : (SX.S u).cps.toList[0]? = some x := by
        show u.toArray.toList[0]? = some x
        rw [eu]
        rfl
      have hd : u.head? = some x := by rw [eu]; rfl
      refine ⟨_, rfl, _, _, _, rfl, rfl, zle, atI_nat (j := 0) hx, rfl, _, rfl, ite2 (fun c3 => ?_) (fun c3 => ?_)⟩
      · have c3 := of_decide_eq_true c3
        rw [one_S, lit_0, str_S] at c3
        have x48 : x = 48 := by simpa using c3
        refine ⟨_, rfl, _, rfl, zle, _, _, rfl, rfl, _, rfl, ite2 (fun c4 => ?_) (fun c4 => ?_)⟩
        · have c4 := of_decide_eq_true c4
          rw [zl] at c4
          refine bad ?_
          unfold numF
          exact if_pos (.inr (.inr ⟨by rw [hd, x48], by omega⟩))
        · have c4 : ¬ (((SX.S u).length : Int) > 1) := fun z => c4 (decide_eq_true z)
          rw [zl] at c4
          exact ⟨rfl, rfl, by omega⟩
      · refine ⟨rfl, rfl, ?_⟩
        have nx : x ≠ 48 := fun e => c3 (decide_eq_true (by rw [e, one_S, lit_0]))
        rintro (e | e | ⟨e, _⟩)
        · omega
        · omega
        · rw [hd] at e
          exact nx (Option.some.inj e)
    rintro σ' H' ⟨rfl, rfl, nb⟩
    refine ⟨_, rfl, _, rfl, for_str (x := SX.S u) (fun i σ H'' => ∃ v1, σ = [some (V.str (SX.S u)), v1] ∧ H'' = H' ∧ ∀ c ∈ u.take i, 48 ≤ c ∧ c ≤ 57) ⟨none, rfl, rfl, fun c hc => by simp at hc⟩ ?_ ?_⟩
    · rintro i c σ H1 hc ⟨v1, rfl, rfl, k⟩
      rw [S_at] at hc
      refine ⟨_, rfl, c, _, rfl, rfl, _, rfl, ?_⟩
      rw [lit_figs]
      refine ite2 (fun d => ?_) (fun d => ?_)
      · refine bad (not_fig (List.mem_of_getElem? hc) fun z => ?_)
        have m : c ∈ [48, 49, 50, 51, 52, 53, 54, 55, 56, 57] := by
          simp only [List.mem_cons, List.not_mem_nil, or_false]
          omega
        rw [decide_eq_true m] at d
        cases d
      · refine ⟨_, rfl, rfl, forall_take hc k ?_⟩
        by_cases m : c ∈ [48, 49, 50, 51, 52, 53, 54, 55, 56, 57]
        · simp only [List.mem_cons, List.not_mem_nil, or_false] at m
          omega
        · rw [decide_eq_false m] at d
          exact absurd rfl d
    · rintro σ H1 ⟨v1, rfl, rfl, k⟩
      rw [S_size, List.take_length] at k
      have al : u.all (fun c => decide (48 ≤ c) && decide (c ≤ 57)) = true := List.all_eq_true.mpr fun c hc => by
        have := k c hc
        simp [this.1, this.2]
      have ne : u ≠ [] := fun e => nb (.inl (by rw [e]; rfl))
      have l2 : u.length ≤ 2 := by omega
      refine ⟨_, rfl, SX.S u, _, rfl, SX.int_S al ne (by omega), by rw [zl]; omega, good _ ?_⟩
      unfold numF
      rw [if_neg nb, if_pos al]
theorem sc_met : FnScope ["hall", "line", "words"] ["hall", "line"] (defScope st_met) := ⟨rfl, rfl, rfl, by decide +kernel, rfl, by decide +kernel, by decide +kernel⟩
theorem ok_met {f : Addr} {fd : FuncData} (F : Fun K "met" "met" st_met f fd) (T : HT K mg C cNG cSG cKA cST cBH) (TN : ExcT K mg "NoText" cNT)
    (cN : CalD P w K mg base (L2N.CX P w) 1 "number_of" (spNumberOf cNT)) (mM : MetD P w K mg base (L2N.CX P w) C 4 "meet" (spMeet C cNG cSG cKA)) :
    FnOk P w K mg base (L2N.CX P w) 5 f fd ["hall", "line"] (spMetL C cNG cSG cKA cNT) := by
  refine okN F sc_met (fun vs H Q E h => ?_) (fun cdv A outer s H vs Q E hr h => ?_)
  · obtain ⟨p, d, n, L, line, rfl, _⟩ := h
    rfl
  · obtain ⟨p, d, n, L, line, rfl, hall, ll, bad, good⟩ := h
    have sl : sizeLine = 16777216 := sizeLine_eq
    refine ⟨_, pss_cons (ps_set (i := 2) sc_met.nd rfl (Or.inl rfl) (pe_split (pv 1) pe_str))
      (pss_cons (ps_if (PW.pt (pw_or (pt_cmpR op_ne (pe_callB call_len_seq (by rfl) T.len PySem.boot_len (pa_cons (pv 2) pa_nil)) pe_int (nomark _))
          (pw_or1 (pt_cmpR op_gt (pc cN hr px (pa_cons (pe_ix ix_list (pv 2) pe_int (fun _ _ => rfl)) pa_nil)) (pc cN hr px (pa_cons (pe_ix ix_list (pv 2) pe_int (fun _ _ => rfl)) pa_nil)) (nomark _))))) (pss_one (pr TN tk)) pss_nil)
      (pss_one (ps_expr (pm (pv 0) T.cl mM hr px (pa_cons (pc cN hr px (pa_cons (pe_ix ix_list (pv 2) pe_int (fun _ _ => rfl)) pa_nil)) (pa_cons (pc cN hr px (pa_cons (pe_ix ix_list (pv 2) pe_int (fun _ _ => rfl)) pa_nil)) pa_nil)))))), ?_⟩
    refine ⟨_, rfl, ⟨_, rfl⟩, SX.S line, SX.S [32], rfl, by rw [lit_sp], rfl, by rw [SX.S_len]; omega, fun q nq => ?_⟩
    rw [split_cut (by decide)]
    have s1 := same_new (.lst (sV (cutC 32 line))) nq
    have hq : upd H q (.lst (sV (cutC 32 line))) q = some (.lst (sV (cutC 32 line))) := upd_same
    show tSeq _ _ _ _ (upd H q (.lst (sV (cutC 32 line))))
    generalize upd H q (.lst (sV (cutC 32 line))) = H1 at s1 hq
    refine ⟨_, rfl, q, _, rfl, .inl (SqL.of hq), rfl, _, rfl, ite2 (fun c => ?_) (fun c => ?_)⟩
    · refine bad (pairF_words fun e => ?_) _ (.inl rfl) _ s1
      rw [sV_len, e] at c
      simp at c
    have l2 : (cutC 32 line).length = 2 := by
      rw [sV_len] at c
      by_cases e : (cutC 32 line).length = 2
      · exact e
      · exact absurd (by simp; omega) c
    obtain ⟨a, b, eab⟩ : ∃ a b, cutC 32 line = [a, b] := by
      match cutC 32 line, l2 with
      | [a, b], _ => exact ⟨a, b, rfl⟩
    have la : a.length ≤ line.length := cutC_part line a (by rw [eab]; simp)
    have lb : b.length ≤ line.length := cutC_part line b (by rw [eab]; simp)
    rw [eab] at hq
    have g0 : (sV [a, b])[0]? = some (V.str (SX.S a)) := rfl
    have g1 : (sV [a, b])[1]? = some (V.str (SX.S b)) := rfl
    refine ⟨_, rfl, q, _, _, _, rfl, rfl, SqL.of hq, atI_nat (j := 0) g0, a, rfl, by omega, fun na => bad (pairF_a eab na) _ (.inl rfl) _ s1, fun i hi => ?_⟩
    refine ⟨_, rfl, q, _, _, _, rfl, rfl, SqL.of hq, atI_nat (j := 1) g1, b, rfl, by omega, fun nb => bad (pairF_b eab nb) _ (.inl rfl) _ s1, fun j hj => ?_⟩
    have ep := pairF_of (n := n) (L := L) eab hi hj
    refine ⟨_, _, rfl, rfl, _, rfl, ite2 (fun c2 => ?_) (fun c2 => ?_)⟩
    · have c2 := of_decide_eq_true c2
      refine bad ?_ _ (.inl rfl) _ s1
      rw [ep, if_neg (by omega)]
    have c2 : ¬ ((i : Int) > (j : Int)) := fun z => c2 (decide_eq_true z)
    have h1 := hall.same s1
    obtain ⟨dx, hp⟩ := h1.ins
    refine ⟨_, rfl, p, dx, _, rfl, hp, hf_no _ _ (by decide +kernel) (by decide +kernel), ?_⟩
    refine ⟨_, rfl, q, _, _, _, rfl, rfl, SqL.of hq, atI_nat (j := 0) g0, a, rfl, by omega, fun na => (by rw [hi] at na; cases na), fun i' hi' => ?_⟩
    have ei : i = i' := by
      rw [hi] at hi'
      exact Option.some.inj hi'
    subst ei
    refine ⟨_, rfl, q, _, _, _, rfl, rfl, SqL.of hq, atI_nat (j := 1) g1, b, rfl, by omega, fun na => (by rw [hj] at na; cases na), fun j' hj' => ?_⟩
    have ej : j = j' := by
      rw [hj] at hj'
      exact Option.some.inj hj'
    subst ej
    refine ⟨p, d, n, L, (i : Int), (j : Int), rfl, h1, fun b0 => ?_, fun g1 g2 e => ?_, fun i' j' ei ej hi' hj' nij m H2 s2 => ?_, fun i' j' ei ej hi' hj' nij m H2 k2 hall2 => ?_⟩
    · refine bad ?_ _ (.inr (.inl rfl)) _ s1
      rw [ep, if_neg]
      rintro ⟨c3, c4, _⟩
      exact b0 ⟨isG.of (by omega), isG.of c4⟩
    · refine bad ?_ _ (.inr (.inr (.inl rfl))) _ s1
      rw [ep, if_neg (by omega)]
    · have e1 : i = i' := by omega
      have e2 : j = j' := by omega
      subst e1
      subst e2
      rw [nrm_lt (by omega)] at m
      refine bad ?_ _ (.inr (.inr (.inr rfl))) _ (s1.trans s2)
      rw [ep, if_neg (fun z => z.2.2 m)]
    · have e1 : i = i' := by omega
      have e2 : j = j' := by omega
      subst e1
      subst e2
      rw [nrm_lt (by omega)] at m hall2
      refine good (i, j) ?_ _ (fun b o nb e => k2 b o nb (s1 b o e)) hall2
      rw [ep, if_pos ⟨by omega, hj', m⟩]
theorem sc_read : FnScope ["text", "lines", "words", "hall", "line"] ["text"] (defScope st_read) := ⟨rfl, rfl, rfl, by decide +kernel, rfl, by decide +kernel, by decide +kernel⟩
theorem ok_read {f : Addr} {fd : FuncData} (F : Fun K "read" "read" st_read f fd) (T : HT K mg C cNG cSG cKA cST cBH) (TN : ExcT K mg "NoText" cNT) (gHE : mg "HallError" = some (.ref cHE)) (HE : HEs K cNG cSG cKA cBH cNT cHE)
    (mkH : MakD P w K mg base (L2N.CX P w) C 1 "Hall" (spInit C cBH)) (cN : CalD P w K mg base (L2N.CX P w) 1 "number_of" (spNumberOf cNT)) (cM : CalD P w K mg base (L2N.CX P w) 5 "met" (spMetL C cNG cSG cKA cNT)) :
    FnOk P w K mg base (L2.CX P w) 6 f fd ["text"] (spRead C cNT) := by
  refine F.okX sc_read (fun vs H Q E h => ?_) (fun cdv A outer s H vs Q E hr h => ?_)
  · obtain ⟨t, rfl, _⟩ := h
    rfl
  · obtain ⟨t, rfl, lt, bad, good⟩ := h
    have sl : sizeLine = 16777216 := sizeLine_eq
    refine ⟨_, pss_cons (ps_set (i := 1) sc_read.nd rfl (Or.inl rfl) (pe_split (pv 0) pe_str))
      (pss_cons (ps_set (i := 2) sc_read.nd rfl (Or.inl rfl) (pe_split (pe_ix ix_list (pv 1) pe_int (fun _ _ => rfl)) pe_str))
      (pss_cons (ps_if (PW.pt (pw_or (pt_cmpR op_ne (pe_ix ix_list (pv 1) (pe_un un_neg pe_int) (fun _ _ => rfl)) pe_str (nomark _)) (pw_or (pt_cmpR op_lt (pe_callB call_len_seq (by rfl) T.len PySem.boot_len (pa_cons (pv 1) pa_nil)) pe_int (nomark _))
          (pw_or (pt_cmpR op_ne (pe_callB call_len_seq (by rfl) T.len PySem.boot_len (pa_cons (pv 2) pa_nil)) pe_int (nomark _)) (pw_or1 (pt_cmpR op_ne (pe_ix ix_list (pv 2) pe_int (fun _ _ => rfl)) pe_str (nomark _)))))))
        (pss_one (L2.ps_raise rfl (L2.takes_of rfl rfl rfl rfl) (L2.pmk_own PySem.F.excBase_ValueError TN.e TN.g TN.k (raises_own TN.b TN.t) rfl))) pss_nil)
      (pss_cons (L2H.ps_try_onlyX (c := .ref cHE) (Wout := fun cls d _ H => E cls d H)
          (tb := fun W => tSeq (tAsg (tMakeS C (spInit C cBH) (WE W) (tCons (tCallS (spNumberOf cNT) (WE W) (tCons (tOp (rIxL K) (tVar 2) (tC (.int 1))) tNil)) tNil)) (gName 3))
            (tFor (iList K (tSl (rSlL K) (tVar 1) (tPart (tC (.int 1))) (tPart (tUn (rU fun i => .int (-i)) (tC (.int 1)))))) (gName 4) (tDrop (tCallS (spMetL C cNG cSG cKA cNT) (WE W) (tCons (tVar 3) (tCons (tVar 4) tNil))))))
          (ts := fun _ _ _ => fun _ _ H => E (.ref cNT) none H) rfl rfl ⟨rfl, by decide, Or.inl gHE⟩ (fun hd => L2H.passesAt_of rfl hd) (L2.takes_of rfl rfl rfl rfl)
          (fun W pn xe tk _ po => pss_cons (ps_set (i := 3) sc_read.nd rfl (Or.inl rfl) (pkS mkH hr (fun σ => L2N.passAt tk σ) (pa_cons (pcS cN hr (fun σ => L2N.passAt tk σ) (pa_cons (pe_ix ix_list (pv 2) pe_int (fun _ _ => rfl)) pa_nil)) pa_nil)))
            (pss_one (ps_for po rfl (pi_list (pe_slice sl_list (pv 1) (po_some pe_int) (po_some (pe_un un_neg pe_int)))) (pg_name (i := 4) sc_read.nd rfl (Or.inl rfl)) (pss_one (ps_expr (pcS cM hr (fun σ => L2N.passAt tk σ) (pa_cons (pv 3) (pa_cons (pv 4) pa_nil))))))))
          (fun a oe cls d pn hz hf tk hot => pss_one (L2H.ps_raiseH hot tk (L2N.pmk_own PySem.F.excBase_ValueError TN.e TN.g TN.k (raises_own TN.b TN.t) rfl))))
      (pss_one (ps_ret (pv 3)))))), ?_⟩
    obtain ⟨l0, lr, els⟩ := List.exists_cons_of_ne_nil (cutC_ne 10 t)
    have l0t : l0.length ≤ t.length := cutC_part t l0 (by rw [els]; exact List.mem_cons_self)
    refine ⟨_, rfl, ⟨_, rfl⟩, SX.S t, SX.S [10], rfl, by rw [lit_nl], rfl, by rw [SX.S_len]; omega, fun q nq => ?_⟩
    rw [split_cut (by decide)]
    have s1 := same_new (.lst (sV (cutC 10 t))) nq
    have hq : upd H q (.lst (sV (cutC 10 t))) q = some (.lst (sV (cutC 10 t))) := upd_same
    show tSeq _ _ _ _ (upd H q (.lst (sV (cutC 10 t))))
    generalize upd H q (.lst (sV (cutC 10 t))) = H1 at s1 hq
    have g0 : (sV (cutC 10 t))[0]? = some (V.str (SX.S l0)) := by rw [els]; rfl
    refine ⟨_, rfl, q, _, _, _, rfl, rfl, SqL.of hq, atI_nat (j := 0) g0, ⟨_, rfl⟩, SX.S l0, SX.S [32], rfl, by rw [lit_sp], rfl, by rw [SX.S_len]; omega, fun q2 nq2 => ?_⟩
    rw [split_cut (by decide)]
    have s2 := same_new (.lst (sV (cutC 32 l0))) nq2
    have hq2 : upd H1 q2 (.lst (sV (cutC 32 l0))) q2 = some (.lst (sV (cutC 32 l0))) := upd_same
    show tSeq _ _ _ _ (upd H1 q2 (.lst (sV (cutC 32 l0))))
    generalize upd H1 q2 (.lst (sV (cutC 32 l0))) = H2 at s2 hq2
    have S2 := s1.trans s2
    have hq' := s2 _ _ hq
    have bad2 := fun e : readF t = none => bad e _ S2
    obtain ⟨pre, z, epz⟩ : ∃ pre z, cutC 10 t = pre ++ [z] := by
      rcases List.eq_nil_or_concat (cutC 10 t) with e | ⟨pre, z, e⟩
      · exact absurd e (cutC_ne 10 t)
      · exact ⟨pre, z, by rw [e, List.concat_eq_append]⟩
    have hq3 : H2 q = some (.lst (sV pre ++ [V.str (SX.S z)])) := by
      rw [hq', epz]
      unfold sV
      rw [List.map_append, List.map_append]
      rfl
    -- the text ends with a line feed, or is refused
    have ends : ∀ t', t = t' ++ [10] → pre = cutC 10 t' ∧ z = [] ∧ readF t = dueF pre := by
      intro t' e
      have e2 := epz
      rw [e, cut_end] at e2
      have e3 := List.append_inj' e2 rfl
      have e4 : z = [] := by simpa using e3.2.symm
      refine ⟨e3.1.symm, e4, ?_⟩
      unfold readF
      rw [e, List.getLast?_concat, if_pos rfl, List.dropLast_concat, e3.1]
    have none_of : (∀ t', t ≠ t' ++ [10]) → readF t = none := by
      intro h
      unfold readF
      rw [if_neg]
      intro e
      obtain ⟨t', e⟩ := List.getLast?_eq_some_iff.mp e
      exact h t' e
    refine ⟨_, rfl, _, rfl, q, _, _, _, rfl, rfl, SqL.of hq3, atI_last _ _, rfl, _, rfl, ite2 (fun c => ?_) (fun c => ?_)⟩
    · refine bad2 (none_of fun t' e => ?_)
      have := (ends t' e).2.1
      rw [this, lit_e] at c
      simp at c
    have ez : z = [] := by
      by_cases e : z = []
      · exact e
      · refine absurd ?_ c
        rw [lit_e]
        simp only [str_S, Bool.not_eq_true', decide_eq_false_iff_not]
        exact e
    subst ez
    refine ⟨_, rfl, q, _, rfl, .inl (SqL.of hq3), _, _, rfl, rfl, _, rfl, ite2 (fun c2 => ?_) (fun c2 => ?_)⟩
    · have c2 := of_decide_eq_true c2
      rw [List.length_append, sV_len, List.length_singleton] at c2
      refine bad2 (none_of fun t' e => ?_)
      have e1 := (ends t' e).1
      have e2 := List.length_pos_iff.mpr (cutC_ne 10 t')
      rw [← e1] at e2
      omega
    have c2 : ¬ (((sV pre ++ [V.str (SX.S [])]).length : Int) < 2) := fun z => c2 (decide_eq_true z)
    rw [List.length_append, sV_len, List.length_singleton] at c2
    have pne : pre ≠ [] := fun e => by
      rw [e] at c2
      exact c2 (by decide)
    obtain ⟨t', et⟩ : ∃ t', t = t' ++ [10] := by
      rcases cut_last epz with e | e
      · subst e
        rw [show cutC 10 [] = [[]] from rfl] at epz
        cases pre with
        | nil => exact absurd rfl pne
        | cons y ys =>
          injection epz with _ e
          exact absurd e (by simp)
      · exact e
    obtain ⟨e1, _, er⟩ := ends t' et
    obtain ⟨p0, pr, ep⟩ := List.exists_cons_of_ne_nil pne
    have e0 : p0 = l0 := by
      rw [els, ep] at epz
      injection epz with e _
      exact e.symm
    subst e0
    have ed : dueF pre = match headF p0 with
      | some n => pairsF n [] pr
      | none => none := by
      rw [ep]
      rfl
    rw [ed] at er
    refine ⟨_, rfl, q2, _, rfl, .inl (SqL.of hq2), rfl, _, rfl, ite2 (fun c3 => ?_) (fun c3 => ?_)⟩
    · refine bad2 ?_
      have hf : headF p0 = none := by
        unfold headF
        split
        · rename_i e
          rw [sV_len, e] at c3
          simp at c3
        · rfl
      rw [er, hf]
    have l2 : (cutC 32 p0).length = 2 := by
      rw [sV_len] at c3
      by_cases e : (cutC 32 p0).length = 2
      · exact e
      · exact absurd (by simp; omega) c3
    obtain ⟨a, b, eab⟩ : ∃ a b, cutC 32 p0 = [a, b] := by
      match cutC 32 p0, l2 with
      | [a, b], _ => exact ⟨a, b, rfl⟩
    have lb : b.length ≤ p0.length := cutC_part p0 b (by rw [eab]; simp)
    have hf : headF p0 = if a = guestsC then match numF b with
        | some n => if 1 ≤ n ∧ n ≤ 20 then some n else none
        | none => none
        else none := by
      unfold headF
      rw [eab] <;> rfl
    rw [eab] at hq2
    have w0 : (sV [a, b])[0]? = some (V.str (SX.S a)) := rfl
    have w1 : (sV [a, b])[1]? = some (V.str (SX.S b)) := rfl
    refine ⟨_, rfl, q2, _, _, _, rfl, rfl, SqL.of hq2, atI_nat (j := 0) w0, rfl, _, rfl, ite2 (fun c4 => ?_) (fun c4 => ?_)⟩
    · refine bad2 ?_
      have na : a ≠ guestsC := fun e => by
        rw [e, lit_guest] at c4
        simp at c4
      rw [er, hf, if_neg na]
    have ea : a = guestsC := by
      by_cases e : a = guestsC
      · exact e
      · refine absurd ?_ c4
        rw [lit_guest]
        simp only [str_S, Bool.not_eq_true', decide_eq_false_iff_not]
        exact e
    rw [if_pos ea] at hf
    -- the lines
    refine ⟨_, rfl, q2, _, _, _, rfl, rfl, SqL.of hq2, atI_nat (j := 1) w1, b, rfl, by omega, fun nb => ?_, fun v hv => ?_⟩
    · refine ⟨true, HE.nt, fun _ _ _ => bad2 ?_, fun z => Bool.noConfusion z⟩
      rw [er, hf, nb]
    rw [hv] at hf
    simp only at hf
    refine make_hall (z := (v : Int)) (fun b0 H3 s3 => ?_) (fun n en n1 n20 H3 x d s3' => ?_)
    · refine ⟨true, HE.bh, fun _ _ _ => bad ?_ _ (S2.trans s3), fun z => Bool.noConfusion z⟩
      rw [er, hf, if_neg (fun z => b0 ⟨by omega, by omega⟩)]
    intro nd s3 hall3
    have en : v = n := by omega
    subst en
    rw [if_pos ⟨n1, n20⟩] at hf
    rw [hf] at er
    simp only at er
    have S3 := S2.trans s3
    have nx : H x = none := S2.free s3'
    have nd' : H d = none := S2.free nd
    refine ⟨_, rfl, _, rfl, _, rfl, _, rfl, q, _, rfl, SqL.of (s3 _ _ hq3), fun q3 nq3 => ?_⟩
    have ec : cutV (sV pre ++ [V.str (SX.S [])]) (some 1) (some (-1)) = sV pr := by
      unfold cutV
      have n1' : (sV pre ++ [V.str (SX.S [])]).length = pr.length + 2 := by
        rw [List.length_append, sV_len, ep, List.length_singleton, List.length_cons]
      have a1 : HT.sIx (pr.length + 2) 0 (some 1) = 1 := by
        have := HT.sIx_nat (pr.length + 2) 0 1
        rw [show ((1 : Nat) : Int) = 1 from rfl] at this
        rw [this]
        omega
      have a2 : HT.sIx (pr.length + 2) (pr.length + 2) (some (-1)) = pr.length + 1 := by
        show (if (-1 : Int) < 0 then ((-1 : Int) + ((pr.length + 2 : Nat) : Int)).toNat else min (-1 : Int).toNat (pr.length + 2)) = pr.length + 1
        rw [if_pos (by decide)]
        omega
      rw [n1', a1, a2, ep]
      show List.take (pr.length + 1 - 1) (List.drop 1 ((V.str (SX.S p0) :: sV pr) ++ [V.str (SX.S [])])) = sV pr
      have h1 : pr.length ≤ (sV pr).length := by
        rw [sV_len]
        exact Nat.le_refl _
      rw [List.cons_append, List.drop_one, List.tail_cons, Nat.add_sub_cancel, List.take_append_of_le_length h1]
      have := sV_len pr
      rw [← this, List.take_length]
    rw [show (-(1 : Int)) = -1 from rfl, ec]
    have s4 := same_new (.lst (sV pr)) nq3
    have hq4 : upd H3 q3 (.lst (sV pr)) q3 = some (.lst (sV pr)) := upd_same
    generalize upd H3 q3 (.lst (sV pr)) = H4 at s4 hq4
    have nq3d : q3 ≠ d := (ne_of_none hall3.dic nq3).symm
    refine ⟨q3, rfl, ⟨_, SqL.of hq4⟩, for_list (K := K) (a := q3) (xs := sV pr) (fun i σ H' => ∃ (v4 : Option V) (L : List Pr), σ = [some (V.str (SX.S t)), some (V.ref q), some (V.ref q2), some (V.ref x), v4] ∧ Same H H' ∧ H' q3 = some (.lst (sV pr)) ∧ HallAt C H' x v d L ∧ readF t = pairsF v L (pr.drop i))
      ⟨none, [], rfl, S3.trans s4, hq4, hall3.same s4, by rw [er, List.drop_zero]⟩ (fun i σ H' _ ⟨_, _, _, _, e, _⟩ => SqL.of e) ?_ ?_⟩
    · rintro i u σ H5 hi ⟨v4, L, rfl, S5, h5, hall5, er5⟩
      obtain ⟨line, hl, rfl⟩ := sV_of hi
      have ll : line.length ≤ t.length := cutC_part t line (by
        rw [epz, ep]
        exact List.mem_append_left _ (List.mem_cons_of_mem _ (List.mem_of_getElem? hl)))
      rw [pairs_step hl] at er5
      refine ⟨_, rfl, _, rfl, x, d, v, L, line, rfl, hall5, by omega, fun np c0 hc H6 s6 => ?_, fun qq hqq H6 k6 hall6 => ?_⟩
      · rw [np] at er5
        refine ⟨true, ?_, fun _ _ _ => bad er5 _ (S5.trans s6), fun z => Bool.noConfusion z⟩
        rcases hc with rfl | rfl | rfl | rfl
        · exact HE.nt
        · exact HE.ng
        · exact HE.sg
        · exact HE.ka
      · rw [hqq] at er5
        exact ⟨_, _, rfl, same_keepNew S5 nd' k6, k6.at1 nq3d h5, hall6, er5⟩
    · rintro σ H5 ⟨v4, L, rfl, S5, h5, hall5, er5⟩
      rw [sV_len, List.drop_length] at er5
      exact ⟨_, rfl, good v L er5 _ x d S5 nx nd' hall5⟩
end
end KT

/-! the law's own reading: number, due -/
namespace KT
open PySem PySem.Spec PyProof.Rows L2
def numI (w : List Nat) : Int := match numF w with
  | some v => (v : Int)
  | none => -1
theorem numI_none {w : List Nat} (h : numF w = none) : numI w = -1 := by
  unfold numI
  rw [h]
theorem numI_some {w : List Nat} {v : Nat} (h : numF w = some v) : numI w = (v : Int) := by
  unfold numI
  rw [h]
theorem numI_nat {w : List Nat} (h : 0 ≤ numI w) : ∃ v : Nat, numF w = some v ∧ numI w = (v : Int) := by
  cases e : numF w with
  | none =>
    rw [numI_none e] at h
    exact absurd h (by decide)
  | some v => exact ⟨v, rfl, numI_some e⟩
theorem cut_sV (l : List (List Nat)) {k : Nat} (h : k ≤ l.length) : cutV (sV l) (some (k : Int)) none = sV (l.drop k) := by
  unfold cutV
  rw [HT.sIx_nat, HT.sIx_none, sV_len, Nat.min_eq_left h]
  unfold sV
  rw [← List.map_drop, ← List.map_drop, ← List.map_take, ← List.map_take]
  congr 2
  rw [← List.length_drop, List.take_length]
def spNumL : Sp := fun vs H Q _ => ∃ w : List Nat, vs = [.str (SX.S w)] ∧ w.length ≤ 1000000 ∧ Q (.int (numI w)) H
def spDueL : Sp := fun vs H Q _ => ∃ (l : Addr) (ls : List (List Nat)), vs = [.ref l] ∧ H l = some (.lst (sV ls)) ∧ ls ≠ [] ∧ (∀ x ∈ ls, x.length ≤ 900000) ∧ (dueF ls = none → ∀ H', Same H H' → Q .non H') ∧
  (∀ n L, dueF ls = some (n, L) → ∀ H' t l2, Same H H' → H' t = some (.tup [.int (n : Int), .ref l2]) → PairsAt H' l2 L → WF n L → n ≤ 20 → Q (.ref t) H')
section
variable {P : Program} {w : World} {K : PySem.W.Frag} {mg : Str → Option Value} {base : Heap}
theorem sc_lnumber : FnScope ["word", "sign"] ["word"] (defScope st_l_number) := ⟨rfl, rfl, rfl, by decide +kernel, rfl, by decide +kernel, by decide +kernel⟩
theorem ok_lnumber {f : Addr} {fd : FuncData} (F : Fun K "_law_number" "_law_number" st_l_number f fd) (hlen : mg "len" = none) (hint : mg "int" = none) :
    FnOk P w K mg base CX0 1 f fd ["word"] spNumL := by
  refine F.ok sc_lnumber (fun vs H Q E h => ?_) (fun cdv A outer s H vs Q E hr h => ?_)
  · obtain ⟨u, rfl, _⟩ := h
    rfl
  · obtain ⟨u, rfl, lu, good⟩ := h
    refine ⟨_, pss_cons (ps_join (ps_if (PW.pt (pw_or (pt_cmpR op_lt (pe_callB call_len_str (by rfl) hlen PySem.boot_len (pa_cons (pv 0) pa_nil)) pe_int (nomark _)) (pw_or (pt_cmpR op_gt (pe_callB call_len_str (by rfl) hlen PySem.boot_len (pa_cons (pv 0) pa_nil)) pe_int (nomark _))
        (pw_or1 (PW.pt (pw_and (pt_cmpR op_eq (pe_callB call_len_str (by rfl) hlen PySem.boot_len (pa_cons (pv 0) pa_nil)) pe_int (nomark _)) (pw_and1 (pt_cmpR op_eq (pe_ix ix_str (pv 0) pe_int (fun _ _ => rfl)) pe_str (nomark _))))))))) (pss_one (ps_ret (pe_un un_neg pe_int))) pss_nil))
      (pss_cons (ps_for PassesOwn.never rfl (pi_str (pv 0)) (pg_name (i := 1) sc_lnumber.nd rfl (Or.inl rfl)) (pss_one (ps_if (pt_cmpR op_notIn_sign (pv 1) pe_str (by rfl)) (pss_one (ps_ret (pe_un un_neg pe_int))) pss_nil)))
      (pss_one (ps_ret (pe_callTy call_int_str (by rfl) hint (by decide +kernel) (pa_cons (pv 0) pa_nil))))), ?_⟩
    have sl : sizeLine = 16777216 := sizeLine_eq
    have zl : (SX.S u).length = u.length := SX.S_len u
    have zle : (SX.S u).length ≤ sizeLine := by rw [zl]; omega
    have bad : numF u = none → Q (.int (-1)) H := fun e => by
      rw [numI_none e] at good
      exact good
    refine ⟨fun σ' H' => σ' = [some (V.str (SX.S u)), none] ∧ H' = H ∧ ¬ (u.length = 0 ∨ 2 < u.length ∨ (u.head? = some 48 ∧ 1 < u.length)), ?_, ?_⟩
    · refine ⟨_, rfl, _, rfl, zle, _, _, rfl, rfl, _, rfl, ite2 (fun c => ?_) (fun c => ?_)⟩
      · have c := of_decide_eq_true c
        rw [zl] at c
        refine ⟨_, rfl, bad ?_⟩
        unfold numF
        exact if_pos (.inl (by omega))
      have c : ¬ (((SX.S u).length : Int) < 1) := fun z => c (decide_eq_true z)
      rw [zl] at c
      refine ⟨_, rfl, _, rfl, zle, _, _, rfl, rfl, _, rfl, ite2 (fun c2 => ?_) (fun c2 => ?_)⟩
      · have c2 := of_decide_eq_true c2
        rw [zl] at c2
        refine ⟨_, rfl, bad ?_⟩
        unfold numF
        exact if_pos (.inr (.inl (by omega)))
      have c2 : ¬ (((SX.S u).length : Int) > 2) := fun z => c2 (decide_eq_true z)
      rw [zl] at c2
      obtain ⟨x, u', eu⟩ := List.exists_cons_of_ne_nil (show u ≠ [] from fun e => by rw [e] at c; exact c (by decide))
      have hx : (SX.S u).cps.toList[0]? = some x := by
        show u.toArray.toList[0]? = some x
        rw [eu]
        rfl
      have hd : u.head? = some x := by rw [eu]; rfl
      refine ⟨_, rfl, _, rfl, zle, rfl, _, rfl, ite2 (fun c4 => ?_) (fun c4 => ?_)⟩
      · have c4 := V.int.inj (of_decide_eq_true c4)
        rw [zl] at c4
        refine ⟨_, rfl, _, _, _, rfl, rfl, zle, atI_nat (j := 0) hx, rfl, _, rfl, ite2 (fun c3 => ?_) (fun c3 => ?_)⟩
        · have c3 := of_decide_eq_true c3
          rw [one_S, lit_0, str_S] at c3
          have x48 : x = 48 := by simpa using c3
          refine ⟨_, rfl, bad ?_⟩
          unfold numF
          exact if_pos (.inr (.inr ⟨by rw [hd, x48], by omega⟩))
        · refine ⟨rfl, rfl, ?_⟩
          have nx : x ≠ 48 := fun e => c3 (decide_eq_true (by rw [e, one_S, lit_0]))
          rintro (e | e | ⟨e, _⟩)
          · omega
          · omega
          · rw [hd] at e
            exact nx (Option.some.inj e)
      · have c4 : ¬ ((SX.S u).length : Int) = 2 := fun z => c4 (decide_eq_true (congrArg V.int z))
        rw [zl] at c4
        exact ⟨rfl, rfl, by omega⟩
    rintro σ' H' ⟨rfl, rfl, nb⟩
    refine ⟨_, rfl, _, rfl, for_str (x := SX.S u) (fun i σ H'' => ∃ v1, σ = [some (V.str (SX.S u)), v1] ∧ H'' = H' ∧ ∀ c ∈ u.take i, 48 ≤ c ∧ c ≤ 57) ⟨none, rfl, rfl, fun c hc => by simp at hc⟩ ?_ ?_⟩
    · rintro i c σ H1 hc ⟨v1, rfl, rfl, k⟩
      rw [S_at] at hc
      refine ⟨_, rfl, c, _, rfl, rfl, _, rfl, ?_⟩
      rw [lit_figs]
      refine ite2 (fun d => ?_) (fun d => ?_)
      · refine ⟨_, rfl, bad (not_fig (List.mem_of_getElem? hc) fun z => ?_)⟩
        have m : c ∈ [48, 49, 50, 51, 52, 53, 54, 55, 56, 57] := by
          simp only [List.mem_cons, List.not_mem_nil, or_false]
          omega
        rw [decide_eq_true m] at d
        cases d
      · refine ⟨_, rfl, rfl, forall_take hc k ?_⟩
        by_cases m : c ∈ [48, 49, 50, 51, 52, 53, 54, 55, 56, 57]
        · simp only [List.mem_cons, List.not_mem_nil, or_false] at m
          omega
        · rw [decide_eq_false m] at d
          exact absurd rfl d
    · rintro σ H1 ⟨v1, rfl, rfl, k⟩
      rw [S_size, List.take_length] at k
      have al : u.all (fun c => decide (48 ≤ c) && decide (c ≤ 57)) = true := List.all_eq_true.mpr fun c hc => by
        have := k c hc
        simp [this.1, this.2]
      have ne : u ≠ [] := fun e => nb (.inl (by rw [e]; rfl))
      have l2 : u.length ≤ 2 := by omega
      have e : numF u = some (NumText.digitsVal u) := by
        unfold numF
        rw [if_neg nb, if_pos al]
      rw [numI_some e] at good
      exact ⟨_, rfl, SX.S u, _, rfl, SX.int_S al ne (by omega), by rw [zl]; omega, good⟩
theorem sc_ldue : FnScope ["lines", "words", "many", "pairs", "line", "two", "word"] ["lines"] (defScope st_l_due) := ⟨rfl, rfl, rfl, by decide +kernel, rfl, by decide +kernel, by decide +kernel⟩
theorem ok_ldue {f : Addr} {fd : FuncData} (F : Fun K "_law_due" "_law_due" st_l_due f fd) (hlen : mg "len" = none) (cN : CalD P w K mg base CX0 1 "_law_number" spNumL) :
    FnOk P w K mg base CX0 2 f fd ["lines"] spDueL := by
  refine F.ok sc_ldue (fun vs H Q E h => ?_) (fun cdv A outer s H vs Q E hr h => ?_)
  · obtain ⟨l, ls, rfl, _⟩ := h
    rfl
  · obtain ⟨l, ls, rfl, hl, lne, ll, bad, good⟩ := h
    have sl : sizeLine = 16777216 := sizeLine_eq
    refine ⟨_, pss_cons (ps_if (pt_cmpR op_eq (pe_callB call_len_seq (by rfl) hlen PySem.boot_len (pa_cons (pv 0) pa_nil)) pe_int (nomark _)) (pss_one (ps_ret pe_non)) pss_nil)
      (pss_cons (ps_set (i := 1) sc_ldue.nd rfl (Or.inl rfl) (pe_split (pe_ix ix_list (pv 0) pe_int (fun _ _ => rfl)) pe_str))
      (pss_cons (ps_if (PW.pt (pw_or (pt_cmpR op_ne (pe_callB call_len_seq (by rfl) hlen PySem.boot_len (pa_cons (pv 1) pa_nil)) pe_int (nomark _)) (pw_or (pt_cmpR op_ne (pe_ix ix_list (pv 1) pe_int (fun _ _ => rfl)) pe_str (nomark _))
          (pw_or1 (pt_not (pt_chain op_le op_le pe_int (pc cN hr pass0 (pa_cons (pe_ix ix_list (pv 1) pe_int (fun _ _ => rfl)) pa_nil)) pe_int)))))) (pss_one (ps_ret pe_non)) pss_nil)
      (pss_cons (ps_set (i := 2) sc_ldue.nd rfl (Or.inl rfl) (pc cN hr pass0 (pa_cons (pe_ix ix_list (pv 1) pe_int (fun _ _ => rfl)) pa_nil)))
      (pss_cons (ps_set (i := 3) sc_ldue.nd rfl (Or.inl rfl) (pe_lst pa_nil))
      (pss_cons (ps_for PassesOwn.never rfl (pi_list (pe_slice sl_list (pv 0) (po_some pe_int) po_none)) (pg_name (i := 4) sc_ldue.nd rfl (Or.inl rfl))
        (pss_cons (ps_setLc (i := 5) (own := [("word", 6)]) (g := gName 6) (tt := tYes) (by rfl) sc_ldue.nd rfl rfl (sw_true rfl rfl rfl (by decide +kernel))
            (pi_list (pe_split (pv 4) pe_str)) (blkOk_by (own := [("word", 6)]) (N := ["lines", "words", "many", "pairs", "line", "two", "word"]) (sc := defScope st_l_due) (by decide +kernel))
            (fun _ _ _ _ _ => pg_name (i := 6) sc_ldue.nd rfl (Or.inl rfl)) (fun _ _ _ _ _ => pts_nil) (fun _ _ _ _ _ => pc cN hr pass0 (pa_cons (pv 6) pa_nil)))
        (pss_cons (ps_if (PW.pt (pw_or (pt_cmpR op_ne (pe_callB call_len_seq (by rfl) hlen PySem.boot_len (pa_cons (pv 5) pa_nil)) pe_int (nomark _))
            (pw_or (pt_not (pt_chain3 op_le op_lt op_lt pe_int (pe_ix ix_list (pv 5) pe_int (fun _ _ => rfl)) (pe_ix ix_list (pv 5) pe_int (fun _ _ => rfl)) (pv 2)))
            (pw_or1 (pt_cmpR (op_inD (hu65 hr)) (pe_tup (pa_cons (pe_ix ix_list (pv 5) pe_int (fun _ _ => rfl)) (pa_cons (pe_ix ix_list (pv 5) pe_int (fun _ _ => rfl)) pa_nil))) (pv 3) (by rfl)))))) (pss_one (ps_ret pe_non)) pss_nil)
        (pss_one (ps_expr (pe_bm PySem.F.plainAttrs_list PySem.F.slot_list_append PySem.F.type_list_append mt_append (pv 3) (pa_cons (pe_tup (pa_cons (pe_ix ix_list (pv 5) pe_int (fun _ _ => rfl)) (pa_cons (pe_ix ix_list (pv 5) pe_int (fun _ _ => rfl)) pa_nil))) pa_nil)))))))
      (pss_one (ps_ret (pe_tup (pa_cons (pv 2) (pa_cons (pv 3) pa_nil)))))))))), ?_⟩
    obtain ⟨p0, pr, ep⟩ := List.exists_cons_of_ne_nil lne
    subst ep
    refine ⟨_, rfl, l, _, rfl, .inl (SqL.of hl), rfl, _, rfl, ite2 (fun c => ?_) (fun _ => ?_)⟩
    · rw [sV_len] at c
      simp at c
      omega
    have lp : p0.length ≤ 900000 := ll p0 (by simp)
    have g0 : (sV (p0 :: pr))[0]? = some (V.str (SX.S p0)) := rfl
    refine ⟨_, rfl, l, _, _, _, rfl, rfl, SqL.of hl, atI_nat (j := 0) g0, ⟨_, rfl⟩, SX.S p0, SX.S [32], rfl, by rw [lit_sp], rfl, by rw [SX.S_len]; omega, fun q2 nq2 => ?_⟩
    rw [split_cut (by decide)]
    have s2 := same_new (.lst (sV (cutC 32 p0))) nq2
    have hq2 : upd H q2 (.lst (sV (cutC 32 p0))) q2 = some (.lst (sV (cutC 32 p0))) := upd_same
    show tSeq _ _ _ _ (upd H q2 (.lst (sV (cutC 32 p0))))
    generalize upd H q2 (.lst (sV (cutC 32 p0))) = H2 at s2 hq2
    have er : dueF (p0 :: pr) = match headF p0 with
      | some n => pairsF n [] pr
      | none => none := rfl
    have bad2 := fun e : dueF (p0 :: pr) = none => bad e _ s2
    refine ⟨_, rfl, q2, _, rfl, .inl (SqL.of hq2), rfl, _, rfl, ite2 (fun c3 => ?_) (fun c3 => ?_)⟩
    · refine bad2 ?_
      have hf : headF p0 = none := by
        unfold headF
        split
        · rename_i e
          rw [sV_len, e] at c3
          simp at c3
        · rfl
      rw [er, hf]
    have l2 : (cutC 32 p0).length = 2 := by
      rw [sV_len] at c3
      by_cases e : (cutC 32 p0).length = 2
      · exact e
      · exact absurd (by simp; omega) c3
    obtain ⟨a, b, eab⟩ : ∃ a b, cutC 32 p0 = [a, b] := by
      match cutC 32 p0, l2 with
      | [a, b], _ => exact ⟨a, b, rfl⟩
    have lb : b.length ≤ p0.length := cutC_part p0 b (by rw [eab]; simp)
    have hf : headF p0 = if a = guestsC then match numF b with
        | some n => if 1 ≤ n ∧ n ≤ 20 then some n else none
        | none => none
        else none := by
      unfold headF
      rw [eab] <;> rfl
    rw [eab] at hq2
    have w0 : (sV [a, b])[0]? = some (V.str (SX.S a)) := rfl
    have w1 : (sV [a, b])[1]? = some (V.str (SX.S b)) := rfl
    refine ⟨_, rfl, q2, _, _, _, rfl, rfl, SqL.of hq2, atI_nat (j := 0) w0, rfl, _, rfl, ite2 (fun c4 => ?_) (fun c4 => ?_)⟩
    · refine bad2 ?_
      have na : a ≠ guestsC := fun e => by
        rw [e, lit_guest] at c4
        simp at c4
      rw [er, hf, if_neg na]
    have ea : a = guestsC := by
      by_cases e : a = guestsC
      · exact e
      · refine absurd ?_ c4
        rw [lit_guest]
        simp only [str_S, Bool.not_eq_true', decide_eq_false_iff_not]
        exact e
    rw [if_pos ea] at hf
    -- how many
    have small : ¬ (1 ≤ numI b ∧ numI b ≤ 20) → dueF (p0 :: pr) = none := fun nb => by
      rw [er, hf]
      cases e : numF b with
      | none => rfl
      | some v =>
        rw [numI_some e] at nb
        simp only
        rw [if_neg (fun z => nb ⟨by omega, by omega⟩)]
    refine ⟨_, rfl, q2, _, _, _, rfl, rfl, SqL.of hq2, atI_nat (j := 1) w1, b, rfl, by omega, _, _, rfl, rfl, _, rfl, ite2 (fun c5 => ?_) (fun c5 => ?_)⟩
    case refine_2 =>
      refine ⟨false, rfl, ?_⟩
      refine iteT (bad2 (small fun z => c5 (decide_eq_true z.1)))
    have c5 := of_decide_eq_true c5
    refine ⟨_, _, rfl, rfl, _, rfl, ite2 (fun c6 => ?_) (fun c6 => ?_)⟩
    · refine bad2 (small fun z => ?_)
      rw [decide_eq_true z.2] at c6
      cases c6
    have c6 : numI b ≤ 20 := by
      by_cases e : numI b ≤ 20
      · exact e
      · exact absurd (by rw [decide_eq_false e]; rfl) c6
    obtain ⟨n, hn, en⟩ := numI_nat (w := b) (by omega)
    rw [hn] at hf
    simp only at hf
    rw [en] at c5 c6
    have n20 : n ≤ 20 := by omega
    rw [if_pos ⟨by omega, n20⟩] at hf
    rw [hf] at er
    simp only at er
    refine ⟨_, rfl, q2, _, _, _, rfl, rfl, SqL.of hq2, atI_nat (j := 1) w1, b, rfl, by omega, ?_⟩
    rw [en]
    refine ⟨Nat.zero_le _, fun m0 nm0 => ?_⟩
    have s3 := same_new (.lst []) nm0
    have hm0 : upd H2 m0 (.lst []) m0 = some (.lst []) := upd_same
    generalize upd H2 m0 (.lst []) = H3 at s3 hm0
    have nm : H m0 = none := s2.free nm0
    have S3 := s2.trans s3
    refine ⟨_, rfl, _, rfl, l, _, rfl, SqL.of (S3 _ _ hl), fun q3 nq3 => ?_⟩
    have ec : cutV (sV (p0 :: pr)) (some 1) none = sV pr := cut_sV (p0 :: pr) (k := 1) (by simp)
    rw [ec]
    have s4 := same_new (.lst (sV pr)) nq3
    have hq4 : upd H3 q3 (.lst (sV pr)) q3 = some (.lst (sV pr)) := upd_same
    have n34 : q3 ≠ m0 := (ne_of_none hm0 nq3).symm
    have hm4 := s4 _ _ hm0
    generalize upd H3 q3 (.lst (sV pr)) = H4 at s4 hq4 hm4
    refine ⟨q3, rfl, ⟨_, SqL.of hq4⟩, for_list (K := K) (a := q3) (xs := sV pr) (fun i σ H' => ∃ (v4 v5 : Option V) (L : List Pr) (xs : List V), σ = [some (V.ref l), some (V.ref q2), some (V.int (n : Int)), some (V.ref m0), v4, v5, none] ∧ Same H H' ∧ H' q3 = some (.lst (sV pr)) ∧ H' m0 = some (.lst xs) ∧ PairVs H' xs L ∧ WF n L ∧ dueF (p0 :: pr) = pairsF n L (pr.drop i))
      ⟨none, none, [], [], rfl, S3.trans s4, hq4, hm4, .nil, WF.nil n, by rw [er, List.drop_zero]⟩ (fun i σ H' _ ⟨_, _, _, _, _, _, e, _⟩ => SqL.of e) ?_ ?_⟩
    · rintro i u σ H5 hi ⟨v4, v5, L, xs, rfl, S5, h5, hm5, r5, wf5, er5⟩
      obtain ⟨line, hli, rfl⟩ := sV_of hi
      have lli : line.length ≤ 900000 := ll line (List.mem_cons_of_mem _ (List.mem_of_getElem? hli))
      rw [pairs_step hli] at er5
      have none5 : pairF n L line = none → ∀ H', Same H H' → Q .non H' := fun e H' s' => bad (by rw [er5, e]) H' s'
      refine ⟨_, rfl, ⟨_, rfl⟩, SX.S line, SX.S [32], rfl, by rw [lit_sp], rfl, by rw [SX.S_len]; omega, fun q6 nq6 => ?_⟩
      rw [split_cut (by decide)]
      have s6 := same_new (.lst (sV (cutC 32 line))) nq6
      have h6 : upd H5 q6 (.lst (sV (cutC 32 line))) q6 = some (.lst (sV (cutC 32 line))) := upd_same
      have wl := cutC_len 32 line
      refine ⟨q6, rfl, ⟨_, SqL.of h6⟩, fun D hD => ?_⟩
      refine lc_list (K := K) (a := q6) (xs := sV (cutC 32 line)) (fun j H' => Same (upd H5 q6 (.lst (sV (cutC 32 line)))) H' ∧ H' D = some (.lst ((((cutC 32 line).take j).map numI).map V.int))) ⟨same_new _ hD, upd_same⟩ (fun j H' _ ⟨s7, _⟩ => SqL.of (s7 _ _ h6)) ?_ ?_
      · rintro j v H7 hj ⟨s7, h7⟩
        obtain ⟨wd, hw, rfl⟩ := sV_of hj
        have wdl := cutC_part line wd (List.mem_of_getElem? hw)
        have jl := (List.getElem?_eq_some_iff.mp hw).1
        refine ⟨rfl, yes_ite ?_⟩
        refine ⟨_, rfl, wd, rfl, by omega, _, h7, ?_, same_keepNew s7 hD (Keep.put D _), ?_⟩
        · rw [List.length_map, List.length_map]
          have := List.length_take_le' j (cutC 32 line)
          omega
        · rw [upd_same, take_more hw, List.map_append, List.map_append]
          rfl
      · rintro H7 ⟨s7, h7⟩
        rw [sV_len, List.take_length] at h7
        have s57 := s6.trans s7
        have S7 := S5.trans s57
        have hm7 := s57 _ _ hm5
        have r7 := r5.keep fun b ys z => s57 _ _ z
        refine ⟨_, rfl, D, _, rfl, .inl (SqL.of h7), rfl, _, rfl, ite2 (fun c => ?_) (fun c => ?_)⟩
        · refine none5 (pairF_words fun e => ?_) _ S7
          rw [List.length_map, List.length_map, e] at c
          simp at c
        have l2 : (cutC 32 line).length = 2 := by
          rw [List.length_map, List.length_map] at c
          by_cases e : (cutC 32 line).length = 2
          · exact e
          · exact absurd (by simp; omega) c
        obtain ⟨a, b, eab⟩ : ∃ a b, cutC 32 line = [a, b] := by
          match cutC 32 line, l2 with
          | [a, b], _ => exact ⟨a, b, rfl⟩
        rw [eab] at h7
        have k0 : (([a, b].map numI).map V.int)[0]? = some (V.int (numI a)) := rfl
        have k1 : (([a, b].map numI).map V.int)[1]? = some (V.int (numI b)) := rfl
        have none6 : ¬ (0 ≤ numI a ∧ numI a < numI b ∧ numI b < (n : Int)) → Q .non H7 := fun nc => by
          refine none5 ?_ _ S7
          cases ha : numF a with
          | none => exact pairF_a eab ha
          | some i' =>
            cases hb : numF b with
            | none => exact pairF_b eab hb
            | some j' =>
              rw [pairF_of eab ha hb, if_neg]
              rintro ⟨z1, z2, _⟩
              refine nc ?_
              rw [numI_some ha, numI_some hb]
              omega
        refine ⟨_, rfl, D, _, _, _, rfl, rfl, SqL.of h7, atI_nat (j := 0) k0, _, _, rfl, rfl, _, rfl, ite2 (fun d1 => ?_) (fun d1 => ?_)⟩
        case refine_2 =>
          refine ⟨false, rfl, iteT (none6 fun z => d1 (decide_eq_true z.1))⟩
        have d1 := of_decide_eq_true d1
        refine ⟨_, rfl, D, _, _, _, rfl, rfl, SqL.of h7, atI_nat (j := 1) k1, _, _, rfl, rfl, _, rfl, ite2 (fun d2 => ?_) (fun d2 => ?_)⟩
        case refine_2 =>
          refine ⟨false, rfl, iteT (none6 fun z => d2 (decide_eq_true z.2.1))⟩
        have d2 := of_decide_eq_true d2
        refine ⟨_, rfl, _, _, rfl, rfl, _, rfl, ite2 (fun d3 => ?_) (fun d3 => ?_)⟩
        · refine none6 fun z => ?_
          rw [decide_eq_true z.2.2] at d3
          cases d3
        have d3 : numI b < (n : Int) := by
          by_cases e : numI b < (n : Int)
          · exact e
          · exact absurd (by rw [decide_eq_false e]; rfl) d3
        obtain ⟨i', hi', ei'⟩ := numI_nat (w := a) d1
        obtain ⟨j', hj', ej'⟩ := numI_nat (w := b) (by omega)
        have pf := pairF_of (n := n) (L := L) eab hi' hj'
        rw [ei', ej'] at d2
        rw [ej'] at d3
        rw [ei'] at k0
        rw [ej'] at k1
        refine ⟨_, rfl, D, _, _, _, rfl, rfl, SqL.of h7, atI_nat (j := 0) k0, _, rfl, D, _, _, _, rfl, rfl, SqL.of h7, atI_nat (j := 1) k1, (by show 2 ≤ sizeLine; decide), fun t ht => ?_⟩
        have st := same_new (.tup [V.int (i' : Int), V.int (j' : Int)]) ht
        have tv : PairV (upd H7 t (.tup [V.int (i' : Int), V.int (j' : Int)])) (.ref t) (i', j') := ⟨t, rfl, upd_same⟩
        have p7 : PairsAt (upd H7 t (.tup [V.int (i' : Int), V.int (j' : Int)])) m0 L := ⟨xs, st _ _ hm7, r7.keep fun b ys z => st _ _ z⟩
        refine ⟨_, rfl, pD (i', j'), L.map pD, tv.dp, p7.dp, pD_shaped _, pDs_shaped _, _, rfl, ?_⟩
        rw [any_pD]
        have h8 := st _ _ h7
        have hm8 := st _ _ hm7
        have r8 := r7.keep fun b ys z => st _ _ z
        have S8 := S7.trans st
        have h58 := st _ _ (s57 _ _ h5)
        generalize upd H7 t (.tup [V.int (i' : Int), V.int (j' : Int)]) = H8 at h8 hm8 r8 S8 h58
        refine ite2 (fun d4 => ?_) (fun d4 => ?_)
        · refine none5 ?_ _ S8
          rw [pf, if_neg (fun z => z.2.2 (of_decide_eq_true d4))]
        have nin : (i', j') ∉ L := fun m => d4 (decide_eq_true m)
        have pf2 : pairF n L line = some (i', j') := by
          rw [pf, if_pos ⟨by omega, by omega, nin⟩]
        rw [pf2] at er5
        simp only at er5
        have len8 : xs.length ≤ 400 := by
          rw [Paired.length r5]
          exact wf5.len n20
        refine ⟨_, rfl, .inl ⟨rfl, _, SqL.of hm8⟩, _, rfl, D, _, _, _, rfl, rfl, SqL.of h8, atI_nat (j := 0) k0, _, rfl, D, _, _, _, rfl, rfl, SqL.of h8, atI_nat (j := 1) k1, (by show 2 ≤ sizeLine; decide), fun t2 ht2 => ?_⟩
        have nmt : m0 ≠ t2 := ne_of_none hm8 ht2
        refine ⟨m0, xs, _, rfl, rfl, (by rw [upd_ne nmt]; exact hm8), Nat.lt_of_le_of_lt len8 (by decide), ?_⟩
        have st2 := same_new (.tup [V.int (i' : Int), V.int (j' : Int)]) ht2
        refine ⟨_, _, L ++ [(i', j')], xs ++ [.ref t2], rfl, same_keepNew (S8.trans st2) nm (Keep.put m0 _), ?_, upd_same, ?_, wf5.snoc ⟨by show i' < j'; omega, by show j' < n; omega⟩ nin, er5⟩
        · rw [upd_ne n34]
          exact st2 _ _ h58
        · refine PairVs.snoc (r8.keep fun b ys z => ?_) ⟨t2, rfl, ?_⟩
          · rw [upd_ne (ne_of z hm8 (fun z => nomatch z))]
            exact st2 _ _ z
          · rw [upd_ne nmt.symm, upd_same]
    · rintro σ H5 ⟨v4, v5, L, xs, rfl, S5, h5, hm5, r5, wf5, er5⟩
      rw [sV_len, List.drop_length] at er5
      refine ⟨_, rfl, _, rfl, (by show 2 ≤ sizeLine; decide), fun t ht => ?_⟩
      have st := same_new (.tup [V.int (n : Int), V.ref m0]) ht
      exact good n L er5 _ t m0 (S5.trans st) upd_same ⟨xs, st _ _ hm5, r5.keep fun b ys z => st _ _ z⟩ wf5 n20
end
end KT

/-! the law's spoiling of lines: any lines, of bounded length -/
namespace KT
open PySem PySem.Spec PyProof.Rows L2
def tV (ss : List Str) : List V := ss.map V.str
theorem tV_len (ss : List Str) : (tV ss).length = ss.length := by
  unfold tV
  rw [List.length_map]
theorem tV_of {l : List Str} {i : Nat} {v : V} (h : (tV l)[i]? = some v) : ∃ w, l[i]? = some w ∧ v = V.str w := by
  unfold tV at h
  rw [List.getElem?_map] at h
  cases e : l[i]? with
  | none =>
    rw [e] at h
    cases h
  | some w =>
    rw [e] at h
    exact ⟨w, rfl, (Option.some.inj h).symm⟩
theorem tV_at {l : List Str} {i : Nat} {w : Str} (h : l[i]? = some w) : (tV l)[i]? = some (V.str w) := by
  unfold tV
  rw [List.getElem?_map, h]
  rfl
theorem cut_tV (ss : List Str) (lo hi : Option Int) : ∃ us : List Str, cutV (tV ss) lo hi = tV us ∧ us.length ≤ ss.length ∧ ∀ s ∈ us, s ∈ ss := by
  unfold cutV tV
  rw [← List.map_drop, ← List.map_take]
  refine ⟨_, rfl, ?_, fun s hs => List.mem_of_mem_drop (List.mem_of_mem_take hs)⟩
  rw [List.length_take, List.length_drop]
  omega
theorem cut_sum (c : Nat) : ∀ t : List Nat, ((cutC c t).map List.length).sum + (cutC c t).length = t.length + 1
  | [] => rfl
  | x :: t => by
    have ih := cut_sum c t
    by_cases h : x = c
    · subst h
      rw [cutC_hit]
      simp only [List.map_cons, List.sum_cons, List.length_cons, List.length_nil]
      omega
    · obtain ⟨q, qs, e⟩ := List.exists_cons_of_ne_nil (cutC_ne c t)
      rw [cutC_miss h e]
      rw [e] at ih
      simp only [List.map_cons, List.sum_cons, List.length_cons] at ih ⊢
      omega
theorem joinL_len (s : List Nat) : ∀ ps : List (List Nat), (TL.joinL s ps).length ≤ (ps.map List.length).sum + ps.length * s.length
  | [] => Nat.zero_le _
  | [p] => by
    show p.length ≤ _
    simp only [List.map_cons, List.map_nil, List.sum_cons, List.sum_nil, List.length_cons, List.length_nil]
    omega
  | p :: q :: r => by
    have ih := joinL_len s (q :: r)
    show (p ++ (s ++ TL.joinL s (q :: r))).length ≤ _
    rw [List.length_append, List.length_append]
    simp only [List.map_cons, List.sum_cons, List.length_cons] at ih ⊢
    have e : (r.length + 1 + 1) * s.length = (r.length + 1) * s.length + s.length := Nat.succ_mul _ _
    rw [e]
    omega
theorem join_len (a : List Nat) (ys : List (List Nat)) : (Txt.join (SX.S a) (ys.map SX.S)).length ≤ (ys.map List.length).sum + ys.length * a.length := by
  rw [SX.join_S, SX.S_len]
  exact joinL_len a ys
theorem back_sum (t : List Nat) : ((cutC 32 t).reverse.map List.length).sum + (cutC 32 t).reverse.length = t.length + 1 := by
  rw [List.map_reverse, List.sum_reverse, List.length_reverse]
  exact cut_sum 32 t
theorem join_short {t : List Nat} (h : t.length ≤ 20) : (Txt.join (SX.S [32]) ((cutC 32 t).reverse.map SX.S)).length ≤ 60 := by
  refine Nat.le_trans (join_len [32] (cutC 32 t).reverse) ?_
  have b := back_sum t
  rw [List.length_singleton, Nat.mul_one]
  omega
theorem join_fits {t : List Nat} (h : t.length ≤ 20) : (((cutC 32 t).reverse.map SX.S).map (·.length)).sum + ((cutC 32 t).reverse.map SX.S).length * (SX.S [32]).length ≤ 16777216 := by
  have e : (SX.S [32]).length = 1 := rfl
  rw [SX.lens, List.length_map, e, Nat.mul_one]
  have b : ((cutC 32 t).reverse.map (fun x => x.length)).sum + (cutC 32 t).reverse.length = t.length + 1 := back_sum t
  omega
theorem sign_ix (x : Str) (hx : x.length = 94) (z : Int) {H : Hp} {Q : VK} (q : ∀ c : Nat, Q (.str ⟨#[c]⟩) H) : rIxS (.str x) (.int (z % 94)) H Q := by
  have h1 : 0 ≤ z % 94 := Int.emod_nonneg _ (by decide)
  have h2 : z % 94 < 94 := Int.emod_lt_of_pos _ (by decide)
  have hl : x.cps.toList.length = 94 := by
    rw [Array.length_toList]
    exact hx
  have hk : (z % 94).toNat < x.cps.toList.length := by
    rw [hl]
    omega
  have e : (((z % 94).toNat : Nat) : Int) = z % 94 := Int.toNat_of_nonneg h1
  refine ⟨x, z % 94, x.cps.toList[(z % 94).toNat], rfl, rfl, by rw [hx]; decide, ?_, q _⟩
  have := atI_nat (List.getElem?_eq_getElem hk)
  rw [e] at this
  exact this
def oddS : List Str := ["0 0", "1 0", "0 20", "-1 0", "00 1", "0 01", "0  1", "0 1 ", " 0 1", "0 1 2", "0", "0 1_0"]
def bad8 : List Str := ["guests 0", "guests 21", "guests 01", "guests", "guests 3 ", "Guests 3", "guest 3", "guests -1"]
def badS : List Str := ["guests 0", "guests 21", "guests 01", "guests", "guests 3 ", "Guests 3", "guest 3", "guests -1", "guests 1_0", "guests 100", "guests  3", ""]
theorem oddS_len : ∀ s ∈ oddS, s.length ≤ 60 := by decide +kernel
theorem badS_len : ∀ s ∈ badS, s.length ≤ 60 := by decide +kernel
def spSign : Sp := fun vs H Q _ => ∃ z : Int, vs = [.int z] ∧ ∀ c : Nat, Q (.str ⟨#[c]⟩) H
def spSpoiled : Sp := fun vs H Q _ => ∃ (l : Addr) (ss : List Str) (c : Int), vs = [.ref l, .int c] ∧ H l = some (.lst (tV ss)) ∧ 1 ≤ ss.length ∧ ss.length ≤ 900 ∧ (∀ s ∈ ss, s.length ≤ 20) ∧ 0 ≤ c ∧
  ∀ H' l' us, Same H H' → H' l' = some (.lst (tV us)) → us.length ≤ 2000 → (∀ s ∈ us, s.length ≤ 60) → Q (.ref l') H'
section
variable {P : Program} {w : World} {K : PySem.W.Frag} {mg : Str → Option Value} {base : Heap}
theorem sc_sign : FnScope ["cell", "some"] ["cell"] (defScope st_l_sign_by) := ⟨rfl, rfl, rfl, by decide +kernel, rfl, by decide +kernel, by decide +kernel⟩
theorem ok_sign {f : Addr} {fd : FuncData} (F : Fun K "_law_sign_by" "_law_sign_by" st_l_sign_by f fd) : FnOk P w K mg base CX0 1 f fd ["cell"] spSign := by
  refine F.ok sc_sign (fun vs H Q E h => ?_) (fun cdv A outer s H vs Q E hr h => ?_)
  · obtain ⟨z, rfl, _⟩ := h
    rfl
  · obtain ⟨z, rfl, q⟩ := h
    refine ⟨_, pss_cons (ps_set (i := 1) sc_sign.nd rfl (Or.inl rfl) pe_str)
      (pss_cons (ps_set (i := 1) sc_sign.nd rfl (Or.inl rfl) (pe_op op_add_str (pv 1) pe_str))
      (pss_one (ps_ret (pe_ix ix_str (pv 1) (pe_op op_mod (pv 0) pe_int) (fun _ _ => rfl))))), ?_⟩
    refine ⟨_, rfl, _, _, rfl, rfl, (by decide +kernel), ?_⟩
    refine ⟨_, rfl, _, rfl, _, _, rfl, rfl, (by show (0 : Int) < 94; decide), ?_⟩
    exact sign_ix _ (by decide +kernel) z q
theorem sc_spoiled : FnScope ["lines", "cell", "place", "line", "ahead", "behind", "rest", "spot", "sign", "way", "odd", "bad"] ["lines", "cell"] (defScope st_l_spoiled) := ⟨rfl, rfl, rfl, by decide +kernel, rfl, by decide +kernel, by decide +kernel⟩
theorem ok_spoiled {f : Addr} {fd : FuncData} (F : Fun K "_law_spoiled" "_law_spoiled" st_l_spoiled f fd) (hlen : mg "len" = none) (cS : CalD P w K mg base CX0 1 "_law_sign_by" spSign) :
    FnOk P w K mg base CX0 2 f fd ["lines", "cell"] spSpoiled := by
  refine F.ok sc_spoiled (fun vs H Q E h => ?_) (fun cdv A outer s H vs Q E hr h => ?_)
  · obtain ⟨l, ss, c, rfl, _⟩ := h
    rfl
  · obtain ⟨l, ss, c, rfl, hl, l1, l9, l20, c0, ret⟩ := h
    have sl : sizeLine = 16777216 := sizeLine_eq
    refine ⟨_, pss_cons (ps_set (i := 2) sc_spoiled.nd rfl (Or.inl rfl) (pe_op op_mod (pe_op op_fdiv (pv 1) pe_int) (pe_callB call_len_seq (by rfl) hlen PySem.boot_len (pa_cons (pv 0) pa_nil))))
      (pss_cons (ps_set (i := 3) sc_spoiled.nd rfl (Or.inl rfl) (pe_ix ix_list (pv 0) (pv 2) (fun _ _ => rfl)))
      (pss_cons (ps_set (i := 4) sc_spoiled.nd rfl (Or.inl rfl) (pe_slice sl_list (pv 0) po_none (po_some (pv 2))))
      (pss_cons (ps_set (i := 5) sc_spoiled.nd rfl (Or.inl rfl) (pe_slice sl_list (pv 0) (po_some (pe_op op_add (pv 2) pe_int)) po_none))
      (pss_cons (ps_set (i := 6) sc_spoiled.nd rfl (Or.inl rfl) (pe_op op_fdiv (pe_op op_fdiv (pv 1) pe_int) (pe_callB call_len_seq (by rfl) hlen PySem.boot_len (pa_cons (pv 0) pa_nil))))
      (pss_cons (ps_set (i := 7) sc_spoiled.nd rfl (Or.inl rfl) (pe_op op_mod (pv 6) (pe_op op_add (pe_callB call_len_str (by rfl) hlen PySem.boot_len (pa_cons (pv 3) pa_nil)) pe_int)))
      (pss_cons (ps_set (i := 8) sc_spoiled.nd rfl (Or.inl rfl) (pc cS hr pass0 (pa_cons (pe_op op_fdiv (pv 6) (pe_op op_add (pe_callB call_len_str (by rfl) hlen PySem.boot_len (pa_cons (pv 3) pa_nil)) pe_int)) pa_nil)))
      (pss_cons (ps_set (i := 9) sc_spoiled.nd rfl (Or.inl rfl) (pe_op op_mod (pv 1) pe_int))
      (pss_cons (ps_join (ps_set (i := 10) sc_spoiled.nd rfl (Or.inl rfl) (pe_lst (pa_cons pe_str (pa_cons pe_str (pa_cons pe_str (pa_cons pe_str (pa_cons pe_str (pa_cons pe_str (pa_cons pe_str (pa_cons pe_str (pa_cons pe_str (pa_cons pe_str (pa_cons pe_str (pa_cons pe_str pa_nil)))))))))))))))
      (pss_cons (ps_join (ps_set (i := 11) sc_spoiled.nd rfl (Or.inl rfl) (pe_lst (pa_cons pe_str (pa_cons pe_str (pa_cons pe_str (pa_cons pe_str (pa_cons pe_str (pa_cons pe_str (pa_cons pe_str (pa_cons pe_str pa_nil)))))))))))
      (pss_cons (ps_join (ps_set (i := 11) sc_spoiled.nd rfl (Or.inl rfl) (pe_op op_cat (pv 11) (pe_lst (pa_cons pe_str (pa_cons pe_str (pa_cons pe_str (pa_cons pe_str pa_nil))))))))
      (pss_cons (ps_if (pt_cmpR op_eq (pv 9) pe_int (nomark _)) (pss_one (ps_ret (pe_op op_cat (pe_op op_cat (pv 4) (pe_lst (pa_cons (pe_op op_add_str (pe_op op_add_str (pe_slice sl_str (pv 3) po_none (po_some (pv 7))) (pv 8)) (pe_slice sl_str (pv 3) (po_some (pv 7)) po_none)) pa_nil))) (pv 5)))) pss_nil)
      (pss_cons (ps_if (pt_cmpR op_eq (pv 9) pe_int (nomark _)) (pss_one (ps_ret (pe_op op_cat (pe_op op_cat (pv 4) (pe_lst (pa_cons (pe_op op_add_str (pe_op op_add_str (pe_slice sl_str (pv 3) po_none (po_some (pv 7))) (pv 8)) (pe_slice sl_str (pv 3) (po_some (pe_op op_add (pv 7) pe_int)) po_none)) pa_nil))) (pv 5)))) pss_nil)
      (pss_cons (ps_if (pt_cmpR op_eq (pv 9) pe_int (nomark _)) (pss_one (ps_ret (pe_op op_cat (pe_op op_cat (pv 4) (pe_lst (pa_cons (pe_op op_add_str (pe_slice sl_str (pv 3) po_none (po_some (pv 7))) (pe_slice sl_str (pv 3) (po_some (pe_op op_add (pv 7) pe_int)) po_none)) pa_nil))) (pv 5)))) pss_nil)
      (pss_cons (ps_if (pt_cmpR op_eq (pv 9) pe_int (nomark _)) (pss_one (ps_ret (pe_op op_cat (pe_op op_cat (pv 4) (pe_lst (pa_cons (pv 3) (pa_cons (pv 3) pa_nil)))) (pv 5)))) pss_nil)
      (pss_cons (ps_if (pt_cmpR op_eq (pv 9) pe_int (nomark _)) (pss_one (ps_ret (pe_op op_cat (pe_op op_cat (pv 4) (pe_lst (pa_cons (pe_join pe_str (pe_rev (pe_split (pv 3) pe_str) (pe_un un_neg pe_int))) pa_nil))) (pv 5)))) pss_nil)
      (pss_cons (ps_if (pt_cmpR op_eq (pv 9) pe_int (nomark _)) (pss_one (ps_ret (pe_op op_cat (pe_op op_cat (pv 4) (pe_lst (pa_cons (pv 3) (pa_cons (pe_ix ix_list (pv 10) (pe_op op_mod (pv 6) pe_int) (fun _ _ => rfl)) pa_nil)))) (pv 5)))) pss_nil)
      (pss_cons (ps_if (pt_cmpR op_eq (pv 9) pe_int (nomark _)) (pss_one (ps_ret (pe_op op_cat (pe_lst (pa_cons (pe_ix ix_list (pv 11) (pe_op op_mod (pv 6) pe_int) (fun _ _ => rfl)) pa_nil)) (pe_slice sl_list (pv 0) (po_some pe_int) po_none)))) pss_nil)
      (pss_cons (ps_if (pt_cmpR op_eq (pv 9) pe_int (nomark _)) (pss_one (ps_ret (pe_slice sl_list (pv 0) (po_some pe_int) po_none))) pss_nil)
      (pss_cons (ps_if (pt_cmpR op_eq (pv 9) pe_int (nomark _)) (pss_one (ps_ret (pe_lst pa_nil))) pss_nil)
      (pss_one (ps_ret (pe_op op_cat (pv 0) (pe_lst (pa_cons pe_str pa_nil)))))))))))))))))))))))), ?_⟩
    have nl : (tV ss).length = ss.length := tV_len ss
    have npos : (0 : Int) < ((tV ss).length : Int) := by rw [nl]; omega
    have nsm : ((tV ss).length : Int) < 1073741824 := by rw [nl]; omega
    refine ⟨_, rfl, _, _, rfl, rfl, ⟨by decide, by decide⟩, _, rfl, l, _, rfl, .inl (SqL.of hl), _, _, rfl, rfl, npos, ?_⟩
    have g1 : 0 ≤ c / 10 % ((tV ss).length : Int) := Int.emod_nonneg _ (by omega)
    have g2 : c / 10 % ((tV ss).length : Int) < ((tV ss).length : Int) := Int.emod_lt_of_pos _ npos
    obtain ⟨k, ek⟩ : ∃ k : Nat, c / 10 % ((tV ss).length : Int) = (k : Int) := ⟨_, (Int.toNat_of_nonneg g1).symm⟩
    have kl : k < ss.length := by omega
    have hk : ss[k]? = some ss[k] := List.getElem?_eq_getElem kl
    have ll : ss[k].length ≤ 20 := l20 _ (List.getElem_mem kl)
    generalize ss[k] = ln at hk ll
    dsimp only
    rw [ek]
    refine ⟨_, rfl, _, rfl, l, _, _, _, rfl, rfl, SqL.of hl, atI_nat (tV_at hk), ?_⟩
    refine ⟨_, rfl, _, rfl, _, rfl, l, _, rfl, SqL.of hl, fun a1 na1 => ?_⟩
    obtain ⟨A1, eA, lA, mA⟩ := cut_tV ss none (some (k : Int))
    rw [eA]
    have s1 := same_new (.lst (tV A1)) na1
    have ha1 : upd H a1 (.lst (tV A1)) a1 = some (.lst (tV A1)) := upd_same
    generalize upd H a1 (.lst (tV A1)) = H1 at s1 ha1
    refine ⟨_, rfl, _, rfl, _, _, rfl, rfl, _, rfl, l, _, rfl, SqL.of (s1 _ _ hl), fun b1 nb1 => ?_⟩
    obtain ⟨B1, eB, lB, mB⟩ := cut_tV ss (some ((k : Int) + 1)) none
    dsimp only
    rw [eB]
    have s2 := same_new (.lst (tV B1)) nb1
    have hb1 : upd H1 b1 (.lst (tV B1)) b1 = some (.lst (tV B1)) := upd_same
    generalize upd H1 b1 (.lst (tV B1)) = H2 at s2 hb1
    have S2 := s1.trans s2
    refine ⟨_, rfl, _, _, rfl, rfl, ⟨by decide, by decide⟩, _, rfl, l, _, rfl, .inl (SqL.of (S2 _ _ hl)), _, _, rfl, rfl, ⟨npos, nsm⟩, ?_⟩
    dsimp only
    generalize c / 10 / ((tV ss).length : Int) = r
    have lle : ln.length ≤ sizeLine := by omega
    refine ⟨_, rfl, _, rfl, _, rfl, lle, _, _, rfl, rfl, _, _, rfl, rfl, (by show (0 : Int) < (ln.length : Int) + 1; omega), ?_⟩
    dsimp only
    generalize r % ((ln.length : Int) + 1) = spt
    refine ⟨_, rfl, _, rfl, _, rfl, lle, _, _, rfl, rfl, _, _, rfl, rfl, ⟨by omega, by omega⟩, _, rfl, fun cc => ?_⟩
    have l1' : (⟨#[cc]⟩ : Str).length = 1 := rfl
    generalize (⟨#[cc]⟩ : Str) = sg at l1'
    refine ⟨_, rfl, _, _, rfl, rfl, (by show (0 : Int) < 10; decide), ?_⟩
    dsimp only
    generalize c % 10 = wy
    refine ⟨fun σ' H' => ∃ o1, σ' = [some (V.ref l), some (V.int c), some (V.int (k : Int)), some (V.str ln), some (V.ref a1), some (V.ref b1), some (V.int r), some (V.int spt), some (V.str sg), some (V.int wy), some (V.ref o1), none] ∧ Same H2 H' ∧ H' o1 = some (.lst (tV oddS)), ⟨(by show 12 ≤ sizeLine; decide), fun o1 no1 => ⟨o1, rfl, same_new _ no1, upd_same⟩⟩, ?_⟩
    rintro σ' H3 ⟨o1, rfl, s3, ho3⟩
    refine ⟨fun σ' H' => ∃ d1, σ' = [some (V.ref l), some (V.int c), some (V.int (k : Int)), some (V.str ln), some (V.ref a1), some (V.ref b1), some (V.int r), some (V.int spt), some (V.str sg), some (V.int wy), some (V.ref o1), some (V.ref d1)] ∧ Same H3 H' ∧ H' d1 = some (.lst (tV bad8)), ⟨(by show 8 ≤ sizeLine; decide), fun d1 nd1 => ⟨d1, rfl, same_new _ nd1, upd_same⟩⟩, ?_⟩
    rintro σ' H4 ⟨d1, rfl, s4, hd1⟩
    refine ⟨fun σ' H' => ∃ d3, σ' = [some (V.ref l), some (V.int c), some (V.int (k : Int)), some (V.str ln), some (V.ref a1), some (V.ref b1), some (V.int r), some (V.int spt), some (V.str sg), some (V.int wy), some (V.ref o1), some (V.ref d3)] ∧ Same H4 H' ∧ H' d3 = some (.lst (tV badS)), ⟨_, rfl, (by show 4 ≤ sizeLine; decide), fun d2 nd2 => ⟨d1, d2, _, _, rfl, rfl, same_new _ nd2 _ _ hd1, upd_same, (by show 8 + 4 ≤ sizeLine; decide), fun d3 nd3 => ⟨d3, rfl, (same_new _ nd2).trans (same_new _ nd3), upd_same⟩⟩⟩, ?_⟩
    rintro σ' H6 ⟨d3, rfl, s6, hd3⟩
    have S36 := s3.trans (s4.trans s6)
    have hl6 := S36 _ _ (S2 _ _ hl)
    have ha6 := S36 _ _ (s2 _ _ ha1)
    have hb6 := S36 _ _ hb1
    have ho6 := (s4.trans s6) _ _ ho3
    have S6 : Same H H6 := S2.trans S36
    -- ahead + X + behind
    have fin : ∀ (X : List Str) (m : Addr) (H' : Hp) (σ : L2.St), Same H6 H' → H' m = some (.lst (tV X)) → X.length ≤ 2 → (∀ s ∈ X, s.length ≤ 60) → σ[5]? = some (some (V.ref b1)) →
        rCat (.ref a1) (.ref m) H' (fun v H2 => tVar 5 σ H2 fun y H3 => rCat v y H3 Q) := by
      intro X m H' σ s' hm lX mX h5
      refine ⟨a1, m, tV A1, tV X, rfl, rfl, s' _ _ ha6, hm, by rw [tV_len, tV_len]; omega, fun p1 np1 => ?_⟩
      have sp := same_new (.lst (tV A1 ++ tV X)) np1
      refine ⟨_, h5, p1, b1, tV A1 ++ tV X, tV B1, rfl, rfl, upd_same, sp _ _ (s' _ _ hb6), by rw [List.length_append, tV_len, tV_len, tV_len]; omega, fun p2 np2 => ?_⟩
      have sp2 := same_new (.lst (tV A1 ++ tV X ++ tV B1)) np2
      refine ret _ p2 (A1 ++ X ++ B1) (S6.trans (s'.trans (sp.trans sp2))) ?_ ?_ ?_
      · rw [upd_same]
        unfold tV
        rw [List.map_append, List.map_append]
      · rw [List.length_append, List.length_append]
        omega
      · intro s hs
        rcases List.mem_append.mp hs with hs | hs
        · rcases List.mem_append.mp hs with hs | hs
          · have := l20 s (mA s hs)
            omega
          · exact mX s hs
        · have := l20 s (mB s hs)
          omega
    have one60 : ∀ x : Str, x.length ≤ 60 → ∀ s ∈ [x], s.length ≤ 60 := fun x hx s hs => by
      rw [List.mem_singleton.mp hs]
      exact hx
    have cl : ∀ lo hi, (cutS ln lo hi).length ≤ 20 := fun lo hi => Nat.le_trans (cutS_length ln lo hi) ll
    have r12 : ∀ L : List Str, L.length = 12 → (∀ s ∈ L, s.length ≤ 60) → ∃ (j : Nat) (x : Str), r % 12 = (j : Int) ∧ L[j]? = some x ∧ x.length ≤ 60 := by
      intro L hL hx
      have h1 : 0 ≤ r % 12 := Int.emod_nonneg _ (by decide)
      have h2 : r % 12 < 12 := Int.emod_lt_of_pos _ (by decide)
      have hj : (r % 12).toNat < L.length := by omega
      exact ⟨(r % 12).toNat, L[(r % 12).toNat], (Int.toNat_of_nonneg h1).symm, List.getElem?_eq_getElem hj, hx _ (List.getElem_mem hj)⟩
    refine ⟨_, rfl, rfl, _, rfl, ite2 (fun w0 => ?_) (fun _ => ?_)⟩
    · refine ⟨_, rfl, _, rfl, _, rfl, _, rfl, ln, rfl, lle, _, rfl, _, _, rfl, rfl, ?_, _, rfl, _, rfl, _, rfl, ln, rfl, lle, _, _, rfl, rfl, ?_, (by show 1 ≤ sizeLine; decide), fun m nm => ?_⟩
      · have := cl none (some spt)
        omega
      · have a1 := cl none (some spt)
        have a2 := cl (some spt) none
        rw [len_cat]
        omega
      · refine fin [_] m _ _ (same_new _ nm) upd_same (Nat.le_succ 1) (one60 _ ?_) rfl
        have a1 := cl none (some spt)
        have a2 := cl (some spt) none
        rw [len_cat, len_cat]
        omega
    refine ⟨_, rfl, rfl, _, rfl, ite2 (fun w1 => ?_) (fun _ => ?_)⟩
    · refine ⟨_, rfl, _, rfl, _, rfl, _, rfl, ln, rfl, lle, _, rfl, _, _, rfl, rfl, ?_, _, rfl, _, rfl, _, _, rfl, rfl, _, rfl, ln, rfl, lle, _, _, rfl, rfl, ?_, (by show 1 ≤ sizeLine; decide), fun m nm => ?_⟩
      · have := cl none (some spt)
        omega
      · have a1 := cl none (some spt)
        have a2 := cl (some (spt + 1)) none
        rw [len_cat]
        omega
      · refine fin [_] m _ _ (same_new _ nm) upd_same (Nat.le_succ 1) (one60 _ ?_) rfl
        have a1 := cl none (some spt)
        have a2 := cl (some (spt + 1)) none
        rw [len_cat, len_cat]
        omega
    refine ⟨_, rfl, rfl, _, rfl, ite2 (fun w2 => ?_) (fun _ => ?_)⟩
    · refine ⟨_, rfl, _, rfl, _, rfl, _, rfl, ln, rfl, lle, _, rfl, _, rfl, _, _, rfl, rfl, _, rfl, ln, rfl, lle, _, _, rfl, rfl, ?_, (by show 1 ≤ sizeLine; decide), fun m nm => ?_⟩
      · have a1 := cl none (some spt)
        have a2 := cl (some (spt + 1)) none
        omega
      · refine fin [_] m _ _ (same_new _ nm) upd_same (Nat.le_succ 1) (one60 _ ?_) rfl
        have a1 := cl none (some spt)
        have a2 := cl (some (spt + 1)) none
        rw [len_cat]
        omega
    refine ⟨_, rfl, rfl, _, rfl, ite2 (fun w3 => ?_) (fun _ => ?_)⟩
    · refine ⟨_, rfl, _, rfl, _, rfl, (by show 2 ≤ sizeLine; decide), fun m nm => ?_⟩
      refine fin [ln, ln] m _ _ (same_new _ nm) upd_same (Nat.le_refl 2) (fun s hs => ?_) rfl
      simp only [List.mem_cons, List.not_mem_nil, or_false, or_self] at hs
      rw [hs]
      omega
    refine ⟨_, rfl, rfl, _, rfl, ite2 (fun w4 => ?_) (fun _ => ?_)⟩
    · refine ⟨_, rfl, ⟨_, rfl⟩, _, rfl, ⟨_, rfl⟩, SX.S ln.cps.toList, SX.S [32], by rw [SX.S_tl], by rw [lit_sp], rfl, by rw [SX.S_len, Array.length_toList]; show ln.length + 2 ≤ _; omega, fun q nq => ?_⟩
      rw [split_cut (by decide)]
      have sq := same_new (.lst (sV (cutC 32 ln.cps.toList))) nq
      have hq : upd H6 q (.lst (sV (cutC 32 ln.cps.toList))) q = some (.lst (sV (cutC 32 ln.cps.toList))) := upd_same
      refine ⟨_, rfl, rfl, q, sV (cutC 32 ln.cps.toList), rfl, SqL.of hq, fun p np => ?_⟩
      have er : (sV (cutC 32 ln.cps.toList)).reverse = ((cutC 32 ln.cps.toList).reverse.map SX.S).map V.str := by
        unfold sV
        rw [← List.map_reverse, ← List.map_reverse]
      rw [er]
      have sp := same_new (.lst (((cutC 32 ln.cps.toList).reverse.map SX.S).map V.str)) np
      have lt : ln.cps.toList.length ≤ 20 := by
        rw [Array.length_toList]
        exact ll
      refine ⟨SX.S [32], p, (cutC 32 ln.cps.toList).reverse.map SX.S, by rw [lit_sp], rfl, .inl (SqL.of upd_same), join_fits lt, (by show 1 ≤ sizeLine; decide), fun m nm => ?_⟩
      exact fin [Txt.join (SX.S [32]) ((cutC 32 ln.cps.toList).reverse.map SX.S)] m _ _ (sq.trans (sp.trans (same_new _ nm))) upd_same (Nat.le_succ 1) (one60 _ (join_short lt)) rfl
    refine ⟨_, rfl, rfl, _, rfl, ite2 (fun w5 => ?_) (fun _ => ?_)⟩
    · obtain ⟨j, x, ej, hx, lx⟩ := r12 oddS rfl oddS_len
      refine ⟨_, rfl, _, rfl, _, rfl, _, rfl, _, _, rfl, rfl, (by show (0 : Int) < 12; decide), ?_⟩
      dsimp only
      rw [ej]
      refine ⟨o1, _, _, _, rfl, rfl, SqL.of ho6, atI_nat (tV_at hx), (by show 2 ≤ sizeLine; decide), fun m nm => ?_⟩
      refine fin [ln, x] m _ _ (same_new _ nm) upd_same (Nat.le_refl 2) (fun s hs => ?_) rfl
      simp only [List.mem_cons, List.not_mem_nil, or_false] at hs
      rcases hs with rfl | rfl
      · omega
      · exact lx
    obtain ⟨B2, eB2, lB2, mB2⟩ := cut_tV ss (some 1) none
    refine ⟨_, rfl, rfl, _, rfl, ite2 (fun w6 => ?_) (fun _ => ?_)⟩
    · obtain ⟨j, x, ej, hx, lx⟩ := r12 badS rfl badS_len
      refine ⟨_, rfl, _, rfl, _, _, rfl, rfl, (by show (0 : Int) < 12; decide), ?_⟩
      dsimp only
      rw [ej]
      refine ⟨d3, _, _, _, rfl, rfl, SqL.of hd3, atI_nat (tV_at hx), (by show 1 ≤ sizeLine; decide), fun m nm => ?_⟩
      have sm := same_new (.lst (tV [x])) nm
      refine ⟨_, rfl, _, rfl, l, _, rfl, SqL.of (sm _ _ hl6), fun q nq => ?_⟩
      rw [eB2]
      have sq := same_new (.lst (tV B2)) nq
      refine ⟨m, q, tV [x], tV B2, rfl, rfl, sq _ _ upd_same, upd_same, by rw [tV_len, tV_len]; show 1 + B2.length ≤ sizeLine; omega, fun p np => ?_⟩
      refine ret _ p ([x] ++ B2) (S6.trans (sm.trans (sq.trans (same_new _ np)))) ?_ ?_ ?_
      · rw [upd_same]
        unfold tV
        rw [List.map_append]
      · rw [List.length_append, List.length_singleton]
        omega
      · intro s hs
        rcases List.mem_append.mp hs with hs | hs
        · rw [List.mem_singleton.mp hs]
          exact lx
        · have := l20 s (mB2 s hs)
          omega
    refine ⟨_, rfl, rfl, _, rfl, ite2 (fun w7 => ?_) (fun _ => ?_)⟩
    · refine ⟨_, rfl, _, rfl, l, _, rfl, SqL.of hl6, fun q nq => ?_⟩
      rw [eB2]
      exact ret _ q B2 (S6.trans (same_new _ nq)) upd_same (by omega) fun s hs => by
        have := l20 s (mB2 s hs)
        omega
    refine ⟨_, rfl, rfl, _, rfl, ite2 (fun w8 => ?_) (fun _ => ?_)⟩
    · exact ⟨Nat.zero_le _, fun q nq => ret _ q [] (S6.trans (same_new _ nq)) upd_same (Nat.zero_le _) fun s hs => by cases hs⟩
    · refine ⟨_, rfl, (by show 1 ≤ sizeLine; decide), fun m nm => ?_⟩
      have sm := same_new (.lst (tV [("" : Str)])) nm
      refine ⟨l, m, tV ss, tV [("" : Str)], rfl, rfl, sm _ _ hl6, upd_same, by rw [tV_len, tV_len]; show ss.length + 1 ≤ sizeLine; omega, fun p np => ?_⟩
      refine ret _ p (ss ++ [("" : Str)]) (S6.trans (sm.trans (same_new _ np))) ?_ ?_ ?_
      · rw [upd_same]
        unfold tV
        rw [List.map_append]
      · rw [List.length_append, List.length_singleton]
        omega
      · intro s hs
        rcases List.mem_append.mp hs with hs | hs
        · have := l20 s hs
          omega
        · rw [List.mem_singleton.mp hs]
          decide +kernel
end
end KT

/-! the law's defs: a cell -/
namespace KT
open PySem PySem.Spec PyProof.Rows L2
section
variable {P : Program} {w : World} {K : PySem.W.Frag} {mg : Str → Option Value} {base : Heap} {C cNG cSG cKA cST cBH : Addr}
theorem sc_cell : FnScope ["script", "k"] ["script", "k"] (defScope st_l_cell_at) := ⟨rfl, rfl, rfl, by decide +kernel, rfl, by decide +kernel, by decide +kernel⟩
theorem ok_cell {f : Addr} {fd : FuncData} (F : Fun K "_law_cell_at" "_law_cell_at" st_l_cell_at f fd) (hlen : mg "len" = none) :
    FnOk P w K mg base CX0 1 f fd ["script", "k"] (spCell K) := by
  refine F.ok sc_cell (fun vs H Q E h => ?_) (fun cdv A outer s H vs Q E hr h => ?_)
  · obtain ⟨a, ns, k, rfl, _⟩ := h
    rfl
  · obtain ⟨a, ns, k, rfl, hS, q⟩ := h
    refine ⟨_, pss_cons (ps_if (pt_cmpR op_lt (pv 1) (pe_callB call_len_seq (by rfl) hlen PySem.boot_len (pa_cons (pv 0) pa_nil)) (nomark _)) (pss_one (ps_ret (pe_ix ix_list (pv 0) (pv 1) (fun _ _ => rfl)))) pss_nil) (pss_one (ps_ret pe_int)), ?_⟩
    refine ⟨_, rfl, _, rfl, a, _, rfl, .inl hS, _, _, rfl, rfl, _, rfl, ite2 (fun c => ?_) (fun c => ?_)⟩
    · have hk : k < ns.length := by
        have := of_decide_eq_true c
        rw [List.length_map] at this
        omega
      refine ⟨_, rfl, _, rfl, a, _, _, _, rfl, rfl, hS, atI_nat (v := V.int (ns.getD k 0)) ?_, q⟩
      rw [List.getElem?_map, List.getD_eq_getElem?_getD, List.getElem?_eq_getElem hk]
      rfl
    · have hk : ns.length ≤ k := by
        have z : ¬ ((k : Int) < ((ns.map V.int).length : Nat)) := of_decide_eq_false (by simpa using c)
        rw [List.length_map] at z
        omega
      have e : ns.getD k 0 = 0 := by
        rw [List.getD_eq_getElem?_getD, List.getElem?_eq_none hk]
        rfl
      rw [e] at q
      exact q
end
end KT

/-! the law's defs: a cell, a whole number, how many, the pairs -/
namespace KT
open PySem PySem.Spec PyProof.Rows L2
section
variable {P : Program} {w : World} {K : PySem.W.Frag} {mg : Str → Option Value} {base : Heap} {C cNG cSG cKA cST cBH : Addr}
theorem sc_pairs : FnScope ["script", "first", "many", "pairs", "guest", "digits", "other"] ["script", "first", "many"] (defScope st_l_pairs_by) := ⟨rfl, rfl, rfl, by decide +kernel, rfl, by decide +kernel, by decide +kernel⟩
theorem ok_pairs {f : Addr} {fd : FuncData} (F : Fun K "_law_pairs_by" "_law_pairs_by" st_l_pairs_by f fd) (hrange : mg "range" = none) (hsorted : mg "sorted" = none)
    (cC : CalD P w K mg base CX0 1 "_law_cell_at" (spCell K)) :
    FnOk P w K mg base CX0 2 f fd ["script", "first", "many"] (spPairsBy K) := by
  refine F.ok sc_pairs (fun vs H Q E h => ?_) (fun cdv A outer s H vs Q E hr h => ?_)
  · obtain ⟨a, ns, first, n, rfl, _⟩ := h
    rfl
  · obtain ⟨a, ns, first, n, rfl, hS, n1, n20, q⟩ := h
    refine ⟨_, pss_cons (ps_set (i := 3) sc_pairs.nd rfl (Or.inl rfl) (pe_lst pa_nil))
      (pss_cons (ps_for PassesOwn.never rfl (pi_range2 (by rfl) hrange (pa_cons pe_int (pa_cons (pv 2) pa_nil))) (pg_name (i := 4) sc_pairs.nd rfl (Or.inl rfl))
        (pss_cons (ps_set (i := 5) sc_pairs.nd rfl (Or.inl rfl) (pc cC hr pass0 (pa_cons (pv 0) (pa_cons (pe_op op_sub (pe_op op_add (pv 1) (pv 4)) pe_int) pa_nil))))
          (pss_one (ps_for PassesOwn.never rfl (pi_range1 (by rfl) hrange (pa_cons (pv 4) pa_nil)) (pg_name (i := 6) sc_pairs.nd rfl (Or.inl rfl))
            (pss_cons (ps_if (pt_cmpR op_eq (pe_op op_mod (pv 5) pe_int) pe_int (nomark _))
              (pss_one (ps_expr (pe_bm PySem.F.plainAttrs_list PySem.F.slot_list_append PySem.F.type_list_append mt_append (pv 3) (pa_cons (pe_tup (pa_cons (pv 6) (pa_cons (pv 4) pa_nil))) pa_nil)))) pss_nil)
              (pss_one (ps_set (i := 5) sc_pairs.nd rfl (Or.inl rfl) (pe_op op_fdiv (pv 5) pe_int))))))))
      (pss_one (ps_ret (pe_callB cr_sortedPO (by rfl) hsorted (by decide +kernel) (pa_cons (pv 3) pa_nil))))), ?_⟩
    refine ⟨Nat.zero_le _, fun l hl => ?_⟩
    have s0 : Same H (upd H l (.lst [])) := same_new _ hl
    refine ⟨_, rfl, 1, (n : Int), rfl, ⟨by omega, by omega, by omega, by omega⟩, for_range (lo := 1) (n := ((n : Int) - 1).toNat)
      (fun i σ H' => ∃ (E : List Pr) (xs : List V) (v4 v5 v6 : Option V), σ = [some (.ref a), some (.int (first : Int)), some (.int (n : Int)), some (.ref l), v4, v5, v6] ∧ Same H H' ∧ H' l = some (.lst xs) ∧ PairVs H' xs E ∧
        WF (1 + i) E) ⟨[], [], none, none, none, rfl, s0, upd_same, .nil, WF.nil _⟩ ?_ ?_⟩
    · rintro i σ H1 hi ⟨E, xs, v4, v5, v6, rfl, s1, hl1, r1, wf1⟩
      have ei : (1 : Int) + (i : Int) = ((1 + i : Nat) : Int) := by omega
      rw [ei]
      refine ⟨_, rfl, _, rfl, _, rfl, _, _, rfl, rfl, _, _, rfl, rfl, a, ns, first + i, ?_, s1.seq hS, ?_⟩
      · show [V.ref a, V.int ((first : Int) + ((1 + i : Nat) : Int) - 1)] = [V.ref a, V.int ((first + i : Nat) : Int)]
        have e : (first : Int) + ((1 + i : Nat) : Int) - 1 = ((first + i : Nat) : Int) := by omega
        rw [e]
      refine ⟨_, rfl, _, rfl, by omega, by omega, for_range (lo := 0) (n := 1 + i)
        (fun j σ H' => ∃ (E : List Pr) (xs : List V) (z : Int) (v6 : Option V), σ = [some (.ref a), some (.int (first : Int)), some (.int (n : Int)), some (.ref l), some (.int ((1 + i : Nat) : Int)), some (.int z), v6] ∧ Same H H' ∧ H' l = some (.lst xs) ∧ PairVs H' xs E ∧
          E.Nodup ∧ ∀ p ∈ E, p.1 < p.2 ∧ (p.2 < 1 + i ∨ (p.2 = 1 + i ∧ p.1 < j))) ?_ ?_ ?_⟩
      · exact ⟨E, xs, _, v6, rfl, s1, hl1, r1, wf1.1, fun p hp => ⟨(wf1.2 p hp).1, .inl (wf1.2 p hp).2⟩⟩
      · rintro j σ H2 hj ⟨E2, xs2, z, v6, rfl, s2, hl2, r2, nd2, wf2⟩
        rw [Int.zero_add]
        have wf2' : WF n E2 := ⟨nd2, fun p hp => ⟨(wf2 p hp).1, by have := (wf2 p hp).2; omega⟩⟩
        have len2 : xs2.length ≤ 400 := by
          have := wf2'.len n20
          have := Paired.length r2
          omega
        refine ⟨_, rfl, _, _, rfl, rfl, (by show (0 : Int) < 2; decide), rfl, _, rfl, ite2 (fun c => ?_) (fun c => ?_)⟩
        · refine ⟨_, rfl, .inl ⟨rfl, _, SqL.of hl2⟩, _, rfl, _, rfl, (by show 2 ≤ sizeLine; decide), fun t ht => ?_⟩
          have ntl : l ≠ t := ne_of_none hl2 ht
          refine ⟨l, xs2, _, rfl, rfl, (by rw [upd_ne ntl]; exact hl2), Nat.lt_of_le_of_lt len2 (by decide), ?_⟩
          refine ⟨_, rfl, _, _, rfl, rfl, ⟨by decide, by decide⟩, ?_⟩
          have nin : (j, 1 + i) ∉ E2 := fun m => by
            have := (wf2 _ m).2
            simp only at this
            omega
          refine ⟨E2 ++ [(j, 1 + i)], xs2 ++ [.ref t], _, _, rfl, ?_, upd_same, ?_, nd_snoc nd2 nin, ?_⟩
          · intro b o e
            have e2 := s2 b o e
            have nbl : b ≠ l := ne_of_none e hl
            rw [upd_ne nbl, upd_ne (ne_of_none e2 ht)]
            exact e2
          · refine PairVs.snoc (r2.keep fun b ys e => ?_) ⟨t, rfl, ?_⟩
            · rw [upd_ne (ne_of e hl2 (fun z => nomatch z)), upd_ne (ne_of_none e ht)]
              exact e
            · rw [upd_ne ntl.symm, upd_same]
          · intro p hp
            rcases List.mem_append.mp hp with hp | hp
            · have := wf2 p hp
              omega
            · rw [List.mem_singleton.mp hp]
              show j < 1 + i ∧ (1 + i < 1 + i ∨ (1 + i = 1 + i ∧ j < j + 1))
              omega
        · refine ⟨_, rfl, _, _, rfl, rfl, ⟨by decide, by decide⟩, ?_⟩
          refine ⟨E2, xs2, _, _, rfl, s2, hl2, r2, nd2, fun p hp => ?_⟩
          have := wf2 p hp
          omega
      · rintro σ H2 ⟨E2, xs2, z, v6, rfl, s2, hl2, r2, nd2, wf2⟩
        refine ⟨E2, xs2, _, _, _, rfl, s2, hl2, r2, nd2, fun p hp => ?_⟩
        have := wf2 p hp
        omega
    · rintro σ H1 ⟨E, xs, v4, v5, v6, rfl, s1, hl1, r1, wf1⟩
      have wfn : WF n E := ⟨wf1.1, fun p hp => by
        have := wf1.2 p hp
        omega⟩
      obtain ⟨h1, h2⟩ := sort_pairs r1 wf1.1
      refine ⟨_, rfl, l, xs, tk2 H1, rfl, SqL.of hl1, h1, fun ys p hs hst hp => ?_⟩
      obtain ⟨E', r', pe, so⟩ := h2 ys hs hst.perm
      have s2 := s1.trans (same_new (.lst ys) hp)
      refine q _ p E' s2 (s1.free hp) ⟨ys, upd_same, r'.keep fun b zs e => by rw [upd_ne (ne_of_none e hp)]; exact e⟩ ⟨pe.nodup_iff.mpr wfn.1, fun x hx => wfn.2 x (pe.mem_iff.mp hx)⟩ so
end
end KT

/-! a whole number -/
namespace KT
open PySem PySem.Spec PyProof.Rows L2
section
variable {P : Program} {w : World} {K : PySem.W.Frag} {mg : Str → Option Value} {base : Heap} {C cNG cSG cKA cST cBH : Addr}
theorem sc_whole : FnScope ["found"] ["found"] (defScope st_l_whole) := ⟨rfl, rfl, rfl, by decide +kernel, rfl, by decide +kernel, by decide +kernel⟩
theorem ok_whole {f : Addr} {fd : FuncData} (F : Fun K "_law_whole" "_law_whole" st_l_whole f fd) (his : mg "isinstance" = none) (hint : mg "int" = none) (hbool : mg "bool" = none) :
    FnOk P w K mg base CX0 1 f fd ["found"] spWhole := by
  refine F.ok sc_whole (fun vs H Q E h => ?_) (fun cdv A outer s H vs Q E hr h => ?_)
  · obtain ⟨i, rfl, _⟩ := h
    rfl
  · obtain ⟨i, rfl, q⟩ := h
    refine ⟨_, pss_one (ps_ret (pe_and (pe_callB call_isi (by rfl) his (by decide +kernel) (pa_cons (pv 0) (pa_cons (pe_bltn (v := .ty "int") (by rfl) hint (by decide +kernel) rfl) pa_nil)))
      (pe_one (pe_not (pe_callB call_isi (by rfl) his (by decide +kernel) (pa_cons (pv 0) (pa_cons (pe_bltn (v := .ty "bool") (by rfl) hbool (by decide +kernel) rfl) pa_nil))))))), ?_⟩
    refine ⟨_, rfl, _, _, _, _, true, rfl, .ty "int", .base (.int i), kit_ty (by decide +kernel), true, rfl, iteT ?_⟩
    exact ⟨_, rfl, _, _, _, _, false, rfl, .ty "bool", .base (.int i), kit_ty (by decide +kernel), false, rfl, q⟩
end
end KT

/-! the law's def: how many -/
namespace KT
open PySem PySem.Spec PyProof.Rows L2
section
variable {P : Program} {w : World} {K : PySem.W.Frag} {mg : Str → Option Value} {base : Heap}
theorem sc_many_of : FnScope ["script", "head"] ["script"] (defScope st_l_many) := ⟨rfl, rfl, rfl, by decide +kernel, rfl, by decide +kernel, by decide +kernel⟩
theorem ok_many_of {f : Addr} {fd : FuncData} (F : Fun K "_law_many" "_law_many" st_l_many f fd) (cC : CalD P w K mg base CX0 1 "_law_cell_at" (spCell K)) :
    FnOk P w K mg base CX0 2 f fd ["script"] (spManyOf K) := by
  refine F.ok sc_many_of (fun vs H Q E h => ?_) (fun cdv A outer s H vs Q E hr h => ?_)
  · obtain ⟨a, ns, rfl, _⟩ := h
    rfl
  · obtain ⟨a, ns, rfl, hS, q⟩ := h
    refine ⟨_, pss_cons (ps_set (i := 1) sc_many_of.nd rfl (Or.inl rfl) (pc cC hr pass0 (pa_cons (pv 0) (pa_cons pe_int pa_nil))))
      (pss_cons (ps_if (pt_cmpR op_eq (pe_op op_mod (pe_op op_fdiv (pv 1) pe_int) pe_int) pe_int (nomark _)) (pss_one (ps_ret (pe_op op_add pe_int (pe_op op_mod (pe_op op_fdiv (pv 1) pe_int) pe_int)))) pss_nil)
      (pss_one (ps_ret (pe_op op_add pe_int (pe_op op_mod (pv 1) pe_int))))), ?_⟩
    refine ⟨_, rfl, a, ns, 0, rfl, hS, ?_⟩
    have fin : ∀ z : Int, 1 ≤ z → z ≤ 20 → Q (.int z) H := fun z h1 h2 => by
      have e : ((z.toNat : Nat) : Int) = z := by omega
      rw [← e]
      exact q z.toNat (by omega) (by omega)
    refine ⟨_, rfl, _, _, rfl, rfl, ⟨by decide, by decide⟩, _, _, rfl, rfl, (by show (0 : Int) < 4; decide), rfl, _, rfl, ite2 (fun c => ?_) (fun c => ?_)⟩
    · refine ⟨_, rfl, _, _, rfl, rfl, ⟨by decide, by decide⟩, _, _, rfl, rfl, (by show (0 : Int) < 10; decide), _, _, rfl, rfl, fin _ ?_ ?_⟩
      · generalize ns.getD 0 0 = z
        show 1 ≤ 11 + z / 40 % 10
        omega
      · generalize ns.getD 0 0 = z
        show 11 + z / 40 % 10 ≤ 20
        omega
    · refine ⟨_, rfl, _, _, rfl, rfl, (by show (0 : Int) < 10; decide), _, _, rfl, rfl, fin _ ?_ ?_⟩
      · generalize ns.getD 0 0 = z
        show 1 ≤ 1 + z % 10
        omega
      · generalize ns.getD 0 0 = z
        show 1 + z % 10 ≤ 20
        omega
end
end KT

/-! the marks of a caught error -/
namespace KT
open PySem PySem.Spec PyProof.Rows L2
section
variable {P : Program} {w : World} {K : PySem.W.Frag} {mg : Str → Option Value} {base : Heap} {C cNG cSG cKA cST cBH cNT cHE : Addr}
theorem sc_marks : FnScope ["e", "marks"] ["e"] (defScope st_l_marks_of) := ⟨rfl, rfl, rfl, by decide +kernel, rfl, by decide +kernel, by decide +kernel⟩
theorem ok_marks {f : Addr} {fd : FuncData} (F : Fun K "_law_marks_of" "_law_marks_of" st_l_marks_of f fd) (T : HT K mg C cNG cSG cKA cST cBH) (gNT : mg "NoText" = some (.ref cNT)) (his : mg "isinstance" = none) (hve : mg "ValueError" = none) :
    FnP P w K mg base 1 f fd ["e"] (spMarks K cNG cSG cKA cST cBH cNT cHE) := by
  refine okP F sc_marks (fun a cls d vs H Q E h => ?_) (fun cdv A outer s H vs Q E p cls d hr hz hf h => ?_)
  · obtain ⟨D, m, rfl, _⟩ := h
    rfl
  · obtain ⟨D, m, rfl, rfl, rfl, M, q⟩ := h
    have mem : p ∈ [p] := List.mem_singleton.mpr rfl
    refine ⟨_, pss_cons (ps_set (i := 1) sc_marks.nd rfl (Or.inl rfl) (pe_lst
        (pa_cons (pe_callB (call_isP (D := D) mem M.ex hz hf) (by rfl) his (by decide +kernel) (pa_cons (pv 0) (pa_cons (pe_glob (v := .ref cNG) rfl T.ng.g rfl) pa_nil)))
        (pa_cons (pe_callB (call_isP (D := D) mem M.ex hz hf) (by rfl) his (by decide +kernel) (pa_cons (pv 0) (pa_cons (pe_glob (v := .ref cSG) rfl T.sg.g rfl) pa_nil)))
        (pa_cons (pe_callB (call_isP (D := D) mem M.ex hz hf) (by rfl) his (by decide +kernel) (pa_cons (pv 0) (pa_cons (pe_glob (v := .ref cKA) rfl T.ka.g rfl) pa_nil)))
        (pa_cons (pe_callB (call_isP (D := D) mem M.ex hz hf) (by rfl) his (by decide +kernel) (pa_cons (pv 0) (pa_cons (pe_glob (v := .ref cST) rfl T.st.g rfl) pa_nil))) pa_nil))))))
      (pss_one (ps_ret (pe_op op_cat (pv 1) (pe_lst
        (pa_cons (pe_callB (call_isP (D := D) mem M.ex hz hf) (by rfl) his (by decide +kernel) (pa_cons (pv 0) (pa_cons (pe_glob (v := .ref cBH) rfl T.bh.g rfl) pa_nil)))
        (pa_cons (pe_callB (call_isP (D := D) mem M.ex hz hf) (by rfl) his (by decide +kernel) (pa_cons (pv 0) (pa_cons (pe_glob (v := .ref cNT) rfl gNT rfl) pa_nil)))
        (pa_cons (pe_not (pe_callB (call_isP (D := D) mem M.ex hz hf) (by rfl) his (by decide +kernel) (pa_cons (pv 0) (pa_cons (pe_bltn (v := .ty "ValueError") (by rfl) hve (by decide +kernel) rfl) pa_nil)))) pa_nil))))))), ?_⟩
    refine ⟨_, rfl, _, _, _, rfl, (fun u r => r), M.i0, ?_⟩
    refine ⟨_, rfl, _, _, _, rfl, (fun u r => r), M.i1, ?_⟩
    refine ⟨_, rfl, _, _, _, rfl, (fun u r => r), M.i2, ?_⟩
    refine ⟨_, rfl, _, _, _, rfl, (fun u r => r), M.i3, ?_⟩
    refine ⟨(by show 4 ≤ sizeLine; decide), fun l1 h1 => ?_⟩
    refine ⟨_, rfl, ?_⟩
    refine ⟨_, rfl, _, _, _, rfl, (fun u r => r), M.i4, ?_⟩
    refine ⟨_, rfl, _, _, _, rfl, (fun u r => r), M.i5, ?_⟩
    refine ⟨_, rfl, _, _, _, rfl, (fun u r => r), M.iV, ?_⟩
    refine ⟨true, rfl, ?_⟩
    refine ⟨(by show 3 ≤ sizeLine; decide), fun l2 h2 => ?_⟩
    refine ⟨l1, l2, _, _, rfl, rfl, (same_new _ h2) _ _ upd_same, upd_same, (by show 4 + 3 ≤ sizeLine; decide), fun l3 h3 => ?_⟩
    refine q _ l3 (((same_new _ h1).trans (same_new _ h2)).trans (same_new _ h3)) ?_ ?_
    · exact Same.free ((same_new _ h1).trans (same_new _ h2)) h3
    · rw [upd_same]
      have m5 := M.m5
      have e6 : decide (6 = m) = !true := decide_eq_false (by omega)
      show some (HO.lst [V.bl (decide (0 = m)), V.bl (decide (1 = m)), V.bl (decide (2 = m)), V.bl (decide (3 = m)), V.bl (decide (4 = m)), V.bl (decide (5 = m)), V.bl (!true)]) = _
      rw [← e6]
      rfl
end
end KT

/-! the law's defs: numbers, whom a guest knows, the same hall -/
namespace KT
open PySem PySem.Spec PyProof.Rows L2
section
variable {P : Program} {w : World} {K : PySem.W.Frag} {mg : Str → Option Value} {base : Heap} {C cNG cSG cKA cST cBH : Addr}
theorem sc_numbers : FnScope ["found", "due", "number"] ["found", "due"] (defScope st_l_numbers) := ⟨rfl, rfl, rfl, by decide +kernel, rfl, by decide +kernel, by decide +kernel⟩
theorem ok_numbers {f : Addr} {fd : FuncData} (F : Fun K "_law_numbers" "_law_numbers" st_l_numbers f fd) (his : mg "isinstance" = none) (hlist : mg "list" = none)
    (cW : CalD P w K mg base CX0 1 "_law_whole" spWhole) : FnOk P w K mg base CX0 2 f fd ["found", "due"] spNumbers := by
  refine F.ok sc_numbers (fun vs H Q E h => ?_) (fun cdv A outer s H vs Q E hr h => ?_)
  · obtain ⟨a, b, l, rfl, _⟩ := h
    rfl
  · obtain ⟨a, b, l, rfl, ha, hb, q⟩ := h
    refine ⟨_, pss_cons (ps_if (pt_not (pt_val (pe_callB call_isi (by rfl) his (by decide +kernel) (pa_cons (pv 0) (pa_cons (pe_bltn (v := .ty "list") (by rfl) hlist (by decide +kernel) rfl) pa_nil))))) (pss_one (ps_ret pe_bl)) pss_nil)
      (pss_cons (ps_for PassesOwn.never rfl (pi_list (pv 0)) (pg_name (i := 2) sc_numbers.nd rfl (Or.inl rfl)) (pss_one (ps_if (pt_not (pt_val (pc cW hr pass0 (pa_cons (pv 2) pa_nil)))) (pss_one (ps_ret pe_bl)) pss_nil)))
      (pss_one (ps_ret (pe_cmpR (op_eqD hr.units) (pv 0) (pv 1) (nomark _))))), ?_⟩
    refine ⟨_, rfl, _, _, _, _, true, rfl, .ty "list", .base (.lst ha), kit_ty (by decide +kernel), true, rfl, iteF ?_⟩
    refine ⟨_, rfl, a, rfl, ⟨_, SqL.of ha⟩, for_list (K := K) (a := a) (xs := iV l) (fun i σ H' => ∃ v, σ = [some (.ref a), some (.ref b), v] ∧ H' = H) ⟨none, rfl, rfl⟩ (fun i σ H' _ ⟨_, _, e⟩ => by rw [e]; exact SqL.of ha) ?_ ?_⟩
    · rintro i x σ H1 hx ⟨v, rfl, rfl⟩
      obtain ⟨u, rfl⟩ : ∃ u : Nat, x = V.int (u : Int) := by
        unfold iV at hx
        rw [List.getElem?_map] at hx
        cases e : l[i]? with
        | none =>
          rw [e] at hx
          cases hx
        | some u =>
          rw [e] at hx
          exact ⟨u, (Option.some.inj hx).symm⟩
      exact ⟨_, rfl, _, rfl, true, rfl, iteF ⟨_, rfl, rfl⟩⟩
    · rintro σ H1 ⟨v, rfl, rfl⟩
      refine ⟨_, rfl, _, rfl, iD l, iD l, iD_dp (SqL.of ha), iD_dp (SqL.of hb), iD_shaped l, iD_shaped l, ?_⟩
      rw [iD_refl]
      exact q
theorem sc_lknown : FnScope ["pairs", "many", "guest", "other"] ["pairs", "many", "guest"] (defScope st_l_known) := ⟨rfl, rfl, rfl, by decide +kernel, rfl, by decide +kernel, by decide +kernel⟩
theorem ok_lknownD {f : Addr} {fd : FuncData} (F : Fun K "_law_known" "_law_known" st_l_known f fd) (hmin : mg "min" = none) (hmax : mg "max" = none) (hrange : mg "range" = none) :
    FnOk P w K mg base CX0 1 f fd ["pairs", "many", "guest"] spKnownD := by
  refine F.ok sc_lknown (fun vs H Q E h => ?_) (fun cdv A outer s H vs Q E hr h => ?_)
  · obtain ⟨q, n, g, E, rfl, _⟩ := h
    rfl
  · obtain ⟨q, n, g, E, rfl, hq, wf, n20, hg, k⟩ := h
    refine ⟨_, pss_one (ps_ret (pe_lc (own := [("other", 3)]) (g := gName 3) rfl sc_lknown.nd (pi_range1 (by rfl) hrange (pa_cons (pv 1) pa_nil))
      (blkOk_by (own := [("other", 3)]) (N := ["pairs", "many", "guest", "other"]) (sc := defScope st_l_known) (by decide +kernel)) (fun _ _ _ _ _ => pg_name (i := 3) sc_lknown.nd rfl (Or.inl rfl))
      (fun _ _ _ _ _ => pts_one (pt_cmp (pc_din (hu_of hr) (pe_tup (pa_cons (pe_callB (call_min2 rfl) (by rfl) hmin (by decide +kernel) (pa_cons (pv 2) (pa_cons (pv 3) pa_nil)))
        (pa_cons (pe_callB (call_max2 rfl) (by rfl) hmax (by decide +kernel) (pa_cons (pv 2) (pa_cons (pv 3) pa_nil))) pa_nil))) (pv 0)))) (fun _ _ _ _ _ => pv 3))), ?_⟩
    refine ⟨_, rfl, _, rfl, by omega, by omega, fun D hD => ?_⟩
    refine lc_range (lo := 0) (n := n) (fun i H' => Same H H' ∧ H' D = some (.lst (iV ((List.range i).filter (oth true E g))))) ⟨same_new _ hD, upd_same⟩ ?_ (fun H1 h1 => k H1 D h1.1 hD h1.2)
    rintro i H1 hi ⟨s1, h1⟩
    rw [Int.zero_add]
    refine ⟨rfl, _, rfl, _, rfl, _, _, rfl, _, rfl, _, rfl, _, _, rfl, (by show 2 ≤ sizeLine; decide), fun t ht => ?_⟩
    rw [min_py, max_py]
    have st := same_new (.tup [V.int ((min g i : Nat) : Int), V.int ((max g i : Nat) : Int)]) ht
    refine ⟨_, rfl, q, _, rfl, get_new (s1 _ _ hq) ht, ?_⟩
    rw [isSome_kvs]
    refine ⟨_, rfl, ite2 (fun c => ?_) (fun c => ?_)⟩
    · refine ⟨_, rfl, _, st _ _ h1, iV_line (by omega), same_keepNew (s1.trans st) hD (Keep.put D _), ?_⟩
      rw [upd_same, filter_yes (by rw [oth_known wf]; exact c), iV_snoc]
    · refine ⟨s1.trans st, ?_⟩
      rw [filter_no (by rw [oth_known wf]; exact c)]
      exact st _ _ h1
theorem sc_same : FnScope ["hall", "pairs", "many", "told", "there", "pair", "guest", "due", "others", "other"] ["hall", "pairs", "many"] (defScope st_l_same) := ⟨rfl, rfl, rfl, by decide +kernel, rfl, by decide +kernel, by decide +kernel⟩
theorem ok_same {f : Addr} {fd : FuncData} (F : Fun K "_law_same" "_law_same" st_l_same f fd) (T : HT K mg C cNG cSG cKA cST cBH)
    (mM : MetD P w K mg base CX0 C 1 "many" (spMany C)) (mKn : MetD P w K mg base (L2N.CX P w) C 4 "known" (spOthers true C cNG)) (mSt : MetD P w K mg base (L2N.CX P w) C 4 "strangers" (spOthers false C cNG))
    (cW : CalD P w K mg base CX0 1 "_law_whole" spWhole) (cN : CalD P w K mg base CX0 2 "_law_numbers" spNumbers) (cK : CalD P w K mg base CX0 1 "_law_known" spKnownD) :
    FnOk P w K mg base CX0 5 f fd ["hall", "pairs", "many"] (spSame C) := by
  refine F.ok sc_same (fun vs H Q E h => ?_) (fun cdv A outer s H vs Q E hr h => ?_)
  · obtain ⟨p, l, d, n, L, E, rfl, _⟩ := h
    rfl
  · obtain ⟨p, l, d, n, L, E, rfl, hall, hP, wf, eqv, q⟩ := h
    obtain ⟨ps, hps, rps⟩ := hP.ex
    have n20 := hall.hi
    refine ⟨_, pss_cons (ps_set (i := 3) sc_same.nd rfl (Or.inl rfl) (pm0 (pv 0) T.cl mM hr pass0))
      (pss_cons (ps_if (PW.pt (pw_or (pt_not (pt_val (pc cW hr pass0 (pa_cons (pv 3) pa_nil)))) (pw_or1 (pt_cmpR op_ne (pv 3) (pv 2) (nomark _))))) (pss_one (ps_ret pe_bl)) pss_nil)
      (pss_cons (ps_set (i := 4) sc_same.nd rfl (Or.inl rfl) pe_dnewT)
      (pss_cons (ps_for PassesOwn.never rfl (pi_list (pv 1)) (pg_name (i := 5) sc_same.nd rfl (Or.inl rfl)) (pss_one (ps_dput (hu_of hr) (pv 4) (pv 5) pe_bl rfl)))
      (pss_cons (ps_for PassesOwn.never rfl (pi_range1 (by rfl) T.range (pa_cons (pv 2) pa_nil)) (pg_name (i := 6) sc_same.nd rfl (Or.inr rfl))
        (pss_cons (ps_set (i := 7) sc_same.nd rfl (Or.inr rfl) (pc cK hr pass0 (pa_cons (pv 4) (pa_cons (pv 2) (pa_cons (pv 6) pa_nil)))))
        (pss_cons (ps_setLc (i := 8) (own := [("other", 9)]) (g := gName 9) (tt := tAnd (tTest (tOp rNe (tVar 9) (tVar 6))) (tTest (tOp (rIn K true) (tVar 9) (tVar 7)))) (by rfl) sc_same.nd rfl rfl (sw_true rfl rfl rfl (by decide +kernel))
            (pi_range1 (by rfl) T.range (pa_cons (pv 2) pa_nil)) (blkOk_by (own := [("other", 9)]) (N := ["hall", "pairs", "many", "told", "there", "pair", "guest", "due", "others", "other"]) (sc := defScope st_l_same) (by decide +kernel))
            (fun _ _ _ _ _ => pg_name (i := 9) sc_same.nd rfl (Or.inl rfl)) (fun _ _ _ _ _ => pts_one (PW.pt (pw_and (pt_cmpR op_ne (pv 9) (pv 6) (nomark _)) (pw_and1 (pt_cmpR op_notIn_seq (pv 9) (pv 7) (by rfl)))))) (fun _ _ _ _ _ => pv 9))
        (pss_one (ps_if (PW.pt (pw_or (pt_not (pt_val (pc cN hr pass0 (pa_cons (pm (pv 0) T.cl mKn hr passN (pa_cons (pv 6) pa_nil)) (pa_cons (pv 7) pa_nil)))))
          (pw_or1 (pt_not (pt_val (pc cN hr pass0 (pa_cons (pm (pv 0) T.cl mSt hr passN (pa_cons (pv 6) pa_nil)) (pa_cons (pv 8) pa_nil)))))))) (pss_one (ps_ret pe_bl)) pss_nil)))))
      (pss_one (ps_ret pe_bl)))))), ?_⟩
    refine r_many (rv rfl) hall ?_
    refine ⟨_, rfl, _, rfl, true, rfl, iteF ?_⟩
    refine ⟨_, rfl, _, rfl, rfl, _, rfl, iteNS rfl ?_⟩
    intro d0 hd0
    have sd : Same H (upd H d0 (.dT [])) := same_new _ hd0
    refine ⟨_, rfl, l, rfl, ⟨_, SqL.of (sd _ _ hps)⟩, for_list (K := K) (a := l) (xs := ps) (fun i σ H' => ∃ v5, σ = [some (.ref p), some (.ref l), some (.int (n : Int)), some (.int (n : Int)), some (.ref d0), v5, none, none, none, none] ∧ Same H H' ∧ H' d0 = some (.dT (kvs (E.take i))))
      ⟨none, rfl, sd, upd_same⟩ (fun i σ H' _ ⟨_, _, s1, _⟩ => SqL.of (s1 _ _ hps)) ?_ ?_⟩
    · rintro i v σ H1 hi ⟨v5, rfl, s1, hd1⟩
      obtain ⟨pr, hp, hv⟩ := (rps.keep (fun b ys z => s1 b _ z)).get hi
      obtain ⟨a, rfl, ha⟩ := hv
      refine ⟨_, rfl, _, rfl, d0, _, rfl, DPut.t (k := kP pr) hd1 ha ?_, ?_⟩
      · rw [length_kvs]
        refine Nat.lt_of_le_of_lt (m := 400) ?_ (by decide)
        have z1 := wf.len n20
        have z2 := List.length_take_le' i E
        omega
      · refine ⟨_, rfl, same_keepNew s1 hd0 (Keep.put d0 _), ?_⟩
        rw [upd_same, put_kvs (take_notin wf.1 hp), take_more hp]
    · rintro σ H1 ⟨v5, rfl, s1, hd1⟩
      rw [Paired.length rps, List.take_length] at hd1
      refine ⟨_, rfl, (n : Int), rfl, by omega, by omega, for_range (lo := 0) (n := n) (fun i σ H' => ∃ v6 v7 v8 v9 : Option V, σ = [some (.ref p), some (.ref l), some (.int (n : Int)), some (.int (n : Int)), some (.ref d0), v5, v6, v7, v8, v9] ∧ Same H1 H') ⟨_, _, _, _, rfl, Same.refl _⟩ ?_ ?_⟩
      · rintro g σ H2 hg ⟨v6, v7, v8, v9, rfl, s2⟩
        rw [Int.zero_add]
        refine ⟨_, rfl, _, rfl, _, rfl, d0, n, g, E, rfl, s2 _ _ hd1, wf, n20, hg, fun H3 ld s3 nld hld => ?_⟩
        refine ⟨_, rfl, _, rfl, by omega, by omega, fun D hD => ?_⟩
        refine lc_range (lo := 0) (n := n) (fun i H' => Same H3 H' ∧ H' D = some (.lst (iV ((List.range i).filter (oth false E g))))) ⟨same_new _ hD, upd_same⟩ ?_ ?_
        · rintro i H4 hi ⟨s4, h4⟩
          rw [Int.zero_add]
          refine ⟨rfl, _, rfl, _, rfl, rfl, _, rfl, ite2 (fun c => ?_) (fun c => ?_)⟩
          · have nig : i ≠ g := fun e => by
              rw [e] at c
              simp at c
            refine ⟨_, rfl, _, rfl, ld, _, rfl, .inl (SqL.of (s4 _ _ hld)), rfl, iV_flat _, _, rfl, ?_⟩
            show (if (if true = true then !inV (V.int (i : Int)) (iV (others true n E g)) else inV (V.int (i : Int)) (iV (others true n E g))) = true then _ else _)
            rw [if_pos rfl, inV_iV]
            have eo : oth false E g i = !decide (i ∈ others true n E g) := by
              rw [Bool.eq_iff_iff, oth_iff]
              unfold others
              simp only [List.mem_filter, List.mem_range, oth_iff, decide_eq_false_iff_not, Bool.not_eq_true', decide_eq_true_eq, not_and]
              constructor
              · rintro ⟨_, h⟩ _ _
                exact h
              · intro h
                exact ⟨nig, h hi nig⟩
            rw [← eo]
            refine ite2 (fun c2 => ?_) (fun c2 => ?_)
            · refine ⟨_, rfl, _, h4, iV_line (by omega), same_keepNew s4 hD (Keep.put D _), ?_⟩
              rw [upd_same, filter_yes c2, iV_snoc]
            · refine ⟨s4, ?_⟩
              rw [filter_no c2]
              exact h4
          · have eig : i = g := by
              by_cases e : i = g
              · exact e
              · exact absurd (by simp; omega) c
            refine ⟨s4, ?_⟩
            rw [filter_no (by rw [oth_iff]; exact fun z => z.1 eig)]
            exact h4
        · rintro H4 ⟨s4, h4⟩
          have S4 := s1.trans (s2.trans (s3.trans s4))
          refine r_known (rv rfl) (rv rfl) (hall.same S4) hg fun H5 l5 s5 n5 h5 => ?_
          rw [others_eqv eqv] at h5
          refine ⟨_, rfl, l5, ld, _, rfl, h5, s5 _ _ (s4 _ _ hld), true, rfl, iteF ?_⟩
          refine r_strangers (rv rfl) (rv rfl) (hall.same (S4.trans s5)) hg fun H6 l6 s6 n6 h6 => ?_
          rw [others_eqv eqv] at h6
          refine ⟨_, rfl, l6, D, _, rfl, h6, s6 _ _ (s5 _ _ h4), true, rfl, iteF ?_⟩
          exact ⟨_, _, _, _, rfl, s2.trans (s3.trans (s4.trans (s5.trans s6)))⟩
      · rintro σ H2 ⟨v6, v7, v8, v9, rfl, s2⟩
        exact q _ (s1.trans s2)
end
end KT

/-! law 12 -/
namespace KT
open PySem PySem.Spec PyProof.Rows L2
theorem cut_butlast (t' : List Nat) (c : Nat) : cutS (SX.S (t' ++ [c])) none (some (-1)) = SX.S t' := by
  unfold cutS
  have e1 : HT.sIx (SX.S (t' ++ [c])).length 0 none = 0 := rfl
  have e2 : HT.sIx (SX.S (t' ++ [c])).length (SX.S (t' ++ [c])).length (some (-1)) = t'.length := by
    rw [SX.S_len, List.length_append, List.length_singleton]
    show (if (-1 : Int) < 0 then ((-1 : Int) + ((t'.length + 1 : Nat) : Int)).toNat else min (-1 : Int).toNat (t'.length + 1)) = t'.length
    rw [if_pos (by decide)]
    omega
  rw [e1, e2]
  show SX.S (List.take (t'.length - 0) (List.drop 0 (t' ++ [c]).toArray.toList)) = SX.S t'
  simp
theorem sum_le {B : Nat} : ∀ {ys : List Str}, (∀ s ∈ ys, s.length ≤ B) → (ys.map (·.length)).sum ≤ B * ys.length
  | [], _ => Nat.zero_le _
  | y :: ys, h => by
    have ih := sum_le (B := B) (ys := ys) fun s hs => h s (List.mem_cons_of_mem _ hs)
    have hy := h y List.mem_cons_self
    rw [List.map_cons, List.sum_cons, List.length_cons, Nat.mul_succ]
    omega
theorem join_all {ys : List Str} (h : ∀ s ∈ ys, s.length ≤ 61) (hl : ys.length ≤ 2000) : (ys.map (·.length)).sum + ys.length * (("" : Str)).length ≤ 16777216 ∧ (Txt.join ("" : Str) ys).length ≤ 122000 := by
  have e0 : (("" : Str)).length = 0 := by decide +kernel
  have a := sum_le h
  constructor
  · rw [e0, Nat.mul_zero]
    omega
  · have e : ys = (ys.map fun s => s.cps.toList).map SX.S := by
      rw [List.map_map]
      have : (SX.S ∘ fun s : Str => s.cps.toList) = id := by
        funext s
        exact SX.S_tl s
      rw [this, List.map_id]
    have j := join_len [] (ys.map fun s => s.cps.toList)
    rw [← e, ← lit_e, List.map_map, List.length_nil, Nat.mul_zero] at j
    have e2 : (ys.map (List.length ∘ fun s : Str => s.cps.toList)).sum = (ys.map (·.length)).sum := by
      congr 1
    rw [e2] at j
    refine Nat.le_trans j ?_
    omega
theorem cut_mem (xs : List V) (lo hi : Option Int) : ∀ v ∈ cutV xs lo hi, v ∈ xs := fun v hv => by
  unfold cutV at hv
  exact List.mem_of_mem_drop (List.mem_of_mem_take hv)
section
variable {P : Program} {w : World} {K : PySem.W.Frag} {mg : Str → Option Value} {base : Heap} {C cNG cSG cKA cST cBH cNT cHE : Addr}
theorem sc_law : FnScope ["script", "many", "pairs", "cut", "lines", "one", "other", "cell", "text", "line", "due", "found", "marks", "e", "k"] ["script"] (defScope st_law) := ⟨rfl, rfl, rfl, by decide +kernel, rfl, by decide +kernel, by decide +kernel⟩
theorem ok_law {f : Addr} {fd : FuncData} (F : Fun K "law" "law" st_law f fd) (T : HT K mg C cNG cSG cKA cST cBH) (hstr : mg "str" = none) (gHE : mg "HallError" = some (.ref cHE))
    (cC : CalD P w K mg base CX0 1 "_law_cell_at" (spCell K)) (cM : CalD P w K mg base CX0 2 "_law_many" (spManyOf K)) (cP : CalD P w K mg base CX0 2 "_law_pairs_by" (spPairsBy K)) (cSp : CalD P w K mg base CX0 2 "_law_spoiled" spSpoiled)
    (cD : CalD P w K mg base CX0 2 "_law_due" spDueL) (cR : CalD P w K mg base (L2.CX P w) 6 "read" (spRead C cNT)) (cMk : CalP P w K mg base 1 "_law_marks_of" (spMarks K cNG cSG cKA cST cBH cNT cHE)) (M : MarkT K cNG cSG cKA cST cBH cNT cHE cNT 5)
    (cS : CalD P w K mg base CX0 5 "_law_same" (spSame C)) : FnOk P w K mg base CX0 7 f fd ["script"] (spLaw K) := by
  refine F.ok sc_law (fun vs H Q E h => ?_) (fun cdv A outer s H vs Q E hr h => ?_)
  · obtain ⟨a, ns, rfl, _⟩ := h
    rfl
  · obtain ⟨a, ns, rfl, hS, h63, q⟩ := h
    have sl : sizeLine = 16777216 := sizeLine_eq
    refine ⟨_, pss_cons (ps_set (i := 1) sc_law.nd rfl (Or.inl rfl) (pc cM hr pass0 (pa_cons (pv 0) pa_nil)))
      (pss_cons (ps_set (i := 2) sc_law.nd rfl (Or.inl rfl) (pc cP hr pass0 (pa_cons (pv 0) (pa_cons pe_int (pa_cons (pv 1) pa_nil)))))
      (pss_cons (ps_set (i := 3) sc_law.nd rfl (Or.inl rfl) (pe_op op_mod (pc cC hr pass0 (pa_cons (pv 0) (pa_cons pe_int pa_nil))) (pe_op op_add (pe_callB call_len_seq (by rfl) T.len PySem.boot_len (pa_cons (pv 2) pa_nil)) pe_int)))
      (pss_cons (ps_set (i := 4) sc_law.nd rfl (Or.inl rfl) (pe_op op_cat (pe_lst (pa_cons (pe_op op_add_str pe_str (pe_callTy call_str_int (by rfl) hstr (by decide +kernel) (pa_cons (pv 1) pa_nil))) pa_nil))
          (pe_lc (own := [("one", 5), ("other", 6)]) (g := gTup K 2 (gCons (gName 5) (gCons (gName 6) gNil))) (tt := tYes) (by rfl) sc_law.nd
            (pi_list (pe_op op_cat (pe_slice sl_list (pv 2) (po_some (pv 3)) po_none) (pe_slice sl_list (pv 2) po_none (po_some (pv 3)))))
            (blkOk_by (own := [("one", 5), ("other", 6)]) (N := ["script", "many", "pairs", "cut", "lines", "one", "other", "cell", "text", "line", "due", "found", "marks", "e", "k"]) (sc := defScope st_law) (by decide +kernel))
            (fun _ _ _ _ _ => pg_tup (by rfl) (pgs_cons (pg_name (i := 5) sc_law.nd rfl (Or.inl rfl)) (pgs_cons (pg_name (i := 6) sc_law.nd rfl (Or.inl rfl)) pgs_nil))) (fun _ _ _ _ _ => pts_nil)
            (fun _ _ _ _ _ => pe_op op_add_str (pe_op op_add_str (pe_callTy call_str_int (by rfl) hstr (by decide +kernel) (pa_cons (pv 5) pa_nil)) pe_str) (pe_callTy call_str_int (by rfl) hstr (by decide +kernel) (pa_cons (pv 6) pa_nil))))))
      (pss_cons (ps_set (i := 7) sc_law.nd rfl (Or.inl rfl) (pe_op op_mod (pc cC hr pass0 (pa_cons (pv 0) (pa_cons pe_int pa_nil))) (pe_op op_pow pe_int pe_int)))
      (pss_cons (ps_join (ps_if (pt_cmpR op_gt (pe_op op_mod (pv 7) pe_int) pe_int (nomark _)) (pss_one (ps_set (i := 4) sc_law.nd rfl (Or.inl rfl) (pc cSp hr pass0 (pa_cons (pv 4) (pa_cons (pe_op op_fdiv (pv 7) pe_int) pa_nil))))) pss_nil))
      (pss_cons (ps_set (i := 8) sc_law.nd rfl (Or.inl rfl) (pe_join pe_str (pe_lc (own := [("line", 9)]) (g := gName 9) (tt := tYes) (by rfl) sc_law.nd (pi_list (pv 4))
            (blkOk_by (own := [("line", 9)]) (N := ["script", "many", "pairs", "cut", "lines", "one", "other", "cell", "text", "line", "due", "found", "marks", "e", "k"]) (sc := defScope st_law) (by decide +kernel))
            (fun _ _ _ _ _ => pg_name (i := 9) sc_law.nd rfl (Or.inl rfl)) (fun _ _ _ _ _ => pts_nil) (fun _ _ _ _ _ => pe_op op_add_str (pv 9) pe_str))))
      (pss_cons (ps_join (ps_if (pt_cmpR op_eq (pe_op op_mod (pc cC hr pass0 (pa_cons (pv 0) (pa_cons pe_int pa_nil))) pe_int) pe_int (nomark _)) (pss_one (ps_set (i := 8) sc_law.nd rfl (Or.inl rfl) (pe_slice sl_str (pv 8) po_none (po_some (pe_un un_neg pe_int))))) pss_nil))
      (pss_cons (ps_set (i := 10) sc_law.nd rfl (Or.inl rfl) pe_non)
      (pss_cons (ps_join (ps_if (PW.pt (pw_and (pt_cmpR op_ne (pv 8) pe_str (nomark _)) (pw_and1 (pt_cmpR op_eq (pe_ix ix_str (pv 8) (pe_un un_neg pe_int) (fun _ _ => rfl)) pe_str (nomark _)))))
          (pss_one (ps_set (i := 10) sc_law.nd rfl (Or.inl rfl) (pc cD hr pass0 (pa_cons (pe_split (pe_slice sl_str (pv 8) po_none (po_some (pe_un un_neg pe_int))) pe_str) pa_nil)))) pss_nil))
      (pss_cons (ps_set (i := 11) sc_law.nd rfl (Or.inl rfl) pe_non)
      (pss_cons (ps_set (i := 12) sc_law.nd rfl (Or.inl rfl) (pe_lst pa_nil))
      (pss_cons (ps_try_as (i := 13) (tb := fun W => tAsg (tCallS (spRead C cNT) (WE W) (tCons (tVar 8) tNil)) (gName 11))
          (ts := fun a cls d => tAsg (tCallP (spMarks K cNG cSG cKA cST cBH cNT cHE) a cls d (tCons (tVar 13) tNil)) (gName 12)) (Wout := fun _ _ _ _ => False) rfl rfl sc_law.nd rfl rfl ⟨rfl, by decide, Or.inl gHE⟩ takes0
          (fun W pn xe tk _ => pss_one (ps_set (i := 11) sc_law.nd rfl (Or.inl rfl) (pcS cR hr (fun σ => passAt tk σ) (pa_cons (pv 8) pa_nil))))
          (fun a oe cls d pn hz hf => pss_one (ps_set (i := 12) sc_law.nd rfl (Or.inl rfl) (pcP (p := (a, oe)) cMk hr rfl rfl List.mem_cons_self hz hf (pa_cons (pv 13) pa_nil)))))
      (pss_cons (ps_if (pt_cmpR op_isN (pv 10) pe_non (nomark _)) (pss_one (ps_ret (pe_cmpR (op_eqD hr.units) (pv 12) (pe_marks (i := 14) (m := 5) rfl sc_law.nd (by show 14 < 15; decide) T.range (by rfl)
          (blkOk_by (own := [("k", 14)]) (N := ["script", "many", "pairs", "cut", "lines", "one", "other", "cell", "text", "line", "due", "found", "marks", "e", "k"]) (sc := defScope st_law) (by decide +kernel))
          (fun _ _ _ _ _ => pg_name (i := 14) sc_law.nd rfl (Or.inl rfl)) (fun _ _ _ _ _ => pv 14)) (nomark _)))) pss_nil)
      (pss_one (ps_ret (pe_and (pe_cmpR (op_eqD hr.units) (pv 12) (pe_lst pa_nil) (nomark _)) (pe_one (pc cS hr pass0 (pa_cons (pv 11) (pa_cons (pe_ix ix_tup (pv 10) pe_int (fun _ _ => rfl)) (pa_cons (pe_ix ix_tup (pv 10) pe_int (fun _ _ => rfl)) pa_nil))))))))))))))))))))), ?_⟩
    refine ⟨_, rfl, a, ns, rfl, hS, fun n n1 n20 => ?_⟩
    refine ⟨_, rfl, _, rfl, a, ns, 4, n, rfl, hS, n1, n20, fun H1 l E s1 _ hP wf _ => ?_⟩
    obtain ⟨ps, hps, rps⟩ := hP.ex
    have pl : ps.length ≤ 400 := by
      rw [Paired.length rps]
      exact wf.len n20
    refine ⟨_, rfl, a, ns, 1, rfl, s1.seq hS, _, rfl, l, _, rfl, .inl (SqL.of hps), _, _, rfl, rfl, _, _, rfl, rfl, (by show (0 : Int) < (ps.length : Int) + 1; omega), ?_⟩
    dsimp only
    generalize ns.getD 1 0 % ((ps.length : Int) + 1) = ct
    -- the lines
    have ln := len_num (i := n) (by omega)
    have hl0 : (("guests " : Str) ++ Str.ofString (toString (n : Int))).length ≤ 20 := by
      rw [len_cat, len_guests]
      omega
    refine ⟨_, rfl, _, rfl, log2_small (i := n) (by omega), _, _, rfl, rfl, ?_, (by show 1 ≤ sizeLine; decide), ?_⟩
    · rw [len_guests]
      omega
    generalize (("guests " : Str) ++ Str.ofString (toString (n : Int))) = hd0 at hl0 ⊢
    intro q0 nq0
    have s2 := same_new (.lst [V.str hd0]) nq0
    have hq0 : upd H1 q0 (.lst [V.str hd0]) q0 = some (.lst [V.str hd0]) := upd_same
    refine ⟨_, rfl, _, rfl, _, rfl, l, _, rfl, SqL.of (s2 _ _ hps), fun c1 nc1 => ?_⟩
    have s3 := same_new (.lst (cutV ps (some ct) none)) nc1
    refine ⟨_, rfl, _, rfl, _, rfl, l, _, rfl, SqL.of (s3 _ _ (s2 _ _ hps)), fun c2 nc2 => ?_⟩
    have s4 := same_new (.lst (cutV ps none (some ct))) nc2
    have z1 := cutV_length ps (some ct) none
    have z2 := cutV_length ps none (some ct)
    refine ⟨c1, c2, _, _, rfl, rfl, s4 _ _ upd_same, upd_same, by omega, fun c3 nc3 => ?_⟩
    have s5 := same_new (.lst (cutV ps (some ct) none ++ cutV ps none (some ct))) nc3
    have S25 := s2.trans (s3.trans (s4.trans s5))
    have hq5 := (s3.trans (s4.trans s5)) _ _ hq0
    refine ⟨c3, rfl, ⟨_, SqL.of upd_same⟩, fun D hD => ?_⟩
    have hc3 : upd (upd (upd (upd H1 q0 (.lst [V.str hd0])) c1 (.lst (cutV ps (some ct) none))) c2 (.lst (cutV ps none (some ct)))) c3 (.lst (cutV ps (some ct) none ++ cutV ps none (some ct))) c3 = some (.lst (cutV ps (some ct) none ++ cutV ps none (some ct))) := upd_same
    have zmem : ∀ v ∈ cutV ps (some ct) none ++ cutV ps none (some ct), v ∈ ps := fun v hv => by
      rcases List.mem_append.mp hv with hv | hv
      · exact cut_mem _ _ _ v hv
      · exact cut_mem _ _ _ v hv
    have zlen : (cutV ps (some ct) none ++ cutV ps none (some ct)).length ≤ 800 := by
      rw [List.length_append]
      omega
    generalize upd (upd (upd (upd H1 q0 (.lst [V.str hd0])) c1 (.lst (cutV ps (some ct) none))) c2 (.lst (cutV ps none (some ct)))) c3 (.lst (cutV ps (some ct) none ++ cutV ps none (some ct))) = H5 at S25 hq5 hc3 hD ⊢
    clear s2 s3 s4 s5 nc1 nc2 nc3
    generalize cutV ps (some ct) none ++ cutV ps none (some ct) = zs at zmem zlen hc3
    refine lc_list (K := K) (a := c3) (xs := zs) (fun i H' => Same H5 H' ∧ ∃ ss : List Str, H' D = some (.lst (tV ss)) ∧ ss.length ≤ i ∧ ∀ s ∈ ss, s.length ≤ 20) ⟨same_new _ hD, [], upd_same, Nat.le_refl _, fun s hs => by cases hs⟩ (fun i H' _ ⟨s6, _⟩ => SqL.of (s6 _ _ hc3)) ?_ ?_
    · rintro i v H6 hi ⟨s6, ss, h6, b6, m6⟩
      have il := (List.getElem?_eq_some_iff.mp hi).1
      obtain ⟨pr, hpr, hv⟩ := (rps.keep fun b ys z => s6 _ _ (S25 _ _ z)).mem v (zmem v (List.mem_of_getElem? hi))
      obtain ⟨b, rfl, hb⟩ := hv
      have pw := wf.2 pr hpr
      have a1 := len_num (i := pr.1) (by omega)
      have a2 := len_num (i := pr.2) (by omega)
      refine ⟨b, _, rfl, SqT.of hb, rfl, _, _, rfl, _, _, rfl, rfl, rfl, yes_ite ?_⟩
      refine ⟨_, rfl, _, rfl, log2_small (i := pr.1) (by omega), _, _, rfl, rfl, ?_, _, rfl, _, rfl, log2_small (i := pr.2) (by omega), _, _, rfl, rfl, ?_, _, h6, ?_, same_keepNew s6 hD (Keep.put D _), ss ++ [Str.ofString (toString (pr.1 : Int)) ++ (" " : Str) ++ Str.ofString (toString (pr.2 : Int))], ?_, ?_, ?_⟩
      · rw [len_sp]
        omega
      · rw [len_cat, len_sp]
        omega
      · rw [tV_len]
        omega
      · rw [upd_same]
        unfold tV
        rw [List.map_append]
        rfl
      · rw [List.length_append, List.length_singleton]
        omega
      · intro s hs
        rcases List.mem_append.mp hs with hs | hs
        · exact m6 s hs
        · rw [List.mem_singleton.mp hs, len_cat, len_cat, len_sp]
          omega
    rintro H6 ⟨s6, ss, h6, b6, m6⟩
    refine ⟨q0, D, _, _, rfl, rfl, s6 _ _ hq5, h6, (by rw [tV_len]; show 1 + ss.length ≤ _; omega), fun lq nlq => ?_⟩
    have s7 := same_new (.lst (tV (hd0 :: ss))) nlq
    have hlq : upd H6 lq (.lst (tV (hd0 :: ss))) lq = some (.lst (tV (hd0 :: ss))) := upd_same
    have m7 : ∀ s ∈ hd0 :: ss, s.length ≤ 20 := fun s hs => by
      rcases List.mem_cons.mp hs with rfl | hs
      · exact hl0
      · exact m6 s hs
    have k1 : 1 ≤ (hd0 :: ss).length := by
      rw [List.length_cons]
      omega
    have k9 : (hd0 :: ss).length ≤ 900 := by
      rw [List.length_cons]
      omega
    have S7 : Same H (upd H6 lq (.lst (tV (hd0 :: ss)))) := s1.trans (S25.trans (s6.trans s7))
    show tSeq _ _ _ _ (upd H6 lq (.lst (tV (hd0 :: ss))))
    generalize upd H6 lq (.lst (tV (hd0 :: ss))) = H7 at hlq S7 ⊢
    generalize hd0 :: ss = us at hlq m7 k1 k9
    clear h6 hq5 hc3 s7
    -- spoiled, or not
    refine ⟨_, rfl, a, ns, 2, rfl, S7.seq hS, _, _, rfl, rfl, ⟨by decide, by decide, by decide⟩, _, _, rfl, rfl, (by show (0 : Int) < 10 ^ (12 : Int).toNat; decide), ?_⟩
    have g1 : 0 ≤ ns.getD 2 0 % 10 ^ (12 : Int).toNat := Int.emod_nonneg _ (by decide)
    dsimp only
    generalize ns.getD 2 0 % 10 ^ (12 : Int).toNat = cl at g1
    refine ⟨fun σ' H' => ∃ (l2 : Addr) (us2 : List Str), σ' = [some (V.ref a), some (V.int (n : Int)), some (V.ref l), some (V.int ct), some (V.ref l2), none, none, some (V.int cl), none, none, none, none, none, none, none] ∧ Same H H' ∧ H' l2 = some (.lst (tV us2)) ∧ us2.length ≤ 2000 ∧ ∀ s ∈ us2, s.length ≤ 60, ?_, ?_⟩
    · refine ⟨_, rfl, _, _, rfl, rfl, (by show (0 : Int) < 4; decide), _, _, rfl, rfl, _, rfl, ite2 (fun c => ?_) (fun c => ⟨lq, us, rfl, S7, hlq, by omega, fun s hs => by have := m7 s hs; omega⟩)⟩
      refine ⟨_, rfl, _, rfl, _, _, rfl, rfl, ⟨by decide, by decide⟩, lq, us, _, rfl, hlq, k1, k9, m7, by omega, fun H8 l8 us8 s8 h8 b8 m8 => ?_⟩
      exact ⟨l8, us8, rfl, S7.trans s8, h8, b8, m8⟩
    rintro σ' H8 ⟨l2, us2, rfl, S8, h8, b8, m8⟩
    -- the text
    refine ⟨⟨_, rfl⟩, _, rfl, l2, rfl, ⟨_, SqL.of h8⟩, fun D2 hD2 => ?_⟩
    refine lc_list (K := K) (a := l2) (xs := tV us2) (fun i H' => Same H8 H' ∧ ∃ ys : List Str, H' D2 = some (.lst (tV ys)) ∧ ys.length ≤ i ∧ ∀ s ∈ ys, s.length ≤ 61) ⟨same_new _ hD2, [], upd_same, Nat.le_refl _, fun s hs => by cases hs⟩ (fun i H' _ ⟨s9, _⟩ => SqL.of (s9 _ _ h8)) ?_ ?_
    · rintro i v H9 hi ⟨s9, ys, h9, b9, m9⟩
      obtain ⟨x, hx, rfl⟩ := tV_of hi
      have il := (List.getElem?_eq_some_iff.mp hx).1
      have lx := m8 x (List.mem_of_getElem? hx)
      refine ⟨rfl, yes_ite ?_⟩
      refine ⟨_, rfl, _, _, rfl, rfl, ?_, _, h9, ?_, same_keepNew s9 hD2 (Keep.put D2 _), ys ++ [x ++ ("\n" : Str)], ?_, ?_, ?_⟩
      · rw [len_nl]
        omega
      · rw [tV_len]
        omega
      · rw [upd_same]
        unfold tV
        rw [List.map_append]
        rfl
      · rw [List.length_append, List.length_singleton]
        omega
      · intro s hs
        rcases List.mem_append.mp hs with hs | hs
        · exact m9 s hs
        · rw [List.mem_singleton.mp hs, len_cat, len_nl]
          omega
    rintro H9 ⟨s9, ys, h9, b9, m9⟩
    rw [tV_len] at b9
    obtain ⟨jf, jl⟩ := join_all m9 (by omega)
    have S9 := S8.trans s9
    refine ⟨("" : Str), D2, ys, rfl, rfl, .inl (SqL.of h9), jf, ?_⟩
    generalize Txt.join ("" : Str) ys = z at jl
    -- cut at its end, or not
    refine ⟨fun σ' H' => ∃ t : List Nat, σ' = [some (V.ref a), some (V.int (n : Int)), some (V.ref l), some (V.int ct), some (V.ref l2), none, none, some (V.int cl), some (V.str (SX.S t)), none, none, none, none, none, none] ∧ H' = H9 ∧ t.length ≤ 122000, ?_, ?_⟩
    · refine ⟨_, rfl, a, ns, 3, rfl, S9.seq hS, _, _, rfl, rfl, (by show (0 : Int) < 16; decide), rfl, _, rfl, ite2 (fun c => ?_) (fun c => ?_)⟩
      · refine ⟨_, rfl, _, rfl, _, rfl, z, rfl, by omega, (cutS z none (some (-1))).cps.toList, ?_, rfl, ?_⟩
        · rw [SX.S_tl]
          rfl
        · rw [Array.length_toList]
          exact Nat.le_trans (cutS_length z none (some (-1))) jl
      · refine ⟨z.cps.toList, ?_, rfl, ?_⟩
        · rw [SX.S_tl]
          rfl
        · rw [Array.length_toList]
          exact jl
    rintro σ' H9' ⟨t, rfl, rfl, lt⟩
    have zl : (SX.S t).length = t.length := SX.S_len t
    -- what is due
    refine ⟨fun σ' H' => ∃ v10 : V, σ' = [some (V.ref a), some (V.int (n : Int)), some (V.ref l), some (V.int ct), some (V.ref l2), none, none, some (V.int cl), some (V.str (SX.S t)), none, some v10, none, none, none, none] ∧ Same H H' ∧
        ((readF t = none ∧ v10 = .non) ∨ ∃ (n' : Nat) (L : List Pr) (tt l3 : Addr), readF t = some (n', L) ∧ v10 = .ref tt ∧ H' tt = some (.tup [.int (n' : Int), .ref l3]) ∧ PairsAt H' l3 L ∧ WF n' L), ?_, ?_⟩
    · refine ⟨_, rfl, rfl, _, rfl, ite2 (fun c => ?_) (fun c => ?_)⟩
      · have tne : t ≠ [] := fun e => by
          rw [e, lit_e] at c
          simp at c
        obtain ⟨t', cc, et⟩ : ∃ t' cc, t = t' ++ [cc] := by
          rcases List.eq_nil_or_concat t with e | ⟨t', cc, e⟩
          · exact absurd e tne
          · exact ⟨t', cc, by rw [e, List.concat_eq_append]⟩
        subst et
        have ix : atI (SX.S (t' ++ [cc])).cps.toList (-1) = some cc := by
          show atI (t' ++ [cc]).toArray.toList (-1) = some cc
          exact atI_last _ _
        refine ⟨_, rfl, _, rfl, _, _, cc, rfl, rfl, by omega, ix, rfl, _, rfl, ite2 (fun c2 => ?_) (fun c2 => ?_)⟩
        · have c2 := of_decide_eq_true c2
          rw [one_S, lit_nl, str_S] at c2
          have e10 : cc = 10 := by simpa using c2
          subst e10
          have er : readF (t' ++ [10]) = dueF (cutC 10 t') := by
            unfold readF
            rw [List.getLast?_concat, if_pos rfl, List.dropLast_concat]
          have lt' : t'.length ≤ 122000 := by
            rw [List.length_append] at lt
            omega
          refine ⟨_, rfl, _, rfl, _, rfl, _, rfl, by omega, ?_⟩
          rw [show (-(1 : Int)) = -1 from rfl, cut_butlast]
          refine ⟨⟨_, rfl⟩, SX.S t', SX.S [10], rfl, by rw [lit_nl], rfl, by rw [SX.S_len]; omega, fun qq nqq => ?_⟩
          rw [split_cut (by decide)]
          have s10 := same_new (.lst (sV (cutC 10 t'))) nqq
          refine ⟨qq, cutC 10 t', rfl, upd_same, cutC_ne 10 t', fun x hx => by have := cutC_part t' x hx; omega, fun e H' s' => ?_, fun n' L e H' tt l3 s' htt hP3 wf3 _ => ?_⟩
          · exact ⟨_, rfl, S9.trans (s10.trans s'), .inl ⟨by rw [er]; exact e, rfl⟩⟩
          · exact ⟨_, rfl, S9.trans (s10.trans s'), .inr ⟨n', L, tt, l3, by rw [er]; exact e, rfl, htt, hP3, wf3⟩⟩
        · refine ⟨_, rfl, S9, .inl ⟨?_, rfl⟩⟩
          unfold readF
          rw [List.getLast?_concat, if_neg]
          intro e
          have e := Option.some.inj e
          exact c2 (decide_eq_true (by rw [e, one_S, lit_nl]))
      · refine ⟨_, rfl, S9, .inl ⟨?_, rfl⟩⟩
        have te : t = [] := by
          by_cases e : t = []
          · exact e
          · refine absurd ?_ c
            rw [lit_e]
            simp only [str_S, Bool.not_eq_true', decide_eq_false_iff_not]
            exact e
        rw [te]
        rfl
    rintro σ' H10 ⟨v10, rfl, S10, hv⟩
    refine ⟨Nat.zero_le _, fun m0 nm0 => ?_⟩
    have s11 := same_new (.lst []) nm0
    have hm0 : upd H10 m0 (.lst []) m0 = some (.lst (bV [])) := upd_same
    generalize upd H10 m0 (.lst []) = H11 at s11 hm0 ⊢
    rcases hv with ⟨no, rfl⟩ | ⟨n', L, tt, l3, yes, rfl, htt, hP3, wf3⟩
    · refine ⟨_, rfl, t, rfl, by omega, fun _ H12 s12 => ?_, fun n' L e => by rw [no] at e; cases e⟩
      refine ⟨true, M.h, fun _ x _ => ?_, fun z => Bool.noConfusion z⟩
      refine ⟨_, rfl, cNT, 5, rfl, rfl, rfl, M, fun H13 l13 s13 nl13 h13 => ?_⟩
      refine ⟨_, rfl, rfl, _, rfl, iteT ?_⟩
      refine ⟨_, rfl, fun D3 H14 nD3 s14 h14 => ?_⟩
      refine ⟨bD (marks 5), bD (marks 5), bD_dp (SqL.of (s14 _ _ h13)), bD_dp (SqL.of h14), bD_shaped _, bD_shaped _, ?_⟩
      rw [bD_refl]
      exact q _
    · refine ⟨_, rfl, t, rfl, by omega, (fun e => by rw [yes] at e; cases e), fun n2 L2 e H12 x d12 s12 nx nd hall12 => ?_⟩
      have en : n2 = n' ∧ L2 = L := by
        rw [yes] at e
        injection e with e
        injection e with e1 e2
        exact ⟨e1.symm, e2.symm⟩
      obtain ⟨rfl, rfl⟩ := en
      have s1112 := s11.trans s12
      refine ⟨_, rfl, rfl, _, rfl, iteF ?_⟩
      refine ⟨_, rfl, Nat.zero_le _, fun e0 ne0 => ?_⟩
      have s13 := same_new (.lst []) ne0
      have he0 : upd H12 e0 (.lst []) e0 = some (.lst (bV [])) := upd_same
      refine ⟨bD [], bD [], bD_dp (SqL.of (s13 _ _ (s12 _ _ hm0))), bD_dp (SqL.of he0), bD_shaped _, bD_shaped _, ?_⟩
      rw [bD_refl]
      refine ⟨true, rfl, iteT ?_⟩
      have s3 := s1112.trans s13
      have htt' := s3 _ _ htt
      refine ⟨_, rfl, _, rfl, tt, _, _, _, rfl, rfl, SqT.of htt', atI_nat (j := 1) rfl, _, rfl, tt, _, _, _, rfl, rfl, SqT.of htt', atI_nat (j := 0) rfl, ?_⟩
      exact ⟨x, l3, d12, n2, L2, L2, rfl, hall12.same s13, hP3.same s3, wf3, Eqv.refl L2, fun H15 _ => q H15⟩
end
end KT

/-! what the top has written, each def in order -/
namespace KT
open PySem PySem.Spec PyProof.Rows L2
theorem all_mk {P : Program} {w : World} {K : PySem.W.Frag} {h : Heap} {mg : Str → Option Value} {fa C cNG cSG cKA cST cBH cNT cHE f0 f1 f2 f3 f4 f5 f6 f7 f8 f9 f10 f11 f12 f13 f14 f15 f16 f17 f18 f19 f20 f21 f22 f23 : Addr} {tgr : Tok} {tF : Tok} (X : K.In h) (G : h.Ns mainGlobals mg) (hfa : mg "law" = some (.ref fa))
    {od0 an0 od1 an1 od2 an2 od3 an3 od4 an4 od5 an5 od6 an6 od7 an7 od8 an8 od9 an9 od10 an10 od11 an11 od12 an12 od13 an13 od14 an14 od15 an15 od16 an16 od17 an17 od18 an18 od19 an19 od20 an20 od21 an21 od22 an22 od23 an23 : Option Addr} {sl0 sl1 sl2 sl3 sl4 sl5 sl6 sl7 sl8 sl9 sl10 sl11 sl12 sl13 sl14 sl15 sl16 sl17 sl18 sl19 sl20 sl21 sl22 sl23 : Array (Option Value)} {oc0 kV0 dc0 pm0 cd0 ct0 oc1 kV1 dc1 pm1 cd1 ct1 oc2 kV2 dc2 pm2 cd2 ct2 oc3 kV3 dc3 pm3 cd3 ct3 oc4 kV4 dc4 pm4 cd4 ct4 oc5 kV5 dc5 pm5 cd5 ct5 oc6 kV6 dc6 pm6 cd6 ct6 oc7 kV7 dc7 pm7 cd7 ct7 oc8 kV8 dc8 pm8 cd8 ct8 oc9 kV9 dc9 pm9 cd9 ct9 oc10 kV10 dc10 pm10 cd10 ct10 oc11 kV11 dc11 pm11 cd11 ct11 oc12 kV12 dc12 pm12 cd12 ct12 oc13 kV13 dc13 pm13 cd13 ct13 oc14 kV14 dc14 pm14 cd14 ct14 oc15 kV15 dc15 pm15 cd15 ct15 oc16 kV16 dc16 pm16 cd16 ct16 oc17 kV17 dc17 pm17 cd17 ct17 oc18 kV18 dc18 pm18 cd18 ct18 oc19 kV19 dc19 pm19 cd19 ct19 oc20 kV20 dc20 pm20 cd20 ct20 oc21 kV21 dc21 pm21 cd21 ct21 oc22 kV22 dc22 pm22 cd22 ct22 oc23 kV23 dc23 pm23 cd23 ct23 : Value}
    (aC : PySem.W.nsIn K mainGlobals "Hall" = some (some (.ref C)))
    (gcNG : PySem.W.nsIn K mainGlobals "NoGuest" = some (some (.ref cNG)))
    (ecNG : PySem.W.excIn K cNG [.type "ValueError", .type "Exception", .type "BaseException", .type "object"] "ValueError.__new__" = true)
    (kcNG : PySem.W.keepIn K (.ref cNG) = true)
    (bcNG : PySem.W.subIn K (.ref cNG) (.type "BaseException") = some true)
    (tcNG : PySem.W.typeIn K (.ref cNG) = some (.type "type"))
    (gcSG : PySem.W.nsIn K mainGlobals "SameGuest" = some (some (.ref cSG)))
    (ecSG : PySem.W.excIn K cSG [.type "ValueError", .type "Exception", .type "BaseException", .type "object"] "ValueError.__new__" = true)
    (kcSG : PySem.W.keepIn K (.ref cSG) = true)
    (bcSG : PySem.W.subIn K (.ref cSG) (.type "BaseException") = some true)
    (tcSG : PySem.W.typeIn K (.ref cSG) = some (.type "type"))
    (gcKA : PySem.W.nsIn K mainGlobals "KnowAlready" = some (some (.ref cKA)))
    (ecKA : PySem.W.excIn K cKA [.type "ValueError", .type "Exception", .type "BaseException", .type "object"] "ValueError.__new__" = true)
    (kcKA : PySem.W.keepIn K (.ref cKA) = true)
    (bcKA : PySem.W.subIn K (.ref cKA) (.type "BaseException") = some true)
    (tcKA : PySem.W.typeIn K (.ref cKA) = some (.type "type"))
    (gcST : PySem.W.nsIn K mainGlobals "Strangers" = some (some (.ref cST)))
    (ecST : PySem.W.excIn K cST [.type "ValueError", .type "Exception", .type "BaseException", .type "object"] "ValueError.__new__" = true)
    (kcST : PySem.W.keepIn K (.ref cST) = true)
    (bcST : PySem.W.subIn K (.ref cST) (.type "BaseException") = some true)
    (tcST : PySem.W.typeIn K (.ref cST) = some (.type "type"))
    (gcBH : PySem.W.nsIn K mainGlobals "BadHall" = some (some (.ref cBH)))
    (ecBH : PySem.W.excIn K cBH [.type "ValueError", .type "Exception", .type "BaseException", .type "object"] "ValueError.__new__" = true)
    (kcBH : PySem.W.keepIn K (.ref cBH) = true)
    (bcBH : PySem.W.subIn K (.ref cBH) (.type "BaseException") = some true)
    (tcBH : PySem.W.typeIn K (.ref cBH) = some (.type "type"))
    (gcNT : PySem.W.nsIn K mainGlobals "NoText" = some (some (.ref cNT)))
    (ecNT : PySem.W.excIn K cNT [.type "ValueError", .type "Exception", .type "BaseException", .type "object"] "ValueError.__new__" = true)
    (kcNT : PySem.W.keepIn K (.ref cNT) = true)
    (bcNT : PySem.W.subIn K (.ref cNT) (.type "BaseException") = some true)
    (tcNT : PySem.W.typeIn K (.ref cNT) = some (.type "type"))
    (gr : PySem.W.nsIn K mainGlobals "GREATEST" = some (some (.int 20 tgr)))
    (a0 : PySem.W.findIn K (.ref C) "__init__" = some (some (.ref f0)))
    (i0 : PySem.W.isFn K (.ref f0) = true)
    (l0 : K.lookup f0 = some ⟨oc0, od0, .func (PySem.W.fnOf "__init__" "Hall.__init__" (defArgs st_Hall_init) (defBody st_Hall_init) (defScope st_Hall_init) .none kV0 dc0 pm0 an0 cd0 ct0), sl0⟩)
    (c0 : PySem.W.codeIn K cd0 "Hall.__init__" = true)
    (k0 : PySem.W.keepIn K (.ref f0) = true)
    (a1 : PySem.W.findIn K (.ref C) "many" = some (some (.ref f1)))
    (i1 : PySem.W.isFn K (.ref f1) = true)
    (l1 : K.lookup f1 = some ⟨oc1, od1, .func (PySem.W.fnOf "many" "Hall.many" (defArgs st_Hall_many) (defBody st_Hall_many) (defScope st_Hall_many) .none kV1 dc1 pm1 an1 cd1 ct1), sl1⟩)
    (c1 : PySem.W.codeIn K cd1 "Hall.many" = true)
    (k1 : PySem.W.keepIn K (.ref f1) = true)
    (a2 : PySem.W.findIn K (.ref C) "see" = some (some (.ref f2)))
    (i2 : PySem.W.isFn K (.ref f2) = true)
    (l2 : K.lookup f2 = some ⟨oc2, od2, .func (PySem.W.fnOf "see" "Hall.see" (defArgs st_Hall_see) (defBody st_Hall_see) (defScope st_Hall_see) .none kV2 dc2 pm2 an2 cd2 ct2), sl2⟩)
    (c2 : PySem.W.codeIn K cd2 "Hall.see" = true)
    (k2 : PySem.W.keepIn K (.ref f2) = true)
    (a3 : PySem.W.findIn K (.ref C) "see_two" = some (some (.ref f3)))
    (i3 : PySem.W.isFn K (.ref f3) = true)
    (l3 : K.lookup f3 = some ⟨oc3, od3, .func (PySem.W.fnOf "see_two" "Hall.see_two" (defArgs st_Hall_see_two) (defBody st_Hall_see_two) (defScope st_Hall_see_two) .none kV3 dc3 pm3 an3 cd3 ct3), sl3⟩)
    (c3 : PySem.W.codeIn K cd3 "Hall.see_two" = true)
    (k3 : PySem.W.keepIn K (.ref f3) = true)
    (a4 : PySem.W.findIn K (.ref C) "know" = some (some (.ref f4)))
    (i4 : PySem.W.isFn K (.ref f4) = true)
    (l4 : K.lookup f4 = some ⟨oc4, od4, .func (PySem.W.fnOf "know" "Hall.know" (defArgs st_Hall_know) (defBody st_Hall_know) (defScope st_Hall_know) .none kV4 dc4 pm4 an4 cd4 ct4), sl4⟩)
    (c4 : PySem.W.codeIn K cd4 "Hall.know" = true)
    (k4 : PySem.W.keepIn K (.ref f4) = true)
    (a5 : PySem.W.findIn K (.ref C) "meet" = some (some (.ref f5)))
    (i5 : PySem.W.isFn K (.ref f5) = true)
    (l5 : K.lookup f5 = some ⟨oc5, od5, .func (PySem.W.fnOf "meet" "Hall.meet" (defArgs st_Hall_meet) (defBody st_Hall_meet) (defScope st_Hall_meet) .none kV5 dc5 pm5 an5 cd5 ct5), sl5⟩)
    (c5 : PySem.W.codeIn K cd5 "Hall.meet" = true)
    (k5 : PySem.W.keepIn K (.ref f5) = true)
    (a6 : PySem.W.findIn K (.ref C) "known" = some (some (.ref f6)))
    (i6 : PySem.W.isFn K (.ref f6) = true)
    (l6 : K.lookup f6 = some ⟨oc6, od6, .func (PySem.W.fnOf "known" "Hall.known" (defArgs st_Hall_known) (defBody st_Hall_known) (defScope st_Hall_known) .none kV6 dc6 pm6 an6 cd6 ct6), sl6⟩)
    (c6 : PySem.W.codeIn K cd6 "Hall.known" = true)
    (k6 : PySem.W.keepIn K (.ref f6) = true)
    (a7 : PySem.W.findIn K (.ref C) "strangers" = some (some (.ref f7)))
    (i7 : PySem.W.isFn K (.ref f7) = true)
    (l7 : K.lookup f7 = some ⟨oc7, od7, .func (PySem.W.fnOf "strangers" "Hall.strangers" (defArgs st_Hall_strangers) (defBody st_Hall_strangers) (defScope st_Hall_strangers) .none kV7 dc7 pm7 an7 cd7 ct7), sl7⟩)
    (c7 : PySem.W.codeIn K cd7 "Hall.strangers" = true)
    (k7 : PySem.W.keepIn K (.ref f7) = true)
    (a8 : PySem.W.nsIn K mainGlobals "number_of" = some (some (.ref f8)))
    (l8 : K.lookup f8 = some ⟨oc8, od8, .func (PySem.W.fnOf "number_of" "number_of" (defArgs st_number_of) (defBody st_number_of) (defScope st_number_of) .none kV8 dc8 pm8 an8 cd8 ct8), sl8⟩)
    (c8 : PySem.W.codeIn K cd8 "number_of" = true)
    (k8 : PySem.W.keepIn K (.ref f8) = true)
    (a9 : PySem.W.nsIn K mainGlobals "met" = some (some (.ref f9)))
    (l9 : K.lookup f9 = some ⟨oc9, od9, .func (PySem.W.fnOf "met" "met" (defArgs st_met) (defBody st_met) (defScope st_met) .none kV9 dc9 pm9 an9 cd9 ct9), sl9⟩)
    (c9 : PySem.W.codeIn K cd9 "met" = true)
    (k9 : PySem.W.keepIn K (.ref f9) = true)
    (a10 : PySem.W.nsIn K mainGlobals "read" = some (some (.ref f10)))
    (l10 : K.lookup f10 = some ⟨oc10, od10, .func (PySem.W.fnOf "read" "read" (defArgs st_read) (defBody st_read) (defScope st_read) .none kV10 dc10 pm10 an10 cd10 ct10), sl10⟩)
    (c10 : PySem.W.codeIn K cd10 "read" = true)
    (k10 : PySem.W.keepIn K (.ref f10) = true)
    (a11 : PySem.W.nsIn K mainGlobals "_law_cell_at" = some (some (.ref f11)))
    (l11 : K.lookup f11 = some ⟨oc11, od11, .func (PySem.W.fnOf "_law_cell_at" "_law_cell_at" (defArgs st_l_cell_at) (defBody st_l_cell_at) (defScope st_l_cell_at) .none kV11 dc11 pm11 an11 cd11 ct11), sl11⟩)
    (c11 : PySem.W.codeIn K cd11 "_law_cell_at" = true)
    (k11 : PySem.W.keepIn K (.ref f11) = true)
    (a12 : PySem.W.nsIn K mainGlobals "_law_whole" = some (some (.ref f12)))
    (l12 : K.lookup f12 = some ⟨oc12, od12, .func (PySem.W.fnOf "_law_whole" "_law_whole" (defArgs st_l_whole) (defBody st_l_whole) (defScope st_l_whole) .none kV12 dc12 pm12 an12 cd12 ct12), sl12⟩)
    (c12 : PySem.W.codeIn K cd12 "_law_whole" = true)
    (k12 : PySem.W.keepIn K (.ref f12) = true)
    (a13 : PySem.W.nsIn K mainGlobals "_law_many" = some (some (.ref f13)))
    (l13 : K.lookup f13 = some ⟨oc13, od13, .func (PySem.W.fnOf "_law_many" "_law_many" (defArgs st_l_many) (defBody st_l_many) (defScope st_l_many) .none kV13 dc13 pm13 an13 cd13 ct13), sl13⟩)
    (c13 : PySem.W.codeIn K cd13 "_law_many" = true)
    (k13 : PySem.W.keepIn K (.ref f13) = true)
    (a14 : PySem.W.nsIn K mainGlobals "_law_pairs_by" = some (some (.ref f14)))
    (l14 : K.lookup f14 = some ⟨oc14, od14, .func (PySem.W.fnOf "_law_pairs_by" "_law_pairs_by" (defArgs st_l_pairs_by) (defBody st_l_pairs_by) (defScope st_l_pairs_by) .none kV14 dc14 pm14 an14 cd14 ct14), sl14⟩)
    (c14 : PySem.W.codeIn K cd14 "_law_pairs_by" = true)
    (k14 : PySem.W.keepIn K (.ref f14) = true)
    (a15 : PySem.W.nsIn K mainGlobals "_law_numbers" = some (some (.ref f15)))
    (l15 : K.lookup f15 = some ⟨oc15, od15, .func (PySem.W.fnOf "_law_numbers" "_law_numbers" (defArgs st_l_numbers) (defBody st_l_numbers) (defScope st_l_numbers) .none kV15 dc15 pm15 an15 cd15 ct15), sl15⟩)
    (c15 : PySem.W.codeIn K cd15 "_law_numbers" = true)
    (k15 : PySem.W.keepIn K (.ref f15) = true)
    (a16 : PySem.W.nsIn K mainGlobals "_law_known" = some (some (.ref f16)))
    (l16 : K.lookup f16 = some ⟨oc16, od16, .func (PySem.W.fnOf "_law_known" "_law_known" (defArgs st_l_known) (defBody st_l_known) (defScope st_l_known) .none kV16 dc16 pm16 an16 cd16 ct16), sl16⟩)
    (c16 : PySem.W.codeIn K cd16 "_law_known" = true)
    (k16 : PySem.W.keepIn K (.ref f16) = true)
    (a17 : PySem.W.nsIn K mainGlobals "_law_same" = some (some (.ref f17)))
    (l17 : K.lookup f17 = some ⟨oc17, od17, .func (PySem.W.fnOf "_law_same" "_law_same" (defArgs st_l_same) (defBody st_l_same) (defScope st_l_same) .none kV17 dc17 pm17 an17 cd17 ct17), sl17⟩)
    (c17 : PySem.W.codeIn K cd17 "_law_same" = true)
    (k17 : PySem.W.keepIn K (.ref f17) = true)
    (a18 : PySem.W.nsIn K mainGlobals "_law_marks_of" = some (some (.ref f18)))
    (l18 : K.lookup f18 = some ⟨oc18, od18, .func (PySem.W.fnOf "_law_marks_of" "_law_marks_of" (defArgs st_l_marks_of) (defBody st_l_marks_of) (defScope st_l_marks_of) .none kV18 dc18 pm18 an18 cd18 ct18), sl18⟩)
    (c18 : PySem.W.codeIn K cd18 "_law_marks_of" = true)
    (k18 : PySem.W.keepIn K (.ref f18) = true)
    (a19 : PySem.W.nsIn K mainGlobals "_law_sign_by" = some (some (.ref f19)))
    (l19 : K.lookup f19 = some ⟨oc19, od19, .func (PySem.W.fnOf "_law_sign_by" "_law_sign_by" (defArgs st_l_sign_by) (defBody st_l_sign_by) (defScope st_l_sign_by) .none kV19 dc19 pm19 an19 cd19 ct19), sl19⟩)
    (c19 : PySem.W.codeIn K cd19 "_law_sign_by" = true)
    (k19 : PySem.W.keepIn K (.ref f19) = true)
    (a20 : PySem.W.nsIn K mainGlobals "_law_spoiled" = some (some (.ref f20)))
    (l20 : K.lookup f20 = some ⟨oc20, od20, .func (PySem.W.fnOf "_law_spoiled" "_law_spoiled" (defArgs st_l_spoiled) (defBody st_l_spoiled) (defScope st_l_spoiled) .none kV20 dc20 pm20 an20 cd20 ct20), sl20⟩)
    (c20 : PySem.W.codeIn K cd20 "_law_spoiled" = true)
    (k20 : PySem.W.keepIn K (.ref f20) = true)
    (a21 : PySem.W.nsIn K mainGlobals "_law_number" = some (some (.ref f21)))
    (l21 : K.lookup f21 = some ⟨oc21, od21, .func (PySem.W.fnOf "_law_number" "_law_number" (defArgs st_l_number) (defBody st_l_number) (defScope st_l_number) .none kV21 dc21 pm21 an21 cd21 ct21), sl21⟩)
    (c21 : PySem.W.codeIn K cd21 "_law_number" = true)
    (k21 : PySem.W.keepIn K (.ref f21) = true)
    (a22 : PySem.W.nsIn K mainGlobals "_law_due" = some (some (.ref f22)))
    (l22 : K.lookup f22 = some ⟨oc22, od22, .func (PySem.W.fnOf "_law_due" "_law_due" (defArgs st_l_due) (defBody st_l_due) (defScope st_l_due) .none kV22 dc22 pm22 an22 cd22 ct22), sl22⟩)
    (c22 : PySem.W.codeIn K cd22 "_law_due" = true)
    (k22 : PySem.W.keepIn K (.ref f22) = true)
    (a23 : PySem.W.nsIn K mainGlobals "law" = some (some (.ref f23)))
    (l23 : K.lookup f23 = some ⟨oc23, od23, .func (PySem.W.fnOf "law" "law" (defArgs st_law) (defBody st_law) (defScope st_law) .none kV23 dc23 pm23 an23 cd23 ct23), sl23⟩)
    (c23 : PySem.W.codeIn K cd23 "law" = true)
    (k23 : PySem.W.keepIn K (.ref f23) = true)
    (pg : PySem.W.plainGet K C Str.empty = true)
    (hd : PySem.W.hasDictIn K C = true)
    (po : PySem.W.plainOver K C = true)
    (sa : PySem.W.findIn K (.ref C) "__setattr__" = some (some (.builtin "object.__setattr__")))
    (mk : PySem.W.makesIn K C = true)
    (kc : PySem.W.keepIn K (.ref C) = true)
    (nC : PySem.W.findIn K (.ref C) "count" = some none)
    (nP : PySem.W.findIn K (.ref C) "pairs" = some none)
    (z_len : PySem.W.nsIn K mainGlobals "len" = some none)
    (z_int : PySem.W.nsIn K mainGlobals "int" = some none)
    (z_isinstance : PySem.W.nsIn K mainGlobals "isinstance" = some none)
    (z_bool : PySem.W.nsIn K mainGlobals "bool" = some none)
    (z_range : PySem.W.nsIn K mainGlobals "range" = some none)
    (z_sorted : PySem.W.nsIn K mainGlobals "sorted" = some none)
    (z_list : PySem.W.nsIn K mainGlobals "list" = some none)
    (z_min : PySem.W.nsIn K mainGlobals "min" = some none)
    (z_max : PySem.W.nsIn K mainGlobals "max" = some none)
    (z_ValueError : PySem.W.nsIn K mainGlobals "ValueError" = some none)
    (z_str : PySem.W.nsIn K mainGlobals "str" = some none)
    (gcHE : PySem.W.nsIn K mainGlobals "HallError" = some (some (.ref cHE)))
    (gFig : PySem.W.nsIn K mainGlobals "FIGURES" = some (some (.str "0123456789" tF)))
    (xhe_NG : PySem.W.exmOne K (.ref cNG) (.ref cHE) = some true)
    (xhe_SG : PySem.W.exmOne K (.ref cSG) (.ref cHE) = some true)
    (xhe_KA : PySem.W.exmOne K (.ref cKA) (.ref cHE) = some true)
    (xhe_BH : PySem.W.exmOne K (.ref cBH) (.ref cHE) = some true)
    (xhe_NT : PySem.W.exmOne K (.ref cNT) (.ref cHE) = some true)
    (x_sp : PySem.W.specialIn K (.builtin "object.__class__") "__get__" = some (some (.builtin "getset_descriptor.__get__")))
    (x_tk : PySem.W.takesIn K (.builtin "object.__class__") = some true)
    (xgcNT : PySem.W.findIn K (.ref cNT) "__getattribute__" = some (some (.builtin "BaseException.__getattribute__")))
    (xkcNT : PySem.W.findIn K (.ref cNT) "__getattr__" = some none)
    (xbcNT : PySem.W.subIn K (.ref cNT) (.type "BaseException") = some true)
    (xdcNT : PySem.W.hasDictIn K cNT = true)
    (xacNT : PySem.W.findIn K (.ref cNT) "__class__" = some (some (.builtin "object.__class__")))
    (xmcNT : PySem.W.mroIn K cNT (.type "object") = some true)
    (xi0cNT : PySem.W.kitOne K (.ref cNT) (.ref cNG) = some false)
    (xi1cNT : PySem.W.kitOne K (.ref cNT) (.ref cSG) = some false)
    (xi2cNT : PySem.W.kitOne K (.ref cNT) (.ref cKA) = some false)
    (xi3cNT : PySem.W.kitOne K (.ref cNT) (.ref cST) = some false)
    (xi4cNT : PySem.W.kitOne K (.ref cNT) (.ref cBH) = some false)
    (xi5cNT : PySem.W.kitOne K (.ref cNT) (.ref cNT) = some true)
    (xvcNT : PySem.W.kitOne K (.ref cNT) (.type "ValueError") = some true)
    (xhcNT : PySem.W.exmOne K (.ref cNT) (.ref cHE) = some true)
    : ∃ fd : FuncData, (∀ (s : Shared) (v : Value), BindsTo s fd ⟨[v], []⟩ [("script", v)]) ∧ ∀ base : Heap, K.In base → base.Ns mainGlobals mg → FnOk P w K mg base CX0 7 fa fd ["script"] (spLaw K) := by
  have e := hfa.symm.trans (PySem.W.mg_of X G a23)
  cases e
  have T : HT K mg C cNG cSG cKA cST cBH := ⟨⟨pg, hd, po, sa⟩, nC, nP, ⟨PySem.W.mg_of X G gcNG, ecNG, kcNG, bcNG, tcNG⟩, ⟨PySem.W.mg_of X G gcSG, ecSG, kcSG, bcSG, tcSG⟩, ⟨PySem.W.mg_of X G gcKA, ecKA, kcKA, bcKA, tcKA⟩, ⟨PySem.W.mg_of X G gcST, ecST, kcST, bcST, tcST⟩, ⟨PySem.W.mg_of X G gcBH, ecBH, kcBH, bcBH, tcBH⟩, ⟨tgr, PySem.W.mg_of X G gr⟩, PySem.W.mg_none_of X G z_min, PySem.W.mg_none_of X G z_max, PySem.W.mg_none_of X G z_range, PySem.W.mg_none_of X G z_len⟩
  have TN : ExcT K mg "NoText" cNT := ⟨PySem.W.mg_of X G gcNT, ecNT, kcNT, bcNT, tcNT⟩
  have GF := PySem.W.mg_of X G gFig
  have GcNT := PySem.W.mg_of X G gcNT
  have McNT : MarkT K cNG cSG cKA cST cBH cNT cHE cNT 5 := ⟨⟨xgcNT, xkcNT, xbcNT, xdcNT, xacNT, x_sp, x_tk, xmcNT⟩, xi0cNT, xi1cNT, xi2cNT, xi3cNT, xi4cNT, xi5cNT, xvcNT, xhcNT, by decide⟩
  have GcHE := PySem.W.mg_of X G gcHE
  have F0 := fun_mk (st := st_Hall_init) l0 c0 k0
  have b0 := F0.binds (ps := ["self", "many"]) fun _ _ _ _ _ _ us hl => match us, hl with | [_, _], _ => rfl
  have F1 := fun_mk (st := st_Hall_many) l1 c1 k1
  have b1 := F1.binds (ps := ["self"]) fun _ _ _ _ _ _ us hl => match us, hl with | [_], _ => rfl
  have F2 := fun_mk (st := st_Hall_see) l2 c2 k2
  have b2 := F2.binds (ps := ["self", "guest"]) fun _ _ _ _ _ _ us hl => match us, hl with | [_, _], _ => rfl
  have F3 := fun_mk (st := st_Hall_see_two) l3 c3 k3
  have b3 := F3.binds (ps := ["self", "one", "other"]) fun _ _ _ _ _ _ us hl => match us, hl with | [_, _, _], _ => rfl
  have F4 := fun_mk (st := st_Hall_know) l4 c4 k4
  have b4 := F4.binds (ps := ["self", "one", "other"]) fun _ _ _ _ _ _ us hl => match us, hl with | [_, _, _], _ => rfl
  have F5 := fun_mk (st := st_Hall_meet) l5 c5 k5
  have b5 := F5.binds (ps := ["self", "one", "other"]) fun _ _ _ _ _ _ us hl => match us, hl with | [_, _, _], _ => rfl
  have F6 := fun_mk (st := st_Hall_known) l6 c6 k6
  have b6 := F6.binds (ps := ["self", "guest"]) fun _ _ _ _ _ _ us hl => match us, hl with | [_, _], _ => rfl
  have F7 := fun_mk (st := st_Hall_strangers) l7 c7 k7
  have b7 := F7.binds (ps := ["self", "guest"]) fun _ _ _ _ _ _ us hl => match us, hl with | [_, _], _ => rfl
  have F8 := fun_mk (st := st_number_of) l8 c8 k8
  have b8 := F8.binds (ps := ["word"]) fun _ _ _ _ _ _ us hl => match us, hl with | [_], _ => rfl
  have F9 := fun_mk (st := st_met) l9 c9 k9
  have b9 := F9.binds (ps := ["hall", "line"]) fun _ _ _ _ _ _ us hl => match us, hl with | [_, _], _ => rfl
  have F10 := fun_mk (st := st_read) l10 c10 k10
  have b10 := F10.binds (ps := ["text"]) fun _ _ _ _ _ _ us hl => match us, hl with | [_], _ => rfl
  have F11 := fun_mk (st := st_l_cell_at) l11 c11 k11
  have b11 := F11.binds (ps := ["script", "k"]) fun _ _ _ _ _ _ us hl => match us, hl with | [_, _], _ => rfl
  have F12 := fun_mk (st := st_l_whole) l12 c12 k12
  have b12 := F12.binds (ps := ["found"]) fun _ _ _ _ _ _ us hl => match us, hl with | [_], _ => rfl
  have F13 := fun_mk (st := st_l_many) l13 c13 k13
  have b13 := F13.binds (ps := ["script"]) fun _ _ _ _ _ _ us hl => match us, hl with | [_], _ => rfl
  have F14 := fun_mk (st := st_l_pairs_by) l14 c14 k14
  have b14 := F14.binds (ps := ["script", "first", "many"]) fun _ _ _ _ _ _ us hl => match us, hl with | [_, _, _], _ => rfl
  have F15 := fun_mk (st := st_l_numbers) l15 c15 k15
  have b15 := F15.binds (ps := ["found", "due"]) fun _ _ _ _ _ _ us hl => match us, hl with | [_, _], _ => rfl
  have F16 := fun_mk (st := st_l_known) l16 c16 k16
  have b16 := F16.binds (ps := ["pairs", "many", "guest"]) fun _ _ _ _ _ _ us hl => match us, hl with | [_, _, _], _ => rfl
  have F17 := fun_mk (st := st_l_same) l17 c17 k17
  have b17 := F17.binds (ps := ["hall", "pairs", "many"]) fun _ _ _ _ _ _ us hl => match us, hl with | [_, _, _], _ => rfl
  have F18 := fun_mk (st := st_l_marks_of) l18 c18 k18
  have b18 := F18.binds (ps := ["e"]) fun _ _ _ _ _ _ us hl => match us, hl with | [_], _ => rfl
  have F19 := fun_mk (st := st_l_sign_by) l19 c19 k19
  have b19 := F19.binds (ps := ["cell"]) fun _ _ _ _ _ _ us hl => match us, hl with | [_], _ => rfl
  have F20 := fun_mk (st := st_l_spoiled) l20 c20 k20
  have b20 := F20.binds (ps := ["lines", "cell"]) fun _ _ _ _ _ _ us hl => match us, hl with | [_, _], _ => rfl
  have F21 := fun_mk (st := st_l_number) l21 c21 k21
  have b21 := F21.binds (ps := ["word"]) fun _ _ _ _ _ _ us hl => match us, hl with | [_], _ => rfl
  have F22 := fun_mk (st := st_l_due) l22 c22 k22
  have b22 := F22.binds (ps := ["lines"]) fun _ _ _ _ _ _ us hl => match us, hl with | [_], _ => rfl
  have F23 := fun_mk (st := st_law) l23 c23 k23
  refine ⟨PySem.W.fnOf "law" "law" (defArgs st_law) (defBody st_law) (defScope st_law) .none kV23 dc23 pm23 an23 cd23 ct23, fun s v => .of_eq rfl, fun base _ _ => ?_⟩
  have G0 : FnOk P w K mg base (L2N.CX P w) 1 f0 _ _ (spInit C cBH) := ok_init F0 T
  have B0 : MakD P w K mg base (L2N.CX P w) C 1 "Hall" (spInit C cBH) := ⟨_, _, _, ⟨mk, a0, i0, kc⟩, G0, b0, PySem.W.mg_of X G aC⟩
  have G1 : FnOk P w K mg base CX0 1 f1 _ _ (spMany C) := ok_many F1 T
  have B1 : MetD P w K mg base CX0 C 1 "many" (spMany C) := ⟨_, _, _, G1, b1, ⟨a1, i1, k1⟩⟩
  have G2 : FnOk P w K mg base (L2N.CX P w) 1 f2 _ _ (spSee C cNG) := ok_see F2 T
  have B2 : MetD P w K mg base (L2N.CX P w) C 1 "see" (spSee C cNG) := ⟨_, _, _, G2, b2, ⟨a2, i2, k2⟩⟩
  have G3 : FnOk P w K mg base (L2N.CX P w) 2 f3 _ _ (spSeeTwo C cNG cSG) := ok_see_two F3 T B2
  have B3 : MetD P w K mg base (L2N.CX P w) C 2 "see_two" (spSeeTwo C cNG cSG) := ⟨_, _, _, G3, b3, ⟨a3, i3, k3⟩⟩
  have G4 : FnOk P w K mg base (L2N.CX P w) 3 f4 _ _ (spKnow C cNG cSG) := ok_know F4 T B3
  have B4 : MetD P w K mg base (L2N.CX P w) C 3 "know" (spKnow C cNG cSG) := ⟨_, _, _, G4, b4, ⟨a4, i4, k4⟩⟩
  have G5 : FnOk P w K mg base (L2N.CX P w) 4 f5 _ _ (spMeet C cNG cSG cKA) := ok_meet F5 T B4
  have B5 : MetD P w K mg base (L2N.CX P w) C 4 "meet" (spMeet C cNG cSG cKA) := ⟨_, _, _, G5, b5, ⟨a5, i5, k5⟩⟩
  have G6 : FnOk P w K mg base (L2N.CX P w) 4 f6 _ _ (spOthers true C cNG) := ok_known F6 T B2 B4
  have B6 : MetD P w K mg base (L2N.CX P w) C 4 "known" (spOthers true C cNG) := ⟨_, _, _, G6, b6, ⟨a6, i6, k6⟩⟩
  have G7 : FnOk P w K mg base (L2N.CX P w) 4 f7 _ _ (spOthers false C cNG) := ok_strangers F7 T B2 B4
  have B7 : MetD P w K mg base (L2N.CX P w) C 4 "strangers" (spOthers false C cNG) := ⟨_, _, _, G7, b7, ⟨a7, i7, k7⟩⟩
  have G8 : FnOk P w K mg base (L2N.CX P w) 1 f8 _ _ (spNumberOf cNT) := ok_number F8 (PySem.W.mg_none_of X G z_len) (PySem.W.mg_none_of X G z_int) TN GF
  have B8 : CalD P w K mg base (L2N.CX P w) 1 "number_of" (spNumberOf cNT) := ⟨_, _, _, G8, b8, PySem.W.mg_of X G a8, k8⟩
  have G9 : FnOk P w K mg base (L2N.CX P w) 5 f9 _ _ (spMetL C cNG cSG cKA cNT) := ok_met F9 T TN B8 B5
  have B9 : CalD P w K mg base (L2N.CX P w) 5 "met" (spMetL C cNG cSG cKA cNT) := ⟨_, _, _, G9, b9, PySem.W.mg_of X G a9, k9⟩
  have G10 : FnOk P w K mg base (L2.CX P w) 6 f10 _ _ (spRead C cNT) := ok_read F10 T TN GcHE ⟨xhe_NG,xhe_SG,xhe_KA,xhe_BH,xhe_NT⟩ B0 B8 B9
  have B10 : CalD P w K mg base (L2.CX P w) 6 "read" (spRead C cNT) := ⟨_, _, _, G10, b10, PySem.W.mg_of X G a10, k10⟩
  have G11 : FnOk P w K mg base CX0 1 f11 _ _ (spCell K) := ok_cell F11 (PySem.W.mg_none_of X G z_len)
  have B11 : CalD P w K mg base CX0 1 "_law_cell_at" (spCell K) := ⟨_, _, _, G11, b11, PySem.W.mg_of X G a11, k11⟩
  have G12 : FnOk P w K mg base CX0 1 f12 _ _ (spWhole) := ok_whole F12 (PySem.W.mg_none_of X G z_isinstance) (PySem.W.mg_none_of X G z_int) (PySem.W.mg_none_of X G z_bool)
  have B12 : CalD P w K mg base CX0 1 "_law_whole" (spWhole) := ⟨_, _, _, G12, b12, PySem.W.mg_of X G a12, k12⟩
  have G13 : FnOk P w K mg base CX0 2 f13 _ _ (spManyOf K) := ok_many_of F13 B11
  have B13 : CalD P w K mg base CX0 2 "_law_many" (spManyOf K) := ⟨_, _, _, G13, b13, PySem.W.mg_of X G a13, k13⟩
  have G14 : FnOk P w K mg base CX0 2 f14 _ _ (spPairsBy K) := ok_pairs F14 (PySem.W.mg_none_of X G z_range) (PySem.W.mg_none_of X G z_sorted) B11
  have B14 : CalD P w K mg base CX0 2 "_law_pairs_by" (spPairsBy K) := ⟨_, _, _, G14, b14, PySem.W.mg_of X G a14, k14⟩
  have G15 : FnOk P w K mg base CX0 2 f15 _ _ (spNumbers) := ok_numbers F15 (PySem.W.mg_none_of X G z_isinstance) (PySem.W.mg_none_of X G z_list) B12
  have B15 : CalD P w K mg base CX0 2 "_law_numbers" (spNumbers) := ⟨_, _, _, G15, b15, PySem.W.mg_of X G a15, k15⟩
  have G16 : FnOk P w K mg base CX0 1 f16 _ _ (spKnownD) := ok_lknownD F16 (PySem.W.mg_none_of X G z_min) (PySem.W.mg_none_of X G z_max) (PySem.W.mg_none_of X G z_range)
  have B16 : CalD P w K mg base CX0 1 "_law_known" (spKnownD) := ⟨_, _, _, G16, b16, PySem.W.mg_of X G a16, k16⟩
  have G17 : FnOk P w K mg base CX0 5 f17 _ _ (spSame C) := ok_same F17 T B1 B6 B7 B12 B15 B16
  have B17 : CalD P w K mg base CX0 5 "_law_same" (spSame C) := ⟨_, _, _, G17, b17, PySem.W.mg_of X G a17, k17⟩
  have G18 : FnP P w K mg base 1 f18 _ _ (spMarks K cNG cSG cKA cST cBH cNT cHE) := ok_marks F18 T GcNT (PySem.W.mg_none_of X G z_isinstance) (PySem.W.mg_none_of X G z_ValueError)
  have B18 : CalP P w K mg base 1 "_law_marks_of" (spMarks K cNG cSG cKA cST cBH cNT cHE) := ⟨_, _, _, G18, b18, PySem.W.mg_of X G a18, k18⟩
  have G19 : FnOk P w K mg base CX0 1 f19 _ _ (spSign) := ok_sign F19
  have B19 : CalD P w K mg base CX0 1 "_law_sign_by" (spSign) := ⟨_, _, _, G19, b19, PySem.W.mg_of X G a19, k19⟩
  have G20 : FnOk P w K mg base CX0 2 f20 _ _ (spSpoiled) := ok_spoiled F20 (PySem.W.mg_none_of X G z_len) B19
  have B20 : CalD P w K mg base CX0 2 "_law_spoiled" (spSpoiled) := ⟨_, _, _, G20, b20, PySem.W.mg_of X G a20, k20⟩
  have G21 : FnOk P w K mg base CX0 1 f21 _ _ (spNumL) := ok_lnumber F21 (PySem.W.mg_none_of X G z_len) (PySem.W.mg_none_of X G z_int)
  have B21 : CalD P w K mg base CX0 1 "_law_number" (spNumL) := ⟨_, _, _, G21, b21, PySem.W.mg_of X G a21, k21⟩
  have G22 : FnOk P w K mg base CX0 2 f22 _ _ (spDueL) := ok_ldue F22 (PySem.W.mg_none_of X G z_len) B21
  have B22 : CalD P w K mg base CX0 2 "_law_due" (spDueL) := ⟨_, _, _, G22, b22, PySem.W.mg_of X G a22, k22⟩
  exact ok_law F23 T (PySem.W.mg_none_of X G z_str) GcHE B11 B13 B14 B20 B22 B10 B18 McNT B17
theorem walk {l : PySem.W.OpenLaw} {q : Program} {loose : List Str} {XP : (Str → Option Value) → Heap → Prop} {YP : World → Heap → Prop} {d : DefRec} {K : Params → PySem.W.Frag} (hn : l.most = some 63) (hdf : d.params.defaults = [])
    (hY : ∀ (w : World) (h : Heap), YP w h → (K w.params).In h)
    (F : ∀ (w : World) (mg : Str → Option Value) (fa : Addr) (h : Heap), (K w.params).In h → h.Ns mainGlobals mg → mg d.name = some (.ref fa) →
      ∃ fd : FuncData, (∀ (s : Shared) (u : Value), BindsTo s fd ⟨[u], []⟩ [("script", u)]) ∧ ∀ base : Heap, (K w.params).In base → base.Ns mainGlobals mg → FnOk l.prog w (K w.params) mg base CX0 7 fa fd ["script"] (spLaw (K w.params))) :
    PySem.W.WalkO q loose XP YP l.row.toRowW d [] (fun f vs => PySem.call f vs) :=
  L2.walk_of (n := 63) (k := 7) (x := "script") (CX := fun _ => CX0) (sp := fun w => spLaw (K w.params)) hn (by decide) hdf ⟨rfl, by decide, by decide⟩ hY F (fun _ _ a ns hl _ hS => ⟨a, ns, rfl, hS, hl, fun _ => rfl⟩) fun _ _ _ _ _ z => z
end KT
open PySem PySem.W PyProof.Rows in
set_option maxRecDepth 100000 in
set_option maxHeartbeats 0 in
theorem PySem.Challenge.cw_knowthree_k12_halls_read_or_refused_holds : PySem.Challenge.rw_knowthree_k12_halls_read_or_refused.Holds := by
  w_on; o_law; k_head; (case hw => w_witness2)
  k_fill
  refine KT.walk (l := PySem.Challenge.rw_knowthree_k12_halls_read_or_refused) rfl rfl (fun w h Y => PySem.W.kIn_of Y) ?F
  case F =>
    intro w mg fa h KX G hmg
    refine' KT.all_mk KX G hmg ?aC ?gcNG ?ecNG ?kcNG ?bcNG ?tcNG ?gcSG ?ecSG ?kcSG ?bcSG ?tcSG ?gcKA ?ecKA ?kcKA ?bcKA ?tcKA ?gcST ?ecST ?kcST ?bcST ?tcST ?gcBH ?ecBH ?kcBH ?bcBH ?tcBH ?gcNT ?ecNT ?kcNT ?bcNT ?tcNT ?gr ?a0 ?i0 ?l0 ?c0 ?k0 ?a1 ?i1 ?l1 ?c1 ?k1 ?a2 ?i2 ?l2 ?c2 ?k2 ?a3 ?i3 ?l3 ?c3 ?k3 ?a4 ?i4 ?l4 ?c4 ?k4 ?a5 ?i5 ?l5 ?c5 ?k5 ?a6 ?i6 ?l6 ?c6 ?k6 ?a7 ?i7 ?l7 ?c7 ?k7 ?a8 ?l8 ?c8 ?k8 ?a9 ?l9 ?c9 ?k9 ?a10 ?l10 ?c10 ?k10 ?a11 ?l11 ?c11 ?k11 ?a12 ?l12 ?c12 ?k12 ?a13 ?l13 ?c13 ?k13 ?a14 ?l14 ?c14 ?k14 ?a15 ?l15 ?c15 ?k15 ?a16 ?l16 ?c16 ?k16 ?a17 ?l17 ?c17 ?k17 ?a18 ?l18 ?c18 ?k18 ?a19 ?l19 ?c19 ?k19 ?a20 ?l20 ?c20 ?k20 ?a21 ?l21 ?c21 ?k21 ?a22 ?l22 ?c22 ?k22 ?a23 ?l23 ?c23 ?k23 ?pg ?hd ?po ?sa ?mk ?kc ?nC ?nP ?z_len ?z_int ?z_isinstance ?z_bool ?z_range ?z_sorted ?z_list ?z_min ?z_max ?z_ValueError ?z_str ?gcHE ?gFig ?xhe_NG ?xhe_SG ?xhe_KA ?xhe_BH ?xhe_NT ?x_sp ?x_tk ?xgcNT ?xkcNT ?xbcNT ?xdcNT ?xacNT ?xmcNT ?xi0cNT ?xi1cNT ?xi2cNT ?xi3cNT ?xi4cNT ?xi5cNT ?xvcNT ?xhcNT
    (case aC => k_is)
    (case gcNG => k_is)
    (case ecNG => k_exc)
    (case kcNG => k_is)
    (case bcNG => k_is)
    (case tcNG => k_is)
    (case gcSG => k_is)
    (case ecSG => k_exc)
    (case kcSG => k_is)
    (case bcSG => k_is)
    (case tcSG => k_is)
    (case gcKA => k_is)
    (case ecKA => k_exc)
    (case kcKA => k_is)
    (case bcKA => k_is)
    (case tcKA => k_is)
    (case gcST => k_is)
    (case ecST => k_exc)
    (case kcST => k_is)
    (case bcST => k_is)
    (case tcST => k_is)
    (case gcBH => k_is)
    (case ecBH => k_exc)
    (case kcBH => k_is)
    (case bcBH => k_is)
    (case tcBH => k_is)
    (case gcNT => k_is)
    (case ecNT => k_exc)
    (case kcNT => k_is)
    (case bcNT => k_is)
    (case tcNT => k_is)
    (case gr => k_is)
    (case a0 => k_is)
    (case i0 => k_is)
    (case l0 => k_is)
    (case c0 => k_is)
    (case k0 => k_is)
    (case a1 => k_is)
    (case i1 => k_is)
    (case l1 => k_is)
    (case c1 => k_is)
    (case k1 => k_is)
    (case a2 => k_is)
    (case i2 => k_is)
    (case l2 => k_is)
    (case c2 => k_is)
    (case k2 => k_is)
    (case a3 => k_is)
    (case i3 => k_is)
    (case l3 => k_is)
    (case c3 => k_is)
    (case k3 => k_is)
    (case a4 => k_is)
    (case i4 => k_is)
    (case l4 => k_is)
    (case c4 => k_is)
    (case k4 => k_is)
    (case a5 => k_is)
    (case i5 => k_is)
    (case l5 => k_is)
    (case c5 => k_is)
    (case k5 => k_is)
    (case a6 => k_is)
    (case i6 => k_is)
    (case l6 => k_is)
    (case c6 => k_is)
    (case k6 => k_is)
    (case a7 => k_is)
    (case i7 => k_is)
    (case l7 => k_is)
    (case c7 => k_is)
    (case k7 => k_is)
    (case a8 => k_is)
    (case l8 => k_is)
    (case c8 => k_is)
    (case k8 => k_is)
    (case a9 => k_is)
    (case l9 => k_is)
    (case c9 => k_is)
    (case k9 => k_is)
    (case a10 => k_is)
    (case l10 => k_is)
    (case c10 => k_is)
    (case k10 => k_is)
    (case a11 => k_is)
    (case l11 => k_is)
    (case c11 => k_is)
    (case k11 => k_is)
    (case a12 => k_is)
    (case l12 => k_is)
    (case c12 => k_is)
    (case k12 => k_is)
    (case a13 => k_is)
    (case l13 => k_is)
    (case c13 => k_is)
    (case k13 => k_is)
    (case a14 => k_is)
    (case l14 => k_is)
    (case c14 => k_is)
    (case k14 => k_is)
    (case a15 => k_is)
    (case l15 => k_is)
    (case c15 => k_is)
    (case k15 => k_is)
    (case a16 => k_is)
    (case l16 => k_is)
    (case c16 => k_is)
    (case k16 => k_is)
    (case a17 => k_is)
    (case l17 => k_is)
    (case c17 => k_is)
    (case k17 => k_is)
    (case a18 => k_is)
    (case l18 => k_is)
    (case c18 => k_is)
    (case k18 => k_is)
    (case a19 => k_is)
    (case l19 => k_is)
    (case c19 => k_is)
    (case k19 => k_is)
    (case a20 => k_is)
    (case l20 => k_is)
    (case c20 => k_is)
    (case k20 => k_is)
    (case a21 => k_is)
    (case l21 => k_is)
    (case c21 => k_is)
    (case k21 => k_is)
    (case a22 => k_is)
    (case l22 => k_is)
    (case c22 => k_is)
    (case k22 => k_is)
    (case a23 => k_is)
    (case l23 => k_is)
    (case c23 => k_is)
    (case k23 => k_is)
    (case pg => k_is)
    (case hd => k_is)
    (case po => k_is)
    (case sa => k_is)
    (case mk => k_is)
    (case kc => k_is)
    (case nC => k_is)
    (case nP => k_is)
    (case z_len => k_is)
    (case z_int => k_is)
    (case z_isinstance => k_is)
    (case z_bool => k_is)
    (case z_range => k_is)
    (case z_sorted => k_is)
    (case z_list => k_is)
    (case z_min => k_is)
    (case z_max => k_is)
    (case z_ValueError => k_is)
    (case z_str => k_is)
    (case gcHE => k_is)
    (case gFig => k_is)
    (case xhe_NG => kts_exm)
    (case xhe_SG => kts_exm)
    (case xhe_KA => kts_exm)
    (case xhe_BH => kts_exm)
    (case xhe_NT => kts_exm)
    (case x_sp => k_is)
    (case x_tk => k_is)
    (case xgcNT => k_is)
    (case xkcNT => k_is)
    (case xbcNT => k_is)
    (case xdcNT => k_is)
    (case xacNT => k_is)
    (case xmcNT => k_is)
    (case xi0cNT => kit_is)
    (case xi1cNT => kit_is)
    (case xi2cNT => kit_is)
    (case xi3cNT => kit_is)
    (case xi4cNT => kit_is)
    (case xi5cNT => kit_is)
    (case xvcNT => kit_is)
    (case xhcNT => kts_exm)
#print axioms PySem.Challenge.cw_knowthree_k12_halls_read_or_refused_holds
