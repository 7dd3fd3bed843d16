import PyProof.Rows.All
import Wide.All
import OpenK.AllK
import Wide.FinOn
import HandS.ForMost
import HandS.ForExc
import HandS.Conv
import HandS.Style
import HandS.Zip
import HandS.Flow
import HandS.TupAny
import KE.KDictKeyed
import HandS.TupMul
import HandS.Deep
import HandS.SortRule
import HandS.SortInts
import KE.GoesEnum
import KE.GoesMore
import KE.SortData
import HandS.Dict
import HandS.Strs
import KE.GoesDict
import KE.KDictList
import HandS.DictComp
import HandS.TupLen
import KE.KDictPairs
import KE.KDictCopyH
import HandS.IsInst
import HandS.Star
import PySem.Challenge.RW_goodwebs_k74_whole_words_shortened
set_option Elab.async false
set_option linter.all false
set_option maxRecDepth 100000
set_option maxHeartbeats 4000000
namespace Gw
open PySem PySem.Spec PyProof.Rows L2

/-! ### defs called where no repr is running -/
structure RoomG (k : Nat) (A : Around) : Prop where
  room : Room k A
  gd : A.guards = some []
theorem RoomG.mono {j k : Nat} {A : Around} (r : RoomG k A) (h : j ≤ k) : RoomG j A := ⟨r.room.mono h, r.gd⟩
theorem RoomG.deeper {k : Nat} {A : Around} (r : RoomG (k + 1) A) (env : Env) : RoomG k (A.deeper env) := ⟨r.room.deeper env, r.gd⟩

structure FnG (P : Program) (w : World) (K : PySem.W.Frag) (mg : Str → Option Value) (base : Heap) (CX : CXT) (k : Nat) (f : Addr) (fd : FuncData) (ps : List Str) (sp : Sp) : Prop where
  len : ∀ vs H Q E, sp vs H Q E → vs.length = ps.length
  run : ∀ (A : Around) (outer : List Env) (s : Shared) (H : Hp) (args : Args) (us : List Value) (vs : List V) (Q : VK) (E : XK),
    RoomG k A → Env0 P w K mg base A outer s H → BindsTo s fd args (ps.zip us) → Vals vs us → sp vs H Q E →
    codeAny (model P w) A (.call (.ref f) args) (CR CX outer P w H s Q E) s

section
variable {P : Program} {w : World} {K : PySem.W.Frag} {mg : Str → Option Value} {base : Heap} {CX : CXT} {k : Nat} {f : Addr} {fd : FuncData} {ps : List Str} {sp : Sp}
theorem FnG.mono {j : Nat} (F : FnG P w K mg base CX j f fd ps sp) (h : j ≤ k) : FnG P w K mg base CX k f fd ps sp :=
  ⟨F.len, fun A outer s H args us vs Q E hr => F.run A outer s H args us vs Q E (hr.mono h)⟩
theorem FnG.imp {sp' : Sp} (F : FnG P w K mg base CX k f fd ps sp) (h : ∀ vs H Q E, sp' vs H Q E → sp vs H Q E) : FnG P w K mg base CX k f fd ps sp' :=
  ⟨fun vs H Q E q => F.len vs H Q E (h _ _ _ _ q), fun A outer s H args us vs Q E hr he hb hv hs => F.run A outer s H args us vs Q E hr he hb hv (h _ _ _ _ hs)⟩

/-- a def of the text, by its body -/
theorem fnG_of {name qual : Str} {params : Arguments} {body : List Stmt} {scope : Scope} {dV kV doc pm cdv ct oc : Value} {an od : Option Addr} {osl : Array (Option Value)} {N : List Str}
    (lk : K.lookup f = some ⟨oc, od, .func (PySem.W.fnOf name qual params body scope dV kV doc pm an cdv ct), osl⟩) (hcd : PySem.W.codeIn K cdv qual = true) (S : FnScope N ps scope)
    (len : ∀ vs H Q E, sp vs H Q E → vs.length = ps.length)
    (hbody : ∀ (A : Around) (outer : List Env) (s : Shared) (H : Hp) (vs : List V) (Q : VK) (E : XK), RoomG k (A.deeper (envOfC qual scope s.heap.objs.size f cdv)) → sp vs H Q E →
      ∃ t, PSs (cxOf CX P w K mg base N qual scope f cdv A outer s H E) body t ∧ t { nx := fun _ H' => Q .non H', rt := Q } (start N vs) H) :
    FnG P w K mg base CX (k + 1) f (PySem.W.fnOf name qual params body scope dV kV doc pm an cdv ct) ps sp := by
  constructor
  · exact len
  intro A outer s H args us vs Q E hr e0 hb r hsp
  have eqlen := len _ _ _ _ hsp
  have kin : K.In s.heap := e0.mod.kin.keeps fun b o e => (e0.bs b o e).1
  have nlim : s.heap.NoLimit := e0.mod.nolimit.keeps fun b o e => (e0.bs b o e).1
  have kinds : ∀ y ∈ ps.zip us, scope.names.lookup y.1 = some .local ∨ (scope.names.lookup y.1 = some .cell ∧ ((cellsFrom (s.heap.objs.size + 1) scope.names []).lookup y.1).isSome = true) := by
    rintro ⟨n, v⟩ hy
    cases S.par n (List.of_mem_zip hy).1 with
    | inl q => exact .inl q
    | inr q => exact .inr ⟨q, PySem.W.cellsFrom_some _ _ _ (.inl q)⟩
  refine codeAny_call_function hr.room.depth (kin _ _ lk) rfl S.co S.gen rfl (PySem.W.codeRec_of kin hcd) (hb _ _ _ _ ?_)
  refine wpAny_newFunctionEnv_cells S.kind kinds ?_
  intro env he s1 x
  subst he
  refine ⟨nlim.keeps x.toInCall.keep, codeAny_func ?_⟩
  obtain ⟨t, pt, ht⟩ := hbody A outer s H vs Q E (hr.deeper _) hsp
  have I := inv_start (CX := CX) (E := E) S hr.room.hd e0 eqlen r x
  refine wpAny_mono (pt.run [] s1 (start N vs) H _ I ht) ?_ fun e s' hs => hs
  intro fl s' hs
  have fin : ∀ {σ' : L2.St} {H' : Hp} {v : V} {u : Value}, Inv (cxOf CX P w K mg base N qual scope f cdv A outer s H E) [] σ' H' s' → RelV v u → Q v H' → CE outer P w H s Q u s' := by
    intro σ' H' v u J rv q
    exact ⟨v, H', J.os, J.bare, J.base, J.hok, rv, q⟩
  match fl, hs with
  | .ret u, ⟨v, σ', H', J, rv, q⟩ => exact fin J rv q
  | .next, ⟨σ', H', J, q⟩ => exact fin (v := V.non) (u := Value.none) J rfl q
  | .brk, ⟨_, _, _, q⟩ => exact q.elim
  | .cont, ⟨_, _, _, q⟩ => exact q.elim
end

section
variable {X : Cx} {CX : CXT} {k : Nat} {f : Addr} {fd : FuncData} {ps : List Str} {sp : Sp} {dvs : List V} {ds : List Value} {E : XK} {x : Str} {p pos : Pos} {e : Expr} {es : List Expr} {t : TA}
theorem runG {pins : List (Addr × Obj)} {σ : L2.St} {H : Hp} {s : Shared} {Q : VK} {us : List Value} {vs : List V} (F : FnG X.prog X.w X.K X.mg X.base CX k f fd ps sp) (hr : RoomG k X.A) (hb : Binds X.K fd ps ds) (hd : Vals dvs ds) (hx : Passes CX X E)
    (I : Inv X pins σ H s) (r : Vals vs us) (h : sp (vs ++ dvs) H Q E) : wpAny (model X.prog X.w) X.A (call (.ref f) us) (EP X pins σ Q) X.xe s := by
  have r2 := r.append hd
  have hl : (us ++ ds).length = ps.length := r2.length ▸ F.len _ _ _ _ h
  refine wpAny_call (codeAny_mono (F.run X.A X.stack s H ⟨us, []⟩ (us ++ ds) (vs ++ dvs) Q E hr I.env0 (hb s us I.kIn hl) r2 h) ?_)
  intro r' s' hq
  match r', hq with
  | .error e, hq => exact hx pins σ H s e s' I hq
  | .ok (.ret u), hq => exact I.after hq
  | .ok .next, hq => exact hq.elim
  | .ok .brk, hq => exact hq.elim
  | .ok .cont, hq => exact hq.elim
theorem pe_callG (F : FnG X.prog X.w X.K X.mg X.base CX k f fd ps sp) (hr : RoomG k X.A) (hg : Gl X x) (hm : X.mg x = some (.ref f)) (hk : PySem.W.keepIn X.K (.ref f) = true) (hb : Binds X.K fd ps ds) (hd : Vals dvs ds) (hx : Passes CX X E)
    (ha : PA X (e :: es) t) (hdb : (x == ("__debug__" : Str)) = false := by decide) (he : starEach (e :: es) X.env = (false, eval e X.env) :: starEach es X.env := by rfl) (hpl : (backTo pos (starEach es X.env)).any (·.1) = false := by rfl) :
    PE X (.Call (.Name x p) (e :: es) [] pos) (tCall sp dvs E t) := by
  constructor
  intro pins s σ H Q I h
  refine wpAny_Call_Name_kw (ld_glob I hg hm ?_ hdb)
  refine PySem.W.callWith_K (h₀ := X.base) I.ok.mod.kin hk (thn (ha.run pos pins s σ H _ I h) ?_) he hpl
  rintro us s1 ⟨vs, H1, I1, r, q⟩
  exact ⟨I1.kIn, runG F hr hb hd hx I1 r q⟩
theorem pe_callG0 (F : FnG X.prog X.w X.K X.mg X.base CX k f fd ps sp) (hr : RoomG k X.A) (hg : Gl X x) (hm : X.mg x = some (.ref f)) (hk : PySem.W.keepIn X.K (.ref f) = true) (hb : Binds X.K fd ps ds) (hd : Vals dvs ds) (hx : Passes CX X E)
    (hdb : (x == ("__debug__" : Str)) = false := by decide) : PE X (.Call (.Name x p) [] [] pos) (tCall sp dvs E tNil) := by
  constructor
  intro pins s σ H Q I h
  refine wpAny_Call_Name_kw (ld_glob I hg hm ?_ hdb)
  exact PySem.W.callWith_K0 I.kIn hk (runG (us := []) F hr hb hd hx I .nil h)
end

/-! ### the law's own call -/
section
variable {P : Program} {w : World} {K : PySem.W.Frag} {mg mb : Str → Option Value} {k : Nat} {fa a : Addr} {fd : FuncData} {x : Str} {sp : Sp} {s1 : Shared} {vs : List Value} {ns : List Int}
/-- from an abstract heap that tracks the script at most -/
theorem callG_core (KX : K.In s1.heap) (hns : s1.heap.Ns mainGlobals mg) (hb : s1.heap.Ns builtinsNs mb) (hbb : ∀ x : Str, x ≠ "__name__" → mb x = bootBuiltins x) (hlim : s1.heap.NoLimit) (hg : s1.gens = #[])
    (ha : s1.heap.get? a = some { cls := .type "list", data := .seq vs.toArray }) (hr : RoomG k callerA)
    (hsm : ∃ m, s1.heap.Ns sysModules m)
    (F : ∀ base : Heap, K.In base → base.Ns mainGlobals mg → (∃ m, base.Ns sysModules m) → FnG P w K mg base CX0 k fa fd [x] sp) (hbind : ∀ (s : Shared) (u : Value), BindsTo s fd ⟨[u], []⟩ [(x, u)])
    (H : Hp) (hsp : sp [.ref a] H (fun v _ => v = .bl true) fun _ _ _ => False) (ok : HOk P w H s1.heap)
    (hA : ∀ b, H b = none ∨ (b = a ∧ K.lookup a = none ∧ ∃ o xs, H b = some (.frz o (.lst xs)))) :
    codeAny (model P w) callerA (.call (.ref fa) ⟨[.ref a], []⟩) (fun r s' => r = .ok (.ret (.bool true)) ∧ OldK s1.heap s'.heap ∧ s'.os = s1.os ∧ AllBare s'.gens) s1 := by
  have nodict : ∀ {b : Addr} {o : Obj} {es : Array DictEntry} {ep : Nat}, s1.heap.get? b = some o → o.data = .dict es ep → H b = none := by
    intro b o es ep e d
    rcases hA b with z | ⟨rfl, _⟩
    · exact z
    · rw [ha] at e; cases e; cases (show Data.seq vs.toArray _ = Data.dict es ep from d)
  have nsH : ∀ {b : Addr} {m : Str → Option Value}, s1.heap.Ns b m → (hidT s1.heap H).Ns b m := by
    rintro b m ⟨o, es, ep, e, d, r⟩
    exact ⟨o, es, ep, hidT_get e (nodict e d), d, r⟩
  have kH : K.In (hidT s1.heap H) := by
    intro b o e
    refine hidT_get (KX b o e) ?_
    rcases hA b with z | ⟨rfl, z, _⟩
    · exact z
    · rw [z] at e; cases e
  have md : Mod K mg (hidT s1.heap H) := by
    obtain ⟨mc, h1, h2⟩ := hlim
    exact ⟨kH, nsH hns, ⟨mb, nsH hb, hbb⟩, ⟨mc, nsH h1, h2⟩⟩
  have env0 : Env0 P w K mg (hidT s1.heap H) callerA [] s1 H :=
    { frames := rfl, mod := md, bs := fun b o e => of_hidT e, bsz := Nat.le_of_eq (hidT_size _ _), funs := trivial, frf := fun b hb => absurd (show b ∈ ([] : List Addr) from hb) (by simp), hok := ok, bare := .of_eq hg }
  refine codeAny_mono ((F _ kH (nsH hns) (hsm.imp fun _ h => nsH h)).run callerA [] s1 H ⟨[.ref a], []⟩ [.ref a] [.ref a] _ _ hr env0 (hbind s1 (.ref a)) (.cons rfl .nil) hsp) ?_
  intro r s' h
  match r, h with
  | .error e, h => exact h.elim
  | .ok .next, h => exact h.elim
  | .ok .brk, h => exact h.elim
  | .ok .cont, h => exact h.elim
  | .ok (.ret u), ⟨v, H', os, bare, un, hok', rv, q⟩ =>
    obtain rfl : v = .bl true := q
    obtain rfl : u = Value.bool true := rv
    refine ⟨rfl, OldK.of_keep ?_, os, bare⟩
    intro b o e
    rcases hA b with z | ⟨_, _, ob, xs, z⟩
    · exact un.keep b o e z (by intro y; exact absurd (show b ∈ ([] : List Addr) from y) (by simp)) (by simp)
    · obtain ⟨e1, _⟩ := ok b _ z
      obtain ⟨e2, _⟩ := hok' b _ (un.frzs b ob _ z)
      rw [e] at e1; cases e1
      exact e2
/-- how the law's own list stands -/
def LawArg (K : PySem.W.Frag) (H : Hp) (a : Addr) (xs : List V) : Prop := (∃ o, H a = some (.frz o (.lst xs))) ∨ ∃ (its : Array Value) (n : Nat), K.lookup a = some (seqObj "list" its n) ∧ its.size ≤ sizeLine ∧ Vals xs its.toList
theorem law_callG (KX : K.In s1.heap) (hns : s1.heap.Ns mainGlobals mg) (hb : s1.heap.Ns builtinsNs mb) (hbb : ∀ x : Str, x ≠ "__name__" → mb x = bootBuiltins x) (hlim : s1.heap.NoLimit) (hg : s1.gens = #[])
    (ha : s1.heap.get? a = some { cls := .type "list", data := .seq vs.toArray }) (hi : IntsAre vs ns) (hl : ns.length ≤ sizeLine) (hr : RoomG k callerA)
    (hsm : ∃ m, s1.heap.Ns sysModules m)
    (F : ∀ base : Heap, K.In base → base.Ns mainGlobals mg → (∃ m, base.Ns sysModules m) → FnG P w K mg base CX0 k fa fd [x] sp) (hbind : ∀ (s : Shared) (u : Value), BindsTo s fd ⟨[u], []⟩ [(x, u)])
    (hsp : ∀ H : Hp, LawArg K H a (ns.map V.int) → sp [.ref a] H (fun v _ => v = .bl true) fun _ _ _ => False) :
    codeAny (model P w) callerA (.call (.ref fa) ⟨[.ref a], []⟩) (fun r s' => r = .ok (.ret (.bool true)) ∧ OldK s1.heap s'.heap ∧ s'.os = s1.os ∧ AllBare s'.gens) s1 := by
  have rv := vals_ints hi
  have lv := hi.length
  by_cases hk : K.lookup a = none
  · have sq : LawArg K (fun b => if b = a then some (.frz { cls := .type "list", data := .seq vs.toArray } (.lst (ns.map V.int))) else none) a (ns.map V.int) := .inl ⟨_, if_pos rfl⟩
    refine callG_core KX hns hb hbb hlim hg ha hr hsm F hbind _ (hsp _ sq) ?_ ?_
    · intro b u z
      by_cases hb : b = a
      · subst hb
        have z' := (if_pos rfl).symm.trans z
        cases z'
        exact ⟨ha, by rw [List.length_map]; exact hl, vs, _, rv, ha⟩
      · have z' := (if_neg hb).symm.trans z
        cases z'
    · intro b
      by_cases hb : b = a
      · exact .inr ⟨hb, hk, _, _, if_pos hb⟩
      · exact .inl (if_neg hb)
  · obtain ⟨o, hk⟩ := Option.ne_none_iff_exists'.mp hk
    have e := KX a o hk
    rw [ha] at e
    cases e
    refine callG_core KX hns hb hbb hlim hg ha hr hsm F hbind (fun _ => none) (hsp _ (.inr ⟨vs.toArray, 0, hk, ?_, by simpa using rv⟩)) ?_ fun _ => .inl rfl
    · rw [List.size_toArray, lv]; exact hl
    · intro b u z
      cases (show (none : Option HO) = some u from z)
end

theorem walk_ofG {l : PySem.W.OpenLaw} {n k : Nat} {q : Program} {loose : List Str} {XP : (Str → Option Value) → Heap → Prop} {YP : World → Heap → Prop} {d : DefRec} {K : Params → PySem.W.Frag} {sp : PySem.W.Frag → Sp} {x : Str}
    (hn : l.most = some n) (hn2 : n ≤ sizeLine) (hdf : d.params.defaults = []) (hr : Room k callerA) (hi : importsNone q = true)
    (hY : ∀ (w : World) (h : Heap), YP w h → (K w.params).In h)
    (F : ∀ (w : World) (mg : Str → Option Value) (fa : Addr) (h : Heap), (K w.params).In h → h.Ns mainGlobals mg → mg d.name = some (.ref fa) →
      ∃ fd : FuncData, (∀ (s : Shared) (u : Value), BindsTo s fd ⟨[u], []⟩ [(x, u)]) ∧
        ∀ base : Heap, (K w.params).In base → base.Ns mainGlobals mg → (∃ m, base.Ns sysModules m) → FnG l.prog w (K w.params) mg base CX0 k fa fd [x] (sp (K w.params)))
    (hsp : ∀ (K : PySem.W.Frag) (H : Hp) (a : Addr) (ns : List Int), ns.length ≤ n → LawArg K H a (ns.map V.int) → sp K [.ref a] H (fun v _ => v = .bl true) fun _ _ _ => False) :
    PySem.W.WalkO q loose XP YP l.row.toRowW d [] (fun f vs => PySem.call f vs) := by
  refine Att.attach_call hn hdf ?_
  intro w s0 s1 mg mb fa o pm cd doc a vs ns G Y ho hd hcd hmg hobj hints hlen hg
  have KX := hY w _ Y
  obtain ⟨fd, hb, hF⟩ := F w mg fa _ KX G.T.g hmg
  exact law_callG KX G.T.g G.T.b G.T.builtins G.T.nolimit hg hobj hints (Nat.le_trans hlen hn2) ⟨hr, rfl⟩ (let ⟨m, h, _⟩ := (G.T.seer hi).mods; ⟨m, h⟩) hF hb fun H hS => hsp _ H a ns hlen hS

/-! ### tuples that are known to the last: frozen from the start -/
section
variable {X : Cx} {es : List Expr} {t : TA} {pos : Pos}
def tTupX (t : TA) : TE := fun σ H Q => t σ H fun xs H1 => xs.length ≤ sizeLine ∧ ∀ (p : Addr) (o : Obj), H1 p = none → o.dict = none → Q (.ref p) (upd H1 p (.frz o (.tup xs)))
theorem pe_tupX {x1} (h : PA X es t) : PE X (.Tuple es x1 pos) (tTupX t) :=
  ⟨fun pins s σ H Q I hq => wpAny_Tuple_spliced (thn (h.run pos pins s σ H _ I hq) fun us s1 ⟨xs, H1, I1, r, z, q⟩ => ⟨by rw [← r.length]; exact z,
    ⟨.ref s1.heap.objs.size, upd H1 s1.heap.objs.size (.frz { cls := .type "tuple", data := .seq us.toArray } (.tup xs)), I1.laid (t' := s1.toks) (fun b u e => Heap.get?_push_of_some _ e) (Nat.le_refl _) ⟨Heap.get?_push_size _ rfl, z, us, r, ⟨_, Heap.get?_push_size _ rfl, rfl, _, rfl⟩⟩, rfl, q _ _ (I1.hok.fresh (Nat.le_refl _)) rfl⟩⟩)⟩
theorem call_tupX : CallR X (.type "tuple") (fun xs H Q => ∃ p ys, xs = [.ref p] ∧ ((SqL X.K H p ys ∧ ∀ (l : Addr) (o : Obj), H l = none → o.dict = none → Q (.ref l) (upd H l (.frz o (.tup ys)))) ∨ (SqT X.K H p ys ∧ Q (.ref p) H))) := by
  rintro pins s σ H xs us Q I r ⟨p, ys, rfl, h⟩
  obtain rfl := Vals.ref1 r
  rcases h with ⟨hq, q⟩ | ⟨hq, q⟩
  · obtain ⟨is, rv, pl, hz⟩ := I.list hq
    have lv := rv.length
    exact call_tuple_list pl.isList (fun h' kp => ⟨.ref h'.objs.size, upd H h'.objs.size (.frz { cls := .type "tuple", data := .seq is.toArray } (.tup ys)),
      (show Inv X pins σ H { s with heap := h' } from I.kept (t' := s.toks) kp).laid (t' := s.toks) (fun b o e => Heap.get?_push_of_some _ e) (Nat.le_refl _) ⟨Heap.get?_push_size _ rfl, hz, is, rv, IsTup.new _ _⟩, rfl,
      q _ _ ((show Inv X pins σ H { s with heap := h' } from I.kept (t' := s.toks) kp).hok.fresh (Nat.le_refl _)) rfl⟩) (by rw [List.size_toArray]; omega)
  · obtain ⟨is, rv, pl, hz⟩ := I.tuple hq
    exact call_tuple_same pl ⟨.ref p, H, I, rfl, q⟩
/-- t + u: one of them where the other is empty -/
def rTT (K : PySem.W.Frag) : R2 := fun x y H Q => ∃ a b xs ys, x = .ref a ∧ y = .ref b ∧ SqT K H a xs ∧ SqT K H b ys ∧ xs.length + ys.length ≤ sizeLine ∧
  (xs = [] → Q (.ref b) H) ∧ (xs ≠ [] → ys = [] → Q (.ref a) H) ∧ (xs ≠ [] → ys ≠ [] → ∀ (p : Addr) (o : Obj), H p = none → o.dict = none → Q (.ref p) (upd H p (.frz o (.tup (xs ++ ys)))))
theorem op_TT : OpR X (binaryOp .Add) (rTT X.K) := by
  rintro pins s σ H x y v u Q I rx ry ⟨a, b, xs, ys, rfl, rfl, ha, hb, hz, q0, q1, q2⟩
  cases rx
  cases ry
  obtain ⟨is, r1, p1, _⟩ := I.tuple ha
  obtain ⟨js, r2, p2, _⟩ := I.tuple hb
  by_cases hx : xs = []
  · subst hx
    cases r1
    exact cat_tup0 p1 p2 ⟨.ref b, H, I, rfl, q0 rfl⟩
  · refine HT.cat_tup p1 p2 (fun z => hx (r1.nil_iff.mp z)) (fun z => ⟨.ref a, H, I, rfl, q1 hx (r2.nil_iff.mp z)⟩) (fun z => ⟨.ref s.heap.objs.size, upd H s.heap.objs.size (.frz { cls := .type "tuple", data := .seq (is ++ js).toArray } (.tup (xs ++ ys))), I.laid (t' := s.toks) (fun b ob q => Heap.get?_push_of_some _ q) (Nat.le_refl _) ?_, rfl, q2 hx (fun w => z (r2.nil_iff.mpr w)) _ _ (I.hok.fresh (Nat.le_refl _)) rfl⟩) (by rw [← r1.length, ← r2.length]; exact hz)
    exact ⟨Heap.get?_push_size _ rfl, by rw [List.length_append]; exact hz, _, r1.append r2, IsTup.new _ _⟩
/-- t[lo:hi]: t itself where that is all of it -/
def rTS (K : PySem.W.Frag) : V → Option Int → Option Int → Hp → VK → Prop := fun x lo hi H Q => ∃ a xs, x = .ref a ∧ SqT K H a xs ∧
  (HT.sIx xs.length 0 lo = 0 ∧ HT.sIx xs.length xs.length hi = xs.length → Q (.ref a) H) ∧ (¬ (HT.sIx xs.length 0 lo = 0 ∧ HT.sIx xs.length xs.length hi = xs.length) → ∀ (p : Addr) (o : Obj), H p = none → o.dict = none → Q (.ref p) (upd H p (.frz o (.tup (cutV xs lo hi)))))
theorem sl_TS : SlR X (rTS X.K) := by
  rintro pins s σ H x v vl vu lo hi sl Q I rx hs pl pu ⟨a, xs, rfl, hx, q1, q2⟩
  cases rx
  obtain ⟨is, r, ht, hz⟩ := I.tuple hx
  have el : is.toArray.size = xs.length := by rw [List.size_toArray]; exact r.length.symm
  by_cases hw : HT.sIx xs.length 0 lo = 0 ∧ HT.sIx xs.length xs.length hi = xs.length
  · exact ⟨"tuple", _, PyProof.Rows.slot_tuple_getitem.lookup, ht.typeIs, getItem_tuple_whole ht hs pl pu (by rw [el]; exact hw) ⟨.ref a, H, I, rfl, q1 hw⟩⟩
  · refine ⟨"tuple", _, PyProof.Rows.slot_tuple_getitem.lookup, ht.typeIs, HT.getItem_tuple_cut ht hs pl pu (by rw [el]; exact hw) ?_ (by rw [el]; exact hz)⟩
    rw [el]
    refine ⟨.ref s.heap.objs.size, upd H s.heap.objs.size (.frz _ (.tup (cutV xs lo hi))), I.laid (t' := s.toks) (fun b ob q => Heap.get?_push_of_some _ q) (Nat.le_refl _) ⟨Heap.get?_push_size _ rfl, ?_⟩, rfl, q2 hw _ _ (I.hok.fresh (Nat.le_refl _)) rfl⟩
    exact ⟨Nat.le_trans (cutV_length xs lo hi) hz, _, (r.drop (HT.sIx xs.length 0 lo)).take (HT.sIx xs.length xs.length hi - HT.sIx xs.length 0 lo), IsTup.new _ _⟩
def tTRg (te : L2.St → Hp → (Int → Int → Hp → Prop) → Prop) : TE := fun σ H Q => te σ H fun a b H1 => RgOk a b ∧ ∀ (q : Addr) (o : Obj), H1 q = none → o.dict = none → Q (.ref q) (upd H1 q (.frz o (.tup (rgV a b))))
theorem pe_TRg {e : Expr} {te : L2.St → Hp → (Int → Int → Hp → Prop) → Prop} {p : Pos} (hc : X.calm = true) (hg : Gl X "tuple") (hm : X.mg "tuple" = none) (he : PRg X e te) (na : starEach [e] X.env = (false, eval e X.env) :: starEach [] X.env := by rfl) : PE X (.Call (.Name "tuple" p) [e] [] pos) (tTRg te) := by
  refine ⟨fun pins s σ H Q I h => Call_ (ld_blt I hg hm boot_tuple (PyProof.Rows.callWith_type1 (args_cons (thn (he pins s σ H _ I h) fun x s1 ⟨r, a, b, t, u, v, H1, ex, hr, I1, ok, q⟩ => args_nil ?_) na) na))⟩
  subst ex
  obtain ⟨b1, b2, b3, b4, b5⟩ := ok
  refine call_tuple_range (n := (b - a).toNat) (I1.ok.hd hc) hr (small_one b1 b2 b3 b4) (rangeSize_nat a b) b5 fun h' tk acc hk hi => ?_
  have J : Inv X pins σ H1 { s1 with heap := h', toks := tk } := I1.kept hk
  refine ⟨.ref h'.objs.size, upd H1 h'.objs.size (.frz _ (.tup (rgV a b))), J.laid (t' := tk) (fun c o e => Heap.get?_push_of_some _ e) (Nat.le_refl _) ⟨Heap.get?_push_size _ rfl, ?_, acc.toList, vals_rg hi, ?_⟩, rfl, q _ _ (J.hok.fresh (Nat.le_refl _)) rfl⟩
  · rw [rgV_length, sizeLine_eq]; omega
  · rw [Array.toArray_toList]; exact IsTup.new _ _
end
end Gw
namespace Gw
open PySem PySem.Spec PyProof.Rows L2

/-! ## data and the heap -/
abbrev D := PyData
abbrev Vol := Addr → Prop
abbrev VStore := L2.St
def Ext (H H' : Hp) : Prop := ∀ a o, H a = some o → H' a = some o
theorem Ext.refl (H : Hp) : Ext H H := fun _ _ h => h
theorem Ext.trans {H H1 H2 : Hp} (a : Ext H H1) (b : Ext H1 H2) : Ext H H2 := fun c o h => b c o (a c o h)
theorem Ext.new {H : Hp} {p : Addr} {o : HO} (h : H p = none) : Ext H (upd H p o) := fun a u e => by
  rw [upd_ne (ne_of_none e h)]; exact e
theorem Ext.free {H H' : Hp} {p : Addr} (e : Ext H H') (h : H' p = none) : H p = none := by
  cases q : H p with
  | none => rfl
  | some o => rw [e p o q] at h; cases h
def keyD1 : Key → D
  | .inl i => .int i
  | .inr x => .str x
def keyD (k : List Key) : D := .tuple (k.map keyD1)
/-- a tuple of the written part -/
def KTup (K : PySem.W.Frag) (a : Addr) (xs : List V) : Prop :=
  ∃ (o : Obj) (its : Array Value) (n : Nat), K.lookup a = some o ∧ o.cls = .type "tuple" ∧ o.dict = none ∧ o.data = .seq its n ∧ its.size ≤ sizeLine ∧ Vals xs its.toList
/-- a tuple that is read: nothing of it is unknown -/
def TupX (K : PySem.W.Frag) (S : Vol) (H : Hp) (a : Addr) (xs : List V) : Prop := ((∃ o, H a = some (.frz o (.tup xs)) ∧ o.dict = none) ∧ ¬ S a) ∨ KTup K a xs
theorem TupX.sq {K : PySem.W.Frag} {S : Vol} {H : Hp} {a : Addr} {xs : List V} (h : TupX K S H a xs) : SqT K H a xs := by
  rcases h with ⟨⟨o, h, _⟩, _⟩ | ⟨o, its, n, h1, h2, _, h3⟩
  · exact .inl (.inr ⟨o, h⟩)
  · exact .inr ⟨o, its, n, h1, h2, h3⟩
theorem TupX.mv {K : PySem.W.Frag} {S S' : Vol} {H H' : Hp} {a : Addr} {xs : List V} (h : TupX K S H a xs) (f : ∀ a o, H a = some o → ¬ S a → H' a = some o) (g : ∀ a, S' a → S a ∨ H a = none) : TupX K S' H' a xs :=
  h.imp (fun ⟨⟨o, h, d⟩, n⟩ => ⟨⟨o, f _ _ h n, d⟩, fun s => (g _ s).elim n fun z => by rw [h] at z; cases z⟩) id
theorem TupX.new {K : PySem.W.Frag} {S : Vol} {H : Hp} {a : Addr} {xs : List V} {o : Obj} (d : o.dict = none) (n : ¬ S a) : TupX K S (upd H a (.frz o (.tup xs))) a xs := .inl ⟨⟨o, upd_same, d⟩, n⟩

/-- a list that is read: tracked, frozen, or an object of the module -/
def LstX (K : PySem.W.Frag) (S : Vol) (H : Hp) (a : Addr) (xs : List V) : Prop :=
  ((H a = some (.lst xs) ∨ ∃ o, H a = some (.frz o (.lst xs))) ∧ ¬ S a) ∨ ∃ (its : Array Value) (n : Nat), K.lookup a = some (seqObj "list" its n) ∧ its.size ≤ sizeLine ∧ Vals xs its.toList
theorem LstX.sq {K : PySem.W.Frag} {S : Vol} {H : Hp} {a : Addr} {xs : List V} (h : LstX K S H a xs) : SqL K H a xs := by
  rcases h with ⟨h, _⟩ | ⟨its, n, h1, h2, h3⟩
  · exact .inl h
  · exact .inr ⟨_, its, n, h1, rfl, rfl, rfl, h2, h3⟩
theorem LstX.mv {K : PySem.W.Frag} {S S' : Vol} {H H' : Hp} {a : Addr} {xs : List V} (h : LstX K S H a xs) (f : ∀ a o, H a = some o → ¬ S a → H' a = some o) (g : ∀ a, S' a → S a ∨ H a = none) : LstX K S' H' a xs :=
  h.imp (fun ⟨h, n⟩ => ⟨h.imp (fun e => f _ _ e n) fun ⟨o, e⟩ => ⟨o, f _ _ e n⟩, fun s => (g _ s).elim n fun z => by
    rcases h with h | ⟨o, h⟩ <;> (rw [h] at z; cases z)⟩) id
/-- .. wherever it stands -/
def Lx (K : PySem.W.Frag) (H : Hp) (a : Addr) (xs : List V) : Prop := Rd H a (.lst xs) ∨ ∃ (its : Array Value) (n : Nat), K.lookup a = some (seqObj "list" its n) ∧ its.size ≤ sizeLine ∧ Vals xs its.toList
theorem LstX.lx {K : PySem.W.Frag} {S : Vol} {H : Hp} {a : Addr} {xs : List V} (h : LstX K S H a xs) : Lx K H a xs := h.imp (fun h => h.1) id
theorem lxAt {X : Cx} {pins : List (Addr × Obj)} {σ : L2.St} {H : Hp} {s : Shared} {a : Addr} {xs : List V} (I : Inv X pins σ H s) (h : Lx X.K H a xs) : xs.length ≤ sizeLine ∧ ∃ (its : List Value) (n : Nat), Vals xs its ∧ xs.length = its.length ∧ s.heap.get? a = some { cls := .type "list", data := .seq its.toArray n } := by
  rcases h with h | ⟨its, n, h1, h2, h3⟩
  · obtain ⟨z, its, n, r, e⟩ := h.ok I.hok
    exact ⟨z, its, n, r, r.length, e⟩
  · have e := I.kIn a _ h1
    refine ⟨by rw [h3.length, Array.length_toList]; exact h2, its.toList, n, h3, h3.length, ?_⟩
    rw [e, Array.toArray_toList]
theorem LstX.of {K : PySem.W.Frag} {S : Vol} {H : Hp} {a : Addr} {xs : List V} (h : H a = some (.lst xs)) (n : ¬ S a) : LstX K S H a xs := .inl ⟨.inl h, n⟩
/-- how a tuple of ints hashes -/
def hashT (ks : List Int) : Int := reduceHash (Builtin.Tuple.tupleHashOf (ks.map hashInt))
def tK (ks : List Int) : D := .tuple (ks.map PyData.int)
/-- a dict whose keys are tuples of ints: the keys, where they stand, the values -/
abbrev KVs := List (List Int × Addr × V)
def dtP (a : Addr) (xs : KVs) (ep : Nat) (h : Heap) : Prop := (a == sysModules) = false ∧ xs.length ≤ sizeLine ∧ ∃ (o : Obj) (es : Array DictEntry) (ws : List Value), h.get? a = some o ∧ o.ExactDict ∧ o.data = .dict es ep ∧ Vals (xs.map (·.2.2)) ws ∧
  es.toList = (xs.zip ws).map (fun p => ⟨hashT p.1.1, .ref p.1.2.1, p.2⟩) ∧ (xs.map (·.1)).Nodup
def dtO (a : Addr) (xs : KVs) (ep : Nat) : HO := .ext (dtP a xs ep)
def KeysX (K : PySem.W.Frag) (S : Vol) (H : Hp) (xs : KVs) : Prop := ∀ x ∈ xs, TupX K S H x.2.1 (x.1.map V.int)
theorem KeysX.mv {K : PySem.W.Frag} {S S' : Vol} {H H' : Hp} {xs : KVs} (h : KeysX K S H xs) (f : ∀ a o, H a = some o → ¬ S a → H' a = some o) (g : ∀ a, S' a → S a ∨ H a = none) : KeysX K S' H' xs := fun x hx => (h x hx).mv f g
mutual
/-- v stands for d; the objects at S may change, d hangs on none of them -/
inductive Rp (K : PySem.W.Frag) (S : Vol) (H : Hp) : V → D → Prop
  | non : Rp K S H .non .none
  | bl (b : Bool) : Rp K S H (.bl b) (.bool b)
  | int (i : Int) : Rp K S H (.int i) (.int i)
  | str (x : Str) : Rp K S H (.str x) (.str x)
  | lst {a : Addr} {xs : List V} {ds : List D} : LstX K S H a xs → RpA K S H xs ds → Rp K S H (.ref a) (.list ds)
  | tup {a : Addr} {xs : List V} {ds : List D} : TupX K S H a xs → RpA K S H xs ds → Rp K S H (.ref a) (.tuple ds)
  | dK {a : Addr} {kk : List (Key × V)} {ds : List D} : kk ≠ [] → H a = some (.dK kk) → ¬ S a → RpA K S H (kk.map Prod.snd) ds → Rp K S H (.ref a) (.dict ((kk.map fun p => keyD1 p.1).zip ds))
  | dT {a : Addr} {kk : KVs} {ep : Nat} {ds : List D} : H a = some (dtO a kk ep) → ¬ S a → KeysX K S H kk → RpA K S H (kk.map (·.2.2)) ds → Rp K S H (.ref a) (.dict ((kk.map fun p => tK p.1).zip ds))
inductive RpA (K : PySem.W.Frag) (S : Vol) (H : Hp) : List V → List D → Prop
  | nil : RpA K S H [] []
  | cons {v : V} {d : D} {vs : List V} {ds : List D} : Rp K S H v d → RpA K S H vs ds → RpA K S H (v :: vs) (d :: ds)
end

section
variable {K : PySem.W.Frag} {S S' : Vol} {H H' : Hp} {v : V} {d : D} {xs ys : List V} {ds es : List D} {a p : Addr}
mutual
theorem Rp.mv (f : ∀ a o, H a = some o → ¬ S a → H' a = some o) (g : ∀ a, S' a → S a ∨ H a = none) : ∀ {v d}, Rp K S H v d → Rp K S' H' v d
  | _, _, .non => .non
  | _, _, .bl b => .bl b
  | _, _, .int i => .int i
  | _, _, .str x => .str x
  | _, _, .lst h r => .lst (h.mv f g) (RpA.mv f g r)
  | _, _, .tup h r => .tup (h.mv f g) (RpA.mv f g r)
  | _, _, .dK e h n r => .dK e (f _ _ h n) (fun s => (g _ s).elim n fun z => by rw [h] at z; cases z) (RpA.mv f g r)
  | _, _, .dT h n q r => .dT (f _ _ h n) (fun s => (g _ s).elim n fun z => by rw [h] at z; cases z) (q.mv f g) (RpA.mv f g r)
theorem RpA.mv (f : ∀ a o, H a = some o → ¬ S a → H' a = some o) (g : ∀ a, S' a → S a ∨ H a = none) : ∀ {vs ds}, RpA K S H vs ds → RpA K S' H' vs ds
  | _, _, .nil => .nil
  | _, _, .cons r t => .cons (Rp.mv f g r) (RpA.mv f g t)
end
theorem Rp.ext (e : Ext H H') (r : Rp K S H v d) : Rp K S H' v d := r.mv (fun a o h _ => e a o h) fun _ s => .inl s
theorem RpA.ext (e : Ext H H') (r : RpA K S H xs ds) : RpA K S H' xs ds := r.mv (fun a o h _ => e a o h) fun _ s => .inl s
theorem Rp.wr {o : HO} (s : S p) (r : Rp K S H v d) : Rp K S (upd H p o) v d := r.mv (fun a o h n => by rw [upd_ne (show a ≠ p from fun e => n (by rw [e]; exact s))]; exact h) fun _ s => .inl s
theorem RpA.wr {o : HO} (s : S p) (r : RpA K S H xs ds) : RpA K S (upd H p o) xs ds := r.mv (fun a o h n => by rw [upd_ne (show a ≠ p from fun e => n (by rw [e]; exact s))]; exact h) fun _ s => .inl s
theorem Rp.anti (h : ∀ a, S' a → S a) (r : Rp K S H v d) : Rp K S' H v d := r.mv (fun _ _ e _ => e) fun a s => .inl (h a s)
theorem RpA.anti (h : ∀ a, S' a → S a) (r : RpA K S H xs ds) : RpA K S' H xs ds := r.mv (fun _ _ e _ => e) fun a s => .inl (h a s)
theorem RpA.len : ∀ {xs ds}, RpA K S H xs ds → xs.length = ds.length
  | _, _, .nil => rfl
  | _, _, .cons _ t => congrArg (· + 1) (RpA.len t)
theorem RpA.get : ∀ {xs ds} {i : Nat} {d : D}, RpA K S H xs ds → ds[i]? = some d → ∃ x, xs[i]? = some x ∧ Rp K S H x d
  | _, _, 0, _, .cons r _, e => by cases e; exact ⟨_, rfl, r⟩
  | _, _, i + 1, d, .cons _ t, e => by
    obtain ⟨x, h, r⟩ := RpA.get (i := i) (d := d) t (by simpa using e)
    exact ⟨x, by simpa using h, r⟩
theorem RpA.getV : ∀ {xs ds} {i : Nat} {x : V}, RpA K S H xs ds → xs[i]? = some x → ∃ d, ds[i]? = some d ∧ Rp K S H x d
  | _, _, 0, _, .cons r _, e => by cases e; exact ⟨_, rfl, r⟩
  | _, _, i + 1, d, .cons _ t, e => by
    obtain ⟨x, h, r⟩ := RpA.getV (i := i) (x := d) t (by simpa using e)
    exact ⟨x, by simpa using h, r⟩
theorem RpA.of_get : ∀ {xs : List V} {ds : List D}, xs.length = ds.length → (∀ (i : Nat) x d, xs[i]? = some x → ds[i]? = some d → Rp K S H x d) → RpA K S H xs ds
  | [], [], _, _ => .nil
  | x :: xs, d :: ds, hl, h => .cons (h 0 x d rfl rfl) (RpA.of_get (by simpa using hl) fun i x d e1 e2 => h (i + 1) x d (by simpa using e1) (by simpa using e2))
theorem RpA.app : ∀ {xs ys ds es}, RpA K S H xs ds → RpA K S H ys es → RpA K S H (xs ++ ys) (ds ++ es)
  | _, _, _, _, .nil, s => s
  | _, _, _, _, .cons r t, s => .cons r (RpA.app t s)
theorem RpA.one (r : Rp K S H v d) : RpA K S H [v] [d] := .cons r .nil
theorem RpA.set (r : Rp K S H v d) : ∀ {xs ds} (i : Nat), RpA K S H xs ds → RpA K S H (xs.set i v) (ds.set i d)
  | _, _, _, .nil => .nil
  | _, _, 0, .cons _ t => .cons r t
  | _, _, i + 1, .cons q t => .cons q (RpA.set r i t)
theorem RpA.erase : ∀ {xs ds} (i : Nat), RpA K S H xs ds → RpA K S H (xs.eraseIdx i) (ds.eraseIdx i)
  | _, _, _, .nil => .nil
  | _, _, 0, .cons _ t => t
  | _, _, i + 1, .cons q t => .cons q (RpA.erase i t)
theorem RpA.take : ∀ {xs ds} (n : Nat), RpA K S H xs ds → RpA K S H (xs.take n) (ds.take n)
  | _, _, 0, _ => .nil
  | _, _, _ + 1, .nil => .nil
  | _, _, n + 1, .cons r t => .cons r (RpA.take n t)
theorem RpA.drop : ∀ {xs ds} (n : Nat), RpA K S H xs ds → RpA K S H (xs.drop n) (ds.drop n)
  | _, _, 0, r => r
  | _, _, _ + 1, .nil => .nil
  | _, _, n + 1, .cons r t => RpA.drop n t
theorem RpA.rev : ∀ {xs ds}, RpA K S H xs ds → RpA K S H xs.reverse ds.reverse
  | _, _, .nil => .nil
  | _, _, .cons r t => by rw [List.reverse_cons, List.reverse_cons]; exact (RpA.rev t).app (.one r)
theorem RpA.ints : ∀ {xs : List V} {ns : List Int}, RpA K S H xs (ns.map PyData.int) → xs = ns.map V.int
  | [], [], _ => rfl
  | _ :: _, n :: ns, .cons r t => by
    cases r
    rw [List.map_cons, RpA.ints t]
theorem RpA.ofInts (ns : List Int) : RpA K S H (ns.map V.int) (ns.map PyData.int) := by
  induction ns with
  | nil => exact .nil
  | cons n r ih => exact .cons (.int n) ih
theorem RpA.bools : ∀ {xs : List V} {ns : List Bool}, RpA K S H xs (ns.map PyData.bool) → xs = ns.map V.bl
  | [], [], _ => rfl
  | _ :: _, n :: ns, .cons r t => by
    cases r
    rw [List.map_cons, RpA.bools t]
theorem RpA.isInt : ∀ {xs : List V} {ds : List D}, RpA K S H xs ds → ∀ {ns : List Int}, ds = ns.map PyData.int → xs = ns.map V.int := fun r _ e => by subst e; exact r.ints

/-- an object that may be read as d, wherever it stands -/
inductive Ob (K : PySem.W.Frag) (S : Vol) (H : Hp) (p : Addr) : D → Prop
  | lst {xs : List V} {ds : List D} : H p = some (.lst xs) → RpA K S H xs ds → Ob K S H p (.list ds)
  | dK {kk : List (Key × V)} {ds : List D} : kk ≠ [] → H p = some (.dK kk) → RpA K S H (kk.map Prod.snd) ds → Ob K S H p (.dict ((kk.map fun p => keyD1 p.1).zip ds))
  | dT {kk : KVs} {ep : Nat} {ds : List D} : H p = some (dtO p kk ep) → KeysX K S H kk → RpA K S H (kk.map (·.2.2)) ds → Ob K S H p (.dict ((kk.map fun p => tK p.1).zip ds))
theorem Ob.mv (o : Ob K S H p d) (h : ∀ u, H p = some u → H' p = some u) (f : ∀ a o, H a = some o → ¬ S a → H' a = some o) (g : ∀ a, S' a → S a ∨ H a = none) : Ob K S' H' p d := by
  cases o with
  | lst e r => exact .lst (h _ e) (r.mv f g)
  | dK n e r => exact .dK n (h _ e) (r.mv f g)
  | dT e q r => exact .dT (h _ e) (q.mv f g) (r.mv f g)
theorem Ob.ext (e : Ext H H') (o : Ob K S H p d) : Ob K S H' p d := o.mv (fun u h => e p u h) (fun a o h _ => e a o h) fun _ s => .inl s
theorem Ob.anti (h : ∀ a, S' a → S a) (o : Ob K S H p d) : Ob K S' H p d := o.mv (fun _ h => h) (fun _ _ h _ => h) fun a s => .inl (h a s)
theorem Ob.there (o : Ob K S H p d) : ∃ u, H p = some u := by
  cases o with
  | lst e _ => exact ⟨_, e⟩
  | dK _ e _ => exact ⟨_, e⟩
  | dT e _ _ => exact ⟨_, e⟩
theorem Ob.rp (o : Ob K S H p d) (n : ¬ S p) : Rp K S H (.ref p) d := by
  cases o with
  | lst e r => exact .lst (.of e n) r
  | dK z e r => exact .dK z e n r
  | dT e q r => exact .dT e n q r
theorem Ob.mut (o : Ob K S H p d) : Mut (H p) := by
  cases o with
  | lst e _ => rw [e]; trivial
  | dK _ e _ => rw [e]; trivial
  | dT e _ _ => rw [e]; trivial
/-- what a reader asks: data, or an object that is being built -/
def Rq (K : PySem.W.Frag) (S : Vol) (H : Hp) (v : V) (d : D) : Prop := Rp K S H v d ∨ ∃ p, v = .ref p ∧ Ob K S H p d
theorem Rq.lx (h : Rq K S H v (.list ds)) : ∃ p xs, v = .ref p ∧ Lx K H p xs ∧ RpA K S H xs ds := by
  rcases h with h | ⟨p, rfl, h⟩
  · cases h with
    | lst e r => exact ⟨_, _, rfl, e.lx, r⟩
  · cases h with
    | lst e r => exact ⟨_, _, rfl, .inl (.inl e), r⟩
theorem Rq.sql (h : Rq K S H v (.list ds)) : ∃ p xs, v = .ref p ∧ SqL K H p xs ∧ RpA K S H xs ds := by
  rcases h with h | ⟨p, rfl, h⟩
  · cases h with
    | lst e r => exact ⟨_, _, rfl, e.sq, r⟩
  · cases h with
    | lst e r => exact ⟨_, _, rfl, .of e, r⟩
theorem Rq.sqt (h : Rq K S H v (.tuple ds)) : ∃ p xs, v = .ref p ∧ SqT K H p xs ∧ RpA K S H xs ds := by
  rcases h with h | ⟨p, rfl, h⟩
  · cases h with
    | tup e r => exact ⟨_, _, rfl, e.sq, r⟩
  · cases h
theorem Rq.int {i : Int} (h : Rq K S H v (.int i)) : v = .int i := by
  rcases h with h | ⟨p, rfl, h⟩
  · cases h; rfl
  · cases h
theorem Rq.bl {b : Bool} (h : Rq K S H v (.bool b)) : v = .bl b := by
  rcases h with h | ⟨p, rfl, h⟩
  · cases h; rfl
  · cases h
theorem Rq.str {x : Str} (h : Rq K S H v (.str x)) : v = .str x := by
  rcases h with h | ⟨p, rfl, h⟩
  · cases h; rfl
  · cases h
theorem Rq.non (h : Rq K S H v .none) : v = .non := by
  rcases h with h | ⟨p, rfl, h⟩
  · cases h; rfl
  · cases h

/-- what is known while a walk runs: a value's data; a whole object -/
abbrev Wt := (V × D) ⊕ (Addr × HO)
def WtOk (K : PySem.W.Frag) (S : Vol) (H : Hp) : Wt → Prop
  | .inl q => Rp K S H q.1 q.2
  | .inr q => H q.1 = some q.2 ∧ ¬ S q.1
theorem WtOk.mv {K : PySem.W.Frag} {S S' : Vol} {H H' : Hp} {q : Wt} (h : WtOk K S H q) (f : ∀ a o, H a = some o → ¬ S a → H' a = some o) (g : ∀ a, S' a → S a ∨ H a = none) : WtOk K S' H' q := by
  cases q with
  | inl q => exact Rp.mv f g h
  | inr q => exact ⟨f _ _ h.1 h.2, fun s => (g _ s).elim h.2 fun z => by rw [h.1] at z; cases z⟩
theorem WtOk.wr {K : PySem.W.Frag} {S : Vol} {H : Hp} {p : Addr} {o : HO} {q : Wt} (s : S p) (r : WtOk K S H q) : WtOk K S (upd H p o) q := r.mv (fun a o h n => by rw [upd_ne (show a ≠ p from fun e => n (by rw [e]; exact s))]; exact h) fun _ s => .inl s
theorem WtOk.anti {K : PySem.W.Frag} {S S' : Vol} {H : Hp} {q : Wt} (h : ∀ a, S' a → S a) (r : WtOk K S H q) : WtOk K S' H q := r.mv (fun _ _ e _ => e) fun a s => .inl (h a s)
/-! ## stores -/
/-- what a slot holds: data; an object of the def's own that it changes; the source -/
inductive Cl where
  | dat (d : D)
  | own (d : D)
  | srcR
abbrev Rho := List (Option Cl)
structure Ctx where
  H0 : Hp
  S0 : Vol
  sa : Option (Addr × Addr)
  vs : List Wt
  pr : Vol
def Ctx.M (C : Ctx) (x : Addr) : Prop := ∃ a c, C.sa = some (a, c) ∧ (x = a ∨ x = c)
/-- the law's source: its dict at a, its cells at c -/
def SrcOk (H : Hp) (a c : Addr) : Prop := ∃ (cells : List Int) (left mixed turn : Int),
  H a = some (.dK [(.inr "cells", .ref c), (.inr "left", .int left), (.inr "mixed", .int mixed), (.inr "turn", .int turn)]) ∧ H c = some (.lst (cells.map V.int)) ∧
  (∀ x ∈ cells, 0 ≤ x) ∧ cells.length ≤ 63 ∧ 0 ≤ left ∧ 0 ≤ mixed ∧ mixed < 2 ^ 31 ∧ 0 ≤ turn
def EntOk (K : PySem.W.Frag) (C : Ctx) (S : Vol) (H : Hp) (v : V) : Cl → Prop
  | .dat d => Rp K S H v d
  | .own d => ∃ p, v = .ref p ∧ S p ∧ C.H0 p = none ∧ ¬ C.M p ∧ ¬ C.pr p ∧ Ob K S H p d
  | .srcR => ∃ a c, C.sa = some (a, c) ∧ v = .ref a
structure RS (K : PySem.W.Frag) (C : Ctx) (S : Vol) (σ : VStore) (H : Hp) (ρ : Rho) : Prop where
  len : σ.length = ρ.length
  fr : ∀ a o, C.H0 a = some o → ¬ C.M a → H a = some o
  al : ∀ a, S a → ∃ o, H a = some o
  pa : ∀ a, C.pr a → ∃ o, H a = some o
  a0 : ∀ a, C.S0 a → S a ∧ ∃ o, C.H0 a = some o
  ent : ∀ (i : Nat) c, ρ[i]? = some (some c) → ∃ v, σ[i]? = some (some v) ∧ EntOk K C S H v c
  dst : ∀ (i j : Nat) o o' p, i ≠ j → ρ[i]? = some (some (.own o)) → ρ[j]? = some (some (.own o')) → σ[i]? = some (some (.ref p)) → σ[j]? = some (some (.ref p)) → False
  vok : ∀ q ∈ C.vs, WtOk K S H q
  src : ∀ a c, C.sa = some (a, c) → a ≠ c ∧ S a ∧ S c ∧ ¬ C.pr a ∧ ¬ C.pr c ∧ SrcOk H a c
/-- what an expression leaves as it is -/
def Fr (C : Ctx) (S : Vol) (H H' : Hp) : Prop := ∀ a o, H a = some o → (¬ S a ∨ C.pr a) → H' a = some o
variable {C : Ctx} {σ : VStore} {ρ ρ' : Rho} {H1 H2 : Hp} {i j : Nat} {u : HO}
theorem Fr.refl : Fr C S H H := fun _ _ h _ => h
theorem Fr.of (e : Ext H H') : Fr C S H H' := fun a o h _ => e a o h
theorem Fr.trans (x : Fr C S H H1) (y : Fr C S H1 H2) : Fr C S H H2 := fun a o h n => y a o (x a o h n) n
theorem Fr.rp (x : Fr C S H H') (r : Rp K S H v d) : Rp K S H' v d := r.mv (fun a o h n => x a o h (.inl n)) fun _ s => .inl s
theorem Fr.rpa (x : Fr C S H H') (r : RpA K S H xs ds) : RpA K S H' xs ds := r.mv (fun a o h n => x a o h (.inl n)) fun _ s => .inl s
theorem SrcOk.mv {a c : Addr} (s : SrcOk H a c) (h1 : ∀ u, H a = some u → H' a = some u) (h2 : ∀ u, H c = some u → H' c = some u) : SrcOk H' a c := by
  obtain ⟨cells, left, mixed, turn, e1, e2, r⟩ := s
  exact ⟨cells, left, mixed, turn, h1 _ e1, h2 _ e2, r⟩
theorem EntOk.mv {c : Cl} (x : EntOk K C S H v c) (f : ∀ a o, H a = some o → ¬ S a → H' a = some o) (g : ∀ a, S' a → S a ∨ H a = none) (s : ∀ a, S a → S' a)
    (h : ∀ p o, v = .ref p → c = .own o → ∀ u, H p = some u → H' p = some u) : EntOk K C S' H' v c := by
  cases c with
  | dat d => exact Rp.mv f g x
  | own d =>
    obtain ⟨p, rfl, h1, h2, h3, h4, o⟩ := x
    exact ⟨p, rfl, s _ h1, h2, h3, h4, o.mv (h p d rfl rfl) f g⟩
  | srcR => exact x
/-- pure growth, S growing by what was free -/
theorem RS.mv (R : RS K C S σ H ρ) (e : Ext H H') (s : ∀ a, S a → S' a) (g : ∀ a, S' a → S a ∨ (H a = none ∧ ∃ o, H' a = some o)) : RS K C S' σ H' ρ where
  len := R.len
  fr := fun a o h m => e a o (R.fr a o h m)
  al := fun a h => (g a h).elim (fun z => let ⟨o, q⟩ := R.al a z; ⟨o, e a o q⟩) fun z => z.2
  pa := fun a h => let ⟨o, q⟩ := R.pa a h; ⟨o, e a o q⟩
  a0 := fun a h => ⟨s _ (R.a0 a h).1, (R.a0 a h).2⟩
  ent := fun i c h => by
    obtain ⟨v, h1, h2⟩ := R.ent i c h
    exact ⟨v, h1, h2.mv (fun a o h _ => e a o h) (fun a h => (g a h).imp id And.left) s fun p o _ _ u h => e p u h⟩
  dst := R.dst
  vok := fun q h => (R.vok q h).mv (fun a o h _ => e a o h) fun a h => (g a h).imp id And.left
  src := fun a c h => by
    obtain ⟨h1, h2, h3, h4, h5, h6⟩ := R.src a c h
    exact ⟨h1, s _ h2, s _ h3, h4, h5, h6.mv (fun u q => e a u q) fun u q => e c u q⟩
theorem RS.ext (R : RS K C S σ H ρ) (e : Ext H H') : RS K C S σ H' ρ := R.mv e (fun _ h => h) fun _ h => .inl h
/-- what is free is no part of what is known -/
theorem RS.notS (R : RS K C S σ H ρ) (h : H p = none) : ¬ S p := fun s => by
  obtain ⟨o, e⟩ := R.al p s
  rw [h] at e; cases e
theorem RS.notP (R : RS K C S σ H ρ) (h : H p = none) : ¬ C.pr p := fun s => by
  obtain ⟨o, e⟩ := R.pa p s
  rw [h] at e; cases e
theorem RS.mS (R : RS K C S σ H ρ) (h : C.M p) : S p ∧ ¬ C.pr p := by
  obtain ⟨a, c, e, z⟩ := h
  obtain ⟨_, h2, h3, h4, h5, _⟩ := R.src a c e
  rcases z with rfl | rfl
  · exact ⟨h2, h4⟩
  · exact ⟨h3, h5⟩
theorem RS.free0 (R : RS K C S σ H ρ) (h : H p = none) : C.H0 p = none ∧ ¬ C.M p := by
  have m : ¬ C.M p := fun m => R.notS h (R.mS m).1
  refine ⟨?_, m⟩
  cases q : C.H0 p with
  | none => rfl
  | some o =>
    have := R.fr p o q m
    rw [h] at this; cases this
/-- a slot gets a new cell -/
theorem RS.setS (R : RS K C S σ H ρ) {c : Cl} (x : EntOk K C S H v c) (h : ∀ o p, c = .own o → v = .ref p → ∀ (j : Nat) o', j ≠ i → ρ[j]? = some (some (.own o')) → σ[j]? ≠ some (some (.ref p))) :
    RS K C S (σ.set i (some v)) H (ρ.set i (some c)) where
  len := by rw [List.length_set, List.length_set]; exact R.len
  fr := R.fr
  al := R.al
  pa := R.pa
  a0 := R.a0
  ent := fun j c' e => by
    by_cases hj : i = j
    · subst hj
      by_cases hl : i < ρ.length
      · rw [List.getElem?_set_self hl] at e
        cases e
        exact ⟨v, by rw [List.getElem?_set_self (by rw [R.len]; exact hl)], x⟩
      · rw [List.getElem?_eq_none (by rw [List.length_set]; omega)] at e; cases e
    · rw [List.getElem?_set_ne hj] at e ⊢
      exact R.ent j c' e
  dst := fun j k o o' p hjk e1 e2 e3 e4 => by
    by_cases hj : i = j
    · subst hj
      have hk : i ≠ k := hjk
      by_cases hl : i < ρ.length
      · rw [List.getElem?_set_self hl] at e1
        cases e1
        rw [List.getElem?_set_self (by rw [R.len]; exact hl)] at e3
        cases e3
        rw [List.getElem?_set_ne hk] at e2 e4
        exact h o p rfl rfl k o' (Ne.symm hk) e2 e4
      · rw [List.getElem?_eq_none (by rw [List.length_set]; omega)] at e1; cases e1
    · rw [List.getElem?_set_ne hj] at e1 e3
      by_cases hk : i = k
      · subst hk
        by_cases hl : i < ρ.length
        · rw [List.getElem?_set_self hl] at e2
          cases e2
          rw [List.getElem?_set_self (by rw [R.len]; exact hl)] at e4
          cases e4
          exact h o' p rfl rfl j o hjk e1 e3
        · rw [List.getElem?_eq_none (by rw [List.length_set]; omega)] at e2; cases e2
      · rw [List.getElem?_set_ne hk] at e2 e4
        exact R.dst j k o o' p hjk e1 e2 e3 e4
  vok := R.vok
  src := R.src
theorem RS.setD (R : RS K C S σ H ρ) (x : Rp K S H v d) : RS K C S (σ.set i (some v)) H (ρ.set i (some (.dat d))) := R.setS (c := .dat d) x fun _ _ z => nomatch z
/-- forgetting -/
theorem RS.weak {σ' : VStore} (R : RS K C S σ H ρ) (hl : σ'.length = ρ'.length) (h : ∀ (i : Nat) c, ρ'[i]? = some (some c) → ρ[i]? = some (some c) ∧ σ'[i]? = σ[i]?) : RS K C S σ' H ρ' where
  len := hl
  fr := R.fr
  al := R.al
  pa := R.pa
  a0 := R.a0
  ent := fun i c e => by
    obtain ⟨e1, e2⟩ := h i c e
    rw [e2]
    exact R.ent i c e1
  dst := fun i j o o' p hij e1 e2 e3 e4 => by
    obtain ⟨f1, g1⟩ := h i _ e1
    obtain ⟨f2, g2⟩ := h j _ e2
    rw [g1] at e3
    rw [g2] at e4
    exact R.dst i j o o' p hij f1 f2 e3 e4
  vok := R.vok
  src := R.src
/-- the object of a slot is changed -/
theorem RS.write (R : RS K C S σ H ρ) (e1 : ρ[i]? = some (some (.own d))) (e2 : σ[i]? = some (some (.ref p))) {d' : D} (o : Ob K S (upd H p u) p d') : RS K C S σ (upd H p u) (ρ.set i (some (.own d'))) := by
  obtain ⟨v, e3, q, e4, sp, n0, nm, np, ob⟩ := R.ent i _ e1
  rw [e2] at e3; cases e3; cases e4
  have hl : i < ρ.length := (List.getElem?_eq_some_iff.mp e1).1
  have keep : ∀ a o, a ≠ p → H a = some o → upd H p u a = some o := fun a o n e => by rw [upd_ne n]; exact e
  refine ⟨by rw [List.length_set]; exact R.len, fun a o h m => keep a o (fun z => by rw [z, n0] at h; cases h) (R.fr a o h m), fun a h => ?_, fun a h => ?_, R.a0, fun j c e => ?_, fun j k o o' q hjk f1 f2 f3 f4 => ?_, fun q h => (R.vok q h).wr sp, fun a c h => ?_⟩
  · by_cases z : a = p
    · rw [z]; exact ⟨_, upd_same⟩
    · obtain ⟨o, h⟩ := R.al a h
      exact ⟨o, keep a o z h⟩
  · by_cases z : a = p
    · rw [z]; exact ⟨_, upd_same⟩
    · obtain ⟨o, h⟩ := R.pa a h
      exact ⟨o, keep a o z h⟩
  · by_cases hj : i = j
    · subst hj
      rw [List.getElem?_set_self hl] at e
      cases e
      exact ⟨_, e2, p, rfl, sp, n0, nm, np, o⟩
    · rw [List.getElem?_set_ne hj] at e
      obtain ⟨v, h1, h2⟩ := R.ent j c e
      refine ⟨v, h1, h2.mv (fun a o h n => keep a o (fun z => n (z ▸ sp)) h) (fun _ s => .inl s) (fun _ s => s) fun q o' hv hc w hw => keep q w (fun z => ?_) hw⟩
      subst z hv hc
      exact R.dst i j _ _ _ hj e1 e e2 h1
  · have back : ∀ (k : Nat) o, (ρ.set i (some (.own d')))[k]? = some (some (.own o)) → ∃ o', ρ[k]? = some (some (.own o')) := fun k o h => by
      by_cases hk : i = k
      · subst hk; exact ⟨_, e1⟩
      · rw [List.getElem?_set_ne hk] at h; exact ⟨_, h⟩
    obtain ⟨_, g1⟩ := back j _ f1
    obtain ⟨_, g2⟩ := back k _ f2
    exact R.dst j k _ _ q hjk g1 g2 f3 f4
  · obtain ⟨h1, h2, h3, h4, h5, h6⟩ := R.src a c h
    exact ⟨h1, h2, h3, h4, h5, h6.mv (fun w hw => keep a w (fun z => nm (z ▸ ⟨a, c, h, .inl rfl⟩)) hw) fun w hw => keep c w (fun z => nm (z ▸ ⟨a, c, h, .inr rfl⟩)) hw⟩
theorem RS.writeFr (R : RS K C S σ H ρ) (e1 : ρ[i]? = some (some (.own d))) (e2 : σ[i]? = some (some (.ref p))) : Fr C S H (upd H p u) := fun a o h n => by
  obtain ⟨v, e3, q, e4, sp, n0, nm, np, ob⟩ := R.ent i _ e1
  rw [e2] at e3; cases e3; cases e4
  rw [upd_ne (show a ≠ p from fun z => n.elim (fun z' => z' (by rw [z]; exact sp)) fun z' => np (by rw [← z]; exact z'))]
  exact h
theorem RS.own (R : RS K C S σ H ρ) (e1 : ρ[i]? = some (some (.own d))) : ∃ p, σ[i]? = some (some (.ref p)) ∧ S p ∧ Ob K S H p d := by
  obtain ⟨v, e3, q, e4, sp, n0, nm, np, ob⟩ := R.ent i _ e1
  subst e4
  exact ⟨q, e3, sp, ob⟩
/-- an object of the def's own is given free: it is data from now on -/
theorem RS.freeze (R : RS K C S σ H ρ) (e1 : ρ[i]? = some (some (.own d))) : ∃ S', (∀ a, S' a → S a) ∧ (∀ a, C.S0 a → S' a) ∧ RS K C S' σ H (ρ.set i (some (.dat d))) := by
  obtain ⟨v, e3, p, rfl, sp, n0, nm, np, ob⟩ := R.ent i _ e1
  have hl : i < ρ.length := (List.getElem?_eq_some_iff.mp e1).1
  have sub : ∀ a, (S a ∧ a ≠ p) → S a := fun a h => h.1
  refine ⟨fun a => S a ∧ a ≠ p, sub, fun a h => ⟨(R.a0 a h).1, fun z => by obtain ⟨o, e⟩ := (R.a0 a h).2; rw [z, n0] at e; cases e⟩, by rw [List.length_set]; exact R.len, R.fr, fun a h => R.al a h.1, R.pa, fun a h => ⟨⟨(R.a0 a h).1, fun z => by obtain ⟨o, e⟩ := (R.a0 a h).2; rw [z, n0] at e; cases e⟩, (R.a0 a h).2⟩, fun j c e => ?_, fun j k o o' q hjk f1 f2 f3 f4 => ?_, fun q h => (R.vok q h).anti sub, fun a c h => ?_⟩
  · by_cases hj : i = j
    · subst hj
      rw [List.getElem?_set_self hl] at e
      cases e
      exact ⟨_, e3, (ob.anti sub).rp fun z => z.2 rfl⟩
    · rw [List.getElem?_set_ne hj] at e
      obtain ⟨v, h1, h2⟩ := R.ent j c e
      refine ⟨v, h1, ?_⟩
      cases c with
      | dat d' => exact Rp.anti sub h2
      | own d' =>
        obtain ⟨q, rfl, s1, s2, s3, s4, s5⟩ := h2
        exact ⟨q, rfl, ⟨s1, fun z => R.dst i j _ _ _ hj e1 e e3 (z ▸ h1)⟩, s2, s3, s4, s5.anti sub⟩
      | srcR => exact h2
  · have back : ∀ (k : Nat) o, (ρ.set i (some (.dat d)))[k]? = some (some (.own o)) → i ≠ k ∧ ρ[k]? = some (some (.own o)) := fun k o h => by
      by_cases hk : i = k
      · subst hk; rw [List.getElem?_set_self hl] at h; cases h
      · rw [List.getElem?_set_ne hk] at h; exact ⟨hk, h⟩
    exact R.dst j k _ _ q hjk (back j _ f1).2 (back k _ f2).2 f3 f4
  · obtain ⟨h1, h2, h3, h4⟩ := R.src a c h
    exact ⟨h1, ⟨h2, fun z => nm (z ▸ ⟨a, c, h, .inl rfl⟩)⟩, ⟨h3, fun z => nm (z ▸ ⟨a, c, h, .inr rfl⟩)⟩, h4⟩
/-- another context about the same -/
theorem RS.ctx {C' : Ctx} (R : RS K C S σ H ρ) (h0 : C'.H0 = C.H0) (h1 : C'.S0 = C.S0) (h2 : C'.sa = C.sa) (h3 : ∀ q ∈ C'.vs, WtOk K S H q)
    (h4 : ∀ (i : Nat) o p, ρ[i]? = some (some (.own o)) → σ[i]? = some (some (.ref p)) → ¬ C.pr p → ¬ C'.pr p) (h5 : ∀ p, C.M p → ¬ C.pr p → ¬ C'.pr p) (h6 : ∀ a, C'.pr a → ∃ o, H a = some o) : RS K C' S σ H ρ := by
  have hM : ∀ a, C'.M a ↔ C.M a := fun a => by unfold Ctx.M; rw [h2]
  refine ⟨R.len, fun a o h m => R.fr a o (h0 ▸ h) fun z => m ((hM a).mpr z), R.al, h6, fun a h => by rw [h1] at h; rw [h0]; exact R.a0 a h, fun i c e => ?_, R.dst, h3, fun a c h => ?_⟩
  · obtain ⟨v, e1, e2⟩ := R.ent i c e
    refine ⟨v, e1, ?_⟩
    cases c with
    | dat d => exact e2
    | own d =>
      obtain ⟨p, rfl, s1, s2, s3, s4, s5⟩ := e2
      exact ⟨p, rfl, s1, by rw [h0]; exact s2, fun z => s3 ((hM p).mp z), h4 i d p e e1 s4, s5⟩
    | srcR =>
      obtain ⟨a, c, z1, z2⟩ := e2
      exact ⟨a, c, by rw [h2]; exact z1, z2⟩
  · rw [h2] at h
    obtain ⟨z1, z2, z3, z4, z5, z6⟩ := R.src a c h
    exact ⟨z1, z2, z3, h5 a ⟨a, c, h, .inl rfl⟩ z4, h5 c ⟨a, c, h, .inr rfl⟩ z5, z6⟩
/-- data is kept in mind; an object is guarded -/
abbrev Ctx.pin (C : Ctx) (l : List Wt) : Ctx := { C with vs := l ++ C.vs }
abbrev Ctx.prot (C : Ctx) (p : Addr) : Ctx := { C with pr := fun a => C.pr a ∨ a = p }
theorem RS.pin {l : List Wt} (R : RS K C S σ H ρ) (h : ∀ q ∈ l, WtOk K S H q) : RS K (C.pin l) S σ H ρ :=
  R.ctx rfl rfl rfl (fun q hq => (List.mem_append.mp hq).elim (h q) (R.vok q)) (fun _ _ _ _ _ z => z) (fun _ _ z => z) R.pa
theorem RS.unpin {l : List Wt} (R : RS K (C.pin l) S σ H ρ) : RS K C S σ H ρ ∧ ∀ q ∈ l, WtOk K S H q :=
  ⟨R.ctx rfl rfl rfl (fun q hq => R.vok q (List.mem_append_right _ hq)) (fun _ _ _ _ _ z => z) (fun _ _ z => z) R.pa, fun q hq => R.vok q (List.mem_append_left _ hq)⟩
theorem RS.prot (R : RS K C S σ H ρ) (h : ∀ (i : Nat) o, ρ[i]? = some (some (.own o)) → σ[i]? ≠ some (some (.ref p))) (m : ¬ C.M p) (hp : ∃ o, H p = some o) : RS K (C.prot p) S σ H ρ :=
  R.ctx rfl rfl rfl R.vok (fun i o q e1 e2 n z => z.elim n fun z => h i o e1 (z ▸ e2)) (fun q hq n z => z.elim n fun z => m (z ▸ hq)) fun a h => h.elim (R.pa a) fun z => by rw [z]; exact hp
theorem RS.unprot (R : RS K (C.prot p) S σ H ρ) : RS K C S σ H ρ :=
  R.ctx rfl rfl rfl R.vok (fun i o q e1 e2 n z => n (.inl z)) (fun q hq n z => n (.inl z)) fun a h => R.pa a (.inl h)
/-- a new object: nobody knows it -/
theorem RS.new (R : RS K C S σ H ρ) (hp : H p = none) : RS K C (fun a => S a ∨ a = p) σ (upd H p u) ρ :=
  R.mv (.new hp) (fun _ h => .inl h) fun a h => h.imp id fun z => by rw [z]; exact ⟨hp, _, upd_same⟩
theorem RS.apart (R : RS K C S σ H ρ) (hp : ¬ S p) : ∀ (i : Nat) o, ρ[i]? = some (some (.own o)) → σ[i]? ≠ some (some (.ref p)) := fun i o e z => by
  obtain ⟨q, e2, s, _⟩ := R.own e
  rw [e2] at z; cases z
  exact hp s
/-- fewer objects are the def's own to change -/
theorem RS.less (R : RS K C S σ H ρ) (h : ∀ a, S' a → S a) (h0 : ∀ a, C.S0 a → S' a) (hs : ∀ a, C.M a → S' a) (ho : ∀ (i : Nat) o p, ρ[i]? = some (some (.own o)) → σ[i]? = some (some (.ref p)) → S' p) : RS K C S' σ H ρ := by
  refine ⟨R.len, R.fr, fun a z => R.al a (h a z), R.pa, fun a z => ⟨h0 a z, (R.a0 a z).2⟩, fun i c e => ?_, R.dst, fun q z => (R.vok q z).anti h, fun a c z => ?_⟩
  · obtain ⟨v, e1, e2⟩ := R.ent i c e
    refine ⟨v, e1, ?_⟩
    cases c with
    | dat d => exact Rp.anti h e2
    | own d =>
      obtain ⟨p, rfl, s1, s2, s3, s4, s5⟩ := e2
      exact ⟨p, rfl, ho i d p e e1, s2, s3, s4, s5.anti h⟩
    | srcR => exact e2
  · obtain ⟨z1, z2, z3, z4, z5, z6⟩ := R.src a c z
    exact ⟨z1, hs a ⟨a, c, z, .inl rfl⟩, hs c ⟨a, c, z, .inr rfl⟩, z4, z5, z6⟩
end
end Gw
namespace Gw
open PySem PySem.Spec PyProof.Rows L2

/-! ## readings over data -/
abbrev DTE := Rho → (D → Rho → Prop) → Prop
abbrev DTT := Rho → (Bool → Rho → Prop) → Prop
abbrev DTA := Rho → (List D → Rho → Prop) → Prop
abbrev DOp := D → D → (D → Prop) → Prop
structure DEnds where
  nx : Rho → Prop
  rt : D → Rho → Prop
  bk : Rho → Prop := fun _ => False
  ct : Rho → Prop := fun _ => False
abbrev DTS := DEnds → Rho → Prop

def SimE (K : PySem.W.Frag) (t : TE) (g : DTE) : Prop := ∀ (C : Ctx) (S : Vol) (σ : VStore) (H : Hp) (ρ : Rho) (Q : D → Rho → Prop) (k : VK), RS K C S σ H ρ → g ρ Q →
  (∀ v H' d ρ', Fr C S H H' → RS K C S σ H' ρ' → Rp K S H' v d → Q d ρ' → k v H') → t σ H k
def SimQ (K : PySem.W.Frag) (t : TE) (g : DTE) : Prop := ∀ (C : Ctx) (S : Vol) (σ : VStore) (H : Hp) (ρ : Rho) (Q : D → Rho → Prop) (k : VK), RS K C S σ H ρ → g ρ Q →
  (∀ v H' d ρ', Fr C S H H' → RS K C S σ H' ρ' → Rq K S H' v d → Q d ρ' → k v H') → t σ H k
/-- a new object -/
def SimF (K : PySem.W.Frag) (t : TE) (g : DTE) : Prop := ∀ (C : Ctx) (S : Vol) (σ : VStore) (H : Hp) (ρ : Rho) (Q : D → Rho → Prop) (k : VK), RS K C S σ H ρ → g ρ Q →
  (∀ p H' d ρ', Fr C S H H' → RS K C S σ H' ρ' → RS K C (fun a => S a ∨ a = p) σ H' ρ' → H p = none → Ob K (fun a => S a ∨ a = p) H' p d → Q d ρ' → k (.ref p) H') → t σ H k
def SimT (K : PySem.W.Frag) (t : TT) (g : DTT) : Prop := ∀ (C : Ctx) (S : Vol) (σ : VStore) (H : Hp) (ρ : Rho) (Q : Bool → Rho → Prop) (k : Bool → Hp → Prop), RS K C S σ H ρ → g ρ Q →
  (∀ b H' ρ', Fr C S H H' → RS K C S σ H' ρ' → Q b ρ' → k b H') → t σ H k
def SimA (K : PySem.W.Frag) (t : TA) (g : DTA) : Prop := ∀ (C : Ctx) (S : Vol) (σ : VStore) (H : Hp) (ρ : Rho) (Q : List D → Rho → Prop) (k : List V → Hp → Prop), RS K C S σ H ρ → g ρ Q →
  (∀ vs H' ds ρ', Fr C S H H' → RS K C S σ H' ρ' → RpA K S H' vs ds → Q ds ρ' → k vs H') → t σ H k
def SimS (K : PySem.W.Frag) (t : TS) (T : DTS) : Prop := ∀ (C : Ctx) (S : Vol) (σ : VStore) (H : Hp) (ρ : Rho) (E : Ends) (G : DEnds), RS K C S σ H ρ → T G ρ →
  (∀ S' σ' H' ρ', RS K C S' σ' H' ρ' → G.nx ρ' → E.nx σ' H') → (∀ S' σ' H' ρ' v d, RS K C S' σ' H' ρ' → Rp K S' H' v d → G.rt d ρ' → E.rt v H') →
  (∀ S' σ' H' ρ', RS K C S' σ' H' ρ' → G.bk ρ' → E.bk σ' H') → (∀ S' σ' H' ρ', RS K C S' σ' H' ρ' → G.ct ρ' → E.ct σ' H') → t E σ H

structure DE (X : Cx) (e : Expr) (g : DTE) : Prop where
  ex : ∃ t, PE X e t ∧ SimE X.K t g
structure DQ (X : Cx) (e : Expr) (g : DTE) : Prop where
  ex : ∃ t, PE X e t ∧ SimQ X.K t g
structure DF (X : Cx) (e : Expr) (g : DTE) : Prop where
  ex : ∃ t, PE X e t ∧ SimF X.K t g
structure DT (X : Cx) (e : Expr) (g : DTT) : Prop where
  ex : ∃ t, PT X e t ∧ SimT X.K t g
structure DW (X : Cx) (e : Expr) (g : DTT) : Prop where
  ex : ∃ t, PW X e t ∧ SimT X.K t g
structure DA (X : Cx) (es : List Expr) (g : DTA) : Prop where
  ex : ∃ t, PA X es t ∧ SimA X.K t g
structure DS (X : Cx) (st : Stmt) (T : DTS) : Prop where
  ex : ∃ t, PS X st t ∧ SimS X.K t T
structure DSs (X : Cx) (st : List Stmt) (T : DTS) : Prop where
  ex : ∃ t, PSs X st t ∧ SimS X.K t T


section
variable {X : Cx} {a b c : Expr} {g ga gb gc : DTE} {pos : Pos} {K : PySem.W.Frag}
theorem DE.q (h : DE X a g) : DQ X a g := let ⟨t, p, s⟩ := h.ex; ⟨t, p, fun C S σ H ρ Q k R q f => s C S σ H ρ Q k R q fun v H' d ρ' f1 f2 f3 f4 => f v H' d ρ' f1 f2 (.inl f3) f4⟩
theorem obSub {S : Vol} {H H' : Hp} {p : Addr} {d : D} {C : Ctx} {σ : VStore} {ρ : Rho} (R : RS K C S σ H ρ) (h : H p = none) (o : Ob K (fun a => S a ∨ a = p) H' p d) : Rp K S H' (.ref p) d := (o.anti fun _ h => .inl h).rp (R.notS h)
theorem DF.de (h : DF X a g) : DE X a g := let ⟨t, p, s⟩ := h.ex; ⟨t, p, fun C S σ H ρ Q k R q f => s C S σ H ρ Q k R q fun p H' d ρ' f1 f2 _ f3 f4 f5 => f _ H' d ρ' f1 f2 (obSub R f3 f4) f5⟩
theorem DF.q (h : DF X a g) : DQ X a g := h.de.q
/-- .. by the state where it was made -/
theorem newOb {S : Vol} {H1 : Hp} {σ : VStore} {C : Ctx} {ρ : Rho} {p : Addr} {u : HO} (R : RS K C S σ H1 ρ) (hp : H1 p = none) : RS K C S σ (upd H1 p u) ρ ∧ RS K C (fun a => S a ∨ a = p) σ (upd H1 p u) ρ := ⟨R.ext (.new hp), R.new hp⟩
theorem RpA.newp {S : Vol} {H1 : Hp} {p : Addr} {u : HO} {xs : List V} {ds : List D} (r : RpA K S H1 xs ds) (hp : H1 p = none) : RpA K (fun a => S a ∨ a = p) (upd H1 p u) xs ds :=
  r.mv (fun a o h _ => Ext.new hp a o h) fun a h => h.imp id fun z => by rw [z]; exact hp

/-! ### names and constants -/
/-- the i-th cell -/
def lk : Rho → Nat → Option Cl
  | [], _ => none
  | c :: _, 0 => c
  | _ :: r, i + 1 => lk r i
theorem lk_get : ∀ {ρ : Rho} {i : Nat} {c : Cl}, lk ρ i = some c → ρ[i]? = some (some c)
  | [], _, _, h => by simp [lk] at h
  | _ :: _, 0, _, h => by simpa [lk] using h
  | _ :: r, i + 1, c, h => by
    have := lk_get (ρ := r) (i := i) (c := c) (by simpa [lk] using h)
    simpa using this
theorem get_lk : ∀ {ρ : Rho} {i : Nat} {c : Cl}, ρ[i]? = some (some c) → lk ρ i = some c
  | [], _, _, h => by simp at h
  | _ :: _, 0, _, h => by simpa [lk] using h
  | _ :: r, i + 1, c, h => by
    have := get_lk (ρ := r) (i := i) (c := c) (by simpa using h)
    simpa [lk] using this
def gVar (i : Nat) : DTE := fun ρ Q => ∃ d, lk ρ i = some (.dat d) ∧ Q d ρ
def gOwn (i : Nat) : DTE := fun ρ Q => ∃ d, lk ρ i = some (.own d) ∧ Q d ρ
def gC (d : D) : DTE := fun ρ Q => Q d ρ
theorem simVar (i : Nat) : SimE K (tVar i) (gVar i) := fun C S σ H ρ Q k R q f => by
  obtain ⟨d, e, q⟩ := q
  obtain ⟨v, e1, r⟩ := R.ent i _ (lk_get e)
  exact ⟨v, e1, f v H d ρ .refl R r q⟩
theorem simOwn (i : Nat) : SimQ K (tVar i) (gOwn i) := fun C S σ H ρ Q k R q f => by
  obtain ⟨d, e, q⟩ := q
  obtain ⟨p, e1, _, o⟩ := R.own (lk_get e)
  exact ⟨_, e1, f _ H d ρ .refl R (.inr ⟨p, rfl, o⟩) q⟩
theorem dvar (i : Nat) {x : Str} (hN : X.N[i]? = some x := by rfl) (hv : Vis X.env.scope x := by first | exact Or.inl rfl | exact Or.inr (Or.inl rfl) | exact Or.inr (Or.inr rfl)) (hd : (x == ("__debug__" : Str)) = false := by decide)
    (hcd : (x == ("__classdict__" : Str)) = false := by decide) : DE X (.Name x pos) (gVar i) := ⟨_, pe_var hN hv hd hcd, simVar i⟩
theorem down (i : Nat) {x : Str} (hN : X.N[i]? = some x := by rfl) (hv : Vis X.env.scope x := by first | exact Or.inl rfl | exact Or.inr (Or.inl rfl) | exact Or.inr (Or.inr rfl)) (hd : (x == ("__debug__" : Str)) = false := by decide)
    (hcd : (x == ("__classdict__" : Str)) = false := by decide) : DQ X (.Name x pos) (gOwn i) := ⟨_, pe_var hN hv hd hcd, simOwn i⟩
theorem simC {v : V} {d : D} (r : ∀ S H, Rp K S H v d) : SimE K (tC v) (gC d) := fun C S σ H ρ Q k R q f => f v H d ρ .refl R (r S H) q
theorem dint {i : Int} {j} : DE X (.Constant (.int i) j pos) (gC (.int i)) := ⟨_, pe_int, simC fun _ _ => .int i⟩
theorem dbl {i : Bool} {j} : DE X (.Constant (.bool i) j pos) (gC (.bool i)) := ⟨_, pe_bl, simC fun _ _ => .bl i⟩
theorem dnon {j} : DE X (.Constant .none j pos) (gC .none) := ⟨_, pe_non, simC fun _ _ => .non⟩
theorem dstr {i : Str} {j} : DE X (.Constant (.str i) j pos) (gC (.str i)) := ⟨_, pe_str, simC fun _ _ => .str i⟩
theorem dglobI {x : Str} {i : Int} {t : Tok} (hg : Gl X x) (hm : X.mg x = some (.int i t)) (hd : (x == ("__debug__" : Str)) = false := by decide) : DE X (.Name x pos) (gC (.int i)) := ⟨_, pe_glob (v := .int i) hg hm ⟨_, rfl⟩ hd, simC fun _ _ => .int i⟩

/-! ### operations on values -/
def OpD (X : Cx) (f : Value → Value → Sem Value) (g : DOp) : Prop := ∃ r : R2, OpR X f r ∧ ∀ (S : Vol) (H : Hp) (x y : V) (dx dy : D) (Q : D → Prop) (k : VK), (∀ p, H p = none → ¬ S p) → Rq X.K S H x dx → Rq X.K S H y dy → g dx dy Q →
  (∀ z H' d, Ext H H' → Rp X.K S H' z d → Q d → k z H') → r x y H k
/-- .. that make a new object -/
def OpF (X : Cx) (f : Value → Value → Sem Value) (g : DOp) : Prop := ∃ r : R2, OpR X f r ∧ ∀ (S : Vol) (H : Hp) (x y : V) (dx dy : D) (Q : D → Prop) (k : VK), Rq X.K S H x dx → Rq X.K S H y dy → g dx dy Q →
  (∀ p xs ds, H p = none → RpA X.K S H xs ds → Q (.list ds) → k (.ref p) (upd H p (.lst xs))) → r x y H k
theorem OpF.d {f : Value → Value → Sem Value} {g : DOp} (h : OpF X f g) : OpD X f g := by
  obtain ⟨r, h1, h2⟩ := h
  refine ⟨r, h1, fun S H x y dx dy Q k n hx hy hg hk => h2 S H x y dx dy Q k hx hy hg fun p xs ds hp hr q => hk _ _ _ (.new hp) (.lst (.of upd_same (n p hp)) (hr.ext (.new hp))) q⟩
theorem OpR.orr {f : Value → Value → Sem Value} {r r' : R2} (h : OpR X f r) (h' : OpR X f r') : OpR X f (fun x y H Q => r x y H Q ∨ r' x y H Q) :=
  fun pins s σ H x y v u Q I rx ry q => q.elim (h pins s σ H x y v u Q I rx ry) (h' pins s σ H x y v u Q I rx ry)
theorem OpD.orr {f : Value → Value → Sem Value} {g g' g2 : DOp} (h : OpD X f g) (h' : OpD X f g') (hg : ∀ x y Q, g2 x y Q → g x y Q ∨ g' x y Q) : OpD X f g2 := by
  obtain ⟨r, h1, h2⟩ := h
  obtain ⟨r', h1', h2'⟩ := h'
  refine ⟨_, OpR.orr h1 h1', fun S H x y dx dy Q k n hx hy q hk => ?_⟩
  rcases hg _ _ _ q with q | q
  · exact .inl (h2 S H x y dx dy Q k n hx hy q hk)
  · exact .inr (h2' S H x y dx dy Q k n hx hy q hk)
def gBin (f : DOp) (ga gb : DTE) : DTE := fun ρ Q => ga ρ fun x ρ1 => gb ρ1 fun y ρ2 => f x y fun d => Q d ρ2
/-- the left one an own object: looked at when the right one is there -/
def gBinO (f : DOp) (i : Nat) (gb : DTE) : DTE := fun ρ Q => (∃ x, lk ρ i = some (.own x)) ∧ gb ρ fun y ρ2 => ∃ x, lk ρ2 i = some (.own x) ∧ f x y fun d => Q d ρ2
section
variable {f : Value → Value → Sem Value} {fo : DOp} {ta tb : TE}
theorem simBin {r : R2} (hr : ∀ (S : Vol) (H : Hp) (x y : V) (dx dy : D) (Q : D → Prop) (k : VK), (∀ p, H p = none → ¬ S p) → Rq K S H x dx → Rq K S H y dy → fo dx dy Q → (∀ z H' d, Ext H H' → Rp K S H' z d → Q d → k z H') → r x y H k)
    (ha : SimE K ta ga) (hb : SimQ K tb gb) : SimE K (tOp r ta tb) (gBin fo ga gb) := fun C S σ H ρ Q k R q f =>
  ha C S σ H ρ _ _ R q fun v H1 d1 ρ1 f1 R1 r1 q1 => hb C S σ H1 ρ1 _ _ R1 q1 fun u H2 d2 ρ2 f2 R2 r2 q2 =>
    hr S H2 v u d1 d2 _ _ (fun p hp => R2.notS hp) (.inl (f2.rp r1)) r2 q2 fun z H3 d e3 r3 q3 => f z H3 d ρ2 ((f1.trans f2).trans (.of e3)) (R2.ext e3) r3 q3
theorem simBinO {r : R2} {i : Nat} (hr : ∀ (S : Vol) (H : Hp) (x y : V) (dx dy : D) (Q : D → Prop) (k : VK), (∀ p, H p = none → ¬ S p) → Rq K S H x dx → Rq K S H y dy → fo dx dy Q → (∀ z H' d, Ext H H' → Rp K S H' z d → Q d → k z H') → r x y H k)
    (hb : SimQ K tb gb) : SimE K (tOp r (tVar i) tb) (gBinO fo i gb) := fun C S σ H ρ Q k R q f => by
  obtain ⟨⟨x0, e0⟩, q⟩ := q
  obtain ⟨p0, e, _, _⟩ := R.own (lk_get e0)
  refine ⟨_, e, hb C S σ H ρ _ _ R q fun u H2 d2 ρ2 f2 R2 r2 q2 => ?_⟩
  obtain ⟨x, e2, q2⟩ := q2
  obtain ⟨p, e3, _, o⟩ := R2.own (lk_get e2)
  rw [e] at e3; cases e3
  exact hr S H2 _ u x d2 _ _ (fun p hp => R2.notS hp) (.inr ⟨p0, rfl, o⟩) r2 q2 fun z H3 d e3 r3 q3 => f z H3 d ρ2 (f2.trans (.of e3)) (R2.ext e3) r3 q3
theorem simBinF {r : R2} (hr : ∀ (S : Vol) (H : Hp) (x y : V) (dx dy : D) (Q : D → Prop) (k : VK), Rq K S H x dx → Rq K S H y dy → fo dx dy Q → (∀ p xs ds, H p = none → RpA K S H xs ds → Q (.list ds) → k (.ref p) (upd H p (.lst xs))) → r x y H k)
    (ha : SimE K ta ga) (hb : SimQ K tb gb) : SimF K (tOp r ta tb) (gBin fo ga gb) := fun C S σ H ρ Q k R q f =>
  ha C S σ H ρ _ _ R q fun v H1 d1 ρ1 f1 R1 r1 q1 => hb C S σ H1 ρ1 _ _ R1 q1 fun u H2 d2 ρ2 f2 R2 r2 q2 =>
    hr S H2 v u d1 d2 _ _ (.inl (f2.rp r1)) r2 q2 fun p xs ds hp rx q3 => by
      have h0 : H p = none := by
        cases h : H p with
        | none => rfl
        | some o =>
          by_cases s : S p
          · obtain ⟨o', h'⟩ := R2.al p s
            rw [hp] at h'; cases h'
          · have := (f1.trans f2) p o h (.inl s)
            rw [hp] at this; cases this
      exact f p _ _ ρ2 ((f1.trans f2).trans (.of (.new hp))) (newOb R2 hp).1 (newOb R2 hp).2 h0 (.lst upd_same (RpA.newp rx hp)) q3
end
theorem dbin {op : Operator} {fo : DOp} (ho : OpD X (binaryOp op) fo) (ha : DE X a ga) (hb : DQ X b gb) : DE X (.BinOp a op b pos) (gBin fo ga gb) := by
  obtain ⟨r, h1, h2⟩ := ho
  obtain ⟨ta, pa, sa⟩ := ha.ex
  obtain ⟨tb, pb, sb⟩ := hb.ex
  exact ⟨_, pe_op h1 pa pb, simBin h2 sa sb⟩
theorem dbinF {op : Operator} {fo : DOp} (ho : OpF X (binaryOp op) fo) (ha : DE X a ga) (hb : DQ X b gb) : DF X (.BinOp a op b pos) (gBin fo ga gb) := by
  obtain ⟨r, h1, h2⟩ := ho
  obtain ⟨ta, pa, sa⟩ := ha.ex
  obtain ⟨tb, pb, sb⟩ := hb.ex
  exact ⟨_, pe_op h1 pa pb, simBinF h2 sa sb⟩
theorem dcmp {op : CmpOp} {fo : DOp} (ho : OpD X (compareOp op) fo) (ha : DE X a ga) (hb : DQ X b gb) (hm : behindInMarks op b = false) : DE X (.Compare a [op] [b] pos) (gBin fo ga gb) := by
  obtain ⟨r, h1, h2⟩ := ho
  obtain ⟨ta, pa, sa⟩ := ha.ex
  obtain ⟨tb, pb, sb⟩ := hb.ex
  exact ⟨_, pe_cmpR h1 pa pb hm, simBin h2 sa sb⟩
theorem dcmpO {op : CmpOp} {fo : DOp} (i : Nat) {x : Str} {p : Pos} (ho : OpD X (compareOp op) fo) (hb : DQ X b gb) (hm : behindInMarks op b = false) (hN : X.N[i]? = some x := by rfl) (hv : Vis X.env.scope x := by first | exact Or.inl rfl | exact Or.inr (Or.inl rfl) | exact Or.inr (Or.inr rfl)) (hd : (x == ("__debug__" : Str)) = false := by decide)
    (hcd : (x == ("__classdict__" : Str)) = false := by decide) : DE X (.Compare (.Name x p) [op] [b] pos) (gBinO fo i gb) := by
  obtain ⟨r, h1, h2⟩ := ho
  obtain ⟨tb, pb, sb⟩ := hb.ex
  exact ⟨_, pe_cmpR h1 (pe_var hN hv hd hcd) pb hm, simBinO h2 sb⟩

/-! ### tests -/
def gTest (g : DTE) : DTT := fun ρ Q => g ρ fun d ρ' => ∃ b, d = .bool b ∧ Q b ρ'
theorem simTest {t : TE} (h : SimE K t g) : SimT K (tTest t) (gTest g) := fun C S σ H ρ Q k R q f =>
  h C S σ H ρ _ _ R q fun v H' d ρ' f1 R1 r1 q1 => by
    obtain ⟨b, rfl, q1⟩ := q1
    cases r1
    exact ⟨b, rfl, f b H' ρ' f1 R1 q1⟩
theorem dtcmp {op : CmpOp} {fo : DOp} (ho : OpD X (compareOp op) fo) (ha : DE X a ga) (hb : DQ X b gb) (hm : behindInMarks op b = false) : DT X (.Compare a [op] [b] pos) (gTest (gBin fo ga gb)) := by
  obtain ⟨r, h1, h2⟩ := ho
  obtain ⟨ta, pa, sa⟩ := ha.ex
  obtain ⟨tb, pb, sb⟩ := hb.ex
  exact ⟨_, pt_cmpR h1 pa pb hm, simTest (simBin h2 sa sb)⟩
theorem dtcmpO {op : CmpOp} {fo : DOp} (i : Nat) {x : Str} {p : Pos} (ho : OpD X (compareOp op) fo) (hb : DQ X b gb) (hm : behindInMarks op b = false) (hN : X.N[i]? = some x := by rfl) (hv : Vis X.env.scope x := by first | exact Or.inl rfl | exact Or.inr (Or.inl rfl) | exact Or.inr (Or.inr rfl)) (hd : (x == ("__debug__" : Str)) = false := by decide)
    (hcd : (x == ("__classdict__" : Str)) = false := by decide) : DT X (.Compare (.Name x p) [op] [b] pos) (gTest (gBinO fo i gb)) := by
  obtain ⟨r, h1, h2⟩ := ho
  obtain ⟨tb, pb, sb⟩ := hb.ex
  exact ⟨_, pt_cmpR h1 (pe_var hN hv hd hcd) pb hm, simTest (simBinO h2 sb)⟩
theorem dtval (h : DE X a g) (he : ∀ whole, isTrue a X.env whole = (do let v ← whole; standAt a.pos; holding [v] (truthy v)) := by intro _; rfl) : DT X a (gTest g) := by
  obtain ⟨t, p, s⟩ := h.ex
  exact ⟨_, pt_val p he, simTest s⟩
/-- is None -/
def gIsN (neg : Bool) (g : DTE) : DTE := fun ρ Q => g ρ fun d ρ' => Q (.bool (match d with | .none => !neg | _ => neg)) ρ'
theorem Rp.nonIff {S : Vol} {H : Hp} {v : V} {d : D} (r : Rp K S H v d) : decide (v = .non) = (match d with | .none => true | _ => false) := by
  cases r <;> rfl
theorem disN {j pos'} (ha : DE X a ga) : DE X (.Compare a [.Is] [.Constant .none j pos'] pos) (gIsN false ga) := by
  obtain ⟨t, p, s⟩ := ha.ex
  refine ⟨_, pe_cmp (pc_isN p), fun C S σ H ρ Q k R q f => s C S σ H ρ _ _ R q fun v H' d ρ' f1 R1 r1 q1 => f _ H' _ ρ' f1 R1 (.bl _) ?_⟩
  rw [r1.nonIff]
  cases d <;> exact q1
theorem dnotN {j pos'} (ha : DE X a ga) : DE X (.Compare a [.IsNot] [.Constant .none j pos'] pos) (gIsN true ga) := by
  obtain ⟨t, p, s⟩ := ha.ex
  refine ⟨_, pe_cmp (pc_notN p), fun C S σ H ρ Q k R q f => s C S σ H ρ _ _ R q fun v H' d ρ' f1 R1 r1 q1 => f _ H' _ ρ' f1 R1 (.bl _) ?_⟩
  rw [r1.nonIff]
  cases d <;> exact q1
theorem dtisN {j pos'} (ha : DE X a ga) : DT X (.Compare a [.Is] [.Constant .none j pos'] pos) (gTest (gIsN false ga)) := by
  obtain ⟨t, p, s⟩ := ha.ex
  refine ⟨_, pt_cmp (pc_isN p), fun C S σ H ρ Q k R q f => s C S σ H ρ _ _ R q fun v H' d ρ' f1 R1 r1 q1 => ?_⟩
  obtain ⟨b, e, q1⟩ := q1
  refine ⟨b, ?_, f _ H' ρ' f1 R1 q1⟩
  rw [r1.nonIff]
  cases d <;> (cases e; rfl)
theorem dtnotN {j pos'} (ha : DE X a ga) : DT X (.Compare a [.IsNot] [.Constant .none j pos'] pos) (gTest (gIsN true ga)) := by
  obtain ⟨t, p, s⟩ := ha.ex
  refine ⟨_, pt_cmp (pc_notN p), fun C S σ H ρ Q k R q f => s C S σ H ρ _ _ R q fun v H' d ρ' f1 R1 r1 q1 => ?_⟩
  obtain ⟨b, e, q1⟩ := q1
  refine ⟨b, ?_, f _ H' ρ' f1 R1 q1⟩
  rw [r1.nonIff]
  cases d <;> (cases e; rfl)
/-- truth -/
def truD : D → Option Bool
  | .none => some false
  | .bool b => some b
  | .int i => some (i != 0)
  | .list ds => some (!ds.isEmpty)
  | .tuple ds => some (!ds.isEmpty)
  | _ => none
def gTru (g : DTE) : DTT := fun ρ Q => g ρ fun d ρ' => ∃ b, truD d = some b ∧ Q b ρ'
theorem empty_iff {S : Vol} {H : Hp} {xs : List V} {ds : List D} (r : RpA K S H xs ds) : xs.isEmpty = ds.isEmpty := by
  cases r <;> rfl
theorem truV_of {S : Vol} {H : Hp} {v : V} {d : D} {b : Bool} (r : Rq K S H v d) (e : truD d = some b) : TruV K v H b := by
  cases d with
  | none => cases r.non; cases e; rfl
  | bool x => cases r.bl; cases e; rfl
  | int x => cases r.int; cases e; rfl
  | str x => cases e
  | dict x => cases e
  | list ds =>
    obtain ⟨p, xs, rfl, h, r⟩ := r.sql
    cases e
    exact .inl ⟨xs, h, by rw [empty_iff r]⟩
  | tuple ds =>
    obtain ⟨p, xs, rfl, h, r⟩ := r.sqt
    cases e
    exact .inr (.inl ⟨xs, h, by rw [empty_iff r]⟩)
theorem dttru (h : DQ X a g) (he : ∀ whole, isTrue a X.env whole = (do let v ← whole; standAt a.pos; holding [v] (truthy v)) := by intro _; rfl) : DT X a (gTru g) := by
  obtain ⟨t, p, s⟩ := h.ex
  refine ⟨_, pt_truth p he, fun C S σ H ρ Q k R q f => s C S σ H ρ _ _ R q fun v H' d ρ' f1 R1 r1 q1 => ?_⟩
  obtain ⟨b, e, q1⟩ := q1
  exact ⟨b, truV_of r1 e, f b H' ρ' f1 R1 q1⟩
variable {s t u : DTT} {rest : List Expr}
def gAnd (s t : DTT) : DTT := fun ρ Q => s ρ fun c ρ' => if c = true then t ρ' Q else Q false ρ'
def gOr (s t : DTT) : DTT := fun ρ Q => s ρ fun c ρ' => if c = true then Q true ρ' else t ρ' Q
def gNot (s : DTT) : DTT := fun ρ Q => s ρ fun c ρ' => Q (!c) ρ'
theorem dwpt (h : DW X a s) : DT X a s := let ⟨t, p, q⟩ := h.ex; ⟨t, p.pt, q⟩
theorem dand1 (h : DT X a s) : DW X (.BoolOp .And [a] pos) s := let ⟨t, p, q⟩ := h.ex; ⟨t, pw_and1 p, q⟩
theorem dor1 (h : DT X a s) : DW X (.BoolOp .Or [a] pos) s := let ⟨t, p, q⟩ := h.ex; ⟨t, pw_or1 p, q⟩
theorem dand (ha : DT X a s) (hb : DW X (.BoolOp .And (b :: rest) pos) t) : DW X (.BoolOp .And (a :: b :: rest) pos) (gAnd s t) := by
  obtain ⟨_, p1, q1⟩ := ha.ex
  obtain ⟨_, p2, q2⟩ := hb.ex
  refine ⟨_, pw_and p1 p2, fun C S σ H ρ Q k R q f => q1 C S σ H ρ _ _ R q fun b H' ρ' f1 R1 h => ?_⟩
  cases b with
  | true => rw [if_pos rfl] at h ⊢; exact q2 C S σ H' ρ' _ _ R1 h fun b H2 ρ2 f2 R2 q => f b H2 ρ2 (f1.trans f2) R2 q
  | false => rw [if_neg Bool.false_ne_true] at h ⊢; exact f false H' ρ' f1 R1 h
theorem dor (ha : DT X a s) (hb : DW X (.BoolOp .Or (b :: rest) pos) t) : DW X (.BoolOp .Or (a :: b :: rest) pos) (gOr s t) := by
  obtain ⟨_, p1, q1⟩ := ha.ex
  obtain ⟨_, p2, q2⟩ := hb.ex
  refine ⟨_, pw_or p1 p2, fun C S σ H ρ Q k R q f => q1 C S σ H ρ _ _ R q fun b H' ρ' f1 R1 h => ?_⟩
  cases b with
  | true => rw [if_pos rfl] at h ⊢; exact f true H' ρ' f1 R1 h
  | false => rw [if_neg Bool.false_ne_true] at h ⊢; exact q2 C S σ H' ρ' _ _ R1 h fun b H2 ρ2 f2 R2 q => f b H2 ρ2 (f1.trans f2) R2 q
theorem dnot (ha : DT X a s) : DT X (.UnaryOp .Not a pos) (gNot s) := by
  obtain ⟨_, p1, q1⟩ := ha.ex
  exact ⟨_, pt_not p1, fun C S σ H ρ Q k R q f => q1 C S σ H ρ _ _ R q fun b H' ρ' f1 R1 h => f _ H' ρ' f1 R1 h⟩
/-- the same as values (bools) -/
def gAndV (ga gb : DTE) : DTE := fun ρ Q => ga ρ fun d ρ' => ∃ c, d = .bool c ∧ if c = true then gb ρ' Q else Q (.bool false) ρ'
def gOrV (ga gb : DTE) : DTE := fun ρ Q => ga ρ fun d ρ' => ∃ c, d = .bool c ∧ if c = true then Q (.bool true) ρ' else gb ρ' Q
def gNotV (ga : DTE) : DTE := fun ρ Q => ga ρ fun d ρ' => ∃ c, d = .bool c ∧ Q (.bool (!c)) ρ'
theorem deone {op} (h : DE X a g) : DE X (.BoolOp op [a] pos) g := let ⟨t, p, q⟩ := h.ex; ⟨t, pe_one p, q⟩
theorem deand (ha : DE X a ga) (hb : DE X (.BoolOp .And (b :: rest) pos) gb) : DE X (.BoolOp .And (a :: b :: rest) pos) (gAndV ga gb) := by
  obtain ⟨_, p1, q1⟩ := ha.ex
  obtain ⟨_, p2, q2⟩ := hb.ex
  refine ⟨_, pe_and p1 p2, fun C S σ H ρ Q k R q f => q1 C S σ H ρ _ _ R q fun v H' d ρ' f1 R1 r1 h => ?_⟩
  obtain ⟨c, rfl, h⟩ := h
  cases r1
  refine ⟨c, rfl, ?_⟩
  cases c with
  | true => rw [if_pos rfl] at h ⊢; exact q2 C S σ H' ρ' _ _ R1 h fun v H2 d ρ2 f2 R2 r2 q => f v H2 d ρ2 (f1.trans f2) R2 r2 q
  | false => rw [if_neg Bool.false_ne_true] at h ⊢; exact f _ H' _ ρ' f1 R1 (.bl _) h
theorem deor (ha : DE X a ga) (hb : DE X (.BoolOp .Or (b :: rest) pos) gb) : DE X (.BoolOp .Or (a :: b :: rest) pos) (gOrV ga gb) := by
  obtain ⟨_, p1, q1⟩ := ha.ex
  obtain ⟨_, p2, q2⟩ := hb.ex
  refine ⟨_, pe_or p1 p2, fun C S σ H ρ Q k R q f => q1 C S σ H ρ _ _ R q fun v H' d ρ' f1 R1 r1 h => ?_⟩
  obtain ⟨c, rfl, h⟩ := h
  cases r1
  refine ⟨c, rfl, ?_⟩
  cases c with
  | true => rw [if_pos rfl] at h ⊢; exact f _ H' _ ρ' f1 R1 (.bl _) h
  | false => rw [if_neg Bool.false_ne_true] at h ⊢; exact q2 C S σ H' ρ' _ _ R1 h fun v H2 d ρ2 f2 R2 r2 q => f v H2 d ρ2 (f1.trans f2) R2 r2 q
theorem denot (ha : DE X a ga) : DE X (.UnaryOp .Not a pos) (gNotV ga) := by
  obtain ⟨_, p1, q1⟩ := ha.ex
  refine ⟨_, pe_not p1, fun C S σ H ρ Q k R q f => q1 C S σ H ρ _ _ R q fun v H' d ρ' f1 R1 r1 h => ?_⟩
  obtain ⟨c, rfl, h⟩ := h
  cases r1
  exact ⟨c, rfl, f _ H' _ ρ' f1 R1 (.bl _) h⟩
def gIf (s : DTT) (ga gb : DTE) : DTE := fun ρ Q => s ρ fun c ρ' => if c = true then ga ρ' Q else gb ρ' Q
theorem dif_ {c : Expr} (hc : DT X c s) (ha : DE X a ga) (hb : DE X b gb) : DE X (.IfExp c a b pos) (gIf s ga gb) := by
  obtain ⟨_, p1, q1⟩ := hc.ex
  obtain ⟨_, p2, q2⟩ := ha.ex
  obtain ⟨_, p3, q3⟩ := hb.ex
  refine ⟨_, pe_ifExp p1 p2 p3, fun C S σ H ρ Q k R q f => q1 C S σ H ρ _ _ R q fun c H' ρ' f1 R1 h => ?_⟩
  cases c with
  | true => rw [if_pos rfl] at h ⊢; exact q2 C S σ H' ρ' _ _ R1 h fun v H2 d ρ2 f2 R2 r2 q => f v H2 d ρ2 (f1.trans f2) R2 r2 q
  | false => rw [if_neg Bool.false_ne_true] at h ⊢; exact q3 C S σ H' ρ' _ _ R1 h fun v H2 d ρ2 f2 R2 r2 q => f v H2 d ρ2 (f1.trans f2) R2 r2 q
theorem difF {c : Expr} (hc : DT X c s) (ha : DF X a ga) (hb : DF X b gb) : DF X (.IfExp c a b pos) (gIf s ga gb) := by
  obtain ⟨_, p1, q1⟩ := hc.ex
  obtain ⟨_, p2, q2⟩ := ha.ex
  obtain ⟨_, p3, q3⟩ := hb.ex
  have back : ∀ {C : Ctx} {S : Vol} {σ : VStore} {ρ ρ' : Rho} {H H' : Hp} {p : Addr}, Fr C S H H' → RS X.K C S σ H' ρ' → H' p = none → H p = none := fun {C S σ ρ ρ' H H' p} f R h => by
    cases e : H p with
    | none => rfl
    | some o => have := f p o e (.inl (R.notS h)); rw [h] at this; cases this
  refine ⟨_, pe_ifExp p1 p2 p3, fun C S σ H ρ Q k R q f => q1 C S σ H ρ _ _ R q fun c H' ρ' f1 R1 h => ?_⟩
  cases c with
  | true => rw [if_pos rfl] at h ⊢; exact q2 C S σ H' ρ' _ _ R1 h fun p H2 d ρ2 f2 R2 R3 hp r2 q => f p H2 d ρ2 (f1.trans f2) R2 R3 (back (ρ := ρ) f1 R1 hp) r2 q
  | false => rw [if_neg Bool.false_ne_true] at h ⊢; exact q3 C S σ H' ρ' _ _ R1 h fun p H2 d ρ2 f2 R2 R3 hp r2 q => f p H2 d ρ2 (f1.trans f2) R2 R3 (back (ρ := ρ) f1 R1 hp) r2 q

/-! ### lists of expressions, displays -/
variable {es : List Expr} {l : DTA}
def gNil : DTA := fun ρ Q => Q [] ρ
def gCons (g : DTE) (l : DTA) : DTA := fun ρ Q => g ρ fun d ρ1 => l ρ1 fun ds ρ2 => Q (d :: ds) ρ2
theorem danil : DA X [] gNil := ⟨_, pa_nil, fun C S σ H ρ Q k R q f => f [] H [] ρ .refl R .nil q⟩
theorem dacons (ha : DE X a g) (hr : DA X es l) (hs : starEach (a :: es) X.env = (false, eval a X.env) :: starEach es X.env := by rfl) : DA X (a :: es) (gCons g l) := by
  obtain ⟨_, p1, q1⟩ := ha.ex
  obtain ⟨_, p2, q2⟩ := hr.ex
  exact ⟨_, pa_cons p1 p2 hs, fun C S σ H ρ Q k R q f => q1 C S σ H ρ _ _ R q fun v H1 d ρ1 f1 R1 r1 h => q2 C S σ H1 ρ1 _ _ R1 h fun vs H2 ds ρ2 f2 R2 r2 h2 => f _ H2 _ ρ2 (f1.trans f2) R2 (.cons (f2.rp r1) r2) h2⟩
def gTup (l : DTA) : DTE := fun ρ Q => l ρ fun ds ρ' => ds.length ≤ 100000 ∧ Q (.tuple ds) ρ'
def gLst (l : DTA) : DTE := fun ρ Q => l ρ fun ds ρ' => ds.length ≤ 100000 ∧ Q (.list ds) ρ'
theorem szOf {n : Nat} (h : n ≤ 100000) : n ≤ sizeLine := Nat.le_trans h (by decide)
theorem dtup {x1} (h : DA X es l) : DE X (.Tuple es x1 pos) (gTup l) := by
  obtain ⟨_, p, s⟩ := h.ex
  refine ⟨_, pe_tupX p, fun C S σ H ρ Q k R q f => s C S σ H ρ _ _ R q fun vs H' ds ρ' f1 R1 r1 h => ⟨by rw [r1.len]; exact szOf h.1, fun q o hq ho => ?_⟩⟩
  exact f _ _ _ ρ' (f1.trans (.of (.new hq))) (R1.ext (.new hq)) (.tup (.new ho (R1.notS hq)) (r1.ext (.new hq))) h.2
theorem freshAt {C : Ctx} {S : Vol} {σ : VStore} {ρ' : Rho} {H H' : Hp} {p : Addr} (f : Fr C S H H') (R : RS K C S σ H' ρ') (h : H' p = none) : H p = none := by
  cases e : H p with
  | none => rfl
  | some o => have := f p o e (.inl (R.notS h)); rw [h] at this; cases this
theorem dlst (h : DA X es l) : DF X (.List es pos) (gLst l) := by
  obtain ⟨_, p, s⟩ := h.ex
  refine ⟨_, pe_lst p, fun C S σ H ρ Q k R q f => s C S σ H ρ _ _ R q fun vs H' ds ρ' f1 R1 r1 h => ⟨by rw [r1.len]; exact szOf h.1, fun q hq => ?_⟩⟩
  exact f q _ _ ρ' (f1.trans (.of (.new hq))) (newOb R1 hq).1 (newOb R1 hq).2 (freshAt f1 R1 hq) (.lst upd_same (RpA.newp r1 hq)) h.2
end
end Gw
namespace Gw
open PySem PySem.Spec PyProof.Rows L2

/-! ## the operations -/
section
variable {X : Cx} {K : PySem.W.Frag} {S : Vol} {H : Hp}
def notDict : D → Bool
  | .dict _ => false
  | _ => true
mutual
theorem Rp.dp : ∀ {v d}, Rp K S H v d → d.canLay0 = true → Dp K H v d
  | _, _, .non, _ => .non
  | _, _, .bl b, _ => .bl b
  | _, _, .int i, _ => .int i
  | _, _, .str x, _ => .str x
  | _, _, .lst h r, c => .lst h.sq (RpA.dp r (by simpa [PyData.canLay0] using c))
  | _, _, .tup h r, c => .tup h.sq (RpA.dp r (by simpa [PyData.canLay0] using c))
  | _, _, .dK _ h n r, c => by simp [PyData.canLay0] at c
  | _, _, .dT h n q r, c => by simp [PyData.canLay0] at c
theorem RpA.dp : ∀ {vs ds}, RpA K S H vs ds → PyData.canLayAll0 ds = true → DpAll K H vs ds
  | _, _, .nil, _ => .nil
  | _, _, .cons r t, c => by
    simp only [PyData.canLayAll0, Bool.and_eq_true] at c
    exact .cons (Rp.dp r c.1) (RpA.dp t c.2)
end
theorem Rq.dp {v : V} {d : D} (r : Rq K S H v d) (c : d.canLay0 = true) : Dp K H v d := by
  rcases r with r | ⟨p, rfl, o⟩
  · exact r.dp c
  · cases o with
    | lst h r => exact .lst (.of h) (r.dp (by simpa [PyData.canLay0] using c))
    | dK _ h r => simp [PyData.canLay0] at c
    | dT h q r => simp [PyData.canLay0] at c
theorem shp_lay {d : D} (h : SeqAt.shaped d = true) : d.canLay0 = true := SeqAt.canLay_of_shaped h

def addD : DOp := fun x y Q => match x, y with
  | .int i, .int j => Q (.int (i + j))
  | .tuple a, .tuple b => a.length + b.length ≤ 100000 ∧ Q (.tuple (a ++ b))
  | .list a, .list b => a.length + b.length ≤ 100000 ∧ Q (.list (a ++ b))
  | _, _ => False
/-! lists wherever they stand -/
def rCatX (K : PySem.W.Frag) : R2 := fun x y H Q => ∃ l b xs zs, x = .ref l ∧ y = .ref b ∧ Lx K H l xs ∧ Lx K H b zs ∧ xs.length + zs.length ≤ sizeLine ∧ ∀ p, H p = none → Q (.ref p) (upd H p (.lst (xs ++ zs)))
theorem op_catX : OpR X (binaryOp .Add) (rCatX X.K) := by
  rintro pins s σ H x y v u Q I rx ry ⟨l, b, xs, zs, rfl, rfl, hl, hb, hz, q⟩
  cases rx
  cases ry
  obtain ⟨_, is, _, r1, e1, o1⟩ := lxAt I hl
  obtain ⟨_, js, _, r2, e2, o2⟩ := lxAt I hb
  refine PySem.P.add_list o1 o2 ?_ (by simp only [List.size_toArray]; omega)
  rw [show is.toArray ++ js.toArray = (is ++ js).toArray by simp]
  exact ⟨.ref _, _, I.lnew (t' := s.toks) (r1.append r2) (by simp only [List.length_append]; omega), rfl, q _ I.fresh⟩
def rRepX (K : PySem.W.Frag) : R2 := fun x y H Q => ∃ l k xs, x = .ref l ∧ y = .int k ∧ Lx K H l xs ∧ -(2 ^ 63) ≤ k ∧ k < 2 ^ 63 ∧ xs.length * k.toNat ≤ sizeLine ∧ ∀ p, H p = none → Q (.ref p) (upd H p (.lst (List.replicate k.toNat xs).flatten))
theorem op_repX : OpR X (binaryOp .Mult) (rRepX X.K) := by
  rintro pins s σ H x y v u Q I rx ry ⟨l, k, xs, rfl, rfl, hl, k1, k2, hz, q⟩
  cases rx
  obtain ⟨t, rfl⟩ := ry
  obtain ⟨_, is, n, r, el, o⟩ := lxAt I hl
  have z1 : is.toArray.size * k.toNat ≤ sizeLine := by simpa [← el] using hz
  have z2 : ¬ is.toArray.size * k.toNat > (2 ^ 63 - 1) / 8 := by
    have w : (sizeLine : Nat) ≤ (2 ^ 63 - 1) / 8 := by decide
    omega
  have z3 : ¬ (!Builtin.List.listFitsIndex k) = true := by simp [fitsIndex_both k1 k2]
  have z4 : ¬ Builtin.List.listTooLong (is.toArray.size * k.toNat) = true := by rw [notLongL z1]; decide
  have z5 : List.foldl (fun a b => a ++ b) #[] (List.replicate (if is.toArray.isEmpty = true then 0 else k.toNat) is.toArray) = (List.replicate k.toNat is).flatten.toArray := by
    have f (m : Nat) : List.foldl (fun a b => a ++ b) #[] (List.replicate m is.toArray) = (List.replicate m is).flatten.toArray := by simpa using foldl_rep is m []
    rw [f]
    cases is with
    | nil => simp
    | cons a b => simp
  refine wpAny_binaryOp_repeat_ref (T := "list") (U := "int") (by decide) ⟨_, o, rfl⟩ (fun w => typeIs_int w k t) noFill_list_mul PySem.F.fills_int_mul PySem.F.slot_int_rmul repeat_list PySem.F.slot_int_index.lookup
    (call_meets PySem.F.slot_int_rmul (typeIs_int s k t) PySem.F.entry_int_rmul (PySem.F.args_int_rmul_2 _ _) (int___rmul___int_list k t l is.toArray n) ⟨o, rfl, ⟨_, o, rfl⟩, ?_⟩)
  refine call_meets PySem.F.slot_list_mul ⟨_, o, rfl⟩ PySem.F.entry_list_mul (PySem.F.args_list_mul_2 _ _) (AutoListH.list___mul___list_int_3 l is.toArray n k t z3 z2 z4) ⟨o, ?_⟩
  rw [z5]
  exact ⟨.ref _, _, I.lnew (t' := s.toks) (r.rep k.toNat) (by simpa [PyProof.Rows.lm_len_rep_flat, Nat.mul_comm] using hz), rfl, q _ I.fresh⟩
def catD : DOp := fun x y Q => match x, y with | .list a, .list b => a.length + b.length ≤ 100000 ∧ Q (.list (a ++ b)) | _, _ => False
theorem catF : OpF X (binaryOp .Add) catD := by
  refine ⟨_, op_catX, fun S H x y dx dy Q k hx hy q hk => ?_⟩
  cases dx <;> cases dy <;> first | exact q.elim | skip
  obtain ⟨p, xs, rfl, h, r⟩ := hx.lx
  obtain ⟨p', xs', rfl, h', r'⟩ := hy.lx
  exact ⟨p, p', xs, xs', rfl, rfl, h, h', by rw [r.len, r'.len]; exact szOf q.1, fun n hn => hk n _ _ hn (r.app r') q.2⟩
theorem catT : OpD X (binaryOp .Add) (fun x y Q => match x, y with | .tuple a, .tuple b => a.length + b.length ≤ 100000 ∧ Q (.tuple (a ++ b)) | _, _ => False) := by
  refine ⟨_, op_TT, fun S H x y dx dy Q k n hx hy q hk => ?_⟩
  cases dx <;> cases dy <;> first | exact q.elim | skip
  have kx := hx.sqt
  have ky := hy.sqt
  obtain ⟨p, xs, rfl, h, r⟩ := kx
  obtain ⟨p', xs', rfl, h', r'⟩ := ky
  have tx : ∀ {v : V} {l : List D}, Rq X.K S H v (.tuple l) → Rp X.K S H v (.tuple l) := fun {v l} h => h.elim id fun ⟨_, _, o⟩ => by cases o
  refine ⟨p, p', xs, xs', rfl, rfl, h, h', by rw [r.len, r'.len]; exact szOf q.1, fun e => ?_, fun _ e => ?_, fun _ _ z o hz ho => ?_⟩
  · subst e
    cases r
    exact hk _ H _ (.refl H) (tx hy) (by simpa using q.2)
  · subst e
    cases r'
    exact hk _ H _ (.refl H) (tx hx) (by simpa using q.2)
  · exact hk _ _ _ (.new hz) (.tup (.new ho (n z hz)) ((r.app r').ext (.new hz))) q.2
theorem opI {f : Value → Value → Sem Value} {g : Int → Int → V} {gd : Int → Int → D} {G : DOp} (h : OpR X f (rI0 g)) (hg : ∀ i j S H, Rp X.K S H (g i j) (gd i j))
    (hG : ∀ x y Q, G x y Q → ∃ i j, x = .int i ∧ y = .int j ∧ Q (gd i j)) : OpD X f G := by
  refine ⟨_, h, fun S H x y dx dy Q k n hx hy q hk => ?_⟩
  obtain ⟨i, j, e1, e2, q'⟩ := hG _ _ _ q
  subst e1 e2
  cases hx.int
  cases hy.int
  exact ⟨i, j, rfl, rfl, hk _ H _ (.refl H) (hg i j S H) q'⟩
theorem opIC {f : Value → Value → Sem Value} {C : Int → Int → Prop} {g : Int → Int → V} {gd : Int → Int → D} {G : DOp} (h : OpR X f (rI C g)) (hg : ∀ i j S H, Rp X.K S H (g i j) (gd i j))
    (hG : ∀ x y Q, G x y Q → ∃ i j, x = .int i ∧ y = .int j ∧ C i j ∧ Q (gd i j)) : OpD X f G := by
  refine ⟨_, h, fun S H x y dx dy Q k n hx hy q hk => ?_⟩
  obtain ⟨i, j, e1, e2, c, q'⟩ := hG _ _ _ q
  subst e1 e2
  cases hx.int
  cases hy.int
  exact ⟨i, j, rfl, rfl, c, hk _ H _ (.refl H) (hg i j S H) q'⟩
theorem oadd : OpD X (binaryOp .Add) addD := by
  refine OpD.orr (opI (G := fun x y Q => match x, y with | .int i, .int j => Q (.int (i + j)) | _, _ => False) op_add (fun i j S H => .int _) ?_) (OpD.orr catT catF.d (g2 := fun x y Q => match x, y with
    | .tuple a, .tuple b => a.length + b.length ≤ 100000 ∧ Q (.tuple (a ++ b)) | .list a, .list b => a.length + b.length ≤ 100000 ∧ Q (.list (a ++ b)) | _, _ => False) ?_) ?_
  · intro x y Q h
    cases x <;> cases y <;> first | exact h.elim | exact ⟨_, _, rfl, rfl, h⟩
  · intro x y Q h
    cases x <;> cases y <;> first | exact h.elim | exact .inl h | exact .inr h
  · intro x y Q h
    cases x <;> cases y <;> first | exact h.elim | exact .inl h | exact .inr h
def subD : DOp := fun x y Q => match x, y with
  | .int i, .int j => Q (.int (i - j))
  | _, _ => False
theorem osub : OpD X (binaryOp .Sub) subD := opI op_sub (fun i j S H => .int _) fun x y Q h => by cases x <;> cases y <;> first | exact h.elim | exact ⟨_, _, rfl, rfl, h⟩
/-- ints; a list so many times -/
def mulI : DOp := fun x y Q => match x, y with
  | .int i, .int j => ((-(2 ^ 64) < i ∧ i < 2 ^ 64) ∨ (-(2 ^ 64) < j ∧ j < 2 ^ 64)) ∧ Q (.int (i * j))
  | _, _ => False
theorem omul : OpD X (binaryOp .Mult) mulI := opIC op_mul (fun i j S H => .int _) fun x y Q h => by cases x <;> cases y <;> first | exact h.elim | exact ⟨_, _, rfl, rfl, h⟩
def repD : DOp := fun x y Q => match x, y with
  | .list a, .int j => j < 2 ^ 20 ∧ -(2 ^ 20) < j ∧ a.length * j.toNat ≤ 100000 ∧ Q (.list (List.replicate j.toNat a).flatten)
  | _, _ => False
theorem RpA.rep {xs : List V} {ds : List D} (r : RpA K S H xs ds) : ∀ n : Nat, RpA K S H (List.replicate n xs).flatten (List.replicate n ds).flatten
  | 0 => .nil
  | n + 1 => by
    rw [List.replicate_succ, List.replicate_succ, List.flatten_cons, List.flatten_cons]
    exact r.app (RpA.rep r n)
theorem orepF : OpF X (binaryOp .Mult) repD := by
  refine ⟨_, op_repX, fun S H x y dx dy Q k hx hy q hk => ?_⟩
  cases dx <;> cases dy <;> first | exact q.elim | skip
  obtain ⟨p, xs, rfl, h, r⟩ := hx.lx
  cases hy.int
  obtain ⟨q1, q2, q3, q4⟩ := q
  exact ⟨p, _, xs, rfl, rfl, h, by omega, by omega, by rw [r.len]; exact szOf q3, fun z hz => hk z _ _ hz (r.rep _) q4⟩
def fdivD : DOp := fun x y Q => match x, y with
  | .int i, .int j => (0 < j ∧ j < 1073741824) ∧ Q (.int (i / j))
  | _, _ => False
theorem ofdiv : OpD X (binaryOp .FloorDiv) fdivD := opIC op_fdiv (fun i j S H => .int _) fun x y Q h => by cases x <;> cases y <;> first | exact h.elim | exact ⟨_, _, rfl, rfl, h⟩
def modD : DOp := fun x y Q => match x, y with
  | .int i, .int j => 0 < j ∧ Q (.int (i % j))
  | _, _ => False
theorem omod : OpD X (binaryOp .Mod) modD := opIC op_mod (fun i j S H => .int _) fun x y Q h => by cases x <;> cases y <;> first | exact h.elim | exact ⟨_, _, rfl, rfl, h⟩
def ltD : DOp := fun x y Q => match x, y with
  | .int i, .int j => Q (.bool (decide (i < j)))
  | _, _ => False
def leD : DOp := fun x y Q => match x, y with
  | .int i, .int j => Q (.bool (decide (i ≤ j)))
  | _, _ => False
def gtD : DOp := fun x y Q => match x, y with
  | .int i, .int j => Q (.bool (decide (j < i)))
  | _, _ => False
def geD : DOp := fun x y Q => match x, y with
  | .int i, .int j => Q (.bool (decide (j ≤ i)))
  | _, _ => False
theorem olt : OpD X (compareOp .Lt) ltD := opI op_lt (fun i j S H => .bl _) fun x y Q h => by cases x <;> cases y <;> first | exact h.elim | exact ⟨_, _, rfl, rfl, h⟩
theorem ole : OpD X (compareOp .LtE) leD := opI op_le (fun i j S H => .bl _) fun x y Q h => by cases x <;> cases y <;> first | exact h.elim | exact ⟨_, _, rfl, rfl, h⟩
theorem ogt : OpD X (compareOp .Gt) gtD := opI op_gt (fun i j S H => .bl _) fun x y Q h => by cases x <;> cases y <;> first | exact h.elim | exact ⟨_, _, rfl, rfl, h⟩
theorem oge : OpD X (compareOp .GtE) geD := opI op_ge (fun i j S H => .bl _) fun x y Q h => by cases x <;> cases y <;> first | exact h.elim | exact ⟨_, _, rfl, rfl, h⟩
/-- == of data without dicts; of texts -/
def eqOk (x y : D) : Bool := match x, y with
  | .str _, .str _ => true
  | _, _ => SeqAt.shaped x && SeqAt.shaped y
def eqD : DOp := fun x y Q => eqOk x y = true ∧ Q (.bool (PyData.eqv x y))
def neD : DOp := fun x y Q => eqOk x y = true ∧ Q (.bool (!PyData.eqv x y))
theorem eqOk_cases {x y : D} (h : eqOk x y = true) : (∃ a b, x = .str a ∧ y = .str b) ∨ (SeqAt.shaped x = true ∧ SeqAt.shaped y = true) := by
  unfold eqOk at h
  split at h
  · exact .inl ⟨_, _, rfl, rfl⟩
  · exact .inr (Bool.and_eq_true_iff.mp h)
theorem eqv_str (a b : Str) : decide (V.str a = V.str b) = PyData.eqv (.str a) (.str b) := by rw [dec_str]; simp [PyData.eqv]
theorem oeq (hu : X.A.units + 64 < cLine) : OpD X (compareOp .Eq) eqD := ⟨_, OpR.orr op_eq (op_eqD hu), fun S H x y dx dy Q k n hx hy q hk => by
  rcases eqOk_cases q.1 with ⟨a, b, rfl, rfl⟩ | ⟨h1, h2⟩
  · cases hx.str
    cases hy.str
    exact .inl ⟨rfl, by rw [eqv_str]; exact hk _ H _ (.refl H) (.bl _) q.2⟩
  · exact .inr ⟨dx, dy, hx.dp (shp_lay h1), hy.dp (shp_lay h2), h1, h2, hk _ H _ (.refl H) (.bl _) q.2⟩⟩
theorem one (hu : X.A.units + 64 < cLine) : OpD X (compareOp .NotEq) neD := ⟨_, OpR.orr op_ne (op_neD hu), fun S H x y dx dy Q k n hx hy q hk => by
  rcases eqOk_cases q.1 with ⟨a, b, rfl, rfl⟩ | ⟨h1, h2⟩
  · cases hx.str
    cases hy.str
    exact .inl ⟨rfl, by rw [eqv_str]; exact hk _ H _ (.refl H) (.bl _) q.2⟩
  · exact .inr ⟨dx, dy, hx.dp (shp_lay h1), hy.dp (shp_lay h2), h1, h2, hk _ H _ (.refl H) (.bl _) q.2⟩⟩
/-- in: a list of anything; a tuple of flat things -/
def flatD : D → Bool
  | .none => true
  | .bool _ => true
  | .int _ => true
  | .str _ => true
  | _ => false
theorem flat_of {v : V} {d : D} (r : Rp K S H v d) (h : flatD d = true) : flatV v = true := by
  cases r <;> first | rfl | cases h
theorem flat_all : ∀ {vs : List V} {ds : List D}, RpA K S H vs ds → ds.all flatD = true → vs.all flatV = true
  | _, _, .nil, _ => rfl
  | _, _, .cons r t, h => by
    rw [List.all_cons, Bool.and_eq_true] at h ⊢
    exact ⟨flat_of r h.1, flat_all t h.2⟩
theorem eqV_flat {v w : V} {d e : D} (r : Rp K S H v d) (r' : Rp K S H w e) (h : flatD d = true) (h' : flatD e = true) : eqV v w = PyData.eqv d e := by
  cases r <;> first | (cases h; done) | skip
  all_goals (cases r' <;> first | (cases h'; done) | simp [eqV, PyData.eqv])
theorem inV_flat {v : V} {d : D} (r : Rp K S H v d) (h : flatD d = true) : ∀ {vs : List V} {ds : List D}, RpA K S H vs ds → ds.all flatD = true → inV v vs = ds.any fun z => PyData.eqv z d
  | _, _, .nil, _ => rfl
  | _, _, .cons r' t, hf => by
    rw [List.all_cons, Bool.and_eq_true] at hf
    have ih := inV_flat r h t hf.2
    unfold inV at ih ⊢
    rw [List.any_cons, List.any_cons, ih, eqV_flat r' r hf.1 h]
def inD : DOp := fun x y Q => match y with
  | .list ds => SeqAt.shaped x = true ∧ SeqAt.shaped (.list ds) = true ∧ Q (.bool (ds.any fun z => PyData.eqv z x))
  | .tuple ds => flatD x = true ∧ ds.all flatD = true ∧ Q (.bool (ds.any fun z => PyData.eqv z x))
  | _ => False
def ninD : DOp := fun x y Q => match y with
  | .list ds => SeqAt.shaped x = true ∧ SeqAt.shaped (.list ds) = true ∧ Q (.bool (!ds.any fun z => PyData.eqv z x))
  | .tuple ds => flatD x = true ∧ ds.all flatD = true ∧ Q (.bool (!ds.any fun z => PyData.eqv z x))
  | _ => False
theorem rq_flat {x : V} {d : D} (hx : Rq K S H x d) (h : flatD d = true) : Rp K S H x d := by
  rcases hx with hx | ⟨p, rfl, o⟩
  · exact hx
  · cases o <;> cases h
theorem oin (hu : X.A.units + 65 < cLine) : OpD X (compareOp .In) inD := by
  refine ⟨_, OpR.orr (op_inD hu) op_in_seq, fun S H x y dx dy Q k n hx hy q hk => ?_⟩
  cases dy <;> first | exact q.elim | skip
  · exact .inl ⟨dx, _, hx.dp (shp_lay q.1), hy.dp (shp_lay q.2.1), q.1, q.2.1, hk _ H _ (.refl H) (.bl _) q.2.2⟩
  · obtain ⟨p, xs, rfl, h, r⟩ := hy.sqt
    have fx := rq_flat hx q.1
    refine .inr ⟨p, xs, rfl, .inr h, flat_of fx q.1, flat_all r q.2.1, ?_⟩
    rw [if_neg Bool.false_ne_true, inV_flat fx q.1 r q.2.1]
    exact hk _ H _ (.refl H) (.bl _) q.2.2
theorem onin (hu : X.A.units + 65 < cLine) : OpD X (compareOp .NotIn) ninD := by
  refine ⟨_, OpR.orr (op_notInD hu) op_notIn_seq, fun S H x y dx dy Q k n hx hy q hk => ?_⟩
  cases dy <;> first | exact q.elim | skip
  · exact .inl ⟨dx, _, hx.dp (shp_lay q.1), hy.dp (shp_lay q.2.1), q.1, q.2.1, hk _ H _ (.refl H) (.bl _) q.2.2⟩
  · obtain ⟨p, xs, rfl, h, r⟩ := hy.sqt
    have fx := rq_flat hx q.1
    refine .inr ⟨p, xs, rfl, .inr h, flat_of fx q.1, flat_all r q.2.1, ?_⟩
    rw [if_pos rfl, inV_flat fx q.1 r q.2.1]
    exact hk _ H _ (.refl H) (.bl _) q.2.2
/-- -n -/
def gNeg (g : DTE) : DTE := fun ρ Q => g ρ fun d ρ' => ∃ i, d = .int i ∧ Q (.int (-i)) ρ'
theorem dneg {a : Expr} {g : DTE} {pos : Pos} (h : DE X a g) : DE X (.UnaryOp .USub a pos) (gNeg g) := by
  obtain ⟨t, p, s⟩ := h.ex
  refine ⟨_, pe_un un_neg p, fun C S σ H ρ Q k R q f => s C S σ H ρ _ _ R q fun v H' d ρ' f1 R1 r1 h => ?_⟩
  obtain ⟨i, rfl, h⟩ := h
  cases r1
  exact ⟨i, rfl, f _ H' _ ρ' f1 R1 (.int _) h⟩

/-! ### subscripts -/
/-- o[i]: a list, a tuple -/
def ixD : DOp := fun x y Q => match x, y with
  | .list ds, .int i => ∃ d, atI ds i = some d ∧ Q d
  | .tuple ds, .int i => ∃ d, atI ds i = some d ∧ Q d
  | _, _ => False
theorem RpA.atI {xs : List V} {ds : List D} {i : Int} {d : D} (r : RpA K S H xs ds) (h : atI ds i = some d) : ∃ v, L2.atI xs i = some v ∧ Rp K S H v d := by
  unfold L2.atI at h ⊢
  rw [r.len]
  cases e : ixN ds.length i with
  | none => rw [e] at h; cases h
  | some j =>
    rw [e] at h
    obtain ⟨v, h1, h2⟩ := r.get (show ds[j]? = some d from h)
    exact ⟨v, h1, h2⟩
def IxD (X : Cx) (g : DOp) : Prop := ∃ r : R2, IxR X r ∧ ∀ (S : Vol) (H : Hp) (x y : V) (dx dy : D) (Q : D → Prop) (k : VK), (∀ p, H p = none → ¬ S p) → Rq X.K S H x dx → Rq X.K S H y dy → g dx dy Q →
  (∀ z H' d, Ext H H' → Rp X.K S H' z d → Q d → k z H') → r x y H k
theorem ixSeq : IxD X ixD := by
  refine ⟨_, ix_seq, fun S H x y dx dy Q k n hx hy q hk => ?_⟩
  cases dx <;> cases dy <;> first | exact q.elim | skip
  · obtain ⟨p, xs, rfl, h, r⟩ := hx.sql
    cases hy.int
    obtain ⟨d, e, q⟩ := q
    obtain ⟨v, e', r'⟩ := r.atI e
    exact .inl ⟨p, xs, _, v, rfl, rfl, h, e', hk _ H _ (.refl H) r' q⟩
  · obtain ⟨p, xs, rfl, h, r⟩ := hx.sqt
    cases hy.int
    obtain ⟨d, e, q⟩ := q
    obtain ⟨v, e', r'⟩ := r.atI e
    exact .inr (.inl ⟨p, xs, _, v, rfl, rfl, h, e', hk _ H _ (.refl H) r' q⟩)
variable {a b : Expr} {ga gb : DTE} {pos : Pos}
theorem dix {fo : DOp} (ho : IxD X fo) (ha : DE X a ga) (hb : DQ X b gb) (hs : PlainIx b := by intro _ _; rfl) : DE X (.Subscript a b pos) (gBin fo ga gb) := by
  obtain ⟨r, h1, h2⟩ := ho
  obtain ⟨_, pa, sa⟩ := ha.ex
  obtain ⟨_, pb, sb⟩ := hb.ex
  exact ⟨_, pe_ix h1 pa pb hs, simBin h2 sa sb⟩
theorem dixO {fo : DOp} (i : Nat) {x : Str} {p : Pos} (ho : IxD X fo) (hb : DQ X b gb) (hs : PlainIx b := by intro _ _; rfl) (hN : X.N[i]? = some x := by rfl) (hv : Vis X.env.scope x := by first | exact Or.inl rfl | exact Or.inr (Or.inl rfl) | exact Or.inr (Or.inr rfl)) (hd : (x == ("__debug__" : Str)) = false := by decide)
    (hcd : (x == ("__classdict__" : Str)) = false := by decide) : DE X (.Subscript (.Name x p) b pos) (gBinO fo i gb) := by
  obtain ⟨r, h1, h2⟩ := ho
  obtain ⟨_, pb, sb⟩ := hb.ex
  exact ⟨_, pe_ix h1 (pe_var hN hv hd hcd) pb hs, simBinO h2 sb⟩

/-! ### slices -/
abbrev DTO := Rho → (Option Int → Rho → Prop) → Prop
def SimO (K : PySem.W.Frag) (t : TO) (g : DTO) : Prop := ∀ (C : Ctx) (S : Vol) (σ : VStore) (H : Hp) (ρ : Rho) (Q : Option Int → Rho → Prop) (k : Option Int → Hp → Prop), RS K C S σ H ρ → g ρ Q →
  (∀ o H' ρ', Fr C S H H' → RS K C S σ H' ρ' → Q o ρ' → k o H') → t σ H k
structure DO (X : Cx) (e : Option Expr) (g : DTO) : Prop where
  ex : ∃ t, PO X e t ∧ SimO X.K t g
def gNo : DTO := fun ρ Q => Q none ρ
def gSome (g : DTE) : DTO := fun ρ Q => g ρ fun d ρ' => ∃ i, d = .int i ∧ Q (some i) ρ'
theorem dno : DO X none gNo := ⟨_, po_none, fun C S σ H ρ Q k R q f => f none H ρ .refl R q⟩
theorem dsome (h : DE X a ga) : DO X (some a) (gSome ga) := by
  obtain ⟨t, p, s⟩ := h.ex
  refine ⟨_, po_some p, fun C S σ H ρ Q k R q f => s C S σ H ρ _ _ R q fun v H' d ρ' f1 R1 r1 h => ?_⟩
  obtain ⟨i, rfl, h⟩ := h
  cases r1
  exact ⟨i, rfl, f _ H' ρ' f1 R1 h⟩
def cutD (ds : List D) (lo hi : Option Int) : List D := (ds.drop (HT.sIx ds.length 0 lo)).take (HT.sIx ds.length ds.length hi - HT.sIx ds.length 0 lo)
theorem RpA.cut {xs : List V} {ds : List D} (r : RpA K S H xs ds) (lo hi : Option Int) : RpA K S H (cutV xs lo hi) (cutD ds lo hi) := by
  unfold cutV cutD
  rw [r.len]
  exact (r.drop _).take _
theorem cutD_whole {ds : List D} {lo hi : Option Int} (h : HT.sIx ds.length 0 lo = 0 ∧ HT.sIx ds.length ds.length hi = ds.length) : cutD ds lo hi = ds := by
  unfold cutD
  rw [h.1, h.2]
  simp
def gSl (g : DTE) (l h : DTO) : DTE := fun ρ Q => g ρ fun d ρ1 => l ρ1 fun lo ρ2 => h ρ2 fun hi ρ3 => match d with
  | .tuple ds => Q (.tuple (cutD ds lo hi)) ρ3
  | .list ds => Q (.list (cutD ds lo hi)) ρ3
  | _ => False
variable {el eh : Option Expr} {gl gh : DTO} {p2 : Pos}
theorem dsl (ha : DE X a ga) (hl : DO X el gl) (hh : DO X eh gh) : DE X (.Subscript a (.Slice el eh none p2) pos) (gSl ga gl gh) := by
  obtain ⟨_, p, s⟩ := ha.ex
  obtain ⟨_, pl, sl⟩ := hl.ex
  obtain ⟨_, ph, sh⟩ := hh.ex
  refine ⟨_, pe_slice (SlR.or sl_TS sl_list) p pl ph, fun C S σ H ρ Q k R q f => s C S σ H ρ _ _ R q fun v H1 d ρ1 f1 R1 r1 h => sl C S σ H1 ρ1 _ _ R1 h fun lo H2 ρ2 f2 R2 h => sh C S σ H2 ρ2 _ _ R2 h fun hi H3 ρ3 f3 R3 h => ?_⟩
  have r3 := f3.rp (f2.rp r1)
  cases d <;> first | exact h.elim | skip
  · cases r3 with
    | lst e r =>
      exact .inr ⟨_, _, rfl, e.sq, fun z hz => f _ _ _ ρ3 (((f1.trans f2).trans f3).trans (.of (.new hz))) (R3.ext (.new hz)) (.lst (.of upd_same (R3.notS hz)) ((r.cut lo hi).ext (.new hz))) h⟩
  · have r4 := r3
    cases r3 with
    | tup e r =>
      refine .inl ⟨_, _, rfl, e.sq, fun w => ?_, fun w z o hz ho => ?_⟩
      · rw [r.len] at w
        have h2 : Q (.tuple (cutD _ lo hi)) ρ3 := h
        rw [cutD_whole w] at h2
        exact f _ H3 _ ρ3 ((f1.trans f2).trans f3) R3 r4 h2
      · exact f _ _ _ ρ3 (((f1.trans f2).trans f3).trans (.of (.new hz))) (R3.ext (.new hz)) (.tup (.new ho (R3.notS hz)) ((r.cut lo hi).ext (.new hz))) h
end
end Gw
namespace Gw
open PySem PySem.Spec PyProof.Rows L2

/-! ## small data: what may be shown and compared -/
structure OkR (n k : Nat) (d : D) : Prop where
  lay : d.canLay0 = true
  sh : d.intsShort 13 = true
  sw : d.showable = true
  w : d.weight ≤ n
  dp : d.depth ≤ k
theorem OkR.mono {n k n' k' : Nat} {d : D} (h : OkR n k d) (h1 : n ≤ n') (h2 : k ≤ k') : OkR n' k' d := ⟨h.lay, h.sh, h.sw, Nat.le_trans h.w h1, Nat.le_trans h.dp h2⟩
theorem OkR.shaped {n k : Nat} {d : D} (h : OkR n k d) (hk : k ≤ 64) : SeqAt.shaped d = true := by
  have := h.dp
  unfold SeqAt.shaped
  rw [Bool.and_eq_true, decide_eq_true_eq]
  exact ⟨h.lay, by omega⟩
theorem okInt {i : Int} (h : i.natAbs < 10 ^ 12) : OkR 40 0 (.int i) := by
  refine ⟨rfl, ?_, ?_, ?_, Nat.le_refl _⟩
  · show decide _ = true
    exact decide_eq_true (PyData.shown_int_le h)
  · show decide _ = true
    refine decide_eq_true ?_
    have h1 : i.natAbs < 2 ^ 40 := Nat.lt_trans h (by decide)
    by_cases h0 : i.natAbs = 0
    · rw [h0]; decide
    · have := (Nat.log2_lt h0).mpr h1
      omega
  · show (if (i == 0) = true then 0 else i.natAbs.log2 + 1) ≤ 40
    split
    · omega
    · rename_i h0
      have h0' : i.natAbs ≠ 0 := by simpa using h0
      have h1 : i.natAbs < 2 ^ 40 := Nat.lt_trans h (by decide)
      have := (Nat.log2_lt h0').mpr h1
      omega
theorem okBool (b : Bool) : OkR 40 0 (.bool b) := ⟨rfl, rfl, rfl, by show PyData.weight (.bool b) ≤ 40; simp [PyData.weight], Nat.le_refl _⟩
theorem okNone : OkR 40 0 .none := ⟨rfl, rfl, rfl, by simp [PyData.weight], Nat.le_refl _⟩
theorem okStr {x : Str} (h1 : PyData.strOk x = true) (h2 : x.cps.size ≤ 40) : OkR 40 0 (.str x) := ⟨h1, rfl, rfl, h2, Nat.le_refl _⟩
/-- a list of items -/
structure OkA (n k : Nat) (ds : List D) : Prop where
  lay : PyData.canLayAll0 ds = true
  sh : PyData.intsShortAll 13 ds = true
  sw : PyData.showableAll ds = true
  w : PyData.weightAll ds ≤ n
  dp : PyData.depthAll ds ≤ k
theorem okNil {k : Nat} : OkA 0 k [] := ⟨rfl, rfl, rfl, Nat.le_refl _, Nat.zero_le _⟩
theorem okCons {n k n' k' : Nat} {d : D} {ds : List D} (h : OkR n k d) (t : OkA n' k' ds) : OkA (n + 1 + n') (max k k') (d :: ds) := by
  have h1 := h.w
  have h2 := t.w
  have h3 := h.dp
  have h4 := t.dp
  refine ⟨?_, ?_, ?_, ?_, ?_⟩
  · simp only [PyData.canLayAll0, h.lay, t.lay, Bool.and_self]
  · simp only [PyData.intsShortAll, h.sh, t.sh, Bool.and_self]
  · simp only [PyData.showableAll, h.sw, t.sw, Bool.and_self]
  · simp only [PyData.weightAll]; omega
  · simp only [PyData.depthAll]; omega
theorem okAll {n k : Nat} : ∀ {ds : List D}, (∀ d ∈ ds, OkR n k d) → OkA (ds.length * (n + 1)) k ds
  | [], _ => by simpa using okNil
  | d :: ds, h => by
    have t := okCons (h d List.mem_cons_self) (okAll (ds := ds) fun e he => h e (List.mem_cons_of_mem _ he))
    refine ⟨t.lay, t.sh, t.sw, Nat.le_trans t.w ?_, Nat.le_trans t.dp (by omega)⟩
    rw [List.length_cons, Nat.add_mul, Nat.one_mul]
    omega
theorem okTup {n k : Nat} {ds : List D} (h : OkA n k ds) : OkR n (k + 1) (.tuple ds) :=
  ⟨h.lay, h.sh, h.sw, h.w, Nat.succ_le_succ h.dp⟩
theorem okLst {n k : Nat} {ds : List D} (h : OkA n k ds) : OkR n (k + 1) (.list ds) :=
  ⟨h.lay, h.sh, h.sw, h.w, Nat.succ_le_succ h.dp⟩
theorem okTupAll {n k m : Nat} {ds : List D} (h : ∀ d ∈ ds, OkR n k d) (hl : ds.length ≤ m) : OkR (m * (n + 1)) (k + 1) (.tuple ds) := (okTup (okAll h)).mono (Nat.mul_le_mul_right _ hl) (Nat.le_refl _)
theorem okLstAll {n k m : Nat} {ds : List D} (h : ∀ d ∈ ds, OkR n k d) (hl : ds.length ≤ m) : OkR (m * (n + 1)) (k + 1) (.list ds) := (okLst (okAll h)).mono (Nat.mul_le_mul_right _ hl) (Nat.le_refl _)
theorem okTupMap {α : Type} {f : α → D} {xs : List α} {n k m : Nat} (h : ∀ x ∈ xs, OkR n k (f x)) (hl : xs.length ≤ m) : OkR (m * (n + 1)) (k + 1) (.tuple (xs.map f)) :=
  okTupAll (fun d hd => by obtain ⟨x, hx, rfl⟩ := List.mem_map.mp hd; exact h x hx) (by rw [List.length_map]; exact hl)
theorem okLstMap {α : Type} {f : α → D} {xs : List α} {n k m : Nat} (h : ∀ x ∈ xs, OkR n k (f x)) (hl : xs.length ≤ m) : OkR (m * (n + 1)) (k + 1) (.list (xs.map f)) :=
  okLstAll (fun d hd => by obtain ⟨x, hx, rfl⟩ := List.mem_map.mp hd; exact h x hx) (by rw [List.length_map]; exact hl)
mutual
theorem lay_noDict : ∀ d : D, d.canLay0 = true → d.hasDict = false
  | .none, _ => rfl
  | .bool _, _ => rfl
  | .int _, _ => rfl
  | .str _, _ => rfl
  | .list xs, h => by
    simp only [PyData.hasDict]
    exact lay_noDictA xs (by simpa only [PyData.canLay0] using h)
  | .tuple xs, h => by
    simp only [PyData.hasDict]
    exact lay_noDictA xs (by simpa only [PyData.canLay0] using h)
  | .dict _, h => by simp [PyData.canLay0] at h
theorem lay_noDictA : ∀ ds : List D, PyData.canLayAll0 ds = true → PyData.hasDictAll ds = false
  | [], _ => rfl
  | d :: ds, h => by
    simp only [PyData.canLayAll0, Bool.and_eq_true] at h
    simp only [PyData.hasDictAll, lay_noDict d h.1, lay_noDictA ds h.2, Bool.or_self]
end
theorem OkR.fits {n k : Nat} {d : D} (h : OkR n k d) (hn : n ≤ 2 ^ 20) : d.shown.length ≤ sizeLine :=
  PyData.shown_fits (B := 13) (by decide) (by decide) (PyData.leavesShort_of_canLay0 13 d h.lay h.sh) (Nat.le_trans h.w hn)

/-! ## calls of built-ins -/
section
variable {X : Cx} {K : PySem.W.Frag} {S : Vol} {H : Hp}
abbrev DU := D → (D → Prop) → Prop
def CallU (X : Cx) (f : Value) (g : DU) : Prop := ∃ r : List V → Hp → VK → Prop, CallR X f r ∧ ∀ (S : Vol) (H : Hp) (x : V) (d : D) (Q : D → Prop) (k : VK), (∀ p, H p = none → ¬ S p) → Rq X.K S H x d → g d Q →
  (∀ z H' d', Ext H H' → Rp X.K S H' z d' → Q d' → k z H') → r [x] H k
/-- .. that make a new list -/
def CallUF (X : Cx) (f : Value) (g : DU) : Prop := ∃ r : List V → Hp → VK → Prop, CallR X f r ∧ ∀ (S : Vol) (H : Hp) (x : V) (d : D) (Q : D → Prop) (k : VK), Rq X.K S H x d → g d Q →
  (∀ p xs ds, H p = none → RpA X.K S H xs ds → Q (.list ds) → k (.ref p) (upd H p (.lst xs))) → r [x] H k
def CallA (X : Cx) (f : Value) (g : List D → (D → Prop) → Prop) : Prop := ∃ r : List V → Hp → VK → Prop, CallR X f r ∧ ∀ (S : Vol) (H : Hp) (xs : List V) (ds : List D) (Q : D → Prop) (k : VK), (∀ p, H p = none → ¬ S p) → RpA X.K S H xs ds → g ds Q →
  (∀ z H' d', Ext H H' → Rp X.K S H' z d' → Q d' → k z H') → r xs H k
def gU (f : DU) (g : DTE) : DTE := fun ρ Q => g ρ fun d ρ' => f d fun d' => Q d' ρ'
def gA (f : List D → (D → Prop) → Prop) (l : DTA) : DTE := fun ρ Q => l ρ fun ds ρ' => f ds fun d' => Q d' ρ'
variable {x : Str} {p pos : Pos} {a : Expr} {es : List Expr} {g : DTE} {l : DTA} {id T : String} {f : DU}
theorem simU {r : List V → Hp → VK → Prop} {t : TE} (hr : ∀ (S : Vol) (H : Hp) (x : V) (d : D) (Q : D → Prop) (k : VK), (∀ p, H p = none → ¬ S p) → Rq K S H x d → f d Q → (∀ z H' d', Ext H H' → Rp K S H' z d' → Q d' → k z H') → r [x] H k)
    (ht : SimQ K t g) : SimE K (tCB r (tCons t tNil)) (gU f g) := fun C S σ H ρ Q k R q fk => ht C S σ H ρ _ _ R q fun v H1 d ρ1 f1 R1 r1 h =>
  hr S H1 v d _ _ (fun p hp => R1.notS hp) r1 h fun z H2 d' e2 r2 q2 => fk z H2 d' ρ1 (f1.trans (.of e2)) (R1.ext e2) r2 q2
theorem simUF {r : List V → Hp → VK → Prop} {t : TE} (hr : ∀ (S : Vol) (H : Hp) (x : V) (d : D) (Q : D → Prop) (k : VK), Rq K S H x d → f d Q → (∀ p xs ds, H p = none → RpA K S H xs ds → Q (.list ds) → k (.ref p) (upd H p (.lst xs))) → r [x] H k)
    (ht : SimQ K t g) : SimF K (tCB r (tCons t tNil)) (gU f g) := fun C S σ H ρ Q k R q fk => ht C S σ H ρ _ _ R q fun v H1 d ρ1 f1 R1 r1 h =>
  hr S H1 v d _ _ r1 h fun p xs ds hp r2 q2 => fk p _ _ ρ1 (f1.trans (.of (.new hp))) (newOb R1 hp).1 (newOb R1 hp).2 (freshAt f1 R1 hp) (.lst upd_same (RpA.newp r2 hp)) q2
theorem dcallB (hc : CallU X (.builtin id) f) (hg : Gl X x) (hm : X.mg x = none) (hv : bootBuiltins x = some (.builtin id)) (ha : DQ X a g) (hn : x ≠ "__name__" := by decide) (hdb : (x == ("__debug__" : Str)) = false := by decide)
    (he : starEach [a] X.env = (false, eval a X.env) :: starEach [] X.env := by rfl) (hpl : (backTo pos (starEach [] X.env)).any (·.1) = false := by rfl) : DE X (.Call (.Name x p) [a] [] pos) (gU f g) := by
  obtain ⟨r, h1, h2⟩ := hc
  obtain ⟨t, q, s⟩ := ha.ex
  exact ⟨_, pe_callB h1 hg hm hv (pa_cons q pa_nil he) hn hdb he hpl, simU h2 s⟩
theorem dcallTy (hc : CallU X (.type T) f) (hg : Gl X x) (hm : X.mg x = none) (hv : bootBuiltins x = some (.type T)) (ha : DQ X a g) (hn : x ≠ "__name__" := by decide) (hdb : (x == ("__debug__" : Str)) = false := by decide)
    (he : starEach [a] X.env = (false, eval a X.env) :: starEach [] X.env := by rfl) (hpl : (backTo pos (starEach [] X.env)).any (·.1) = false := by rfl) : DE X (.Call (.Name x p) [a] [] pos) (gU f g) := by
  obtain ⟨r, h1, h2⟩ := hc
  obtain ⟨t, q, s⟩ := ha.ex
  exact ⟨_, pe_callTy h1 hg hm hv (pa_cons q pa_nil he) hn hdb he hpl, simU h2 s⟩
theorem dcallBF (hc : CallUF X (.builtin id) f) (hg : Gl X x) (hm : X.mg x = none) (hv : bootBuiltins x = some (.builtin id)) (ha : DQ X a g) (hn : x ≠ "__name__" := by decide) (hdb : (x == ("__debug__" : Str)) = false := by decide)
    (he : starEach [a] X.env = (false, eval a X.env) :: starEach [] X.env := by rfl) (hpl : (backTo pos (starEach [] X.env)).any (·.1) = false := by rfl) : DF X (.Call (.Name x p) [a] [] pos) (gU f g) := by
  obtain ⟨r, h1, h2⟩ := hc
  obtain ⟨t, q, s⟩ := ha.ex
  exact ⟨_, pe_callB h1 hg hm hv (pa_cons q pa_nil he) hn hdb he hpl, simUF h2 s⟩
theorem dcallTyF (hc : CallUF X (.type T) f) (hg : Gl X x) (hm : X.mg x = none) (hv : bootBuiltins x = some (.type T)) (ha : DQ X a g) (hn : x ≠ "__name__" := by decide) (hdb : (x == ("__debug__" : Str)) = false := by decide)
    (he : starEach [a] X.env = (false, eval a X.env) :: starEach [] X.env := by rfl) (hpl : (backTo pos (starEach [] X.env)).any (·.1) = false := by rfl) : DF X (.Call (.Name x p) [a] [] pos) (gU f g) := by
  obtain ⟨r, h1, h2⟩ := hc
  obtain ⟨t, q, s⟩ := ha.ex
  exact ⟨_, pe_callTy h1 hg hm hv (pa_cons q pa_nil he) hn hdb he hpl, simUF h2 s⟩
theorem dcallBA {f : List D → (D → Prop) → Prop} {e : Expr} (hc : CallA X (.builtin id) f) (hg : Gl X x) (hm : X.mg x = none) (hv : bootBuiltins x = some (.builtin id)) (ha : DA X (e :: es) l) (hn : x ≠ "__name__" := by decide) (hdb : (x == ("__debug__" : Str)) = false := by decide)
    (he : starEach (e :: es) X.env = (false, eval e X.env) :: starEach es X.env := by rfl) (hpl : (backTo pos (starEach es X.env)).any (·.1) = false := by rfl) : DE X (.Call (.Name x p) (e :: es) [] pos) (gA f l) := by
  obtain ⟨r, h1, h2⟩ := hc
  obtain ⟨t, q, s⟩ := ha.ex
  exact ⟨_, pe_callB h1 hg hm hv q hn hdb he hpl, fun C S σ H ρ Q k R q fk => s C S σ H ρ _ _ R q fun vs H1 ds ρ1 f1 R1 r1 h =>
    h2 S H1 vs ds _ _ (fun p hp => R1.notS hp) r1 h fun z H2 d' e2 r2 q2 => fk z H2 d' ρ1 (f1.trans (.of e2)) (R1.ext e2) r2 q2⟩

/-! ### which they are -/
def lenU : DU := fun d Q => match d with
  | .list ds => Q (.int ds.length)
  | .tuple ds => Q (.int ds.length)
  | _ => False
theorem clen : CallU X (.builtin "len") lenU := by
  refine ⟨_, call_len_seq, fun S H x d Q k n hx q hk => ?_⟩
  cases d <;> first | exact q.elim | skip
  · obtain ⟨p, xs, rfl, h, r⟩ := hx.sql
    exact ⟨p, xs, rfl, .inl h, by rw [r.len]; exact hk _ H _ (.refl H) (.int _) q⟩
  · obtain ⟨p, xs, rfl, h, r⟩ := hx.sqt
    exact ⟨p, xs, rfl, .inr h, by rw [r.len]; exact hk _ H _ (.refl H) (.int _) q⟩
theorem rq_tup {v : V} {l : List D} (h : Rq K S H v (.tuple l)) : Rp K S H v (.tuple l) := h.elim id fun ⟨_, _, o⟩ => by cases o
def tupU : DU := fun d Q => match d with
  | .list ds => Q (.tuple ds)
  | .tuple ds => Q (.tuple ds)
  | _ => False
theorem ctup : CallU X (.type "tuple") tupU := by
  refine ⟨_, call_tupX, fun S H x d Q k n hx q hk => ?_⟩
  cases d <;> first | exact q.elim | skip
  · obtain ⟨p, xs, rfl, h, r⟩ := hx.sql
    exact ⟨p, xs, rfl, .inl ⟨h, fun z o hz ho => hk _ _ _ (.new hz) (.tup (.new ho (n z hz)) (r.ext (.new hz))) q⟩⟩
  · have hx' := rq_tup hx
    obtain ⟨p, xs, rfl, h, r⟩ := hx.sqt
    exact ⟨p, xs, rfl, .inr ⟨h, hk _ H _ (.refl H) hx' q⟩⟩
def lstU : DU := fun d Q => match d with
  | .list ds => Q (.list ds)
  | .tuple ds => Q (.list ds)
  | _ => False
theorem clst : CallUF X (.type "list") lstU := by
  refine ⟨_, call_list_of, fun S H x d Q k hx q hk => ?_⟩
  cases d <;> first | exact q.elim | skip
  · obtain ⟨p, xs, rfl, h, r⟩ := hx.sql
    exact ⟨p, xs, rfl, .inl h, fun z hz => hk z xs _ hz r q⟩
  · obtain ⟨p, xs, rfl, h, r⟩ := hx.sqt
    exact ⟨p, xs, rfl, .inr h, fun z hz => hk z xs _ hz r q⟩
def intU : DU := fun d Q => match d with
  | .int i => Q (.int i)
  | .bool b => Q (.int (if b then 1 else 0))
  | _ => False
theorem cint : CallU X (.type "int") intU := by
  refine ⟨_, call_int1, fun S H x d Q k n hx q hk => ?_⟩
  cases d <;> first | exact q.elim | skip
  · cases hx.bl
    exact .inr ⟨_, rfl, hk _ H _ (.refl H) (.int _) q⟩
  · cases hx.int
    exact .inl ⟨_, rfl, hk _ H _ (.refl H) (.int _) q⟩
def absU : DU := fun d Q => match d with
  | .int i => Q (.int (if i < 0 then -i else i))
  | _ => False
theorem cabs : CallU X (.builtin "abs") absU := by
  refine ⟨_, call_abs, fun S H x d Q k n hx q hk => ?_⟩
  cases d <;> first | exact q.elim | skip
  cases hx.int
  exact ⟨_, rfl, hk _ H _ (.refl H) (.int _) q⟩
def max2A : List D → (D → Prop) → Prop := fun ds Q => match ds with
  | [.int i, .int j] => Q (.int (if j > i then j else i))
  | _ => False
def min2A : List D → (D → Prop) → Prop := fun ds Q => match ds with
  | [.int i, .int j] => Q (.int (if j < i then j else i))
  | _ => False
theorem twoInts {ds : List D} {P : Int → Int → Prop} (h : (match ds with | [.int i, .int j] => P i j | _ => False)) : ∃ i j, ds = [.int i, .int j] ∧ P i j := by
  match ds, h with
  | [.int i, .int j], h => exact ⟨i, j, rfl, h⟩
theorem cmax2 (hc : X.calm = true) : CallA X (.builtin "max") max2A := by
  refine ⟨_, call_max2 hc, fun S H xs ds Q k n hx q hk => ?_⟩
  obtain ⟨i, j, rfl, q⟩ := twoInts (P := fun i j => Q (.int (if j > i then j else i))) q
  have e : xs = [V.int i, V.int j] := RpA.ints (ns := [i, j]) hx
  exact ⟨i, j, e, hk _ H _ (.refl H) (.int _) q⟩
theorem cmin2 (hc : X.calm = true) : CallA X (.builtin "min") min2A := by
  refine ⟨_, call_min2 hc, fun S H xs ds Q k n hx q hk => ?_⟩
  obtain ⟨i, j, rfl, q⟩ := twoInts (P := fun i j => Q (.int (if j < i then j else i))) q
  have e : xs = [V.int i, V.int j] := RpA.ints (ns := [i, j]) hx
  exact ⟨i, j, e, hk _ H _ (.refl H) (.int _) q⟩
/-- sum of ints, a list or a tuple -/
theorem preSum_get (ns : List Int) : ∀ n, n ≤ ns.length → preSum (fun i => ns.getD i 0) n = (ns.take n).sum
  | 0, _ => by simp [preSum]
  | n + 1, h => by
    rw [preSum, preSum_get ns n (by omega), List.take_add_one, List.sum_append]
    have : ns[n]? = some ns[n] := List.getElem?_eq_getElem (by omega)
    simp [List.getD, this]
theorem cr_sumT (hc : X.calm = true) : CallR X (.builtin "sum") (fun vs H Q => ∃ (a : Addr) (ns : List Int), vs = [V.ref a] ∧ SqT X.K H a (ns.map V.int) ∧ Q (.int ns.sum) H) := by
  intro pins s σ H vs us Q I r h
  obtain ⟨a, ns, rfl, hs, q⟩ := h
  obtain ⟨its, rv, ht, hz⟩ := I.tuple hs
  rw [Vals.ref1 r]
  have ht' : s.heap.IsTuple a its.toArray := ht
  have hlt : a < s.heap.objs.size := by obtain ⟨_, e, _⟩ := ht; exact Heap.lt_size e
  have hl : its.length = ns.length := by have := rv.length; simpa using this.symm
  refine call_sum_walkG (wpAny_pyIter_tuple ht' ?_)
  refine ⟨_, _, _, _, _, _, fun i => ns.getD i 0, rfl, Walks.tuple (A := X.A.in1) (I.ok.hd hc) _ a (Nat.ne_of_lt hlt) its.toArray, ⟨⟨_, Heap.get?_push_size _ rfl, rfl, rfl⟩, ht'.push _⟩, fun b hb => ?_, fun i v hv => ?_, fun h' tk t' hk => ?_⟩
  · have hb' : b = s.heap.objs.size ∨ b = a := by simpa using hb
    show b < (s.heap.push _).objs.size
    rw [Heap.size_push]
    rcases hb' with rfl | rfl
    · exact Nat.lt_succ_self _
    · exact Nat.lt_succ_of_lt hlt
  · have hi : its[i]? = some v := by simpa using hv
    obtain ⟨h1, h2⟩ := List.getElem?_eq_some_iff.mp hi
    have e1 : (ns.map V.int)[i]? = some (.int ns[i]) := by
      rw [List.getElem?_map, List.getElem?_eq_getElem (hl ▸ h1)]; rfl
    obtain ⟨u, hu, ru⟩ := rv.get e1
    rw [hi] at hu
    cases hu
    obtain ⟨t, rfl⟩ := ru
    refine ⟨t, ?_⟩
    show Value.int ns[i] t = Value.int (ns.getD i 0) t
    have hi2 : i < ns.length := hl ▸ h1
    simp [List.getD, List.getElem?_eq_getElem hi2]
  · have e : preSum (fun i => ns.getD i 0) its.toArray.size = ns.sum := by
      rw [show its.toArray.size = ns.length by simpa using hl, preSum_get ns _ (Nat.le_refl _), List.take_length]
    rw [e]
    refine ⟨.int ns.sum, H, I.kept fun b o e => hk b o (fun hm => ?_) (Heap.get?_push_of_some _ e), ⟨_, rfl⟩, q⟩
    have : b = s.heap.objs.size := by simpa using hm
    rw [this] at e
    exact absurd (Heap.lt_size e) (Nat.lt_irrefl _)
def sumU : DU := fun d Q => ∃ ns : List Int, (d = .list (ns.map PyData.int) ∨ d = .tuple (ns.map PyData.int)) ∧ Q (.int ns.sum)
theorem CallR.orr {f : Value} {r r' : List V → Hp → VK → Prop} (h : CallR X f r) (h' : CallR X f r') : CallR X f (fun x H Q => r x H Q ∨ r' x H Q) :=
  fun pins s σ H xs us Q I rx q => q.elim (h pins s σ H xs us Q I rx) (h' pins s σ H xs us Q I rx)
theorem csum (hc : X.calm = true) : CallU X (.builtin "sum") sumU := by
  refine ⟨_, CallR.orr (cr_sum hc) (cr_sumT hc), fun S H x d Q k n hx q hk => ?_⟩
  obtain ⟨ns, h, q⟩ := q
  rcases h with rfl | rfl
  · obtain ⟨p, xs, rfl, h, r⟩ := hx.sql
    rw [r.ints] at h
    exact .inl ⟨p, ns, rfl, h, hk _ H _ (.refl H) (.int _) q⟩
  · obtain ⟨p, xs, rfl, h, r⟩ := hx.sqt
    rw [r.ints] at h
    exact .inr ⟨p, ns, rfl, h, hk _ H _ (.refl H) (.int _) q⟩
/-- repr -/
def reprU : DU := fun d Q => (∃ n k, OkR n k d ∧ n ≤ 2 ^ 20 ∧ k ≤ 60) ∧ Q (.str d.shown)
theorem call_reprD {k : Nat} (hr : RoomG k X.A) : CallR X (.builtin "repr") (fun xs H Q => ∃ v d n k, xs = [v] ∧ Dp X.K H v d ∧ OkR n k d ∧ n ≤ 2 ^ 20 ∧ k ≤ 60 ∧ Q (.str d.shown) H) := by
  intro pins s σ H xs us Q I r h
  obtain ⟨v, d, n, k', rfl, hd, ok, hn, hk, q⟩ := h
  cases r with
  | cons rx rt =>
  cases rt
  have hf := ok.fits hn
  obtain ⟨as, rd⟩ := Dp.reads I d v _ hd rx
  cases hd with
  | non => cases rx; exact PySem.P.repr_of_none ⟨.str _, H, I.tok _, ⟨_, rfl⟩, q⟩
  | bl b => cases rx; exact PySem.P.repr_of_bool ⟨.str _, H, I.tok _, ⟨_, rfl⟩, q⟩
  | int i =>
    obtain ⟨t, rfl⟩ := rx
    exact PySem.P.repr_of_int (by have := ok.sw; simpa [PyData.showable] using this) ⟨.str _, H, I.tok _, ⟨_, rfl⟩, q⟩
  | str z =>
    obtain ⟨t, rfl⟩ := rx
    exact PySem.P.repr_of_str ⟨.str _, H, I.tok _, ⟨_, rfl⟩, q⟩ hf
  | lst h1 h2 =>
    cases rx
    have hu := hr.room.units
    have hdp := ok.dp
    exact repr_of_reads' rd ok.sw (PyData.noDict_hsm (lay_noDict _ ok.lay)) hr.gd (by omega) (fun _ _ e => e) (fun h' u tk hk => ⟨.str _, H, I.kept hk, ⟨_, rfl⟩, q⟩) hf
  | tup h1 h2 =>
    cases rx
    have hu := hr.room.units
    have hdp := ok.dp
    exact repr_of_reads' rd ok.sw (PyData.noDict_hsm (lay_noDict _ ok.lay)) hr.gd (by omega) (fun _ _ e => e) (fun h' u tk hk => ⟨.str _, H, I.kept hk, ⟨_, rfl⟩, q⟩) hf
theorem crepr {k : Nat} (hr : RoomG k X.A) : CallU X (.builtin "repr") reprU := by
  refine ⟨_, call_reprD hr, fun S H x d Q k n hx q hk => ?_⟩
  obtain ⟨⟨m, k', ok, h1, h2⟩, q⟩ := q
  exact ⟨x, d, m, k', rfl, hx.dp ok.lay, ok, h1, h2, hk _ H _ (.refl H) (.str _) q⟩
end
end Gw
namespace Gw
open PySem PySem.Spec PyProof.Rows L2
open Sem (wp)

/-! ## what is walked -/
/-! ### enumerate of a tuple -/
theorem meets_enum1 {v : Value} {o : Obj} {G : Heap → Prop} (B : Begins v o G) :
    Meets (Builtin.«enumerate.__new__» ⟨[.type "enumerate", v], []⟩) (fun _ R s => G s.heap ∧
      R (.ok (.ret (.ref (s.heap.push o).objs.size))) { s with heap := (s.heap.push o).push { cls := .type "enumerate", data := .fields #[.none, .bool false, .ref s.heap.objs.size, rawInt 0, .none, .none] } }) := by
  refine Meets.of_wp fun prog w A R s h => ?_
  obtain ⟨hp, g, d, tk, os⟩ := s
  obtain ⟨h1, h⟩ := h
  have hsub := sub_enumerate
  have hit : ∀ {A' : Around} {E : Value → Shared → Prop} {Q : Value → Shared → Prop}, Q (.ref hp.objs.size) ⟨hp.push o, g, d, tk, os⟩ → wpAny (model prog w) A' (pyIter v) Q E ⟨hp, g, d, tk, os⟩ :=
    fun q => B.iter prog w _ _ ⟨hp, g, d, tk, os⟩ _ h1 q
  wp_walk using hit
  refine wpAny_stack_any fun st => wpAny_pure ?_
  split
  · rename_i c _ _ _ _ _
    cases (c == Value.type "enumerate") <;> (wp_walk using hit) <;> exact ⟨_, rfl, h⟩
  · wp_walk using hit
    exact ⟨_, rfl, h⟩
section
variable {prog : Program} {w : World} {A : Around} {E : Value → Shared → Prop} {s : Shared}
theorem call_enum_tuple {t : Addr} {items : Array Value} {Q : Value → Shared → Prop} (ht : s.heap.IsTuple t items)
    (h : ∀ h', IsEnum h' (s.heap.objs.size + 1) s.heap.objs.size 0 .none → h'.IsTupleIter s.heap.objs.size t 0 →
      (∀ b o, s.heap.get? b = some o → h'.get? b = some o) → Q (.ref (s.heap.objs.size + 1)) { s with heap := h' }) :
    wpAny (model prog w) A (call (.type "enumerate") [.ref t]) Q E s := by
  refine callType_new F.called_enumerate (by decide) (F.typeCall_enumerate_1 _) (F.newCall_enumerate_1 _) (fun obj => F.args_object_init_2 obj _) F.entry_enumerate_new
    (meets_enum1 (begins_tuple t items)) ⟨ht, ?_⟩
  have z1 : (s.heap.push { cls := .type "tuple_iterator", data := .fields #[.ref t, .int 0 0] }).objs.size = s.heap.objs.size + 1 := Heap.size_push ..
  show _ ∧ _
  rw [z1]
  have he := Heap.get?_push_size (s.heap.push { cls := .type "tuple_iterator", data := .fields #[.ref t, .int 0 0] })
    (o := { cls := .type "enumerate", data := .fields #[.none, .bool false, .ref s.heap.objs.size, rawInt 0, .none, .none] }) rfl
  rw [z1] at he
  exact ⟨⟨_, he, rfl⟩, h _ he ⟨_, Heap.get?_push_of_some _ (Heap.get?_push_size _ rfl), rfl, rfl⟩ fun b o x => Heap.get?_push_of_some _ (Heap.get?_push_of_some _ x)⟩
end
def IteT (K : PySem.W.Frag) (a : Addr) : It :=
  ⟨fun i H => ∃ (xs : List V) (x : V), SqT K H a xs ∧ xs[i]? = some x, fun i H v H' => ∃ T x o, v = .ref T ∧ H T = none ∧ o.dict = none ∧ H' = upd H T (.frz o (.tup [.int (i : Nat), x])) ∧ ∀ xs, SqT K H a xs → xs[i]? = some x, fun i H => ∃ xs : List V, SqT K H a xs ∧ xs.length ≤ i⟩
theorem turn_enumT {P : Program} {w : World} {K : PySem.W.Frag} {elts : List Expr} {kk : Nat} {tpos : Pos} (a e it : Addr) :
    Turn P w K (.Tuple elts kk tpos) (IteT K a) [e, it] e (fun i h => (∃ old, IsEnum h e it ((i : Nat) : Int) old) ∧ h.IsTupleIter it a i ∧ e ≠ it ∧ a ≠ it ∧ a ≠ e) where
  mem := by simp
  obj := by
    rintro i h ⟨⟨old, he⟩, ⟨o, ho, hc, hd⟩, _⟩ b hb
    have e' : b = e ∨ b = it := by simpa using hb
    rcases e' with rfl | rfl
    · exact ⟨_, he, fun v q => nomatch q⟩
    · exact ⟨o, ho, fun v q => by rw [hd] at q; cases q⟩
  keep := by
    rintro i h h' ⟨⟨old, he⟩, hi, hne⟩ k
    exact ⟨⟨old, k e (by simp) _ he⟩, hi.at fun o q => k it (by simp) o q, hne⟩
  item := by
    intro X hP hw hK hc i pins s σ H E I hf st hg
    subst hP hw hK
    obtain ⟨⟨old, he⟩, hit, hne, n1, n2⟩ := st
    obtain ⟨xs, x, hq, hx⟩ := hg
    obtain ⟨its, rv, p, hz⟩ := I.tuple hq
    have p' : s.heap.IsTuple a its.toArray := p
    obtain ⟨u, hu, ru⟩ := rv.get hx
    have lel : e < s.heap.objs.size := Heap.lt_size he
    have lil : it < s.heap.objs.size := by obtain ⟨_, q, _⟩ := hit; exact Heap.lt_size q
    have hlt : i < its.toArray.size := by
      obtain ⟨h1, _⟩ := List.getElem?_eq_some_iff.mp hu
      simpa using h1
    have hef : e ∉ [it, a] := by
      intro z
      have : e = it ∨ e = a := by simpa using z
      rcases this with z | z
      · exact hne z
      · exact n2 z.symm
    refine wpAny_pyNext_enum_itemD (Draws.tuple (A := X.A.in1) (I.ok.hd hc) it a n1 its.toArray) he ⟨hit, p'⟩ hlt hne hef ?_
    intro y h' tk hy ho hst hT hsz hk
    have ey : y = u := by
      rw [List.getElem?_toArray, hu] at hy
      exact (Option.some.inj hy).symm
    subst ey
    refine ⟨_, rfl, wpAny_letOwnedTupleGo_enum (s := { s with heap := h', toks := tk + 1 }) ho fun h'' he' sb => ?_⟩
    have hT2 : h''.get? s.heap.objs.size = some { cls := .type "tuple", data := .seq #[.int i tk, y] } := (sb.2 _ (Nat.ne_of_gt lel)).trans hT
    have new : ObjOk X.prog X.w (upd H s.heap.objs.size (.frz { cls := .type "tuple", data := .seq #[.int i tk, y] } (.tup [.int (i : Nat), x]))) h'' s.heap.objs.size (.frz { cls := .type "tuple", data := .seq #[.int i tk, y] } (.tup [.int (i : Nat), x])) :=
      ⟨hT2, by show 2 ≤ sizeLine; decide, [.int i tk, y], .cons ⟨_, rfl⟩ (.cons ru .nil), ⟨_, hT2, rfl, _, rfl⟩⟩
    have I1 : Inv X pins σ (upd H s.heap.objs.size (.frz { cls := .type "tuple", data := .seq #[.int i tk, y] } (.tup [.int (i : Nat), x]))) { s with heap := h'', toks := tk + 1 } :=
      I.turnedNew (ch := [e, it]) (fun b ob hb q => (sb.2 b (fun z => hb (by simp [z]))).trans (hk b ob (fun z => hb (by simp [z])) (fun z => hb (by simp [z])) q)) hf (Nat.le_refl _) new
    refine ⟨.ref s.heap.objs.size, _, I1, rfl, ⟨_, x, _, rfl, I.hok.fresh (Nat.le_refl _), rfl, rfl, fun ys hy => by rw [I.tuple_inj hy hq]; exact hx⟩, ⟨⟨y, ?_⟩, hst.1.at fun o q => (sb.2 it (Ne.symm hne)).trans q, hne, n1, n2⟩, fun b hb => ?_⟩
    · have e1 : ((i + 1 : Nat) : Int) = (i : Int) + 1 := by omega
      rw [e1]; exact he'
    · have hb' : b < s.heap.objs.size := by
        have e' : b = e ∨ b = it := by simpa using hb
        rcases e' with z | z
        · rw [z]; exact lel
        · rw [z]; exact lil
      rw [upd_ne (Nat.ne_of_lt hb')]
      exact (hf b hb).1
  done := by
    intro X hP hw hK hc i pins s σ H E I hf st hg
    subst hP hw hK
    obtain ⟨⟨old, he⟩, hit, hne, n1, n2⟩ := st
    obtain ⟨xs, hq, hx⟩ := hg
    obtain ⟨its, rv, p, hz⟩ := I.tuple hq
    have p' : s.heap.IsTuple a its.toArray := p
    obtain ⟨f0, f1, f2, f3, f4, f5⟩ := hf it (by simp)
    have hl := rv.length
    have hT : s.TypeIs (.ref e) "enumerate" := ⟨_, he, rfl⟩
    unfold pyNext
    refine wpAny_bind (wpAny_attempt (wpAny_callSpecial?_slot (name := Str.ofString "__next__") hT F.slot_enumerate_next
      (wpAny_call_entry F.slot_enumerate_next hT F.entry_enumerate_next ?_ (F.args_enumerate_next_1 _))))
    show wpAny _ _ (field (.ref e) 2 >>= _) _ _ _
    refine wpAny_bind (wpAny_field he rfl (x := .ref it) rfl ?_)
    refine wpAny_bind (wpAny_nextOf_tuple_end (I.ok.hd hc) hit p' (by simp; omega) fun h' x he' hx' => ?_)
    obtain ⟨o, ho, hc'⟩ := hx'
    refine wpAny_bind (wpAny_isInstance (T := "StopIteration") (b := true) ⟨o, ho, hc'⟩ isSubtype_stop ?_)
    exact wpAny_pure ⟨rfl, I.turned (t' := s.toks) (fun b ob hb q => he' b ob hb q) f0 f1 f3 f4 f5⟩
  self := by
    rintro A i s Q E ⟨⟨_, he⟩, _⟩ h
    exact wpAny_pyIter_enum he h
def IteL (K : PySem.W.Frag) (a : Addr) : It :=
  ⟨fun i H => ∃ (xs : List V) (x : V), SqL K H a xs ∧ xs[i]? = some x, fun i H v H' => ∃ T x o, v = .ref T ∧ H T = none ∧ o.dict = none ∧ H' = upd H T (.frz o (.tup [.int (i : Nat), x])) ∧ ∀ xs, SqL K H a xs → xs[i]? = some x, fun i H => ∃ xs : List V, SqL K H a xs ∧ xs.length ≤ i⟩
theorem turn_enumLX {P : Program} {w : World} {K : PySem.W.Frag} {elts : List Expr} {kk : Nat} {tpos : Pos} (a e it : Addr) :
    Turn P w K (.Tuple elts kk tpos) (IteL K a) [e, it] e (fun i h => (∃ old, IsEnum h e it ((i : Nat) : Int) old) ∧ h.IsListIter it a i ∧ e ≠ it ∧ a ≠ it ∧ a ≠ e) where
  mem := by simp
  obj := by
    rintro i h ⟨⟨old, he⟩, ⟨o, ho, hc, hd⟩, _⟩ b hb
    have e' : b = e ∨ b = it := by simpa using hb
    rcases e' with rfl | rfl
    · exact ⟨_, he, fun v q => nomatch q⟩
    · exact ⟨o, ho, fun v q => by rw [hd] at q; cases q⟩
  keep := by
    rintro i h h' ⟨⟨old, he⟩, hi, hne⟩ k
    exact ⟨⟨old, k e (by simp) _ he⟩, hi.at fun o q => k it (by simp) o q, hne⟩
  item := by
    intro X hP hw hK hc i pins s σ H E I hf st hg
    subst hP hw hK
    obtain ⟨⟨old, he⟩, hit, hne, n1, n2⟩ := st
    obtain ⟨xs, x, hq, hx⟩ := hg
    obtain ⟨its, rv, p, hz⟩ := I.list hq
    have p' : s.heap.IsList a its.toArray := p.isList
    obtain ⟨u, hu, ru⟩ := rv.get hx
    have lel : e < s.heap.objs.size := Heap.lt_size he
    have lil : it < s.heap.objs.size := by obtain ⟨_, q, _⟩ := hit; exact Heap.lt_size q
    have hlt : i < its.toArray.size := by
      obtain ⟨h1, _⟩ := List.getElem?_eq_some_iff.mp hu
      simpa using h1
    have hef : e ∉ [it, a] := by
      intro z
      have : e = it ∨ e = a := by simpa using z
      rcases this with z | z
      · exact hne z
      · exact n2 z.symm
    refine wpAny_pyNext_enum_itemD (Draws.list (A := X.A.in1) (I.ok.hd hc) it a n1 its.toArray) he ⟨hit, p'⟩ hlt hne hef ?_
    intro y h' tk hy ho hst hT hsz hk
    have ey : y = u := by
      rw [List.getElem?_toArray, hu] at hy
      exact (Option.some.inj hy).symm
    subst ey
    refine ⟨_, rfl, wpAny_letOwnedTupleGo_enum (s := { s with heap := h', toks := tk + 1 }) ho fun h'' he' sb => ?_⟩
    have hT2 : h''.get? s.heap.objs.size = some { cls := .type "tuple", data := .seq #[.int i tk, y] } := (sb.2 _ (Nat.ne_of_gt lel)).trans hT
    have new : ObjOk X.prog X.w (upd H s.heap.objs.size (.frz { cls := .type "tuple", data := .seq #[.int i tk, y] } (.tup [.int (i : Nat), x]))) h'' s.heap.objs.size (.frz { cls := .type "tuple", data := .seq #[.int i tk, y] } (.tup [.int (i : Nat), x])) :=
      ⟨hT2, by show 2 ≤ sizeLine; decide, [.int i tk, y], .cons ⟨_, rfl⟩ (.cons ru .nil), ⟨_, hT2, rfl, _, rfl⟩⟩
    have I1 : Inv X pins σ (upd H s.heap.objs.size (.frz { cls := .type "tuple", data := .seq #[.int i tk, y] } (.tup [.int (i : Nat), x]))) { s with heap := h'', toks := tk + 1 } :=
      I.turnedNew (ch := [e, it]) (fun b ob hb q => (sb.2 b (fun z => hb (by simp [z]))).trans (hk b ob (fun z => hb (by simp [z])) (fun z => hb (by simp [z])) q)) hf (Nat.le_refl _) new
    refine ⟨.ref s.heap.objs.size, _, I1, rfl, ⟨_, x, _, rfl, I.hok.fresh (Nat.le_refl _), rfl, rfl, fun ys hy => by rw [I.list_inj hy hq]; exact hx⟩, ⟨⟨y, ?_⟩, hst.1.at fun o q => (sb.2 it (Ne.symm hne)).trans q, hne, n1, n2⟩, fun b hb => ?_⟩
    · have e1 : ((i + 1 : Nat) : Int) = (i : Int) + 1 := by omega
      rw [e1]; exact he'
    · have hb' : b < s.heap.objs.size := by
        have e' : b = e ∨ b = it := by simpa using hb
        rcases e' with z | z
        · rw [z]; exact lel
        · rw [z]; exact lil
      rw [upd_ne (Nat.ne_of_lt hb')]
      exact (hf b hb).1
  done := by
    intro X hP hw hK hc i pins s σ H E I hf st hg
    subst hP hw hK
    obtain ⟨⟨old, he⟩, hit, hne, n1, n2⟩ := st
    obtain ⟨xs, hq, hx⟩ := hg
    obtain ⟨its, rv, p, hz⟩ := I.list hq
    obtain ⟨f0, f1, f2, f3, f4, f5⟩ := hf it (by simp)
    exact wpAny_pyNext_enum_end (I.ok.hd hc) he hit p.isList (by have := rv.length; simp; omega) fun h' eb => ⟨rfl, I.turned (t' := s.toks) (fun b o hb q => eb b o hb q) f0 f1 f3 f4 f5⟩
  self := by
    rintro A i s Q E ⟨⟨_, he⟩, _⟩ h
    exact wpAny_pyIter_enum he h
end Gw
namespace Gw
open PySem PySem.Spec PyProof.Rows L2

section
variable {X : Cx} {K : PySem.W.Frag} {tg : Expr}
/-! ### a list or a tuple; enumerate of one -/
def iSeq (K : PySem.W.Frag) (tl : TE) : TI := fun σ H R => tl σ H fun x H1 => ∃ a, x = .ref a ∧ (((∃ xs, SqL K H1 a xs) ∧ R (Itl K a) H1) ∨ ((∃ xs, SqT K H1 a xs) ∧ R (Itt K a) H1))
theorem pi_seq {l : Expr} {tl : TE} (hl : PE X l tl) : PI X tg l (iSeq X.K tl) := by
  constructor
  intro pins s σ H R I h
  refine thn (hl.run pins s σ H _ I h) ?_
  rintro v s1 ⟨x, H1, I1, r1, a, rfl, q⟩
  cases r1
  have fp : ∀ b ∈ [s1.heap.objs.size], FpOk X pins H1 b := by
    intro b hb
    obtain rfl : b = s1.heap.objs.size := by simpa using hb
    exact I1.fpOk (Nat.le_refl _) (I1.hok.fresh (Nat.le_refl _))
  rcases q with ⟨⟨xs, hq⟩, q⟩ | ⟨⟨xs, hq⟩, q⟩
  · obtain ⟨its, rv, p, _⟩ := I1.list hq
    exact wpAny_pyIter_list p.isList ⟨_, [s1.heap.objs.size], _, _, H1, rfl, I1.kept (t' := s1.toks) fun b o e => Heap.get?_push_of_some _ e, turn_list a _, ⟨_, Heap.get?_push_size _ rfl, rfl, rfl⟩, fp, q⟩
  · obtain ⟨its, rv, p, _⟩ := I1.tuple hq
    exact wpAny_pyIter_tuple (show s1.heap.IsTuple a its.toArray from p) ⟨_, [s1.heap.objs.size], _, _, H1, rfl, I1.kept (t' := s1.toks) fun b o e => Heap.get?_push_of_some _ e, turn_tuple a _, ⟨_, Heap.get?_push_size _ rfl, rfl, rfl⟩, fp, q⟩
def iEnumA (K : PySem.W.Frag) (ta : TA) : TI := fun σ H R => ta σ H fun vs H1 => ∃ a xs, vs = [.ref a] ∧ ((SqL K H1 a xs ∧ R (IteL K a) H1) ∨ (SqT K H1 a xs ∧ R (IteT K a) H1))
theorem pi_enumA {e : Expr} {ta : TA} {p pos tpos : Pos} {elts : List Expr} {kk : Nat} (hg : Gl X "enumerate") (hm : X.mg "enumerate" = none) (ha : PA X [e] ta) (hs : starEach [e] X.env = [(false, eval e X.env)] := by rfl) :
    PI X (.Tuple elts kk tpos) (.Call (.Name "enumerate" p) [e] [] pos) (iEnumA X.K ta) := by
  constructor
  intro pins s σ H R I h
  refine Call_ (ld_blt I hg hm boot_enumerate (PyProof.Rows.callWith_type1 (thn (ha.run pos pins s σ H _ I h) ?_) hs rfl))
  rintro us s1 ⟨vs, H1, I1, r1, a, xs, rfl, q⟩
  rw [Vals.ref1 r1]
  have fp : ∀ b ∈ [s1.heap.objs.size + 1, s1.heap.objs.size], FpOk X pins H1 b := by
    intro b hb
    have hle : s1.heap.objs.size ≤ b := by
      have e' : b = s1.heap.objs.size + 1 ∨ b = s1.heap.objs.size := by simpa using hb
      rcases e' with z | z
      · rw [z]; exact Nat.le_add_right _ _
      · rw [z]; exact Nat.le_refl _
    exact I1.fpOk hle (I1.hok.fresh hle)
  rcases q with ⟨hq, q⟩ | ⟨hq, q⟩
  · obtain ⟨its, rv, p', _⟩ := I1.list hq
    have hlt : a < s1.heap.objs.size := by obtain ⟨_, e, _⟩ := p'.isList; exact Heap.lt_size e
    exact call_enumerate_list p'.isList fun h' he hit hsz hk => wpAny_pyIter_enum he ⟨_, _, _, _, H1, rfl, I1.kept (t' := s1.toks) hk, turn_enumLX a (s1.heap.objs.size + 1) s1.heap.objs.size, ⟨⟨.none, he⟩, hit, Nat.succ_ne_self _, Nat.ne_of_lt hlt, Nat.ne_of_lt (Nat.lt_succ_of_lt hlt)⟩, fp, q⟩
  · obtain ⟨its, rv, p', _⟩ := I1.tuple hq
    have hlt : a < s1.heap.objs.size := by obtain ⟨_, e, _⟩ := p'; exact Heap.lt_size e
    exact call_enum_tuple (show s1.heap.IsTuple a its.toArray from p') fun h' he hit hk => wpAny_pyIter_enum he ⟨_, _, _, _, H1, rfl, I1.kept (t' := s1.toks) hk, turn_enumT a (s1.heap.objs.size + 1) s1.heap.objs.size,
      ⟨⟨.none, he⟩, hit, Nat.succ_ne_self _, Nat.ne_of_lt hlt, Nat.ne_of_lt (Nat.lt_succ_of_lt hlt)⟩, fp, q⟩

/-! ### what is walked, as data -/
structure Wk (K : PySem.W.Frag) (J : It) (ds : List D) (vs : List Wt) : Prop where
  go : ∀ (S : Vol) (H : Hp) (i : Nat), (∀ q ∈ vs, WtOk K S H q) → i < ds.length → J.go i H
  yl : ∀ (S : Vol) (H : Hp) (i : Nat) (x : V) (H' : Hp) (d : D), (∀ p, H p = none → ¬ S p) → (∀ q ∈ vs, WtOk K S H q) → ds[i]? = some d → J.yld i H x H' → Ext H H' ∧ Rp K S H' x d
  st : ∀ (S : Vol) (H : Hp), (∀ q ∈ vs, WtOk K S H q) → J.stop ds.length H
abbrev DTI := Rho → (List D → Rho → Prop) → Prop
def SimI (K : PySem.W.Frag) (t : TI) (g : DTI) : Prop := ∀ (C : Ctx) (S : Vol) (σ : VStore) (H : Hp) (ρ : Rho) (Q : List D → Rho → Prop) (R : It → Hp → Prop), RS K C S σ H ρ → g ρ Q →
  (∀ J H' ds ρ' vs, Fr C S H H' → RS K C S σ H' ρ' → (∀ q ∈ vs, WtOk K S H' q) → Wk K J ds vs → Q ds ρ' → R J H') → t σ H R
structure DI (X : Cx) (tg e : Expr) (g : DTI) : Prop where
  ex : ∃ t, PI X tg e t ∧ SimI X.K t g
theorem wk_list {a : Addr} {ds : List D} : Wk K (Itl K a) ds [.inl (V.ref a, .list ds)] where
  go := fun S H i h hi => by
    have h : Rp K S H _ _ := h _ List.mem_cons_self
    cases h with
    | lst e r => exact ⟨_, _, e.sq, List.getElem?_eq_getElem (by rw [r.len]; exact hi)⟩
  yl := fun S H i x H' d _ h hd y => by
    have h : Rp K S H _ _ := h _ List.mem_cons_self
    obtain ⟨rfl, y⟩ := y
    cases h with
    | lst e r =>
      obtain ⟨x', h1, h2⟩ := r.get hd
      have := y _ e.sq
      rw [h1] at this
      cases this
      exact ⟨.refl _, h2⟩
  st := fun S H h => by
    have h : Rp K S H _ _ := h _ List.mem_cons_self
    cases h with
    | lst e r => exact ⟨_, e.sq, Nat.le_of_eq r.len⟩
theorem wk_tup {a : Addr} {ds : List D} : Wk K (Itt K a) ds [.inl (V.ref a, .tuple ds)] where
  go := fun S H i h hi => by
    have h : Rp K S H _ _ := h _ List.mem_cons_self
    cases h with
    | tup e r => exact ⟨_, _, e.sq, List.getElem?_eq_getElem (by rw [r.len]; exact hi)⟩
  yl := fun S H i x H' d _ h hd y => by
    have h : Rp K S H _ _ := h _ List.mem_cons_self
    obtain ⟨rfl, y⟩ := y
    cases h with
    | tup e r =>
      obtain ⟨x', h1, h2⟩ := r.get hd
      have := y _ (e.sq)
      rw [h1] at this
      cases this
      exact ⟨.refl _, h2⟩
  st := fun S H h => by
    have h : Rp K S H _ _ := h _ List.mem_cons_self
    cases h with
    | tup e r => exact ⟨_, e.sq, Nat.le_of_eq r.len⟩
/-- 0, 1, .. beside the items -/
def enumD (ds : List D) : List D := (List.range ds.length).zipWith (fun (i : Nat) d => .tuple [.int i, d]) ds
theorem enumD_len (ds : List D) : (enumD ds).length = ds.length := by simp [enumD]
theorem enumD_get {ds : List D} {i : Nat} {d : D} (h : (enumD ds)[i]? = some d) : ∃ e, ds[i]? = some e ∧ d = .tuple [.int i, e] := by
  unfold enumD at h
  rw [List.getElem?_zipWith] at h
  have hi : i < ds.length := by
    by_cases hi : i < ds.length
    · exact hi
    · rw [List.getElem?_eq_none (l := ds) (by omega)] at h
      cases e : (List.range ds.length)[i]? <;> simp [e] at h
  rw [List.getElem?_range hi, List.getElem?_eq_getElem hi] at h
  refine ⟨_, List.getElem?_eq_getElem hi, ?_⟩
  simpa using h.symm
theorem newPair {S : Vol} {H : Hp} {T : Addr} {i : Int} {x : V} {d : D} (n : ∀ p, H p = none → ¬ S p) (h : H T = none) {o : Obj} (ho : o.dict = none) (r : Rp K S H x d) : Rp K S (upd H T (.frz o (.tup [.int i, x]))) (.ref T) (.tuple [.int i, d]) :=
  .tup (.new ho (n T h)) (.cons (.int i) (.cons (r.ext (.new h)) .nil))
theorem wk_enumL {a : Addr} {ds : List D} : Wk K (IteL K a) (enumD ds) [.inl (V.ref a, .list ds)] where
  go := fun S H i h hi => by
    rw [enumD_len] at hi
    have h : Rp K S H _ _ := h _ List.mem_cons_self
    cases h with
    | lst e r => exact ⟨_, _, e.sq, List.getElem?_eq_getElem (by rw [r.len]; exact hi)⟩
  yl := fun S H i x H' d nf h hd y => by
    have h : Rp K S H _ _ := h _ List.mem_cons_self
    obtain ⟨T, z, o, rfl, hT, ho, rfl, y⟩ := y
    obtain ⟨d', hd', rfl⟩ := enumD_get hd
    cases h with
    | lst e r =>
      obtain ⟨x', h1, h2⟩ := r.get hd'
      have := y _ e.sq
      rw [h1] at this
      cases this
      exact ⟨.new hT, newPair nf hT ho h2⟩
  st := fun S H h => by
    have h : Rp K S H _ _ := h _ List.mem_cons_self
    cases h with
    | lst e r => exact ⟨_, e.sq, by rw [enumD_len]; exact Nat.le_of_eq r.len⟩
theorem wk_enumT {a : Addr} {ds : List D} : Wk K (IteT K a) (enumD ds) [.inl (V.ref a, .tuple ds)] where
  go := fun S H i h hi => by
    rw [enumD_len] at hi
    have h : Rp K S H _ _ := h _ List.mem_cons_self
    cases h with
    | tup e r => exact ⟨_, _, e.sq, List.getElem?_eq_getElem (by rw [r.len]; exact hi)⟩
  yl := fun S H i x H' d nf h hd y => by
    have h : Rp K S H _ _ := h _ List.mem_cons_self
    obtain ⟨T, z, o, rfl, hT, ho, rfl, y⟩ := y
    obtain ⟨d', hd', rfl⟩ := enumD_get hd
    cases h with
    | tup e r =>
      obtain ⟨x', h1, h2⟩ := r.get hd'
      have := y _ (e.sq)
      rw [h1] at this
      cases this
      exact ⟨.new hT, newPair nf hT ho h2⟩
  st := fun S H h => by
    have h : Rp K S H _ _ := h _ List.mem_cons_self
    cases h with
    | tup e r => exact ⟨_, e.sq, by rw [enumD_len]; exact Nat.le_of_eq r.len⟩
/-- lo, lo + 1, .. -/
def rngD (lo : Int) (n : Nat) : List D := (List.range n).map fun (i : Nat) => .int (lo + i)
theorem rngD_len (lo : Int) (n : Nat) : (rngD lo n).length = n := by simp [rngD]
theorem rngD_get {lo : Int} {n i : Nat} {d : D} (h : (rngD lo n)[i]? = some d) : i < n ∧ d = .int (lo + i) := by
  unfold rngD at h
  rw [List.getElem?_map] at h
  by_cases hi : i < n
  · rw [List.getElem?_range hi] at h
    exact ⟨hi, by simpa using h.symm⟩
  · rw [List.getElem?_eq_none (by simpa using hi)] at h; cases h
theorem wk_rng {lo : Int} {n : Nat} : Wk K (Itr lo n) (rngD lo n) [] where
  go := fun S H i _ hi => by rw [rngD_len] at hi; exact hi
  yl := fun S H i x H' d _ _ hd y => by
    obtain ⟨rfl, rfl⟩ := y
    obtain ⟨_, rfl⟩ := rngD_get hd
    exact ⟨.refl _, .int _⟩
  st := fun S H _ => by rw [rngD_len]; exact Nat.le_refl _
variable {e a b c : Expr} {ga gb gc : DTE} {p pos tpos : Pos} {elts : List Expr} {kk : Nat}
def giSeq (g : DTE) : DTI := fun ρ Q => g ρ fun d ρ' => match d with | .list ds => Q ds ρ' | .tuple ds => Q ds ρ' | _ => False
theorem diseq {e : Expr} (h : DE X e ga) : DI X tg e (giSeq ga) := by
  obtain ⟨t, p, s⟩ := h.ex
  refine ⟨_, pi_seq p, fun C S σ H ρ Q R RS q f => s C S σ H ρ _ _ RS q fun v H' d ρ' f1 R1 r1 h => ?_⟩
  cases d <;> first | exact h.elim | skip
  · have r2 := r1
    cases r1 with
    | lst e r => exact ⟨_, rfl, .inl ⟨⟨_, e.sq⟩, f _ H' _ ρ' [.inl (_, _)] f1 R1 (fun q hq => by rw [List.mem_singleton.mp hq]; exact r2) wk_list h⟩⟩
  · have r2 := r1
    cases r1 with
    | tup e r => exact ⟨_, rfl, .inr ⟨⟨_, e.sq⟩, f _ H' _ ρ' [.inl (_, _)] f1 R1 (fun q hq => by rw [List.mem_singleton.mp hq]; exact r2) wk_tup h⟩⟩
def giEnum (g : DTE) : DTI := fun ρ Q => g ρ fun d ρ' => match d with | .list ds => Q (enumD ds) ρ' | .tuple ds => Q (enumD ds) ρ' | _ => False
theorem dienum {e : Expr} (hg : Gl X "enumerate") (hm : X.mg "enumerate" = none) (h : DE X e ga) (he : starEach [e] X.env = (false, eval e X.env) :: starEach [] X.env := by rfl) (hs : starEach [e] X.env = [(false, eval e X.env)] := by rfl) : DI X (.Tuple elts kk tpos) (.Call (.Name "enumerate" p) [e] [] pos) (giEnum ga) := by
  obtain ⟨t, p, s⟩ := h.ex
  refine ⟨_, pi_enumA hg hm (pa_cons p pa_nil he) hs, fun C S σ H ρ Q R RS q f => s C S σ H ρ _ _ RS q fun v H' d ρ' f1 R1 r1 h => ?_⟩
  cases d <;> first | exact h.elim | skip
  · have r2 := r1
    cases r1 with
    | lst e r => exact ⟨_, _, rfl, .inl ⟨e.sq, f _ H' _ ρ' [.inl (_, _)] f1 R1 (fun q hq => by rw [List.mem_singleton.mp hq]; exact r2) wk_enumL h⟩⟩
  · have r2 := r1
    cases r1 with
    | tup e r => exact ⟨_, _, rfl, .inr ⟨e.sq, f _ H' _ ρ' [.inl (_, _)] f1 R1 (fun q hq => by rw [List.mem_singleton.mp hq]; exact r2) wk_enumT h⟩⟩
def giR1 (g : DTE) : DTI := fun ρ Q => g ρ fun d ρ' => ∃ j, d = .int j ∧ j ≤ 100000 ∧ -100000 ≤ j ∧ Q (rngD 0 j.toNat) ρ'
theorem dir1 (hg : Gl X "range") (hm : X.mg "range" = none) (h : DE X a ga) (he : starEach [a] X.env = (false, eval a X.env) :: starEach [] X.env := by rfl) (hs : starEach [a] X.env = [(false, eval a X.env)] := by rfl) : DI X tg (.Call (.Name "range" p) [a] [] pos) (giR1 ga) := by
  obtain ⟨t, p, s⟩ := h.ex
  refine ⟨_, pi_range1 hg hm (pa_cons p pa_nil he) hs, fun C S σ H ρ Q R RS q f => s C S σ H ρ _ _ RS q fun v H' d ρ' f1 R1 r1 h => ?_⟩
  obtain ⟨j, rfl, h1, h2, h⟩ := h
  cases r1
  exact ⟨j, rfl, by omega, by omega, f _ H' _ ρ' [] f1 R1 (fun q hq => by simp at hq) wk_rng h⟩
def giR2 (g g2 : DTE) : DTI := fun ρ Q => g ρ fun d ρ1 => g2 ρ1 fun d2 ρ' => ∃ i j, d = .int i ∧ d2 = .int j ∧ (j ≤ 100000 ∧ -100000 ≤ j ∧ i ≤ 100000 ∧ -100000 ≤ i) ∧ Q (rngD i (j - i).toNat) ρ'
theorem dir2 (hg : Gl X "range") (hm : X.mg "range" = none) (h : DE X a ga) (h2 : DE X b gb) (he : starEach [a, b] X.env = (false, eval a X.env) :: starEach [b] X.env := by rfl) (he2 : starEach [b] X.env = (false, eval b X.env) :: starEach [] X.env := by rfl)
    (hs : starEach [a, b] X.env = [(false, eval a X.env), (false, eval b X.env)] := by rfl) (hs2 : starEach [b] X.env = [(false, eval b X.env)] := by rfl) : DI X tg (.Call (.Name "range" p) [a, b] [] pos) (giR2 ga gb) := by
  obtain ⟨t, p, s⟩ := h.ex
  obtain ⟨t2, p2, s2⟩ := h2.ex
  refine ⟨_, pi_range2 hg hm (pa_cons p (pa_cons p2 pa_nil he2) he) hs hs2, fun C S σ H ρ Q R RS q f => s C S σ H ρ _ _ RS q fun v H1 d ρ1 f1 R1 r1 h => s2 C S σ H1 ρ1 _ _ R1 h fun v2 H2 d2 ρ2 f2 R2 r2 h => ?_⟩
  obtain ⟨i, j, rfl, rfl, hb, h⟩ := h
  cases r1
  cases r2
  exact ⟨i, j, rfl, ⟨by omega, by omega, by omega, by omega⟩, f _ H2 _ ρ2 [] (f1.trans f2) R2 (fun q hq => by simp at hq) wk_rng h⟩
/-! ### list(range ..), tuple(range ..) -/
def SimRg (K : PySem.W.Frag) (t : L2.St → Hp → (Int → Int → Hp → Prop) → Prop) (g : Rho → (Int → Int → Rho → Prop) → Prop) : Prop := ∀ (C : Ctx) (S : Vol) (σ : VStore) (H : Hp) (ρ : Rho) (Q : Int → Int → Rho → Prop) (k : Int → Int → Hp → Prop), RS K C S σ H ρ → g ρ Q →
  (∀ i j H' ρ', Fr C S H H' → RS K C S σ H' ρ' → Q i j ρ' → k i j H') → t σ H k
structure DRg (X : Cx) (e : Expr) (g : Rho → (Int → Int → Rho → Prop) → Prop) : Prop where
  ex : ∃ t, PRg X e t ∧ SimRg X.K t g
def gRg1 (g : DTE) : Rho → (Int → Int → Rho → Prop) → Prop := fun ρ Q => g ρ fun d ρ' => ∃ j, d = .int j ∧ Q 0 j ρ'
def gRg2 (g g2 : DTE) : Rho → (Int → Int → Rho → Prop) → Prop := fun ρ Q => g ρ fun d ρ1 => g2 ρ1 fun d2 ρ' => ∃ i j, d = .int i ∧ d2 = .int j ∧ Q i j ρ'
theorem drg1 (hg : Gl X "range") (hm : X.mg "range" = none) (h : DE X a ga) (na : starEach [a] X.env = (false, eval a X.env) :: starEach [] X.env := by rfl) : DRg X (.Call (.Name "range" p) [a] [] pos) (gRg1 ga) := by
  obtain ⟨t, p, s⟩ := h.ex
  refine ⟨_, prg_1 hg hm p na, fun C S σ H ρ Q k R q f => s C S σ H ρ _ _ R q fun v H' d ρ' f1 R1 r1 h => ?_⟩
  obtain ⟨j, rfl, h⟩ := h
  cases r1
  exact ⟨j, rfl, f 0 j H' ρ' f1 R1 h⟩
def rngB (i j : Int) : Prop := i ≤ 100000 ∧ -100000 ≤ i ∧ j ≤ 100000 ∧ -100000 ≤ j
theorem RpA.rg {S : Vol} {H : Hp} (i j : Int) : RpA K S H (rgV i j) (rngD i (j - i).toNat) := by
  refine .of_get (by rw [rgV_length, rngD_len]) fun m x d h1 h2 => ?_
  obtain ⟨hm, rfl⟩ := rngD_get h2
  unfold rgV at h1
  rw [List.getElem?_map, List.getElem?_range hm] at h1
  cases h1
  exact .int _
def gLRg (g : Rho → (Int → Int → Rho → Prop) → Prop) : DTE := fun ρ Q => g ρ fun i j ρ' => rngB i j ∧ Q (.list (rngD i (j - i).toNat)) ρ'
def gTRg (g : Rho → (Int → Int → Rho → Prop) → Prop) : DTE := fun ρ Q => g ρ fun i j ρ' => rngB i j ∧ Q (.tuple (rngD i (j - i).toNat)) ρ'
theorem rgOk {i j : Int} (h : rngB i j) : RgOk i j := by
  obtain ⟨h1, h2, h3, h4⟩ := h
  exact ⟨by omega, by omega, by omega, by omega, by omega⟩
theorem dlstRg {gr : Rho → (Int → Int → Rho → Prop) → Prop} {e : Expr} (hc : X.calm = true) (hg : Gl X "list") (hm : X.mg "list" = none) (h : DRg X e gr) (na : starEach [e] X.env = (false, eval e X.env) :: starEach [] X.env := by rfl) : DF X (.Call (.Name "list" p) [e] [] pos) (gLRg gr) := by
  obtain ⟨t, p, s⟩ := h.ex
  exact ⟨_, pe_listRg hc hg hm p na, fun C S σ H ρ Q k R q f => s C S σ H ρ _ _ R q fun i j H' ρ' f1 R1 h => ⟨rgOk h.1, fun z hz => f z _ _ ρ' (f1.trans (.of (.new hz))) (newOb R1 hz).1 (newOb R1 hz).2 (freshAt f1 R1 hz) (.lst upd_same (RpA.newp (.rg i j) hz)) h.2⟩⟩
theorem dtupRg {gr : Rho → (Int → Int → Rho → Prop) → Prop} {e : Expr} (hc : X.calm = true) (hg : Gl X "tuple") (hm : X.mg "tuple" = none) (h : DRg X e gr) (na : starEach [e] X.env = (false, eval e X.env) :: starEach [] X.env := by rfl) : DE X (.Call (.Name "tuple" p) [e] [] pos) (gTRg gr) := by
  obtain ⟨t, p, s⟩ := h.ex
  exact ⟨_, pe_TRg hc hg hm p na, fun C S σ H ρ Q k R q f => s C S σ H ρ _ _ R q fun i j H' ρ' f1 R1 h => ⟨rgOk h.1, fun z o hz ho => f _ _ _ ρ' (f1.trans (.of (.new hz))) (R1.ext (.new hz)) (.tup (.new ho (R1.notS hz)) (.rg i j)) h.2⟩⟩
end
end Gw
namespace Gw
open PySem PySem.Spec PyProof.Rows L2

/-! ## one reading for all contexts -/
def tE (K : PySem.W.Frag) (g : DTE) : TE := fun σ H k => ∃ (C : Ctx) (S : Vol) (ρ : Rho) (Q : D → Rho → Prop), RS K C S σ H ρ ∧ g ρ Q ∧ ∀ v H' d ρ', Fr C S H H' → RS K C S σ H' ρ' → Rp K S H' v d → Q d ρ' → k v H'
def tT (K : PySem.W.Frag) (g : DTT) : TT := fun σ H k => ∃ (C : Ctx) (S : Vol) (ρ : Rho) (Q : Bool → Rho → Prop), RS K C S σ H ρ ∧ g ρ Q ∧ ∀ b H' ρ', Fr C S H H' → RS K C S σ H' ρ' → Q b ρ' → k b H'
section
variable {X : Cx} {K : PySem.W.Frag} {e a b c : Expr} {es : List Expr} {g ga gb : DTE} {pos p : Pos}
theorem PE.weak {t t' : TE} (h : PE X a t) (w : ∀ σ H Q, t' σ H Q → t σ H Q) : PE X a t' := ⟨fun pins s σ H Q I q => h.run pins s σ H Q I (w σ H Q q)⟩
theorem PT.weak {t t' : TT} (h : PT X a t) (w : ∀ σ H Q, t' σ H Q → t σ H Q) : PT X a t' := ⟨fun pins s σ H Q I q => h.run pins s σ H Q I (w σ H Q q)⟩
theorem DE.can (h : DE X a g) : PE X a (tE X.K g) := by
  obtain ⟨t, p, s⟩ := h.ex
  refine PE.weak p fun σ H Q q => ?_
  obtain ⟨C, S, ρ, Q', R, q, f⟩ := q
  exact s C S σ H ρ Q' Q R q f
theorem DT.can {g : DTT} (h : DT X a g) : PT X a (tT X.K g) := by
  obtain ⟨t, p, s⟩ := h.ex
  refine PT.weak p fun σ H Q q => ?_
  obtain ⟨C, S, ρ, Q', R, q, f⟩ := q
  exact s C S σ H ρ Q' Q R q f

/-! ## slots forgotten, and taken again -/
def wipeR (ρ : Rho) : List Nat → Rho
  | [] => ρ
  | v :: vs => (wipeR ρ vs).set v none
def mergeR (ρ1 ρ2 : Rho) : List Nat → Rho
  | [] => ρ2
  | v :: vs => (mergeR ρ1 ρ2 vs).set v (lk ρ1 v)
def noOwn (ρ : Rho) (vs : List Nat) : Bool := vs.all fun i => match lk ρ i with | some (.own _) => false | _ => true
theorem wipeR_len (ρ : Rho) : ∀ vs : List Nat, (wipeR ρ vs).length = ρ.length
  | [] => rfl
  | v :: vs => by unfold wipeR; rw [List.length_set, wipeR_len ρ vs]
theorem mergeR_len (ρ1 ρ2 : Rho) : ∀ vs : List Nat, (mergeR ρ1 ρ2 vs).length = ρ2.length
  | [] => rfl
  | v :: vs => by unfold mergeR; rw [List.length_set, mergeR_len ρ1 ρ2 vs]
theorem wipe_get (σ : VStore) (i : Nat) : ∀ vs : List Nat, (wipe σ vs)[i]? = if i ∈ vs then (if i < σ.length then some none else none) else σ[i]?
  | [] => by simp [wipe]
  | v :: vs => by
    unfold wipe
    by_cases hv : v = i
    · subst hv
      rw [List.getElem?_set]
      simp [wipe_length]
    · rw [List.getElem?_set_ne hv, wipe_get σ i vs]
      have : i ∈ v :: vs ↔ i ∈ vs := by simp [Ne.symm hv]
      simp only [this]
theorem wipeR_get (ρ : Rho) (i : Nat) : ∀ vs : List Nat, (wipeR ρ vs)[i]? = if i ∈ vs then (if i < ρ.length then some none else none) else ρ[i]?
  | [] => by simp [wipeR]
  | v :: vs => by
    unfold wipeR
    by_cases hv : v = i
    · subst hv
      rw [List.getElem?_set]
      simp [wipeR_len]
    · rw [List.getElem?_set_ne hv, wipeR_get ρ i vs]
      have : i ∈ v :: vs ↔ i ∈ vs := by simp [Ne.symm hv]
      simp only [this]
theorem mergeR_get (ρ1 ρ2 : Rho) (i : Nat) : ∀ vs : List Nat, (mergeR ρ1 ρ2 vs)[i]? = if i ∈ vs then (if i < ρ2.length then some (lk ρ1 i) else none) else ρ2[i]?
  | [] => by simp [mergeR]
  | v :: vs => by
    unfold mergeR
    by_cases hv : v = i
    · subst hv
      rw [List.getElem?_set]
      simp [mergeR_len]
    · rw [List.getElem?_set_ne hv, mergeR_get ρ1 ρ2 i vs]
      have : i ∈ v :: vs ↔ i ∈ vs := by simp [Ne.symm hv]
      simp only [this]
theorem lk_join : ∀ (ρ : Rho) (i : Nat), i < ρ.length → ρ[i]? = some (lk ρ i)
  | [], i, h => by simp at h
  | c :: r, 0, _ => by simp [lk]
  | c :: r, i + 1, h => by
    have := lk_join r i (by simpa using h)
    simpa [lk] using this
theorem merge_wipe (ρ : Rho) (vs : List Nat) : mergeR ρ (wipeR ρ vs) vs = ρ := by
  refine List.ext_getElem? fun i => ?_
  rw [mergeR_get, wipeR_len, wipeR_get]
  by_cases hi : i ∈ vs
  · rw [if_pos hi]
    by_cases hl : i < ρ.length
    · rw [if_pos hl, lk_join ρ i hl]
    · rw [if_neg hl, List.getElem?_eq_none (by omega)]
  · rw [if_neg hi, if_neg hi]
theorem wipe_set {σ : VStore} {i : Nat} {x : Option V} {vs : List Nat} (h : i ∈ vs) : wipe (σ.set i x) vs = wipe σ vs := by
  refine List.ext_getElem? fun j => ?_
  rw [wipe_get, wipe_get, List.length_set]
  by_cases hj : j ∈ vs
  · rw [if_pos hj, if_pos hj]
  · rw [if_neg hj, if_neg hj, List.getElem?_set_ne (show i ≠ j from fun e => hj (by rw [← e]; exact h))]
theorem wipeR_set {σ : Rho} {i : Nat} {x : Option Cl} {vs : List Nat} (h : i ∈ vs) : wipeR (σ.set i x) vs = wipeR σ vs := by
  refine List.ext_getElem? fun j => ?_
  rw [wipeR_get, wipeR_get, List.length_set]
  by_cases hj : j ∈ vs
  · rw [if_pos hj, if_pos hj]
  · rw [if_neg hj, if_neg hj, List.getElem?_set_ne (show i ≠ j from fun e => hj (by rw [← e]; exact h))]
theorem RS.wipe {C : Ctx} {S : Vol} {σ : VStore} {H : Hp} {ρ : Rho} (R : RS K C S σ H ρ) (vs : List Nat) : RS K C S (L2.wipe σ vs) H (wipeR ρ vs) :=
  R.weak (by rw [wipe_length, wipeR_len, R.len]) fun i c h => by
    rw [wipeR_get] at h
    by_cases hi : i ∈ vs
    · rw [if_pos hi] at h
      split at h <;> cases h
    · rw [if_neg hi] at h
      exact ⟨h, by rw [wipe_get, if_neg hi]⟩
/-- behind a comprehension's block -/
theorem RS.merge {C : Ctx} {S : Vol} {σ : VStore} {H H1 : Hp} {ρ1 ρ2 : Rho} {vs : List Nat} (R1 : RS K C S σ H1 ρ1) (f : ∀ a o, H1 a = some o → ¬ S a → H a = some o) (no : noOwn ρ1 vs = true) (R : RS K C S (L2.wipe σ vs) H ρ2) : RS K C S σ H (mergeR ρ1 ρ2 vs) where
  len := by rw [mergeR_len, ← R.len, wipe_length]
  fr := R.fr
  al := R.al
  pa := R.pa
  a0 := R.a0
  ent := fun i c h => by
    rw [mergeR_get] at h
    by_cases hi : i ∈ vs
    · rw [if_pos hi] at h
      split at h
      · have h' := lk_get (Option.some.inj h)
        obtain ⟨v, e, x⟩ := R1.ent i c h'
        refine ⟨v, e, ?_⟩
        cases c with
        | dat d => exact Rp.mv f (fun _ s => .inl s) x
        | own d =>
          have := List.all_eq_true.mp no i hi
          rw [Option.some.inj h] at this
          cases this
        | srcR => exact x
      · cases h
    · rw [if_neg hi] at h
      obtain ⟨v, e, x⟩ := R.ent i c h
      rw [wipe_get, if_neg hi] at e
      exact ⟨v, e, x⟩
  dst := fun i j o o' p hij h1 h2 e1 e2 => by
    have key : ∀ (k : Nat) u, (mergeR ρ1 ρ2 vs)[k]? = some (some (.own u)) → k ∉ vs ∧ ρ2[k]? = some (some (.own u)) := fun k u h => by
      rw [mergeR_get] at h
      by_cases hk : k ∈ vs
      · rw [if_pos hk] at h
        split at h
        · have := List.all_eq_true.mp no k hk
          rw [Option.some.inj h] at this
          cases this
        · cases h
      · rw [if_neg hk] at h
        exact ⟨hk, h⟩
    obtain ⟨n1, k1⟩ := key i _ h1
    obtain ⟨n2, k2⟩ := key j _ h2
    exact R.dst i j o o' p hij k1 k2 (by rw [wipe_get, if_neg n1]; exact e1) (by rw [wipe_get, if_neg n2]; exact e2)
  vok := R.vok
  src := R.src

/-! ## targets -/
abbrev DTG := D → Rho → (Rho → Prop) → Prop
def SimG (K : PySem.W.Frag) (g : TG) (gd : DTG) (is : List Nat) (w : Bool) : Prop := ∀ (C : Ctx) (S : Vol) (σ : VStore) (H : Hp) (ρ : Rho) (v : V) (d : D) (Q : Rho → Prop) (k : L2.St → Hp → Prop), RS K C S σ H ρ → Rp K S H v d → gd d ρ Q →
  (∀ σ' H' ρ', Fr C S H H' → RS K C S σ' H' ρ' → (w = true → ∀ vs : List Nat, (∀ i ∈ is, i ∈ vs) → L2.wipe σ' vs = L2.wipe σ vs ∧ wipeR ρ' vs = wipeR ρ vs) → Q ρ' → k σ' H') → g v σ H k
structure DG (X : Cx) (tg : Expr) (gd : DTG) (is : List Nat) (w : Bool) : Prop where
  ex : ∃ g, PG X tg g ∧ SimG X.K g gd is w
def tG (K : PySem.W.Frag) (gd : DTG) (is : List Nat) (w : Bool) : TG := fun v σ H k => ∃ (C : Ctx) (S : Vol) (ρ : Rho) (d : D) (Q : Rho → Prop), RS K C S σ H ρ ∧ Rp K S H v d ∧ gd d ρ Q ∧
  ∀ σ' H' ρ', Fr C S H H' → RS K C S σ' H' ρ' → (w = true → ∀ vs : List Nat, (∀ i ∈ is, i ∈ vs) → L2.wipe σ' vs = L2.wipe σ vs ∧ wipeR ρ' vs = wipeR ρ vs) → Q ρ' → k σ' H'
theorem DG.can {tg : Expr} {gd : DTG} {is : List Nat} {w : Bool} (h : DG X tg gd is w) : PG X tg (tG X.K gd is w) := by
  obtain ⟨t, p, s⟩ := h.ex
  refine ⟨fun pins st σ H v u Q I r q => p.run pins st σ H v u Q I r ?_⟩
  obtain ⟨C, S, ρ, d, Q', R, rv, q, f⟩ := q
  exact s C S σ H ρ v d Q' Q R rv q f
def gdName (i : Nat) : DTG := fun d ρ Q => Q (ρ.set i (some (.dat d)))
theorem dgname (i : Nat) {x : Str} (hN : X.N.Nodup) (hi : X.N[i]? = some x := by rfl) (hx : Loc X.env.scope x := by first | exact Or.inl rfl | exact Or.inr rfl) (hf : X.fn x = true ∨ X.env.scope.names.lookup x = some .local := by first | exact .inl rfl | exact .inr rfl | assumption) : DG X (.Name x pos) (gdName i) [i] true :=
  ⟨_, pg_name hN hi hx hf, fun C S σ H ρ v d Q k R r q f => f _ H _ .refl (R.setD r) (fun _ vs h => ⟨wipe_set (h i (by simp)), wipeR_set (h i (by simp))⟩) q⟩
abbrev DTGs := List D → Rho → (Rho → Prop) → Prop
def SimGs (K : PySem.W.Frag) (g : TGs) (gd : DTGs) (is : List Nat) (w : Bool) : Prop := ∀ (C : Ctx) (S : Vol) (σ : VStore) (H : Hp) (ρ : Rho) (vs : List V) (ds : List D) (Q : Rho → Prop) (k : L2.St → Hp → Prop), RS K C S σ H ρ → RpA K S H vs ds → gd ds ρ Q →
  (∀ σ' H' ρ', Fr C S H H' → RS K C S σ' H' ρ' → (w = true → ∀ vs : List Nat, (∀ i ∈ is, i ∈ vs) → L2.wipe σ' vs = L2.wipe σ vs ∧ wipeR ρ' vs = wipeR ρ vs) → Q ρ' → k σ' H') → g vs σ H k
structure DGs (X : Cx) (ts : List Expr) (gd : DTGs) (is : List Nat) (w : Bool) : Prop where
  ex : ∃ g, PGs X ts g ∧ SimGs X.K g gd is w
def gdNil : DTGs := fun ds ρ Q => ds = [] ∧ Q ρ
def gdCons (g : DTG) (l : DTGs) : DTGs := fun ds ρ Q => match ds with | d :: r => g d ρ fun ρ' => l r ρ' Q | [] => False
theorem dgnil : DGs X [] gdNil [] true := ⟨_, pgs_nil, fun C S σ H ρ vs ds Q k R r q f => by
  obtain ⟨rfl, q⟩ := q
  cases r
  exact ⟨rfl, f σ H ρ .refl R (fun _ vs _ => ⟨rfl, rfl⟩) q⟩⟩
theorem dgcons {t : Expr} {ts : List Expr} {g : DTG} {l : DTGs} {is js : List Nat} {w1 w2 : Bool} (h1 : DG X t g is w1) (h2 : DGs X ts l js w2) (hs : (assignEach (t :: ts) X.env).map (·.2) = assign t X.env :: (assignEach ts X.env).map (·.2) := by rfl) : DGs X (t :: ts) (gdCons g l) (is ++ js) (w1 && w2) := by
  obtain ⟨_, p1, s1⟩ := h1.ex
  obtain ⟨_, p2, s2⟩ := h2.ex
  refine ⟨_, pgs_cons p1 p2 hs, fun C S σ H ρ vs ds Q k R r q f => ?_⟩
  cases r with
  | nil => exact q.elim
  | cons r rr =>
    refine ⟨_, _, rfl, s1 C S σ H ρ _ _ _ _ R r q fun σ1 H1 ρ1 f1 R1 w1' q1 => s2 C S σ1 H1 ρ1 _ _ _ _ R1 (f1.rpa rr) q1 fun σ2 H2 ρ2 f2 R2 w2' q2 => f σ2 H2 ρ2 (f1.trans f2) R2 (fun hw vs h => ?_) q2⟩
    rw [Bool.and_eq_true] at hw
    obtain ⟨a1, a2⟩ := w1' hw.1 vs fun i hi => h i (List.mem_append_left _ hi)
    obtain ⟨b1, b2⟩ := w2' hw.2 vs fun i hi => h i (List.mem_append_right _ hi)
    exact ⟨b1.trans a1, b2.trans a2⟩
def gdTup (l : DTGs) (n : Nat) : DTG := fun d ρ Q => match d with | .tuple ds => ds.length = n ∧ l ds ρ Q | _ => False
theorem dgtup {ts : List Expr} {kk : Nat} {l : DTGs} {is : List Nat} {n : Nat} {w : Bool} (hc : X.calm = true) (h : DGs X ts l is w) (hn : (assignEach ts X.env).length = n := by rfl) (hst : (assignEach ts X.env).findIdx? (·.1) = none := by rfl) : DG X (.Tuple ts kk pos) (gdTup l n) is w := by
  obtain ⟨_, p, s⟩ := h.ex
  refine ⟨_, pg_tup hc p hn hst, fun C S σ H ρ v d Q k R r q f => ?_⟩
  cases d <;> first | exact q.elim | skip
  cases r with
  | tup e r => exact ⟨_, _, rfl, e.sq, by rw [r.len]; exact q.1, s C S σ H ρ _ _ _ _ R r q.2 f⟩

theorem unF {A B : Prop} (h : if false = true then A else B) : B := by
  rw [if_neg Bool.false_ne_true] at h; exact h
theorem unT {A B : Prop} (h : if true = true then A else B) : A := by
  rw [if_pos rfl] at h; exact h
/-! ## comprehensions -/
def gYes : DTT := fun ρ Q => Q true ρ
def gLc (gi : DTI) (gd : DTG) (gt : DTT) (ge : DTE) (vs : List Nat) : DTE := fun ρ Q => gi ρ fun ds ρ1 => noOwn ρ1 vs = true ∧ ds.length ≤ 100000 ∧ ∃ Iv : Nat → List D → Rho → Prop, Iv 0 [] (wipeR ρ1 vs) ∧
  (∀ i d acc ρ2, ds[i]? = some d → acc.length ≤ i → Iv i acc ρ2 → gd d ρ2 fun ρ3 => gt ρ3 fun b ρ4 => if b = true then ge ρ4 fun y ρ5 => Iv (i + 1) (acc ++ [y]) (wipeR ρ5 vs) else Iv (i + 1) acc (wipeR ρ4 vs)) ∧
  ∀ acc ρ2, Iv ds.length acc ρ2 → Q (.list acc) (mergeR ρ1 ρ2 vs)
/-- nothing but the comprehension's own names is stored -/
theorem gLc_pure {gi : DTI} {gd : DTG} {gt : DTT} {ge : DTE} {vs : List Nat} {ρ : Rho} {Q : D → Rho → Prop} (f : D → Option D)
    (h : gi ρ fun ds ρ1 => noOwn ρ1 vs = true ∧ ds.length ≤ 100000 ∧ (∀ d ∈ ds, gd d (wipeR ρ1 vs) fun ρ3 => gt ρ3 fun b ρ4 => if b = true then ge ρ4 fun y ρ5 => f d = some y ∧ wipeR ρ5 vs = wipeR ρ1 vs else f d = none ∧ wipeR ρ4 vs = wipeR ρ1 vs) ∧ Q (.list (ds.filterMap f)) ρ1)
    (mi : ∀ ρ (P P' : List D → Rho → Prop), gi ρ P → (∀ ds ρ, P ds ρ → P' ds ρ) → gi ρ P') (md : ∀ d ρ (P P' : Rho → Prop), gd d ρ P → (∀ ρ, P ρ → P' ρ) → gd d ρ P') (mt : ∀ ρ (P P' : Bool → Rho → Prop), gt ρ P → (∀ b ρ, P b ρ → P' b ρ) → gt ρ P')
    (me : ∀ ρ (P P' : D → Rho → Prop), ge ρ P → (∀ d ρ, P d ρ → P' d ρ) → ge ρ P') : gLc gi gd gt ge vs ρ Q := by
  refine mi _ _ _ h fun ds ρ1 ⟨h1, h2, h3, h4⟩ => ⟨h1, h2, fun i acc ρ2 => acc = (ds.take i).filterMap f ∧ ρ2 = wipeR ρ1 vs, ⟨rfl, rfl⟩, fun i d acc ρ2 hd _ hI => ?_, fun acc ρ2 hI => ?_⟩
  · obtain ⟨rfl, rfl⟩ := hI
    have hm : d ∈ ds := List.mem_of_getElem? hd
    have et : ds.take (i + 1) = ds.take i ++ [d] := by rw [List.take_add_one, hd]; rfl
    refine md _ _ _ _ (h3 d hm) fun ρ3 q => mt _ _ _ q fun b ρ4 q => ?_
    cases b with
    | true =>
      rw [if_pos rfl] at q ⊢
      exact me _ _ _ q fun y ρ5 q => ⟨by rw [et, List.filterMap_append]; simp [q.1], q.2⟩
    | false =>
      rw [if_neg Bool.false_ne_true] at q ⊢
      exact ⟨by rw [et, List.filterMap_append]; simp [q.1], q.2⟩
  · obtain ⟨rfl, rfl⟩ := hI
    rw [List.take_length, merge_wipe]
    exact h4
theorem simLc {wi : TI} {gi : DTI} {gd : DTG} {is : List Nat} {gt : DTT} {ge : DTE} {vs : List Nat} (si : SimI K wi gi) (hsub : ∀ i ∈ is, i ∈ vs) : SimF K (tLc wi (tG K gd is true) (tT K gt) (tE K ge) vs) (gLc gi gd gt ge vs) := by
  intro C S σ H ρ Q k R q f
  refine si C S σ H ρ _ _ R q fun J H1 ds ρ1 vs' f1 R1 hv W ⟨no, hlen, Iv, h0, hstep, hend⟩ => ?_
  intro D hD
  have nS : ¬ S D := R1.notS hD
  obtain ⟨z0, zM⟩ := R1.free0 hD
  -- the context in the block
  have Rb : RS K ((C.pin vs').prot D) (fun a => S a ∨ a = D) (L2.wipe σ vs) (upd H1 D (.lst [])) (wipeR ρ1 vs) :=
    ((((R1.pin hv).new hD).prot (R1.apart nS) zM ⟨_, upd_same⟩).wipe vs)
  have small : ∀ {n : Nat}, n < ds.length → n < sizeLine := fun h => Nat.lt_of_lt_of_le (Nat.lt_of_lt_of_le h hlen) (by decide)
  have toC : ∀ {Ha Hb : Hp}, Fr C S H1 Ha → Fr ((C.pin vs').prot D) (fun a => S a ∨ a = D) Ha Hb → Fr C S H1 Hb := fun {Ha Hb} x y a o h n => y a o (x a o h n) (n.elim (fun n => .inl fun z => z.elim n fun z => by rw [z, hD] at h; cases h) fun n => .inr (.inl n))
  have frD : ∀ {Ha Hb : Hp} {o : HO}, Fr ((C.pin vs').prot D) (fun a => S a ∨ a = D) Ha Hb → Ha D = some o → Hb D = some o := fun y h => y D _ h (.inr (.inr rfl))
  refine ⟨fun i m H2 => m = ds.length - i ∧ i ≤ ds.length ∧ ∃ acc dacc ρ2, H2 D = some (.lst acc) ∧ RpA K (fun a => S a ∨ a = D) H2 acc dacc ∧ dacc.length ≤ i ∧ RS K ((C.pin vs').prot D) (fun a => S a ∨ a = D) (L2.wipe σ vs) H2 ρ2 ∧ Fr C S H1 H2 ∧ Iv i dacc ρ2,
    ⟨ds.length, by omega, Nat.zero_le _, [], [], _, upd_same, .nil, Nat.le_refl _, Rb, .of (.new hD), h0⟩, ?_⟩
  rintro i m H2 ⟨rfl, hi, acc, dacc, ρ2, eD, ra, la, R2, fr, hI⟩
  have hv2 : ∀ q ∈ vs', WtOk K (fun a => S a ∨ a = D) H2 q := fun q hq => R2.vok q (List.mem_append_left _ hq)
  by_cases hlt : i < ds.length
  · refine .inr ⟨W.go _ H2 i hv2 hlt, fun H' => i + 1 ≤ ds.length ∧ ∃ acc dacc ρ2, H' D = some (.lst acc) ∧ RpA K (fun a => S a ∨ a = D) H' acc dacc ∧ dacc.length ≤ i + 1 ∧ RS K ((C.pin vs').prot D) (fun a => S a ∨ a = D) (L2.wipe σ vs) H' ρ2 ∧ Fr C S H1 H' ∧ Iv (i + 1) dacc ρ2,
      fun H' n => ⟨ds.length - (i + 1), by omega, rfl, n⟩, fun x H3 hy => ?_⟩
    have hd : ds[i]? = some ds[i] := List.getElem?_eq_getElem hlt
    obtain ⟨e3, r3⟩ := W.yl _ H2 i x H3 _ (fun p hp => R2.notS hp) hv2 hd hy
    have R3 := R2.ext e3
    refine ⟨_, _, ρ2, _, _, R3, r3, hstep i _ dacc ρ2 hd la hI, fun σ4 H4 ρ4 f4 R4 w4 q4 => ⟨(w4 rfl vs hsub).1.trans (by
      refine List.ext_getElem? fun j => ?_
      rw [wipe_get, wipe_length, wipe_get]
      by_cases hj : j ∈ vs
      · rw [if_pos hj, if_pos hj]
      · rw [if_neg hj]), ?_⟩⟩
    refine ⟨_, _, ρ4, _, R4, q4, fun b H5 ρ5 f5 R5 q5 => ?_⟩
    have fr5 : Fr C S H1 H5 := toC (toC (toC fr (.of e3)) f4) f5
    have eD5 : H5 D = some (.lst acc) := frD f5 (frD f4 (e3 D _ eD))
    have wp : ∀ {H6 : Hp} {ρ6 : Rho}, RS K ((C.pin vs').prot D) (fun a => S a ∨ a = D) σ4 H6 ρ6 → RS K ((C.pin vs').prot D) (fun a => S a ∨ a = D) (L2.wipe σ vs) H6 (wipeR ρ6 vs) := fun {H6 ρ6} R6 => by
      have := R6.wipe vs
      rw [(w4 rfl vs hsub).1] at this
      have e : L2.wipe (L2.wipe σ vs) vs = L2.wipe σ vs := by
        refine List.ext_getElem? fun j => ?_
        rw [wipe_get, wipe_length, wipe_get]
        by_cases hj : j ∈ vs
        · rw [if_pos hj, if_pos hj]
        · rw [if_neg hj]
      rw [e] at this
      exact this
    cases b with
    | false =>
      replace q5 := unF q5
      refine iteF ?_
      exact ⟨hlt, acc, dacc, _, eD5, f5.rpa (f4.rpa (ra.ext e3)), Nat.le_succ_of_le la, wp R5, fr5, q5⟩
    | true =>
      replace q5 := unT q5
      refine iteT ?_
      refine ⟨_, _, ρ5, _, R5, q5, fun y H6 dy ρ6 f6 R6 r6 q6 => ?_⟩
      have eD6 : H6 D = some (.lst acc) := frD f6 eD5
      have ra6 : RpA K (fun a => S a ∨ a = D) H6 acc dacc := f6.rpa (f5.rpa (f4.rpa (ra.ext e3)))
      have sD : (fun a => S a ∨ a = D) D := .inr rfl
      refine ⟨acc, eD6, small (by rw [ra6.len]; omega), hlt, acc ++ [y], dacc ++ [dy], _, upd_same, (ra6.wr sD).app (.one (r6.wr sD)), by rw [List.length_append]; simp; omega, ?_, ?_, q6⟩
      · -- the store holds: nobody knows D
        have R7 := wp R6
        have nk : ∀ a o, a ≠ D → H6 a = some o → upd H6 D (.lst (acc ++ [y])) a = some o := fun a o n e => by rw [upd_ne n]; exact e
        refine ⟨R7.len, fun a o h m => nk a o (fun z => by rw [z] at h; rw [z0] at h; cases h) (R7.fr a o h m), fun a h => ?_, fun a h => ?_, R7.a0, fun j c e => ?_, R7.dst, fun q h => (R7.vok q h).wr sD, fun a c h => ?_⟩
        · by_cases z : a = D
          · rw [z]; exact ⟨_, upd_same⟩
          · obtain ⟨o, h⟩ := R7.al a h
            exact ⟨o, nk a o z h⟩
        · by_cases z : a = D
          · rw [z]; exact ⟨_, upd_same⟩
          · obtain ⟨o, h⟩ := R7.pa a h
            exact ⟨o, nk a o z h⟩
        · obtain ⟨v, h1, h2⟩ := R7.ent j c e
          refine ⟨v, h1, h2.mv (fun a o h n => nk a o (fun z => n (.inr z)) h) (fun _ s => .inl s) (fun _ s => s) fun p o hv hc u hu => nk p u (fun z => ?_) hu⟩
          subst hv hc
          obtain ⟨p', e', _, _, _, np, _⟩ := h2
          cases e'
          exact np (.inr z)
        · obtain ⟨z1, z2, z3, z4, z5, z6⟩ := R7.src a c h
          exact ⟨z1, z2, z3, z4, z5, z6.mv (fun u hu => nk a u (fun z => z4 (.inr z)) hu) fun u hu => nk c u (fun z => z5 (.inr z)) hu⟩
      · have fr6 := toC fr5 f6
        exact fun a o h n => by
          rw [upd_ne (show a ≠ D from fun z => by rw [z, hD] at h; cases h)]
          exact fr6 a o h n
  · have e : i = ds.length := by omega
    subst e
    refine .inl ⟨W.st _ H2 hv2, ?_⟩
    have R3 : RS K C (fun a => S a ∨ a = D) (L2.wipe σ vs) H2 ρ2 := R2.unprot.unpin.1
    have own3 : ∀ (i : Nat) o p, ρ2[i]? = some (some (.own o)) → (L2.wipe σ vs)[i]? = some (some (.ref p)) → S p := fun i o p h1 h2 => by
      obtain ⟨v, e1, p', rfl, s1, _, _, np, _⟩ := R2.ent i _ h1
      rw [h2] at e1
      cases e1
      exact s1.elim id fun z => absurd (show ((C.pin vs').prot D).pr p from .inr z) np
    have R4 : RS K C S (L2.wipe σ vs) H2 ρ2 := R3.less (fun a h => .inl h) (fun a h => (R1.a0 a h).1) (fun a h => (R1.mS h).1) own3
    refine f D H2 _ _ (f1.trans fr) (R1.merge (fun a o h n => fr a o h (.inl n)) no R4) ?_ (freshAt f1 R1 hD) (.lst eD ra) (hend dacc ρ2 hI)
    refine (R1.new (u := .lst []) hD).merge (fun a o h n => ?_) no R3
    have nz : a ≠ D := fun z => n (.inr z)
    rw [upd_ne nz] at h
    exact fr a o h (.inl fun s => n (.inl s))
end
end Gw
namespace Gw
open PySem PySem.Spec PyProof.Rows L2

section
variable {X : Cx} {K : PySem.W.Frag} {a b c : Expr} {es : List Expr} {g ga gb : DTE} {l : DTA} {pos p : Pos}
/-! ## comprehensions, as rules -/
structure DTs (X : Cx) (ifs : List Expr) (g : DTT) : Prop where
  can : PTs X ifs (tT X.K g)
theorem dtsnil : DTs X [] gYes := ⟨⟨fun pins s σ H Q I q => by
  obtain ⟨C, S, ρ, Q', R, q, f⟩ := q
  exact pts_nil.run pins s σ H Q I (f true H ρ .refl R q)⟩⟩
theorem dtsone {c : Expr} {g : DTT} (h : DT X c g) : DTs X [c] g := ⟨pts_one h.can⟩
theorem simE_can (g : DTE) : SimE K (tE K g) g := fun C S σ H ρ Q k R q f => ⟨C, S, ρ, Q, R, q, f⟩
theorem dlc {elt tg iter : Expr} {ifs : List Expr} {scope : Scope} {own : List (Str × Nat)} {gi : DTI} {gd : DTG} {is : List Nat} {gt : DTT} {ge : DTE} (hc : X.calm = true) (hN : X.N.Nodup) (hi : DI X tg iter gi) (ok : BlkOk X.N X.env.scope scope own)
    (hg : ∀ (s : Shared) (H : Hp) (C : Addr) (cl : List (Str × Addr)) (fp : List Addr), DG (X.blk s H scope (compEnvC scope cl C X.env) fp) tg gd is true)
    (ht : ∀ (s : Shared) (H : Hp) (C : Addr) (cl : List (Str × Addr)) (fp : List Addr), DTs (X.blk s H scope (compEnvC scope cl C X.env) fp) ifs gt)
    (he : ∀ (s : Shared) (H : Hp) (C : Addr) (cl : List (Str × Addr)) (fp : List Addr), DE (X.blk s H scope (compEnvC scope cl C X.env) fp) elt ge)
    (hsub : ∀ i ∈ is, i ∈ own.map (·.2) := by decide) (hs : ∀ x, foldedSetIterable iter X.env x = pure x := by intro _; rfl) :
    DF X (.ListComp elt [⟨tg, iter, ifs, 0⟩] scope pos) (gLc gi gd gt ge (own.map (·.2))) := by
  obtain ⟨wi, pi, si⟩ := hi.ex
  exact ⟨_, pe_lc hc hN pi ok (fun s H C cl fp => (hg s H C cl fp).can) (fun s H C cl fp => (ht s H C cl fp).can) (fun s H C cl fp => (he s H C cl fp).can) hs, simLc si hsub⟩

/-! ## statements -/
def gSet (i : Nat) (g : DTE) : DTS := fun G ρ => g ρ fun d ρ1 => G.nx (ρ1.set i (some (.dat d)))
def gSetO (i : Nat) (g : DTE) : DTS := fun G ρ => g ρ fun d ρ1 => G.nx (ρ1.set i (some (.own d)))
theorem simSet {t : TE} (i : Nat) (h : SimE K t g) : SimS K (tAsg t (gName i)) (gSet i g) := fun C S σ H ρ E G R q n r b c => h C S σ H ρ _ _ R q fun v H' d ρ' f1 R1 r1 q1 => n S _ H' _ (R1.setD r1) q1
theorem simSetO {t : TE} (i : Nat) (h : SimF K t g) : SimS K (tAsg t (gName i)) (gSetO i g) := fun C S σ H ρ E G R q n r b c => h C S σ H ρ _ _ R q fun p H' d ρ' f1 R1 R2 hp o q1 => by
  have nS := R.notS hp
  obtain ⟨h0, hM⟩ := R.free0 hp
  exact n _ _ H' _ (R2.setS (c := .own d) ⟨p, rfl, .inr rfl, h0, hM, R.notP hp, o⟩ fun o' p' e1 e2 j o2 _ h1 h2 => by
      cases e1
      cases e2
      exact R1.apart nS j o2 h1 h2) q1
theorem dset (i : Nat) {x : Str} {pos' : Pos} (hN : X.N.Nodup) (h : DE X a g) (hi : X.N[i]? = some x := by rfl) (hx : Loc X.env.scope x := by first | exact Or.inl rfl | exact Or.inr rfl) (hs : swapsWith a (some (.Name x pos')) pos.line X.env = pure false := by rfl) (hf : X.fn x = true ∨ X.env.scope.names.lookup x = some .local := by first | exact .inl rfl | exact .inr rfl | assumption) : DS X (.Assign [.Name x pos'] a pos) (gSet i g) := by
  obtain ⟨t, p, s⟩ := h.ex
  exact ⟨_, ps_set hN hi hx p hs hf, simSet i s⟩
theorem dsetO (i : Nat) {x : Str} {pos' : Pos} (hN : X.N.Nodup) (h : DF X a g) (hi : X.N[i]? = some x := by rfl) (hx : Loc X.env.scope x := by first | exact Or.inl rfl | exact Or.inr rfl) (hs : swapsWith a (some (.Name x pos')) pos.line X.env = pure false := by rfl) (hf : X.fn x = true ∨ X.env.scope.names.lookup x = some .local := by first | exact .inl rfl | exact .inr rfl | assumption) : DS X (.Assign [.Name x pos'] a pos) (gSetO i g) := by
  obtain ⟨t, p, s⟩ := h.ex
  exact ⟨_, ps_set hN hi hx p hs hf, simSetO i s⟩
/-- name = [..] on one line, the name a local of the def -/
theorem dsetLcO (i : Nat) {y : Str} {py spos : Pos} {elt tg iter : Expr} {ifs : List Expr} {scope : Scope} {own : List (Str × Nat)} {gi : DTI} {gd : DTG} {is : List Nat} {gt : DTT} {ge : DTE} (hc : X.calm = true) (hN : X.N.Nodup)
    (hsw : swapsWith (.ListComp elt [⟨tg, iter, ifs, 0⟩] scope pos) (some (.Name y py)) spos.line X.env = pure true) (hi : DI X tg iter gi) (ok : BlkOk X.N X.env.scope scope own)
    (hg : ∀ (s : Shared) (H : Hp) (C : Addr) (cl : List (Str × Addr)) (fp : List Addr), DG (X.blk s H scope (compEnvC scope cl C X.env) fp) tg gd is true)
    (ht : ∀ (s : Shared) (H : Hp) (C : Addr) (cl : List (Str × Addr)) (fp : List Addr), DTs (X.blk s H scope (compEnvC scope cl C X.env) fp) ifs gt)
    (he : ∀ (s : Shared) (H : Hp) (C : Addr) (cl : List (Str × Addr)) (fp : List Addr), DE (X.blk s H scope (compEnvC scope cl C X.env) fp) elt ge)
    (hy : X.N[i]? = some y := by rfl) (hyl : X.env.scope.names.lookup y = some .local := by rfl)
    (hsub : ∀ i ∈ is, i ∈ own.map (·.2) := by decide) (hs : ∀ x, foldedSetIterable iter X.env x = pure x := by intro _; rfl) :
    DS X (.Assign [.Name y py] (.ListComp elt [⟨tg, iter, ifs, 0⟩] scope pos) spos) (gSetO i (gLc gi gd gt ge (own.map (·.2)))) := by
  obtain ⟨wi, pi, si⟩ := hi.ex
  exact ⟨_, ps_setLc hc hN hy hyl hsw pi ok (fun s H C cl fp => (hg s H C cl fp).can) (fun s H C cl fp => (ht s H C cl fp).can) (fun s H C cl fp => (he s H C cl fp).can) hs, simSetO i (simLc si hsub)⟩
theorem gSetO_dat {t : TE} (i : Nat) (h : SimF K t g) : SimS K (tAsg t (gName i)) (gSet i g) := simSet i (fun C S σ H ρ Q k R q f => h C S σ H ρ Q k R q fun p H' d ρ' f1 f2 _ f3 f4 f5 => f _ H' d ρ' f1 f2 (obSub R f3 f4) f5)
theorem dsetLc (i : Nat) {y : Str} {py spos : Pos} {elt tg iter : Expr} {ifs : List Expr} {scope : Scope} {own : List (Str × Nat)} {gi : DTI} {gd : DTG} {is : List Nat} {gt : DTT} {ge : DTE} (hc : X.calm = true) (hN : X.N.Nodup)
    (hsw : swapsWith (.ListComp elt [⟨tg, iter, ifs, 0⟩] scope pos) (some (.Name y py)) spos.line X.env = pure true) (hi : DI X tg iter gi) (ok : BlkOk X.N X.env.scope scope own)
    (hg : ∀ (s : Shared) (H : Hp) (C : Addr) (cl : List (Str × Addr)) (fp : List Addr), DG (X.blk s H scope (compEnvC scope cl C X.env) fp) tg gd is true)
    (ht : ∀ (s : Shared) (H : Hp) (C : Addr) (cl : List (Str × Addr)) (fp : List Addr), DTs (X.blk s H scope (compEnvC scope cl C X.env) fp) ifs gt)
    (he : ∀ (s : Shared) (H : Hp) (C : Addr) (cl : List (Str × Addr)) (fp : List Addr), DE (X.blk s H scope (compEnvC scope cl C X.env) fp) elt ge)
    (hy : X.N[i]? = some y := by rfl) (hyl : X.env.scope.names.lookup y = some .local := by rfl)
    (hsub : ∀ i ∈ is, i ∈ own.map (·.2) := by decide) (hs : ∀ x, foldedSetIterable iter X.env x = pure x := by intro _; rfl) :
    DS X (.Assign [.Name y py] (.ListComp elt [⟨tg, iter, ifs, 0⟩] scope pos) spos) (gSet i (gLc gi gd gt ge (own.map (·.2)))) := by
  obtain ⟨wi, pi, si⟩ := hi.ex
  exact ⟨_, ps_setLc hc hN hy hyl hsw pi ok (fun s H C cl fp => (hg s H C cl fp).can) (fun s H C cl fp => (ht s H C cl fp).can) (fun s H C cl fp => (he s H C cl fp).can) hs, gSetO_dat i (simLc si hsub)⟩

/-! ### any target -/
def gAsg (g : DTE) (gd : DTG) : DTS := fun G ρ => g ρ fun d ρ1 => gd d ρ1 G.nx
theorem dasg {tg : Expr} {gd : DTG} {is : List Nat} {w : Bool} (h : DE X a g) (hg : DG X tg gd is w) (hs : swapsWithSole [tg] a pos.line X.env = pure false := by rfl) (hw : swappedStores [tg] a X.env = pure none := by rfl)
    (h1 : (assignEach [tg] X.env).map (·.2) = [assign tg X.env] := by rfl) : DS X (.Assign [tg] a pos) (gAsg g gd) := by
  obtain ⟨t, p, s⟩ := h.ex
  obtain ⟨tg', pg, sg⟩ := hg.ex
  exact ⟨_, ps_asg p pg hs hw h1, fun C S σ H ρ E G R q n r b c => s C S σ H ρ _ _ R q fun v H' d ρ' f1 R1 r1 q1 => sg C S σ H' ρ' _ _ _ _ R1 r1 q1 fun σ2 H2 ρ2 f2 R2 _ q2 => n S σ2 H2 ρ2 R2 q2⟩
/-- own[k] = .. -/
def gdSub (i : Nat) (gk : DTE) : DTG := fun d ρ Q => (∃ ds, lk ρ i = some (.own (.list ds))) ∧ gk ρ fun kd ρ1 => ∃ k j ds, kd = .int k ∧ lk ρ1 i = some (.own (.list ds)) ∧ ixN ds.length k = some j ∧ Q (ρ1.set i (some (.own (.list (ds.set j d)))))
theorem RS.ownL {C : Ctx} {S : Vol} {σ : VStore} {H : Hp} {ρ : Rho} {i : Nat} {ds : List D} (R : RS K C S σ H ρ) (h : lk ρ i = some (.own (.list ds))) : ∃ p xs, σ[i]? = some (some (.ref p)) ∧ S p ∧ H p = some (.lst xs) ∧ RpA K S H xs ds := by
  obtain ⟨p, e, s, o⟩ := R.own (lk_get h)
  cases o with
  | lst e2 r => exact ⟨p, _, e, s, e2, r⟩
theorem dgsub (i : Nat) {x : Str} {px : Pos} {k : Expr} {gk : DTE} (hk : DE X k gk) (hN : X.N[i]? = some x := by rfl) (hv : Vis X.env.scope x := by first | exact Or.inl rfl | exact Or.inr (Or.inl rfl) | exact Or.inr (Or.inr rfl))
    (hd : (x == ("__debug__" : Str)) = false := by decide) (hcd : (x == ("__classdict__" : Str)) = false := by decide)
    (ha : ∀ v, assign (.Subscript (.Name x px) k pos) X.env v = (do
      let ov ← holding [v] (eval (.Name x px) X.env)
      let iv ← holding [v, ov] (eval k X.env)
      standAt pos
      holding [v, ov, iv] (setItem ov iv v)
      release [v, ov, iv] []) := by intro _; rfl) : DG X (.Subscript (.Name x px) k pos) (gdSub i gk) [] false := by
  obtain ⟨t, p, s⟩ := hk.ex
  refine ⟨_, pg_sub (pe_var hN hv hd hcd) p set_list ha, fun C S σ H ρ v d Q k R rv q f => ?_⟩
  obtain ⟨⟨ds0, e0⟩, q⟩ := q
  obtain ⟨p0, xs0, f0, _, _, _⟩ := R.ownL e0
  refine ⟨_, f0, s C S σ H ρ _ _ R q fun w H1 kd ρ1 f1 R1 r1 q1 => ?_⟩
  obtain ⟨kk, j, ds, rfl, e1, hj, q1⟩ := q1
  obtain ⟨p1, xs, g1, sp, e2, r2⟩ := R1.ownL e1
  rw [f0] at g1
  cases g1
  cases r1
  refine ⟨p0, xs, kk, j, rfl, rfl, e2, by rw [r2.len]; exact hj, ?_⟩
  refine f σ _ _ (f1.trans (R1.writeFr (lk_get e1) f0)) (R1.write (lk_get e1) f0 (.lst upd_same ((r2.wr sp).set ((f1.rp rv).wr sp) j))) (fun z => nomatch z) q1
end
end Gw
namespace Gw
open PySem PySem.Spec PyProof.Rows L2

section
variable {X : Cx} {K : PySem.W.Frag} {a b c : Expr} {es : List Expr} {g ga gb : DTE} {l : DTA} {pos p : Pos}
/-! ## several names at once -/
abbrev DTC := Rho → (List Cl → Rho → Prop) → Prop
def SimC (K : PySem.W.Frag) (t : TA) (g : DTC) : Prop := ∀ (C : Ctx) (S : Vol) (σ : VStore) (H : Hp) (ρ : Rho) (Q : List Cl → Rho → Prop) (k : List V → Hp → Prop), RS K C S σ H ρ → g ρ Q →
  (∀ vs S' H' cls ρ', (∀ a, S a → S' a) → (∀ a, S' a → S a ∨ H a = none) → Fr C S H H' → RS K C S' σ H' ρ' → vs.length = cls.length → (∀ (i : Nat) v c, vs[i]? = some v → cls[i]? = some c → EntOk K C S' H' v c) →
    (∀ (i j : Nat) o o' q, i ≠ j → cls[i]? = some (.own o) → cls[j]? = some (.own o') → vs[i]? = some (.ref q) → vs[j]? = some (.ref q) → False) →
    (∀ (i : Nat) o q, cls[i]? = some (.own o) → vs[i]? = some (.ref q) → ∀ (j : Nat) o', ρ'[j]? = some (some (.own o')) → σ[j]? ≠ some (some (.ref q))) → Q cls ρ' → k vs H') → t σ H k
structure DC (X : Cx) (es : List Expr) (g : DTC) : Prop where
  ex : ∃ t, PA X es t ∧ SimC X.K t g
def gcNil : DTC := fun ρ Q => Q [] ρ
def gcDat (g : DTE) (l : DTC) : DTC := fun ρ Q => g ρ fun d ρ1 => l ρ1 fun cs ρ2 => Q (.dat d :: cs) ρ2
def gcOwn (g : DTE) (l : DTC) : DTC := fun ρ Q => g ρ fun d ρ1 => l ρ1 fun cs ρ2 => Q (.own d :: cs) ρ2
theorem dcnil : DC X [] gcNil := ⟨_, pa_nil, fun C S σ H ρ Q k R q f => f [] S H [] ρ (fun _ h => h) (fun _ h => .inl h) .refl R rfl (fun i v c h => by simp at h) (fun i j o o' q _ h => by simp at h) (fun i o q h => by simp at h) q⟩
theorem dcdat {l : DTC} (ha : DE X a g) (hr : DC X es l) (hs : starEach (a :: es) X.env = (false, eval a X.env) :: starEach es X.env := by rfl) : DC X (a :: es) (gcDat g l) := by
  obtain ⟨_, p1, q1⟩ := ha.ex
  obtain ⟨_, p2, q2⟩ := hr.ex
  refine ⟨_, pa_cons p1 p2 hs, fun C S σ H ρ Q k R q f => q1 C S σ H ρ _ _ R q fun v H1 d ρ1 f1 R1 r1 h => q2 C S σ H1 ρ1 _ _ R1 h fun vs S2 H2 cs ρ2 sg sn f2 R2 hl he hd hp h2 => ?_⟩
  refine f (v :: vs) S2 H2 (.dat d :: cs) ρ2 sg (fun a h => (sn a h).imp id fun z => freshAt f1 R1 z) (f1.trans f2) R2 (by simp [hl]) (fun i v' c h1 h2 => ?_) (fun i j o o' q hij h1 h2 h3 h4 => ?_) (fun i o q h1 h2 => ?_) h2
  · cases i with
    | zero =>
      cases h1
      cases h2
      exact Rp.mv (fun a o h n => f2 a o h (.inl n)) sn r1
    | succ i => exact he i v' c (by simpa using h1) (by simpa using h2)
  · cases i with
    | zero => cases h1
    | succ i =>
      cases j with
      | zero => cases h2
      | succ j => exact hd i j o o' q (fun z => hij (congrArg (· + 1) z)) (by simpa using h1) (by simpa using h2) (by simpa using h3) (by simpa using h4)
  · cases i with
    | zero => cases h1
    | succ i => exact hp i o q (by simpa using h1) (by simpa using h2)
theorem dcown {l : DTC} (ha : DF X a g) (hr : DC X es l) (hs : starEach (a :: es) X.env = (false, eval a X.env) :: starEach es X.env := by rfl) : DC X (a :: es) (gcOwn g l) := by
  obtain ⟨_, p1, q1⟩ := ha.ex
  obtain ⟨_, p2, q2⟩ := hr.ex
  refine ⟨_, pa_cons p1 p2 hs, fun C S σ H ρ Q k R q f => q1 C S σ H ρ _ _ R q fun z H1 d ρ1 f1 R1 R1' hz o1 h => ?_⟩
  have nS := R.notS hz
  obtain ⟨z0, zM⟩ := R.free0 hz
  have nP := R.notP hz
  have Rp1 : RS X.K (C.prot z) (fun a => S a ∨ a = z) σ H1 ρ1 := R1'.prot (R1.apart nS) zM o1.there
  refine q2 (C.prot z) _ σ H1 ρ1 _ _ Rp1 h fun vs S2 H2 cs ρ2 sg sn f2 R2 hl he hd hp h2 => ?_
  have keep : ∀ u, H1 z = some u → H2 z = some u := fun u e => f2 z u e (.inr (.inr rfl))
  have neq : ∀ (i : Nat) o q, cs[i]? = some (.own o) → vs[i]? = some (.ref q) → q ≠ z := fun i o q h1 h2 e => by
    obtain ⟨p', e', _, _, _, np, _⟩ := he i _ _ h2 h1
    cases e'
    exact np (.inr e)
  have he' : ∀ (i : Nat) v c, vs[i]? = some v → cs[i]? = some c → EntOk X.K C S2 H2 v c := fun i v c h1 h2 => by
    have := he i v c h1 h2
    cases c with
    | dat d => exact this
    | own d =>
      obtain ⟨p', e', s1, s2, s3, s4, s5⟩ := this
      exact ⟨p', e', s1, s2, s3, fun z => s4 (.inl z), s5⟩
    | srcR => exact this
  refine f (.ref z :: vs) S2 H2 (.own d :: cs) ρ2 (fun a h => sg a (.inl h)) (fun a h => (sn a h).elim (fun z' => z'.imp id fun e => by rw [e]; exact hz) fun z' => .inr (freshAt f1 R1 z')) ?_ R2.unprot (by simp [hl]) (fun i v' c h1 h2 => ?_) (fun i j o o' q hij h1 h2 h3 h4 => ?_) (fun i o q h1 h2 j o2 h3 h4 => ?_) h2
  · exact fun a o h n => f2 a o (f1 a o h n) (n.elim (fun n => .inl fun s => s.elim n fun e => by rw [e, hz] at h; cases h) fun n => .inr (.inl n))
  · cases i with
    | zero =>
      cases h1
      cases h2
      exact ⟨z, rfl, sg z (.inr rfl), z0, zM, nP, o1.mv keep (fun a o h n => f2 a o h (.inl n)) sn⟩
    | succ i => exact he' i v' c (by simpa using h1) (by simpa using h2)
  · cases i with
    | zero =>
      cases h3
      cases j with
      | zero => exact hij rfl
      | succ j => exact neq j o' _ (by simpa using h2) (by simpa using h4) rfl
    | succ i =>
      cases j with
      | zero =>
        cases h4
        exact neq i o _ (by simpa using h1) (by simpa using h3) rfl
      | succ j => exact hd i j o o' q (fun z => hij (congrArg (· + 1) z)) (by simpa using h1) (by simpa using h2) (by simpa using h3) (by simpa using h4)
  · cases i with
    | zero =>
      cases h2
      obtain ⟨v, e1, p', rfl, _, _, _, np, _⟩ := R2.ent j _ h3
      rw [h4] at e1
      cases e1
      exact np (.inr rfl)
    | succ i => exact hp i o q (by simpa using h1) (by simpa using h2) j o2 h3 h4
def gPar2 (i j : Nat) (l : DTC) : DTS := fun G ρ => l ρ fun cs ρ1 => match cs with | [u, v] => G.nx ((ρ1.set i (some u)).set j (some v)) | _ => False
def gPar3 (i j k : Nat) (l : DTC) : DTS := fun G ρ => l ρ fun cs ρ1 => match cs with | [u, v, w] => G.nx (((ρ1.set i (some u)).set j (some v)).set k (some w)) | _ => False
theorem len2 {α : Type} {xs : List α} (h : xs.length = 2) : ∃ a b, xs = [a, b] := by
  match xs, h with
  | [a, b], _ => exact ⟨a, b, rfl⟩
theorem len3 {α : Type} {xs : List α} (h : xs.length = 3) : ∃ a b c, xs = [a, b, c] := by
  match xs, h with
  | [a, b, c], _ => exact ⟨a, b, c, rfl⟩
theorem dpar2 (i j : Nat) {x y : Str} {px py pt : Pos} {kt k2 pt2} {l : DTC} (hc : X.calm = true) (hN : X.N.Nodup) (ha : DC X [a, b] l) (hw : swappedStores [.Tuple [.Name x px, .Name y py] kt pt] (.Tuple [a, b] k2 pt2) X.env = pure (some [x, y]))
    (hi : X.N[i]? = some x := by rfl) (hj : X.N[j]? = some y := by rfl) (hij : i ≠ j := by decide) (hx : X.env.scope.names.lookup x = some .local := by rfl) (hy : X.env.scope.names.lookup y = some .local := by rfl)
    (hs : swapsWithSole [.Tuple [.Name x px, .Name y py] kt pt] (.Tuple [a, b] k2 pt2) pos.line X.env = pure false := by rfl) :
    DS X (.Assign [.Tuple [.Name x px, .Name y py] kt pt] (.Tuple [a, b] k2 pt2) pos) (gPar2 i j l) := by
  obtain ⟨t, p, s⟩ := ha.ex
  refine ⟨_, ps_par hc hN hi hj hij hx hy p hw hs, fun C S σ H ρ E G R q n r b c => s C S σ H ρ _ _ R q fun vs S' H' cls ρ' sg sn f1 R1 hl he hd hp q1 => ?_⟩
  match cls, q1, hl, he, hd, hp with
  | [u, w], q1, hl, he, hd, hp =>
    obtain ⟨v1, v2, rfl⟩ := len2 hl
    refine ⟨v1, v2, rfl, n S' _ H' _ (RS.setS (RS.setS R1 (he 0 v1 u rfl rfl) ?_) (he 1 v2 w rfl rfl) ?_) q1⟩
    · intro o q e1 e2 k o' _ h1 h2
      subst e1 e2
      exact hp 0 o q rfl rfl k o' h1 h2
    · intro o q e1 e2 k o' hk h1 h2
      subst e1 e2
      by_cases hki : i = k
      · subst hki
        have hlt : i < ρ'.length := by
          obtain ⟨h, _⟩ := List.getElem?_eq_some_iff.mp h1
          simpa using h
        rw [List.getElem?_set_self hlt] at h1
        rw [List.getElem?_set_self (by rw [R1.len]; exact hlt)] at h2
        cases h1
        cases h2
        exact hd 0 1 o' o q (by decide) rfl rfl rfl rfl
      · rw [List.getElem?_set_ne hki] at h1 h2
        exact hp 1 o q rfl rfl k o' h1 h2
theorem dpar3 (i j k : Nat) {x y z : Str} {px py pz pt : Pos} {kt k2 pt2} {l : DTC} (hc : X.calm = true) (hN : X.N.Nodup) (ha : DC X [a, b, c] l) (hw : swappedStores [.Tuple [.Name x px, .Name y py, .Name z pz] kt pt] (.Tuple [a, b, c] k2 pt2) X.env = pure (some [x, y, z]))
    (hi : X.N[i]? = some x := by rfl) (hj : X.N[j]? = some y := by rfl) (hk : X.N[k]? = some z := by rfl) (hij : i ≠ j := by decide) (hik : i ≠ k := by decide) (hjk : j ≠ k := by decide) (hx : X.env.scope.names.lookup x = some .local := by rfl) (hy : X.env.scope.names.lookup y = some .local := by rfl) (hz : X.env.scope.names.lookup z = some .local := by rfl)
    (hs : swapsWithSole [.Tuple [.Name x px, .Name y py, .Name z pz] kt pt] (.Tuple [a, b, c] k2 pt2) pos.line X.env = pure false := by rfl) :
    DS X (.Assign [.Tuple [.Name x px, .Name y py, .Name z pz] kt pt] (.Tuple [a, b, c] k2 pt2) pos) (gPar3 i j k l) := by
  obtain ⟨t, p, s⟩ := ha.ex
  refine ⟨_, ps_par3 hc hN hi hj hk hij hik hjk hx hy hz p hw hs, fun C S σ H ρ E G R q n r b c => s C S σ H ρ _ _ R q fun vs S' H' cls ρ' sg sn f1 R1 hl he hd hp q1 => ?_⟩
  match cls, q1, hl, he, hd, hp with
  | [u, w, m], q1, hl, he, hd, hp =>
    obtain ⟨v1, v2, v3, rfl⟩ := len3 hl
    have R2 : RS X.K C S' (σ.set i (some v1)) H' (ρ'.set i (some u)) := RS.setS R1 (he 0 v1 u rfl rfl) (by
      intro o q e1 e2 k o' _ h1 h2
      subst e1 e2
      exact hp 0 o q rfl rfl k o' h1 h2)
    have atset : ∀ {τ : VStore} {ν : Rho} {i : Nat} {v : V} {cl : Cl} {o : D} {q : Addr}, τ.length = ν.length → (ν.set i (some cl))[i]? = some (some (.own o)) → (τ.set i (some v))[i]? = some (some (.ref q)) → cl = .own o ∧ v = .ref q := fun {τ ν i v cl o q} hl h1 h2 => by
      have hlt : i < ν.length := by
        obtain ⟨h, _⟩ := List.getElem?_eq_some_iff.mp h1
        simpa using h
      rw [List.getElem?_set_self hlt] at h1
      rw [List.getElem?_set_self (by rw [hl]; exact hlt)] at h2
      cases h1
      cases h2
      exact ⟨rfl, rfl⟩
    have R3 : RS X.K C S' ((σ.set i (some v1)).set j (some v2)) H' ((ρ'.set i (some u)).set j (some w)) := RS.setS R2 (he 1 v2 w rfl rfl) (by
      intro o q e1 e2 k' o' hk' h1 h2
      subst e1 e2
      by_cases hki : i = k'
      · subst hki
        obtain ⟨e3, e4⟩ := atset R1.len h1 h2
        subst e3 e4
        exact hd 0 1 o' o q (by decide) rfl rfl rfl rfl
      · rw [List.getElem?_set_ne hki] at h1 h2
        exact hp 1 o q rfl rfl k' o' h1 h2)
    refine ⟨v1, v2, v3, rfl, n S' _ H' _ (RS.setS R3 (he 2 v3 m rfl rfl) ?_) q1⟩
    intro o q e1 e2 k' o' hk' h1 h2
    subst e1 e2
    by_cases hkj : j = k'
    · subst hkj
      obtain ⟨e3, e4⟩ := atset R2.len h1 h2
      subst e3 e4
      exact hd 1 2 o' o q (by decide) rfl rfl rfl rfl
    · rw [List.getElem?_set_ne hkj] at h1 h2
      by_cases hki : i = k'
      · subst hki
        obtain ⟨e3, e4⟩ := atset R1.len h1 h2
        subst e3 e4
        exact hd 0 2 o' o q (by decide) rfl rfl rfl rfl
      · rw [List.getElem?_set_ne hki] at h1 h2
        exact hp 2 o q rfl rfl k' o' h1 h2

/-! ## an own list's methods -/
theorem visName (i : Nat) {x : Str} (hN : X.N[i]? = some x) (hv : Vis X.env.scope x) (hd : (x == ("__debug__" : Str)) = false) (hcd : (x == ("__classdict__" : Str)) = false) : PE X (.Name x pos) (tVar i) := pe_var hN hv hd hcd
theorem tyList {C : Ctx} {S : Vol} {σ : VStore} {H : Hp} {ρ : Rho} {i : Nat} {ds : List D} (R : RS K C S σ H ρ) (h : lk ρ i = some (.own (.list ds))) : ∃ q, σ[i]? = some (some (.ref q)) ∧ tyV K "list" (.ref q) H := by
  obtain ⟨q, xs, e, _, h2, _⟩ := R.ownL h
  exact ⟨q, e, .inl ⟨rfl, xs, .of h2⟩⟩
/-- x.append(e) -/
def gApp (i : Nat) (g : DTE) : DTS := fun G ρ => (∃ ds, lk ρ i = some (.own (.list ds))) ∧ g ρ fun d ρ1 => ∃ ds, lk ρ1 i = some (.own (.list ds)) ∧ ds.length < 100000 ∧ G.nx (ρ1.set i (some (.own (.list (ds ++ [d])))))
theorem szLt {n : Nat} (h : n < 100000) : n < sizeLine := Nat.lt_of_lt_of_le h (by decide)
theorem dapp (i : Nat) {x : Str} {px apos cpos : Pos} {e : Expr} {g : DTE} (he : DE X e g) (hN : X.N[i]? = some x := by rfl) (hv : Vis X.env.scope x := by first | exact Or.inl rfl | exact Or.inr (Or.inl rfl) | exact Or.inr (Or.inr rfl))
    (hd : (x == ("__debug__" : Str)) = false := by decide) (hcd : (x == ("__classdict__" : Str)) = false := by decide) (hst : starEach [e] X.env = (false, eval e X.env) :: starEach [] X.env := by rfl)
    (hbase : attributeBase (.Name x px) "append" X.env (eval (.Name x px) X.env) = eval (.Name x px) X.env := by rfl)
    (hfew : ((backTo cpos (starEach [e] X.env)).all (fun x => !x.1) && (backToKw cpos (keywordEach [] X.env)).all (fun x => x.1.isSome)
      && decide ([e].length + ([] : List Keyword).length + (if ([] : List Keyword).isEmpty then 0 else 1) < 30)) = true := by rfl)
    (hline : (apos.endLine == cpos.line) = true := by rfl) (hplain : (backTo cpos (starEach [] X.env)).any (·.1) = false := by rfl)
    (hs : swapsWith (.Call (.Attribute (.Name x px) "append" apos) [e] [] cpos) none pos.line X.env = pure false := by rfl) : DS X (.Expr (.Call (.Attribute (.Name x px) "append" apos) [e] [] cpos) pos) (gApp i g) := by
  obtain ⟨t, q, s⟩ := he.ex
  refine ⟨_, ps_expr (pe_bm PySem.F.plainAttrs_list PySem.F.slot_list_append PySem.F.type_list_append mt_append (visName i hN hv hd hcd) (pa_cons q pa_nil hst) hbase hfew hline hst hplain) hs, fun C S σ H ρ E G R q n r b c => ?_⟩
  obtain ⟨⟨ds0, h0⟩, q⟩ := q
  obtain ⟨z, e0, ty⟩ := tyList R h0
  refine ⟨_, e0, ty, s C S σ H ρ _ _ R q fun v H1 d ρ1 f1 R1 r1 q1 => ?_⟩
  obtain ⟨ds, h1, hl, q1⟩ := q1
  obtain ⟨z', xs, e1, sz, e2, ra⟩ := R1.ownL h1
  rw [e0] at e1
  cases e1
  refine ⟨z, xs, v, rfl, rfl, e2, by rw [ra.len]; exact szLt hl, n S σ _ _ (R1.write (lk_get h1) e0 (.lst upd_same ((ra.wr sz).app (.one (r1.wr sz))))) q1⟩
/-- x.pop() -/
def gPop (i : Nat) : DTE := fun ρ Q => ∃ ds d, lk ρ i = some (.own (.list (ds ++ [d]))) ∧ Q d (ρ.set i (some (.own (.list ds))))
theorem dpop (i : Nat) {x : Str} {px apos cpos : Pos} (hN : X.N[i]? = some x := by rfl) (hv : Vis X.env.scope x := by first | exact Or.inl rfl | exact Or.inr (Or.inl rfl) | exact Or.inr (Or.inr rfl))
    (hd : (x == ("__debug__" : Str)) = false := by decide) (hcd : (x == ("__classdict__" : Str)) = false := by decide)
    (hbase : attributeBase (.Name x px) "pop" X.env (eval (.Name x px) X.env) = eval (.Name x px) X.env := by rfl)
    (hline : (apos.endLine == cpos.line) = true := by rfl) : DE X (.Call (.Attribute (.Name x px) "pop" apos) [] [] cpos) (gPop i) := by
  refine ⟨_, pe_bm0 PySem.F.plainAttrs_list PySem.F.slot_list_pop PySem.F.type_list_pop mt_pop (visName i hN hv hd hcd) hbase hline, fun C S σ H ρ Q k R q f => ?_⟩
  obtain ⟨ds, d, h0, q⟩ := q
  obtain ⟨z, e0, ty⟩ := tyList R h0
  obtain ⟨z', xs, e1, sz, e2, ra⟩ := R.ownL h0
  rw [e0] at e1
  cases e1
  have hl := ra.len
  rw [List.length_append, List.length_singleton] at hl
  have hd : (ds ++ [d])[xs.length - 1]? = some d := by
    rw [hl]; simp
  obtain ⟨v, hv, rv⟩ := ra.get hd
  have rt : RpA X.K S H xs.dropLast ds := by
    have := ra.take ds.length
    rw [List.take_left', List.dropLast_eq_take, hl] at *
    · simpa using this
    · rfl
  refine ⟨_, e0, ty, z, xs, v, rfl, rfl, e2, hv, ?_⟩
  exact f v _ d _ (R.writeFr (lk_get h0) e0) (R.write (lk_get h0) e0 (.lst upd_same (rt.wr sz))) (rv.wr sz) q
/-- x += ys, ys wherever it stands -/
def rExtX (K : PySem.W.Frag) : R2 := fun x y H Q => ∃ l b xs zs, x = .ref l ∧ y = .ref b ∧ H l = some (.lst xs) ∧ Lx K H b zs ∧ xs.length + zs.length ≤ sizeLine ∧ Q (.ref l) (upd H l (.lst (xs ++ zs)))
theorem iop_extX {X : Cx} : OpR X (inplaceOp .Add) (rExtX X.K) := by
  rintro pins s σ H x y v u Q I rx ry ⟨l, b, xs, zs, rfl, rfl, hl, hb, hz, q⟩
  cases rx
  cases ry
  obtain ⟨_, is, n, r1, e1, o1⟩ := I.lstM hl
  obtain ⟨_, js, m, r2, e2, o2⟩ := lxAt I hb
  have z1 : is.toArray.size + js.toArray.size ≤ sizeLine := by simp only [List.size_toArray]; omega
  have z2 : ¬ (!is.toArray.isEmpty && Builtin.List.listTooLong (is.toArray.size + js.toArray.size)) = true := by rw [notLongL z1]; simp
  refine iadd_road ⟨_, o1, rfl⟩ ⟨_, o2, rfl⟩ (call_meets PySem.F.slot_list_iadd ⟨_, o1, rfl⟩ PySem.F.entry_list_iadd (PySem.F.args_list_iadd_2 _ _) (AutoSeq1.list___iadd___list_list_0 l is.toArray n b js.toArray m z2 (by omega) (by omega)) ⟨o1, o2, ?_⟩)
  exact ⟨.ref l, _, I.lset (its' := is ++ js) (t' := s.toks) hl o1 (by simp) (r1.append r2) (by simp only [List.length_append]; omega), rfl, q⟩
/-- x.pop(k) -/
def gPopAt (i : Nat) (g : DTE) : DTE := fun ρ Q => (∃ ds, lk ρ i = some (.own (.list ds))) ∧ g ρ fun kd ρ1 => ∃ ds k d, kd = .int (k : Nat) ∧ lk ρ1 i = some (.own (.list ds)) ∧ k < 100000 ∧ ds[k]? = some d ∧ Q d (ρ1.set i (some (.own (.list (ds.eraseIdx k)))))
theorem seqIx {k n : Nat} (h : k < n) : seqIndex? (k : Int) n = some k := by
  unfold seqIndex?
  simp
  omega
theorem dpopAt (i : Nat) {x : Str} {px apos cpos : Pos} {e : Expr} {g : DTE} (he : DE X e g) (hN : X.N[i]? = some x := by rfl) (hv : Vis X.env.scope x := by first | exact Or.inl rfl | exact Or.inr (Or.inl rfl) | exact Or.inr (Or.inr rfl))
    (hd : (x == ("__debug__" : Str)) = false := by decide) (hcd : (x == ("__classdict__" : Str)) = false := by decide) (hst : starEach [e] X.env = (false, eval e X.env) :: starEach [] X.env := by rfl)
    (hbase : attributeBase (.Name x px) "pop" X.env (eval (.Name x px) X.env) = eval (.Name x px) X.env := by rfl)
    (hfew : ((backTo cpos (starEach [e] X.env)).all (fun x => !x.1) && (backToKw cpos (keywordEach [] X.env)).all (fun x => x.1.isSome)
      && decide ([e].length + ([] : List Keyword).length + (if ([] : List Keyword).isEmpty then 0 else 1) < 30)) = true := by rfl)
    (hline : (apos.endLine == cpos.line) = true := by rfl) (hplain : (backTo cpos (starEach [] X.env)).any (·.1) = false := by rfl) : DE X (.Call (.Attribute (.Name x px) "pop" apos) [e] [] cpos) (gPopAt i g) := by
  obtain ⟨t, q, s⟩ := he.ex
  refine ⟨_, pe_bm PySem.F.plainAttrs_list PySem.F.slot_list_pop PySem.F.type_list_pop mt_popAt (visName i hN hv hd hcd) (pa_cons q pa_nil hst) hbase hfew hline hst hplain, fun C S σ H ρ Q k R q f => ?_⟩
  obtain ⟨⟨ds0, h0⟩, q⟩ := q
  obtain ⟨z, e0, ty⟩ := tyList R h0
  refine ⟨_, e0, ty, s C S σ H ρ _ _ R q fun v H1 kd ρ1 f1 R1 r1 q1 => ?_⟩
  obtain ⟨ds, kk, d, rfl, h1, hk, hdk, q1⟩ := q1
  obtain ⟨z', xs, e1, sz, e2, ra⟩ := R1.ownL h1
  rw [e0] at e1
  cases e1
  cases r1
  obtain ⟨w, hw, rw'⟩ := ra.get hdk
  have hkl : kk < xs.length := (List.getElem?_eq_some_iff.mp hw).1
  refine ⟨z, xs, _, kk, w, rfl, rfl, e2, by omega, by omega, seqIx hkl, hw, ?_⟩
  exact f w _ d _ (f1.trans (R1.writeFr (lk_get h1) e0)) (R1.write (lk_get h1) e0 (.lst upd_same ((ra.wr sz).erase kk))) (rw'.wr sz) q1
/-- x += ys, two lists -/
def gExt (i : Nat) (g : DTE) : DTS := fun G ρ => (∃ ds, lk ρ i = some (.own (.list ds))) ∧ g ρ fun d ρ1 => ∃ ds es, d = .list es ∧ lk ρ1 i = some (.own (.list ds)) ∧ ds.length + es.length ≤ 100000 ∧ G.nx (ρ1.set i (some (.own (.list (ds ++ es)))))
theorem dext (i : Nat) {x : Str} {pos' : Pos} {e : Expr} {g : DTE} (hNd : X.N.Nodup) (he : DE X e g) (hN : X.N[i]? = some x := by rfl) (hx : Loc X.env.scope x := by first | exact Or.inl rfl | exact Or.inr rfl) (hf : X.fn x = true ∨ X.env.scope.names.lookup x = some .local := by first | exact .inl rfl | exact .inr rfl | assumption) :
    DS X (.AugAssign (.Name x pos') .Add e pos) (gExt i g) := by
  obtain ⟨t, q, s⟩ := he.ex
  refine ⟨_, ps_aug hNd hN hx q (ti := rExtX X.K) iop_extX hf, fun C S σ H ρ E G R q n r b c => ?_⟩
  obtain ⟨⟨ds0, h0⟩, q⟩ := q
  obtain ⟨z, xs0, e0, _, _, _⟩ := R.ownL h0
  refine ⟨_, e0, s C S σ H ρ _ _ R q fun v H1 d ρ1 f1 R1 r1 q1 => ?_⟩
  obtain ⟨ds, es, rfl, h1, hl, q1⟩ := q1
  obtain ⟨z', xs, e1, sz, e2, ra⟩ := R1.ownL h1
  rw [e0] at e1
  cases e1
  cases r1 with
  | lst eb rb =>
    refine ⟨z, _, xs, _, rfl, rfl, e2, eb.lx, by rw [ra.len, rb.len]; exact szOf hl, ?_⟩
    have R2 := R1.write (lk_get h1) e0 (u := .lst (xs ++ _)) (.lst upd_same ((ra.wr sz).app (rb.wr sz)))
    refine n S _ _ _ ?_ q1
    have hlt := (List.getElem?_eq_some_iff.mp e0).1
    have es : σ.set i (some (.ref z)) = σ := by
      refine List.ext_getElem? fun j => ?_
      by_cases hj : i = j
      · subst hj; rw [List.getElem?_set_self hlt, e0]
      · rw [List.getElem?_set_ne hj]
    rw [es]
    exact R2
end
end Gw
namespace Gw
open PySem PySem.Spec PyProof.Rows L2

section
variable {X : Cx} {K : PySem.W.Frag} {a b c : Expr} {es : List Expr} {g ga gb : DTE} {l : DTA} {pos p : Pos} {st : Stmt} {sts : List Stmt} {T U : DTS}
/-! ## control flow -/
def gNext : DTS := fun G ρ => G.nx ρ
def gSeq (T U : DTS) : DTS := fun G ρ => T { G with nx := U G } ρ
def gRet (g : DTE) : DTS := fun G ρ => g ρ fun d ρ1 => G.rt d ρ1
def gRetO (i : Nat) : DTS := fun G ρ => ∃ d, lk ρ i = some (.own d) ∧ G.rt d (ρ.set i (some (.dat d)))
def gIfS (c : DTT) (T U : DTS) : DTS := fun G ρ => c ρ fun b ρ1 => if b = true then T G ρ1 else U G ρ1
def gDrop (g : DTE) : DTS := fun G ρ => g ρ fun _ ρ1 => G.nx ρ1
theorem dnil : DSs X [] gNext := ⟨_, pss_nil, fun C S σ H ρ E G R q n r b c => n S σ H ρ R q⟩
theorem dcons (h : DS X st T) (h2 : DSs X sts U) : DSs X (st :: sts) (gSeq T U) := by
  obtain ⟨_, p1, s1⟩ := h.ex
  obtain ⟨_, p2, s2⟩ := h2.ex
  exact ⟨_, pss_cons p1 p2, fun C S σ H ρ E G R q n r b c => s1 C S σ H ρ _ { G with nx := U G } R q (fun S' σ' H' ρ' R' q' => s2 C S' σ' H' ρ' E G R' q' n r b c) r b c⟩
theorem done1 (h : DS X st T) : DSs X [st] T := by
  obtain ⟨_, p1, s1⟩ := h.ex
  exact ⟨_, pss_one p1, s1⟩
theorem dret (h : DE X a g) : DS X (.Return (some a) pos) (gRet g) := by
  obtain ⟨_, p1, s1⟩ := h.ex
  exact ⟨_, ps_ret p1, fun C S σ H ρ E G R q n r b c => s1 C S σ H ρ _ _ R q fun v H' d ρ' f1 R1 r1 q1 => r S σ H' ρ' v d R1 r1 q1⟩
theorem dretO (i : Nat) {x : Str} {px : Pos} (hN : X.N[i]? = some x := by rfl) (hv : Vis X.env.scope x := by first | exact Or.inl rfl | exact Or.inr (Or.inl rfl) | exact Or.inr (Or.inr rfl))
    (hd : (x == ("__debug__" : Str)) = false := by decide) (hcd : (x == ("__classdict__" : Str)) = false := by decide) : DS X (.Return (some (.Name x px)) pos) (gRetO i) := by
  refine ⟨_, ps_ret (pe_var hN hv hd hcd), fun C S σ H ρ E G R q n r b c => ?_⟩
  obtain ⟨d, h0, q⟩ := q
  obtain ⟨z, e0, _, _⟩ := R.own (lk_get h0)
  obtain ⟨S', h1, h2, R'⟩ := R.freeze (lk_get h0)
  obtain ⟨v, e1, rv⟩ := R'.ent i (.dat d) (by
    rw [List.getElem?_set_self (List.getElem?_eq_some_iff.mp (lk_get h0)).1])
  rw [e0] at e1
  cases e1
  exact ⟨_, e0, r S' σ H _ _ d R' rv q⟩
theorem dretN : DS X (.Return none pos) (fun G ρ => G.rt .none ρ) := ⟨_, ps_retN, fun C S σ H ρ E G R q n r b c => r S σ H ρ .non .none R .non q⟩
theorem dif {t : Expr} {tc : DTT} {A B : List Stmt} (hc : DT X t tc) (ha : DSs X A T) (hb : DSs X B U) : DS X (.If t A B pos) (gIfS tc T U) := by
  obtain ⟨_, p1, s1⟩ := hc.ex
  obtain ⟨_, p2, s2⟩ := ha.ex
  obtain ⟨_, p3, s3⟩ := hb.ex
  refine ⟨_, ps_if p1 p2 p3, fun C S σ H ρ E G R q n r b c => s1 C S σ H ρ _ _ R q fun d H' ρ' f1 R1 q1 => ?_⟩
  cases d with
  | true => exact iteT (s2 C S σ H' ρ' E G R1 (unT q1) n r b c)
  | false => exact iteF (s3 C S σ H' ρ' E G R1 (unF q1) n r b c)
theorem ddrop (h : DE X a g) (hs : swapsWith a none pos.line X.env = pure false := by rfl) : DS X (.Expr a pos) (gDrop g) := by
  obtain ⟨_, p1, s1⟩ := h.ex
  exact ⟨_, ps_expr p1 hs, fun C S σ H ρ E G R q n r b c => s1 C S σ H ρ _ _ R q fun v H' d ρ' f1 R1 r1 q1 => n S σ H' ρ' R1 q1⟩
theorem dpass : DS X (.Pass pos) gNext := ⟨_, ps_pass, fun C S σ H ρ E G R q n r b c => n S σ H ρ R q⟩
theorem dbreak : DS X (.Break pos) (fun G ρ => G.bk ρ) := ⟨_, ps_break, fun C S σ H ρ E G R q n r b c => b S σ H ρ R q⟩
theorem dcontinue : DS X (.Continue pos) (fun G ρ => G.ct ρ) := ⟨_, ps_continue, fun C S σ H ρ E G R q n r b c => c S σ H ρ R q⟩
/-- an own object is data from here on -/
def fz (i : Nat) (ρ : Rho) : Rho := match lk ρ i with
  | some (.own d) => ρ.set i (some (.dat d))
  | _ => ρ
def gFz (i : Nat) (T : DTS) : DTS := fun G ρ => T G (fz i ρ)
theorem dfz (i : Nat) (h : DS X st T) : DS X st (gFz i T) := by
  obtain ⟨_, p1, s1⟩ := h.ex
  refine ⟨_, p1, fun C S σ H ρ E G R q n r b c => ?_⟩
  unfold gFz fz at q
  cases e : lk ρ i with
  | none => rw [e] at q; exact s1 C S σ H ρ E G R q n r b c
  | some cl =>
    cases cl with
    | own d =>
      rw [e] at q
      obtain ⟨S', h1, h2, R'⟩ := R.freeze (lk_get e)
      exact s1 C S' σ H _ E G R' q n r b c
    | dat d => rw [e] at q; exact s1 C S σ H ρ E G R q n r b c
    | srcR => rw [e] at q; exact s1 C S σ H ρ E G R q n r b c
/-- for -/
def gFor (gi : DTI) (gd : DTG) (T : DTS) : DTS := fun G ρ => gi ρ fun ds ρ1 => ∃ J : Nat → Rho → Prop, J 0 ρ1 ∧ (∀ i d ρ2, ds[i]? = some d → J i ρ2 → gd d ρ2 fun ρ3 => T { G with nx := J (i + 1), ct := J (i + 1), bk := G.nx } ρ3) ∧ ∀ ρ2, J ds.length ρ2 → G.nx ρ2
theorem dfor {tg iter : Expr} {body : List Stmt} {gi : DTI} {gd : DTG} {is : List Nat} {w : Bool} (hp : PassesOwn (model X.prog X.w) X.A X.env X.xe) (hc : X.calm = true) (hi : DI X tg iter gi) (hg : DG X tg gd is w) (hb : DSs X body T)
    (hs : ∀ x, foldedSetIterable iter X.env x = pure x := by intro _; rfl) : DS X (.For tg iter body [] pos) (gFor gi gd T) := by
  obtain ⟨wi, pi, si⟩ := hi.ex
  obtain ⟨tg', pg, sg⟩ := hg.ex
  obtain ⟨tb, pb, sb⟩ := hb.ex
  refine ⟨_, ps_for hp hc pi pg pb hs, fun C S σ H ρ E G R q n r b c => si C S σ H ρ _ _ R q fun J H1 ds ρ1 vs f1 R1 hv W ⟨Iv, h0, hstep, hend⟩ => ?_⟩
  refine ⟨fun i m σ2 H2 => m = ds.length - i ∧ i ≤ ds.length ∧ ∃ S2 ρ2, RS X.K (C.pin vs) S2 σ2 H2 ρ2 ∧ Iv i ρ2, ⟨ds.length, by omega, Nat.zero_le _, S, ρ1, R1.pin hv, h0⟩, ?_⟩
  rintro i m σ2 H2 ⟨rfl, hi, S2, ρ2, R2, hI⟩
  have hv2 := R2.unpin.2
  by_cases hlt : i < ds.length
  · refine .inr ⟨W.go S2 H2 i hv2 hlt, fun σ' H' => i + 1 ≤ ds.length ∧ ∃ S2 ρ2, RS X.K (C.pin vs) S2 σ' H' ρ2 ∧ Iv (i + 1) ρ2, fun σ' H' h => ⟨ds.length - (i + 1), by omega, rfl, h⟩, fun x H3 hy => ?_⟩
    have hd : ds[i]? = some ds[i] := List.getElem?_eq_getElem hlt
    obtain ⟨e3, r3⟩ := W.yl S2 H2 i x H3 _ (fun p hp => R2.notS hp) hv2 hd hy
    refine sg (C.pin vs) S2 σ2 H3 ρ2 x _ _ _ (R2.ext e3) r3 (hstep i _ ρ2 hd hI) fun σ4 H4 ρ4 f4 R4 _ q4 => ?_
    exact sb (C.pin vs) S2 σ4 H4 ρ4 _ { G with nx := Iv (i + 1), ct := Iv (i + 1), bk := G.nx } R4 q4 (fun S' σ' H' ρ' R' q' => ⟨hlt, S', ρ', R', q'⟩) (fun S' σ' H' ρ' v d R' rv q' => r S' σ' H' ρ' v d R'.unpin.1 rv q')
      (fun S' σ' H' ρ' R' q' => n S' σ' H' ρ' R'.unpin.1 q') (fun S' σ' H' ρ' R' q' => ⟨hlt, S', ρ', R', q'⟩)
  · have e : i = ds.length := by omega
    subst e
    exact .inl ⟨W.st S2 H2 hv2, n S2 σ2 H2 ρ2 R2.unpin.1 (hend ρ2 hI)⟩
/-- while -/
def gWhile (c : DTT) (T : DTS) : DTS := fun G ρ => ∃ J : Nat → Rho → Prop, (∃ m, J m ρ) ∧ ∀ m ρ2, J m ρ2 → c ρ2 fun b ρ3 => if b = true then T { G with nx := fun ρ' => ∃ m', m' < m ∧ J m' ρ', ct := fun ρ' => ∃ m', m' < m ∧ J m' ρ', bk := G.nx } ρ3 else G.nx ρ3
theorem dwhile {t : Expr} {tc : DTT} {body : List Stmt} (hp : PassesOwn (model X.prog X.w) X.A X.env X.xe) (hc : DT X t tc) (hb : DSs X body T) : DS X (.While t body [] pos) (gWhile tc T) := by
  obtain ⟨_, p1, s1⟩ := hc.ex
  obtain ⟨_, p2, s2⟩ := hb.ex
  refine ⟨_, ps_while hp p1 p2, fun C S σ H ρ E G R q n r b c => ?_⟩
  obtain ⟨J, ⟨m0, j0⟩, step⟩ := q
  refine ⟨fun m σ2 H2 => ∃ S2 ρ2, RS X.K C S2 σ2 H2 ρ2 ∧ J m ρ2, ⟨m0, S, ρ, R, j0⟩, ?_⟩
  rintro m σ2 H2 ⟨S2, ρ2, R2, hJ⟩
  refine s1 C S2 σ2 H2 ρ2 _ _ R2 (step m ρ2 hJ) fun d H' ρ' f1 R1 q1 => ?_
  cases d with
  | true =>
    refine iteT ⟨fun σ' H' => ∃ m', m' < m ∧ ∃ S2 ρ2, RS X.K C S2 σ' H' ρ2 ∧ J m' ρ2, fun σ' H' h => h, ?_⟩
    have nn : ∀ (S' : Vol) (σ' : VStore) (H' : Hp) (ρ' : Rho), RS X.K C S' σ' H' ρ' → (∃ m', m' < m ∧ J m' ρ') → ∃ m', m' < m ∧ ∃ S2 ρ2, RS X.K C S2 σ' H' ρ2 ∧ J m' ρ2 := fun S' σ' H' ρ' R' ⟨m', hm, j⟩ => ⟨m', hm, S', ρ', R', j⟩
    exact s2 C S2 σ2 H' ρ' _ { G with nx := fun ρ' => ∃ m', m' < m ∧ J m' ρ', ct := fun ρ' => ∃ m', m' < m ∧ J m' ρ', bk := G.nx } R1 (unT q1) nn r n nn
  | false => exact iteF (n S2 σ2 H' ρ' R1 (unF q1))

/-! ## defs -/
structure Spec where
  n : Nat
  w : List D → (D → Prop) → Prop
  len : ∀ ds Q, w ds Q → ds.length = n
  mono : ∀ ds (Q Q' : D → Prop), w ds Q → (∀ d, Q d → Q' d) → w ds Q'
/-- one answer to each -/
abbrev Spec.det {α : Type} (n : Nat) (enc : α → List D) (pre : α → Prop) (r : α → D) (hl : ∀ x, (enc x).length = n := by intro x; rfl) : Spec where
  n := n
  w := fun ds Q => ∃ x, ds = enc x ∧ pre x ∧ Q (r x)
  len := fun ds Q ⟨x, h, _⟩ => by rw [h, hl]
  mono := fun ds Q Q' ⟨x, h, p, q⟩ f => ⟨x, h, p, f _ q⟩
/-- any of some answers -/
abbrev Spec.any {α : Type} (n : Nat) (enc : α → List D) (pre : α → Prop) (r : α → D → Prop) (hl : ∀ x, (enc x).length = n := by intro x; rfl) : Spec where
  n := n
  w := fun ds Q => ∃ x, ds = enc x ∧ pre x ∧ ∀ d, r x d → Q d
  len := fun ds Q ⟨x, h, _⟩ => by rw [h, hl]
  mono := fun ds Q Q' ⟨x, h, p, q⟩ f => ⟨x, h, p, fun d hd => f _ (q d hd)⟩
def spP (K : PySem.W.Frag) (sp : Spec) : Sp := fun vs H Q _ => ∃ (S : Vol) (ds : List D), (∀ a, S a → ∃ o, H a = some o) ∧ RpA K S H vs ds ∧ sp.w ds fun d => ∀ v H', Ext H H' → Rp K S H' v d → Q v H'
def spS (K : PySem.W.Frag) (sp : Spec) : Sp := fun vs H Q _ => ∃ (S : Vol) (a c : Addr) (ws : List V) (ds : List D), vs = .ref a :: ws ∧ (∀ a, S a → ∃ o, H a = some o) ∧ a ≠ c ∧ S a ∧ S c ∧ SrcOk H a c ∧ RpA K S H ws ds ∧
  sp.w ds fun d => ∀ v H', (∀ b o, H b = some o → b ≠ a → b ≠ c → H' b = some o) → SrcOk H' a c → Rp K S H' v d → Q v H'
def startR (N : List Str) (cs : List Cl) : Rho := cs.map some ++ List.replicate (N.length - cs.length) none
theorem start_get {N : List Str} {vs : List V} {i : Nat} {v : V} (h : vs[i]? = some v) : (start N vs)[i]? = some (some v) := by
  unfold L2.start
  rw [List.getElem?_append_left (by rw [List.length_map]; exact (List.getElem?_eq_some_iff.mp h).1), List.getElem?_map, h]
  rfl
theorem startR_get {N : List Str} {cs : List Cl} {i : Nat} {c : Cl} (h : (startR N cs)[i]? = some (some c)) : cs[i]? = some c := by
  unfold startR at h
  by_cases hi : i < cs.length
  · rw [List.getElem?_append_left (by rw [List.length_map]; exact hi), List.getElem?_map, List.getElem?_eq_getElem hi] at h
    rw [List.getElem?_eq_getElem hi]
    simpa using h
  · rw [List.getElem?_append_right (by simpa using hi), List.getElem?_replicate] at h
    split at h <;> cases h
theorem startR_len {N : List Str} {cs : List Cl} {vs : List V} (h : vs.length = cs.length) : (start N vs).length = (startR N cs).length := by
  unfold L2.start startR
  simp [h]
section
variable {P : Program} {wo : World} {mg : Str → Option Value} {base : Heap} {x qual : Str} {f : Addr} {fd : FuncData} {N ps : List Str} {k : Nat} {sp : Spec}
theorem fnP (F : Fun K x qual st f fd) (sc : FnScope N ps (defScope st)) (hn : sp.n = ps.length)
    (hb : ∀ (cdv : Value) (A : Around) (outer : List Env) (s : Shared) (H : Hp) (E : XK), RoomG k (A.deeper (envOfC qual (defScope st) s.heap.objs.size f cdv)) → DSs (cxOf CX0 P wo K mg base N qual (defScope st) f cdv A outer s H E).nox (defBody st) T)
    (h : ∀ ds Q, sp.w ds Q → T { nx := fun _ => Q .none, rt := fun d _ => Q d } (startR N (ds.map .dat))) : FnG P wo K mg base CX0 (k + 1) f fd ps (spP K sp) := by
  obtain ⟨oc, od, kV, doc, pm, an, cdv, ct, osl, rfl, lk, hcd⟩ := F.ex
  have hlen : ∀ vs H Q E, spP K sp vs H Q E → vs.length = ps.length := fun vs H Q E ⟨S, ds, _, r, w⟩ => by rw [r.len, sp.len ds _ w, hn]
  refine fnG_of lk hcd sc hlen fun A outer s H vs Q E hr hsp => ?_
  obtain ⟨t, pt, s⟩ := (hb cdv A outer s H E hr).ex
  obtain ⟨S, ds, al, ra, w⟩ := hsp
  refine ⟨t, pt.nox, ?_⟩
  have R : RS K { H0 := H, S0 := S, sa := none, vs := [], pr := fun _ => False } S (start N vs) H (startR N (ds.map .dat)) := by
    refine ⟨startR_len (by rw [List.length_map]; exact ra.len), fun a o h _ => h, al, fun a h => h.elim, fun a h => ⟨h, al a h⟩, fun i c e => ?_, fun i j o o' q _ e1 _ _ _ => ?_, fun q h => by simp at h, fun a c h => by cases h⟩
    · have e' := startR_get e
      rw [List.getElem?_map] at e'
      cases hd : ds[i]? with
      | none => rw [hd] at e'; cases e'
      | some d =>
        rw [hd] at e'
        cases e'
        obtain ⟨v, hv, rv⟩ := ra.get hd
        exact ⟨v, start_get hv, rv⟩
    · have e' := startR_get e1
      rw [List.getElem?_map] at e'
      cases hd : ds[i]? <;> (rw [hd] at e'; cases e')
  have ext : ∀ {S' : Vol} {σ' : VStore} {H' : Hp} {ρ' : Rho}, RS K { H0 := H, S0 := S, sa := none, vs := [], pr := fun _ => False } S' σ' H' ρ' → Ext H H' := fun R' a o e => R'.fr a o e fun ⟨_, _, z, _⟩ => by cases z
  refine s _ S _ H _ _ _ R (h ds _ w) (fun S' σ' H' ρ' R' q => q _ H' (ext R') .non) (fun S' σ' H' ρ' v d R' rv q => q v H' (ext R') (rv.anti fun a h => (R'.a0 a h).1)) (fun S' σ' H' ρ' R' q => q.elim) fun S' σ' H' ρ' R' q => q.elim
/-- a def whose first parameter is the source -/
theorem fnS (F : Fun K x qual st f fd) (sc : FnScope N ps (defScope st)) (hn : sp.n + 1 = ps.length)
    (hb : ∀ (cdv : Value) (A : Around) (outer : List Env) (s : Shared) (H : Hp) (E : XK), RoomG k (A.deeper (envOfC qual (defScope st) s.heap.objs.size f cdv)) → DSs (cxOf CX0 P wo K mg base N qual (defScope st) f cdv A outer s H E).nox (defBody st) T)
    (h : ∀ ds Q, sp.w ds Q → T { nx := fun _ => Q .none, rt := fun d _ => Q d } (startR N (.srcR :: ds.map .dat))) : FnG P wo K mg base CX0 (k + 1) f fd ps (spS K sp) := by
  obtain ⟨oc, od, kV, doc, pm, an, cdv, ct, osl, rfl, lk, hcd⟩ := F.ex
  have hlen : ∀ vs H Q E, spS K sp vs H Q E → vs.length = ps.length := fun vs H Q E ⟨S, a, c, ws, ds, e, _, _, _, _, _, r, w⟩ => by rw [e, List.length_cons, r.len, sp.len ds _ w, hn]
  refine fnG_of lk hcd sc hlen fun A outer s H vs Q E hr hsp => ?_
  obtain ⟨t, pt, s⟩ := (hb cdv A outer s H E hr).ex
  obtain ⟨S, a, c, ws, ds, rfl, al, hac, sa, sc', so, ra, w⟩ := hsp
  refine ⟨t, pt.nox, ?_⟩
  have R : RS K { H0 := H, S0 := S, sa := some (a, c), vs := [], pr := fun _ => False } S (start N (.ref a :: ws)) H (startR N (.srcR :: ds.map .dat)) := by
    refine ⟨startR_len (by simp [ra.len]), fun a o h _ => h, al, fun a h => h.elim, fun a h => ⟨h, al a h⟩, fun i cl e => ?_, fun i j o o' q _ e1 _ _ _ => ?_, fun q h => by simp at h, fun a' c' h => ?_⟩
    · have e' := startR_get e
      cases i with
      | zero =>
        cases e'
        exact ⟨.ref a, rfl, a, c, rfl, rfl⟩
      | succ i =>
        rw [List.getElem?_cons_succ, List.getElem?_map] at e'
        cases hd : ds[i]? with
        | none => rw [hd] at e'; cases e'
        | some d =>
          rw [hd] at e'
          cases e'
          obtain ⟨v, hv, rv⟩ := ra.get hd
          exact ⟨v, start_get (by simpa using hv), rv⟩
    · have e' := startR_get e1
      cases i with
      | zero => cases e'
      | succ i =>
        rw [List.getElem?_cons_succ, List.getElem?_map] at e'
        cases hd : ds[i]? <;> (rw [hd] at e'; cases e')
    · cases h
      exact ⟨hac, sa, sc', fun z => z, fun z => z, so⟩
  have ext : ∀ {S' : Vol} {σ' : VStore} {H' : Hp} {ρ' : Rho}, RS K { H0 := H, S0 := S, sa := some (a, c), vs := [], pr := fun _ => False } S' σ' H' ρ' → ∀ b o, H b = some o → b ≠ a → b ≠ c → H' b = some o := fun R' b o e n1 n2 => R'.fr b o e fun ⟨_, _, z, h⟩ => by
    cases z
    exact h.elim n1 n2
  refine s _ S _ H _ _ _ R (h ds _ w) (fun S' σ' H' ρ' R' q => q _ H' (ext R') (R'.src a c rfl).2.2.2.2.2 .non) (fun S' σ' H' ρ' v d R' rv q => q v H' (ext R') (R'.src a c rfl).2.2.2.2.2 (rv.anti fun a h => (R'.a0 a h).1)) (fun S' σ' H' ρ' R' q => q.elim) fun S' σ' H' ρ' R' q => q.elim
end
/-! ## calls -/
def gCall (sp : Spec) (l : DTA) : DTE := fun ρ Q => l ρ fun ds ρ' => sp.w ds fun d => Q d ρ'
def gCallS (sp : Spec) (i : Nat) (l : DTA) : DTE := fun ρ Q => lk ρ i = some .srcR ∧ l ρ fun ds ρ' => lk ρ' i = some .srcR ∧ sp.w ds fun d => Q d ρ'
section
variable {k : Nat} {f : Addr} {fd : FuncData} {ps : List Str} {sp : Spec} {x : Str} {e : Expr}
theorem dcall (F : FnG X.prog X.w X.K X.mg X.base CX0 k f fd ps (spP X.K sp)) (hr : RoomG k X.A) (hm : X.mg x = some (.ref f)) (hk : PySem.W.keepIn X.K (.ref f) = true) (hb : Binds X.K fd ps []) (ha : DA X (e :: es) l)
    (hg : Gl X x := by rfl) (hdb : (x == ("__debug__" : Str)) = false := by decide) (he : starEach (e :: es) X.env = (false, eval e X.env) :: starEach es X.env := by rfl) (hpl : (backTo pos (starEach es X.env)).any (·.1) = false := by rfl) :
    DE X (.Call (.Name x p) (e :: es) [] pos) (gCall sp l) := by
  obtain ⟨t, pa, sa⟩ := ha.ex
  refine ⟨_, pe_callG F hr hg hm hk hb .nil pass0 pa hdb he hpl, fun C S σ H ρ Q k R q fk => sa C S σ H ρ _ _ R q fun vs H1 ds ρ1 f1 R1 r1 h => ?_⟩
  refine ⟨S, ds, R1.al, by rw [List.append_nil]; exact r1, sp.mono ds _ _ h fun d hq v H' e2 rv => fk v H' d ρ1 (f1.trans (.of e2)) (R1.ext e2) rv hq⟩
theorem RS.srcNew {C : Ctx} {S : Vol} {σ : VStore} {H H' : Hp} {ρ : Rho} {a c : Addr} (R : RS K C S σ H ρ) (hs : C.sa = some (a, c)) (e : ∀ b o, H b = some o → b ≠ a → b ≠ c → H' b = some o) (so : SrcOk H' a c) : RS K C S σ H' ρ ∧ Fr C S H H' := by
  obtain ⟨z1, z2, z3, z4, z5, z6⟩ := R.src a c hs
  have mA : C.M a := ⟨a, c, hs, .inl rfl⟩
  have mC : C.M c := ⟨a, c, hs, .inr rfl⟩
  have fr : ∀ b o, H b = some o → ¬ S b → H' b = some o := fun b o h n => e b o h (fun z => n (z ▸ z2)) fun z => n (z ▸ z3)
  have there : ∀ b o, H b = some o → ∃ o', H' b = some o' := fun b o h => by
    by_cases h1 : b = a
    · obtain ⟨_, _, _, _, q, _⟩ := so
      rw [h1]; exact ⟨_, q⟩
    · by_cases h2 : b = c
      · obtain ⟨_, _, _, _, _, q, _⟩ := so
        rw [h2]; exact ⟨_, q⟩
      · exact ⟨o, e b o h h1 h2⟩
  refine ⟨⟨R.len, fun b o h m => e b o (R.fr b o h m) (fun z => m (z ▸ mA)) fun z => m (z ▸ mC), fun b h => let ⟨o, q⟩ := R.al b h; there b o q, fun b h => let ⟨o, q⟩ := R.pa b h; there b o q, R.a0, fun i cl h => ?_, R.dst, fun q h => (R.vok q h).mv fr fun _ s => .inl s, fun a' c' h => ?_⟩, fun b o h n => ?_⟩
  · obtain ⟨v, h1, h2⟩ := R.ent i cl h
    refine ⟨v, h1, h2.mv fr (fun _ s => .inl s) (fun _ s => s) fun p o hv hc u hu => ?_⟩
    subst hv hc
    obtain ⟨p', e', _, _, nm, _⟩ := h2
    cases e'
    exact e p u hu (fun z => nm (z ▸ mA)) fun z => nm (z ▸ mC)
  · rw [hs] at h
    cases h
    exact ⟨z1, z2, z3, z4, z5, so⟩
  · rcases n with n | n
    · exact fr b o h n
    · exact e b o h (fun z => z4 (z ▸ n)) fun z => z5 (z ▸ n)
theorem dcallS (i : Nat) {sx : Str} {psx : Pos} (F : FnG X.prog X.w X.K X.mg X.base CX0 k f fd ps (spS X.K sp)) (hr : RoomG k X.A) (hm : X.mg x = some (.ref f)) (hk : PySem.W.keepIn X.K (.ref f) = true) (hb : Binds X.K fd ps []) (ha : DA X es l)
    (hg : Gl X x := by rfl) (hdb : (x == ("__debug__" : Str)) = false := by decide) (he : starEach (.Name sx psx :: es) X.env = (false, eval (.Name sx psx) X.env) :: starEach es X.env := by rfl) (hpl : (backTo pos (starEach es X.env)).any (·.1) = false := by rfl)
    (hN : X.N[i]? = some sx := by rfl) (hv : Vis X.env.scope sx := by first | exact Or.inl rfl | exact Or.inr (Or.inl rfl) | exact Or.inr (Or.inr rfl)) (hd : (sx == ("__debug__" : Str)) = false := by decide) (hcd : (sx == ("__classdict__" : Str)) = false := by decide) :
    DE X (.Call (.Name x p) (.Name sx psx :: es) [] pos) (gCallS sp i l) := by
  obtain ⟨t, pa, sa⟩ := ha.ex
  refine ⟨_, pe_callG F hr hg hm hk hb .nil pass0 (pa_cons (pe_var hN hv hd hcd) pa he) hdb he hpl, fun C S σ H ρ Q k R q fk => ?_⟩
  obtain ⟨h0, q⟩ := q
  obtain ⟨v, e0, a, c, hs, rfl⟩ := R.ent i _ (lk_get h0)
  refine ⟨_, e0, sa C S σ H ρ _ _ R q fun vs H1 ds ρ1 f1 R1 r1 h => ?_⟩
  obtain ⟨z1, z2, z3, z4, z5, z6⟩ := R1.src a c hs
  refine ⟨S, a, c, vs, ds, by rw [List.append_nil], R1.al, z1, z2, z3, z6, r1, sp.mono ds _ _ h.2 fun d hq v H' e2 so rv => ?_⟩
  obtain ⟨R2, f2⟩ := R1.srcNew hs e2 so
  exact fk v H' d ρ1 (f1.trans f2) R2 rv hq
end
end
end Gw
namespace Gw
open PySem PySem.Spec PyProof.Rows L2

/-! ## sorted -/
section
variable {prog : Program} {w : World} {A : Around} {E : Value → Shared → Prop} {s : Shared}
theorem collectTup {l : Addr} {o : Obj} {n : Nat} {vs : List Value} {Q : List Value → Shared → Prop} (ho : s.heap.get? l = some o) (hc : o.cls = .type "tuple") (hd : o.data = .seq vs.toArray n) (hz : vs.length ≤ sizeLine)
    (h : Q vs { s with heap := (s.heap.push (seqObj "list" #[] 0)).update s.heap.objs.size (Obj.mapSeq (· ++ vs.toArray)) }) : wpAny (model prog w) A (collect (.ref l)) Q E s := by
  unfold collect
  refine wpAny_bind (wpAny_runValue (codeAny_builtin PySem.F.entry_proto_collect ?_))
  rw [Around.under_plainId PySem.F.plain_proto_collect _]
  refine show wpAny _ A.in1 (newList [] >>= fun x => again (.builtin "list.__iadd__" ⟨[x, .ref l], []⟩)) _ _ s from wpAny_bind (wpAny_newObj_type ?_)
  refine wpAny_pure ⟨plainId_quiet PySem.F.plain_list_iadd _, codeAny_builtin PySem.F.entry_list_iadd ?_⟩
  rw [Around.under_plainId PySem.F.plain_list_iadd _]
  have hN : (s.heap.push (seqObj "list" #[] 0)).get? s.heap.objs.size = some (seqObj "list" #[] 0) := Heap.get?_push_size _ rfl
  have hU : ((s.heap.push (seqObj "list" #[] 0)).update s.heap.objs.size (Obj.mapSeq (· ++ vs.toArray))).get? s.heap.objs.size = some (Obj.mapSeq (· ++ vs.toArray) (seqObj "list" #[] 0)) := Heap.get?_update_self _ hN rfl
  have last : wpAny (model prog w) A (match Value.ref s.heap.objs.size with
      | Value.ref a => (load a >>= fun ob => match ob.data with
          | Data.seq xs _ => pure xs.toList
          | _ => unsupported "internal:collect")
      | _ => unsupported "internal:collect") Q E { s with heap := (s.heap.push (seqObj "list" #[] 0)).update s.heap.objs.size (Obj.mapSeq (· ++ vs.toArray)) } := by
    refine show wpAny _ A (load s.heap.objs.size >>= _) _ _ _ from wpAny_bind (wpAny_load hU ?_)
    refine show wpAny _ A (pure ((#[] : Array Value) ++ vs.toArray).toList) Q E _ from wpAny_pure ?_
    have z : ((#[] : Array Value) ++ vs.toArray).toList = vs := by simp
    rw [z]
    exact h
  refine wpAny_mono (wpAny_extend_seq (A := A) (s := { s with heap := s.heap.push (seqObj "list" #[] 0) }) (R := fun r t => r = .ok (.ret (.ref s.heap.objs.size)) ∧ t = { s with heap := (s.heap.push (seqObj "list" #[] 0)).update s.heap.objs.size (Obj.mapSeq (· ++ vs.toArray)) })
    _ l _ 0 (.inr rfl) hN (Heap.get?_push_of_some _ ho) hc hd ⟨rfl, rfl⟩ (by simpa using hz)) (fun f t ht => ?_) fun e t ht => absurd ht.1 (by simp)
  match f, ht with
  | .done f, ⟨e, z⟩ =>
    subst z
    cases e
    exact last
  | .again c, ht => exact ⟨ht.1, codeAny_mono ht.2 fun r t z => by
      obtain ⟨rfl, rfl⟩ := z
      exact last⟩
open PySem.W in
theorem sortedTup {l : Addr} {o : Obj} {n : Nat} {vs : List Value} {κ : PyProof.Rows.KeyKind} {Q : Value → Shared → Prop} (ho : s.heap.get? l = some o) (hc : o.cls = .type "tuple") (hd : o.data = .seq vs.toArray n) (hz : vs.length ≤ sizeLine)
    (S : SortsAt prog w A.in1.in1 { s with heap := sortingHeap (copyHeap s.heap vs) (s.heap.objs.size + 1) vs } κ vs)
    (h : Q (.ref (s.heap.objs.size + 1)) { s with heap := sortedAll s.heap vs (sortVals κ false vs vs).toArray }) : wpAny (model prog w) A (call (.builtin "sorted") [.ref l]) Q E s := by
  refine Calls.call_function_entry kind_sorted plain_sorted entry_sorted (args_sorted1 _) ?_
  unfold Builtin.«sorted»
  refine wpAny_bind (m := checkCount "sorted" 1 1 _) (wpAny_pure (wpAny_bind (collectTup ho hc hd hz (wpAny_bind (wpAny_newList ?_ hz)))))
  have e : ((s.heap.push (seqObj "list" #[] 0)).update s.heap.objs.size (Obj.mapSeq (· ++ vs.toArray))).objs.size = s.heap.objs.size + 1 := by
    rw [Heap.size_update, size_push']
  rw [e]
  refine show wpAny _ _ _ _ _ { s with heap := copyHeap s.heap vs } from wpAny_bind (wpAny_holding (wpAny_call_entry slot_list_sort ⟨_, copyHeap_at s.heap vs, rfl⟩ entry_list_sort ?_ (args_list_sort _)))
  exact list_sort_vals (s := { s with heap := copyHeap s.heap vs }) (copyHeap_at s.heap vs) S hz ⟨_, rfl, wpAny_pure ⟨_, rfl, h⟩⟩
end

/-! ### sorted of data that are alike -/
open PySem.W in
abbrev sorD (ds : List D) : List D := ds.mergeSort (dataLe false (fun d : D => d))
theorem Vals.each : ∀ {bs : List (D × V)} {us : List Value}, Vals (bs.map Prod.snd) us → PySem.W.EachIs (fun u (b : D × V) => RelV b.2 u) us bs
  | [], [], _ => .nil
  | b :: bs, u :: us, h => by
    cases h with
    | cons r t => exact .cons r (Vals.each t)
  | [], u :: us, h => by cases h
  | b :: bs, [], h => by cases h
theorem each_vals : ∀ {bs : List (D × V)} {us : List Value}, PySem.W.EachIs (fun u (b : D × V) => RelV b.2 u) us bs → Vals (bs.map Prod.snd) us
  | _, _, .nil => .nil
  | _, _, .cons r t => .cons r (each_vals t)
theorem each_and {α β : Type} {R R' : α → β → Prop} : ∀ {as : List α} {bs : List β}, PySem.W.EachIs R as bs → (∀ a b, b ∈ bs → R a b → R' a b) → PySem.W.EachIs R' as bs
  | _, _, .nil, _ => .nil
  | _, _, .cons r t, h => .cons (h _ _ List.mem_cons_self r) (each_and t fun a b m => h a b (List.mem_cons_of_mem _ m))
theorem RpA.zipD {K : PySem.W.Frag} {S : Vol} {H : Hp} : ∀ {xs : List V} {ds : List D}, RpA K S H xs ds → (ds.zip xs).map Prod.fst = ds ∧ (ds.zip xs).map Prod.snd = xs ∧ ∀ b ∈ ds.zip xs, Rp K S H b.2 b.1
  | [], [], _ => ⟨rfl, rfl, fun b h => by cases h⟩
  | x :: xs, d :: ds, h => by
    cases h with
    | cons r t =>
      obtain ⟨h1, h2, h3⟩ := RpA.zipD t
      exact ⟨by simp [h1], by simp [h2], fun b m => by
        rcases List.mem_cons.mp m with rfl | m
        · exact r
        · exact h3 b m⟩
  | [], d :: ds, h => by cases h
  | x :: xs, [], h => by cases h
theorem RpA.ofZip {K : PySem.W.Frag} {S : Vol} {H : Hp} : ∀ {bs : List (D × V)}, (∀ b ∈ bs, Rp K S H b.2 b.1) → RpA K S H (bs.map Prod.snd) (bs.map Prod.fst)
  | [], _ => .nil
  | b :: bs, h => .cons (h b List.mem_cons_self) (RpA.ofZip fun c m => h c (List.mem_cons_of_mem _ m))
/-- one thing alone can be sorted, too -/
def SortX (ds : List D) : Prop := PySem.W.Sortable ds ∨ ∃ d, ds = [d] ∧ d ≠ .none
open PySem.W in
theorem sortsX {prog : Program} {w : World} {A : Around} {s : Shared} {vs : List Value} {ds : List D} (e : EachIs (fun v d => ∃ as, Reads s.heap v d as) vs ds) (hal : AllAlike ds) (hk : SortX ds) (hu : ∀ d, d ∈ ds → A.units + d.depth < cLine) : SortsAt prog w A s (dataKind s.heap ds) vs := by
  rcases hk with hk | ⟨d0, rfl, hn⟩
  · exact SortsAt.data e hal hk hu
  · refine ⟨fun v hv => ?_, general', ?_, fun h2 => ?_⟩
    · obtain ⟨d, hd, as, r⟩ := e.left v hv
      exact ⟨_, dataKind_some hal hd r⟩
    · intro E x y a b Q ha hb hq
      obtain ⟨d, as, hd, ra, rfl⟩ := dataKind_inv ha
      obtain ⟨d', as', hd', rb, rfl⟩ := dataKind_inv hb
      have e1 : d = d0 := List.mem_singleton.mp hd
      have room : A.units + min d.depth d'.depth < cLine := Nat.lt_of_le_of_lt (Nat.add_le_add_left (Nat.min_le_left _ _) _) (hu d hd)
      show wpAny _ _ (oneLt' false x y) _ _ _
      exact oneLt_alike (fun z => nomatch z) ra rb (hal d hd d' hd') (by rw [e1]; exact hn) room hq
    · cases e with
      | cons _ t => cases t; simp at h2
section
variable {X : Cx}
open PySem.W in
def rSortD (K : PySem.W.Frag) : List V → Hp → VK → Prop := fun xs H Q => ∃ (a : Addr) (bs : List (D × V)), xs = [.ref a] ∧ (SqL K H a (bs.map Prod.snd) ∨ SqT K H a (bs.map Prod.snd)) ∧ (∀ b ∈ bs, Dp K H b.2 b.1) ∧
  AllAlike (bs.map Prod.fst) ∧ SortX (bs.map Prod.fst) ∧ (∀ b ∈ bs, b.1.depth ≤ 60) ∧ ∀ p, H p = none → Q (.ref p) (upd H p (.lst ((bs.mergeSort (dataLe false Prod.fst)).map Prod.snd)))
open PySem.W in
theorem cr_sortD (hu : X.A.units + 64 < cLine) : CallR X (.builtin "sorted") (rSortD X.K) := by
  intro pins s σ H xs us Q I r h
  obtain ⟨a, bs, rfl, hs, hd, hal, hk, hdp, q⟩ := h
  obtain rfl := Vals.ref1 r
  have each : ∀ its : List Value, Vals (bs.map Prod.snd) its → EachIs (fun v b => ∃ as, Reads (sortingHeap (copyHeap s.heap its) (s.heap.objs.size + 1) its) v b.1 as) its bs := fun its rv =>
    each_and (Vals.each rv) fun u b m ru => by
      obtain ⟨as, rd⟩ := Dp.reads I b.1 b.2 u (hd b m) ru
      exact ⟨as, PyProof.Rows.Reads.keeps (fun _ _ => sorting_copy_old) rd⟩
  have sat : ∀ its : List Value, Vals (bs.map Prod.snd) its → SortsAt X.prog X.w X.A.in1.in1 { s with heap := sortingHeap (copyHeap s.heap its) (s.heap.objs.size + 1) its } (dataKind (sortingHeap (copyHeap s.heap its) (s.heap.objs.size + 1) its) (bs.map Prod.fst)) its := fun its rv =>
    sortsX (s := { s with heap := sortingHeap (copyHeap s.heap its) (s.heap.objs.size + 1) its }) (each_map (R := fun v d => ∃ as, Reads (sortingHeap (copyHeap s.heap its) (s.heap.objs.size + 1) its) v d as) Prod.fst (each its rv)) hal hk fun d hm => by
      obtain ⟨b, hb, rfl⟩ := List.mem_map.mp hm
      have := hdp b hb
      show X.A.units + 1 + 1 + b.1.depth < cLine
      omega
  have fin : ∀ its : List Value, Vals (bs.map Prod.snd) its → its.length ≤ sizeLine → EP X pins σ Q (.ref (s.heap.objs.size + 1)) { s with heap := sortedAll s.heap its (sortVals (dataKind (sortingHeap (copyHeap s.heap its) (s.heap.objs.size + 1) its) (bs.map Prod.fst)) false its its).toArray } := by
    intro its rv hz
    have out := sortVals_data (enc := Prod.fst) (R := fun u (b : D × V) => RelV b.2 u) false (Vals.each rv) (each its rv) hal
    obtain ⟨ep, he⟩ := PyProof.Rows.sortedAll_at s.heap its (sortVals (dataKind (sortingHeap (copyHeap s.heap its) (s.heap.objs.size + 1) its) (bs.map Prod.fst)) false its its).toArray
    have hl : ((bs.mergeSort (dataLe false Prod.fst)).map Prod.snd).length ≤ sizeLine := by
      rw [List.length_map, (List.mergeSort_perm _ _).length_eq]
      have e := rv.length
      rw [List.length_map] at e
      omega
    exact ⟨.ref _, upd H (s.heap.objs.size + 1) (.lst ((bs.mergeSort (dataLe false Prod.fst)).map Prod.snd)), I.laid (t' := s.toks) (fun _ _ => PyProof.Rows.sortedAll_old) (Nat.le_succ _) ⟨hl, _, ep, each_vals out, he⟩, rfl, q _ (I.hok.fresh (Nat.le_succ _))⟩
  rcases hs with hs | hs
  · obtain ⟨its, rv, hl, hz⟩ := I.list hs
    have hz' : its.length ≤ sizeLine := by rw [← rv.length]; exact hz
    exact sorted_vals hl.isList (sat its rv) hz' (fin its rv hz')
  · obtain ⟨its, rv, ht, hz⟩ := I.tuple hs
    have hz' : its.length ≤ sizeLine := by rw [← rv.length]; exact hz
    obtain ⟨o, ho, hc, n, hdt⟩ := ht
    exact sortedTup ho hc hdt hz' (sat its rv) (fin its rv hz')
open PySem.W in
def sorU : DU := fun d Q => ∃ ds : List D, (d = .list ds ∨ d = .tuple ds) ∧ AllAlike ds ∧ SortX ds ∧ (∀ e ∈ ds, e.depth ≤ 60 ∧ e.canLay0 = true) ∧ Q (.list (sorD ds))
open PySem.W in
theorem csor (hu : X.A.units + 64 < cLine) : CallUF X (.builtin "sorted") sorU := by
  refine ⟨_, cr_sortD hu, fun S H x d Q k hx q hk => ?_⟩
  obtain ⟨ds, hd, hal, hs, hok, q⟩ := q
  have go : ∀ (p : Addr) (xs : List V), x = .ref p → (SqL X.K H p xs ∨ SqT X.K H p xs) → RpA X.K S H xs ds → rSortD X.K [x] H k := by
    intro p xs e h r
    obtain ⟨h1, h2, h3⟩ := RpA.zipD r
    subst e
    refine ⟨p, ds.zip xs, rfl, by rw [h2]; exact h, fun b m => (h3 b m).dp (hok _ (by rw [← h1]; exact List.mem_map.mpr ⟨b, m, rfl⟩)).2, by rw [h1]; exact hal, by rw [h1]; exact hs, fun b m => (hok _ (by rw [← h1]; exact List.mem_map.mpr ⟨b, m, rfl⟩)).1, fun z hz => ?_⟩
    have r' : RpA X.K S H (((ds.zip xs).mergeSort (dataLe false Prod.fst)).map Prod.snd) (sorD ds) := by
      have e : sorD ds = ((ds.zip xs).mergeSort (dataLe false Prod.fst)).map Prod.fst := by
        have m := sort_maps (r := dataLe false Prod.fst) (s := dataLe false (fun d : D => d)) Prod.fst (l := ds.zip xs) (fun _ _ _ _ => rfl)
        rw [m, h1]
      rw [e]
      exact RpA.ofZip fun b m => h3 b ((List.mergeSort_perm _ _).mem_iff.mp m)
    exact hk z _ _ hz r' q
  rcases hd with rfl | rfl
  · obtain ⟨p, xs, e, h, r⟩ := hx.sql
    exact go p xs e (.inl h) r
  · obtain ⟨p, xs, e, h, r⟩ := hx.sqt
    exact go p xs e (.inr h) r
end
/-! ### plain facts -/
open PySem.W in
theorem sorD_perm (ds : List D) : (sorD ds).Perm ds := List.mergeSort_perm _ _
open PySem.W in
theorem dataLe_tot : TotalLe (dataLe false (fun d : D => d)) := sortLe_total (listOrd itemOrd) false fun d : D => keyToks d
/-- where the key tells the data apart, a sorted rearrangement is the one -/
theorem pw_uniq {α : Type} {le : α → α → Bool} : ∀ {l m : List α}, (∀ x ∈ l, ∀ y ∈ l, le x y = true → le y x = true → x = y) → l.Perm m → l.Pairwise (fun a b => le a b = true) → m.Pairwise (fun a b => le a b = true) → l = m
  | [], m, _, h, _, _ => (List.Perm.eq_nil h.symm).symm
  | x :: l, [], _, h, _, _ => absurd h.length_eq (by simp)
  | x :: l, y :: m, as, h, hl, hm => by
    have pl := List.pairwise_cons.mp hl
    have pm := List.pairwise_cons.mp hm
    have e : x = y := by
      rcases List.mem_cons.mp (h.mem_iff.mp List.mem_cons_self) with e | hx
      · exact e
      · have hy := h.mem_iff.mpr (List.mem_cons_self (a := y) (l := m))
        rcases List.mem_cons.mp hy with e | hy'
        · exact e.symm
        · exact as x List.mem_cons_self y hy (pl.1 y hy') (pm.1 x hx)
    subst e
    rw [pw_uniq (fun a ha b hb => as a (List.mem_cons_of_mem _ ha) b (List.mem_cons_of_mem _ hb)) h.cons_inv pl.2 pm.2]
open PySem.W in
theorem sorD_pw (ds : List D) : (sorD ds).Pairwise (fun a b => dataLe false (fun d : D => d) a b = true) := sort_pairwise dataLe_tot ds
open PySem.W in
/-- a rearrangement that is sorted is the sorted one -/
theorem sorD_is {ds es : List D} (as : ∀ x ∈ es, ∀ y ∈ es, dataLe false (fun d : D => d) x y = true → dataLe false (fun d : D => d) y x = true → x = y) (h : es.Perm ds) (hs : es.Pairwise (fun a b => dataLe false (fun d : D => d) a b = true)) : sorD ds = es :=
  (pw_uniq as (h.trans (sorD_perm ds).symm) hs (sorD_pw ds)).symm
open PySem.W in
theorem sorD_perm_eq {ds es : List D} (as : ∀ x ∈ es, ∀ y ∈ es, dataLe false (fun d : D => d) x y = true → dataLe false (fun d : D => d) y x = true → x = y) (h : es.Perm ds) : sorD ds = sorD es :=
  sorD_is (fun x hx y hy => as x ((sorD_perm es).mem_iff.mp hx) y ((sorD_perm es).mem_iff.mp hy)) ((sorD_perm es).trans h) (sorD_pw es)
open PySem.W in
theorem leI (x y : Int) : dataLe false (fun d : D => d) (.int x) (.int y) = decide (x ≤ y) := by
  show (!dataLt (.int y) (.int x)) = _
  rw [dataLt_int]
  by_cases h : y < x <;> simp [h] <;> omega
open PySem.W in
theorem leII (x y x' y' : Int) : dataLe false (fun d : D => d) (.tuple [.int x, .int y]) (.tuple [.int x', .int y']) = decide (x < x' ∨ (x = x' ∧ y ≤ y')) := by
  show (!dataLt (.tuple [.int x', .int y']) (.tuple [.int x, .int y])) = _
  rw [dataLt_ii]
  by_cases h : x' < x ∨ (x' = x ∧ y' < y)
  · have h' : ¬ (x < x' ∨ (x = x' ∧ y ≤ y')) := by omega
    simp [h, h']
  · have h' : x < x' ∨ (x = x' ∧ y ≤ y') := by omega
    simp [h, h']
end Gw
namespace Gw
open PySem PySem.Spec PyProof.Rows L2

/-! ## the source -/
abbrev srcKs (c : Addr) (l m t : Int) : List (L2.Key × V) := [(.inr "cells", .ref c), (.inr "left", .int l), (.inr "mixed", .int m), (.inr "turn", .int t)]
def gSrc (i : Nat) (P : Int → Prop) : DTE := fun ρ Q => lk ρ i = some .srcR ∧ ∀ v, P v → Q (.int v) ρ
def gSrcPut (i : Nat) (P : Int → Prop) (g : DTE) : DTS := fun G ρ => g ρ fun d ρ1 => lk ρ1 i = some .srcR ∧ ∃ v, d = .int v ∧ P v ∧ G.nx ρ1
def gSrcRun (i j : Nat) : DTS := fun G ρ => lk ρ i = some .srcR ∧ (∃ m, lk ρ j = some (.dat (.int m))) ∧ G.nx ρ
section
variable {X : Cx} {pos : Pos}
theorem RS.srcAt {K : PySem.W.Frag} {C : Ctx} {S : Vol} {σ : VStore} {H : Hp} {ρ : Rho} {i : Nat} (R : RS K C S σ H ρ) (h : lk ρ i = some .srcR) : ∃ a c, C.sa = some (a, c) ∧ σ[i]? = some (some (.ref a)) ∧ a ≠ c ∧ SrcOk H a c := by
  obtain ⟨v, e, a, c, hs, rfl⟩ := R.ent i _ (lk_get h)
  obtain ⟨h1, _, _, _, _, h2⟩ := R.src a c hs
  exact ⟨a, c, hs, e, h1, h2⟩
theorem simSrc {K : PySem.W.Frag} (i : Nat) (x : Str) {P : Int → Prop} (hp : ∀ c l m t, 0 ≤ l → 0 ≤ m → m < 2 ^ 31 → 0 ≤ t → ∃ v, valV (srcKs c l m t) (.inr x) = some (.int v) ∧ P v) : SimE K (tDGet (tVar i) (tC (.str x))) (gSrc i P) := fun C S σ H ρ Q k R q f => by
  obtain ⟨h, q⟩ := q
  obtain ⟨a, c, hs, e, hac, cells, l, m, t, e1, e2, b1, b2, b3, b4, b5, b6⟩ := R.srcAt h
  obtain ⟨v, hv, pv⟩ := hp c l m t b3 b4 b5 b6
  refine ⟨_, e, a, .int v, rfl, ?_, f _ H _ ρ .refl R (.int v) (q v pv)⟩
  have g := DGet.k (k := .inr x) e1
  rw [hv] at g
  exact g
theorem dsrc (i : Nat) {y x : Str} {px py : Pos} {jj} {P : Int → Prop} (hu : X.A.units + 64 < cLine) (hp : ∀ c l m t, 0 ≤ l → 0 ≤ m → m < 2 ^ 31 → 0 ≤ t → ∃ v, valV (srcKs c l m t) (.inr x) = some (.int v) ∧ P v)
    (hN : X.N[i]? = some y := by rfl) (hv : Vis X.env.scope y := by first | exact Or.inl rfl | exact Or.inr (Or.inl rfl) | exact Or.inr (Or.inr rfl)) (hd : (y == ("__debug__" : Str)) = false := by decide)
    (hcd : (y == ("__classdict__" : Str)) = false := by decide) : DE X (.Subscript (.Name y px) (.Constant (.str x) jj py) pos) (gSrc i P) :=
  ⟨_, pe_dget (by omega) (pe_var hN hv hd hcd) pe_str (by intro _ _; rfl), simSrc i x hp⟩
theorem srcL (c : Addr) (l m t : Int) (h1 : 0 ≤ l) (_ : 0 ≤ m) (_ : m < 2 ^ 31) (_ : 0 ≤ t) : ∃ v, valV (srcKs c l m t) (.inr "left") = some (.int v) ∧ 0 ≤ v := ⟨l, rfl, h1⟩
theorem srcM (c : Addr) (l m t : Int) (_ : 0 ≤ l) (h1 : 0 ≤ m) (h2 : m < 2 ^ 31) (_ : 0 ≤ t) : ∃ v, valV (srcKs c l m t) (.inr "mixed") = some (.int v) ∧ (0 ≤ v ∧ v < 2 ^ 31) := ⟨m, rfl, h1, h2⟩
theorem srcT (c : Addr) (l m t : Int) (_ : 0 ≤ l) (_ : 0 ≤ m) (_ : m < 2 ^ 31) (h1 : 0 ≤ t) : ∃ v, valV (srcKs c l m t) (.inr "turn") = some (.int v) ∧ 0 ≤ v := ⟨t, rfl, h1⟩
/-- what is stored in it -/
def SrcFld (x : Str) (P : Int → Prop) : Prop := ∀ c l m t v, 0 ≤ l → 0 ≤ m → m < 2 ^ 31 → 0 ≤ t → P v → ∃ l' m' t', putK (srcKs c l m t) (.inr x) (.int v) = srcKs c l' m' t' ∧ 0 ≤ l' ∧ 0 ≤ m' ∧ m' < 2 ^ 31 ∧ 0 ≤ t'
theorem fldL : SrcFld "left" (fun v => 0 ≤ v) := fun c l m t v h1 h2 h3 h4 h => ⟨v, m, t, rfl, h, h2, h3, h4⟩
theorem fldM : SrcFld "mixed" (fun v => 0 ≤ v ∧ v < 2 ^ 31) := fun c l m t v h1 h2 h3 h4 h => ⟨l, v, t, rfl, h1, h.1, h.2, h4⟩
theorem fldT : SrcFld "turn" (fun v => 0 ≤ v) := fun c l m t v h1 h2 h3 h4 h => ⟨l, m, v, rfl, h1, h2, h3, h⟩
theorem dsrcPut (i : Nat) {y x : Str} {px py p' : Pos} {jj} {P : Int → Prop} {e : Expr} {g : DTE} (hu : X.A.units + 64 < cLine) (hp : SrcFld x P) (he : DE X e g)
    (hN : X.N[i]? = some y := by rfl) (hv : Vis X.env.scope y := by first | exact Or.inl rfl | exact Or.inr (Or.inl rfl) | exact Or.inr (Or.inr rfl)) (hd : (y == ("__debug__" : Str)) = false := by decide)
    (hcd : (y == ("__classdict__" : Str)) = false := by decide) (hs : swapsWith e (some (.Subscript (.Name y px) (.Constant (.str x) jj py) p')) pos.line X.env = pure false := by rfl) :
    DS X (.Assign [.Subscript (.Name y px) (.Constant (.str x) jj py) p'] e pos) (gSrcPut i P g) := by
  obtain ⟨t, pt, s⟩ := he.ex
  refine ⟨_, ps_dput (by omega) (pe_var hN hv hd hcd) pe_str pt hs, fun C S σ H ρ E G R q n r b c => s C S σ H ρ _ _ R q fun v H' d ρ' f1 R1 r1 q1 => ?_⟩
  obtain ⟨h, w, rfl, pw, q1⟩ := q1
  cases r1
  obtain ⟨a, cc, hs', e0, hac, cells, l, m, t, e1, e2, b1, b2, b3, b4, b5, b6⟩ := R1.srcAt h
  obtain ⟨l', m', t', ek, z⟩ := hp cc l m t w b3 b4 b5 b6 pw
  refine ⟨_, e0, a, _, rfl, .k (k := .inr x) e1 (by show 4 < sizeLine; rw [sizeLine_eq]; omega), ?_⟩
  have R2 := R1.srcNew (H' := upd H' a (.dK (putK (srcKs cc l m t) (.inr x) (.int w)))) hs' (fun b o hb n1 _ => by rw [upd_ne n1]; exact hb) ⟨cells, l', m', t', by rw [upd_same, ek], by rw [upd_ne (Ne.symm hac)]; exact e2, b1, b2, z.1, z.2.1, z.2.2.1, z.2.2.2⟩
  exact n S σ _ ρ' R2.1 q1
/-- while many > 1 and source['left'] < 2 and len(source['cells']) > 0: source['left'] = source['cells'].pop() -/
theorem dsrcRun {p1 p2 p3 p4 p5 p6 p7 p9 p10 p11 p12 p13 p14 p16 p17 p18 p19 p20 p21 p22 : Pos} {j1 j2 j3 j4 j5 j6 j7} (hu : X.A.units + 64 < cLine) (hp : PassesOwn (model X.prog X.w) X.A X.env X.xe) (hg : Gl X "len") (hm : X.mg "len" = none)
    (hN : X.N[0]? = some ("source" : Str)) (hN1 : X.N[1]? = some ("many" : Str)) (hv : Vis X.env.scope "source") (hv1 : Vis X.env.scope "many")
    (hbase : attributeBase (.Subscript (.Name "source" p17) (.Constant (.str "cells") j7 p18) p19) "pop" X.env (eval (.Subscript (.Name "source" p17) (.Constant (.str "cells") j7 p18) p19) X.env) = eval (.Subscript (.Name "source" p17) (.Constant (.str "cells") j7 p18) p19) X.env)
    (hline : (p20.endLine == p21.line) = true) (hst : starEach [.Subscript (.Name "source" p10) (.Constant (.str "cells") j4 p11) p12] X.env = (false, eval (.Subscript (.Name "source" p10) (.Constant (.str "cells") j4 p11) p12) X.env) :: starEach [] X.env)
    (hpl : (backTo p13 (starEach [] X.env)).any (·.1) = false) (hbm : behindInMarks .Gt (.Constant (.int 0) j5 p14) = false)
    (hs : swapsWith (.Call (.Attribute (.Subscript (.Name "source" p17) (.Constant (.str "cells") j7 p18) p19) "pop" p20) [] [] p21) (some (.Subscript (.Name "source" p16) (.Constant (.str "left") j6 p15) p22)) p1.line X.env = pure false) {pw pb pa pc pd : Pos} :
    DS X (.While (.BoolOp .And [.Compare (.Name "many" p2) [.Gt] [.Constant (.int 1) j1 p3] pa, .Compare (.Subscript (.Name "source" p4) (.Constant (.str "left") j2 p5) p6) [.Lt] [.Constant (.int 2) j3 p7] pc,
        .Compare (.Call (.Name "len" p9) [.Subscript (.Name "source" p10) (.Constant (.str "cells") j4 p11) p12] [] p13) [.Gt] [.Constant (.int 0) j5 p14] pd] pb)
      [.Assign [.Subscript (.Name "source" p16) (.Constant (.str "left") j6 p15) p22] (.Call (.Attribute (.Subscript (.Name "source" p17) (.Constant (.str "cells") j7 p18) p19) "pop" p20) [] [] p21) p1] [] pw) (gSrcRun 0 1) := by
  have nosl : ∀ (x : Str) (j) (p : Pos), NoSl (.Constant (.str x) j p) := by intro _ _ _ _ _; rfl
  have hu1 : X.A.units + 1 < cLine := by omega
  have d1 : (("source" : Str) == ("__debug__" : Str)) = false := by decide
  have d2 : (("source" : Str) == ("__classdict__" : Str)) = false := by decide
  have d3 : (("many" : Str) == ("__debug__" : Str)) = false := by decide
  have d4 : (("many" : Str) == ("__classdict__" : Str)) = false := by decide
  have src : ∀ p : Pos, PE X (.Name "source" p) (tVar 0) := fun p => pe_var hN hv d1 d2
  refine ⟨_, ps_while hp (PW.pt (pw_and (pt_cmp (pc_gt (pe_var hN1 hv1 d3 d4) pe_int)) (pw_and (pt_cmp (pc_lt (pe_dget hu1 (src p4) pe_str (nosl _ _ _)) pe_int)) (pw_and1 (pt_cmp (pc_gt (pe_callB call_len hg hm boot_len (pa_cons (pe_dget hu1 (src p10) pe_str (nosl _ _ _)) pa_nil hst) (by decide) (by decide) hst hpl) pe_int) hbm)))))
    (pss_one (ps_dput hu1 (src p16) pe_str (pe_bm0 PySem.F.plainAttrs_list PySem.F.slot_list_pop PySem.F.type_list_pop mt_pop (pe_dget hu1 (src p17) pe_str (nosl _ _ _)) hbase hline) hs)), fun C S σ H ρ E G R q n r b c => ?_⟩
  obtain ⟨h, ⟨m, hm1⟩, q⟩ := q
  obtain ⟨a, cc, hs', e0, hac, so⟩ := R.srcAt h
  obtain ⟨_, _, e3⟩ := show ∃ _ : Unit, ∃ _ : Unit, σ[1]? = some (some (.int m)) from ⟨(), (), by
    obtain ⟨v, e, r⟩ := R.ent 1 _ (lk_get hm1)
    have r' : Rp X.K S H v (.int m) := r
    cases r'
    exact e⟩
  refine ⟨fun k σ' H' => σ' = σ ∧ RS X.K C S σ H' ρ ∧ ∃ (cells : List Int) (l mx t : Int), H' a = some (.dK (srcKs cc l mx t)) ∧ H' cc = some (.lst (cells.map V.int)) ∧ (∀ x ∈ cells, 0 ≤ x) ∧ cells.length ≤ 63 ∧ 0 ≤ l ∧ 0 ≤ mx ∧ mx < 2 ^ 31 ∧ 0 ≤ t ∧ cells.length = k, ?_, ?_⟩
  · obtain ⟨cells, l, mx, t, e1, e2, b1, b2, b3, b4, b5, b6⟩ := so
    exact ⟨_, rfl, R, cells, l, mx, t, e1, e2, b1, b2, b3, b4, b5, b6, rfl⟩
  · rintro k σ' H' ⟨rfl, R1, cells, l, mx, t, e1, e2, b1, b2, b3, b4, b5, b6, hk⟩
    refine ⟨_, e3, m, 1, rfl, rfl, _, rfl, ?_⟩
    by_cases h1 : decide (1 < m) = true
    · dsimp only
      rw [if_pos h1]
      refine ⟨_, e0, a, _, rfl, .k (k := .inr "left") e1, l, 2, rfl, rfl, _, rfl, ?_⟩
      by_cases h2 : decide (l < 2) = true
      · dsimp only
        rw [if_pos h2]
        refine ⟨_, e0, a, _, rfl, .k (k := .inr "cells") e1, _, _, rfl, .inl ⟨cells.map V.int, .inl (.inl e2), rfl⟩, _, 0, rfl, rfl, _, rfl, ?_⟩
        by_cases h3 : decide ((0 : Int) < ((cells.map V.int).length : Nat)) = true
        · dsimp only
          rw [if_pos h3]
          have hp3 : 0 < cells.length := by
            have := of_decide_eq_true h3
            rw [List.length_map] at this
            omega
          have hne : cells ≠ [] := by intro z; rw [z] at hp3; simp at hp3
          refine ⟨fun σ2 H2 => ∃ m', m' < k ∧ σ2 = σ' ∧ RS X.K C S σ' H2 ρ ∧ ∃ (cells : List Int) (l mx t : Int), H2 a = some (.dK (srcKs cc l mx t)) ∧ H2 cc = some (.lst (cells.map V.int)) ∧ (∀ x ∈ cells, 0 ≤ x) ∧ cells.length ≤ 63 ∧ 0 ≤ l ∧ 0 ≤ mx ∧ mx < 2 ^ 31 ∧ 0 ≤ t ∧ cells.length = m', fun σ2 H2 z => z, ?_⟩
          have hlast : (cells.map V.int)[(cells.map V.int).length - 1]? = some (V.int (cells.getLast hne)) := by
            rw [List.getElem?_map, List.length_map, List.getLast_eq_getElem, List.getElem?_eq_getElem (by omega)]
            rfl
          refine ⟨_, e0, a, _, rfl, .k (k := .inr "cells") e1, .inl ⟨rfl, _, .inl (.inl e2)⟩, cc, _, _, rfl, rfl, e2, hlast, ?_⟩
          have e1' : upd H' cc (.lst (cells.map V.int).dropLast) a = some (.dK (srcKs cc l mx t)) := by rw [upd_ne hac]; exact e1
          refine ⟨_, e0, a, _, rfl, .k (k := .inr "left") e1' (by show 4 < sizeLine; rw [sizeLine_eq]; omega), ?_⟩
          have f1 : upd (upd H' cc (.lst (cells.map V.int).dropLast)) a (.dK (putK (srcKs cc l mx t) (.inr "left") (.int (cells.getLast hne)))) a = some (.dK (srcKs cc (cells.getLast hne) mx t)) := upd_same
          have f2 : upd (upd H' cc (.lst (cells.map V.int).dropLast)) a (.dK (putK (srcKs cc l mx t) (.inr "left") (.int (cells.getLast hne)))) cc = some (.lst (cells.dropLast.map V.int)) := by
            rw [upd_ne (Ne.symm hac), upd_same, List.map_dropLast]
          have c1 : ∀ x ∈ cells.dropLast, 0 ≤ x := fun x hx => b1 x (List.dropLast_subset _ hx)
          have c2 : cells.dropLast.length ≤ 63 := by rw [List.length_dropLast]; omega
          have c3 : 0 ≤ cells.getLast hne := b1 _ (List.getLast_mem hne)
          have R2 := R1.srcNew (H' := upd (upd H' cc (.lst (cells.map V.int).dropLast)) a (.dK (putK (srcKs cc l mx t) (.inr "left") (.int (cells.getLast hne))))) hs' (fun b o hb n1 n2 => by rw [upd_ne n1, upd_ne n2]; exact hb) ⟨_, _, _, _, f1, f2, c1, c2, c3, b4, b5, b6⟩
          exact ⟨cells.length - 1, by omega, rfl, R2.1, _, _, _, _, f1, f2, c1, c2, c3, b4, b5, b6, by rw [List.length_dropLast]⟩
        · dsimp only; rw [if_neg h3]; exact n S σ' H' ρ R1 q
      · dsimp only; rw [if_neg h2]; exact iteF (n S σ' H' ρ R1 q)
    · dsimp only; rw [if_neg h1]; exact iteF (n S σ' H' ρ R1 q)
end
end Gw
namespace Gw
open PySem PySem.Spec PyProof.Rows L2

/-! ## xs[::-1] of a list -/
def gRev (g : DTE) : DTE := fun ρ Q => g ρ fun d ρ' => ∃ ds, d = .list ds ∧ Q (.list ds.reverse) ρ'
theorem RpA.reverse {K : PySem.W.Frag} {S : Vol} {H : Hp} {xs : List V} {ds : List D} (r : RpA K S H xs ds) : RpA K S H xs.reverse ds.reverse := r.rev
theorem drevF {X : Cx} {a : Expr} {g : DTE} {k : Nat} {p1 p2 p3 pos : Pos} (h : DQ X a g) : DF X (.Subscript a (.Slice none none (some (.UnaryOp .USub (.Constant (.int 1) k p1) p2)) p3) pos) (gRev g) := by
  obtain ⟨t, p, s⟩ := h.ex
  refine ⟨_, pe_revL p, fun C S σ H ρ Q kk R q f => s C S σ H ρ _ _ R q fun v H' d ρ' f1 R1 r1 h => ?_⟩
  obtain ⟨ds, rfl, q1⟩ := h
  obtain ⟨b, xs, rfl, hs, ra⟩ := r1.sql
  exact ⟨b, xs, rfl, hs, fun z hz => f z _ _ ρ' (f1.trans (.of (.new hz))) (newOb R1 hz).1 (newOb R1 hz).2 (freshAt f1 R1 hz) (.lst upd_same (RpA.newp ra.reverse hz)) q1⟩

/-! ## _law_source -/
def spN (K : PySem.W.Frag) : Sp := fun vs H Q _ => ∃ (S : Vol) (ns : List Int), ns.length ≤ 63 ∧ RpA K S H vs [.list (ns.map .int)] ∧ (∀ a, S a → ∃ o, H a = some o) ∧ ∀ (H' : Hp) (a c : Addr), Ext H H' → H a = none → H c = none → a ≠ c → SrcOk H' a c → Q (.ref a) H'
def gNew (T1 T2 : DTS) (g0 : DTE) (j : Nat) : Rho → Prop := fun ρ => gSeq T1 T2 { nx := fun ρ => g0 ρ fun d ρ1 => ∃ cells : List Int, d = .list (cells.map .int) ∧ (∀ x ∈ cells, 0 ≤ x) ∧ cells.length ≤ 63 ∧ ∃ m, lk ρ1 j = some (.dat (.int m)) ∧ 0 ≤ m ∧ m < 2 ^ 31, rt := fun _ _ => False } ρ
section
variable {P : Program} {wo : World} {mg : Str → Option Value} {base : Heap} {x qual : Str} {f : Addr} {fd : FuncData} {N : List Str} {k : Nat} {K : PySem.W.Frag} {st : Stmt}
abbrev ctx0 (H : Hp) (S : Vol) : Ctx := { H0 := H, S0 := S, sa := none, vs := [], pr := fun _ => False }
theorem rsStart {S : Vol} {H : Hp} {vs : List V} {ds : List D} (al : ∀ a, S a → ∃ o, H a = some o) (ra : RpA K S H vs ds) : RS K (ctx0 H S) S (start N vs) H (startR N (ds.map .dat)) := by
  refine ⟨startR_len (by rw [List.length_map]; exact ra.len), fun a o h _ => h, al, fun a h => h.elim, fun a h => ⟨h, al a h⟩, fun i c e => ?_, fun i j o o' q _ e1 _ _ _ => ?_, fun q h => by simp at h, fun a c h => by cases h⟩
  all_goals
    have e' := startR_get (by first | exact e | exact e1)
    rw [List.getElem?_map] at e'
    cases hd : ds[i]? with
    | none => rw [hd] at e'; cases e'
    | some d =>
      rw [hd] at e'
      cases e'
      first
        | (obtain ⟨v, hv, rv⟩ := ra.get hd; exact ⟨v, start_get hv, rv⟩)
        | skip
theorem RS.ext0 {S S' : Vol} {σ' : VStore} {H H' : Hp} {ρ' : Rho} (R : RS K (ctx0 H S) S' σ' H' ρ') : Ext H H' := fun a o e => R.fr a o e fun ⟨_, _, z, _⟩ => by cases z
structure NewBody (X : Cx) (body : List Stmt) (T1 T2 : DTS) (g0 : DTE) (j : Nat) : Prop where
  ex : ∃ (s1 s2 : Stmt) (v0 v2 : Expr) (p1 p2 p3 p4 q1 q3 dp rp : Pos) (j1 j2 j3 j4 k1 k3 : Nat), body = [s1, s2, .Return (some (.Dict [some (.Constant (.str "cells") j1 p1), some (.Constant (.str "left") j2 p2), some (.Constant (.str "mixed") j3 p3), some (.Constant (.str "turn") j4 p4)] [v0, .Constant (.int 1) k1 q1, v2, .Constant (.int 0) k3 q3] dp)) rp] ∧
    DS X s1 T1 ∧ DS X s2 T2 ∧ DF X v0 g0 ∧ PE X v2 (tVar j)
theorem fnNew {T1 T2 : DTS} {g0 : DTE} {j : Nat} {sx : Str} (F : Fun K x qual st f fd) (sc : FnScope N [sx] (defScope st))
    (hb : ∀ (cdv : Value) (A : Around) (outer : List Env) (s : Shared) (H : Hp) (E : XK), RoomG k (A.deeper (envOfC qual (defScope st) s.heap.objs.size f cdv)) → NewBody (cxOf CX0 P wo K mg base N qual (defScope st) f cdv A outer s H E).nox (defBody st) T1 T2 g0 j)
    (h : ∀ ns : List Int, ns.length ≤ 63 → gNew T1 T2 g0 j (startR N [.dat (.list (ns.map .int))])) : FnG P wo K mg base CX0 (k + 1) f fd [sx] (spN K) := by
  obtain ⟨oc, od, kV, doc, pm, an, cdv, ct, osl, rfl, lk0, hcd⟩ := F.ex
  have hlen : ∀ vs H Q E, spN K vs H Q E → vs.length = [sx].length := fun vs H Q E ⟨S, ns, _, r, _⟩ => r.len
  refine fnG_of lk0 hcd sc hlen fun A outer s H vs Q E hr hsp => ?_
  obtain ⟨s1, s2, v0, v2, p1, p2, p3, p4, q1, q3, dp, rp, j1, j2, j3, j4, k1, k3, eb, d1, d2, d3, d4⟩ := (hb cdv A outer s H E hr).ex
  obtain ⟨S, ns, hn, ra, al, post⟩ := hsp
  obtain ⟨t1, w1, m1⟩ := d1.ex
  obtain ⟨t2, w2, m2⟩ := d2.ex
  obtain ⟨t0, w0, m0⟩ := d3.ex
  have pd := pe_disp (pos := dp) (pps_cons (pos := dp) (pe_str (x := "cells") (j := j1) (pos := p1)) w0 (pps_cons (pe_str (x := "left") (j := j2) (pos := p2)) (pe_int (i := 1) (j := k1) (pos := q1)) (pps_cons (pe_str (x := "mixed") (j := j3) (pos := p3)) d4 (pps_cons (pe_str (x := "turn") (j := j4) (pos := p4)) (pe_int (i := 0) (j := k3) (pos := q3)) pps_nil)))) rfl rfl (by simp) (by simp)
  rw [eb]
  refine ⟨_, (pss_cons w1 (pss_cons w2 (pss_one (ps_ret pd)))).nox, ?_⟩
  refine m1 _ S _ H _ _ _ (rsStart al ra) (h ns hn) (fun S1 σ1 H1 ρ1 R1 h1 => ?_) (fun _ _ _ _ _ _ _ _ z => z.elim) (fun _ _ _ _ _ z => z.elim) fun _ _ _ _ _ z => z.elim
  refine m2 _ S1 σ1 H1 ρ1 _ _ R1 h1 (fun S2 σ2 H2 ρ2 R2 h2 => ?_) (fun _ _ _ _ _ _ _ _ z => z.elim) (fun _ _ _ _ _ z => z.elim) fun _ _ _ _ _ z => z.elim
  intro p hp
  have Rp' := R2.ext (H' := upd H2 p (.dK [])) (.new hp)
  have pS : ¬ S2 p := R2.notS hp
  refine m0 _ S2 σ2 _ ρ2 _ _ Rp' h2 fun c H3 d ρ3 f3 R3 R3' hc ob q3 => ?_
  obtain ⟨cells, rfl, b1, b2, m, hm, b3, b4⟩ := q3
  have cp : c ≠ p := fun z => by rw [z, upd_same] at hc; cases hc
  have hp3 : H3 p = some (.dK []) := f3 p _ upd_same (.inl pS)
  obtain ⟨v, ev, rv⟩ := R3.ent j _ (lk_get hm)
  have rv' : Rp K S2 H3 v (.int m) := rv
  cases rv'
  refine ⟨_, ev, hp3, [(.inr "cells", .ref c), (.inr "left", .int 1), (.inr "mixed", .int m), (.inr "turn", .int 0)], rfl, by simp, ?_⟩
  cases ob with
  | lst hL rL =>
    rw [rL.ints] at hL
    refine post _ p c (fun a o e => ?_) ?_ ?_ (Ne.symm cp) ⟨cells, 1, m, 0, by rw [upd_same]; rfl, by rw [upd_ne cp]; exact hL, b1, b2, by decide, b3, b4, by decide⟩
    · have n : a ≠ p := fun z => by
        have := R2.ext0 a o e
        rw [z, hp] at this
        cases this
      rw [upd_ne n]
      exact R3.ext0 a o e
    · exact (R2.free0 hp).1
    · exact (Rp'.free0 hc).1
end
/-! ## the law itself -/
def spLaw (K : PySem.W.Frag) : Sp := fun vs H Q _ => ∃ (S : Vol) (ns : List Int), ns.length ≤ 63 ∧ RpA K S H vs [.list (ns.map .int)] ∧ (∀ a, S a → ∃ o, H a = some o) ∧ ∀ H', Q (.bl true) H'
theorem spLaw_of {K : PySem.W.Frag} {H : Hp} {a : Addr} {ns : List Int} (hl : ns.length ≤ 63) (h : LawArg K H a (ns.map V.int)) : spLaw K [.ref a] H (fun v _ => v = .bl true) fun _ _ _ => False := by
  refine ⟨fun _ => False, ns, hl, .cons (.lst ?_ (RpA.ofInts ns)) .nil, fun _ h => h.elim, fun _ => rfl⟩
  exact h.imp (fun h => ⟨.inr h, fun z => z⟩) id
structure SrcStmt (X : Cx) (s1 : Stmt) (i : Nat) : Prop where
  ex : ∃ t, PS X s1 t ∧ ∀ (H : Hp) (S : Vol) (σ : VStore) (ρ : Rho) (E : Ends) (ns : List Int), RS X.K (ctx0 H S) S σ H ρ → lk ρ 0 = some (.dat (.list (ns.map .int))) → ns.length ≤ 63 →
    (∀ (a c : Addr) (H' : Hp), Ext H H' → H a = none → H c = none → a ≠ c → SrcOk H' a c → E.nx (σ.set i (some (.ref a))) H') → t E σ H
theorem dnew {X : Cx} (i : Nat) {f : Addr} {fd : FuncData} {k : Nat} {sp y sx : Str} {p1 p2 p3 pos py : Pos} (F : FnG X.prog X.w X.K X.mg X.base CX0 k f fd [sp] (spN X.K)) (hr : RoomG k X.A) (hm : X.mg "_law_source" = some (.ref f)) (hk : PySem.W.keepIn X.K (.ref f) = true) (hb : Binds X.K fd [sp] [])
    (hN0 : X.N[0]? = some sx) (hv0 : Vis X.env.scope sx) (hd : (sx == ("__debug__" : Str)) = false) (hcd : (sx == ("__classdict__" : Str)) = false) (hg : Gl X "_law_source")
    (he : starEach [.Name sx p2] X.env = (false, eval (.Name sx p2) X.env) :: starEach [] X.env) (hpl : (backTo p3 (starEach [] X.env)).any (·.1) = false)
    (hN : X.N.Nodup) (hi : X.N[i]? = some y) (hx : Loc X.env.scope y) (hs : swapsWith (.Call (.Name "_law_source" p1) [.Name sx p2] [] p3) (some (.Name y py)) pos.line X.env = pure false) (hf : X.fn y = true ∨ X.env.scope.names.lookup y = some .local) :
    SrcStmt X (.Assign [.Name y py] (.Call (.Name "_law_source" p1) [.Name sx p2] [] p3) pos) i := by
  refine ⟨_, ps_set hN hi hx (pe_callG F hr hg hm hk hb .nil pass0 (pa_cons (pe_var hN0 hv0 hd hcd) pa_nil he) (by decide) he hpl) hs hf, fun H S σ ρ E ns R h0 hl h => ?_⟩
  obtain ⟨v, e0, r⟩ := R.ent 0 _ (lk_get h0)
  exact ⟨v, e0, S, ns, hl, .cons r .nil, R.al, fun H' a c e ha hc hac so => h a c H' e ha hc hac so⟩
section
variable {P : Program} {wo : World} {mg : Str → Option Value} {base : Heap} {x qual : Str} {f : Addr} {fd : FuncData} {N : List Str} {k : Nat} {K : PySem.W.Frag} {st : Stmt}
theorem fnLaw {T : DTS} {sx : Str} (i : Nat) (F : Fun K x qual st f fd) (sc : FnScope N [sx] (defScope st)) (hi : i < N.length) (hi0 : 0 < i) (hNl : 1 ≤ N.length)
    (hb : ∀ (cdv : Value) (A : Around) (outer : List Env) (s : Shared) (H : Hp) (E : XK), RoomG k (A.deeper (envOfC qual (defScope st) s.heap.objs.size f cdv)) →
      ∃ s1 rest, defBody st = s1 :: rest ∧ SrcStmt (cxOf CX0 P wo K mg base N qual (defScope st) f cdv A outer s H E).nox s1 i ∧ DSs (cxOf CX0 P wo K mg base N qual (defScope st) f cdv A outer s H E).nox rest T)
    (h : ∀ d0 : D, T { nx := fun _ => False, rt := fun d _ => d = .bool true } ((startR N [.dat d0]).set i (some .srcR))) : FnG P wo K mg base CX0 (k + 1) f fd [sx] (spLaw K) := by
  obtain ⟨oc, od, kV, doc, pm, an, cdv, ct, osl, rfl, lk0, hcd⟩ := F.ex
  have hlen : ∀ vs H Q E, spLaw K vs H Q E → vs.length = [sx].length := fun vs H Q E ⟨S, ns, _, r, _⟩ => r.len
  refine fnG_of lk0 hcd sc hlen fun A outer s H vs Q E hr hsp => ?_
  obtain ⟨s1, rest, eb, ss, d2⟩ := hb cdv A outer s H E hr
  obtain ⟨t1, w1, m1⟩ := ss.ex
  obtain ⟨t2, w2, m2⟩ := d2.ex
  obtain ⟨S, ns, hl, ra, al, post⟩ := hsp
  rw [eb]
  refine ⟨_, (pss_cons w1 w2).nox, ?_⟩
  have R0 := rsStart (N := N) al ra
  refine m1 H S _ _ _ ns R0 rfl hl fun a c H' e ha hc hac so => ?_
  have nM : ∀ (x : Addr) (o : HO), H x = some o → x ≠ a ∧ x ≠ c := fun x o z => ⟨fun w => (by rw [w, ha] at z; cases z), fun w => (by rw [w, hc] at z; cases z)⟩
  have hlR : i < (startR N [Cl.dat (PyData.list (ns.map PyData.int))]).length := by
    unfold startR
    simp only [List.length_append, List.length_map, List.length_replicate, List.length_cons, List.length_nil]
    omega
  have lv := ra.len
  have hlS : i < (L2.start N vs).length := by
    have e2 := startR_len (N := N) (vs := vs) (cs := [Cl.dat (PyData.list (ns.map PyData.int))]) (by simpa using lv)
    rw [e2]; exact hlR
  have R : RS K { H0 := H, S0 := S, sa := some (a, c), vs := [], pr := fun _ => False } (fun x => S x ∨ x = a ∨ x = c) ((L2.start N vs).set i (some (.ref a))) H' ((startR N [.dat (.list (ns.map .int))]).set i (some .srcR)) := by
    refine ⟨by rw [List.length_set, List.length_set]; exact R0.len, fun x o z _ => e x o z, fun x z => ?_, fun x z => z.elim, fun x z => ⟨.inl z, al x z⟩, fun j cl z => ?_, fun j j' o o' p _ z _ _ _ => ?_, fun q z => by simp at z, fun a' c' z => ?_⟩
    · rcases z with z | z | z
      · obtain ⟨o, w⟩ := al x z
        exact ⟨o, e x o w⟩
      · obtain ⟨_, _, _, _, q, _⟩ := so
        rw [z]; exact ⟨_, q⟩
      · obtain ⟨_, _, _, _, _, q, _⟩ := so
        rw [z]; exact ⟨_, q⟩
    · by_cases hj : i = j
      · subst hj
        rw [List.getElem?_set_self hlR] at z
        cases z
        exact ⟨.ref a, List.getElem?_set_self hlS, a, c, rfl, rfl⟩
      · rw [List.getElem?_set_ne hj] at z
        obtain ⟨v, z1, z2⟩ := R0.ent j cl z
        refine ⟨v, by rw [List.getElem?_set_ne hj]; exact z1, ?_⟩
        have e' := startR_get z
        cases j with
        | zero =>
          cases e'
          exact Rp.mv (fun b o w _ => e b o w) (fun b w => w.imp id fun w => w.elim (fun w => by rw [w]; exact ha) fun w => by rw [w]; exact hc) z2
        | succ j => simp at e'
    · by_cases hj : i = j
      · subst hj
        rw [List.getElem?_set_self hlR] at z
        cases z
      · rw [List.getElem?_set_ne hj] at z
        have e' := startR_get z
        cases j with
        | zero => cases e'
        | succ j => simp at e'
    · cases z
      exact ⟨hac, .inr (.inl rfl), .inr (.inr rfl), fun z => z, fun z => z, so⟩
  exact m2 _ _ _ _ _ _ _ R (h _) (fun _ _ _ _ _ z => z.elim) (fun S' σ' H' ρ' v d R' rv q => by
    have q' : d = .bool true := q
    subst q'
    cases rv
    exact post H') (fun _ _ _ _ _ z => z.elim) fun _ _ _ _ _ z => z.elim
end
end Gw
namespace Gw
open PySem PySem.Spec PyProof.Rows L2

def Bnd (fd : FuncData) (ps : List Str) : Prop := ∀ us : List Value, us.length = ps.length → bindArgs fd ⟨us, []⟩ = pure (ps.zip us)
def relS (scope sc : Scope) : Scope := { scope with names := scope.names.map fun (n, k) => if (k == .free && sc.kind == .function && sc.names.lookup n == some .cell) then (n, .cell) else (n, k) }
theorem relabel_eq (scope : Scope) (env : Env) : relabel scope env = relS scope env.scope := rfl
theorem huOf1 {k : Nat} {A : Around} (h : RoomG k A) : A.units + 65 < cLine := by have := h.room.un; omega
theorem huOf {k : Nat} {A : Around} (h : RoomG k A) : A.units + 64 < cLine := by have := h.room.un; omega
/-- a def of the text, where it stands -/
structure DefAt (K : PySem.W.Frag) (mg : Str → Option Value) (x : Str) (st : Stmt) (ps : List Str) : Prop where
  ex : ∃ f fd, Fun K x x st f fd ∧ mg x = some (.ref f) ∧ Bnd fd ps
/-- a def that may be called -/
structure CalG (P : Program) (wo : World) (K : PySem.W.Frag) (mg : Str → Option Value) (base : Heap) (k : Nat) (x : Str) (ps : List Str) (sp : Sp) : Prop where
  ex : ∃ f fd, FnG P wo K mg base CX0 k f fd ps sp ∧ mg x = some (.ref f) ∧ PySem.W.keepIn K (.ref f) = true ∧ Bnd fd ps ∧ ∃ oc od osl, K.lookup f = some ⟨oc, od, .func fd, osl⟩
section
variable {P : Program} {wo : World} {mg : Str → Option Value} {base : Heap} {x : Str} {N ps : List Str} {k : Nat} {K : PySem.W.Frag} {st : Stmt} {sp : Spec} {T : DTS}
theorem CalG.mono {j : Nat} {s : Sp} (h : CalG P wo K mg base j x ps s) (hj : j ≤ k) : CalG P wo K mg base k x ps s := let ⟨f, fd, F, r⟩ := h.ex; ⟨f, fd, F.mono hj, r⟩
theorem calP (d : DefAt K mg x st ps) (sc : FnScope N ps (defScope st)) (hn : sp.n = ps.length)
    (hb : ∀ (f : Addr) (cdv : Value) (A : Around) (outer : List Env) (s : Shared) (H : Hp) (E : XK), RoomG k (A.deeper (envOfC x (defScope st) s.heap.objs.size f cdv)) → DSs (cxOf CX0 P wo K mg base N x (defScope st) f cdv A outer s H E).nox (defBody st) T)
    (h : ∀ ds Q, sp.w ds Q → T { nx := fun _ => Q .none, rt := fun d _ => Q d } (startR N (ds.map .dat))) : CalG P wo K mg base (k + 1) x ps (spP K sp) :=
  let ⟨f, fd, F, hm, hB⟩ := d.ex
  ⟨f, fd, fnP F sc hn (hb f) h, hm, F.kp, hB, let ⟨_, _, _, _, _, _, _, _, _, _, l, _⟩ := F.ex; ⟨_, _, _, l⟩⟩
theorem calS (d : DefAt K mg x st ps) (sc : FnScope N ps (defScope st)) (hn : sp.n + 1 = ps.length)
    (hb : ∀ (f : Addr) (cdv : Value) (A : Around) (outer : List Env) (s : Shared) (H : Hp) (E : XK), RoomG k (A.deeper (envOfC x (defScope st) s.heap.objs.size f cdv)) → DSs (cxOf CX0 P wo K mg base N x (defScope st) f cdv A outer s H E).nox (defBody st) T)
    (h : ∀ ds Q, sp.w ds Q → T { nx := fun _ => Q .none, rt := fun d _ => Q d } (startR N (.srcR :: ds.map .dat))) : CalG P wo K mg base (k + 1) x ps (spS K sp) :=
  let ⟨f, fd, F, hm, hB⟩ := d.ex
  ⟨f, fd, fnS F sc hn (hb f) h, hm, F.kp, hB, let ⟨_, _, _, _, _, _, _, _, _, _, l, _⟩ := F.ex; ⟨_, _, _, l⟩⟩
theorem calN {T1 T2 : DTS} {g0 : DTE} {j : Nat} {sx : Str} (d : DefAt K mg x st [sx]) (sc : FnScope N [sx] (defScope st))
    (hb : ∀ (f : Addr) (cdv : Value) (A : Around) (outer : List Env) (s : Shared) (H : Hp) (E : XK), RoomG k (A.deeper (envOfC x (defScope st) s.heap.objs.size f cdv)) → NewBody (cxOf CX0 P wo K mg base N x (defScope st) f cdv A outer s H E).nox (defBody st) T1 T2 g0 j)
    (h : ∀ ns : List Int, ns.length ≤ 63 → gNew T1 T2 g0 j (startR N [.dat (.list (ns.map .int))])) : CalG P wo K mg base (k + 1) x [sx] (spN K) :=
  let ⟨f, fd, F, hm, hB⟩ := d.ex
  ⟨f, fd, fnNew F sc (hb f) h, hm, F.kp, hB, let ⟨_, _, _, _, _, _, _, _, _, _, l, _⟩ := F.ex; ⟨_, _, _, l⟩⟩
theorem calL {sx : Str} (i : Nat) (d : DefAt K mg x st [sx]) (sc : FnScope N [sx] (defScope st)) (hi : i < N.length) (hi0 : 0 < i) (hNl : 1 ≤ N.length)
    (hb : ∀ (f : Addr) (cdv : Value) (A : Around) (outer : List Env) (s : Shared) (H : Hp) (E : XK), RoomG k (A.deeper (envOfC x (defScope st) s.heap.objs.size f cdv)) →
      ∃ s1 rest, defBody st = s1 :: rest ∧ SrcStmt (cxOf CX0 P wo K mg base N x (defScope st) f cdv A outer s H E).nox s1 i ∧ DSs (cxOf CX0 P wo K mg base N x (defScope st) f cdv A outer s H E).nox rest T)
    (h : ∀ d0 : D, T { nx := fun _ => False, rt := fun d _ => d = .bool true } ((startR N [.dat d0]).set i (some .srcR))) : CalG P wo K mg base (k + 1) x [sx] (spLaw K) :=
  let ⟨f, fd, F, hm, hB⟩ := d.ex
  ⟨f, fd, fnLaw i F sc hi hi0 hNl (hb f) h, hm, F.kp, hB, let ⟨_, _, _, _, _, _, _, _, _, _, l, _⟩ := F.ex; ⟨_, _, _, l⟩⟩
end
section
variable {X : Cx} {k : Nat} {x : Str} {ps : List Str} {sp : Spec} {e : Expr} {es : List Expr} {l : DTA} {pos p : Pos}
theorem dcallC (F : CalG X.prog X.w X.K X.mg X.base k x ps (spP X.K sp)) (hr : RoomG k X.A) (ha : DA X (e :: es) l)
    (hg : Gl X x := by rfl) (hdb : (x == ("__debug__" : Str)) = false := by decide) (he : starEach (e :: es) X.env = (false, eval e X.env) :: starEach es X.env := by rfl) (hpl : (backTo pos (starEach es X.env)).any (·.1) = false := by rfl) :
    DE X (.Call (.Name x p) (e :: es) [] pos) (gCall sp l) :=
  let ⟨_, _, F, hm, hk, hb, _⟩ := F.ex
  dcall F hr hm hk (.all hb) ha hg hdb he hpl
theorem dcallSC (i : Nat) {sx : Str} {psx : Pos} (F : CalG X.prog X.w X.K X.mg X.base k x ps (spS X.K sp)) (hr : RoomG k X.A) (ha : DA X es l)
    (hg : Gl X x := by rfl) (hdb : (x == ("__debug__" : Str)) = false := by decide) (he : starEach (.Name sx psx :: es) X.env = (false, eval (.Name sx psx) X.env) :: starEach es X.env := by rfl) (hpl : (backTo pos (starEach es X.env)).any (·.1) = false := by rfl)
    (hN : X.N[i]? = some sx := by rfl) (hv : Vis X.env.scope sx := by first | exact Or.inl rfl | exact Or.inr (Or.inl rfl) | exact Or.inr (Or.inr rfl)) (hd : (sx == ("__debug__" : Str)) = false := by decide) (hcd : (sx == ("__classdict__" : Str)) = false := by decide) :
    DE X (.Call (.Name x p) (.Name sx psx :: es) [] pos) (gCallS sp i l) :=
  let ⟨_, _, F, hm, hk, hb, _⟩ := F.ex
  dcallS i F hr hm hk (.all hb) ha hg hdb he hpl hN hv hd hcd
theorem dnewC (i : Nat) {sp y sx : Str} {p1 p2 p3 pos py : Pos} (F : CalG X.prog X.w X.K X.mg X.base k "_law_source" [sp] (spN X.K)) (hr : RoomG k X.A) (hN : X.N.Nodup)
    (hN0 : X.N[0]? = some sx := by rfl) (hv0 : Vis X.env.scope sx := by first | exact Or.inl rfl | exact Or.inr (Or.inl rfl) | exact Or.inr (Or.inr rfl)) (hd : (sx == ("__debug__" : Str)) = false := by decide) (hcd : (sx == ("__classdict__" : Str)) = false := by decide) (hg : Gl X "_law_source" := by rfl)
    (he : starEach [.Name sx p2] X.env = (false, eval (.Name sx p2) X.env) :: starEach [] X.env := by rfl) (hpl : (backTo p3 (starEach [] X.env)).any (·.1) = false := by rfl)
    (hi : X.N[i]? = some y := by rfl) (hx : Loc X.env.scope y := by first | exact Or.inl rfl | exact Or.inr rfl) (hs : swapsWith (.Call (.Name "_law_source" p1) [.Name sx p2] [] p3) (some (.Name y py)) pos.line X.env = pure false := by rfl) (hf : X.fn y = true ∨ X.env.scope.names.lookup y = some .local := by first | exact .inl rfl | exact .inr rfl) :
    SrcStmt X (.Assign [.Name y py] (.Call (.Name "_law_source" p1) [.Name sx p2] [] p3) pos) i :=
  let ⟨_, _, F, hm, hk, hb, _⟩ := F.ex
  dnew i F hr hm hk (.all hb) hN0 hv0 hd hcd hg he hpl hN hi hx hs hf
/-- x = a if c else x, x an own object -/
def gSetIf (i : Nat) (c : DTT) (g : DTE) : DTS := fun G ρ => c ρ fun b ρ1 => if b = true then g ρ1 fun d ρ2 => G.nx (ρ2.set i (some (.own d))) else ∃ d, lk ρ1 i = some (.own d) ∧ G.nx ρ1
theorem dsetIf (i : Nat) {c a : Expr} {s : DTT} {g : DTE} {px py pif : Pos} (hN : X.N.Nodup) (hc : DT X c s) (ha : DF X a g) (hi : X.N[i]? = some x := by rfl) (hx : Loc X.env.scope x := by first | exact Or.inl rfl | exact Or.inr rfl)
    (hs : swapsWith (.IfExp c a (.Name x py) pif) (some (.Name x px)) pos.line X.env = pure false := by rfl) (hf : X.fn x = true ∨ X.env.scope.names.lookup x = some .local := by first | exact .inl rfl | exact .inr rfl | assumption)
    (hv : Vis X.env.scope x := by first | exact Or.inl rfl | exact Or.inr (Or.inl rfl) | exact Or.inr (Or.inr rfl)) (hd : (x == ("__debug__" : Str)) = false := by decide) (hcd : (x == ("__classdict__" : Str)) = false := by decide) :
    DS X (.Assign [.Name x px] (.IfExp c a (.Name x py) pif) pos) (gSetIf i s g) := by
  obtain ⟨_, p1, s1⟩ := hc.ex
  obtain ⟨_, p2, s2⟩ := ha.ex
  refine ⟨_, ps_set hN hi hx (pe_ifExp p1 p2 (pe_var hi hv hd hcd)) hs hf, fun C S σ H ρ E G R q n r b cc => s1 C S σ H ρ _ _ R q fun bb H1 ρ1 f1 R1 q1 => ?_⟩
  cases bb with
  | true => exact iteT (simSetO i s2 C S σ H1 ρ1 E { G with nx := G.nx } R1 (unT q1) n r b cc)
  | false =>
    obtain ⟨d, h0, q2⟩ := unF q1
    obtain ⟨z, e0, _, _⟩ := R1.own (lk_get h0)
    refine iteF ⟨_, e0, ?_⟩
    have hlt := (List.getElem?_eq_some_iff.mp e0).1
    have es : σ.set i (some (.ref z)) = σ := by
      refine List.ext_getElem? fun j => ?_
      by_cases hj : i = j
      · subst hj; rw [List.getElem?_set_self hlt, e0]
      · rw [List.getElem?_set_ne hj]
    show E.nx (σ.set i (some (.ref z))) H1
    rw [es]
    exact n S σ H1 ρ1 R1 q2
end
theorem lawFd {P : Program} {wo : World} {K : PySem.W.Frag} {mg : Str → Option Value} {base : Heap} {k : Nat} {x : Str} {ps : List Str} {fa : Addr} {fd : FuncData} {s : Sp} {oc : Value} {od : Option Addr} {osl : Array (Option Value)} (hm : mg x = some (.ref fa)) (l : K.lookup fa = some ⟨oc, od, .func fd, osl⟩) (C : CalG P wo K mg base k x ps s) : FnG P wo K mg base CX0 k fa fd ps s := by
  obtain ⟨f, fd', F, h, _, _, oc', od', osl', l'⟩ := C.ex
  rw [hm] at h
  cases h
  rw [l] at l'
  cases l'
  exact F
end Gw
namespace Gw
open PySem PySem.Spec PyProof.Rows L2

/-! ## reading the readings -/
section
variable {ρ ρ' : Rho} {Q : D → Rho → Prop} {G : DEnds} {i j k : Nat}
@[simp] theorem lk_zero {c : Option Cl} {r : Rho} : lk (c :: r) 0 = c := rfl
@[simp] theorem lk_succ {c : Option Cl} {r : Rho} {n : Nat} : lk (c :: r) (n + 1) = lk r n := rfl
@[simp] theorem gVar_s : gVar i ρ Q = ∃ d, lk ρ i = some (.dat d) ∧ Q d ρ := rfl
@[simp] theorem gOwn_s : gOwn i ρ Q = ∃ d, lk ρ i = some (.own d) ∧ Q d ρ := rfl
@[simp] theorem gC_s {d : D} : gC d ρ Q = Q d ρ := rfl
@[simp] theorem gBin_s {f : DOp} {a b : DTE} : gBin f a b ρ Q = a ρ fun x ρ1 => b ρ1 fun y ρ2 => f x y fun d => Q d ρ2 := rfl
@[simp] theorem gBinO_s {f : DOp} {b : DTE} : gBinO f i b ρ Q = ((∃ x, lk ρ i = some (.own x)) ∧ b ρ fun y ρ2 => ∃ x, lk ρ2 i = some (.own x) ∧ f x y fun d => Q d ρ2) := rfl
@[simp] theorem gTest_s {g : DTE} {P : Bool → Rho → Prop} : gTest g ρ P = g ρ fun d ρ' => ∃ b, d = .bool b ∧ P b ρ' := rfl
@[simp] theorem gTru_s {g : DTE} {P : Bool → Rho → Prop} : gTru g ρ P = g ρ fun d ρ' => ∃ b, truD d = some b ∧ P b ρ' := rfl
@[simp] theorem gAnd_s {s t : DTT} {P : Bool → Rho → Prop} : gAnd s t ρ P = s ρ fun c ρ' => if c = true then t ρ' P else P false ρ' := rfl
@[simp] theorem gOr_s {s t : DTT} {P : Bool → Rho → Prop} : gOr s t ρ P = s ρ fun c ρ' => if c = true then P true ρ' else t ρ' P := rfl
@[simp] theorem gNot_s {s : DTT} {P : Bool → Rho → Prop} : gNot s ρ P = s ρ fun c ρ' => P (!c) ρ' := rfl
@[simp] theorem gYes_s {P : Bool → Rho → Prop} : gYes ρ P = P true ρ := rfl
@[simp] theorem gAndV_s {a b : DTE} : gAndV a b ρ Q = a ρ fun d ρ' => ∃ c, d = .bool c ∧ if c = true then b ρ' Q else Q (.bool false) ρ' := rfl
@[simp] theorem gOrV_s {a b : DTE} : gOrV a b ρ Q = a ρ fun d ρ' => ∃ c, d = .bool c ∧ if c = true then Q (.bool true) ρ' else b ρ' Q := rfl
@[simp] theorem gNotV_s {a : DTE} : gNotV a ρ Q = a ρ fun d ρ' => ∃ c, d = .bool c ∧ Q (.bool (!c)) ρ' := rfl
@[simp] theorem gIsN_s {b : Bool} {a : DTE} : gIsN b a ρ Q = a ρ fun d ρ' => Q (.bool (match d with | .none => !b | _ => b)) ρ' := rfl
@[simp] theorem gIf_s {s : DTT} {a b : DTE} : gIf s a b ρ Q = s ρ fun c ρ' => if c = true then a ρ' Q else b ρ' Q := rfl
@[simp] theorem gNil_s {P : List D → Rho → Prop} : gNil ρ P = P [] ρ := rfl
@[simp] theorem gCons_s {g : DTE} {l : DTA} {P : List D → Rho → Prop} : gCons g l ρ P = g ρ fun d ρ1 => l ρ1 fun ds ρ2 => P (d :: ds) ρ2 := rfl
@[simp] theorem gTup_s {l : DTA} : gTup l ρ Q = l ρ fun ds ρ' => ds.length ≤ 100000 ∧ Q (.tuple ds) ρ' := rfl
@[simp] theorem gLst_s {l : DTA} : gLst l ρ Q = l ρ fun ds ρ' => ds.length ≤ 100000 ∧ Q (.list ds) ρ' := rfl
@[simp] theorem gNeg_s {g : DTE} : gNeg g ρ Q = g ρ fun d ρ' => ∃ i, d = .int i ∧ Q (.int (-i)) ρ' := rfl
@[simp] theorem gNo_s {P : Option Int → Rho → Prop} : gNo ρ P = P none ρ := rfl
@[simp] theorem gSome_s {g : DTE} {P : Option Int → Rho → Prop} : gSome g ρ P = g ρ fun d ρ' => ∃ i, d = .int i ∧ P (some i) ρ' := rfl
@[simp] theorem gSl_s {g : DTE} {l h : DTO} : gSl g l h ρ Q = g ρ fun d ρ1 => l ρ1 fun lo ρ2 => h ρ2 fun hi ρ3 => match d with
  | .tuple ds => Q (.tuple (cutD ds lo hi)) ρ3
  | .list ds => Q (.list (cutD ds lo hi)) ρ3
  | _ => False := rfl
@[simp] theorem gU_s {f : DU} {g : DTE} : gU f g ρ Q = g ρ fun d ρ' => f d fun d' => Q d' ρ' := rfl
@[simp] theorem gA_s {f : List D → (D → Prop) → Prop} {l : DTA} : gA f l ρ Q = l ρ fun ds ρ' => f ds fun d' => Q d' ρ' := rfl
@[simp] theorem gCall_s {sp : Spec} {l : DTA} : gCall sp l ρ Q = l ρ fun ds ρ' => sp.w ds fun d => Q d ρ' := rfl
@[simp] theorem gCallS_s {sp : Spec} {l : DTA} : gCallS sp i l ρ Q = (lk ρ i = some .srcR ∧ l ρ fun ds ρ' => lk ρ' i = some .srcR ∧ sp.w ds fun d => Q d ρ') := rfl
@[simp] theorem gRev_s {g : DTE} : gRev g ρ Q = g ρ fun d ρ' => ∃ ds, d = .list ds ∧ Q (.list ds.reverse) ρ' := rfl
@[simp] theorem gPop_s : gPop i ρ Q = ∃ ds d, lk ρ i = some (.own (.list (ds ++ [d]))) ∧ Q d (ρ.set i (some (.own (.list ds)))) := rfl
@[simp] theorem gPopAt_s {g : DTE} : gPopAt i g ρ Q = ((∃ ds, lk ρ i = some (.own (.list ds))) ∧ g ρ fun kd ρ1 => ∃ ds k d, kd = .int (k : Nat) ∧ lk ρ1 i = some (.own (.list ds)) ∧ k < 100000 ∧ ds[k]? = some d ∧ Q d (ρ1.set i (some (.own (.list (ds.eraseIdx k)))))) := rfl
@[simp] theorem gLRg_s {g : Rho → (Int → Int → Rho → Prop) → Prop} : gLRg g ρ Q = g ρ fun i j ρ' => rngB i j ∧ Q (.list (rngD i (j - i).toNat)) ρ' := rfl
@[simp] theorem gTRg_s {g : Rho → (Int → Int → Rho → Prop) → Prop} : gTRg g ρ Q = g ρ fun i j ρ' => rngB i j ∧ Q (.tuple (rngD i (j - i).toNat)) ρ' := rfl
@[simp] theorem gRg1_s {g : DTE} {P : Int → Int → Rho → Prop} : gRg1 g ρ P = g ρ fun d ρ' => ∃ j, d = .int j ∧ P 0 j ρ' := rfl
@[simp] theorem gRg2_s {g h : DTE} {P : Int → Int → Rho → Prop} : gRg2 g h ρ P = g ρ fun d ρ1 => h ρ1 fun d2 ρ' => ∃ i j, d = .int i ∧ d2 = .int j ∧ P i j ρ' := rfl
@[simp] theorem gSrc_s {P : Int → Prop} : gSrc i P ρ Q = (lk ρ i = some .srcR ∧ ∀ v, P v → Q (.int v) ρ) := rfl
/-! operations -/
section
variable {P : D → Prop} {a b : Int} {ds es : List D}
@[simp] theorem addD_ii : addD (.int a) (.int b) P = P (.int (a + b)) := rfl
@[simp] theorem addD_tt : addD (.tuple ds) (.tuple es) P = (ds.length + es.length ≤ 100000 ∧ P (.tuple (ds ++ es))) := rfl
@[simp] theorem addD_ll : addD (.list ds) (.list es) P = (ds.length + es.length ≤ 100000 ∧ P (.list (ds ++ es))) := rfl
@[simp] theorem catD_ll : catD (.list ds) (.list es) P = (ds.length + es.length ≤ 100000 ∧ P (.list (ds ++ es))) := rfl
@[simp] theorem subD_ii : subD (.int a) (.int b) P = P (.int (a - b)) := rfl
@[simp] theorem mulI_ii : mulI (.int a) (.int b) P = (((-(2 ^ 64) < a ∧ a < 2 ^ 64) ∨ (-(2 ^ 64) < b ∧ b < 2 ^ 64)) ∧ P (.int (a * b))) := rfl
@[simp] theorem repD_li : repD (.list ds) (.int b) P = (b < 2 ^ 20 ∧ -(2 ^ 20) < b ∧ ds.length * b.toNat ≤ 100000 ∧ P (.list (List.replicate b.toNat ds).flatten)) := rfl
@[simp] theorem fdivD_ii : fdivD (.int a) (.int b) P = ((0 < b ∧ b < 1073741824) ∧ P (.int (a / b))) := rfl
@[simp] theorem modD_ii : modD (.int a) (.int b) P = (0 < b ∧ P (.int (a % b))) := rfl
@[simp] theorem ltD_ii : ltD (.int a) (.int b) P = P (.bool (decide (a < b))) := rfl
@[simp] theorem leD_ii : leD (.int a) (.int b) P = P (.bool (decide (a ≤ b))) := rfl
@[simp] theorem gtD_ii : gtD (.int a) (.int b) P = P (.bool (decide (b < a))) := rfl
@[simp] theorem geD_ii : geD (.int a) (.int b) P = P (.bool (decide (b ≤ a))) := rfl
@[simp] theorem eqD_s {x y : D} : eqD x y P = (eqOk x y = true ∧ P (.bool (PyData.eqv x y))) := rfl
@[simp] theorem neD_s {x y : D} : neD x y P = (eqOk x y = true ∧ P (.bool (!PyData.eqv x y))) := rfl
@[simp] theorem eqOk_s {x y : Str} : eqOk (.str x) (.str y) = true := rfl
@[simp] theorem eqOk_i {x y : Int} : eqOk (.int x) (.int y) = true := rfl
theorem eqOk_of {x y : D} (h1 : SeqAt.shaped x = true) (h2 : SeqAt.shaped y = true) : eqOk x y = true := by
  unfold eqOk
  split
  · rfl
  · rw [h1, h2]; rfl
@[simp] theorem inD_l {x : D} : inD x (.list ds) P = (SeqAt.shaped x = true ∧ SeqAt.shaped (.list ds) = true ∧ P (.bool (ds.any fun z => PyData.eqv z x))) := rfl
@[simp] theorem inD_t {x : D} : inD x (.tuple ds) P = (flatD x = true ∧ ds.all flatD = true ∧ P (.bool (ds.any fun z => PyData.eqv z x))) := rfl
@[simp] theorem ninD_l {x : D} : ninD x (.list ds) P = (SeqAt.shaped x = true ∧ SeqAt.shaped (.list ds) = true ∧ P (.bool (!ds.any fun z => PyData.eqv z x))) := rfl
@[simp] theorem ninD_t {x : D} : ninD x (.tuple ds) P = (flatD x = true ∧ ds.all flatD = true ∧ P (.bool (!ds.any fun z => PyData.eqv z x))) := rfl
@[simp] theorem ixD_l : ixD (.list ds) (.int a) P = ∃ d, atI ds a = some d ∧ P d := rfl
@[simp] theorem ixD_t : ixD (.tuple ds) (.int a) P = ∃ d, atI ds a = some d ∧ P d := rfl
@[simp] theorem lenU_l : lenU (.list ds) P = P (.int ds.length) := rfl
@[simp] theorem lenU_t : lenU (.tuple ds) P = P (.int ds.length) := rfl
@[simp] theorem tupU_l : tupU (.list ds) P = P (.tuple ds) := rfl
@[simp] theorem tupU_t : tupU (.tuple ds) P = P (.tuple ds) := rfl
@[simp] theorem lstU_l : lstU (.list ds) P = P (.list ds) := rfl
@[simp] theorem lstU_t : lstU (.tuple ds) P = P (.list ds) := rfl
@[simp] theorem intU_i : intU (.int a) P = P (.int a) := rfl
@[simp] theorem intU_b {c : Bool} : intU (.bool c) P = P (.int (if c then 1 else 0)) := rfl
@[simp] theorem absU_i : absU (.int a) P = P (.int (if a < 0 then -a else a)) := rfl
@[simp] theorem max2_ii : max2A [.int a, .int b] P = P (.int (if b > a then b else a)) := rfl
@[simp] theorem min2_ii : min2A [.int a, .int b] P = P (.int (if b < a then b else a)) := rfl
@[simp] theorem reprU_s {x : D} : reprU x P = ((∃ n k, OkR n k x ∧ n ≤ 2 ^ 20 ∧ k ≤ 60) ∧ P (.str x.shown)) := rfl
theorem sumU_t {ns : List Int} (h : P (.int ns.sum)) : sumU (.tuple (ns.map .int)) P := ⟨ns, .inr rfl, h⟩
theorem sumU_l {ns : List Int} (h : P (.int ns.sum)) : sumU (.list (ns.map .int)) P := ⟨ns, .inl rfl, h⟩
end
/-! statements -/
@[simp] theorem gNext_s : gNext G ρ = G.nx ρ := rfl
@[simp] theorem gSeq_s {T U : DTS} : gSeq T U G ρ = T { nx := U G, rt := G.rt, bk := G.bk, ct := G.ct } ρ := rfl
@[simp] theorem gRet_s {g : DTE} : gRet g G ρ = g ρ fun d ρ1 => G.rt d ρ1 := rfl
@[simp] theorem gRetO_s : gRetO i G ρ = ∃ d, lk ρ i = some (.own d) ∧ G.rt d (ρ.set i (some (.dat d))) := rfl
@[simp] theorem gIfS_s {c : DTT} {T U : DTS} : gIfS c T U G ρ = c ρ fun b ρ1 => if b = true then T G ρ1 else U G ρ1 := rfl
@[simp] theorem gDrop_s {g : DTE} : gDrop g G ρ = g ρ fun _ ρ1 => G.nx ρ1 := rfl
@[simp] theorem gSet_s {g : DTE} : gSet i g G ρ = g ρ fun d ρ1 => G.nx (ρ1.set i (some (.dat d))) := rfl
@[simp] theorem gSetO_s {g : DTE} : gSetO i g G ρ = g ρ fun d ρ1 => G.nx (ρ1.set i (some (.own d))) := rfl
@[simp] theorem gAsg_s {g : DTE} {gd : DTG} : gAsg g gd G ρ = g ρ fun d ρ1 => gd d ρ1 G.nx := rfl
@[simp] theorem gdName_s {d : D} {P : Rho → Prop} : gdName i d ρ P = P (ρ.set i (some (.dat d))) := rfl
@[simp] theorem gdSub_s {gk : DTE} {d : D} {P : Rho → Prop} : gdSub i gk d ρ P = ((∃ ds, lk ρ i = some (.own (.list ds))) ∧ gk ρ fun kd ρ1 => ∃ k j ds, kd = .int k ∧ lk ρ1 i = some (.own (.list ds)) ∧ ixN ds.length k = some j ∧ P (ρ1.set i (some (.own (.list (ds.set j d)))))) := rfl
@[simp] theorem gdNil_s {ds : List D} {P : Rho → Prop} : gdNil ds ρ P = (ds = [] ∧ P ρ) := rfl
@[simp] theorem gdCons_s {g : DTG} {l : DTGs} {d : D} {ds : List D} {P : Rho → Prop} : gdCons g l (d :: ds) ρ P = g d ρ fun ρ' => l ds ρ' P := rfl
@[simp] theorem gdTup_s {l : DTGs} {ds : List D} {P : Rho → Prop} : gdTup l k (.tuple ds) ρ P = (ds.length = k ∧ l ds ρ P) := rfl
@[simp] theorem gPar2_s {l : DTC} : gPar2 i j l G ρ = l ρ fun cs ρ1 => match cs with | [u, v] => G.nx ((ρ1.set i (some u)).set j (some v)) | _ => False := rfl
@[simp] theorem gPar3_s {l : DTC} : gPar3 i j k l G ρ = l ρ fun cs ρ1 => match cs with | [u, v, w] => G.nx (((ρ1.set i (some u)).set j (some v)).set k (some w)) | _ => False := rfl
@[simp] theorem gApp_s {g : DTE} : gApp i g G ρ = ((∃ ds, lk ρ i = some (.own (.list ds))) ∧ g ρ fun d ρ1 => ∃ ds, lk ρ1 i = some (.own (.list ds)) ∧ ds.length < 100000 ∧ G.nx (ρ1.set i (some (.own (.list (ds ++ [d])))))) := rfl
@[simp] theorem gExt_s {g : DTE} : gExt i g G ρ = ((∃ ds, lk ρ i = some (.own (.list ds))) ∧ g ρ fun d ρ1 => ∃ ds es, d = .list es ∧ lk ρ1 i = some (.own (.list ds)) ∧ ds.length + es.length ≤ 100000 ∧ G.nx (ρ1.set i (some (.own (.list (ds ++ es)))))) := rfl
@[simp] theorem gSetIf_s {c : DTT} {g : DTE} : gSetIf i c g G ρ = c ρ fun b ρ1 => if b = true then g ρ1 fun d ρ2 => G.nx (ρ2.set i (some (.own d))) else ∃ d, lk ρ1 i = some (.own d) ∧ G.nx ρ1 := rfl
@[simp] theorem gFz_s {T : DTS} : gFz i T G ρ = T G (fz i ρ) := rfl
@[simp] theorem gSrcPut_s {P : Int → Prop} {g : DTE} : gSrcPut i P g G ρ = g ρ fun d ρ1 => lk ρ1 i = some .srcR ∧ ∃ v, d = .int v ∧ P v ∧ G.nx ρ1 := rfl
@[simp] theorem gSrcRun_s : gSrcRun i j G ρ = (lk ρ i = some .srcR ∧ (∃ m, lk ρ j = some (.dat (.int m))) ∧ G.nx ρ) := rfl
@[simp] theorem gcNil_s {P : List Cl → Rho → Prop} : gcNil ρ P = P [] ρ := rfl
@[simp] theorem gcDat_s {g : DTE} {l : DTC} {P : List Cl → Rho → Prop} : gcDat g l ρ P = g ρ fun d ρ1 => l ρ1 fun cs ρ2 => P (.dat d :: cs) ρ2 := rfl
@[simp] theorem gcOwn_s {g : DTE} {l : DTC} {P : List Cl → Rho → Prop} : gcOwn g l ρ P = g ρ fun d ρ1 => l ρ1 fun cs ρ2 => P (.own d :: cs) ρ2 := rfl
theorem giR1_s {g : DTE} {P : List D → Rho → Prop} : giR1 g ρ P = g ρ fun d ρ' => ∃ j, d = .int j ∧ j ≤ 100000 ∧ -100000 ≤ j ∧ P (rngD 0 j.toNat) ρ' := rfl
theorem giR2_s {g h : DTE} {P : List D → Rho → Prop} : giR2 g h ρ P = g ρ fun d ρ1 => h ρ1 fun d2 ρ' => ∃ i j, d = .int i ∧ d2 = .int j ∧ (j ≤ 100000 ∧ -100000 ≤ j ∧ i ≤ 100000 ∧ -100000 ≤ i) ∧ P (rngD i (j - i).toNat) ρ' := rfl
theorem giSeq_s {g : DTE} {P : List D → Rho → Prop} : giSeq g ρ P = g ρ fun d ρ' => match d with | .list ds => P ds ρ' | .tuple ds => P ds ρ' | _ => False := rfl
theorem giEnum_s {g : DTE} {P : List D → Rho → Prop} : giEnum g ρ P = g ρ fun d ρ' => match d with | .list ds => P (enumD ds) ρ' | .tuple ds => P (enumD ds) ρ' | _ => False := rfl
theorem fz_own {d : D} (h : lk ρ i = some (.own d)) : fz i ρ = ρ.set i (some (.dat d)) := by unfold fz; rw [h]
theorem fz_dat {d : D} (h : lk ρ i = some (.dat d)) : fz i ρ = ρ := by unfold fz; rw [h]
end
/-! comprehensions with nothing but their own names stored -/
/-- the answer of each item (none: left out) -/
theorem lcAt {α : Type} {gi : DTI} {gd : DTG} {gt : DTT} {ge : DTE} {vs : List Nat} {ρ : Rho} {Q : D → Rho → Prop} (xs : List α) (enc : α → D) (f : α → Option D) (ρ1 : Rho)
    (hi : ∀ P : List D → Rho → Prop, P (xs.map enc) ρ1 → gi ρ P) (h1 : noOwn ρ1 vs = true) (h2 : xs.length ≤ 100000)
    (hs : ∀ x ∈ xs, ∀ P : Option D → Rho → Prop, P (f x) (wipeR ρ1 vs) → gd (enc x) (wipeR ρ1 vs) fun ρ3 => gt ρ3 fun b ρ4 => if b = true then ge ρ4 fun y ρ5 => P (some y) (wipeR ρ5 vs) else P none (wipeR ρ4 vs))
    (q : Q (.list (xs.filterMap f)) (mergeR ρ1 (wipeR ρ1 vs) vs)) : gLc gi gd gt ge vs ρ Q := by
  refine hi _ ⟨h1, by simpa using h2, fun i acc ρ2 => acc = (xs.take i).filterMap f ∧ ρ2 = wipeR ρ1 vs, ⟨rfl, rfl⟩, fun i d acc ρ2 hd _ hI => ?_, fun acc ρ2 hI => ?_⟩
  · obtain ⟨rfl, rfl⟩ := hI
    rw [List.getElem?_map] at hd
    obtain ⟨x, hx, rfl⟩ := Option.map_eq_some_iff.mp hd
    have et : xs.take (i + 1) = xs.take i ++ [x] := by rw [List.take_add_one, hx]; rfl
    refine hs x (List.mem_of_getElem? hx) (fun o ρ' => match o with
      | some y => (xs.take i).filterMap f ++ [y] = (xs.take (i + 1)).filterMap f ∧ ρ' = wipeR ρ1 vs
      | none => (xs.take i).filterMap f = (xs.take (i + 1)).filterMap f ∧ ρ' = wipeR ρ1 vs) ?_
    cases e : f x with
    | some y => exact ⟨by rw [et, List.filterMap_append]; simp [e], rfl⟩
    | none => exact ⟨by rw [et, List.filterMap_append]; simp [e], rfl⟩
  · obtain ⟨rfl, rfl⟩ := hI
    rw [List.length_map, List.take_length]
    exact q
/-- .. all are taken -/
theorem lcAll {α : Type} {gi : DTI} {gd : DTG} {ge : DTE} {vs : List Nat} {ρ : Rho} {Q : D → Rho → Prop} (xs : List α) (enc : α → D) (f : α → D) (ρ1 : Rho)
    (hi : ∀ P : List D → Rho → Prop, P (xs.map enc) ρ1 → gi ρ P) (h1 : noOwn ρ1 vs = true) (h2 : xs.length ≤ 100000)
    (hs : ∀ x ∈ xs, ∀ P : D → Rho → Prop, P (f x) (wipeR ρ1 vs) → gd (enc x) (wipeR ρ1 vs) fun ρ3 => ge ρ3 fun y ρ5 => P y (wipeR ρ5 vs))
    (q : Q (.list (xs.map f)) (mergeR ρ1 (wipeR ρ1 vs) vs)) : gLc gi gd gYes ge vs ρ Q := by
  refine lcAt xs enc (fun x => some (f x)) ρ1 hi h1 h2 (fun x hx P hP => ?_) (by rw [show xs.filterMap (fun x => some (f x)) = xs.map f by simp]; exact q)
  exact hs x hx (fun y ρ => P (some y) ρ) hP
/-- with effects: an invariant -/
theorem lcInv {α : Type} {gi : DTI} {gd : DTG} {ge : DTE} {vs : List Nat} {ρ : Rho} {Q : D → Rho → Prop} (xs : List α) (enc : α → D) (ρ1 : Rho) (Iv : Nat → List D → Rho → Prop)
    (hi : ∀ P : List D → Rho → Prop, P (xs.map enc) ρ1 → gi ρ P) (h1 : noOwn ρ1 vs = true) (h2 : xs.length ≤ 100000) (h3 : Iv 0 [] (wipeR ρ1 vs))
    (hs : ∀ i x acc ρ2, xs[i]? = some x → Iv i acc ρ2 → gd (enc x) ρ2 fun ρ3 => ge ρ3 fun y ρ5 => Iv (i + 1) (acc ++ [y]) (wipeR ρ5 vs))
    (q : ∀ acc ρ2, Iv xs.length acc ρ2 → Q (.list acc) (mergeR ρ1 ρ2 vs)) : gLc gi gd gYes ge vs ρ Q := by
  refine hi _ ⟨h1, by simpa using h2, Iv, h3, fun i d acc ρ2 hd _ hI => ?_, fun acc ρ2 hI => ?_⟩
  · rw [List.getElem?_map] at hd
    obtain ⟨x, hx, rfl⟩ := Option.map_eq_some_iff.mp hd
    exact hs i x acc ρ2 hx hI
  · rw [List.length_map] at hI
    exact q acc ρ2 hI
/-- a loop over items -/
theorem forInv {α : Type} {gi : DTI} {gd : DTG} {T : DTS} {G : DEnds} {ρ : Rho} (xs : List α) (enc : α → D) (ρ1 : Rho) (J : Nat → Rho → Prop)
    (hi : ∀ P : List D → Rho → Prop, P (xs.map enc) ρ1 → gi ρ P) (h0 : J 0 ρ1)
    (hs : ∀ i x ρ2, xs[i]? = some x → J i ρ2 → gd (enc x) ρ2 fun ρ3 => T { nx := J (i + 1), rt := G.rt, ct := J (i + 1), bk := G.nx } ρ3) (q : ∀ ρ2, J xs.length ρ2 → G.nx ρ2) : gFor gi gd T G ρ := by
  refine hi _ ⟨J, h0, fun i d ρ2 hd hI => ?_, fun ρ2 hI => q ρ2 (by simpa using hI)⟩
  rw [List.getElem?_map] at hd
  obtain ⟨x, hx, rfl⟩ := Option.map_eq_some_iff.mp hd
  exact hs i x ρ2 hx hI
theorem rngD_map (n : Nat) : rngD 0 n = (List.range n).map fun i : Nat => PyData.int i := by
  unfold rngD
  exact List.map_congr_left fun i _ => by simp
theorem enumD_map {α : Type} (enc : α → D) (xs : List α) : enumD (xs.map enc) = xs.zipIdx.map fun p => PyData.tuple [.int p.2, enc p.1] := by
  unfold enumD
  refine List.ext_getElem? fun i => ?_
  rw [List.getElem?_zipWith, List.getElem?_map, List.getElem?_map, List.getElem?_zipIdx]
  by_cases hi : i < xs.length
  · simp [hi]
  · simp [hi]
end Gw
namespace Gw
open PySem PySem.Spec PyProof.Rows L2
/-! ## xs[a:c] = ys, c past the end too -/
theorem boundsTo {a c m : Nat} (h : a ≤ c) (ha : a ≤ m) : sliceBounds (some (a : Int)) (some (c : Int)) none m = ((a : Int), ((min c m : Nat) : Int), 1) := by
  simp only [sliceBounds, Option.getD_none]
  have e1 : ¬ ((a : Int) < 0) := by omega
  have e2 : ¬ ((c : Int) < 0) := by omega
  simp only [e1, e2, if_false, show (1 : Int) > 0 by decide, if_true]
  refine Prod.ext ?_ (Prod.ext ?_ rfl) <;> (dsimp only; omega)
section
variable {prog : Program} {w : World} {A : Around} {E : Value → Shared → Prop} {s : Shared}
theorem cutIn {l b p : Addr} {is js : Array Value} {n m : Nat} {vl vu : Value} {a c d : Nat} {Q : Unit → Shared → Prop} (ol : s.heap.get? l = some { cls := .type "list", data := .seq is n })
    (ob : s.heap.get? b = some { cls := .type "list", data := .seq js m }) (lb : l ≠ b) (sp : s.heap.IsSliceOf p vl vu .none) (pl : IsPart vl (some (a : Int))) (pu : IsPart vu (some (c : Int)))
    (bd : sliceBounds (some (a : Int)) (some (c : Int)) none is.size = ((a : Int), (d : Int), 1)) (ad : a ≤ d) (ds : d ≤ is.size) (zz : is.size + js.size ≤ sizeLine)
    (h : Q () { s with heap := s.heap.update l (Obj.mapSeq fun v => v.extract 0 a ++ js ++ v.extract d v.size) }) : wpAny (model prog w) A (setItem (.ref l) (.ref p) (.ref b)) Q E s := by
  have il : s.heap.IsList l is := PySem.IsL.isList ol
  have ib : s.heap.IsList b js := PySem.IsL.isList ob
  obtain ⟨po, hp, pc, pd⟩ := id sp
  have pT : s.TypeIs (.ref p) "slice" := ⟨po, hp, pc⟩
  have mx : (max (a : Int) (d : Int)).toNat = d := by omega
  have z2 : ((fun v : Array Value => v.extract 0 a ++ js ++ v.extract d v.size) is).size ≤ sizeLine + 1 := by simp only [Array.size_append, Array.size_extract]; omega
  have sm : Builtin.List.listSameRef (.ref l) (.ref b) = false := beq_eq_false_iff_ne.mpr lb
  unfold setItem
  try with_reducible refine wpAny_holding ?_
  (first | refine wpAny_bind (wpAny_pure ?_) | skip); refine wpAny_bind (wpAny_sequenceKey il.typeIs (by decide) (wpAny_bind (wpAny_callSpecial?_slot (name := Str.ofString "__setitem__") il.typeIs slot_list_setitem (wpAny_call_entry slot_list_setitem il.typeIs entry_list_setitem ?_ (args_list_setitem _ _ _)))))
  refine show wpAny _ _ (Builtin.List.listSubscript? (.ref p) >>= _) _ _ s from wpAny_bind ?_
  unfold Builtin.List.listSubscript?
  refine wpAny_bind (wpAny_specialOf pT slice_no_index ?_); simp only [Option.isNone_none, if_true]
  refine wpAny_pure (show wpAny _ _ (typeOf (.ref p) >>= _) _ _ s from wpAny_bind (wpAny_typeOf pT ?_))
  (first | rw [if_neg (by decide)] | refine PySem.W.KFB.if_not (by decide) ?_); rw [listSliceParts_eq]
  refine wpAny_bind (wpAny_bind (wpAny_field hp pd (x := .none) rfl (wpAny_bind (wpAny_listPart .none ?_)))); rw [if_neg (show ¬ ((rawPart none == rawInt 0) = true) from Bool.false_ne_true)]
  refine wpAny_bind (wpAny_field hp pd (x := vl) rfl (wpAny_bind (wpAny_listPart pl (wpAny_bind (wpAny_field hp pd (x := vu) rfl (wpAny_bind (wpAny_listPart pu (wpAny_pure ?_))))))))
  (first | simp only [sm, Bool.false_eq_true, if_false] | refine PySem.W.KFB.if_not sm ?_ | (dsimp only; rw [if_neg (by rw [sm]; exact Bool.false_ne_true)]))
  refine wpAny_bind (m := Builtin.List.listAllItems (.ref b) "must assign iterable to extended slice") ?_; unfold Builtin.List.listAllItems
  refine wpAny_bind (wpAny_typeOf ib.typeIs ?_); (first | refine PySem.W.KFB.if_so (by decide) ?_ | rw [if_pos (by decide)] | simp only [beq_self_eq_true, Bool.true_or, if_true])
  unfold Builtin.List.listItems; refine wpAny_bind (wpAny_seqItems ob rfl (wpAny_pure (wpAny_bind (wpAny_bind (wpAny_seqItems ol rfl (wpAny_pure ?_))))))
  refine wpAny_bind (wpAny_of_eq ((sliceIndices_raw (some (a : Int)) (some (c : Int)) none is.size (by simp)).trans (congrArg (pure : Int × Int × Int → Sem (Int × Int × Int)) bd)) ?_)
  refine show wpAny _ _ (if ((1 : Int) == 1) = true then _ else _) _ _ s from ?_
  rw [if_pos (by decide)]; refine wpAny_bind (wpAny_rule ?_)
  (first | simp only [notLongL zz, Bool.false_eq_true, if_false] | refine PySem.W.KFB.if_not (notLongL zz) ?_); (first | refine wpAny_bind (wpAny_pure ?_) | skip)
  refine show wpAny _ _ (updateSeq l (fun v => v.extract 0 ((a : Int)).toNat ++ js ++ v.extract (max (a : Int) (d : Int)).toNat v.size) >>= _) _ _ s from ?_
  rw [mx, Int.toNat_natCast]; refine wpAny_bind (wpAny_updateSeq (hz := Nat.le_trans (Nat.le_add_right _ _) zz) (_hz' := z2) ol rfl (wpAny_bind (wpAny_letGo ?_)))
  first | exact wpAny_bind (wpAny_pure (wpAny_pure ⟨.none, rfl, wpAny_pure h⟩)) | exact wpAny_pure ⟨.none, rfl, wpAny_pure h⟩
end

section
variable {X : Cx} {o value : Expr} {lo hi : Option Expr} {to tv : TE} {tl th : TO} {p2 p' pos : Pos}
def tCut (to tv : TE) (tl th : TO) : TS := fun D σ H => tv σ H fun y H1 => to σ H1 fun x H2 => tl σ H2 fun l H3 => th σ H3 fun u H4 => ∃ (p b : Addr) (xs ys : List V) (a c : Nat), x = .ref p ∧ y = .ref b ∧ p ≠ b ∧ H4 p = some (.lst xs) ∧ H4 b = some (.lst ys) ∧ l = some (a : Int) ∧ u = some (c : Int) ∧
  a ≤ c ∧ a ≤ xs.length ∧ xs.length + ys.length ≤ sizeLine ∧ D.nx σ (upd H4 p (.lst (xs.take a ++ ys ++ xs.drop (min c xs.length))))
theorem ps_cut (ho : PE X o to) (hl : PO X lo tl) (hh : PO X hi th) (hv : PE X value tv) (hs : swapsWith value (some (.Subscript o (.Slice lo hi none p2) p')) pos.line X.env = pure false := by rfl) :
    PS X (.Assign [.Subscript o (.Slice lo hi none p2) p'] value pos) (tCut to tv tl th) := by
  refine ⟨fun pins s σ H D I h => ?_⟩
  refine wpAny_Assign_Subscript (thn (hv.run pins s σ H _ I h) fun r s1 ⟨y, H1, I1, ry, q1⟩ => thn (ho.run pins s1 σ H1 _ I1 q1) fun u s2 ⟨x, H2, I2, rx, q2⟩ => ?_) hs
  refine wpAny_Slice (thn (hl.run pins s2 σ H2 _ I2 q2) fun vl s3 ⟨l, H3, I3, pl, q3⟩ => thn (hh.run pins s3 σ H3 _ I3 q3) fun vu s4 ⟨t, H4, I4, pu, q4⟩ => ?_)
  rw [evalPart_none]
  refine wpAny_pure ?_
  have I5 : Inv X pins σ H4 { s4 with heap := s4.heap.push { cls := .type "slice", data := .fields #[vl, vu, .none] } } := I4.kept (t' := s4.toks) fun b ob q => Heap.get?_push_of_some _ q
  obtain ⟨p, b, xs, ys, a, c, rfl, rfl, pb, hp, hb, rfl, rfl, ac, al, zz, q⟩ := q4
  cases ry
  cases rx
  obtain ⟨_, is, n, r1, e1, o1⟩ := I5.lstM hp
  obtain ⟨_, js, m, r2, e2, o2⟩ := I5.lstM hb
  refine cutIn (a := a) (c := c) (d := min c is.length) o1 o2 pb (Heap.IsSliceOf.new ..) pl pu (by rw [List.size_toArray]; exact boundsTo ac (by omega)) (by omega) (by rw [List.size_toArray]; omega) (by rw [List.size_toArray, List.size_toArray]; omega) ?_
  refine ⟨σ, _, I5.lset (its' := is.take a ++ js ++ is.drop (min c is.length)) (t' := s4.toks) hp o1 (splice_eq is js a (min c is.length)) ?_ ?_, q⟩
  · rw [e1]
    exact Vals.append (Vals.append (r1.take _) r2) (r1.drop _)
  · simp only [List.length_append, List.length_take, List.length_drop]
    omega
/-- own[lo:hi] = .. -/
def gCut (i : Nat) (g : DTE) (gl gh : DTO) : DTS := fun G ρ => g ρ fun d ρ1 => (∃ ds, lk ρ1 i = some (.own (.list ds))) ∧ gl ρ1 fun l ρ2 => gh ρ2 fun u ρ3 => ∃ (es ds : List D) (a c : Nat), d = .list es ∧ lk ρ3 i = some (.own (.list ds)) ∧ l = some (a : Int) ∧ u = some (c : Int) ∧
  a ≤ c ∧ a ≤ ds.length ∧ ds.length + es.length ≤ 100000 ∧ G.nx (ρ3.set i (some (.own (.list (ds.take a ++ es ++ ds.drop (min c ds.length))))))
theorem dcut (i : Nat) {x : Str} {px : Pos} {g : DTE} {gl gh : DTO} (hl : DO X lo gl) (hh : DO X hi gh) (hv : DF X value g) (hN : X.N[i]? = some x := by rfl) (hvis : Vis X.env.scope x := by first | exact Or.inl rfl | exact Or.inr (Or.inl rfl) | exact Or.inr (Or.inr rfl))
    (hd : (x == ("__debug__" : Str)) = false := by decide) (hcd : (x == ("__classdict__" : Str)) = false := by decide) (hs : swapsWith value (some (.Subscript (.Name x px) (.Slice lo hi none p2) p')) pos.line X.env = pure false := by rfl) :
    DS X (.Assign [.Subscript (.Name x px) (.Slice lo hi none p2) p'] value pos) (gCut i g gl gh) := by
  obtain ⟨t0, q0, m0⟩ := hv.ex
  obtain ⟨t1, q1, m1⟩ := hl.ex
  obtain ⟨t2, q2, m2⟩ := hh.ex
  refine ⟨_, ps_cut (pe_var hN hvis hd hcd) q1 q2 q0 hs, fun C S σ H ρ E G R q n r b c => ?_⟩
  refine m0 C S σ H ρ _ _ R q fun bb H1 d ρ1 f1 R1 _ hb ob h1 => ?_
  obtain ⟨⟨ds0, h0⟩, h1⟩ := h1
  obtain ⟨z, _, e0, Sz, _, _⟩ := R1.ownL h0
  refine ⟨_, e0, m1 C S σ H1 ρ1 _ _ R1 h1 fun l H2 ρ2 f2 R2 h2 => m2 C S σ H2 ρ2 _ _ R2 h2 fun u H3 ρ3 f3 R3 h3 => ?_⟩
  obtain ⟨es, ds, a, k, rfl, h4, rfl, rfl, ak, ad, zz, q⟩ := h3
  obtain ⟨z', xs, e1, Sz', e2, ra⟩ := R3.ownL h4
  rw [e0] at e1
  cases e1
  have nS := R.notS hb
  have rb : Rp X.K S H1 (.ref bb) (.list es) := obSub R hb ob
  have rb3 := f3.rp (f2.rp rb)
  cases ob with
  | lst eb rl =>
    have eb3 := f3 bb _ (f2 bb _ eb (.inl nS)) (.inl nS)
    have rs : RpA X.K S H3 _ es := f3.rpa (f2.rpa (rl.anti fun a h => .inl h))
    refine ⟨z, bb, xs, _, a, k, rfl, rfl, fun w => nS (w ▸ Sz), e2, eb3, rfl, rfl, ak, by rw [ra.len]; exact ad, by rw [ra.len, rs.len]; exact szOf zz, ?_⟩
    have R4 := R3.write (lk_get h4) e0 (u := .lst (xs.take a ++ _ ++ xs.drop (min k xs.length))) (.lst upd_same ((((ra.wr Sz).take a).app (rs.wr Sz)).app ((ra.wr Sz).drop (min k xs.length))))
    rw [ra.len] at R4 ⊢
    exact n S σ _ _ R4 q
/-- own[lo:hi]: a new list -/
def gSlO (i : Nat) (gl gh : DTO) : DTE := fun ρ Q => (∃ ds, lk ρ i = some (.own (.list ds))) ∧ gl ρ fun l ρ1 => gh ρ1 fun u ρ2 => ∃ ds, lk ρ2 i = some (.own (.list ds)) ∧ Q (.list (cutD ds l u)) ρ2
theorem dslO (i : Nat) {x : Str} {px : Pos} {gl gh : DTO} (hl : DO X lo gl) (hh : DO X hi gh) (hN : X.N[i]? = some x := by rfl) (hvis : Vis X.env.scope x := by first | exact Or.inl rfl | exact Or.inr (Or.inl rfl) | exact Or.inr (Or.inr rfl))
    (hd : (x == ("__debug__" : Str)) = false := by decide) (hcd : (x == ("__classdict__" : Str)) = false := by decide) : DF X (.Subscript (.Name x px) (.Slice lo hi none p2) pos) (gSlO i gl gh) := by
  obtain ⟨t1, q1, m1⟩ := hl.ex
  obtain ⟨t2, q2, m2⟩ := hh.ex
  refine ⟨_, pe_slice sl_list (pe_var hN hvis hd hcd) q1 q2, fun C S σ H ρ Q k R q f => ?_⟩
  obtain ⟨⟨ds0, h0⟩, h1⟩ := q
  obtain ⟨z, _, e0, Sz, _, _⟩ := R.ownL h0
  refine ⟨_, e0, m1 C S σ H ρ _ _ R h1 fun l H2 ρ2 f2 R2 h2 => m2 C S σ H2 ρ2 _ _ R2 h2 fun u H3 ρ3 f3 R3 h3 => ?_⟩
  obtain ⟨ds, h4, q⟩ := h3
  obtain ⟨z', xs, e1, Sz', e2, ra⟩ := R3.ownL h4
  rw [e0] at e1
  cases e1
  exact ⟨z, xs, rfl, .of e2, fun w hw => f w _ _ ρ3 ((f2.trans f3).trans (.of (.new hw))) (newOb R3 hw).1 (newOb R3 hw).2 (freshAt (f2.trans f3) R3 hw) (.lst upd_same (RpA.newp (ra.cut l u) hw)) q⟩
end
/-! ## x.index(y) -/
theorem mt_indexT {X : Cx} (hu : X.A.units + 65 < cLine) : MtR X "tuple.index" (fun x xs H Q => ∃ (a : Addr) (y : V) (d : D) (ds : List D) (j : Nat) (z : D), x = .ref a ∧ xs = [y] ∧ Dp X.K H (.ref a) (.tuple ds) ∧ Dp X.K H y d ∧ SeqAt.shaped (.tuple ds) = true ∧ SeqAt.shaped d = true ∧
    ds[j]? = some z ∧ PyData.eqv z d = true ∧ (∀ (m : Nat) (z' : D), m < j → ds[m]? = some z' → PyData.eqv z' d = false) ∧ Q (.int (j : Nat)) H) := by
  rintro pins s σ H x xs v us Q I rx rxs ⟨a, y, d, ds, j, z, rfl, rfl, hl, hy, sl, sd, hz, hzj, hno, q⟩
  cases rx
  obtain ⟨u, rfl, ru⟩ := vals1 rxs
  obtain ⟨bs, r1⟩ := Dp.reads I d y u hy ru
  have lay : PyData.canLayAll0 ds = true := by
    have := SeqAt.canLay_of_shaped sl
    simpa [PyData.canLay0] using this
  have room : X.A.units + 1 + min (PyData.depthAll ds) d.depth < cLine := room_in_shaped sd hu
  cases hl with
  | tup hs ha =>
    obtain ⟨is, rv, ⟨⟨cls, dd, data, sls⟩, ho, hc, n, hdt⟩, hlen⟩ := I.tuple hs
    simp only at hc hdt
    subst hc hdt
    obtain ⟨as, r4⟩ := Dp.readsAll I ds _ is ha rv
    have e1 : is.length = ds.length := SeqAt.ReadsAll.length ds is as r4
    have e2 : is.map (SeqAt.readOf s.heap) = ds := SeqAt.readsAll_map ds is as lay r4
    have hjd := (List.getElem?_eq_some_iff.mp hz).1
    have hj : j < is.toArray.size := by simp; omega
    have rd : ∀ (m : Nat) (hm : m < is.toArray.size) (z' : D), ds[m]? = some z' → SeqAt.readOf s.heap is.toArray[m] = z' := fun m hm z' hz' => by
      have hml : m < is.length := by simpa using hm
      rw [← e2, List.getElem?_map, List.getElem?_eq_getElem hml] at hz'
      simpa using hz'
    refine call_meets PySem.F.slot_tuple_index ⟨_, ho, rfl⟩ PySem.F.entry_tuple_index (PySem.F.args_tuple_index_2 _ _) (TI.tuple_indexAt a is.toArray n dd sls u (fun w => PyData.eqv (SeqAt.readOf s.heap w) d) j hj ?_ ?_)
      ⟨ho, SeqAt.items_eqAt (vs := is.toArray) (show ReadsAll s.heap is.toArray.toList ds as from r4) r1 lay (SeqAt.canLay_of_shaped sd) room, ⟨.int (j : Nat), H, I.tok _, ⟨_, rfl⟩, q⟩⟩
    · rw [rd j hj z hz]
      exact hzj
    · intro m hm hmj
      rw [rd m hm _ (List.getElem?_eq_getElem (show m < ds.length by omega))]
      exact hno m _ hmj (List.getElem?_eq_getElem (by omega))
/-! methods of a tuple -/
theorem tupX_is {X : Cx} {pins : List (Addr × Obj)} {σ : L2.St} {H : Hp} {s : Shared} {S : Vol} {a : Addr} {xs : List V} (I : Inv X pins σ H s) (h : TupX X.K S H a xs) : s.TypeIs (.ref a) "tuple" ∧ ∀ b, Value.ref a = .ref b → ∃ ob, s.heap.get? b = some ob ∧ ob.dict = none := by
  have z : ∃ ob, s.heap.get? a = some ob ∧ ob.cls = .type "tuple" ∧ ob.dict = none := by
    rcases h with ⟨⟨o, h, d⟩, _⟩ | ⟨o, its, n, h1, h2, h3, _⟩
    · obtain ⟨e, _, is, _, ⟨o', e', c, _⟩⟩ := I.hok a _ h
      rw [e] at e'
      cases e'
      exact ⟨o, e, c, d⟩
    · exact ⟨o, I.kIn a o h1, h2, h3⟩
  obtain ⟨ob, e, c, d⟩ := z
  exact ⟨⟨ob, e, c⟩, fun b eb => by cases eb; exact ⟨ob, e, d⟩⟩
section
variable {X : Cx} {o e : Expr} {es : List Expr} {to : TE} {t : TA} {apos cpos : Pos} {name : Str} {id : String} {r : V → List V → Hp → VK → Prop}
def tMT (K : PySem.W.Frag) (r : V → List V → Hp → VK → Prop) (to : TE) (t : TA) : TE := fun σ H Q => to σ H fun x H1 => (∃ (S : Vol) (a : Addr) (xs : List V), x = .ref a ∧ TupX K S H1 a xs) ∧ t σ H1 fun vs H2 => r x vs H2 Q
theorem pe_mT (slot : Slot "tuple" name id) (hty : typeOf (.builtin id) = pure (.type "method_descriptor")) (hm : MtR X id r) (ho : PE X o to) (ha : PA X (e :: es) t)
    (hbase : attributeBase o name X.env (eval o X.env) = eval o X.env) (hfew : ((backTo cpos (starEach (e :: es) X.env)).all (fun x => !x.1) && (backToKw cpos (keywordEach [] X.env)).all (fun x => x.1.isSome)
      && decide ((e :: es).length + ([] : List Keyword).length + (if ([] : List Keyword).isEmpty then 0 else 1) < 30)) = true) (hline : (apos.endLine == cpos.line) = true)
    (hs : starEach (e :: es) X.env = (false, eval e X.env) :: starEach es X.env) (hpl : (backTo cpos (starEach es X.env)).any (·.1) = false) : PE X (.Call (.Attribute o name apos) (e :: es) [] cpos) (tMT X.K r to t) := by
  refine ⟨fun pins s σ H Q I h => wpAny_Call_method_late hbase hfew hline rfl (thn (ho.run pins s σ H _ I h) fun v s1 ⟨x, H1, I1, r1, ty, q1⟩ => ?_)⟩
  obtain ⟨S, a, xs, rfl, ty⟩ := ty
  cases r1
  obtain ⟨h1, h2⟩ := tupX_is I1 ty
  refine ⟨"tuple", id, PySem.F.plainAttrs_tuple, slot, hty, h1, h2, ?_⟩
  have hA := ha.run cpos pins s1 σ H1 _ I1 q1
  rw [hs] at hA ⊢
  exact Calls.callWith_builtin (by show (false || (backTo cpos (starEach es X.env)).any (·.1)) = false; rw [hpl]; rfl) (Calls.evalArgs_plain (thn hA fun us s2 ⟨vs, H2, I2, r2, q2⟩ => hm pins s2 σ H2 (.ref a) vs (.ref a) us Q I2 (show RelV (.ref a) (.ref a) from rfl) r2 q2))
end
/-- the place of the first equal one -/
def ixGoes (ds : List D) (d : D) (P : Int → Prop) : Prop := SeqAt.shaped (.list ds) = true ∧ SeqAt.shaped d = true ∧ ∃ (j : Nat) (z : D), ds[j]? = some z ∧ PyData.eqv z d = true ∧ (∀ (m : Nat) (z' : D), m < j → ds[m]? = some z' → PyData.eqv z' d = false) ∧ P (j : Nat)
def gIndexT (gr ga : DTE) : DTE := fun ρ Q => gr ρ fun r ρ1 => ∃ ds : List D, r = .tuple ds ∧ ga ρ1 fun d ρ2 => ixGoes ds d fun j => Q (.int j) ρ2
def gIndexL (gr ga : DTE) : DTE := fun ρ Q => gr ρ fun r ρ1 => ∃ ds : List D, r = .list ds ∧ ga ρ1 fun d ρ2 => ixGoes ds d fun j => Q (.int j) ρ2
section
variable {X : Cx} {o e : Expr} {gr ga : DTE} {apos cpos : Pos}
theorem dindexT (hu : X.A.units + 65 < cLine) (ho : DE X o gr) (he : DE X e ga) (hst : starEach [e] X.env = (false, eval e X.env) :: starEach [] X.env := by rfl)
    (hbase : attributeBase o "index" X.env (eval o X.env) = eval o X.env := by rfl) (hfew : ((backTo cpos (starEach [e] X.env)).all (fun x => !x.1) && (backToKw cpos (keywordEach [] X.env)).all (fun x => x.1.isSome)
      && decide ([e].length + ([] : List Keyword).length + (if ([] : List Keyword).isEmpty then 0 else 1) < 30)) = true := by rfl) (hline : (apos.endLine == cpos.line) = true := by rfl)
    (hpl : (backTo cpos (starEach [] X.env)).any (·.1) = false := by rfl) : DE X (.Call (.Attribute o "index" apos) [e] [] cpos) (gIndexT gr ga) := by
  obtain ⟨t1, q1, m1⟩ := ho.ex
  obtain ⟨t2, q2, m2⟩ := he.ex
  refine ⟨_, pe_mT PySem.F.slot_tuple_index PySem.F.type_tuple_index (mt_indexT hu) q1 (pa_cons q2 pa_nil hst) hbase hfew hline hst hpl, fun C S σ H ρ Q k R q f => m1 C S σ H ρ _ _ R q fun v H1 d ρ1 f1 R1 r1 h1 => ?_⟩
  obtain ⟨ds, rfl, h1⟩ := h1
  have r1' := r1
  cases r1 with
  | tup e1 rr =>
    refine ⟨⟨S, _, _, rfl, e1⟩, m2 C S σ H1 ρ1 _ _ R1 h1 fun y H2 d2 ρ2 f2 R2 r2 h2 => ?_⟩
    obtain ⟨s1, s2, j, z, hz, hj, hno, q⟩ := h2
    have s1' : SeqAt.shaped (.tuple ds) = true := s1
    have r3 := (f2.rp r1').dp (SeqAt.canLay_of_shaped s1')
    exact ⟨_, y, d2, ds, j, z, rfl, rfl, r3, r2.dp (SeqAt.canLay_of_shaped s2), s1', s2, hz, hj, hno, f _ H2 _ ρ2 (f1.trans f2) R2 (.int _) q⟩
theorem dindexL (hu : X.A.units + 65 < cLine) (ho' : DE X o gr) (he : DE X e ga) (hst : starEach [e] X.env = (false, eval e X.env) :: starEach [] X.env := by rfl)
    (hbase : attributeBase o "index" X.env (eval o X.env) = eval o X.env := by rfl) (hfew : ((backTo cpos (starEach [e] X.env)).all (fun x => !x.1) && (backToKw cpos (keywordEach [] X.env)).all (fun x => x.1.isSome)
      && decide ([e].length + ([] : List Keyword).length + (if ([] : List Keyword).isEmpty then 0 else 1) < 30)) = true := by rfl) (hline : (apos.endLine == cpos.line) = true := by rfl)
    (hpl : (backTo cpos (starEach [] X.env)).any (·.1) = false := by rfl) : DE X (.Call (.Attribute o "index" apos) [e] [] cpos) (gIndexL gr ga) := by
  obtain ⟨t1, q1, m1⟩ := ho'.ex
  obtain ⟨t2, q2, m2⟩ := he.ex
  refine ⟨_, pe_bm PySem.F.plainAttrs_list PySem.F.slot_list_index PySem.F.type_list_index (mt_indexD hu) q1 (pa_cons q2 pa_nil hst) hbase hfew hline hst hpl, fun C S σ H ρ Q k R q f => m1 C S σ H ρ _ _ R q fun v H1 d ρ1 f1 R1 r1 h1 => ?_⟩
  obtain ⟨ds, rfl, h1⟩ := h1
  have r1' := r1
  cases r1 with
  | lst e1 rr =>
    refine ⟨.inl ⟨rfl, _, e1.sq⟩, m2 C S σ H1 ρ1 _ _ R1 h1 fun y H2 d2 ρ2 f2 R2 r2 h2 => ?_⟩
    obtain ⟨s1, s2, j, z, hz, hj, hno, q⟩ := h2
    have r3 := (f2.rp r1').dp (SeqAt.canLay_of_shaped s1)
    exact ⟨_, y, d2, ds, j, z, rfl, rfl, r3, r2.dp (SeqAt.canLay_of_shaped s2), s1, s2, hz, hj, hno, f _ H2 _ ρ2 (f1.trans f2) R2 (.int _) q⟩
end
/-! ## a < b < c -/
def gChain (f f' : DOp) (ga gb gc : DTE) : DTE := fun ρ Q => ga ρ fun x ρ1 => gb ρ1 fun y ρ2 => f x y fun d => ∃ c, d = .bool c ∧ if c = true then gc ρ2 fun z ρ3 => f' y z fun d' => Q d' ρ3 else Q (.bool false) ρ2
section
variable {X : Cx} {a b c : Expr} {ga gb gc : DTE} {pos : Pos} {op op' : CmpOp} {f f' : DOp}
theorem simChain {K : PySem.W.Frag} {r r' : R2} {ta tb tc : TE} (h1 : ∀ (S : Vol) (H : Hp) (x y : V) (dx dy : D) (Q : D → Prop) (k : VK), (∀ p, H p = none → ¬ S p) → Rq K S H x dx → Rq K S H y dy → f dx dy Q → (∀ z H' d, Ext H H' → Rp K S H' z d → Q d → k z H') → r x y H k)
    (h2 : ∀ (S : Vol) (H : Hp) (x y : V) (dx dy : D) (Q : D → Prop) (k : VK), (∀ p, H p = none → ¬ S p) → Rq K S H x dx → Rq K S H y dy → f' dx dy Q → (∀ z H' d, Ext H H' → Rp K S H' z d → Q d → k z H') → r' x y H k)
    (sa : SimE K ta ga) (sb : SimE K tb gb) (sc : SimE K tc gc) : SimE K (tChain r r' ta tb tc) (gChain f f' ga gb gc) := fun C S σ H ρ Q k R q fk =>
  sa C S σ H ρ _ _ R q fun x H1 dx ρ1 f1 R1 rx q1 => sb C S σ H1 ρ1 _ _ R1 q1 fun y H2 dy ρ2 f2 R2 ry q2 => h1 S H2 x y dx dy _ _ (fun p hp => R2.notS hp) (.inl (f2.rp rx)) (.inl ry) q2 fun z H3 d e3 rz q3 => by
    obtain ⟨c, rfl, q3⟩ := q3
    cases rz
    have R3 := R2.ext e3
    refine ⟨c, rfl, ?_⟩
    cases c with
    | true => exact iteT (sc C S σ H3 ρ2 _ _ R3 (unT q3) fun w H4 dw ρ3 f4 R4 rw' q4 => h2 S H4 y w dy dw _ _ (fun p hp => R4.notS hp) (.inl (f4.rp (ry.ext e3))) (.inl rw') q4 fun z H5 d e5 rz q5 => fk z H5 d ρ3 (((f1.trans f2).trans (.of e3)).trans (f4.trans (.of e5))) (R4.ext e5) rz q5)
    | false => exact iteF (fk (.bl false) H3 _ ρ2 ((f1.trans f2).trans (.of e3)) R3 (.bl false) (unF q3))
theorem dchain (ho : OpD X (compareOp op) f) (ho' : OpD X (compareOp op') f') (ha : DE X a ga) (hb : DE X b gb) (hc : DE X c gc) (hm : lastMarks [op, op'] [b, c] = false := by with_unfolding_all rfl) : DE X (.Compare a [op, op'] [b, c] pos) (gChain f f' ga gb gc) := by
  obtain ⟨r, h1, h2⟩ := ho
  obtain ⟨r', h3, h4⟩ := ho'
  obtain ⟨_, p1, s1⟩ := ha.ex
  obtain ⟨_, p2, s2⟩ := hb.ex
  obtain ⟨_, p3, s3⟩ := hc.ex
  exact ⟨_, pe_chain h1 h3 p1 p2 p3 hm, simChain h2 h4 s1 s2 s3⟩
theorem dtchain (ho : OpD X (compareOp op) f) (ho' : OpD X (compareOp op') f') (ha : DE X a ga) (hb : DE X b gb) (hc : DE X c gc) (hm : lastMarks [op, op'] [b, c] = false := by with_unfolding_all rfl) : DT X (.Compare a [op, op'] [b, c] pos) (gTest (gChain f f' ga gb gc)) := by
  obtain ⟨r, h1, h2⟩ := ho
  obtain ⟨r', h3, h4⟩ := ho'
  obtain ⟨_, p1, s1⟩ := ha.ex
  obtain ⟨_, p2, s2⟩ := hb.ex
  obtain ⟨_, p3, s3⟩ := hc.ex
  exact ⟨_, pt_chain h1 h3 p1 p2 p3 hm, simTest (simChain h2 h4 s1 s2 s3)⟩
end
/-! ## own list times, (..) * n -/
@[simp] theorem gCut_s {i : Nat} {g : DTE} {gl gh : DTO} {G : DEnds} {ρ : Rho} : gCut i g gl gh G ρ = g ρ fun d ρ1 => (∃ ds, lk ρ1 i = some (.own (.list ds))) ∧ gl ρ1 fun l ρ2 => gh ρ2 fun u ρ3 => ∃ (es ds : List D) (a c : Nat), d = .list es ∧ lk ρ3 i = some (.own (.list ds)) ∧ l = some (a : Int) ∧ u = some (c : Int) ∧
  a ≤ c ∧ a ≤ ds.length ∧ ds.length + es.length ≤ 100000 ∧ G.nx (ρ3.set i (some (.own (.list (ds.take a ++ es ++ ds.drop (min c ds.length)))))) := rfl
@[simp] theorem gSlO_s {i : Nat} {gl gh : DTO} {ρ : Rho} {Q : D → Rho → Prop} : gSlO i gl gh ρ Q = ((∃ ds, lk ρ i = some (.own (.list ds))) ∧ gl ρ fun l ρ1 => gh ρ1 fun u ρ2 => ∃ ds, lk ρ2 i = some (.own (.list ds)) ∧ Q (.list (cutD ds l u)) ρ2) := rfl
@[simp] theorem gIndexT_s {gr ga : DTE} {ρ : Rho} {Q : D → Rho → Prop} : gIndexT gr ga ρ Q = gr ρ fun r ρ1 => ∃ ds : List D, r = .tuple ds ∧ ga ρ1 fun d ρ2 => ixGoes ds d fun j => Q (.int j) ρ2 := rfl
@[simp] theorem gIndexL_s {gr ga : DTE} {ρ : Rho} {Q : D → Rho → Prop} : gIndexL gr ga ρ Q = gr ρ fun r ρ1 => ∃ ds : List D, r = .list ds ∧ ga ρ1 fun d ρ2 => ixGoes ds d fun j => Q (.int j) ρ2 := rfl
@[simp] theorem gChain_s {f f' : DOp} {ga gb gc : DTE} {ρ : Rho} {Q : D → Rho → Prop} : gChain f f' ga gb gc ρ Q = ga ρ fun x ρ1 => gb ρ1 fun y ρ2 => f x y fun d => ∃ c, d = .bool c ∧ if c = true then gc ρ2 fun z ρ3 => f' y z fun d' => Q d' ρ3 else Q (.bool false) ρ2 := rfl
/-! ## x = x if c else a -/
def gSetIfN (i : Nat) (c : DTT) (g : DTE) : DTS := fun G ρ => c ρ fun b ρ1 => if b = true then ∃ d, lk ρ1 i = some (.own d) ∧ G.nx ρ1 else g ρ1 fun d ρ2 => G.nx (ρ2.set i (some (.own d)))
theorem dsetIfN {X : Cx} {pos : Pos} {x : Str} (i : Nat) {c a : Expr} {s : DTT} {g : DTE} {px py pif : Pos} (hN : X.N.Nodup) (hc : DT X c s) (ha : DF X a g) (hi : X.N[i]? = some x := by rfl) (hx : Loc X.env.scope x := by first | exact Or.inl rfl | exact Or.inr rfl)
    (hs : swapsWith (.IfExp c (.Name x py) a pif) (some (.Name x px)) pos.line X.env = pure false := by rfl) (hf : X.fn x = true ∨ X.env.scope.names.lookup x = some .local := by first | exact .inl rfl | exact .inr rfl | assumption)
    (hv : Vis X.env.scope x := by first | exact Or.inl rfl | exact Or.inr (Or.inl rfl) | exact Or.inr (Or.inr rfl)) (hd : (x == ("__debug__" : Str)) = false := by decide) (hcd : (x == ("__classdict__" : Str)) = false := by decide) :
    DS X (.Assign [.Name x px] (.IfExp c (.Name x py) a pif) pos) (gSetIfN i s g) := by
  obtain ⟨_, p1, s1⟩ := hc.ex
  obtain ⟨_, p2, s2⟩ := ha.ex
  refine ⟨_, ps_set hN hi hx (pe_ifExp p1 (pe_var hi hv hd hcd) p2) hs hf, fun C S σ H ρ E G R q n r b cc => s1 C S σ H ρ _ _ R q fun bb H1 ρ1 f1 R1 q1 => ?_⟩
  cases bb with
  | false => exact iteF (simSetO i s2 C S σ H1 ρ1 E { G with nx := G.nx } R1 (unF q1) n r b cc)
  | true =>
    obtain ⟨d, h0, q2⟩ := unT q1
    obtain ⟨z, e0, _, _⟩ := R1.own (lk_get h0)
    refine iteT ⟨_, e0, ?_⟩
    have hlt := (List.getElem?_eq_some_iff.mp e0).1
    have es : σ.set i (some (.ref z)) = σ := List.ext_getElem? fun j => by
      by_cases hj : i = j
      · subst hj; rw [List.getElem?_set_self hlt, e0]
      · rw [List.getElem?_set_ne hj]
    show E.nx (σ.set i (some (.ref z))) H1
    rw [es]
    exact n S σ H1 ρ1 R1 q2
@[simp] theorem gSetIfN_s {i : Nat} {c : DTT} {g : DTE} {G : DEnds} {ρ : Rho} : gSetIfN i c g G ρ = c ρ fun b ρ1 => if b = true then ∃ d, lk ρ1 i = some (.own d) ∧ G.nx ρ1 else g ρ1 fun d ρ2 => G.nx (ρ2.set i (some (.own d))) := rfl
theorem gWhile_s {c : DTT} {T : DTS} {G : DEnds} {ρ : Rho} : gWhile c T G ρ = ∃ J : Nat → Rho → Prop, (∃ m, J m ρ) ∧ ∀ m ρ2, J m ρ2 → c ρ2 fun b ρ3 => if b = true then T { G with nx := fun ρ' => ∃ m', m' < m ∧ J m' ρ', ct := fun ρ' => ∃ m', m' < m ∧ J m' ρ', bk := G.nx } ρ3 else G.nx ρ3 := rfl
end Gw
namespace Gw
open PySem PySem.Spec PyProof.Rows L2

/-! ## dicts whose keys are tuples of ints -/
abbrev tkd (P : Program) (w : World) := tupleKind (intKind P w)
def zipX (xs : KVs) (ws : List Value) : List (List Int × Addr × Value) := (xs.zip ws).map fun p => (p.1.1, p.1.2.1, p.2)
def IsDT (H : Hp) (a : Addr) (xs : KVs) : Prop := ∃ ep, H a = some (dtO a xs ep)
section
variable {X : Cx} {pins : List (Addr × Obj)} {σ : VStore} {H : Hp} {s : Shared} {a b : Addr} {xs : KVs} {ks : List Int} {K : PySem.W.Frag} {S : Vol}
theorem zipX_keys : ∀ {xs : KVs} {ws : List Value}, xs.length = ws.length → (zipX xs ws).map (·.1) = xs.map (·.1)
  | [], [], _ => rfl
  | x :: xs, y :: ws, h => by
    have := zipX_keys (xs := xs) (ws := ws) (by simpa using h)
    simp only [zipX, List.zip_cons_cons, List.map_cons] at this ⊢
    rw [this]
/-- the tuple at b is the key ks -/
theorem isKey (I : Inv X pins σ H s) (h : SqT X.K H b (ks.map V.int)) : IsTupleKey (intKind X.prog X.w) s.heap ks b := by
  obtain ⟨its, rv, ⟨o, ho, hc, n, hd⟩, _⟩ := I.tuple h
  refine ⟨o, _, n, ho, hc, hd, ?_⟩
  have : ∀ (ks : List Int) (its : List Value), Vals (ks.map V.int) its → ItemsAre (intKind X.prog X.w) ks its := by
    intro ks
    induction ks with
    | nil => intro its r; cases r; exact .nil
    | cons k ks ih =>
      intro its r
      cases r with
      | cons r t =>
        obtain ⟨tk, rfl⟩ := r
        exact .cons (by simp [PySem.intKind, Value.isInt]) (ih _ t)
  exact this ks its rv
def KeysQ (K : PySem.W.Frag) (H : Hp) (xs : KVs) : Prop := ∀ x ∈ xs, SqT K H x.2.1 (x.1.map V.int)
theorem KeysX.q (h : KeysX K S H xs) : KeysQ K H xs := fun x hx => (h x hx).sq
theorem dtAt (I : Inv X pins σ H s) (h : IsDT H a xs) (hk : KeysQ X.K H xs) :
    (a == sysModules) = false ∧ xs.length ≤ sizeLine ∧ ∃ ws, Vals (xs.map (·.2.2)) ws ∧ xs.length = ws.length ∧ s.heap.DictOfH (tkd X.prog X.w) a (zipX xs ws) := by
  obtain ⟨ep, h⟩ := h
  obtain ⟨⟨h1, h2, o, es, ws, h3, h4, h5, h6, h7, h8⟩, _⟩ := I.hok a _ h
  have hl : xs.length = ws.length := by have := h6.length; simpa using this
  refine ⟨h1, h2, ws, h6, hl, o, es, ep, h3, h4, h5, ?_, fun x hx => ?_, ?_⟩
  · rw [h7, zipX, List.map_map]; rfl
  · obtain ⟨p, hp, rfl⟩ := List.mem_map.mp hx
    exact isKey I (hk p.1 (List.of_mem_zip hp).1)
  · rw [zipX_keys hl]; exact h8
/-- .. and back -/
theorem dtBack {h' : Heap} {ws : List Value} {xs : KVs} (h1 : (a == sysModules) = false) (h2 : xs.length ≤ sizeLine) (hv : Vals (xs.map (·.2.2)) ws) (hd : h'.DictOfH (tkd X.prog X.w) a (zipX xs ws)) : ∃ ep, ∀ H, ObjOk X.prog X.w H h' a (dtO a xs ep) := by
  have hl : xs.length = ws.length := by have := hv.length; simpa using this
  obtain ⟨o, es, ep, h3, h4, h5, h6, h7, h8⟩ := hd
  refine ⟨ep, fun H => ⟨⟨h1, h2, o, es, ws, h3, h4, h5, hv, ?_, by rw [← zipX_keys hl]; exact h8⟩, ⟨o, h3⟩, ?_⟩⟩
  · rw [h6, zipX, List.map_map]; rfl
  · rintro g1 g2 ⟨q1, q2, o, es, ws, q3, r⟩ hk
    exact ⟨q1, q2, o, es, ws, hk _ q3, r⟩

/-! ### {} -/
def tDNewX : TE := fun _ H Q => ∀ p, H p = none → ∀ ep, Q (.ref p) (upd H p (dtO p [] ep))
theorem pe_dnewX {pos : Pos} : PE X (.Dict [] [] pos) tDNewX := ⟨fun pins s σ H Q I h => by
  obtain ⟨ep, ok⟩ := dtBack (X := X) (ws := []) (xs := []) (beq_eq_false_iff_ne.mpr (Ne.symm (Nat.ne_of_lt I.big))) (Nat.zero_le _) .nil (Heap.DictOfH.new s.heap)
  exact wpAny_Dict_empty ⟨.ref s.heap.objs.size, _, I.laid (a := s.heap.objs.size) (o := dtO s.heap.objs.size [] ep) (t' := s.toks) (fun _ _ q => Heap.get?_push_of_some _ q) (Nat.le_refl _) (ok _), rfl, h _ (I.hok.fresh (Nat.le_refl _)) _⟩⟩
/-- the data of a dict -/
def dicI (kvs : List (List Int × D)) : D := .dict (kvs.map fun p => (tK p.1, p.2))
def gDic0 : DTE := fun ρ Q => Q (dicI []) ρ
theorem simDic0 : SimF K tDNewX gDic0 := fun C S σ H ρ Q k R q f p hp ep => by
  obtain ⟨R1, R2⟩ := newOb (u := dtO p [] ep) R hp
  exact f p _ _ ρ (.of (.new hp)) R1 R2 hp (.dT (kk := []) (ds := []) upd_same (fun x hx => nomatch hx) .nil) q
theorem ddic0 {pos : Pos} : DF X (.Dict [] [] pos) gDic0 := ⟨_, pe_dnewX, simDic0⟩

/-! ### k in d -/
theorem atKey_zip (ks : List Int) : ∀ {xs : KVs} {ws : List Value}, xs.length = ws.length → (atKey (zipX xs ws) ks).isSome = xs.any fun p => decide (p.1 = ks)
  | [], [], _ => rfl
  | x :: xs, y :: ws, h => by
    have := atKey_zip ks (xs := xs) (ws := ws) (by simpa using h)
    simp only [zipX, List.zip_cons_cons, List.map_cons, List.any_cons] at this ⊢
    unfold atKey at this ⊢
    rw [List.find?_cons]
    by_cases e : x.1 = ks
    · simp [e]
    · simp only [e, decide_false, Bool.false_or]
      exact this
def rInX (K : PySem.W.Frag) : R2 := fun x y H Q => ∃ b a xs ks, x = .ref b ∧ y = .ref a ∧ IsDT H a xs ∧ KeysQ K H xs ∧ SqT K H b (ks.map V.int) ∧ Q (.bl (xs.any fun p => decide (p.1 = ks))) H
def rNinX (K : PySem.W.Frag) : R2 := fun x y H Q => ∃ b a xs ks, x = .ref b ∧ y = .ref a ∧ IsDT H a xs ∧ KeysQ K H xs ∧ SqT K H b (ks.map V.int) ∧ Q (.bl (!xs.any fun p => decide (p.1 = ks))) H
theorem op_inX (hu : X.A.units + 1 < cLine) : OpR X (compareOp .In) (rInX X.K) := by
  rintro pins s σ H x y v u Q I rx ry ⟨b, a, xs, ks, rfl, rfl, h, hk, hb, q⟩
  cases rx
  cases ry
  obtain ⟨hd, hl, ws, rv, le, hm⟩ := dtAt I h hk
  refine wpAny_in_heap (knd := tkd X.prog X.w) (tupleKind_room_in1 hu) (isKey I hb) hd hm ?_
  rw [atKey_zip ks le]
  exact ⟨.bl _, H, I.tok _, rfl, q⟩
theorem op_ninX (hu : X.A.units + 1 < cLine) : OpR X (compareOp .NotIn) (rNinX X.K) := by
  rintro pins s σ H x y v u Q I rx ry ⟨b, a, xs, ks, rfl, rfl, h, hk, hb, q⟩
  cases rx
  cases ry
  obtain ⟨hd, hl, ws, rv, le, hm⟩ := dtAt I h hk
  show wpAny _ _ (do return Value.bool (!(← contains (.ref a) (.ref b)))) _ _ s
  refine wpAny_bind (wpAny_contains_heap (knd := tkd X.prog X.w) (tupleKind_room_in1 hu) (isKey I hb) hd hm (wpAny_pure ?_))
  rw [atKey_zip ks le]
  exact ⟨.bl _, H, I.tok _, rfl, q⟩
/-- dict data, read -/
theorem dicI_of {kk : KVs} {ds : List D} (h : kk.length = ds.length) : (kk.map fun p => tK p.1).zip ds = ((kk.zip ds).map fun p => (p.1.1, p.2)).map fun p => (tK p.1, p.2) := by
  induction kk generalizing ds with
  | nil => cases ds <;> rfl
  | cons x kk ih => cases ds with
    | nil => cases h
    | cons d ds => simp only [List.map_cons, List.zip_cons_cons]; rw [ih (by simpa using h)]
theorem tK_inj {a b : List Int} (h : tK a = tK b) : a = b := by
  unfold tK at h
  have h := PyData.tuple.inj h
  exact (List.map_inj_right (fun x y e => PyData.int.inj e)).mp h
theorem keyLists : ∀ {a : KVs} {b : List (List Int × D)} {ds : List D}, a.length = ds.length → ((a.map fun p => tK p.1).zip ds = b.map fun p => (tK p.1, p.2)) → a.map (·.1) = b.map (·.1) ∧ ds = b.map (·.2)
  | [], [], [], _, _ => ⟨rfl, rfl⟩
  | [], _ :: _, [], _, h => by simp at h
  | _ :: _, [], _ :: _, _, h => by simp at h
  | x :: a, y :: b, d :: ds, hl, h => by
    simp only [List.map_cons, List.zip_cons_cons, List.cons.injEq, Prod.mk.injEq] at h ⊢
    obtain ⟨⟨h1, h2⟩, h3⟩ := h
    obtain ⟨r1, r2⟩ := keyLists (by simpa using hl) h3
    exact ⟨⟨tK_inj h1, r1⟩, h2, r2⟩
/-- a dict with tuple keys, wherever it stands -/
theorem notT : ∀ {kk : List (Key × V)} {ds : List D} {kvs : List (List Int × D)}, kk ≠ [] → kk.length = ds.length → (kk.map fun p => keyD1 p.1).zip ds ≠ kvs.map fun p => (tK p.1, p.2)
  | [], _, _, h, _ => absurd rfl h
  | _ :: _, [], _, _, h => by simp at h
  | x :: _, _ :: _, [], _, _ => by simp
  | x :: _, _ :: _, y :: _, _, _ => by
    simp only [List.map_cons, List.zip_cons_cons, ne_eq, List.cons.injEq, Prod.mk.injEq, not_and]
    rintro ⟨h, _⟩
    obtain ⟨k, _⟩ := x
    cases k <;> cases h
theorem Rq.dic {v : V} {kvs : List (List Int × D)} (h : Rq K S H v (dicI kvs)) : ∃ p xs, v = .ref p ∧ IsDT H p xs ∧ KeysX K S H xs ∧ RpA K S H (xs.map (·.2.2)) (kvs.map (·.2)) ∧ xs.map (·.1) = kvs.map (·.1) := by
  generalize hd : dicI kvs = d at h
  unfold dicI at hd
  rcases h with h | ⟨p, rfl, h⟩
  · cases h with
    | dK n e z r => exact absurd (PyData.dict.inj hd).symm (notT n (by simpa using r.len))
    | dT e z q r =>
      obtain ⟨h1, h2⟩ := keyLists (by simpa using r.len) (PyData.dict.inj hd).symm
      exact ⟨_, _, rfl, ⟨_, e⟩, q, by rw [← h2]; exact r, h1⟩
    | _ => cases hd
  · cases h with
    | dK n e r => exact absurd (PyData.dict.inj hd).symm (notT n (by simpa using r.len))
    | dT e q r =>
      obtain ⟨h1, h2⟩ := keyLists (by simpa using r.len) (PyData.dict.inj hd).symm
      exact ⟨_, _, rfl, ⟨_, e⟩, q, by rw [← h2]; exact r, h1⟩
    | _ => cases hd
def inX : DOp := fun x y Q => ∃ ks kvs, x = tK ks ∧ y = dicI kvs ∧ Q (.bool (kvs.any fun p => decide (p.1 = ks)))
def ninX : DOp := fun x y Q => ∃ ks kvs, x = tK ks ∧ y = dicI kvs ∧ Q (.bool (!kvs.any fun p => decide (p.1 = ks)))
theorem any_keys {xs : KVs} {kvs : List (List Int × D)} (h : xs.map (·.1) = kvs.map (·.1)) (ks : List Int) : (xs.any fun p => decide (p.1 = ks)) = kvs.any fun p => decide (p.1 = ks) := by
  have e : ∀ {β : Type} (l : List (List Int × β)), (l.any fun p => decide (p.1 = ks)) = (l.map (·.1)).any fun k => decide (k = ks) := fun l => by rw [List.any_map]; rfl
  rw [e, e, h]
theorem Rq.key {v : V} {ks : List Int} (h : Rq K S H v (tK ks)) : ∃ p, v = .ref p ∧ SqT K H p (ks.map V.int) := by
  obtain ⟨p, xs, rfl, h1, h2⟩ := h.sqt
  have := h2.ints
  subst this
  exact ⟨p, rfl, h1⟩
theorem oinX (hu : X.A.units + 1 < cLine) : OpD X (compareOp .In) inX := ⟨_, op_inX hu, fun S H x y dx dy Q k n hx hy ⟨ks, kvs, e1, e2, q⟩ hk => by
  subst e1 e2
  obtain ⟨b, rfl, h1⟩ := hx.key
  obtain ⟨a, xs, rfl, h2, h3, _, h4⟩ := hy.dic
  refine ⟨b, a, xs, ks, rfl, rfl, h2, h3.q, h1, ?_⟩
  rw [any_keys h4]
  exact hk _ H _ (.refl H) (.bl _) q⟩
theorem oninX (hu : X.A.units + 1 < cLine) : OpD X (compareOp .NotIn) ninX := ⟨_, op_ninX hu, fun S H x y dx dy Q k n hx hy ⟨ks, kvs, e1, e2, q⟩ hk => by
  subst e1 e2
  obtain ⟨b, rfl, h1⟩ := hx.key
  obtain ⟨a, xs, rfl, h2, h3, _, h4⟩ := hy.dic
  refine ⟨b, a, xs, ks, rfl, rfl, h2, h3.q, h1, ?_⟩
  rw [any_keys h4]
  exact hk _ H _ (.refl H) (.bl _) q⟩

/-! ### d[k] = v -/
def putX (xs : KVs) (ks : List Int) (b : Addr) (v : V) : KVs := if xs.any (fun p => decide (p.1 = ks)) then xs.map fun p => if p.1 = ks then (p.1, p.2.1, v) else p else xs ++ [(ks, b, v)]
def putD (kvs : List (List Int × D)) (ks : List Int) (d : D) : List (List Int × D) := if kvs.any (fun p => decide (p.1 = ks)) then kvs.map fun p => if p.1 = ks then (p.1, d) else p else kvs ++ [(ks, d)]
theorem zipX_app {xs ys : KVs} {ws us : List Value} (h : xs.length = ws.length) : zipX (xs ++ ys) (ws ++ us) = zipX xs ws ++ zipX ys us := by
  unfold zipX
  rw [List.zip_append h, List.map_append]
theorem putX_old {ks : List Int} {v : V} {r : Value} (rv : RelV v r) : ∀ {xs : KVs} {ws : List Value}, Vals (xs.map (·.2.2)) ws → ∃ us, Vals ((xs.map fun p => if p.1 = ks then (p.1, p.2.1, v) else p).map (·.2.2)) us ∧ (zipX xs ws).map (putAt ks r) = zipX (xs.map fun p => if p.1 = ks then (p.1, p.2.1, v) else p) us
  | [], _, h => by cases h; exact ⟨[], .nil, rfl⟩
  | x :: xs, _, h => by
    cases h with
    | @cons _ w _ ws h t =>
      obtain ⟨us, h1, h2⟩ := putX_old (ks := ks) rv t
      by_cases e : x.1 = ks
      · refine ⟨r :: us, ?_, ?_⟩
        · simp only [List.map_cons, e, if_true]
          exact .cons rv h1
        · simp only [zipX, List.zip_cons_cons, List.map_cons, e, if_true] at h2 ⊢
          rw [h2]
          simp [putAt]
      · refine ⟨w :: us, ?_, ?_⟩
        · simp only [List.map_cons, e, if_false]
          exact .cons h h1
        · simp only [zipX, List.zip_cons_cons, List.map_cons, e, if_false] at h2 ⊢
          rw [h2]
          simp [putAt, e]
theorem putX_zip {xs : KVs} {ws : List Value} {ks : List Int} {b : Addr} {v : V} {r : Value} (hv : Vals (xs.map (·.2.2)) ws) (rv : RelV v r) : ∃ us, Vals ((putX xs ks b v).map (·.2.2)) us ∧ storedH (zipX xs ws) ks b r = zipX (putX xs ks b v) us := by
  have hl : xs.length = ws.length := by have := hv.length; simpa using this
  unfold storedH putX
  rw [atKey_zip ks hl]
  split
  · exact putX_old rv hv
  · refine ⟨ws ++ [r], by rw [List.map_append]; exact hv.append (.cons rv .nil), ?_⟩
    rw [zipX_app hl]
    rfl
theorem putX_len {xs : KVs} {ks : List Int} {b : Addr} {v : V} : (putX xs ks b v).length ≤ xs.length + 1 := by
  unfold putX
  split <;> simp
theorem putX_keys {xs : KVs} {ks : List Int} {b : Addr} {v : V} (h : KeysX K S H xs) (hb : TupX K S H b (ks.map V.int)) : KeysX K S H (putX xs ks b v) := by
  intro x hx
  unfold putX at hx
  split at hx
  · obtain ⟨y, hy, rfl⟩ := List.mem_map.mp hx
    by_cases e : y.1 = ks
    · simp only [e, if_true]
      have := h y hy
      rwa [e] at this
    · simp only [e, if_false]
      exact h y hy
  · rcases List.mem_append.mp hx with hx | hx
    · exact h x hx
    · obtain rfl := List.mem_singleton.mp hx
      exact hb
theorem putX_oldD {ks : List Int} {v : V} {d : D} (rv : Rp K S H v d) : ∀ {xs : KVs} {kvs : List (List Int × D)}, RpA K S H (xs.map (·.2.2)) (kvs.map (·.2)) → xs.map (·.1) = kvs.map (·.1) →
    RpA K S H ((xs.map fun p => if p.1 = ks then (p.1, p.2.1, v) else p).map (·.2.2)) ((kvs.map fun p => if p.1 = ks then (p.1, d) else p).map (·.2)) ∧ (xs.map fun p => if p.1 = ks then (p.1, p.2.1, v) else p).map (·.1) = (kvs.map fun p => if p.1 = ks then (p.1, d) else p).map (·.1)
  | [], [], _, _ => ⟨.nil, rfl⟩
  | [], _ :: _, _, h => by simp at h
  | _ :: _, [], _, h => by simp at h
  | x :: xs, y :: kvs, r, hk => by
    simp only [List.map_cons, List.cons.injEq] at r hk ⊢
    cases r with
    | cons r t =>
      obtain ⟨h1, h2⟩ := putX_oldD (ks := ks) rv t hk.2
      rw [hk.1]
      by_cases e : y.1 = ks
      · simp only [e, if_true]
        exact ⟨.cons rv h1, trivial, h2⟩
      · simp only [e, if_false]
        exact ⟨.cons r h1, hk.1, h2⟩
theorem putX_data {xs : KVs} {kvs : List (List Int × D)} {ks : List Int} {b : Addr} {v : V} {d : D} (r : RpA K S H (xs.map (·.2.2)) (kvs.map (·.2))) (hk : xs.map (·.1) = kvs.map (·.1)) (rv : Rp K S H v d) :
    RpA K S H ((putX xs ks b v).map (·.2.2)) ((putD kvs ks d).map (·.2)) ∧ (putX xs ks b v).map (·.1) = (putD kvs ks d).map (·.1) := by
  unfold putX putD
  rw [any_keys hk]
  split
  · exact putX_oldD rv r hk
  · simp only [List.map_append, List.map_cons, List.map_nil]
    exact ⟨r.app (.one rv), by rw [hk]⟩
/-- what holds for the keys stays -/
theorem KeysQ.wr {u : HO} {p : Addr} (h : KeysX K S H xs) (sp : S p) : KeysX K S (upd H p u) xs := h.mv (fun a o e n => by rw [upd_ne (show a ≠ p from fun z => n (z ▸ sp))]; exact e) fun _ s => .inl s
theorem mutX (h : IsDT H a xs) : Mut (H a) := by obtain ⟨_, h⟩ := h; rw [h]; trivial
theorem setX {A : Around} {E : Value → Shared → Prop} {Q : Unit → Shared → Prop} {v : V} {r : Value} (hu : A.units + 1 < cLine) (I : Inv X pins σ H s) (h : IsDT H a xs) (hk : KeysQ X.K H xs) (hb : SqT X.K H b (ks.map V.int)) (hz : xs.length < sizeLine) (rv : RelV v r)
    (q : ∀ ep s', Inv X pins σ (upd H a (dtO a (putX xs ks b v) ep)) s' → Q () s') : wpAny (model X.prog X.w) A (setItem (.ref a) (.ref b) r) Q E s := by
  obtain ⟨hd, hl, ws, hv, le, hm⟩ := dtAt I h hk
  obtain ⟨us, hv', e⟩ := putX_zip (ks := ks) (b := b) hv rv
  have hzl : (zipX xs ws).length ≤ sizeLine := by unfold zipX; rw [List.length_map, List.length_zip]; omega
  refine wpAny_setItem_heap (knd := tkd X.prog X.w) (hsz := hzl) (tupleKind_room_in1 hu) (isKey I hb) hm fun h' dd' hs => ?_
  rw [e] at dd'
  have he : ∃ q, h'.get? a = some q := let ⟨q, _, _, hq, _⟩ := dd'; ⟨q, hq⟩
  obtain ⟨ep, ok⟩ := dtBack (X := X) hd (by have := putX_len (xs := xs) (ks := ks) (b := b) (v := v); omega) hv' dd'
  exact q ep _ (d_write I (mutX h) hs he (ok _))

theorem zip_self2 : ∀ kvs : List (List Int × D), (kvs.map fun p => (tK p.1, p.2)) = (kvs.map fun p => tK p.1).zip (kvs.map (·.2))
  | [] => rfl
  | y :: kvs => by simp only [List.map_cons, List.zip_cons_cons]; rw [← zip_self2 kvs]
/-- the dict of a slot -/
theorem RS.ownX {C : Ctx} {ρ : Rho} {i : Nat} {kvs : List (List Int × D)} (R : RS K C S σ H ρ) (h : lk ρ i = some (.own (dicI kvs))) : ∃ p xs, σ[i]? = some (some (.ref p)) ∧ S p ∧ IsDT H p xs ∧ KeysX K S H xs ∧ RpA K S H (xs.map (·.2.2)) (kvs.map (·.2)) ∧ xs.map (·.1) = kvs.map (·.1) := by
  obtain ⟨p, e, s, o⟩ := R.own (lk_get h)
  obtain ⟨p', xs, e', h1, h2, h3, h4⟩ := Rq.dic (.inr ⟨p, rfl, o⟩)
  cases e'
  exact ⟨p, xs, e, s, h1, h2, h3, h4⟩
theorem obX {p : Addr} {kvs : List (List Int × D)} (h : IsDT H p xs) (hk : KeysX K S H xs) (r : RpA K S H (xs.map (·.2.2)) (kvs.map (·.2))) (e : xs.map (·.1) = kvs.map (·.1)) : Ob K S H p (dicI kvs) := by
  have : dicI kvs = .dict ((xs.map fun p => tK p.1).zip (kvs.map (·.2))) := by
    unfold dicI
    congr 1
    have e2 : (xs.map fun p => tK p.1) = kvs.map fun p => tK p.1 := by
      have := congrArg (List.map tK) e
      rwa [List.map_map, List.map_map] at this
    rw [e2]
    rw [zip_self2]
  rw [this]
  obtain ⟨ep, h⟩ := h
  exact .dT h hk r
theorem rpX {p : Addr} {kvs : List (List Int × D)} (h : IsDT H p xs) (n : ¬ S p) (hk : KeysX K S H xs) (r : RpA K S H (xs.map (·.2.2)) (kvs.map (·.2))) (e : xs.map (·.1) = kvs.map (·.1)) : Rp K S H (.ref p) (dicI kvs) := (obX h hk r e).rp n
theorem Rp.keyX {v : V} {ks : List Int} (h : Rp K S H v (tK ks)) : ∃ p, v = .ref p ∧ TupX K S H p (ks.map V.int) := by
  unfold tK at h
  cases h with
  | tup e r =>
    have := r.ints
    subst this
    exact ⟨_, rfl, e⟩
def rSetX (K : PySem.W.Frag) : TSet := fun o i v H Q => ∃ a b xs ks, o = .ref a ∧ i = .ref b ∧ IsDT H a xs ∧ KeysQ K H xs ∧ SqT K H b (ks.map V.int) ∧ xs.length < sizeLine ∧ ∀ ep, Q (upd H a (dtO a (putX xs ks b v) ep))
theorem set_dictX (hu : X.A.units + 1 < cLine) : PSet X (rSetX X.K) := by
  rintro pins s σ H o i v ov iv u Q I ro ri rv ⟨a, b, xs, ks, rfl, rfl, h, hk, hb, hz, q⟩
  cases ro
  cases ri
  exact setX hu I h hk hb hz rv fun ep s' I' => ⟨_, I', q ep⟩
/-- own[k] = .. -/
def gdSubX (i : Nat) (gk : DTE) : DTG := fun d ρ Q => (∃ kvs, lk ρ i = some (.own (dicI kvs))) ∧ gk ρ fun kd ρ1 => ∃ ks kvs, kd = tK ks ∧ lk ρ1 i = some (.own (dicI kvs)) ∧ kvs.length < 100000 ∧ Q (ρ1.set i (some (.own (dicI (putD kvs ks d)))))
theorem lenX {xs : KVs} {kvs : List (List Int × D)} (h : xs.map (·.1) = kvs.map (·.1)) : xs.length = kvs.length := by
  have := congrArg List.length h
  simpa using this
theorem dgsubX (i : Nat) {x : Str} {px pos : Pos} {k : Expr} {gk : DTE} (hu : X.A.units + 1 < cLine) (hk : DE X k gk) (hN : X.N[i]? = some x := by rfl) (hv : Vis X.env.scope x := by first | exact Or.inl rfl | exact Or.inr (Or.inl rfl) | exact Or.inr (Or.inr rfl))
    (hd : (x == ("__debug__" : Str)) = false := by decide) (hcd : (x == ("__classdict__" : Str)) = false := by decide)
    (ha : ∀ v, assign (.Subscript (.Name x px) k pos) X.env v = (do
      let ov ← holding [v] (eval (.Name x px) X.env)
      let iv ← holding [v, ov] (eval k X.env)
      standAt pos
      holding [v, ov, iv] (setItem ov iv v)
      release [v, ov, iv] []) := by intro _; rfl) : DG X (.Subscript (.Name x px) k pos) (gdSubX i gk) [] false := by
  obtain ⟨t, p, s⟩ := hk.ex
  refine ⟨_, pg_sub (pe_var hN hv hd hcd) p (set_dictX hu) ha, fun C S σ H ρ v d Q k R rv q f => ?_⟩
  obtain ⟨⟨kvs0, e0⟩, q⟩ := q
  obtain ⟨p0, xs0, f0, _, _, _⟩ := R.ownX e0
  refine ⟨_, f0, s C S σ H ρ _ _ R q fun w H1 kd ρ1 f1 R1 r1 q1 => ?_⟩
  obtain ⟨ks, kvs, rfl, e1, hl, q1⟩ := q1
  obtain ⟨p1, xs, g1, sp, e2, k2, r2, l2⟩ := R1.ownX e1
  rw [f0] at g1
  cases g1
  obtain ⟨b, rfl, tb⟩ := r1.keyX
  refine ⟨p0, b, xs, ks, rfl, rfl, e2, k2.q, tb.sq, szLt (by rw [lenX l2]; exact hl), fun ep => ?_⟩
  obtain ⟨h3, h4⟩ := putX_data (ks := ks) (b := b) (r2.wr (o := dtO p0 (putX xs ks b v) ep) sp) l2 ((f1.rp rv).wr sp)
  have tb' : TupX X.K S (upd H1 p0 (dtO p0 (putX xs ks b v) ep)) b (ks.map V.int) := tb.mv (fun a o e n => by rw [upd_ne (show a ≠ p0 from fun z => n (z ▸ sp))]; exact e) fun _ s => .inl s
  exact f σ _ _ (f1.trans (R1.writeFr (lk_get e1) f0)) (R1.write (lk_get e1) f0 (obX ⟨_, upd_same⟩ (putX_keys (KeysQ.wr k2 sp) tb') h3 h4)) (fun z => nomatch z) q1
/-! ### len of a dict -/
theorem call_lenX : CallR X (.builtin "len") (fun vs H Q => ∃ a xs, vs = [.ref a] ∧ IsDT H a xs ∧ KeysQ X.K H xs ∧ Q (.int xs.length) H) := by
  rintro pins s σ H vs us Q I r ⟨a, xs, rfl, h, hk, q⟩
  obtain rfl := Vals.ref1 r
  obtain ⟨hd, hl, ws, hv, le, hm⟩ := dtAt I h hk
  have hz : (zipX xs ws).length = xs.length := by unfold zipX; rw [List.length_map, List.length_zip]; omega
  refine call_len_dictH (knd := tkd X.prog X.w) hd hm (by rw [hz]; have := line63; omega) ?_
  rw [hz]
  exact ⟨.int xs.length, H, I.tok _, ⟨_, rfl⟩, q⟩
def lenX' : DU := fun d Q => ∃ kvs, d = dicI kvs ∧ Q (.int kvs.length)
theorem clenX : CallU X (.builtin "len") lenX' := by
  refine ⟨_, call_lenX, fun S H x d Q k n hx ⟨kvs, e, q⟩ hk => ?_⟩
  subst e
  obtain ⟨p, xs, rfl, h1, h2, _, h4⟩ := hx.dic
  refine ⟨p, xs, rfl, h1, h2.q, ?_⟩
  rw [lenX h4]
  exact hk _ H _ (.refl H) (.int _) q
/-! ### dict(pairs) -/
def allX (xs more : KVs) : KVs := more.foldl (fun acc x => putX acc x.1 x.2.1 x.2.2) xs
def allD (kvs more : List (List Int × D)) : List (List Int × D) := more.foldl (fun acc x => putD acc x.1 x.2) kvs
theorem allX_zip : ∀ {more : KVs} {us : List Value} {xs : KVs} {ws : List Value}, Vals (more.map (·.2.2)) us → Vals (xs.map (·.2.2)) ws → ∃ vs, Vals ((allX xs more).map (·.2.2)) vs ∧ storedAllH (zipX xs ws) (zipX more us) = zipX (allX xs more) vs
  | [], _, xs, ws, h, r => by cases h; exact ⟨ws, r, rfl⟩
  | x :: more, _, xs, ws, h, r => by
    cases h with
    | @cons _ u _ us h t =>
      obtain ⟨vs, h1, h2⟩ := putX_zip (ks := x.1) (b := x.2.1) r h
      obtain ⟨vs', h3, h4⟩ := allX_zip (xs := putX xs x.1 x.2.1 x.2.2) t h1
      refine ⟨vs', h3, ?_⟩
      show storedAllH (storedH (zipX xs ws) x.1 x.2.1 u) (zipX more us) = _
      rw [h2]
      exact h4
theorem allX_len : ∀ {more xs : KVs}, (allX xs more).length ≤ xs.length + more.length
  | [], xs => by show xs.length ≤ _; simp
  | x :: more, xs => by
    have h1 := allX_len (more := more) (xs := putX xs x.1 x.2.1 x.2.2)
    have h2 := putX_len (xs := xs) (ks := x.1) (b := x.2.1) (v := x.2.2)
    show (allX (putX xs x.1 x.2.1 x.2.2) more).length ≤ _
    rw [List.length_cons]
    omega
theorem allX_keys : ∀ {more xs : KVs}, KeysX K S H xs → KeysX K S H more → KeysX K S H (allX xs more)
  | [], _, h, _ => h
  | x :: more, _, h, h2 => allX_keys (more := more) (putX_keys h (h2 x List.mem_cons_self)) fun y hy => h2 y (List.mem_cons_of_mem _ hy)
theorem allX_data : ∀ {more xs : KVs} {mo kvs : List (List Int × D)}, RpA K S H (xs.map (·.2.2)) (kvs.map (·.2)) → xs.map (·.1) = kvs.map (·.1) → RpA K S H (more.map (·.2.2)) (mo.map (·.2)) → more.map (·.1) = mo.map (·.1) →
    RpA K S H ((allX xs more).map (·.2.2)) ((allD kvs mo).map (·.2)) ∧ (allX xs more).map (·.1) = (allD kvs mo).map (·.1)
  | [], _, [], _, h, e, _, _ => ⟨h, e⟩
  | [], _, _ :: _, _, _, _, _, e => by simp at e
  | _ :: _, _, [], _, _, _, _, e => by simp at e
  | x :: more, xs, y :: mo, kvs, h, e, r, e2 => by
    simp only [List.map_cons, List.cons.injEq] at r e2
    cases r with
    | cons r t =>
      obtain ⟨h1, h2⟩ := putX_data (ks := x.1) (b := x.2.1) h e r
      have := allX_data (more := more) (mo := mo) h1 h2 t e2.2
      show RpA K S H ((allX (putX xs x.1 x.2.1 x.2.2) more).map (·.2.2)) ((allD (putD kvs y.1 y.2) mo).map (·.2)) ∧ (allX (putX xs x.1 x.2.1 x.2.2) more).map (·.1) = (allD (putD kvs y.1 y.2) mo).map (·.1)
      rw [← e2.1]
      exact this

/-- the items of a list of pairs -/
def PairsX (K : PySem.W.Frag) (H : Hp) (ps : List Addr) (kk : KVs) : Prop := Paired (fun p x => SqT K H p [.ref x.2.1, x.2.2]) ps kk
theorem pairsX (I : Inv X pins σ H s) : ∀ {ps : List Addr} {kk : KVs}, PairsX X.K H ps kk → ∃ us, Vals (kk.map (·.2.2)) us ∧ kk.length = us.length ∧ ∀ (j : Nat) (k v : Value), ((zipX kk us).map fun x => (Value.ref x.2.1, x.2.2))[j]? = some (k, v) → ∃ p, ps[j]? = some p ∧ PairAt s.heap p k v
  | [], [], _ => ⟨[], .nil, rfl, fun j k v h => by simp [zipX] at h⟩
  | p :: ps, x :: kk, h => by
    cases h with
    | cons h t =>
      obtain ⟨us, h1, h2, h3⟩ := pairsX I t
      obtain ⟨its, rv, pl, _⟩ := I.tuple h
      have hi : ∃ w, its = [.ref x.2.1, w] ∧ RelV x.2.2 w := by
        cases rv with
        | cons r t =>
          cases t with
          | cons r2 t =>
            cases t
            cases r
            exact ⟨_, rfl, r2⟩
      obtain ⟨w, rfl, rw'⟩ := hi
      refine ⟨w :: us, .cons rw' h1, by simp [h2], fun j k v hj => ?_⟩
      cases j with
      | zero =>
        simp [zipX] at hj
        obtain ⟨rfl, rfl⟩ := hj
        exact ⟨p, rfl, .inl pl⟩
      | succ j => exact h3 j k v (by simpa [zipX] using hj)
def rDictX (K : PySem.W.Frag) : List V → Hp → VK → Prop := fun vs H Q => ∃ l ps kk, vs = [.ref l] ∧ Lx K H l (ps.map V.ref) ∧ PairsX K H ps kk ∧ KeysQ K H kk ∧ kk.length ≤ 100000 ∧ ∀ p ep, H p = none → Q (.ref p) (upd H p (dtO p (allX [] kk) ep))
theorem refsV : ∀ {ps : List Addr} {us : List Value}, Vals (ps.map V.ref) us → us = ps.map Value.ref
  | [], _, h => by cases h; rfl
  | p :: ps, _, h => by
    cases h with
    | cons r t => cases r; rw [refsV t]; rfl
theorem call_dictX (hu : X.A.units + 2 < cLine) (hc : X.calm = true) : CallR X (.type "dict") (rDictX X.K) := by
  rintro pins s σ H vs us Q I r ⟨l, ps, kk, rfl, hl, hp, hk, hz, q⟩
  obtain rfl := Vals.ref1 r
  obtain ⟨_, its, n, hv, _, ho⟩ := lxAt I hl
  obtain rfl := refsV hv
  obtain ⟨us, h1, h2, h3⟩ := pairsX I hp
  have hlen : ps.length = kk.length := Paired.length hp
  have hzl : (zipX kk us).length = kk.length := by unfold zipX; rw [List.length_map, List.length_zip]; omega
  refine call_dict_pairsH (knd := tkd X.prog X.w) (ps := zipX kk us) (wr := []) (PairArg.list l (ps.map Value.ref).toArray (fun j => ps.getD j 0) ((zipX kk us).map fun x => (Value.ref x.2.1, x.2.2))) (I.ok.hd hc) ?_ ?_ ?_ ?_ ?_ fun h' tk hd' hk' => ?_
  · show X.A.in1.in1.units < cLine
    simp only [Around.in1]
    omega
  · refine ⟨⟨_, n, ho, rfl, rfl, rfl⟩, by simp [hzl, hlen], fun j k v hj => ?_⟩
    obtain ⟨p, e, pa⟩ := h3 j k v hj
    have eg : ps.getD j 0 = p := by rw [List.getD_eq_getElem?_getD, e]; rfl
    refine ⟨?_, show PairAt s.heap (ps.getD j 0) k v by rw [eg]; exact pa⟩
    show _ = some (Value.ref (ps.getD j 0))
    rw [eg]
    simp [e]
  · refine ⟨by simp, fun i key v hr => ?_⟩
    have hr : ((zipX kk us).map fun x => (Value.ref x.2.1, x.2.2))[i]? = some (key, v) := hr
    rw [List.getElem?_map] at hr
    obtain ⟨x, hx, e⟩ := Option.map_eq_some_iff.mp hr
    cases e
    exact ⟨x.1, x.2.1, hx, rfl⟩
  · intro h' hk' x hx
    obtain ⟨p, hp', rfl⟩ := List.mem_map.mp hx
    obtain ⟨o, items, m, e1, e2, e3, e4⟩ := isKey I (hk p.1 (List.of_mem_zip hp').1)
    exact ⟨o, items, m, hk' _ o (Nat.ne_of_lt (Heap.lt_size e1)) (fun z => nomatch z) e1, e2, e3, e4⟩
  · simp only [List.length_map, hzl]
    exact szOf hz
  · obtain ⟨vs, h4, h5⟩ := allX_zip (xs := []) (ws := []) h1 .nil
    have h5 : storedAllH [] (zipX kk us) = zipX (allX [] kk) vs := h5
    rw [h5] at hd'
    have hn := I.hok.fresh (Nat.le_refl s.heap.objs.size)
    have hle : (allX [] kk).length ≤ sizeLine := by
      have := allX_len (more := kk) (xs := [])
      simp only [List.length_nil] at this
      exact Nat.le_trans this (by rw [Nat.zero_add]; exact szOf hz)
    obtain ⟨ep, ok⟩ := dtBack (X := X) (beq_eq_false_iff_ne.mpr (Ne.symm (Nat.ne_of_lt I.big))) hle h4 hd'
    exact ⟨.ref s.heap.objs.size, _, I.laid (a := s.heap.objs.size) (o := dtO s.heap.objs.size (allX [] kk) ep) (t' := tk) (fun b o e => hk' b o (fun z => nomatch z) e) (Nat.le_refl _) (ok _), rfl, q _ ep hn⟩

/-- the pairs of a list, as data -/
def pairD (p : List Int × D) : D := .tuple [tK p.1, p.2]
def dictU : DU := fun d Q => ∃ kvs, d = .list (kvs.map pairD) ∧ kvs.length ≤ 100000 ∧ Q (dicI (allD [] kvs))
theorem rq_pairs : ∀ {vs : List V} {kvs : List (List Int × D)}, RpA K S H vs (kvs.map pairD) → ∃ ps kk, vs = ps.map V.ref ∧ PairsX K H ps kk ∧ KeysX K S H kk ∧ RpA K S H (kk.map (·.2.2)) (kvs.map (·.2)) ∧ kk.map (·.1) = kvs.map (·.1)
  | [], [], _ => ⟨[], [], rfl, .nil, fun x hx => (nomatch hx), .nil, rfl⟩
  | _ :: _, [], r => by cases r
  | [], _ :: _, r => by cases r
  | v :: vs, y :: kvs, r => by
    cases r with
    | cons r t =>
      obtain ⟨ps, kk, rfl, h1, h2, h3, h4⟩ := rq_pairs t
      unfold pairD at r
      cases r with
      | @tup a xs _ e r =>
        cases r with
        | cons r r2 =>
          cases r2 with
          | cons r2 t2 =>
            cases t2
            obtain ⟨b, rfl, tb⟩ := r.keyX
            refine ⟨a :: ps, (y.1, b, _) :: kk, rfl, .cons e.sq h1, fun x hx => ?_, .cons r2 h3, by simp only [List.map_cons]; rw [h4]⟩
            rcases List.mem_cons.mp hx with rfl | hx
            · exact tb
            · exact h2 x hx
def CallUX (X : Cx) (f : Value) (g : DU) : Prop := ∃ r : List V → Hp → VK → Prop, CallR X f r ∧ ∀ (S : Vol) (H : Hp) (x : V) (d : D) (Q : D → Prop) (k : VK), Rq X.K S H x d → g d Q →
  (∀ p xs ep kvs, H p = none → KeysX X.K S H xs → RpA X.K S H (xs.map (·.2.2)) (kvs.map (·.2)) → xs.map (·.1) = kvs.map (·.1) → Q (dicI kvs) → k (.ref p) (upd H p (dtO p xs ep))) → r [x] H k
theorem cdict (hu : X.A.units + 2 < cLine) (hc : X.calm = true) : CallUX X (.type "dict") dictU := by
  refine ⟨_, call_dictX hu hc, fun S H x d Q k hx ⟨kvs, e, hl, q⟩ hk => ?_⟩
  subst e
  obtain ⟨l, vs, rfl, h1, h2⟩ := hx.lx
  obtain ⟨ps, kk, rfl, h3, h4, h5, h6⟩ := rq_pairs h2
  obtain ⟨h7, h8⟩ := allX_data (xs := []) (kvs := []) .nil rfl h5 h6
  exact ⟨l, ps, kk, rfl, h1, h3, h4.q, by rw [lenX h6]; exact hl, fun p ep hp => hk p _ ep _ hp (allX_keys (fun x hx => nomatch hx) h4) h7 h8 q⟩
theorem KeysX.newp {p : Addr} {u : HO} (h : KeysX K S H xs) (hp : H p = none) : KeysX K (fun a => S a ∨ a = p) (upd H p u) xs :=
  h.mv (fun a o h _ => Ext.new hp a o h) fun a h => h.imp id fun z => by rw [z]; exact hp
theorem dcallX {x : Str} {p pos : Pos} {a : Expr} {g : DTE} {T : String} {f : DU} (hc : CallUX X (.type T) f) (hg : Gl X x) (hm : X.mg x = none) (hv : bootBuiltins x = some (.type T)) (ha : DQ X a g) (hn : x ≠ "__name__" := by decide) (hdb : (x == ("__debug__" : Str)) = false := by decide)
    (he : starEach [a] X.env = (false, eval a X.env) :: starEach [] X.env := by rfl) (hpl : (backTo pos (starEach [] X.env)).any (·.1) = false := by rfl) : DF X (.Call (.Name x p) [a] [] pos) (gU f g) := by
  obtain ⟨r, h1, h2⟩ := hc
  obtain ⟨t, q, s⟩ := ha.ex
  refine ⟨_, pe_callTy h1 hg hm hv (pa_cons q pa_nil he) hn hdb he hpl, fun C S σ H ρ Q k R q fk => s C S σ H ρ _ _ R q fun v H1 d ρ1 f1 R1 r1 h =>
    h2 S H1 v d _ _ r1 h fun p xs ep kvs hp hk r2 e2 q2 => fk p _ _ ρ1 (f1.trans (.of (.new hp))) (newOb R1 hp).1 (newOb R1 hp).2 (freshAt f1 R1 hp) (obX ⟨_, upd_same⟩ (hk.newp hp) (RpA.newp r2 hp) e2) q2⟩

/-! ### own.update(dict) -/
def tBMX (r : V → List V → Hp → VK → Prop) (to : TE) (t : TA) : TE := fun σ H Q => to σ H fun x H1 => (∃ a xs, x = .ref a ∧ IsDT H1 a xs) ∧ t σ H1 fun vs H2 => r x vs H2 Q
theorem pe_bmX {o e : Expr} {es : List Expr} {name : Str} {id : String} {apos cpos : Pos} {to : TE} {t : TA} {r : V → List V → Hp → VK → Prop} (slot : Slot "dict" name id) (hty : typeOf (.builtin id) = pure (.type "method_descriptor")) (hm : MtR X id r) (ho : PE X o to) (ha : PA X (e :: es) t)
    (hbase : attributeBase o name X.env (eval o X.env) = eval o X.env := by rfl)
    (hfew : ((backTo cpos (starEach (e :: es) X.env)).all (fun x => !x.1) && (backToKw cpos (keywordEach [] X.env)).all (fun x => x.1.isSome)
      && decide ((e :: es).length + ([] : List Keyword).length + (if ([] : List Keyword).isEmpty then 0 else 1) < 30)) = true := by rfl)
    (hline : (apos.endLine == cpos.line) = true := by rfl) (hs : starEach (e :: es) X.env = (false, eval e X.env) :: starEach es X.env := by rfl) (hplain : (backTo cpos (starEach es X.env)).any (·.1) = false := by rfl) :
    PE X (.Call (.Attribute o name apos) (e :: es) [] cpos) (tBMX r to t) := by
  refine ⟨fun pins s σ H Q I h => ?_⟩
  refine wpAny_Call_method_late hbase hfew hline rfl (thn (ho.run pins s σ H _ I h) fun v s1 ⟨x, H1, I1, r1, ⟨a, xs, ex, hx⟩, q1⟩ => ?_)
  subst ex
  cases r1
  have h12 : s1.TypeIs (.ref a) "dict" ∧ ∀ b, Value.ref a = .ref b → ∃ ob, s1.heap.get? b = some ob ∧ ob.dict = none := by
    obtain ⟨_, hx⟩ := hx
    obtain ⟨⟨_, _, o, es, ws, h3, h4, _⟩, _⟩ := I1.hok a _ hx
    exact ⟨⟨o, h3, h4.1⟩, fun b e => by cases e; exact ⟨o, h3, h4.2.1⟩⟩
  refine ⟨"dict", id, PySem.F.plainAttrs_dict, slot, hty, h12.1, h12.2, ?_⟩
  have hA := ha.run cpos pins s1 σ H1 _ I1 q1
  rw [hs] at hA ⊢
  refine Calls.callWith_builtin (by show (false || (backTo cpos (starEach es X.env)).any (·.1)) = false; rw [hplain] <;> rfl) (Calls.evalArgs_plain ?_)
  exact thn hA fun us s2 ⟨vs, H2, I2, r2, q2⟩ => hm pins s2 σ H2 (.ref a) vs _ us Q I2 rfl r2 q2
def rUpdX (K : PySem.W.Frag) : V → List V → Hp → VK → Prop := fun x vs H Q => ∃ a b xs ys, x = .ref a ∧ vs = [.ref b] ∧ a ≠ b ∧ IsDT H a xs ∧ KeysQ K H xs ∧ IsDT H b ys ∧ KeysQ K H ys ∧ (xs ≠ [] ∨ (ys.map fun p => hashT p.1).Nodup) ∧ xs.length + ys.length ≤ 100000 ∧ ∀ ep, Q .non (upd H a (dtO a (allX xs ys) ep))
theorem mt_updX (hu : X.A.units + 1 < cLine) : MtR X "dict.update" (rUpdX X.K) := by
  rintro pins s σ H x vs v us Q I rx rv ⟨a, b, xs, ys, rfl, rfl, ne, h1, k1, h2, k2, hap, hz, q⟩
  cases rx
  obtain rfl := Vals.ref1 rv
  obtain ⟨hd, hl, ws, hv, le, hm⟩ := dtAt I h1 k1
  obtain ⟨hd2, hl2, us, hv2, le2, hm2⟩ := dtAt I h2 k2
  have z1 : (zipX xs ws).length = xs.length := by unfold zipX; rw [List.length_map, List.length_zip]; omega
  have z2 : (zipX ys us).length = ys.length := by unfold zipX; rw [List.length_map, List.length_zip]; omega
  refine call_update_dictH (knd := tkd X.prog X.w) (tupleKind_room_in1 hu) ne hd2 hm hm2 ?_ (by rw [z1, z2]; exact szOf hz) fun h' hd' ho' hs => ?_
  · rcases hap with hap | hap
    · refine .inl fun e => hap ?_
      have : (zipX xs ws).length = 0 := by rw [e]; rfl
      exact List.length_eq_zero_iff.mp (by omega)
    · refine .inr ⟨fun x hx => ?_, ?_⟩
      · obtain ⟨p, hp, rfl⟩ := List.mem_map.mp hx
        exact (isKey I (k2 p.1 (List.of_mem_zip hp).1)).typeIs
      · have e : ((zipX ys us).map fun x => (tkd X.prog X.w).hash x.1) = ys.map fun p => hashT p.1 := by
          have := congrArg (List.map hashT) (zipX_keys le2)
          rwa [List.map_map, List.map_map] at this
        rw [e]
        exact hap
  · obtain ⟨vs, h4, h5⟩ := allX_zip hv2 hv
    rw [h5] at hd'
    have he : ∃ q, h'.get? a = some q := let ⟨q, _, _, hq, _⟩ := hd'; ⟨q, hq⟩
    obtain ⟨ep, ok⟩ := dtBack (X := X) hd (Nat.le_trans allX_len (szOf hz)) h4 hd'
    exact ⟨.non, _, d_write (t' := s.toks) I (mutX h1) hs he (ok _), rfl, q ep⟩
/-- own.update(dict) -/
def gUpdX (i : Nat) (g : DTE) : DTS := fun G ρ => (∃ kvs, lk ρ i = some (.own (dicI kvs))) ∧ g ρ fun d ρ1 => ∃ kvs mo, d = dicI mo ∧ lk ρ1 i = some (.own (dicI kvs)) ∧ (kvs ≠ [] ∨ (mo.map fun p => hashT p.1).Nodup) ∧ kvs.length + mo.length ≤ 100000 ∧ G.nx (ρ1.set i (some (.own (dicI (allD kvs mo)))))
theorem dupdX (i : Nat) {x : Str} {px apos cpos pos : Pos} {e : Expr} {g : DTE} (hu : X.A.units + 1 < cLine) (he : DE X e g) (hN : X.N[i]? = some x := by rfl) (hv : Vis X.env.scope x := by first | exact Or.inl rfl | exact Or.inr (Or.inl rfl) | exact Or.inr (Or.inr rfl))
    (hd : (x == ("__debug__" : Str)) = false := by decide) (hcd : (x == ("__classdict__" : Str)) = false := by decide) (hst : starEach [e] X.env = (false, eval e X.env) :: starEach [] X.env := by rfl)
    (hbase : attributeBase (.Name x px) "update" X.env (eval (.Name x px) X.env) = eval (.Name x px) X.env := by rfl)
    (hfew : ((backTo cpos (starEach [e] X.env)).all (fun x => !x.1) && (backToKw cpos (keywordEach [] X.env)).all (fun x => x.1.isSome)
      && decide ([e].length + ([] : List Keyword).length + (if ([] : List Keyword).isEmpty then 0 else 1) < 30)) = true := by rfl)
    (hline : (apos.endLine == cpos.line) = true := by rfl) (hplain : (backTo cpos (starEach [] X.env)).any (·.1) = false := by rfl)
    (hs : swapsWith (.Call (.Attribute (.Name x px) "update" apos) [e] [] cpos) none pos.line X.env = pure false := by rfl) : DS X (.Expr (.Call (.Attribute (.Name x px) "update" apos) [e] [] cpos) pos) (gUpdX i g) := by
  obtain ⟨t, q, s⟩ := he.ex
  refine ⟨_, ps_expr (pe_bmX PySem.F.slot_dict_update PySem.F.type_dict_update (mt_updX hu) (visName i hN hv hd hcd) (pa_cons q pa_nil hst) hbase hfew hline hst hplain) hs, fun C S σ H ρ E G R q n r b c => ?_⟩
  obtain ⟨⟨ds0, h0⟩, q⟩ := q
  obtain ⟨z, xs0, e0, _, hx0, _⟩ := R.ownX h0
  refine ⟨_, e0, ⟨z, xs0, rfl, hx0⟩, s C S σ H ρ _ _ R q fun v H1 d ρ1 f1 R1 r1 q1 => ?_⟩
  obtain ⟨kvs, mo, rfl, h1, hap, hl, q1⟩ := q1
  obtain ⟨z', xs, e1, sz, e2, k2, ra, l2⟩ := R1.ownX h1
  rw [e0] at e1
  cases e1
  obtain ⟨b, ys, rfl, hb, kb, rb, lb⟩ := Rq.dic (.inl r1)
  have nb : ¬ S b := by
    generalize hdd : dicI mo = dd at r1
    cases r1 with
    | dK _ _ n _ => exact n
    | dT _ n _ _ => exact n
    | _ => cases hdd
  have ne : z ≠ b := fun e => nb (e ▸ sz)
  refine ⟨z, b, xs, ys, rfl, rfl, ne, e2, k2.q, hb, kb.q, ?_, by rw [lenX l2, lenX lb]; exact hl, fun ep => by
    obtain ⟨h7, h8⟩ := allX_data (ra.wr (o := dtO z (allX xs ys) ep) sz) l2 (rb.wr sz) lb
    exact n S σ _ _ (R1.write (lk_get h1) e0 (obX ⟨_, upd_same⟩ (allX_keys (KeysQ.wr k2 sz) (KeysQ.wr kb sz)) h7 h8)) q1⟩
  rcases hap with hap | hap
  · refine .inl fun e => hap ?_
    have := lenX l2
    rw [e] at this
    exact List.length_eq_zero_iff.mp this.symm
  · refine .inr ?_
    have e : (ys.map fun p => hashT p.1) = mo.map fun p => hashT p.1 := by
      have := congrArg (List.map hashT) lb
      rwa [List.map_map, List.map_map] at this
    rw [e]
    exact hap

/-! ### walks over the keys -/
theorem dtRaw (I : Inv X pins σ H s) (h : H a = some (dtO a xs ep)) : (a == sysModules) = false ∧ xs.length ≤ sizeLine ∧ ∃ es, s.heap.DictRaw a es ep ∧ es.size = xs.length ∧ ∀ i (hi : i < es.size), ∃ x, xs[i]? = some x ∧ es[i].key = .ref x.2.1 := by
  obtain ⟨⟨h1, h2, o, es, ws, h3, h4, h5, h6, h7, h8⟩, _⟩ := I.hok a _ h
  have hl : xs.length = ws.length := by have := h6.length; simpa using this
  have hs : es.size = xs.length := by
    have := congrArg List.length h7
    simp only [Array.length_toList, List.length_map, List.length_zip] at this
    omega
  refine ⟨h1, h2, es, ⟨o, h3, h4, h5⟩, hs, fun i hi => ?_⟩
  have hx : i < xs.length := hs ▸ hi
  refine ⟨xs[i], List.getElem?_eq_getElem hx, ?_⟩
  have e : es.toList[i]? = ((xs.zip ws).map (fun p => (⟨hashT p.1.1, .ref p.1.2.1, p.2⟩ : DictEntry)))[i]? := by rw [h7]
  have hw : i < ws.length := by omega
  have ez : (xs.zip ws)[i]? = some (xs[i], ws[i]) := List.getElem?_zip_eq_some.mpr ⟨List.getElem?_eq_getElem hx, List.getElem?_eq_getElem hw⟩
  rw [Array.getElem?_toList, Array.getElem?_eq_getElem hi, List.getElem?_map, ez] at e
  rw [Option.some.inj e]
def Itx (a : Addr) (xs : KVs) (ep : Nat) : It :=
  ⟨fun i H => H a = some (dtO a xs ep) ∧ i < xs.length, fun i H v H' => H' = H ∧ ∃ x, xs[i]? = some x ∧ v = .ref x.2.1, fun i H => H a = some (dtO a xs ep) ∧ xs.length ≤ i⟩
theorem turn_dictX {P : Program} {w : World} {tg : Expr} (it : Addr) : Turn P w K tg (Itx a xs ep) [it] it (fun i h => h.IsKeyIter it a i xs.length ep) where
  mem := by simp
  obj := fun i h st b hb => by
    have e : b = it := by simpa using hb
    subst e
    obtain ⟨o, e, c, d⟩ := st
    exact ⟨o, e, fun v z => by rw [d] at z; cases z⟩
  keep := fun i h h' st k => st.at fun o e => k it (by simp) o e
  item := by
    intro X hP hw hK hc i pins s σ H E I hf st hg
    subst hP hw hK
    obtain ⟨hq, hi⟩ := hg
    obtain ⟨_, _, es, hr, hs, hx⟩ := dtRaw I hq
    obtain ⟨f0, f1, f2, f3, f4, f5⟩ := hf it (by simp)
    have hi' : i < es.size := by omega
    obtain ⟨x, e1, e2⟩ := hx i hi'
    refine wpAny_pyNext_keys_item_raw (by rw [hs]; exact st) hr hi' fun h' st' sb => ?_
    have I1 : Inv X pins σ H { s with heap := h' } := I.turned (t' := s.toks) (fun b o hb e => (sb.2 b hb).trans e) f0 f1 f3 f4 f5
    obtain ⟨o, e, c, d⟩ := id st'
    rw [hs] at st'
    exact ⟨_, rfl, go_of (s := { s with heap := h' }) e c d (by decide) ⟨.ref x.2.1, H, I1, e2, ⟨rfl, x, e1, rfl⟩, st', fun b hb => (hf b hb).1⟩⟩
  done := by
    intro X hP hw hK hc i pins s σ H E I hf st hg
    subst hP hw hK
    obtain ⟨hq, hi⟩ := hg
    obtain ⟨_, _, es, hr, hs, hx⟩ := dtRaw I hq
    obtain ⟨f0, f1, f2, f3, f4, f5⟩ := hf it (by simp)
    exact wpAny_pyNext_keys_end_raw (I.ok.hd hc) (by rw [hs]; exact st) hr (by omega) fun h' eb => ⟨rfl, I.turned (t' := s.toks) (fun b o hb e => eb b o hb e) f0 f1 f3 f4 f5⟩
  self := fun _ _ _ _ _ st h => wpAny_pyIter_keyiter st h
end
end Gw
namespace Gw
open PySem PySem.Spec PyProof.Rows L2

/-! ## t[::-1] of a tuple -/
theorem adjustBack (n : Nat) : Builtin.Slice.sliceAdjust none none (-1) (n : Int) = ((n : Int) - 1, -1) := rfl
theorem placesBack (n : Nat) : Builtin.Slice.slicePlaces ((n : Int) - 1) (-1) (-1) = n := by
  unfold Builtin.Slice.slicePlaces
  rw [if_neg (by decide)]
  split <;> simp <;> omega
theorem rangeAll {α : Type} : ∀ ys : List α, (List.range ys.length).filterMap (fun k => ys[k]?) = ys
  | [] => rfl
  | y :: ys => by
    rw [List.length_cons, List.range_succ_eq_map, List.filterMap_cons]
    show y :: ((List.range ys.length).map Nat.succ).filterMap (fun k => (y :: ys)[k]?) = _
    rw [List.filterMap_map]
    congr 1
    exact rangeAll ys
theorem fmCongr {α β : Type} {f g : α → Option β} : ∀ l : List α, (∀ x ∈ l, f x = g x) → l.filterMap f = l.filterMap g
  | [], _ => rfl
  | x :: l, h => by rw [List.filterMap_cons, List.filterMap_cons, h x List.mem_cons_self, fmCongr l fun y hy => h y (List.mem_cons_of_mem _ hy)]
theorem pickBack (xs : List Value) : ((List.range xs.length).filterMap fun (k : Nat) => xs.toArray[(((xs.length : Int) - 1) + (k : Int) * (-1)).toNat]?).toArray = xs.reverse.toArray := by
  congr 1
  have h := rangeAll xs.reverse
  rw [List.length_reverse] at h
  rw [← h]
  refine fmCongr _ fun k hk => ?_
  have hk : k < xs.length := List.mem_range.mp hk
  have e : (((xs.length : Int) - 1) + (k : Int) * (-1)).toNat = xs.length - 1 - k := by omega
  rw [e, List.getElem?_reverse hk]
  simp
section
variable {prog : Program} {w : World} {A : Around} {E : Value → Shared → Prop} {s : Shared}
theorem itemBack {t sl : Addr} {items : List Value} {u v z : Value} {Q : Value → Shared → Prop} (ht : IsTup s.heap t items.toArray) (hs : s.heap.IsSliceOf sl u v z) (pu : IsPart u none) (pv : IsPart v none) (pz : IsPart z (some (-1))) (hz : items.length ≤ sizeLine)
    (h : Q (.ref s.heap.objs.size) { s with heap := s.heap.push { cls := .type "tuple", data := .seq items.reverse.toArray } }) : wpAny (model prog w) A (getItem (.ref t) (.ref sl)) Q E s := by
  have hsz : sizeOk (.seq items.reverse.toArray) := by
    show items.reverse.toArray.size ≤ sizeLine
    rw [List.size_toArray, List.length_reverse]
    exact hz
  obtain ⟨so, hso, hsc, hsd⟩ := id hs
  have hTy : s.TypeIs (.ref sl) "slice" := ⟨so, hso, hsc⟩
  unfold getItem
  try with_reducible refine wpAny_holding ?_
  first | refine wpAny_bind (wpAny_pure ?_) | skip
  refine wpAny_bind (wpAny_sequenceKey ht.typeIs (by decide) ?_)
  refine wpAny_bind (wpAny_callSpecial?_slot (name := Str.ofString "__getitem__") ht.typeIs PyProof.Rows.slot_tuple_getitem (wpAny_call_entry PyProof.Rows.slot_tuple_getitem ht.typeIs PyProof.Rows.entry_tuple_getitem ?_ (PyProof.Rows.args_tuple_getitem _ _)))
  show wpAny _ _ (Builtin.Tuple.tupleItemsOf (.ref t) >>= _) _ _ s
  refine wpAny_bind (tupleItemsOf_ ht ?_)
  refine wpAny_bind (wpAny_typeOf hTy ?_)
  rw [if_pos (by decide)]
  refine wpAny_bind ?_
  unfold Builtin.Slice.sliceApplied Builtin.Slice.sliceFields
  refine wpAny_bind (wpAny_bind (wpAny_field hso hsd (x := u) rfl (wpAny_bind (wpAny_field hso hsd (x := v) rfl (wpAny_bind (wpAny_field hso hsd (x := z) rfl (wpAny_pure ?_)))))))
  refine wpAny_bind (HT.slicePart_ pz ?_)
  show wpAny _ _ (if ((-1 : Int) == 0) = true then _ else _) _ _ s
  rw [if_neg (by decide)]
  refine wpAny_bind (HT.slicePart_ pu (wpAny_bind (HT.slicePart_ pv (wpAny_bind (wpAny_pure ?_)))))
  have hn : items.toArray.size = items.length := List.size_toArray
  show wpAny _ _ (match Builtin.Slice.sliceAdjust none none (-1) (items.toArray.size : Int) with | (lo, hi) => pure (lo, (-1 : Int), Builtin.Slice.slicePlaces lo hi (-1))) _ _ s
  rw [hn, adjustBack]
  show wpAny _ _ (pure (((items.length : Int) - 1), (-1 : Int), Builtin.Slice.slicePlaces ((items.length : Int) - 1) (-1) (-1))) _ _ s
  rw [placesBack]
  refine wpAny_pure ?_
  have hno : ¬ ((((items.length : Int) - 1) == 0 && (-1 : Int) == 1 && items.length == items.toArray.size) = true) := by simp
  show wpAny _ _ (if (((items.length : Int) - 1) == 0 && (-1 : Int) == 1 && items.length == items.toArray.size) = true then _ else _) _ _ s
  rw [if_neg hno, pickBack]
  first
    | exact wpAny_bind (m := Builtin.Tuple.tupleExact _) (wpAny_newObj_type (wpAny_pure ⟨_, rfl, wpAny_pure h⟩) hsz)
    | exact wpAny_bind (m := Builtin.Tuple.tupleExact _) (wpAny_newObj_type (wpAny_bind (wpAny_pure (wpAny_pure ⟨_, rfl, wpAny_pure h⟩))) hsz)
    | exact wpAny_bind (wpAny_bind (m := Builtin.Tuple.tupleExact _) (wpAny_newObj_type (wpAny_pure (wpAny_pure ⟨_, rfl, wpAny_pure h⟩)) hsz))
    | exact wpAny_bind (wpAny_bind (m := Builtin.Tuple.tupleExact _) (wpAny_newObj_type (wpAny_pure ⟨_, rfl, wpAny_pure h⟩) hsz))
end
section
variable {X : Cx} {K : PySem.W.Frag} {S : Vol} {H : Hp}
def tBackT (K : PySem.W.Frag) (te : TE) : TE := fun σ H Q => te σ H fun x H1 => ∃ a xs, x = .ref a ∧ SqT K H1 a xs ∧ ∀ (p : Addr) (o : Obj), H1 p = none → o.dict = none → Q (.ref p) (upd H1 p (.frz o (.tup xs.reverse)))
theorem pe_backT {e : Expr} {te : TE} {k : Nat} {p1 p2 p3 pos : Pos} (he : PE X e te) : PE X (.Subscript e (.Slice none none (some (.UnaryOp .USub (.Constant (.int 1) k p1) p2)) p3) pos) (tBackT X.K te) := by
  refine ⟨fun pins s σ H Q I h => Subscript_ (thn (he.run pins s σ H _ I h) fun v s1 ⟨x, H1, I1, r1, a, xs, ex, hx, q⟩ => ?_)⟩
  subst ex
  cases r1
  have step : PO X (some (.UnaryOp .USub (.Constant (.int 1) k p1) p2)) (tPart (tUn (rU fun i => .int (-i)) (tC (.int 1)))) := po_some (pe_un un_neg pe_int)
  refine wpAny_Slice (thn (po_none.run pins s1 σ H1 (fun o H2 => o = none ∧ H2 = H1) I1 ⟨rfl, rfl⟩) fun v1 s2 ⟨o1, G2, I2, pu, e1, f1⟩ => ?_)
  subst e1 f1
  refine thn (po_none.run pins s2 σ G2 (fun o G3 => o = none ∧ G3 = G2) I2 ⟨rfl, rfl⟩) fun v2 s3 ⟨o2, G3, I3, pv, e2, f2⟩ => ?_
  subst e2 f2
  refine thn (step.run pins s3 σ G3 (fun o G4 => o = some (-1) ∧ G4 = G3) I3 ⟨1, rfl, -1, rfl, rfl, rfl⟩) fun v3 s4 ⟨o3, G4, I4, pz, e3, f3⟩ => ?_
  subst e3 f3
  have J : Inv X pins σ G4 { s4 with heap := s4.heap.push { cls := .type "slice", data := .fields #[v1, v2, v3] } } := I4.kept (t' := s4.toks) fun b ob z => Heap.get?_push_of_some _ z
  obtain ⟨its, r, ht, hz⟩ := J.tuple hx
  have hl := r.length
  show wpAny (model X.prog X.w) X.A (subscriptTail e (.Slice none none (some (.UnaryOp .USub (.Constant (.int 1) k p1) p2)) p3) (.ref a) (.ref s4.heap.objs.size)) (EP X pins σ Q) X.xe { s4 with heap := s4.heap.push { cls := .type "slice", data := .fields #[v1, v2, v3] } }
  refine tail_any (ops := [.ref a, .ref s4.heap.objs.size]) ht.typeIs PyProof.Rows.slot_tuple_getitem.lookup ?_ (by with_unfolding_all rfl)
  refine itemBack ht (Heap.IsSliceOf.new _ v1 v2 v3) pu pv pz (by omega) ?_
  exact ⟨.ref _, _, J.laid (t' := s4.toks) (o := .frz { cls := .type "tuple", data := .seq its.reverse.toArray } (.tup xs.reverse)) (fun b ob z => Heap.get?_push_of_some _ z) (Nat.le_refl _) ⟨Heap.get?_push_size _ rfl, by rw [List.length_reverse]; exact hz, _, r.reverse, IsTup.new _ _⟩, rfl, q _ _ (J.hok.fresh (Nat.le_refl _)) rfl⟩
def gRevT (g : DTE) : DTE := fun ρ Q => g ρ fun d ρ' => ∃ ds, d = .tuple ds ∧ Q (.tuple ds.reverse) ρ'
theorem drevT {a : Expr} {g : DTE} {k : Nat} {p1 p2 p3 pos : Pos} (h : DE X a g) : DE X (.Subscript a (.Slice none none (some (.UnaryOp .USub (.Constant (.int 1) k p1) p2)) p3) pos) (gRevT g) := by
  obtain ⟨t, p, s⟩ := h.ex
  refine ⟨_, pe_backT p, fun C S σ H ρ Q kk R q f => s C S σ H ρ _ _ R q fun v H' d ρ' f1 R1 r1 h => ?_⟩
  obtain ⟨ds, rfl, q1⟩ := h
  cases r1 with
  | tup e r => exact ⟨_, _, rfl, e.sq, fun p o hp ho => f _ _ _ ρ' (f1.trans (.of (.new hp))) (R1.ext (.new hp)) (.tup (.new ho (R1.notS hp)) (r.rev.ext (.new hp))) q1⟩
@[simp] theorem gRevT_s {g : DTE} {ρ : Rho} {Q : D → Rho → Prop} : gRevT g ρ Q = g ρ fun d ρ' => ∃ ds, d = .tuple ds ∧ Q (.tuple ds.reverse) ρ' := rfl

/-! ## a walk over a dict's keys -/
theorem wk_dictX {a : Addr} {xs : KVs} {ep : Nat} {ks : List (List Int)} (hk : xs.map (·.1) = ks) : Wk K (Itx a xs ep) (ks.map tK) (.inr (a, dtO a xs ep) :: xs.map fun x => .inl (V.ref x.2.1, tK x.1)) where
  go := fun S H i h hi => ⟨(h _ List.mem_cons_self).1, by subst hk; simpa using hi⟩
  yl := fun S H i x H' d _ h hd y => by
    obtain ⟨rfl, z, hz, rfl⟩ := y
    subst hk
    rw [List.map_map, List.getElem?_map, hz] at hd
    cases hd
    exact ⟨.refl _, h (.inl (V.ref z.2.1, tK z.1)) (List.mem_cons_of_mem _ (List.mem_map.mpr ⟨z, List.mem_of_getElem? hz, rfl⟩))⟩
  st := fun S H h => ⟨(h _ List.mem_cons_self).1, by subst hk; simp⟩
def iDicX (tl : TE) : TI := fun σ H R => tl σ H fun x H1 => ∃ a xs ep, x = .ref a ∧ H1 a = some (dtO a xs ep) ∧ R (Itx a xs ep) H1
theorem pi_dicX {tg l : Expr} {tl : TE} (hl : PE X l tl) : PI X tg l (iDicX tl) := by
  constructor
  intro pins s σ H R I h
  refine thn (hl.run pins s σ H _ I h) ?_
  rintro v s1 ⟨x, H1, I1, r1, a, xs, ep, rfl, hq, q⟩
  cases r1
  obtain ⟨hd, hl, es, hr, hs, _⟩ := dtRaw I1 hq
  have fp : ∀ b ∈ [s1.heap.objs.size], FpOk X pins H1 b := by
    intro b hb
    obtain rfl : b = s1.heap.objs.size := by simpa using hb
    exact I1.fpOk (Nat.le_refl _) (I1.hok.fresh (Nat.le_refl _))
  refine wpAny_pyIter_dict_raw hd hr ⟨_, [s1.heap.objs.size], _, _, H1, rfl, I1.kept (t' := s1.toks) fun b o e => Heap.get?_push_of_some _ e, turn_dictX (a := a) (xs := xs) (ep := ep) _, ?_, fp, q⟩
  rw [hs]
  exact ⟨_, Heap.get?_push_size _ rfl, rfl, rfl⟩
def giDic (g : DTE) : DTI := fun ρ Q => g ρ fun d ρ' => ∃ kvs, d = dicI kvs ∧ Q (kvs.map fun p => tK p.1) ρ'
theorem didic {tg e : Expr} {ga : DTE} (h : DE X e ga) : DI X tg e (giDic ga) := by
  obtain ⟨t, p, s⟩ := h.ex
  refine ⟨_, pi_dicX p, fun C S σ H ρ Q R RS q f => s C S σ H ρ _ _ RS q fun v H' d ρ' f1 R1 r1 h => ?_⟩
  obtain ⟨kvs, e, h⟩ := h
  subst e
  obtain ⟨a, xs, rfl, ⟨ep, hx⟩, hk, _, he⟩ := Rq.dic (.inl r1)
  have ns : ¬ S a := by
    generalize hdd : dicI kvs = dd at r1
    cases r1 with
    | dK _ _ n _ => exact n
    | dT _ n _ _ => exact n
    | _ => cases hdd
  have ek : (kvs.map fun p => tK p.1) = (xs.map (·.1)).map tK := by rw [he, List.map_map]; rfl
  rw [ek] at h
  refine ⟨a, xs, ep, rfl, hx, f _ H' _ ρ' _ f1 R1 (fun q hq => ?_) (wk_dictX rfl) h⟩
  rcases List.mem_cons.mp hq with rfl | hq
  · exact ⟨hx, ns⟩
  · obtain ⟨x, hx', rfl⟩ := List.mem_map.mp hq
    exact Rp.tup (hk x hx') (RpA.ofInts x.1)
@[simp] theorem giDic_s {g : DTE} {ρ : Rho} {Q : List D → Rho → Prop} : giDic g ρ Q = g ρ fun d ρ' => ∃ kvs, d = dicI kvs ∧ Q (kvs.map fun p => tK p.1) ρ' := rfl

/-! ## list(d) -/
theorem valsRefs : ∀ {xs : KVs} {us : List Value}, xs.length = us.length → (∀ (i : Nat) (u : Value), us[i]? = some u → ∃ x, xs[i]? = some x ∧ u = .ref x.2.1) → Vals (xs.map fun x => V.ref x.2.1) us
  | [], [], _, _ => .nil
  | [], _ :: _, h, _ => by cases h
  | _ :: _, [], h, _ => by cases h
  | x :: xs, u :: us, h, f => by
    obtain ⟨y, e, r⟩ := f 0 u rfl
    cases e
    refine .cons r (valsRefs (by simpa using h) fun i u hu => ?_)
    exact f (i + 1) u (by simpa using hu)
theorem call_listX (hc : X.calm = true) : CallR X (.type "list") (fun vs H Q => ∃ a xs, vs = [.ref a] ∧ IsDT H a xs ∧ ∀ p, H p = none → Q (.ref p) (upd H p (.lst (xs.map fun x => V.ref x.2.1)))) := by
  rintro pins s σ H vs us Q I r ⟨a, xs, rfl, ⟨ep, h⟩, q⟩
  obtain rfl := Vals.ref1 r
  obtain ⟨hd, hl, es, hr, hs, hx⟩ := dtRaw I h
  refine PySem.W.kdl_call (PySem.KdlSrc.rawDict hd) (I.ok.hd hc) hr (by rw [hs]; exact hl) fun h' tk acc c hk hn hi => ?_
  obtain ⟨hi1, hi2⟩ := hi
  have rv : Vals (xs.map fun x => V.ref x.2.1) acc.toList := by
    refine valsRefs (by have e : acc.toList.length = acc.size := by simp
                        omega) fun i u hu => ?_
    rw [Array.getElem?_toList] at hu
    obtain ⟨h3, rfl⟩ := hi2 i u hu
    exact hx i h3
  exact ⟨.ref s.heap.objs.size, _, I.laid (t' := tk) (o := .lst (xs.map fun x => V.ref x.2.1)) hk (Nat.le_refl _) ⟨by rw [List.length_map]; exact hl, _, _, rv, by rw [Array.toArray_toList]; exact hn⟩, rfl, q _ (I.hok.fresh (Nat.le_refl _))⟩
def lstXU : DU := fun d Q => ∃ kvs, d = dicI kvs ∧ Q (.list (kvs.map fun p => tK p.1))
theorem rpKeys {xs : KVs} (h : KeysX K S H xs) : RpA K S H (xs.map fun x => V.ref x.2.1) (xs.map fun x => tK x.1) := by
  induction xs with
  | nil => exact .nil
  | cons x xs ih => exact .cons (.tup (h x List.mem_cons_self) (RpA.ofInts x.1)) (ih fun y hy => h y (List.mem_cons_of_mem _ hy))
theorem clstX (hc : X.calm = true) : CallUF X (.type "list") lstXU := by
  refine ⟨_, call_listX hc, fun S H x d Q k hx ⟨kvs, e, q⟩ hk => ?_⟩
  subst e
  obtain ⟨a, xs, rfl, h, hkx, _, he⟩ := hx.dic
  have ek : (kvs.map fun p => tK p.1) = xs.map fun x => tK x.1 := by
    have := congrArg (List.map tK) he
    rw [List.map_map, List.map_map] at this
    exact this.symm
  rw [ek] at q
  exact ⟨a, xs, rfl, h, fun p hp => hk p _ _ hp (rpKeys hkx) q⟩
end
section
variable {X : Cx} {pins : List (Addr × Obj)} {σ : VStore} {H : Hp} {s : Shared} {a b : Addr} {xs : KVs} {ks : List Int}
/-! ## {k: v}, {k: v for ..} -/
theorem putRaw {A : Around} {E : Value → Shared → Prop} {Q : Unit → Shared → Prop} {v : V} {r : Value} (hu : A.units + 1 < cLine) (I : Inv X pins σ H s) (h : IsDT H a xs) (hk : KeysQ X.K H xs) (hb : SqT X.K H b (ks.map V.int)) (hz : xs.length < sizeLine) (rv : RelV v r)
    (q : ∀ ep s', Inv X pins σ (upd H a (dtO a (putX xs ks b v) ep)) s' → Q () s') : wpAny (model X.prog X.w) A (dictSet a (.ref b) r) Q E s := by
  obtain ⟨hd, hl, ws, hv, le, hm⟩ := dtAt I h hk
  obtain ⟨us, hv', e⟩ := putX_zip (ks := ks) (b := b) hv rv
  have hzl : (zipX xs ws).length ≤ sizeLine := by unfold zipX; rw [List.length_map, List.length_zip]; omega
  refine wpAny_dictSet_heap (knd := tkd X.prog X.w) (hsz := hzl) (show A.units < cLine by omega) (isKey I hb) hm fun h' dd' hs => ?_
  rw [e] at dd'
  have he : ∃ q, h'.get? a = some q := let ⟨q, _, _, hq, _⟩ := dd'; ⟨q, hq⟩
  obtain ⟨ep, ok⟩ := dtBack (X := X) hd (by have := putX_len (xs := xs) (ks := ks) (b := b) (v := v); omega) hv' dd'
  exact q ep _ (d_write I (mutX h) hs he (ok _))
def tDisp (K : PySem.W.Frag) (tk tv : TE) : TE := fun σ H Q => ∀ D, H D = none → ∀ ep, tk σ (upd H D (dtO D [] ep)) fun x H1 => tv σ H1 fun y H2 => ∃ b ks ep', x = .ref b ∧ SqT K H2 b (ks.map V.int) ∧ H2 D = some (dtO D [] ep') ∧ ∀ ep, Q (.ref D) (upd H2 D (dtO D [(ks, b, y)] ep))
theorem pe_disp {k v : Expr} {tk tv : TE} {pos : Pos} (hu : X.A.units + 1 < cLine) (hk : PE X k tk) (hv : PE X v tv) : PE X (.Dict [some k] [v] pos) (tDisp X.K tk tv) := ⟨fun pins s σ H Q I h => by
  obtain ⟨ep, ok⟩ := dtBack (X := X) (ws := []) (xs := []) (beq_eq_false_iff_ne.mpr (Ne.symm (Nat.ne_of_lt I.big))) (Nat.zero_le _) .nil (Heap.DictOfH.new s.heap)
  have J := I.laid (a := s.heap.objs.size) (o := dtO s.heap.objs.size [] ep) (t' := s.toks) (fun _ _ q => Heap.get?_push_of_some _ q) (Nat.le_refl _) (ok _)
  refine wpAny_Dict_any (by rfl) (by rfl) (by simp) (by simp) (pairTrees_cons_walk (thn (hk.run pins _ σ _ _ J (h _ (I.hok.fresh (Nat.le_refl _)) ep)) fun x s1 ⟨xv, H1, I1, r1, q1⟩ => ?_))
  refine thn (hv.run pins s1 σ H1 _ I1 q1) fun y s2 ⟨yv, H2, I2, r2, b, ks, ep', e, hb, hD, q2⟩ => pairTrees_nil_walk ?_
  subst e
  cases r1
  unfold storeAll
  rw [List.forIn_cons]
  refine wpAny_bind (wpAny_bind (putRaw hu I2 ⟨_, hD⟩ (fun x hx => nomatch hx) hb (by decide) r2 fun ep s' I' => wpAny_pure ?_))
  show wpAny _ _ (forIn [] PUnit.unit _) _ _ _
  rw [List.forIn_nil]
  exact wpAny_pure ⟨.ref _, _, I', rfl, q2 ep⟩⟩
def gDisp (gk gv : DTE) : DTE := fun ρ Q => gk ρ fun kd ρ1 => gv ρ1 fun d ρ2 => ∃ ks, kd = tK ks ∧ Q (dicI [(ks, d)]) ρ2
theorem ddisp {k v : Expr} {gk gv : DTE} {pos : Pos} (hu : X.A.units + 1 < cLine) (hk : DE X k gk) (hv : DE X v gv) : DF X (.Dict [some k] [v] pos) (gDisp gk gv) := by
  obtain ⟨tk, pk, sk⟩ := hk.ex
  obtain ⟨tv, pv, sv⟩ := hv.ex
  refine ⟨_, pe_disp hu pk pv, fun C S σ H ρ Q kk R q f D hD ep => ?_⟩
  obtain ⟨z0, zM⟩ := R.free0 hD
  have Rb : RS X.K (C.prot D) (fun a => S a ∨ a = D) σ (upd H D (dtO D [] ep)) ρ := (R.new hD).prot (R.apart (R.notS hD)) zM ⟨_, upd_same⟩
  refine sk _ _ σ _ ρ _ _ Rb q fun x H1 kd ρ1 f1 R1 r1 q1 => sv _ _ σ H1 ρ1 _ _ R1 q1 fun y H2 d ρ2 f2 R2 r2 q2 => ?_
  obtain ⟨ks, rfl, q2⟩ := q2
  obtain ⟨b, rfl, tb⟩ := (f2.rp r1).keyX
  have eD : H2 D = some (dtO D [] ep) := f2 D _ (f1 D _ upd_same (.inr (.inr rfl))) (.inr (.inr rfl))
  have sD : (fun a => S a ∨ a = D) D := .inr rfl
  refine ⟨b, ks, ep, rfl, tb.sq, eD, fun ep' => ?_⟩
  have nk : ∀ a o, a ≠ D → H2 a = some o → upd H2 D (dtO D [(ks, b, y)] ep') a = some o := fun a o n e => by rw [upd_ne n]; exact e
  have frT : Fr C S H (upd H2 D (dtO D [(ks, b, y)] ep')) := fun a o h n => by
    have na : a ≠ D := fun z => by rw [z, hD] at h; cases h
    have n' : ¬ (fun a => S a ∨ a = D) a ∨ (C.prot D).pr a := n.imp (fun n z => z.elim n na) .inl
    exact nk a o na (f2 a o (f1 a o (by rw [upd_ne na]; exact h) n') n')
  have R3 : RS X.K C (fun a => S a ∨ a = D) σ (upd H2 D (dtO D [(ks, b, y)] ep')) ρ2 := by
    refine RS.unprot (p := D) ⟨R2.len, fun a o h m => nk a o (fun z => by rw [z] at h; rw [z0] at h; cases h) (R2.fr a o h m), fun a h => ?_, fun a h => ?_, R2.a0, fun j c e => ?_, R2.dst, fun q h => (R2.vok q h).wr sD, fun a c h => ?_⟩
    · by_cases z : a = D
      · rw [z]; exact ⟨_, upd_same⟩
      · obtain ⟨o, h⟩ := R2.al a h
        exact ⟨o, nk a o z h⟩
    · by_cases z : a = D
      · rw [z]; exact ⟨_, upd_same⟩
      · obtain ⟨o, h⟩ := R2.pa a h
        exact ⟨o, nk a o z h⟩
    · obtain ⟨v, h1, h2⟩ := R2.ent j c e
      refine ⟨v, h1, h2.mv (fun a o h n => nk a o (fun z => n (.inr z)) h) (fun _ s => .inl s) (fun _ s => s) fun p o hv hc u hu => nk p u (fun z => ?_) hu⟩
      subst hv hc
      obtain ⟨p', e', _, _, _, np, _⟩ := h2
      cases e'
      exact np (.inr z)
    · obtain ⟨z1, z2, z3, z4, z5, z6⟩ := R2.src a c h
      exact ⟨z1, z2, z3, z4, z5, z6.mv (fun u hu => nk a u (fun z => z4 (.inr z)) hu) fun u hu => nk c u (fun z => z5 (.inr z)) hu⟩
  have own3 : ∀ (i : Nat) o p, ρ2[i]? = some (some (.own o)) → σ[i]? = some (some (.ref p)) → S p := fun i o p h1 h2 => by
    obtain ⟨v, e1, p', rfl, s1, _, _, np, _⟩ := R2.ent i _ h1
    rw [h2] at e1
    cases e1
    exact s1.elim id fun z => absurd (show (C.prot D).pr p from .inr z) np
  have R4 : RS X.K C S σ (upd H2 D (dtO D [(ks, b, y)] ep')) ρ2 := R3.less (fun a h => .inl h) (fun a h => (R.a0 a h).1) (fun a h => (R.mS h).1) own3
  have tb' : TupX X.K (fun a => S a ∨ a = D) (upd H2 D (dtO D [(ks, b, y)] ep')) b (ks.map V.int) := tb.mv (fun a o e n => nk a o (fun z => n (.inr z)) e) fun _ s => .inl s
  refine f D _ _ ρ2 frT R4 R3 hD (obX (kvs := [(ks, d)]) ⟨_, upd_same⟩ (fun x hx => ?_) (.one (r2.wr sD)) rfl) q2
  obtain rfl := List.mem_singleton.mp hx
  exact tb'
@[simp] theorem gDisp_s {gk gv : DTE} {ρ : Rho} {Q : D → Rho → Prop} : gDisp gk gv ρ Q = gk ρ fun kd ρ1 => gv ρ1 fun d ρ2 => ∃ ks, kd = tK ks ∧ Q (dicI [(ks, d)]) ρ2 := rfl
end
section
variable {X : Cx}
def tDcX (K : PySem.W.Frag) (wi : TI) (g : TG) (tt : TT) (tk tv : TE) (vs : List Nat) : TE := fun σ H Q => wi σ H fun J H1 => ∀ D, H1 D = none → ∀ e0, ∃ W : Nat → Nat → Hp → Prop, (∃ m, W 0 m (upd H1 D (dtO D [] e0))) ∧ ∀ i m G, W i m G →
  (J.stop i G ∧ Q (.ref D) G) ∨ (J.go i G ∧ ∃ Nx : Hp → Prop, (∀ G', Nx G' → ∃ m', m' < m ∧ W (i + 1) m' G') ∧ ∀ x G', J.yld i G x G' → g x (L2.wipe σ vs) G' fun σ2 G2 => L2.wipe σ2 vs = L2.wipe σ vs ∧ tt σ2 G2 fun b G3 =>
    if b = true then tk σ2 G3 fun y G4 => tv σ2 G4 fun z G5 => ∃ p xs ks ep, y = .ref p ∧ G5 D = some (dtO D xs ep) ∧ KeysQ K G5 xs ∧ SqT K G5 p (ks.map V.int) ∧ xs.length < sizeLine ∧ ∀ ep', Nx (upd G5 D (dtO D (putX xs ks p z) ep')) else Nx G3)
theorem pe_dcX {kx vx tg iter : Expr} {ifs : List Expr} {scope : Scope} {own : List (Str × Nat)} {pos : Pos} {wi : TI} {g : TG} {tt : TT} {tk tv : TE} (hu : X.A.units + 1 < cLine) (hc : X.calm = true) (hN : X.N.Nodup) (pi : PI X tg iter wi) (ok : BlkOk X.N X.env.scope scope own)
    (pg : ∀ (s : Shared) (H : Hp) (C : Addr) (cl : List (Str × Addr)) (fp : List Addr), PG (X.blk s H scope (compEnvC scope cl C X.env) fp) tg g)
    (pt : ∀ (s : Shared) (H : Hp) (C : Addr) (cl : List (Str × Addr)) (fp : List Addr), PTs (X.blk s H scope (compEnvC scope cl C X.env) fp) ifs tt)
    (pk : ∀ (s : Shared) (H : Hp) (C : Addr) (cl : List (Str × Addr)) (fp : List Addr), PE (X.blk s H scope (compEnvC scope cl C X.env) fp) kx tk)
    (pv : ∀ (s : Shared) (H : Hp) (C : Addr) (cl : List (Str × Addr)) (fp : List Addr), PE (X.blk s H scope (compEnvC scope cl C X.env) fp) vx tv)
    (hs : ∀ x, foldedSetIterable iter X.env x = pure x := by intro _; rfl) : PE X (.DictComp kx vx [⟨tg, iter, ifs, 0⟩] scope pos) (tDcX X.K wi g tt tk tv (own.map (·.2))) := by
  refine ⟨fun pins s σ H Q I h => ?_⟩
  rw [arm_eval_DictComp]
  have fr : ∀ y ∈ scope.names, y.2 = .free → ∃ c, X.env.cells.lookup y.1 = some c := fun y hy e => I.ok.has _ (ok.free y hy e)
  refine wpAny_comprehension_free (use := none) rfl hs (closure_ok fr) ok.kind (fun y hy e => by rw [ok.uniq y hy, e]) (thn (pi.run pins s σ H _ I h) fun v t1 h1 => thn h1 fun w t2 h2 => ?_)
  obtain ⟨it, fp, tn, J, H2, rfl, I2, T, hst, hfp, q⟩ := h2
  refine wpAny_newObj_type (newEnv_comp ?_)
  obtain ⟨e0, od⟩ := dtBack (X := X) (ws := []) (xs := []) (beq_eq_false_iff_ne.mpr (Ne.symm (Nat.ne_of_lt I2.big))) (Nat.zero_le _) .nil (Heap.DictOfH.new t2.heap)
  generalize zD : t2.heap.objs.size = D at od
  have nD : H2 D = none := I2.hok.fresh (Nat.le_of_eq zD)
  obtain ⟨W, ⟨m0, w0⟩, turn⟩ := q D nD e0
  generalize z3 : ({ t2 with heap := t2.heap.push { cls := .type "dict", data := .dict #[] } } : Shared) = t3
  have I3 : Inv X pins σ (upd H2 D (dtO D [] e0)) t3 := by
    rw [← z3]
    exact I2.laid (t' := t2.toks) (fun b o e => Heap.get?_push_of_some _ e) (Nat.le_of_eq zD) (od _)
  have p3 : t3.heap = t2.heap.push { cls := .type "dict", data := .dict #[] } := by rw [← z3]
  have lt3 : ∀ b ∈ fp, b < t2.heap.objs.size := fun b hb => let ⟨o, e, _⟩ := T.obj _ _ hst b hb; Heap.lt_size e
  have fp3 : ∀ b ∈ fp, FpOk X pins (upd H2 D (dtO D [] e0)) b ∧ b < t3.heap.objs.size := fun b hb => by
    have l := lt3 b hb
    refine ⟨⟨?_, (hfp b hb).2⟩, by rw [p3, Heap.size_push]; exact Nat.lt_succ_of_lt l⟩
    rw [upd_ne (by rw [← zD]; exact Nat.ne_of_lt l)]
    exact (hfp b hb).1
  have st3 : tn 0 t3.heap := T.keep _ _ _ hst fun b _ o e => by rw [p3]; exact Heap.get?_push_of_some _ e
  have I4 := block_start I3 ok hN fp3
  have bg := pg t3 (upd H2 D (dtO D [] e0)) t3.heap.objs.size (cellsFrom (t3.heap.objs.size + 1) scope.names (cloFrom X.env.cells scope.names [])) fp
  have bt := pt t3 (upd H2 D (dtO D [] e0)) t3.heap.objs.size (cellsFrom (t3.heap.objs.size + 1) scope.names (cloFrom X.env.cells scope.names [])) fp
  have bk := pk t3 (upd H2 D (dtO D [] e0)) t3.heap.objs.size (cellsFrom (t3.heap.objs.size + 1) scope.names (cloFrom X.env.cells scope.names [])) fp
  have bv := pv t3 (upd H2 D (dtO D [] e0)) t3.heap.objs.size (cellsFrom (t3.heap.objs.size + 1) scope.names (cloFrom X.env.cells scope.names [])) fp
  show codeAny _ _ (.compStart (.DictComp kx vx [⟨tg, iter, ifs, 0⟩] scope pos) 0 (.ref it) (.ref D) (compEnvC scope (cellsFrom (t3.heap.objs.size + 1) scope.names (cloFrom X.env.cells scope.names [])) t3.heap.objs.size X.env)) (compPost (model X.prog X.w) X.A X.xe none (EP X pins σ Q) (.ref D) t3.heap.objs.size) { t3 with heap := pushCells (t3.heap.push { cls := .type "dict", data := .dict #[] }) scope.names }
  have n3 : ∀ b ∈ fp, (upd H2 D (dtO D [] e0)) b = none := fun b hb => (fp3 b hb).1.1
  generalize zc : compEnvC scope (cellsFrom (t3.heap.objs.size + 1) scope.names (cloFrom X.env.cells scope.names [])) t3.heap.objs.size X.env = ce at I4 bg bt bk bv ⊢
  have cl : ce.locals = t3.heap.objs.size := by subst zc; rfl
  generalize zH : upd H2 D (dtO D [] e0) = H3 at I3 I4 bg bt bk bv w0 n3 fp3
  generalize z4 : ({ t3 with heap := pushCells (t3.heap.push { cls := .type "dict", data := .dict #[] }) scope.names } : Shared) = t4 at I4 ⊢
  have st4 : tn 0 t4.heap := T.keep _ _ _ st3 fun b _ o e => by rw [← z4]; exact pushCells_keeps _ _ _ _ (Heap.get?_push_of_some _ e)
  have fix : ∀ {σ' : L2.St} {G : Hp} {t : Shared}, Inv (X.blk t3 H3 scope ce fp) [] σ' G t → (∀ b ∈ fp, G b = none) → ∀ b ∈ fp, FpOk (X.blk t3 H3 scope ce fp) [] G b := fun {σ' G t} J' hn b hb =>
    ⟨hn b hb, (J'.ok.exf b hb).1, J'.ok.exfs b hb, .inl hb, fun x c e => (J'.ok.exf b hb).2 x c e, fun p hp => absurd (show p ∈ ([] : List (Addr × Obj)) ++ [] from hp) (by simp)⟩
  have loop : codeAny (model X.prog X.w) X.A (.compLoop (.DictComp kx vx [⟨tg, iter, ifs, 0⟩] scope pos) 0 (.ref it) (.ref D) ce) (compPost (model X.prog X.w) X.A X.xe none (EP X pins σ Q) (.ref D) t3.heap.objs.size) t4 := by
    refine compLoop_anyD (fun n t => ∃ i G, Inv (X.blk t3 H3 scope ce fp) [] (L2.wipe σ (own.map (·.2))) G t ∧ tn i t.heap ∧ (∀ b ∈ fp, G b = none) ∧ W i n G) ?_ m0 ⟨0, H3, I4, st4, n3, w0⟩
    rintro n t5 ⟨i, H5, I5, st5, n5, w5⟩
    rcases turn i n H5 w5 with ⟨stop, qq⟩ | ⟨go, Nx, hNx, step⟩
    · refine thnF (T.done (X.blk t3 H3 scope ce fp) rfl rfl rfl hc i [] t5 _ H5 (fun _ _ => False) I5 (fix I5 n5) st5 stop) fun r t6 ⟨hr, I6⟩ => ?_
      subst hr
      have I7 : Inv X pins σ H5 t6 := I3.call' (ch := fp) I6.os I6.base I6.hok I6.bare fun b hb => ⟨(fp3 b hb).1.2.2.2.1, (fp3 b hb).1.2.1, (fp3 b hb).1.2.2.2.2.1, (fp3 b hb).1.2.2.2.2.2⟩
      have nC : H5 t3.heap.objs.size = none := by
        have z : H5 ce.locals = none := I6.free
        rwa [cl] at z
      obtain ⟨m, hn, _⟩ := I6.loc
      have hn : t6.heap.Ns ce.locals m := hn
      rw [cl] at hn
      refine ⟨m, hn, fun h' sb => ?_⟩
      obtain ⟨f0, f1, f2, f3, f4, f5⟩ := I3.fpOk (Nat.le_refl _) nC
      exact ⟨.ref D, H5, I7.turned (t' := t6.toks) (fun b o hb e => (sb.2 b hb).trans e) f0 f1 f3 f4 f5, rfl, qq⟩
    · refine thnF (T.item (X.blk t3 H3 scope ce fp) rfl rfl rfl hc i [] t5 _ H5 (fun _ _ => False) I5 (fix I5 n5) st5 go) fun r t6 ⟨u, hr, h6⟩ => ?_
      subst hr
      refine thnF h6 fun _ t7 ⟨x, H7, I7, r7, y7, st7, n7⟩ => ?_
      refine thnF (bg.run _ t7 _ H7 x u _ (I7.pinned (fix I7 n7) (T.obj _ _ st7)) r7 (step x H7 y7)) fun _ t8 ⟨σ8, H8, I8, hw8, q8⟩ => ?_
      refine thnF (bt.run _ t8 σ8 H8 _ I8 q8) fun b t9 ⟨H9, I9, q9⟩ => ?_
      have fin : ∀ {t : Shared} {G : Hp}, Inv (X.blk t3 H3 scope ce fp) ([] ++ pinsAt fp t7.heap) σ8 G t → Nx G → ∃ m, m < n ∧ ∃ i G, Inv (X.blk t3 H3 scope ce fp) [] (L2.wipe σ (own.map (·.2))) G t ∧ tn i t.heap ∧ (∀ b ∈ fp, G b = none) ∧ W i m G := fun {t G} I' nx => by
        obtain ⟨m', hm, w'⟩ := hNx G nx
        have pin' : ∀ b ∈ fp, ∀ o, t7.heap.get? b = some o → t.heap.get? b = some o ∧ G b = none := fun b hb o e =>
          let z := I'.pin (b, o) (List.mem_append_right _ (List.mem_append_right _ (mem_pinsAt hb e)))
          ⟨z.1, z.2.1⟩
        have hl : (L2.wipe σ (own.map (·.2))).length = σ8.length := by rw [← hw8, wipe_length]
        refine ⟨m', hm, i + 1, G, (I'.unpinned (pins := [])).weak hl (fun j v e => ?_), T.keep _ _ _ st7 fun b hb o e => (pin' b hb o e).1, fun b hb => ?_, w'⟩
        · rw [← hw8] at e
          exact (wipe_some e).1
        · obtain ⟨o, e, _⟩ := T.obj _ _ st7 b hb
          exact (pin' b hb o e).2
      cases b with
      | false => exact fin I9 (unF q9)
      | true =>
        replace q9 := unT q9
        refine iteT ?_
        refine thnF (bk.run _ t9 σ8 H9 _ I9 q9) fun z t10 ⟨yk, H10, I10, r10, q10⟩ => ?_
        refine thnF (bv.run _ t10 σ8 H10 _ I10 q10) fun z2 t11 ⟨yv, H11, I11, r11, p, xs, ks, ep, ek, eD, hk, hp, hz, nx⟩ => ?_
        subst ek
        cases r10
        exact putRaw (X := X.blk t3 H3 scope ce fp) hu I11 ⟨_, eD⟩ hk hp hz r11 fun ep' t12 I12 => fin I12 (nx ep')
  exact codeAny_compStart_dict loop (T.self X.A 0 _ _ _ st4 loop)
/-- the pairs of a walk, one after the other -/
def gDc (gi : DTI) (gd : DTG) (gt : DTT) (gk gv : DTE) (vs : List Nat) : DTE := fun ρ Q => gi ρ fun ds ρ1 => noOwn ρ1 vs = true ∧ ds.length ≤ 100000 ∧ ∃ Iv : Nat → List (List Int × D) → Rho → Prop, Iv 0 [] (wipeR ρ1 vs) ∧
  (∀ i d acc ρ2, ds[i]? = some d → acc.length ≤ i → Iv i acc ρ2 → gd d ρ2 fun ρ3 => gt ρ3 fun b ρ4 => if b = true then gk ρ4 fun kd ρ5 => gv ρ5 fun y ρ6 => ∃ ks, kd = tK ks ∧ Iv (i + 1) (putD acc ks y) (wipeR ρ6 vs) else Iv (i + 1) acc (wipeR ρ4 vs)) ∧
  ∀ acc ρ2, Iv ds.length acc ρ2 → Q (dicI acc) (mergeR ρ1 ρ2 vs)
theorem putD_len {kvs : List (List Int × D)} {ks : List Int} {d : D} : (putD kvs ks d).length ≤ kvs.length + 1 := by
  unfold putD
  split <;> simp
theorem simDc {K : PySem.W.Frag} {wi : TI} {gi : DTI} {gd : DTG} {is : List Nat} {gt : DTT} {gk gv : DTE} {vs : List Nat} (si : SimI K wi gi) (hsub : ∀ i ∈ is, i ∈ vs) : SimF K (tDcX K wi (tG K gd is true) (tT K gt) (tE K gk) (tE K gv) vs) (gDc gi gd gt gk gv vs) := by
  intro C S σ H ρ Q k R q f
  refine si C S σ H ρ _ _ R q fun J H1 ds ρ1 vs' f1 R1 hv W ⟨no, hlen, Iv, h0, hstep, hend⟩ => ?_
  intro D hD e0
  have nS : ¬ S D := R1.notS hD
  obtain ⟨z0, zM⟩ := R1.free0 hD
  have Rb : RS K ((C.pin vs').prot D) (fun a => S a ∨ a = D) (L2.wipe σ vs) (upd H1 D (dtO D [] e0)) (wipeR ρ1 vs) := (((R1.pin hv).new hD).prot (R1.apart nS) zM ⟨_, upd_same⟩).wipe vs
  have small : ∀ {n : Nat}, n < ds.length → n < sizeLine := fun h => Nat.lt_of_lt_of_le (Nat.lt_of_lt_of_le h hlen) (by decide)
  have toC : ∀ {Ha Hb : Hp}, Fr C S H1 Ha → Fr ((C.pin vs').prot D) (fun a => S a ∨ a = D) Ha Hb → Fr C S H1 Hb := fun {Ha Hb} x y a o h n => y a o (x a o h n) (n.elim (fun n => .inl fun z => z.elim n fun z => by rw [z, hD] at h; cases h) fun n => .inr (.inl n))
  have frD : ∀ {Ha Hb : Hp} {o : HO}, Fr ((C.pin vs').prot D) (fun a => S a ∨ a = D) Ha Hb → Ha D = some o → Hb D = some o := fun y h => y D _ h (.inr (.inr rfl))
  have sD : (fun a => S a ∨ a = D) D := .inr rfl
  refine ⟨fun i m H2 => m = ds.length - i ∧ i ≤ ds.length ∧ ∃ (xs : KVs) (ep : Nat) (kvs : List (List Int × PyData)) (ρ2 : Rho), H2 D = some (dtO D xs ep) ∧ KeysX K (fun a => S a ∨ a = D) H2 xs ∧ RpA K (fun a => S a ∨ a = D) H2 (xs.map (·.2.2)) (kvs.map (·.2)) ∧ xs.map (·.1) = kvs.map (·.1) ∧ kvs.length ≤ i ∧ RS K ((C.pin vs').prot D) (fun a => S a ∨ a = D) (L2.wipe σ vs) H2 ρ2 ∧ Fr C S H1 H2 ∧ Iv i kvs ρ2,
    ⟨ds.length, by omega, Nat.zero_le _, [], e0, [], _, upd_same, (fun x hx => nomatch hx), .nil, rfl, Nat.le_refl _, Rb, .of (.new hD), h0⟩, ?_⟩
  rintro i m H2 ⟨rfl, hi, xs, ep, kvs, ρ2, eD, kx, ra, ek, la, R2, fr, hI⟩
  have hv2 : ∀ q ∈ vs', WtOk K (fun a => S a ∨ a = D) H2 q := fun q hq => R2.vok q (List.mem_append_left _ hq)
  by_cases hlt : i < ds.length
  · refine .inr ⟨W.go _ H2 i hv2 hlt, fun H' => i + 1 ≤ ds.length ∧ ∃ (xs : KVs) (ep : Nat) (kvs : List (List Int × PyData)) (ρ2 : Rho), H' D = some (dtO D xs ep) ∧ KeysX K (fun a => S a ∨ a = D) H' xs ∧ RpA K (fun a => S a ∨ a = D) H' (xs.map (·.2.2)) (kvs.map (·.2)) ∧ xs.map (·.1) = kvs.map (·.1) ∧ kvs.length ≤ i + 1 ∧ RS K ((C.pin vs').prot D) (fun a => S a ∨ a = D) (L2.wipe σ vs) H' ρ2 ∧ Fr C S H1 H' ∧ Iv (i + 1) kvs ρ2,
      fun H' n => ⟨ds.length - (i + 1), by omega, rfl, n⟩, fun x H3 hy => ?_⟩
    have hd : ds[i]? = some ds[i] := List.getElem?_eq_getElem hlt
    obtain ⟨e3, r3⟩ := W.yl _ H2 i x H3 _ (fun p hp => R2.notS hp) hv2 hd hy
    have ww : L2.wipe (L2.wipe σ vs) vs = L2.wipe σ vs := by
      refine List.ext_getElem? fun j => ?_
      rw [wipe_get, wipe_length, wipe_get]
      by_cases hj : j ∈ vs
      · rw [if_pos hj, if_pos hj]
      · rw [if_neg hj]
    refine ⟨_, _, ρ2, _, _, R2.ext e3, r3, hstep i _ kvs ρ2 hd la hI, fun σ4 H4 ρ4 f4 R4 w4 q4 => ⟨(w4 rfl vs hsub).1.trans ww, _, _, ρ4, _, R4, q4, fun b H5 ρ5 f5 R5 q5 => ?_⟩⟩
    have fr5 : Fr C S H1 H5 := toC (toC (toC fr (.of e3)) f4) f5
    have eD5 : H5 D = some (dtO D xs ep) := frD f5 (frD f4 (e3 D _ eD))
    have kx5 : KeysX K (fun a => S a ∨ a = D) H5 xs := fun x hx => ((kx x hx).mv (fun a o h _ => e3 a o h) fun _ s => .inl s).mv (fun a o h n => f5 a o (f4 a o h (.inl n)) (.inl n)) fun _ s => .inl s
    have wp : ∀ {H6 : Hp} {ρ6 : Rho}, RS K ((C.pin vs').prot D) (fun a => S a ∨ a = D) σ4 H6 ρ6 → RS K ((C.pin vs').prot D) (fun a => S a ∨ a = D) (L2.wipe σ vs) H6 (wipeR ρ6 vs) := fun {H6 ρ6} R6 => by
      have := R6.wipe vs
      rw [(w4 rfl vs hsub).1, ww] at this
      exact this
    cases b with
    | false =>
      replace q5 := unF q5
      refine iteF ?_
      exact ⟨hlt, xs, ep, kvs, _, eD5, kx5, f5.rpa (f4.rpa (ra.ext e3)), ek, Nat.le_succ_of_le la, wp R5, fr5, q5⟩
    | true =>
      replace q5 := unT q5
      refine iteT ?_
      refine ⟨_, _, ρ5, _, R5, q5, fun y H6 dk ρ6 f6 R6 r6 q6 => ⟨_, _, ρ6, _, R6, q6, fun z H7 dy ρ7 f7 R7 r7 q7 => ?_⟩⟩
      obtain ⟨ks, rfl, q7⟩ := q7
      obtain ⟨p, rfl, tp⟩ := (f7.rp r6).keyX
      have eD7 : H7 D = some (dtO D xs ep) := frD f7 (frD f6 eD5)
      have kx7 : KeysX K (fun a => S a ∨ a = D) H7 xs := fun x hx => (kx5 x hx).mv (fun a o h n => f7 a o (f6 a o h (.inl n)) (.inl n)) fun _ s => .inl s
      have ra7 : RpA K (fun a => S a ∨ a = D) H7 (xs.map (·.2.2)) (kvs.map (·.2)) := f7.rpa (f6.rpa (f5.rpa (f4.rpa (ra.ext e3))))
      refine ⟨p, xs, ks, ep, rfl, eD7, kx7.q, tp.sq, small (by rw [lenX ek]; omega), fun ep' => ⟨hlt, putX xs ks p z, ep', putD kvs ks dy, wipeR ρ7 vs, upd_same, ?_, ?_⟩⟩
      · have tp' : TupX K (fun a => S a ∨ a = D) (upd H7 D (dtO D (putX xs ks p z) ep')) p (ks.map V.int) := tp.mv (fun a o h n => by rw [upd_ne (fun e => n (.inr e))]; exact h) fun _ s => .inl s
        exact putX_keys (KeysQ.wr kx7 sD) tp'
      · obtain ⟨h3, h4⟩ := putX_data (ks := ks) (b := p) (ra7.wr (o := dtO D (putX xs ks p z) ep') sD) ek (r7.wr sD)
        refine ⟨h3, h4, Nat.le_trans putD_len (by omega), ?_, ?_, q7⟩
        · have R8 := wp R7
          have nk : ∀ a o, a ≠ D → H7 a = some o → upd H7 D (dtO D (putX xs ks p z) ep') a = some o := fun a o n e => by rw [upd_ne n]; exact e
          refine ⟨R8.len, fun a o h m => nk a o (fun z => by rw [z] at h; rw [z0] at h; cases h) (R8.fr a o h m), fun a h => ?_, fun a h => ?_, R8.a0, fun j c e => ?_, R8.dst, fun q h => (R8.vok q h).wr sD, fun a c h => ?_⟩
          · by_cases z : a = D
            · rw [z]; exact ⟨_, upd_same⟩
            · obtain ⟨o, h⟩ := R8.al a h
              exact ⟨o, nk a o z h⟩
          · by_cases z : a = D
            · rw [z]; exact ⟨_, upd_same⟩
            · obtain ⟨o, h⟩ := R8.pa a h
              exact ⟨o, nk a o z h⟩
          · obtain ⟨v, h1, h2⟩ := R8.ent j c e
            refine ⟨v, h1, h2.mv (fun a o h n => nk a o (fun z => n (.inr z)) h) (fun _ s => .inl s) (fun _ s => s) fun p o hv hc u hu => nk p u (fun z => ?_) hu⟩
            subst hv hc
            obtain ⟨p', e', _, _, _, np, _⟩ := h2
            cases e'
            exact np (.inr z)
          · obtain ⟨z1, z2, z3, z4, z5, z6⟩ := R8.src a c h
            exact ⟨z1, z2, z3, z4, z5, z6.mv (fun u hu => nk a u (fun z => z4 (.inr z)) hu) fun u hu => nk c u (fun z => z5 (.inr z)) hu⟩
        · have fr7 := toC (toC fr5 f6) f7
          exact fun a o h n => by
            rw [upd_ne (show a ≠ D from fun z => by rw [z, hD] at h; cases h)]
            exact fr7 a o h n
  · have e : i = ds.length := by omega
    subst e
    refine .inl ⟨W.st _ H2 hv2, ?_⟩
    have R3 : RS K C (fun a => S a ∨ a = D) (L2.wipe σ vs) H2 ρ2 := R2.unprot.unpin.1
    have own3 : ∀ (i : Nat) o p, ρ2[i]? = some (some (.own o)) → (L2.wipe σ vs)[i]? = some (some (.ref p)) → S p := fun i o p h1 h2 => by
      obtain ⟨v, e1, p', rfl, s1, _, _, np, _⟩ := R2.ent i _ h1
      rw [h2] at e1
      cases e1
      exact s1.elim id fun z => absurd (show ((C.pin vs').prot D).pr p from .inr z) np
    have R4 : RS K C S (L2.wipe σ vs) H2 ρ2 := R3.less (fun a h => .inl h) (fun a h => (R1.a0 a h).1) (fun a h => (R1.mS h).1) own3
    refine f D H2 _ _ (f1.trans fr) (R1.merge (fun a o h n => fr a o h (.inl n)) no R4) ?_ (freshAt f1 R1 hD) (obX ⟨_, eD⟩ kx ra ek) (hend kvs ρ2 hI)
    refine (R1.new (u := dtO D [] e0) hD).merge (fun a o h n => ?_) no R3
    have nz : a ≠ D := fun z => n (.inr z)
    rw [upd_ne nz] at h
    exact fr a o h (.inl fun s => n (.inl s))
theorem ddc {kx vx tg iter : Expr} {ifs : List Expr} {scope : Scope} {own : List (Str × Nat)} {pos : Pos} {gi : DTI} {gd : DTG} {is : List Nat} {gt : DTT} {gk gv : DTE} (hu : X.A.units + 1 < cLine) (hc : X.calm = true) (hN : X.N.Nodup) (hi : DI X tg iter gi) (ok : BlkOk X.N X.env.scope scope own)
    (hg : ∀ (s : Shared) (H : Hp) (C : Addr) (cl : List (Str × Addr)) (fp : List Addr), DG (X.blk s H scope (compEnvC scope cl C X.env) fp) tg gd is true)
    (ht : ∀ (s : Shared) (H : Hp) (C : Addr) (cl : List (Str × Addr)) (fp : List Addr), DTs (X.blk s H scope (compEnvC scope cl C X.env) fp) ifs gt)
    (hk : ∀ (s : Shared) (H : Hp) (C : Addr) (cl : List (Str × Addr)) (fp : List Addr), DE (X.blk s H scope (compEnvC scope cl C X.env) fp) kx gk)
    (hv : ∀ (s : Shared) (H : Hp) (C : Addr) (cl : List (Str × Addr)) (fp : List Addr), DE (X.blk s H scope (compEnvC scope cl C X.env) fp) vx gv)
    (hsub : ∀ i ∈ is, i ∈ own.map (·.2) := by decide) (hs : ∀ x, foldedSetIterable iter X.env x = pure x := by intro _; rfl) : DF X (.DictComp kx vx [⟨tg, iter, ifs, 0⟩] scope pos) (gDc gi gd gt gk gv (own.map (·.2))) := by
  obtain ⟨wi, pi, si⟩ := hi.ex
  exact ⟨_, pe_dcX hu hc hN pi ok (fun s H C cl fp => (hg s H C cl fp).can) (fun s H C cl fp => (ht s H C cl fp).can) (fun s H C cl fp => (hk s H C cl fp).can) (fun s H C cl fp => (hv s H C cl fp).can) hs, simDc si hsub⟩
end

theorem hu1Of {k : Nat} {A : Around} (h : RoomG k A) : A.units + 1 < cLine := by have := h.room.un; omega
theorem hu2Of {k : Nat} {A : Around} (h : RoomG k A) : A.units + 2 < cLine := by have := h.room.un; omega
section
variable {ρ : Rho} {Q : D → Rho → Prop} {P : D → Prop} {kvs : List (List Int × D)} {ks : List Int}
@[simp] theorem gDic0_s : gDic0 ρ Q = Q (dicI []) ρ := rfl
theorem dicI_inj {a b : List (List Int × D)} (h : dicI a = dicI b) : a = b := by
  unfold dicI at h
  have h := PyData.dict.inj h
  refine (List.map_inj_right fun x y e => ?_).mp h
  simp only [Prod.mk.injEq] at e
  exact Prod.ext (tK_inj e.1) e.2
@[simp] theorem inX_s : inX (tK ks) (dicI kvs) P = P (.bool (kvs.any fun p => decide (p.1 = ks))) := by
  unfold inX
  refine propext ⟨fun ⟨a, b, e1, e2, h⟩ => ?_, fun h => ⟨_, _, rfl, rfl, h⟩⟩
  rw [tK_inj e1, dicI_inj e2]; exact h
@[simp] theorem ninX_s : ninX (tK ks) (dicI kvs) P = P (.bool (!kvs.any fun p => decide (p.1 = ks))) := by
  unfold ninX
  refine propext ⟨fun ⟨a, b, e1, e2, h⟩ => ?_, fun h => ⟨_, _, rfl, rfl, h⟩⟩
  rw [tK_inj e1, dicI_inj e2]; exact h
@[simp] theorem lenX_s : lenX' (dicI kvs) P = P (.int kvs.length) := by
  unfold lenX'
  refine propext ⟨fun ⟨a, e, h⟩ => ?_, fun h => ⟨_, rfl, h⟩⟩
  rw [dicI_inj e]; exact h
@[simp] theorem lstX_s : lstXU (dicI kvs) P = P (.list (kvs.map fun p => tK p.1)) := by
  unfold lstXU
  refine propext ⟨fun ⟨a, e, h⟩ => ?_, fun h => ⟨_, rfl, h⟩⟩
  rw [dicI_inj e]; exact h
@[simp] theorem dictU_s {ds : List D} : dictU (.list ds) P = ∃ kvs, ds = kvs.map pairD ∧ kvs.length ≤ 100000 ∧ P (dicI (allD [] kvs)) := by
  unfold dictU
  refine propext ⟨fun ⟨a, e, h⟩ => ⟨a, PyData.list.inj e, h⟩, fun ⟨a, e, h⟩ => ⟨a, by rw [e], h⟩⟩
end
theorem drg2 {X : Cx} {a b : Expr} {ga gb : DTE} {p pos : Pos} (hg : Gl X "range") (hm : X.mg "range" = none) (h : DE X a ga) (h2 : DE X b gb) (na : starEach [a, b] X.env = (false, eval a X.env) :: starEach [b] X.env := by rfl)
    (nb : starEach [b] X.env = (false, eval b X.env) :: starEach [] X.env := by rfl) (hp : (backTo pos (starEach [b] X.env)).any (·.1) = false := by rfl) : DRg X (.Call (.Name "range" p) [a, b] [] pos) (gRg2 ga gb) := by
  obtain ⟨t, p, s⟩ := h.ex
  obtain ⟨t2, p2, s2⟩ := h2.ex
  refine ⟨_, prg_2 hg hm p p2 na nb hp, fun C S σ H ρ Q k R q f => s C S σ H ρ _ _ R q fun v H1 d ρ1 f1 R1 r1 h => s2 C S σ H1 ρ1 _ _ R1 h fun v2 H2 d2 ρ2 f2 R2 r2 h => ?_⟩
  obtain ⟨i, j, rfl, rfl, h⟩ := h
  cases r1
  cases r2
  exact ⟨i, j, rfl, rfl, f i j H2 ρ2 (f1.trans f2) R2 h⟩
end Gw
namespace Gw
open PySem PySem.Spec PyProof.Rows L2

theorem putD_new {kvs : List (List Int × D)} {ks : List Int} {d : D} (h : ∀ p ∈ kvs, p.1 ≠ ks) : putD kvs ks d = kvs ++ [(ks, d)] := by
  unfold putD
  rw [if_neg]
  simp only [List.any_eq_true, decide_eq_true_eq, not_exists, not_and]
  exact h
theorem allD_new : ∀ {mo kvs : List (List Int × D)}, ((kvs ++ mo).map (·.1)).Nodup → allD kvs mo = kvs ++ mo
  | [], kvs, _ => by simp [allD]
  | x :: mo, kvs, h => by
    show allD (putD kvs x.1 x.2) mo = _
    rw [putD_new (fun p hp e => ?_), allD_new (by rw [List.append_assoc]; exact h)]
    · simp
    · rw [List.map_append, List.map_cons, List.nodup_append] at h
      exact h.2.2 _ (List.mem_map_of_mem hp) _ List.mem_cons_self e
/-! ## readings that answer one thing and store nothing -/
def Ev (g : DTE) (ρ : Rho) (d : D) : Prop := ∀ Q : D → Rho → Prop, Q d ρ → g ρ Q
def EvT (g : DTT) (ρ : Rho) (b : Bool) : Prop := ∀ P : Bool → Rho → Prop, P b ρ → g ρ P
def EvA (l : DTA) (ρ : Rho) (ds : List D) : Prop := ∀ P : List D → Rho → Prop, P ds ρ → l ρ P
def EvI (g : DTI) (ρ : Rho) (ds : List D) : Prop := ∀ P : List D → Rho → Prop, P ds ρ → g ρ P
def EvO (g : DTO) (ρ : Rho) (i : Option Int) : Prop := ∀ P : Option Int → Rho → Prop, P i ρ → g ρ P
def EvG (g : DTG) (d : D) (ρ ρ' : Rho) : Prop := ∀ P : Rho → Prop, P ρ' → g d ρ P
def EvGs (g : DTGs) (ds : List D) (ρ ρ' : Rho) : Prop := ∀ P : Rho → Prop, P ρ' → g ds ρ P
def EvC (l : DTC) (ρ : Rho) (cs : List Cl) : Prop := ∀ P : List Cl → Rho → Prop, P cs ρ → l ρ P
def EvR (g : Rho → (Int → Int → Rho → Prop) → Prop) (ρ : Rho) (m n : Int) : Prop := ∀ P : Int → Int → Rho → Prop, P m n ρ → g ρ P
def Op2 (f : DOp) (x y d : D) : Prop := ∀ P : D → Prop, P d → f x y P
def Op1 (f : DU) (x d : D) : Prop := ∀ P : D → Prop, P d → f x P
def OpL (f : List D → (D → Prop) → Prop) (xs : List D) (d : D) : Prop := ∀ P : D → Prop, P d → f xs P
/-- what is walked -/
inductive Items : D → List D → Prop
  | l {ds : List D} : Items (.list ds) ds
  | t {ds : List D} : Items (.tuple ds) ds
inductive Cut : D → Option Int → Option Int → D → Prop
  | l {ds : List D} {lo hi : Option Int} : Cut (.list ds) lo hi (.list (cutD ds lo hi))
  | t {ds : List D} {lo hi : Option Int} : Cut (.tuple ds) lo hi (.tuple (cutD ds lo hi))
section
variable {ρ ρ' : Rho} {i j : Nat} {d x y z : D} {g a b c : DTE} {s t : DTT} {ds es : List D} {l : DTA} {m n k : Int} {p q : Bool}
theorem ev_var (h : lk ρ i = some (.dat d)) : Ev (gVar i) ρ d := fun Q q => ⟨d, h, q⟩
theorem ev_own (h : lk ρ i = some (.own d)) : Ev (gOwn i) ρ d := fun Q q => ⟨d, h, q⟩
theorem ev_c : Ev (gC d) ρ d := fun Q q => q
theorem ev_bin {f : DOp} (ha : Ev a ρ x) (hb : Ev b ρ y) (hf : Op2 f x y d) : Ev (gBin f a b) ρ d := fun Q q => ha _ (hb _ (hf _ q))
theorem ev_binO {f : DOp} (hx : lk ρ i = some (.own x)) (hb : Ev b ρ y) (hf : Op2 f x y d) : Ev (gBinO f i b) ρ d := fun Q q => ⟨⟨x, hx⟩, hb _ ⟨x, hx, hf _ q⟩⟩
theorem ev_u {f : DU} (ha : Ev a ρ x) (hf : Op1 f x d) : Ev (gU f a) ρ d := fun Q q => ha _ (hf _ q)
theorem ev_a {f : List D → (D → Prop) → Prop} (ha : EvA l ρ ds) (hf : OpL f ds d) : Ev (gA f l) ρ d := fun Q q => ha _ (hf _ q)
theorem ev_tup (h : EvA l ρ ds) (hl : ds.length ≤ 100000) : Ev (gTup l) ρ (.tuple ds) := fun Q q => h _ ⟨hl, q⟩
theorem ev_lst (h : EvA l ρ ds) (hl : ds.length ≤ 100000) : Ev (gLst l) ρ (.list ds) := fun Q q => h _ ⟨hl, q⟩
theorem ev_neg (h : Ev a ρ (.int m)) : Ev (gNeg a) ρ (.int (-m)) := fun Q q => h _ ⟨m, rfl, q⟩
theorem ev_isN (h : Ev a ρ .none) : Ev (gIsN p a) ρ (.bool (!p)) := fun Q q => h _ q
theorem ev_notN (h : Ev a ρ x) (n : x ≠ .none) : Ev (gIsN p a) ρ (.bool p) := fun Q q => h _ (by cases x <;> first | exact q | exact absurd rfl n)
theorem ev_sl {lo hi : DTO} {u v : Option Int} (h : Ev a ρ x) (h1 : EvO lo ρ u) (h2 : EvO hi ρ v) (hc : Cut x u v d) : Ev (gSl a lo hi) ρ d := fun Q q => h _ (h1 _ (h2 _ (by cases hc <;> exact q)))
theorem evo_no : EvO gNo ρ none := fun P q => q
theorem evo_some (h : Ev a ρ (.int m)) : EvO (gSome a) ρ (some m) := fun P q => h _ ⟨m, rfl, q⟩
theorem ev_rev (h : Ev a ρ (.list ds)) : Ev (gRev a) ρ (.list ds.reverse) := fun Q q => h _ ⟨ds, rfl, q⟩
theorem ev_revT (h : Ev a ρ (.tuple ds)) : Ev (gRevT a) ρ (.tuple ds.reverse) := fun Q q => h _ ⟨ds, rfl, q⟩
theorem ev_call {sp : Spec} (h : EvA l ρ ds) (hs : ∀ Q : D → Prop, Q d → sp.w ds Q) : Ev (gCall sp l) ρ d := fun Q q => h _ (hs _ q)
theorem ev_if (h : EvT s ρ p) (h1 : p = true → Ev a ρ d) (h2 : p = false → Ev b ρ d) : Ev (gIf s a b) ρ d := fun Q q => h _ (by cases p; exact h2 rfl _ q; exact h1 rfl _ q)
theorem ev_ifT (h : EvT s ρ true) (h1 : Ev a ρ d) : Ev (gIf s a b) ρ d := fun Q q => h _ (h1 _ q)
theorem ev_ifF (h : EvT s ρ false) (h1 : Ev b ρ d) : Ev (gIf s a b) ρ d := fun Q q => h _ (h1 _ q)
theorem ev_dic0 : Ev gDic0 ρ (dicI []) := fun Q q => q
theorem ev_disp {ks : List Int} (h : Ev a ρ (tK ks)) (h1 : Ev b ρ d) : Ev (gDisp a b) ρ (dicI [(ks, d)]) := fun Q q => h _ (h1 _ ⟨ks, rfl, q⟩)
theorem ev_lrg {g : Rho → (Int → Int → Rho → Prop) → Prop} (h : EvR g ρ m n) (hb : rngB m n) : Ev (gLRg g) ρ (.list (rngD m (n - m).toNat)) := fun Q q => h _ ⟨hb, q⟩
theorem ev_trg {g : Rho → (Int → Int → Rho → Prop) → Prop} (h : EvR g ρ m n) (hb : rngB m n) : Ev (gTRg g) ρ (.tuple (rngD m (n - m).toNat)) := fun Q q => h _ ⟨hb, q⟩
theorem evr_1 (h : Ev a ρ (.int n)) : EvR (gRg1 a) ρ 0 n := fun P q => h _ ⟨n, rfl, q⟩
theorem evr_2 (h : Ev a ρ (.int m)) (h2 : Ev b ρ (.int n)) : EvR (gRg2 a b) ρ m n := fun P q => h _ (h2 _ ⟨m, n, rfl, rfl, q⟩)
/-! values asked in turn -/
theorem ev_notV (h : Ev a ρ (.bool p)) : Ev (gNotV a) ρ (.bool (!p)) := fun Q q => h _ ⟨p, rfl, q⟩
theorem ev_andV (h : Ev a ρ (.bool p)) (h2 : p = true → Ev b ρ (.bool q)) : Ev (gAndV a b) ρ (.bool (p && q)) := fun Q z => h _ ⟨p, rfl, by cases p; exact z; exact h2 rfl _ z⟩
theorem ev_orV (h : Ev a ρ (.bool p)) (h2 : p = false → Ev b ρ (.bool q)) : Ev (gOrV a b) ρ (.bool (p || q)) := fun Q z => h _ ⟨p, rfl, by cases p; exact h2 rfl _ z; exact z⟩
theorem ev_chain {f f' : DOp} (ha : Ev a ρ x) (hb : Ev b ρ y) (h1 : Op2 f x y (.bool p)) (hc : p = true → Ev c ρ z) (h2 : p = true → Op2 f' y z (.bool q)) : Ev (gChain f f' a b c) ρ (.bool (p && q)) := fun Q w => ha _ (hb _ (h1 _ ⟨p, rfl, by cases p; exact w; exact hc rfl _ (h2 rfl _ w)⟩))
/-! tests -/
theorem evt_test (h : Ev a ρ (.bool p)) : EvT (gTest a) ρ p := fun P q => h _ ⟨p, rfl, q⟩
theorem evt_tru (h : Ev a ρ x) (e : truD x = some p) : EvT (gTru a) ρ p := fun P q => h _ ⟨p, e, q⟩
theorem evt_not (h : EvT s ρ p) : EvT (gNot s) ρ (!p) := fun P q => h _ q
theorem evt_and (h : EvT s ρ p) (h2 : p = true → EvT t ρ q) : EvT (gAnd s t) ρ (p && q) := fun P z => h _ (by cases p; exact z; exact h2 rfl _ z)
theorem evt_or (h : EvT s ρ p) (h2 : p = false → EvT t ρ q) : EvT (gOr s t) ρ (p || q) := fun P z => h _ (by cases p; exact h2 rfl _ z; exact z)
theorem evt_orF (h : EvT s ρ false) (h2 : EvT t ρ q) : EvT (gOr s t) ρ q := fun P z => h _ (h2 _ z)
theorem evt_andT (h : EvT s ρ true) (h2 : EvT t ρ q) : EvT (gAnd s t) ρ q := fun P z => h _ (h2 _ z)
theorem evt_yes : EvT gYes ρ true := fun P q => q
theorem evt_to (h : EvT s ρ p) (e : p = q) : EvT s ρ q := e ▸ h
theorem ev_to (h : Ev a ρ x) (e : x = d) : Ev a ρ d := e ▸ h
theorem eva_nil : EvA gNil ρ [] := fun P q => q
theorem eva_cons (h : Ev a ρ d) (h2 : EvA l ρ ds) : EvA (gCons a l) ρ (d :: ds) := fun P q => h _ (h2 _ q)
theorem evc_nil : EvC gcNil ρ [] := fun P q => q
theorem evc_dat {l : DTC} {cs : List Cl} (h : Ev a ρ d) (h2 : EvC l ρ cs) : EvC (gcDat a l) ρ (.dat d :: cs) := fun P q => h _ (h2 _ q)
theorem evc_own {l : DTC} {cs : List Cl} (h : Ev a ρ d) (h2 : EvC l ρ cs) : EvC (gcOwn a l) ρ (.own d :: cs) := fun P q => h _ (h2 _ q)
/-! walks -/
theorem evi_seq (h : Ev a ρ x) (hi : Items x ds) : EvI (giSeq a) ρ ds := fun P q => h _ (by cases hi <;> exact q)
theorem evi_enum (h : Ev a ρ x) (hi : Items x ds) : EvI (giEnum a) ρ (enumD ds) := fun P q => h _ (by cases hi <;> exact q)
theorem evi_r1 (h : Ev a ρ (.int n)) (hn : n ≤ 100000 ∧ -100000 ≤ n) : EvI (giR1 a) ρ (rngD 0 n.toNat) := fun P q => h _ ⟨n, rfl, hn.1, hn.2, q⟩
theorem evi_r2 (h : Ev a ρ (.int m)) (h2 : Ev b ρ (.int n)) (hn : n ≤ 100000 ∧ -100000 ≤ n ∧ m ≤ 100000 ∧ -100000 ≤ m) : EvI (giR2 a b) ρ (rngD m (n - m).toNat) := fun P q => h _ (h2 _ ⟨m, n, rfl, rfl, hn, q⟩)
theorem evi_dic {kvs : List (List Int × D)} (h : Ev a ρ (dicI kvs)) : EvI (giDic a) ρ (kvs.map fun p => tK p.1) := fun P q => h _ ⟨kvs, rfl, q⟩
theorem evi_to {gi : DTI} (h : EvI gi ρ ds) (e : ds = es) : EvI gi ρ es := e ▸ h
/-! targets -/
theorem evg_name : EvG (gdName i) d ρ (ρ.set i (some (.dat d))) := fun P q => q
theorem evg_tup {gl : DTGs} {N : Nat} (h : EvGs gl ds ρ ρ') (hl : ds.length = N) : EvG (gdTup gl N) (.tuple ds) ρ ρ' := fun P q => ⟨hl, h _ q⟩
theorem evgs_nil : EvGs gdNil [] ρ ρ := fun P q => ⟨rfl, q⟩
theorem evgs_cons {gd : DTG} {gl : DTGs} {ρ1 : Rho} (h : EvG gd d ρ ρ1) (h2 : EvGs gl ds ρ1 ρ') : EvGs (gdCons gd gl) (d :: ds) ρ ρ' := fun P q => h _ (h2 _ q)
/-! operations -/
theorem op_add : Op2 addD (.int m) (.int n) (.int (m + n)) := fun P q => q
theorem op_addT (h : ds.length + es.length ≤ 100000) : Op2 addD (.tuple ds) (.tuple es) (.tuple (ds ++ es)) := fun P q => ⟨h, q⟩
theorem op_addL (h : ds.length + es.length ≤ 100000) : Op2 addD (.list ds) (.list es) (.list (ds ++ es)) := fun P q => ⟨h, q⟩
theorem op_cat (h : ds.length + es.length ≤ 100000) : Op2 catD (.list ds) (.list es) (.list (ds ++ es)) := fun P q => ⟨h, q⟩
theorem op_sub : Op2 subD (.int m) (.int n) (.int (m - n)) := fun P q => q
theorem op_mul (h : (-(2 ^ 64) < m ∧ m < 2 ^ 64) ∨ (-(2 ^ 64) < n ∧ n < 2 ^ 64)) : Op2 mulI (.int m) (.int n) (.int (m * n)) := fun P q => ⟨h, q⟩
theorem op_rep (h : n < 2 ^ 20 ∧ -(2 ^ 20) < n ∧ ds.length * n.toNat ≤ 100000) : Op2 repD (.list ds) (.int n) (.list (List.replicate n.toNat ds).flatten) := fun P q => ⟨h.1, h.2.1, h.2.2, q⟩
theorem op_fdiv (h : 0 < n ∧ n < 1073741824) : Op2 fdivD (.int m) (.int n) (.int (m / n)) := fun P q => ⟨h, q⟩
theorem op_mod (h : 0 < n) : Op2 modD (.int m) (.int n) (.int (m % n)) := fun P q => ⟨h, q⟩
theorem op_lt : Op2 ltD (.int m) (.int n) (.bool (decide (m < n))) := fun P q => q
theorem op_le : Op2 leD (.int m) (.int n) (.bool (decide (m ≤ n))) := fun P q => q
theorem op_gt : Op2 gtD (.int m) (.int n) (.bool (decide (n < m))) := fun P q => q
theorem op_ge : Op2 geD (.int m) (.int n) (.bool (decide (n ≤ m))) := fun P q => q
theorem op_eqI : Op2 eqD (.int m) (.int n) (.bool (decide (m = n))) := fun P q => ⟨rfl, by rw [show PyData.eqv (.int m) (.int n) = decide (m = n) by simp [PyData.eqv]; rfl]; exact q⟩
theorem op_neI : Op2 neD (.int m) (.int n) (.bool (!decide (m = n))) := fun P q => ⟨rfl, by rw [show PyData.eqv (.int m) (.int n) = decide (m = n) by simp [PyData.eqv]; rfl]; exact q⟩
theorem op_eqS {u v : Str} : Op2 eqD (.str u) (.str v) (.bool (decide (u = v))) := fun P q => ⟨rfl, by rw [show PyData.eqv (.str u) (.str v) = decide (u = v) by simp [PyData.eqv]; rfl]; exact q⟩
theorem op_neS {u v : Str} : Op2 neD (.str u) (.str v) (.bool (!decide (u = v))) := fun P q => ⟨rfl, by rw [show PyData.eqv (.str u) (.str v) = decide (u = v) by simp [PyData.eqv]; rfl]; exact q⟩
theorem op_eq (h : eqOk x y = true) : Op2 eqD x y (.bool (PyData.eqv x y)) := fun P q => ⟨h, q⟩
theorem op_ne (h : eqOk x y = true) : Op2 neD x y (.bool (!PyData.eqv x y)) := fun P q => ⟨h, q⟩
theorem op_ixL (h : atI ds n = some d) : Op2 ixD (.list ds) (.int n) d := fun P q => ⟨d, h, q⟩
theorem op_ixT (h : atI ds n = some d) : Op2 ixD (.tuple ds) (.int n) d := fun P q => ⟨d, h, q⟩
theorem op2_inX {ks : List Int} {kvs : List (List Int × D)} : Op2 inX (tK ks) (dicI kvs) (.bool (kvs.any fun p => decide (p.1 = ks))) := fun P q => ⟨ks, kvs, rfl, rfl, q⟩
theorem op2_ninX {ks : List Int} {kvs : List (List Int × D)} : Op2 ninX (tK ks) (dicI kvs) (.bool (!kvs.any fun p => decide (p.1 = ks))) := fun P q => ⟨ks, kvs, rfl, rfl, q⟩
theorem u_lenL : Op1 lenU (.list ds) (.int ds.length) := fun P q => q
theorem u_lenT : Op1 lenU (.tuple ds) (.int ds.length) := fun P q => q
theorem u_lenLm {α : Type} {xs : List α} {f : α → D} : Op1 lenU (.list (xs.map f)) (.int xs.length) := fun P q => by rw [lenU_l, List.length_map]; exact q
theorem u_lenTm {α : Type} {xs : List α} {f : α → D} : Op1 lenU (.tuple (xs.map f)) (.int xs.length) := fun P q => by rw [lenU_t, List.length_map]; exact q
theorem u_lenX {kvs : List (List Int × D)} : Op1 lenX' (dicI kvs) (.int kvs.length) := fun P q => ⟨kvs, rfl, q⟩
theorem u_lstX {kvs : List (List Int × D)} : Op1 lstXU (dicI kvs) (.list (kvs.map fun p => tK p.1)) := fun P q => ⟨kvs, rfl, q⟩
theorem u_dict {kvs : List (List Int × D)} (h : kvs.length ≤ 100000) : Op1 dictU (.list (kvs.map pairD)) (dicI (allD [] kvs)) := fun P q => ⟨kvs, rfl, h, q⟩
theorem u_tupL : Op1 tupU (.list ds) (.tuple ds) := fun P q => q
theorem u_tupT : Op1 tupU (.tuple ds) (.tuple ds) := fun P q => q
theorem u_lstL : Op1 lstU (.list ds) (.list ds) := fun P q => q
theorem u_lstT : Op1 lstU (.tuple ds) (.list ds) := fun P q => q
theorem u_int : Op1 intU (.int m) (.int m) := fun P q => q
theorem u_intB : Op1 intU (.bool p) (.int (if p then 1 else 0)) := fun P q => q
theorem u_abs : Op1 absU (.int m) (.int (if m < 0 then -m else m)) := fun P q => q
theorem u_sumL {ns : List Int} : Op1 sumU (.list (ns.map PyData.int)) (.int ns.sum) := fun P q => ⟨ns, .inl rfl, q⟩
theorem u_sumT {ns : List Int} : Op1 sumU (.tuple (ns.map PyData.int)) (.int ns.sum) := fun P q => ⟨ns, .inr rfl, q⟩
theorem u_repr (h : ∃ n k, OkR n k x ∧ n ≤ 2 ^ 20 ∧ k ≤ 60) : Op1 reprU x (.str x.shown) := fun P q => ⟨h, q⟩
theorem l_max : OpL max2A [.int m, .int n] (.int (if n > m then n else m)) := fun P q => q
theorem l_min : OpL min2A [.int m, .int n] (.int (if n < m then n else m)) := fun P q => q
theorem filter_if {α β : Type} (p : α → Bool) (f : α → β) (l : List α) : (l.filterMap fun x => if p x = true then some (f x) else none) = (l.filter p).map f := by
  induction l with
  | nil => rfl
  | cons x r ih => by_cases h : p x = true <;> simp [h, ih]
/-! comprehensions -/
theorem ev_lc {α : Type} {gi : DTI} {gd : DTG} {ge : DTE} {vs : List Nat} {xs : List α} {enc : α → D} {f : α → D} {r : α → Rho} (hi : EvI gi ρ (xs.map enc)) (hg : ∀ x ∈ xs, EvG gd (enc x) (wipeR ρ vs) (r x)) (he : ∀ x ∈ xs, Ev ge (r x) (f x))
    (no : noOwn ρ vs = true) (hl : xs.length ≤ 100000) (hw : ∀ x ∈ xs, wipeR (r x) vs = wipeR ρ vs) : Ev (gLc gi gd gYes ge vs) ρ (.list (xs.map f)) := fun Q q =>
  lcAll xs enc f ρ hi no hl (fun x hx P hP => hg x hx _ (he x hx _ (by rw [hw x hx]; exact hP))) (by rw [merge_wipe]; exact q)
theorem ev_lcF {α : Type} {gi : DTI} {gd : DTG} {gt : DTT} {ge : DTE} {vs : List Nat} {xs : List α} {enc : α → D} {f : α → D} {ok : α → Bool} {r : α → Rho} (hi : EvI gi ρ (xs.map enc)) (hg : ∀ x ∈ xs, EvG gd (enc x) (wipeR ρ vs) (r x)) (ht : ∀ x ∈ xs, EvT gt (r x) (ok x))
    (he : ∀ x ∈ xs, ok x = true → Ev ge (r x) (f x)) (no : noOwn ρ vs = true) (hl : xs.length ≤ 100000) (hw : ∀ x ∈ xs, wipeR (r x) vs = wipeR ρ vs) : Ev (gLc gi gd gt ge vs) ρ (.list ((xs.filter ok).map f)) := fun Q q =>
  lcAt xs enc (fun x => if ok x = true then some (f x) else none) ρ hi no hl (fun x hx P hP => hg x hx _ (ht x hx _ (by
    cases e : ok x with
    | false => rw [e] at hP; rw [if_neg Bool.false_ne_true] at hP ⊢; rw [hw x hx]; exact hP
    | true => rw [e] at hP; rw [if_pos rfl] at hP ⊢; exact he x hx e _ (by rw [hw x hx]; exact hP)))) (by
    rw [merge_wipe]
    have e := filter_if ok f xs
    rw [e]; exact q)
theorem wipeR2 (ρ : Rho) (vs : List Nat) : wipeR (wipeR ρ vs) vs = wipeR ρ vs := by
  refine List.ext_getElem? fun j => ?_
  rw [wipeR_get, wipeR_len, wipeR_get]
  by_cases h : j ∈ vs
  · rw [if_pos h, if_pos h]
  · rw [if_neg h, if_neg h]
/-- one name -/
theorem ev_lcN {α : Type} {gi : DTI} {ge : DTE} {vs : List Nat} (xs : List α) (enc : α → D) (f : α → D) {ys : List D} (hi : EvI gi ρ (xs.map enc)) (he : ∀ x ∈ xs, Ev ge ((wipeR ρ vs).set i (some (.dat (enc x)))) (f x)) (e : xs.map f = ys)
    (hl : xs.length ≤ 100000) (no : noOwn ρ vs = true := by rfl) (hv : i ∈ vs := by decide) : Ev (gLc gi (gdName i) gYes ge vs) ρ (.list ys) :=
  e ▸ ev_lc (r := fun x => (wipeR ρ vs).set i (some (.dat (enc x)))) hi (fun x hx => evg_name) he no hl fun x hx => by rw [wipeR_set hv, wipeR2]
theorem ev_lcFN {α : Type} {gi : DTI} {gt : DTT} {ge : DTE} {vs : List Nat} (xs : List α) (enc : α → D) (f : α → D) (ok : α → Bool) {ys : List D} (hi : EvI gi ρ (xs.map enc)) (ht : ∀ x ∈ xs, EvT gt ((wipeR ρ vs).set i (some (.dat (enc x)))) (ok x)) (he : ∀ x ∈ xs, ok x = true → Ev ge ((wipeR ρ vs).set i (some (.dat (enc x)))) (f x)) (e : (xs.filter ok).map f = ys)
    (hl : xs.length ≤ 100000) (no : noOwn ρ vs = true := by rfl) (hv : i ∈ vs := by decide) : Ev (gLc gi (gdName i) gt ge vs) ρ (.list ys) :=
  e ▸ ev_lcF (r := fun x => (wipeR ρ vs).set i (some (.dat (enc x)))) hi (fun x hx => evg_name) ht he no hl fun x hx => by rw [wipeR_set hv, wipeR2]
/-- two, three -/
theorem ev_lcN2 {α : Type} {gi : DTI} {ge : DTE} {vs : List Nat} (xs : List α) (u v : α → D) (f : α → D) {ys : List D} (hi : EvI gi ρ (xs.map fun x => .tuple [u x, v x])) (he : ∀ x ∈ xs, Ev ge (((wipeR ρ vs).set i (some (.dat (u x)))).set j (some (.dat (v x)))) (f x)) (e : xs.map f = ys)
    (hl : xs.length ≤ 100000) (no : noOwn ρ vs = true := by rfl) (hv : i ∈ vs ∧ j ∈ vs := by decide) : Ev (gLc gi (gdTup (gdCons (gdName i) (gdCons (gdName j) gdNil)) 2) gYes ge vs) ρ (.list ys) :=
  e ▸ ev_lc (r := fun x => ((wipeR ρ vs).set i (some (.dat (u x)))).set j (some (.dat (v x)))) hi (fun x hx => evg_tup (evgs_cons evg_name (evgs_cons evg_name evgs_nil)) rfl) he no hl fun x hx => by rw [wipeR_set hv.2, wipeR_set hv.1, wipeR2]
theorem ev_lcFN2 {α : Type} {gi : DTI} {gt : DTT} {ge : DTE} {vs : List Nat} (xs : List α) (u v : α → D) (f : α → D) (ok : α → Bool) {ys : List D} (hi : EvI gi ρ (xs.map fun x => .tuple [u x, v x])) (ht : ∀ x ∈ xs, EvT gt (((wipeR ρ vs).set i (some (.dat (u x)))).set j (some (.dat (v x)))) (ok x)) (he : ∀ x ∈ xs, ok x = true → Ev ge (((wipeR ρ vs).set i (some (.dat (u x)))).set j (some (.dat (v x)))) (f x)) (e : (xs.filter ok).map f = ys)
    (hl : xs.length ≤ 100000) (no : noOwn ρ vs = true := by rfl) (hv : i ∈ vs ∧ j ∈ vs := by decide) : Ev (gLc gi (gdTup (gdCons (gdName i) (gdCons (gdName j) gdNil)) 2) gt ge vs) ρ (.list ys) :=
  e ▸ ev_lcF (r := fun x => ((wipeR ρ vs).set i (some (.dat (u x)))).set j (some (.dat (v x)))) hi (fun x hx => evg_tup (evgs_cons evg_name (evgs_cons evg_name evgs_nil)) rfl) ht he no hl fun x hx => by rw [wipeR_set hv.2, wipeR_set hv.1, wipeR2]
theorem ev_lcN3 {α : Type} {gi : DTI} {ge : DTE} {k : Nat} {vs : List Nat} (xs : List α) (u v w : α → D) (f : α → D) {ys : List D} (hi : EvI gi ρ (xs.map fun x => .tuple [u x, v x, w x])) (he : ∀ x ∈ xs, Ev ge ((((wipeR ρ vs).set i (some (.dat (u x)))).set j (some (.dat (v x)))).set k (some (.dat (w x)))) (f x)) (e : xs.map f = ys)
    (hl : xs.length ≤ 100000) (no : noOwn ρ vs = true := by rfl) (hv : i ∈ vs ∧ j ∈ vs ∧ k ∈ vs := by decide) : Ev (gLc gi (gdTup (gdCons (gdName i) (gdCons (gdName j) (gdCons (gdName k) gdNil))) 3) gYes ge vs) ρ (.list ys) :=
  e ▸ ev_lc (r := fun x => (((wipeR ρ vs).set i (some (.dat (u x)))).set j (some (.dat (v x)))).set k (some (.dat (w x)))) hi (fun x hx => evg_tup (evgs_cons evg_name (evgs_cons evg_name (evgs_cons evg_name evgs_nil))) rfl) he no hl fun x hx => by rw [wipeR_set hv.2.2, wipeR_set hv.2.1, wipeR_set hv.1, wipeR2]
/-- a dict, all keys new -/
theorem ev_dcN {α : Type} {gi : DTI} {gk gv : DTE} {vs : List Nat} (xs : List α) (enc : α → D) (key : α → List Int) (val : α → D) (hi : EvI gi ρ (xs.map enc)) (hk : ∀ x ∈ xs, Ev gk ((wipeR ρ vs).set i (some (.dat (enc x)))) (tK (key x))) (hv : ∀ x ∈ xs, Ev gv ((wipeR ρ vs).set i (some (.dat (enc x)))) (val x))
    (nd : (xs.map key).Nodup) (hl : xs.length ≤ 100000) (no : noOwn ρ vs = true := by rfl) (hvs : i ∈ vs := by decide) : Ev (gDc gi (gdName i) gYes gk gv vs) ρ (dicI (xs.map fun x => (key x, val x))) := fun Q q => by
  refine hi _ ⟨no, by simpa using hl, fun n acc ρ2 => acc = (xs.take n).map (fun x => (key x, val x)) ∧ ρ2 = wipeR ρ vs, ⟨rfl, rfl⟩, fun n d acc ρ2 hd _ hI => ?_, fun acc ρ2 hI => ?_⟩
  · obtain ⟨rfl, rfl⟩ := hI
    rw [List.getElem?_map] at hd
    obtain ⟨x, hx, rfl⟩ := Option.map_eq_some_iff.mp hd
    have hm := List.mem_of_getElem? hx
    have et : xs.take (n + 1) = xs.take n ++ [x] := by rw [List.take_add_one, hx]; rfl
    refine hk x hm _ (hv x hm _ ⟨key x, rfl, ?_, ?_⟩)
    · rw [putD_new, et, List.map_append]
      · rfl
      · intro p hp e
        obtain ⟨y, hy, rfl⟩ := List.mem_map.mp hp
        have nd2 : ((xs.take (n + 1)).map key).Nodup := nd.sublist ((List.take_sublist _ _).map key)
        rw [et, List.map_append, List.nodup_append] at nd2
        exact nd2.2.2 _ (List.mem_map_of_mem hy) _ (by simp) e
    · rw [wipeR_set hvs, wipeR2]
  · obtain ⟨rfl, rfl⟩ := hI
    rw [List.length_map, List.take_length, merge_wipe]
    exact q
/-! statements -/
variable {G : DEnds} {T U : DTS}
theorem st_seq (h : T { nx := U G, rt := G.rt, bk := G.bk, ct := G.ct } ρ) : gSeq T U G ρ := h
theorem st_set (h : Ev a ρ d) (q : G.nx (ρ.set i (some (.dat d)))) : gSet i a G ρ := h _ q
theorem st_setO (h : Ev a ρ d) (q : G.nx (ρ.set i (some (.own d)))) : gSetO i a G ρ := h _ q
theorem st_asg {gd : DTG} (h : Ev a ρ d) (hg : EvG gd d ρ ρ') (q : G.nx ρ') : gAsg a gd G ρ := h _ (hg _ q)
theorem st_if (h : EvT s ρ p) (ht : p = true → T G ρ) (hf : p = false → U G ρ) : gIfS s T U G ρ := h _ (by cases p; exact hf rfl; exact ht rfl)
theorem st_ifT (h : EvT s ρ true) (q : T G ρ) : gIfS s T U G ρ := h _ q
theorem st_ifF (h : EvT s ρ false) (q : U G ρ) : gIfS s T U G ρ := h _ q
theorem st_ret (h : Ev a ρ d) (q : G.rt d ρ) : gRet a G ρ := h _ q
theorem st_retO (h : lk ρ i = some (.own d)) (q : G.rt d (ρ.set i (some (.dat d)))) : gRetO i G ρ := ⟨d, h, q⟩
theorem st_drop (h : Ev a ρ d) (q : G.nx ρ) : gDrop a G ρ := h _ q
theorem st_app (h0 : lk ρ i = some (.own (.list ds))) (h : Ev a ρ d) (hl : ds.length < 100000) (q : G.nx (ρ.set i (some (.own (.list (ds ++ [d])))))) : gApp i a G ρ := ⟨⟨ds, h0⟩, h _ ⟨ds, h0, hl, q⟩⟩
theorem st_ext (h0 : lk ρ i = some (.own (.list ds))) (h : Ev a ρ (.list es)) (hl : ds.length + es.length ≤ 100000) (q : G.nx (ρ.set i (some (.own (.list (ds ++ es)))))) : gExt i a G ρ := ⟨⟨ds, h0⟩, h _ ⟨ds, es, rfl, h0, hl, q⟩⟩
theorem st_par2 {l : DTC} {u v : Cl} (h : EvC l ρ [u, v]) (q : G.nx ((ρ.set i (some u)).set j (some v))) : gPar2 i j l G ρ := h _ q
theorem st_par3 {l : DTC} {u v w : Cl} {k : Nat} (h : EvC l ρ [u, v, w]) (q : G.nx (((ρ.set i (some u)).set j (some v)).set k (some w))) : gPar3 i j k l G ρ := h _ q
theorem st_upd {kvs mo : List (List Int × D)} (h0 : lk ρ i = some (.own (dicI kvs))) (h : Ev a ρ (dicI mo)) (hh : kvs ≠ [] ∨ (mo.map fun p => hashT p.1).Nodup) (hl : kvs.length + mo.length ≤ 100000) (q : G.nx (ρ.set i (some (.own (dicI (allD kvs mo)))))) : gUpdX i a G ρ :=
  ⟨⟨kvs, h0⟩, h _ ⟨kvs, mo, rfl, h0, hh, hl, q⟩⟩
theorem st_put {kvs : List (List Int × D)} {ks : List Int} {b : DTE} (h : Ev a ρ d) (h0 : lk ρ i = some (.own (dicI kvs))) (hk : Ev b ρ (tK ks)) (hl : kvs.length < 100000) (q : G.nx (ρ.set i (some (.own (dicI (putD kvs ks d)))))) : gAsg a (gdSubX i b) G ρ :=
  h _ ⟨⟨kvs, h0⟩, hk _ ⟨ks, kvs, rfl, h0, hl, q⟩⟩
theorem st_sub {k : Nat} {b : DTE} (h : Ev a ρ d) (h0 : lk ρ i = some (.own (.list ds))) (hk : Ev b ρ (.int m)) (hx : ixN ds.length m = some k) (q : G.nx (ρ.set i (some (.own (.list (ds.set k d)))))) : gAsg a (gdSub i b) G ρ :=
  h _ ⟨⟨ds, h0⟩, hk _ ⟨m, k, ds, rfl, h0, hx, q⟩⟩
theorem st_while {c : DTT} (J : Nat → Rho → Prop) (m0 : Nat) (h0 : J m0 ρ) (hs : ∀ m ρ2, J m ρ2 → ∃ b, EvT c ρ2 b ∧ (b = true → T { nx := fun ρ' => ∃ m', m' < m ∧ J m' ρ', rt := G.rt, ct := fun ρ' => ∃ m', m' < m ∧ J m' ρ', bk := G.nx } ρ2) ∧ (b = false → G.nx ρ2)) : gWhile c T G ρ :=
  ⟨J, ⟨m0, h0⟩, fun m ρ2 h => by
    obtain ⟨b, h1, h2, h3⟩ := hs m ρ2 h
    refine h1 _ ?_
    cases b
    · exact h3 rfl
    · exact h2 rfl⟩
theorem st_for {α : Type} {gi : DTI} {gd : DTG} (xs : List α) (enc : α → D) (J : Nat → Rho → Prop) (hi : EvI gi ρ (xs.map enc)) (h0 : J 0 ρ)
    (hs : ∀ i x ρ2, xs[i]? = some x → J i ρ2 → gd (enc x) ρ2 fun ρ3 => T { nx := J (i + 1), rt := G.rt, ct := J (i + 1), bk := G.nx } ρ3) (q : ∀ ρ2, J xs.length ρ2 → G.nx ρ2) : gFor gi gd T G ρ := forInv xs enc ρ J hi h0 hs q
end
end Gw
namespace Gw
open PySem PySem.Spec PyProof.Rows L2

/-! ## isinstance -/
def tyD : D → String
  | .none => "NoneType"
  | .bool _ => "bool"
  | .int _ => "int"
  | .str _ => "str"
  | .list _ => "list"
  | .tuple _ => "tuple"
  | .dict _ => "dict"
def isS (t s : String) : Bool := decide (s = t) || (decide (t = "int") && decide (s = "bool"))
def isT (t : String) (d : D) : Bool := isS t (tyD d)
abbrev IsTy (t : String) : Prop := t = "int" ∨ t = "bool" ∨ t = "tuple" ∨ t = "str"
theorem kit_isS {K : PySem.W.Frag} {t s : String} (ht : IsTy t) (hs : s = "NoneType" ∨ s = "bool" ∨ s = "int" ∨ s = "str" ∨ s = "list" ∨ s = "tuple" ∨ s = "dict") : PySem.W.kitOne K (.type s) (.type t) = some (isS t s) := by
  rcases ht with rfl | rfl | rfl | rfl <;> rcases hs with rfl | rfl | rfl | rfl | rfl | rfl | rfl <;> exact kit_ty (by decide +kernel)
theorem kit_isT {K : PySem.W.Frag} {t : String} (ht : IsTy t) (d : D) : PySem.W.kitOne K (.type (tyD d)) (.type t) = some (isT t d) := kit_isS ht (by cases d <;> simp [tyD])
section
variable {X : Cx} {pins : List (Addr × Obj)} {σ : VStore} {H : Hp} {s : Shared} {S : Vol} {v : V} {u : Value} {d : D}
theorem kitDT {a : Addr} {xs : KVs} {ep : Nat} (I : Inv X pins σ H s) (h : H a = some (dtO a xs ep)) : ∃ P : Heap → Prop, PySem.W.KitX X.K (.ref a) (.type "dict") P ∧ P s.heap ∧ Value.ref a ≠ .builtin "__main__.__loader__#opaque" := by
  obtain ⟨⟨h1, h2, o, es, ws, h3, h4, _⟩, _⟩ := I.hok a _ h
  exact ⟨_, PySem.W.kitx_dict, ⟨o, h3, h4.1⟩, fun z => nomatch z⟩
theorem kitD (I : Inv X pins σ H s) (r : Rq X.K S H v d) (rx : RelV v u) : ∃ P : Heap → Prop, PySem.W.KitX X.K u (.type (tyD d)) P ∧ P s.heap ∧ u ≠ .builtin "__main__.__loader__#opaque" := by
  rcases r with r | ⟨p, rfl, o⟩
  · cases r with
    | non => exact kit_of I rx (.base .non)
    | bl b => exact kit_of I rx (.base (.bl b))
    | int i => exact kit_of I rx (.base (.int i))
    | str x => exact kit_of I rx (.base (.str x))
    | lst e _ =>
      rcases e with ⟨e | ⟨o, e⟩, _⟩ | ⟨its, n, e, _⟩
      · exact kit_of I rx (.base (.lst e))
      · exact kit_of I rx (.base (.frz e))
      · exact kit_of I rx (.kList e rfl)
    | tup e _ =>
      rcases e with ⟨⟨o, e, _⟩, _⟩ | ⟨o, its, n, e, c, _⟩
      · exact kit_of I rx (.fTuple e)
      · exact kit_of I rx (.kTuple e c)
    | dK _ e _ _ => exact kit_of I rx (.base (.dK e))
    | dT e _ _ _ => cases rx; exact kitDT I e
  · cases o with
    | lst e _ => exact kit_of I rx (.base (.lst e))
    | dK _ e _ => exact kit_of I rx (.base (.dK e))
    | dT e _ _ => cases rx; exact kitDT I e
theorem call_isD {t : String} (ht : IsTy t) : CallR X (.builtin "isinstance") (fun xs H Q => ∃ (S : Vol) (v : V) (d : D), xs = [v, .ty t] ∧ Rq X.K S H v d ∧ Q (.bl (isT t d)) H) := by
  rintro pins s σ H xs us Q I r ⟨S, v, d, rfl, h, q⟩
  obtain ⟨u1, u2, rfl, r1, r2⟩ := vals2 r
  cases (show u2 = Value.type t from r2)
  obtain ⟨P, Z, p, hx⟩ := kitD I h r1
  exact PySem.W.kia_one Z I.kIn p (kit_isT ht d) hx fun tk => ⟨.bl _, H, I.tok tk, rfl, q⟩
def gIs (t : String) (g : DTE) : DTE := fun ρ Q => g ρ fun d ρ' => Q (.bool (isT t d)) ρ'
theorem disi (t : String) {tn : Str} {p p2 pos : Pos} {a : Expr} {g : DTE} (hg : Gl X "isinstance") (hm : X.mg "isinstance" = none) (hgt : Gl X tn) (hmt : X.mg tn = none) (ha : DQ X a g) (hb : bootBuiltins tn = some (.type t) := by decide +kernel) (ht : IsTy t := by decide) (hn : tn ≠ "__name__" := by decide) (hd : (tn == ("__debug__" : Str)) = false := by decide)
    (he : starEach [a, .Name tn p2] X.env = (false, eval a X.env) :: starEach [.Name tn p2] X.env := by rfl) (he2 : starEach [.Name tn p2] X.env = (false, eval (.Name tn p2) X.env) :: starEach [] X.env := by rfl) (hpl : (backTo pos (starEach [.Name tn p2] X.env)).any (·.1) = false := by rfl) :
    DE X (.Call (.Name "isinstance" p) [a, .Name tn p2] [] pos) (gIs t g) := by
  obtain ⟨te, q, s⟩ := ha.ex
  refine ⟨_, pe_callB (call_isD ht) hg hm PyProof.Rows.boot_isinstance (pa_cons q (pa_cons (pe_bltn (v := .ty t) hgt hmt hb rfl hn hd) pa_nil he2) he) (by decide) (by decide) he hpl, fun C S σ H ρ Q k R q f => s C S σ H ρ _ _ R q fun v H1 d ρ1 f1 R1 r1 h => ?_⟩
  exact ⟨S, v, d, rfl, r1, f _ H1 _ ρ1 f1 R1 (.bl _) h⟩
@[simp] theorem gIs_s {t : String} {g : DTE} {ρ : Rho} {Q : D → Rho → Prop} : gIs t g ρ Q = g ρ fun d ρ' => Q (.bool (isT t d)) ρ' := rfl
theorem ev_is {t : String} {g : DTE} {ρ : Rho} (h : Ev g ρ d) : Ev (gIs t g) ρ (.bool (isT t d)) := fun Q q => h _ q

/-! ## all(list) -/
def allU : DU := fun d Q => ∃ bs : List Bool, d = .list (bs.map PyData.bool) ∧ Q (.bool (bs.all id))
theorem cAll (hc : X.calm = true) : CallU X (.builtin "all") allU := by
  refine ⟨_, cr_all hc, fun S H x d Q k n hx ⟨bs, e, q⟩ hk => ?_⟩
  subst e
  obtain ⟨p, xs, rfl, h, r⟩ := hx.sql
  have := r.bools
  subst this
  exact ⟨p, bs, rfl, h, hk _ H _ (.refl H) (.bl _) q⟩
theorem u_all {bs : List Bool} : Op1 allU (.list (bs.map PyData.bool)) (.bool (bs.all id)) := fun P q => ⟨bs, rfl, q⟩
end
/-! ## defs that call themselves -/
section
variable {P : Program} {wo : World} {K : PySem.W.Frag} {mg : Str → Option Value} {base : Heap} {x : Str} {ps : List Str} {k : Nat} {st : Stmt} {sp : Spec}
/-- what asks nothing of a def holds of it -/
theorem calZ (d : DefAt K mg x st ps) (h : ∀ ds Q, ¬ sp.w ds Q) : CalG P wo K mg base k x ps (spP K sp) :=
  let ⟨f, fd, F, hm, hB⟩ := d.ex
  ⟨f, fd, ⟨fun vs H Q E ⟨_, ds, _, _, w⟩ => (h ds _ w).elim, fun A outer s H args us vs Q E hr he hb hv ⟨_, ds, _, _, w⟩ => (h ds _ w).elim⟩, hm, F.kp, hB, let ⟨_, _, _, _, _, _, _, _, _, _, l, _⟩ := F.ex; ⟨_, _, _, l⟩⟩
theorem calZS (d : DefAt K mg x st ps) (h : ∀ ds Q, ¬ sp.w ds Q) : CalG P wo K mg base k x ps (spS K sp) :=
  let ⟨f, fd, F, hm, hB⟩ := d.ex
  ⟨f, fd, ⟨fun vs H Q E ⟨_, _, _, _, ds, _, _, _, _, _, _, _, w⟩ => (h ds _ w).elim, fun A outer s H args us vs Q E hr he hb hv ⟨_, _, _, _, ds, _, _, _, _, _, _, _, w⟩ => (h ds _ w).elim⟩, hm, F.kp, hB, let ⟨_, _, _, _, _, _, _, _, _, _, l, _⟩ := F.ex; ⟨_, _, _, l⟩⟩
end
/-! ## a tuple of texts of the module -/
theorem rpStrs {K : PySem.W.Frag} {S : Vol} {H : Hp} : ∀ ss : List Str, RpA K S H (ss.map V.str) (ss.map PyData.str)
  | [] => .nil
  | x :: r => .cons (.str x) (rpStrs r)
theorem dglobS {X : Cx} {x : Str} {ss : List Str} {pos : Pos} (hg : Gl X x) (hm : ∃ a, X.mg x = some (.ref a) ∧ KTup X.K a (ss.map V.str)) (hd : (x == ("__debug__" : Str)) = false := by decide) : DE X (.Name x pos) (gC (.tuple (ss.map .str))) :=
  let ⟨a, h1, h2⟩ := hm
  ⟨_, pe_glob (v := .ref a) hg h1 rfl hd, simC fun _ _ => .tup (.inr h2) (rpStrs ss)⟩
end Gw
namespace Gw
open PySem PySem.Spec PyProof.Rows L2

/-! ## data that may hold empty dicts: what may be shown -/
mutual
def okE (b : Nat) : D → Bool
  | .none => true
  | .bool _ => true
  | .int i => decide (i.natAbs ≤ b)
  | .str x => PyData.strOk x
  | .list xs => decide (xs.length ≤ b) && okEA b xs
  | .tuple xs => decide (xs.length ≤ b) && okEA b xs
  | .dict kvs => kvs.isEmpty
def okEA (b : Nat) : List D → Bool
  | [] => true
  | x :: xs => okE b x && okEA b xs
end
theorem okEA_all {b : Nat} : ∀ ds : List D, okEA b ds = true ↔ ∀ d ∈ ds, okE b d = true
  | [] => by simp [okEA]
  | x :: xs => by simp [okEA, okEA_all xs]
structure OkE (b n k : Nat) (d : D) : Prop where
  ok : okE b d = true
  w : d.weight ≤ n
  dp : d.depth ≤ k
section
variable {b : Nat}
theorem short_int {i : Int} (hb : b < 10 ^ 12) (h : i.natAbs ≤ b) : (PyData.shown (.int i)).length ≤ 13 ∧ i.natAbs.log2 < 1920 := by
  refine ⟨PyData.shown_int_le (Nat.lt_of_le_of_lt h hb), ?_⟩
  have h1 : i.natAbs < 2 ^ 40 := Nat.lt_of_le_of_lt h (Nat.lt_trans hb (by decide))
  by_cases h0 : i.natAbs = 0
  · rw [h0]; decide
  · have := (Nat.log2_lt h0).mpr h1
    omega
mutual
theorem okE_leaves (hb : b < 10 ^ 12) : ∀ d : D, okE b d = true → d.leavesShort 13 = true
  | .none, _ => rfl
  | .bool _, _ => rfl
  | .int i, h => by
    simp only [okE, decide_eq_true_eq] at h
    simp only [PyData.leavesShort, decide_eq_true_eq]
    exact (short_int hb h).1
  | .str x, h => PyData.leavesShort_of_canLay0 13 (.str x) h rfl
  | .list xs, h => by simp only [PyData.leavesShort]; exact okEA_leaves hb xs (by simp only [okE, Bool.and_eq_true] at h; exact h.2)
  | .tuple xs, h => by simp only [PyData.leavesShort]; exact okEA_leaves hb xs (by simp only [okE, Bool.and_eq_true] at h; exact h.2)
  | .dict kvs, h => by
    cases kvs with
    | nil => rfl
    | cons a r => simp [okE] at h
theorem okEA_leaves (hb : b < 10 ^ 12) : ∀ ds : List D, okEA b ds = true → PyData.leavesShortAll 13 ds = true
  | [], _ => rfl
  | d :: ds, h => by
    simp only [okEA, Bool.and_eq_true] at h
    simp only [PyData.leavesShortAll, Bool.and_eq_true]
    exact ⟨okE_leaves hb d h.1, okEA_leaves hb ds h.2⟩
end
mutual
theorem okE_shows (hb : b < 10 ^ 12) : ∀ d : D, okE b d = true → d.showable = true
  | .none, _ => rfl
  | .bool _, _ => rfl
  | .int i, h => by
    simp only [okE, decide_eq_true_eq] at h
    simp only [PyData.showable, decide_eq_true_eq]
    exact (short_int hb h).2
  | .str x, h => rfl
  | .list xs, h => by simp only [PyData.showable]; exact okEA_shows hb xs (by simp only [okE, Bool.and_eq_true] at h; exact h.2)
  | .tuple xs, h => by simp only [PyData.showable]; exact okEA_shows hb xs (by simp only [okE, Bool.and_eq_true] at h; exact h.2)
  | .dict kvs, h => by
    cases kvs with
    | nil => rfl
    | cons a r => simp [okE] at h
theorem okEA_shows (hb : b < 10 ^ 12) : ∀ ds : List D, okEA b ds = true → PyData.showableAll ds = true
  | [], _ => rfl
  | d :: ds, h => by
    simp only [okEA, Bool.and_eq_true] at h
    simp only [PyData.showableAll, Bool.and_eq_true]
    exact ⟨okE_shows hb d h.1, okEA_shows hb ds h.2⟩
end
theorem OkE.fits {n k : Nat} {d : D} (h : OkE b n k d) (hb : b < 10 ^ 12) (hn : n ≤ 2 ^ 20) : d.shown.length ≤ sizeLine :=
  PyData.shown_fits (B := 13) (by decide) (by decide) (okE_leaves hb d h.ok) (Nat.le_trans h.w hn)
end
/-! ### the objects that are read -/
section
variable {X : Cx} {pins : List (Addr × Obj)} {σ : VStore} {H : Hp} {s : Shared} {S : Vol} {b : Nat}
def SM (base : Heap) : Prop := ∃ m, base.Ns sysModules m
theorem smH (I : Inv X pins σ H s) (hsm : SM X.base) : H sysModules = none ∧ ∃ o es ep, s.heap.get? sysModules = some o ∧ o.data = .dict es ep := by
  obtain ⟨m, o, es, ep, e, d, _⟩ := hsm
  have := I.bs _ _ e
  exact ⟨this.2, o, es, ep, this.1, d⟩
theorem lst_nsm (I : Inv X pins σ H s) (hsm : SM X.base) {a : Addr} {xs : List V} (h : Lx X.K H a xs) : a ≠ sysModules := by
  rintro rfl
  obtain ⟨_, its, n, _, _, e⟩ := lxAt I h
  obtain ⟨_, o, es, ep, e', d⟩ := smH I hsm
  rw [e] at e'
  cases e'
  cases d
theorem RpA.nil_iff {K : PySem.W.Frag} {xs : List V} {ds : List D} (r : RpA K S H xs ds) (h : ds = []) : xs = [] := by subst h; cases r; rfl
mutual
theorem readsE (I : Inv X pins σ H s) (hsm : SM X.base) : ∀ {d : D} {v : V} {u : Value}, Rp X.K S H v d → okE b d = true → RelV v u → ∃ as, Reads s.heap u d as ∧ sysModules ∉ as
  | _, _, _, .non, _, rx => by cases rx; exact ⟨_, .none, by simp⟩
  | _, _, _, .bl b, _, rx => by cases rx; exact ⟨_, .bool b, by simp⟩
  | _, _, _, .int i, _, rx => by obtain ⟨t, rfl⟩ := rx; exact ⟨_, .int i t, by simp⟩
  | _, _, _, .str x, _, rx => by obtain ⟨t, rfl⟩ := rx; exact ⟨_, .str x t, by simp⟩
  | _, _, _, .lst h r, c, rx => by
    cases rx
    have hx := h.lx
    obtain ⟨_, its, n, rv, _, e⟩ := lxAt I hx
    obtain ⟨as, ra, na⟩ := readsEA I hsm r (by simp only [okE, Bool.and_eq_true] at c; exact c.2) rv
    exact ⟨_, .list e rfl rfl ra, by
      rw [List.mem_cons, not_or]
      exact ⟨fun z => lst_nsm I hsm hx z.symm, na⟩⟩
  | _, _, _, .tup h r, c, rx => by
    cases rx
    obtain ⟨its, rv, pl, _⟩ := I.tuple h.sq
    obtain ⟨o, ho, hc, n, hd⟩ := pl
    obtain ⟨as, ra, na⟩ := readsEA I hsm r (by simp only [okE, Bool.and_eq_true] at c; exact c.2) rv
    exact ⟨_, .tuple ho hc hd ra, na⟩
  | _, _, _, .dK (kk := kk) (ds := ds) e h n r, c, rx => by
    have hl := r.len
    exfalso
    cases kk with
    | nil => exact e rfl
    | cons p q =>
      cases ds with
      | nil => simp at hl
      | cons d t => simp [okE] at c
  | _, _, _, .dT (kk := kk) (ds := ds) h n q r, c, rx => by
    cases rx
    have hl := r.len
    have e1 : kk = [] := by
      cases kk with
      | nil => rfl
      | cons p q =>
        cases ds with
        | nil => simp at hl
        | cons d t => simp [okE] at c
    subst e1
    cases r
    obtain ⟨h1, h2, o, es, ws, h3, h4, h5, h6, h7, _⟩ := (I.hok _ _ h).1
    cases h6
    have h8 : es.toList = [] := h7
    exact ⟨_, .dict (as := []) (bs := []) h3 h4.1 h5 (by rw [h8]; exact .nil) (by rw [h8]; exact .nil), by
      simp only [List.append_nil, List.mem_singleton]
      intro z
      rw [← z] at h1
      simp at h1⟩
theorem readsEA (I : Inv X pins σ H s) (hsm : SM X.base) : ∀ {ds : List D} {vs : List V} {us : List Value}, RpA X.K S H vs ds → okEA b ds = true → Vals vs us → ∃ as, ReadsAll s.heap us ds as ∧ sysModules ∉ as
  | _, _, _, .nil, _, rx => by cases rx; exact ⟨_, .nil, by simp⟩
  | _, _, _, .cons r t, c, rx => by
    cases rx with
    | cons r1 t1 =>
      simp only [okEA, Bool.and_eq_true] at c
      obtain ⟨as, h1, n1⟩ := readsE I hsm r c.1 r1
      obtain ⟨bs, h2, n2⟩ := readsEA I hsm t c.2 t1
      exact ⟨_, .cons h1 h2, by rw [List.mem_append, not_or]; exact ⟨n1, n2⟩⟩
end
theorem readsEQ (I : Inv X pins σ H s) (hsm : SM X.base) {d : D} {v : V} {u : Value} (r : Rq X.K S H v d) (c : okE b d = true) (rx : RelV v u) : ∃ as, Reads s.heap u d as ∧ sysModules ∉ as := by
  rcases r with r | ⟨p, rfl, o⟩
  · exact readsE I hsm r c rx
  · cases o with
    | lst e r =>
      cases rx
      have hx : Lx X.K H p _ := .inl (.inl e)
      obtain ⟨_, its, n, rv, _, e⟩ := lxAt I hx
      obtain ⟨as, ra, na⟩ := readsEA I hsm r (by simp only [okE, Bool.and_eq_true] at c; exact c.2) rv
      exact ⟨_, .list e rfl rfl ra, by
        rw [List.mem_cons, not_or]
        exact ⟨fun z => lst_nsm I hsm hx z.symm, na⟩⟩
    | dK n e r => exact readsE (S := fun _ => False) I hsm (.dK n e id (r.anti fun _ => False.elim)) c rx
    | dT e q r => exact readsE (S := fun _ => False) I hsm (.dT e id (q.mv (fun _ _ e _ => e) fun _ => False.elim) (r.anti fun _ => False.elim)) c rx
/-- repr -/
def reprEU : DU := fun d Q => ((∃ n k, OkR n k d ∧ n ≤ 2 ^ 20 ∧ k ≤ 60) ∨ (∃ b n k, OkE b n k d ∧ b < 10 ^ 12 ∧ n ≤ 2 ^ 20 ∧ k ≤ 60)) ∧ Q (.str d.shown)
theorem call_reprDE {k : Nat} (hr : RoomG k X.A) (hsm : SM X.base) : CallR X (.builtin "repr") (fun xs H Q => ∃ v d S b n k, xs = [v] ∧ Rq X.K S H v d ∧ OkE b n k d ∧ b < 10 ^ 12 ∧ n ≤ 2 ^ 20 ∧ k ≤ 60 ∧ Q (.str d.shown) H) := by
  intro pins s σ H xs us Q I r h
  obtain ⟨v, d, S, b, n, k', rfl, hd, ok, hb, hn, hk, q⟩ := h
  cases r with
  | cons rx rt =>
  cases rt
  have hf := ok.fits hb hn
  have hw := okE_shows hb d ok.ok
  obtain ⟨as, rd, na⟩ := readsEQ I hsm hd ok.ok rx
  have hu := hr.room.units
  have hdp := ok.dp
  cases rd with
  | none => exact PySem.P.repr_of_none ⟨.str _, H, I.tok _, ⟨_, rfl⟩, q⟩
  | bool b => exact PySem.P.repr_of_bool ⟨.str _, H, I.tok _, ⟨_, rfl⟩, q⟩
  | int i t => exact PySem.P.repr_of_int (by simpa [PyData.showable] using hw) ⟨.str _, H, I.tok _, ⟨_, rfl⟩, q⟩
  | str z t => exact PySem.P.repr_of_str ⟨.str _, H, I.tok _, ⟨_, rfl⟩, q⟩ hf
  | list e1 e2 e3 e4 => exact repr_of_reads' (.list e1 e2 e3 e4) hw (fun _ => na) hr.gd (by omega) (fun _ _ e => e) (fun h' u tk hk => ⟨.str _, H, I.kept hk, ⟨_, rfl⟩, q⟩) hf
  | tuple e1 e2 e3 e4 => exact repr_of_reads' (.tuple e1 e2 e3 e4) hw (fun _ => na) hr.gd (by omega) (fun _ _ e => e) (fun h' u tk hk => ⟨.str _, H, I.kept hk, ⟨_, rfl⟩, q⟩) hf
  | dict e1 e2 e3 e4 e5 => exact repr_of_reads' (.dict e1 e2 e3 e4 e5) hw (fun _ => na) hr.gd (by omega) (fun _ _ e => e) (fun h' u tk hk => ⟨.str _, H, I.kept hk, ⟨_, rfl⟩, q⟩) hf
theorem creprE {k : Nat} (hr : RoomG k X.A) (hsm : SM X.base) : CallU X (.builtin "repr") reprEU := by
  refine ⟨_, CallR.orr (call_reprD hr) (call_reprDE hr hsm), fun S H x d Q k n hx q hk => ?_⟩
  obtain ⟨⟨m, k', ok, h1, h2⟩ | ⟨b, m, k', ok, h0, h1, h2⟩, q⟩ := q
  · exact .inl ⟨x, d, m, k', rfl, hx.dp ok.lay, ok, h1, h2, hk _ H _ (.refl H) (.str _) q⟩
  · exact .inr ⟨x, d, S, b, m, k', rfl, hx, ok, h0, h1, h2, hk _ H _ (.refl H) (.str _) q⟩
theorem u_reprR {x : D} (h : ∃ n k, OkR n k x ∧ n ≤ 2 ^ 20 ∧ k ≤ 60) : Op1 reprEU x (.str x.shown) := fun P q => ⟨.inl h, q⟩
theorem u_reprE {x : D} (h : ∃ b n k, OkE b n k x ∧ b < 10 ^ 12 ∧ n ≤ 2 ^ 20 ∧ k ≤ 60) : Op1 reprEU x (.str x.shown) := fun P q => ⟨.inr h, q⟩
/-! ### t == () -/
def eq0D : DOp := fun x y Q => ∃ ds, x = .tuple ds ∧ y = .tuple [] ∧ Q (.bool ds.isEmpty)
theorem op_eq0 (hu : X.A.units < cLine) : OpR X (compareOp .Eq) (fun x y H Q => ∃ a b xs, x = .ref a ∧ y = .ref b ∧ SqT X.K H a xs ∧ SqT X.K H b [] ∧ Q (.bl xs.isEmpty) H) := by
  rintro pins s σ H x y v u Q I rx ry ⟨a, b, xs, rfl, rfl, h1, h2, q⟩
  cases rx
  cases ry
  obtain ⟨is, r1, p1, _⟩ := I.tuple h1
  obtain ⟨js, r2, p2, _⟩ := I.tuple h2
  cases r2
  refine SeqAt.eq_tupleAt (e := fun _ => true) p1 p2 hu (fun j _ hj => absurd hj (by simp)) ⟨.bl xs.isEmpty, H, I, ?_, q⟩
  have hl := r1.length
  cases xs with
  | nil => cases is with
    | nil => rfl
    | cons a r => simp at hl
  | cons z zs => cases is with
    | nil => simp at hl
    | cons a r => rfl
theorem oeq0 (hu : X.A.units + 64 < cLine) : OpD X (compareOp .Eq) eq0D := ⟨_, op_eq0 (by omega), fun S H x y dx dy Q k n hx hy q hk => by
  obtain ⟨ds, rfl, rfl, q⟩ := q
  obtain ⟨a, xs, rfl, h1, r1⟩ := hx.sqt
  obtain ⟨b, ys, rfl, h2, r2⟩ := hy.sqt
  cases r2
  refine ⟨a, b, xs, rfl, rfl, h1, h2, ?_⟩
  have e : xs.isEmpty = ds.isEmpty := by cases r1 <;> rfl
  rw [e]
  exact hk _ H _ (.refl H) (.bl _) q⟩
theorem op_eq0T {ds : List D} : Op2 eq0D (.tuple ds) (.tuple []) (.bool ds.isEmpty) := fun P q => ⟨ds, rfl, rfl, q⟩
end
/-! ### range(i, j, -1) -/
def dwnD (lo : Int) (n : Nat) : List D := (List.range n).map fun (i : Nat) => .int (lo - i)
theorem dwnD_len (lo : Int) (n : Nat) : (dwnD lo n).length = n := by simp [dwnD]
theorem dwnD_get {lo : Int} {n i : Nat} {d : D} (h : (dwnD lo n)[i]? = some d) : i < n ∧ d = .int (lo - i) := by
  unfold dwnD at h
  rw [List.getElem?_map] at h
  by_cases hi : i < n
  · rw [List.getElem?_range hi] at h
    exact ⟨hi, by simpa using h.symm⟩
  · rw [List.getElem?_eq_none (by simpa using hi)] at h; cases h
section
variable {X : Cx} {K : PySem.W.Frag}
theorem wk_dwn {lo : Int} {n : Nat} : Wk K (Itc lo (-1) n) (dwnD lo n) [] where
  go := fun S H i _ hi => by rw [dwnD_len] at hi; exact hi
  yl := fun S H i x H' d _ _ hd y => by
    obtain ⟨rfl, rfl⟩ := y
    obtain ⟨_, rfl⟩ := dwnD_get hd
    rw [show lo + (i : Nat) * (-1) = lo - i by omega]
    exact ⟨.refl _, .int _⟩
  st := fun S H _ => by rw [dwnD_len]; exact Nat.le_refl _
variable {tg a b c : Expr} {ga gb gc : DTE} {p pos : Pos}
def giR3 (g g2 g3 : DTE) : DTI := fun ρ Q => g ρ fun d ρ1 => g2 ρ1 fun d2 ρ2 => g3 ρ2 fun d3 ρ' => ∃ i j, d = .int i ∧ d2 = .int j ∧ d3 = .int (-1) ∧ (j ≤ 100000 ∧ -100000 ≤ j ∧ i ≤ 100000 ∧ -100000 ≤ i) ∧ Q (dwnD i (i - j).toNat) ρ'
theorem dir3 (hg : Gl X "range") (hm : X.mg "range" = none) (h : DE X a ga) (h2 : DE X b gb) (h3 : DE X c gc) (he : starEach [a, b, c] X.env = (false, eval a X.env) :: starEach [b, c] X.env := by rfl) (he2 : starEach [b, c] X.env = (false, eval b X.env) :: starEach [c] X.env := by rfl)
    (he3 : starEach [c] X.env = (false, eval c X.env) :: starEach [] X.env := by rfl) (hpl : (backTo pos (starEach [b, c] X.env)).any (·.1) = false := by rfl) : DI X tg (.Call (.Name "range" p) [a, b, c] [] pos) (giR3 ga gb gc) := by
  obtain ⟨t, p, s⟩ := h.ex
  obtain ⟨t2, p2, s2⟩ := h2.ex
  obtain ⟨t3, p3, s3⟩ := h3.ex
  refine ⟨_, pi_range3 hg hm (pa_cons p (pa_cons p2 (pa_cons p3 pa_nil he3) he2) he) he hpl, fun C S σ H ρ Q R RS q f => s C S σ H ρ _ _ RS q fun v H1 d ρ1 f1 R1 r1 h => s2 C S σ H1 ρ1 _ _ R1 h fun v2 H2 d2 ρ2 f2 R2 r2 h => s3 C S σ H2 ρ2 _ _ R2 h fun v3 H3 d3 ρ3 f3 R3 r3 h => ?_⟩
  obtain ⟨i, j, rfl, rfl, rfl, hb, h⟩ := h
  cases r1
  cases r2
  cases r3
  exact ⟨i, j, -1, _, rfl, .neg (by omega) (by omega) (by omega) (by omega), f _ H3 _ ρ3 [] ((f1.trans f2).trans f3) R3 (fun q hq => by simp at hq) wk_dwn h⟩
end
theorem evi_r3 {a b c : DTE} {ρ : Rho} {m n : Int} (h : Ev a ρ (.int m)) (h2 : Ev b ρ (.int n)) (h3 : Ev c ρ (.int (-1))) (hn : n ≤ 100000 ∧ -100000 ≤ n ∧ m ≤ 100000 ∧ -100000 ≤ m) : EvI (giR3 a b c) ρ (dwnD m (m - n).toNat) := fun P q => h _ (h2 _ (h3 _ ⟨m, n, rfl, rfl, rfl, hn, q⟩))
end Gw
namespace Gw
open PySem PySem.Spec PyProof.Rows L2

/-! ## readings that answer something of a sort, and store nothing -/
def EvS (g : DTE) (ρ : Rho) (S : D → Prop) : Prop := ∀ Q : D → Rho → Prop, (∀ d, S d → Q d ρ) → g ρ Q
def EvSA (l : DTA) (ρ : Rho) (S : List D → Prop) : Prop := ∀ P : List D → Rho → Prop, (∀ ds, S ds → P ds ρ) → l ρ P
section
variable {ρ : Rho} {i j : Nat} {d x y : D} {g a b : DTE} {l : DTA} {S T U : D → Prop} {G : DEnds} {B : DTS}
theorem evs_of (h : Ev g ρ d) : EvS g ρ (· = d) := fun Q q => h _ (q d rfl)
theorem Ev.s (h : Ev g ρ d) (hd : S d) : EvS g ρ S := fun Q q => h _ (q d hd)
theorem EvS.imp (h : EvS g ρ S) (hs : ∀ d, S d → T d) : EvS g ρ T := fun Q q => h _ fun d hd => q d (hs d hd)
theorem EvS.one (h : EvS g ρ (· = d)) : Ev g ρ d := fun Q q => h _ fun d' e => by rw [e]; exact q
theorem evs_bin {f : DOp} {T : D → D → Prop} (ha : EvS a ρ S) (hb : ∀ x, S x → EvS b ρ (T x)) (hf : ∀ x y, S x → T x y → ∃ d, Op2 f x y d ∧ U d) : EvS (gBin f a b) ρ U := fun Q q =>
  ha _ fun x hx => hb x hx _ fun y hy => let ⟨d, h1, h2⟩ := hf x y hx hy; h1 _ (q d h2)
theorem evs_u {f : DU} (ha : EvS a ρ S) (hf : ∀ x, S x → ∃ d, Op1 f x d ∧ U d) : EvS (gU f a) ρ U := fun Q q => ha _ fun x hx => let ⟨d, h1, h2⟩ := hf x hx; h1 _ (q d h2)
theorem evsa_nil : EvSA gNil ρ (· = []) := fun P q => q _ rfl
theorem evsa_one (h : EvS a ρ S) : EvSA (gCons a gNil) ρ (fun ds => ∃ d, ds = [d] ∧ S d) := fun P q => h _ fun d hd => q _ ⟨d, rfl, hd⟩
theorem evsa_cons {SA TA : List D → Prop} (h : EvS a ρ S) (h2 : ∀ d, S d → EvSA l ρ SA) (hs : ∀ d ds, S d → SA ds → TA (d :: ds)) : EvSA (gCons a l) ρ TA := fun P q => h _ fun d hd => h2 d hd _ fun ds hds => q _ (hs d ds hd hds)
theorem evsa_of {ds : List D} (h : EvA l ρ ds) : EvSA l ρ (· = ds) := fun P q => h _ (q ds rfl)
theorem evs_tup {SA : List D → Prop} (h : EvSA l ρ SA) (hs : ∀ ds, SA ds → ds.length ≤ 100000 ∧ S (.tuple ds)) : EvS (gTup l) ρ S := fun Q q => h _ fun ds hd => ⟨(hs ds hd).1, q _ (hs ds hd).2⟩
theorem evs_lst {SA : List D → Prop} (h : EvSA l ρ SA) (hs : ∀ ds, SA ds → ds.length ≤ 100000 ∧ S (.list ds)) : EvS (gLst l) ρ S := fun Q q => h _ fun ds hd => ⟨(hs ds hd).1, q _ (hs ds hd).2⟩
theorem evs_callS {sp : Spec} {SA : List D → Prop} (h0 : lk ρ i = some .srcR) (h : EvSA l ρ SA) (hs : ∀ ds, SA ds → ∀ Q : D → Prop, (∀ d, S d → Q d) → sp.w ds Q) : EvS (gCallS sp i l) ρ S := fun Q q => ⟨h0, h _ fun ds hd => ⟨h0, hs ds hd _ fun d hd => q d hd⟩⟩
theorem evs_call {sp : Spec} {SA : List D → Prop} (h : EvSA l ρ SA) (hs : ∀ ds, SA ds → ∀ Q : D → Prop, (∀ d, S d → Q d) → sp.w ds Q) : EvS (gCall sp l) ρ S := fun Q q => h _ fun ds hd => hs ds hd _ fun d hd => q d hd
/-! statements -/
theorem sts_set (h : EvS a ρ S) (q : ∀ d, S d → G.nx (ρ.set i (some (.dat d)))) : gSet i a G ρ := h _ q
theorem sts_ret (h : EvS a ρ S) (q : ∀ d, S d → G.rt d ρ) : gRet a G ρ := h _ q
theorem sts_par2 (h : EvS a ρ S) (h2 : EvS b ρ T) (q : ∀ d e, S d → T e → G.nx ((ρ.set i (some (.dat d))).set j (some (.dat e)))) : gPar2 i j (gcDat a (gcDat b gcNil)) G ρ := h _ fun d hd => h2 _ fun e he => q d e hd he
theorem st_ifS {s : DTT} {T U : DTS} (h : EvS g ρ S) (hs : ∀ d, S d → ∃ b, d = .bool b ∧ (b = true → T G ρ) ∧ (b = false → U G ρ)) : gIfS (gTest g) T U G ρ := h _ fun d hd => by
  obtain ⟨b, rfl, h1, h2⟩ := hs d hd
  refine ⟨b, rfl, ?_⟩
  cases b
  · exact h2 rfl
  · exact h1 rfl
/-- one name, each answer of a sort -/
theorem evs_lcN {α : Type} {gi : DTI} {ge : DTE} {vs : List Nat} (xs : List α) (enc : α → D) (hi : EvI gi ρ (xs.map enc)) (he : ∀ x ∈ xs, EvS ge ((wipeR ρ vs).set i (some (.dat (enc x)))) S) (hl : xs.length ≤ 100000) (no : noOwn ρ vs = true := by rfl) (hv : i ∈ vs := by decide) :
    EvS (gLc gi (gdName i) gYes ge vs) ρ (fun d => ∃ ds, d = .list ds ∧ ds.length = xs.length ∧ ∀ y ∈ ds, S y) := fun Q q => by
  refine lcInv xs enc ρ (fun n acc ρ2 => n ≤ xs.length ∧ acc.length = n ∧ (∀ y ∈ acc, S y) ∧ ρ2 = wipeR ρ vs) hi no hl ⟨Nat.zero_le _, rfl, by simp, rfl⟩ (fun n x acc ρ2 hx hI => ?_) fun acc ρ2 hI => ?_
  · obtain ⟨h1, h2, h3, rfl⟩ := hI
    have hm := List.mem_of_getElem? hx
    have hlt := (List.getElem?_eq_some_iff.mp hx).1
    refine he x hm _ fun y hy => ⟨hlt, by simp [h2], fun z hz => ?_, by rw [wipeR_set hv, wipeR2]⟩
    rcases List.mem_append.mp hz with hz | hz
    · exact h3 z hz
    · rw [List.mem_singleton.mp hz]; exact hy
  · obtain ⟨h1, h2, h3, rfl⟩ := hI
    rw [merge_wipe]
    exact q _ ⟨acc, rfl, h2, h3⟩
end
/-! tests of what a thing is -/
@[simp] theorem isT_tuple (d : D) : isT "tuple" d = match d with | .tuple _ => true | _ => false := by cases d <;> simp [isT, isS, tyD]
@[simp] theorem isT_str (d : D) : isT "str" d = match d with | .str _ => true | _ => false := by cases d <;> simp [isT, isS, tyD]
@[simp] theorem isT_bool (d : D) : isT "bool" d = match d with | .bool _ => true | _ => false := by cases d <;> simp [isT, isS, tyD]
@[simp] theorem isT_int (d : D) : isT "int" d = match d with | .int _ => true | .bool _ => true | _ => false := by cases d <;> simp [isT, isS, tyD]
/-! x in a tuple of flat things -/
theorem op_inT {x : D} {ds : List D} (h1 : flatD x = true) (h2 : ds.all flatD = true) : Op2 inD x (.tuple ds) (.bool (ds.any fun z => PyData.eqv z x)) := fun P q => ⟨h1, h2, q⟩
theorem op_ninT {x : D} {ds : List D} (h1 : flatD x = true) (h2 : ds.all flatD = true) : Op2 ninD x (.tuple ds) (.bool (!ds.any fun z => PyData.eqv z x)) := fun P q => ⟨h1, h2, q⟩
theorem any_strs (s : Str) (ws : List Str) : ((ws.map PyData.str).any fun z => PyData.eqv z (.str s)) = decide (s ∈ ws) := by
  rw [List.any_map]
  by_cases h : s ∈ ws
  · rw [decide_eq_true h, List.any_eq_true]
    exact ⟨s, h, by simp [PyData.eqv]⟩
  · rw [decide_eq_false h, List.any_eq_false]
    intro x hx e
    simp [PyData.eqv] at e
    exact h (e ▸ hx)
theorem flat_strs (ws : List Str) : (ws.map PyData.str).all flatD = true := by simp [flatD]
theorem op_inS {s : Str} {ws : List Str} : Op2 inD (.str s) (.tuple (ws.map .str)) (.bool (decide (s ∈ ws))) := fun P q => op_inT rfl (flat_strs ws) P (by rw [any_strs]; exact q)
theorem op_ninS {s : Str} {ws : List Str} : Op2 ninD (.str s) (.tuple (ws.map .str)) (.bool (!decide (s ∈ ws))) := fun P q => op_ninT rfl (flat_strs ws) P (by rw [any_strs]; exact q)
end Gw
namespace Gw
open PySem PySem.Spec PyProof.Rows L2

/-! ## starred members of a display or a call -/
def gStar (g : DTE) (l : DTA) : DTA := fun ρ Q => g ρ fun d ρ1 => ∃ xs, (d = .tuple xs ∨ d = .list xs) ∧ l ρ1 fun ds ρ2 => Q (xs ++ ds) ρ2
section
variable {X : Cx} {a : Expr} {es : List Expr} {g : DTE} {l : DTA} {p : Pos}
theorem dastar (ha : DE X a g) (hr : DA X es l) (hs : starEach (.Starred a p :: es) X.env = (true, eval a X.env) :: starEach es X.env := by rfl) : DA X (.Starred a p :: es) (gStar g l) := by
  obtain ⟨_, p1, q1⟩ := ha.ex
  obtain ⟨_, p2, q2⟩ := hr.ex
  refine ⟨_, StX.pa_star p1 p2 hs, fun C S σ H ρ Q k R q f => q1 C S σ H ρ _ _ R q fun v H1 d ρ1 f1 R1 r1 h => ?_⟩
  obtain ⟨xs, hd, h⟩ := h
  rcases hd with rfl | rfl
  · cases r1 with
    | tup e r => exact ⟨_, _, rfl, .inl e.sq, q2 C S σ H1 ρ1 _ _ R1 h fun vs H2 ds ρ2 f2 R2 r2 h2 => f _ H2 _ ρ2 (f1.trans f2) R2 ((f2.rpa r).app r2) h2⟩
  · cases r1 with
    | lst e r => exact ⟨_, _, rfl, .inr e.sq, q2 C S σ H1 ρ1 _ _ R1 h fun vs H2 ds ρ2 f2 R2 r2 h2 => f _ H2 _ ρ2 (f1.trans f2) R2 ((f2.rpa r).app r2) h2⟩
end
section
variable {ρ : Rho} {x : D} {g : DTE} {l : DTA} {xs ds : List D}
theorem eva_starT (h : Ev g ρ (.tuple xs)) (h2 : EvA l ρ ds) : EvA (gStar g l) ρ (xs ++ ds) := fun P q => h _ ⟨xs, .inl rfl, h2 _ q⟩
theorem eva_starL (h : Ev g ρ (.list xs)) (h2 : EvA l ρ ds) : EvA (gStar g l) ρ (xs ++ ds) := fun P q => h _ ⟨xs, .inr rfl, h2 _ q⟩
end
end Gw
namespace Gw
open PySem PySem.Spec PyProof.Rows L2
/-! ## small facts -/
theorem atI_pos {ds : List D} {r : Int} (h0 : 0 ≤ r) (h1 : r < ds.length) : ∃ d, d ∈ ds ∧ atI ds r = some d := by
  have hn : r.toNat < ds.length := by omega
  refine ⟨ds[r.toNat], List.getElem_mem hn, ?_⟩
  have := atI_nat (xs := ds) (j := r.toNat) (v := ds[r.toNat]) (List.getElem?_eq_getElem hn)
  rwa [Int.toNat_of_nonneg h0] at this
theorem eraseIdx_perm {α : Type} : ∀ {l : List α} {i : Nat} {x : α}, l[i]? = some x → (x :: l.eraseIdx i).Perm l
  | [], _, _, h => by simp at h
  | a :: l, 0, x, h => by
    simp at h
    subst h
    exact .refl _
  | a :: l, i + 1, x, h => by
    have e := eraseIdx_perm (l := l) (i := i) (x := x) (by simpa using h)
    exact (List.Perm.swap a x _).trans (e.cons a)
def tupI (ns : List Int) : D := .tuple (ns.map .int)
def lstI (ns : List Int) : D := .list (ns.map .int)
/-- 0, 1, .. -/
def upTo (n : Nat) : List Int := (List.range n).map fun i : Nat => (i : Int)
theorem upTo_len (n : Nat) : (upTo n).length = n := by simp [upTo]
theorem rngD_upTo (n : Nat) : rngD 0 n = (upTo n).map .int := by
  rw [rngD_map, upTo, List.map_map]; rfl
/-- data that are ints in another order -/
theorem perm_ints {es : List D} {ns : List Int} (h : es.Perm (ns.map .int)) : ∃ ms : List Int, es = ms.map .int ∧ ms.Perm ns := by
  refine ⟨es.map fun d => match d with | .int i => i | _ => 0, ?_, ?_⟩
  · rw [List.map_map]
    conv => lhs; rw [← List.map_id es]
    refine List.map_congr_left fun d hd => ?_
    obtain ⟨i, _, rfl⟩ := List.mem_map.mp (h.mem_iff.mp hd)
    rfl
  · have := h.map fun d : D => match d with | .int i => i | _ => (0 : Int)
    rw [List.map_map] at this
    have e : ns.map ((fun d : D => match d with | .int i => i | _ => (0 : Int)) ∘ PyData.int) = ns := by
      conv => rhs; rw [← List.map_id ns]
      exact List.map_congr_left fun i _ => rfl
    rwa [e] at this
theorem ixN_nat {n k : Nat} (h : k < n) : ixN n (k : Int) = some k := by
  unfold ixN
  split <;> simp <;> omega
theorem swap_perm {α : Type} {l : List α} {i j : Nat} {x y : α} (hi : l[i]? = some x) (hj : l[j]? = some y) (hij : i ≠ j) : ((l.set i y).set j x).Perm l := by
  have li := (List.getElem?_eq_some_iff.mp hi).1
  have lj := (List.getElem?_eq_some_iff.mp hj).1
  classical
  rw [List.perm_iff_count]
  intro a
  rw [List.count_set (by simpa using lj), List.count_set li]
  have e1 : (l.set i y)[j]'(by simpa using lj) = y := by
    rw [List.getElem_set_ne hij]
    exact (List.getElem?_eq_some_iff.mp hj).2
  have e2 : l[i] = x := (List.getElem?_eq_some_iff.mp hi).2
  rw [e1, e2]
  have c1 : l[i] ∈ l := List.getElem_mem li
  have c2 : l[j] ∈ l := List.getElem_mem lj
  rw [e2] at c1
  rw [(List.getElem?_eq_some_iff.mp hj).2] at c2
  by_cases hx : x = a <;> by_cases hy : y = a <;> simp [hx, hy]
  · subst hx hy
    have := List.count_pos_iff.mpr c1
    omega
  · subst hx
    have := List.count_pos_iff.mpr c1
    omega
theorem upTo_rev {n : Nat} {fs : List Int} (h : fs.Perm (upTo n)) : fs.reverse.Perm (upTo n) := (List.reverse_perm _).trans h
theorem atI_int {ns : List Int} {k : Nat} (h : k < ns.length) : atI (ns.map PyData.int) (k : Int) = some (.int (ns.getD k 0)) := by
  refine atI_nat ?_
  rw [List.getElem?_map]
  simp [List.getD, h]
theorem cut_from {ds : List D} {k : Nat} : cutD ds (some ((k : Int) + 1)) none = ds.drop (k + 1) := by
  unfold cutD
  rw [HT.sIx_none, show ((k : Int) + 1) = ((k + 1 : Nat) : Int) by omega, HT.sIx_nat]
  by_cases h : k + 1 ≤ ds.length
  · rw [Nat.min_eq_left h]
    exact List.take_of_length_le (by rw [List.length_drop]; omega)
  · rw [List.drop_eq_nil_of_le (by omega), List.drop_eq_nil_of_le (by omega)]
    simp
theorem filter_some {α β : Type} (p : α → Bool) (f : α → β) (l : List α) : (l.filterMap fun x => if p x = true then some (f x) else none) = (l.filter p).map f := by
  induction l with
  | nil => rfl
  | cons x r ih => by_cases h : p x = true <;> simp [h, ih]
theorem rng_to {j : Int} {n : Nat} (h : j = n ∨ (j < 0 ∧ n = 0)) : rngD 0 j.toNat = (List.range n).map fun k : Nat => PyData.int k := by
  rw [show j.toNat = n by omega, rngD_map]
theorem drop_range {ns : List Int} {i : Nat} : (List.range (ns.length - i)).map (fun t => ns.getD (i + t) 0) = ns.drop i := by
  refine List.ext_getElem? fun t => ?_
  rw [List.getElem?_map, List.getElem?_drop]
  by_cases h : t < ns.length - i
  · simp [List.getElem?_range h, List.getD, show i + t < ns.length by omega]
  · rw [List.getElem?_eq_none (by simp; omega), List.getElem?_eq_none (by omega)]
    rfl
theorem map_erase {α β : Type} (f : α → β) : ∀ (l : List α) (i : Nat), (l.map f).eraseIdx i = (l.eraseIdx i).map f
  | [], _ => rfl
  | _ :: _, 0 => rfl
  | x :: r, i + 1 => by
    show f x :: (r.map f).eraseIdx i = _
    rw [map_erase f r i]
    rfl
theorem upTo_mem {n : Nat} {x : Int} : x ∈ upTo n ↔ 0 ≤ x ∧ x < n := by
  unfold upTo
  simp only [List.mem_map, List.mem_range]
  exact ⟨fun ⟨a, b, c⟩ => by omega, fun ⟨a, b⟩ => ⟨x.toNat, by omega, by omega⟩⟩
theorem cut_to {ds : List D} {k : Nat} : cutD ds none (some (k : Int)) = ds.take k := by
  unfold cutD
  rw [HT.sIx_none, HT.sIx_nat]
  by_cases h : k ≤ ds.length
  · rw [Nat.min_eq_left h]; rfl
  · rw [Nat.min_eq_right (by omega), List.take_of_length_le (l := ds) (by omega)]
    exact List.take_of_length_le (Nat.le_refl _)
theorem cut_from0 {ds : List D} {k : Nat} : cutD ds (some (k : Int)) none = ds.drop k := by
  unfold cutD
  rw [HT.sIx_none, HT.sIx_nat]
  by_cases h : k ≤ ds.length
  · rw [Nat.min_eq_left h]
    exact List.take_of_length_le (by rw [List.length_drop]; exact Nat.le_refl _)
  · rw [List.drop_eq_nil_of_le (by omega), List.drop_eq_nil_of_le (by omega)]
    simp

local macro_rules | `(tactic| walk_at "ev") => `(tactic| first
  | exact ev_var rfl | exact ev_own rfl | exact ev_c | apply ev_bin | apply ev_binO rfl | apply ev_u | apply ev_a | apply ev_tup | apply ev_lst | apply ev_neg | apply ev_sl | exact evo_no | apply evo_some | apply ev_rev | apply ev_revT
  | exact ev_dic0 | apply ev_disp | apply ev_lrg | apply ev_trg | apply evr_1 | apply evr_2 | apply ev_notV | apply evt_test | apply evt_not | exact evt_yes | exact eva_nil | apply eva_cons | exact evc_nil | apply evc_dat | apply evc_own
  | apply evi_seq | apply evi_enum | apply evi_r1 | apply evi_r2 | apply evi_dic | exact evg_name | apply evg_tup | exact evgs_nil | apply evgs_cons
  | exact Items.l | exact Items.t | exact Cut.l | exact Cut.t
  | exact op_add | apply op_addT | apply op_addL | apply op_cat | exact op_sub | apply op_rep | apply op_mul | apply op_fdiv | apply op_mod | exact op_lt | exact op_le | exact op_gt | exact op_ge | exact op_eqI | exact op_neI | exact op_eqS | exact op_neS
  | apply op_ixL | apply op_ixT | exact op2_inX | exact op2_ninX | exact u_lenLm | exact u_lenTm | exact u_lenL | exact u_lenT | exact u_lenX | exact u_lstX | apply u_dict | exact u_tupL | exact u_tupT | exact u_lstL | exact u_lstT | exact u_int | exact u_intB | exact u_abs
  | exact u_sumL | exact u_sumT | apply u_repr | exact l_max | exact l_min)
local macro_rules | `(tactic| walk_at "evs") => `(tactic| repeat' walk_at "ev")
local macro_rules | `(tactic| walk_at "nx") => `(tactic| simp only [List.set_cons_succ, List.set_cons_zero])

def T1__law_source : DTS := (gSet 1 (gC (.int 11)))
def T2__law_source : DTS := (gFor (giSeq (gVar 0)) (gdName 2) (gSet 1 (gBin modD (gU intU (gBin addD (gBin addD (gBin mulI (gVar 1) (gC (.int 69069))) (gBin mulI (gVar 2) (gC (.int 31)))) (gC (.int 5)))) (gC (.int 2147483629)))))
def g0__law_source : DTE := (gRev (gLc (giSeq (gVar 0)) (gdName 2) gYes (gU absU (gVar 2)) [2]))
abbrev N__law_source : List Str := ["script", "mixed", "cell"]
theorem giSeq_l {g : DTE} {ρ ρ1 : Rho} {P : List D → Rho → Prop} {ds : List D} (h : ∀ R : D → Rho → Prop, R (.list ds) ρ1 → g ρ R) (q : P ds ρ1) : giSeq g ρ P := h _ q
theorem giSeq_t {g : DTE} {ρ ρ1 : Rho} {P : List D → Rho → Prop} {ds : List D} (h : ∀ R : D → Rho → Prop, R (.tuple ds) ρ1 → g ρ R) (q : P ds ρ1) : giSeq g ρ P := h _ q
theorem w__law_source (ns : List Int) (hl : ns.length ≤ 63) : gNew T1__law_source T2__law_source g0__law_source 1 (startR N__law_source [.dat (.list (ns.map .int))]) := by
  have e0 : startR N__law_source [.dat (.list (ns.map .int))] = [some (.dat (.list (ns.map .int))), none, none] := rfl
  rw [e0]
  unfold gNew T1__law_source
  simp only [gSeq_s, gSet_s, gC_s]
  unfold T2__law_source
  refine forInv ns .int [some (.dat (.list (ns.map .int))), some (.dat (.int 11)), none] (fun _ ρ => ∃ m o, ρ = [some (.dat (.list (ns.map .int))), some (.dat (.int m)), o] ∧ noOwn [o] [0] = true ∧ 0 ≤ m ∧ m < 2 ^ 31) (fun P h => ?_) ⟨11, none, rfl, rfl, by decide, by decide⟩ (fun i x ρ2 hx hJ => ?_) (fun ρ2 hJ => ?_)
  · exact ⟨_, rfl, h⟩
  · obtain ⟨m, o, rfl, mo, m1, m2⟩ := hJ
    simp
    exact ⟨_, _, ⟨rfl, rfl⟩, rfl, by omega, by omega⟩
  · obtain ⟨m, o, rfl, mo, m1, m2⟩ := hJ
    unfold g0__law_source
    simp only [gRev_s]
    refine lcAll ns .int (fun x => PyData.int (if x < 0 then -x else x)) [some (.dat (.list (ns.map .int))), some (.dat (.int m)), o] (fun P h => ?_) ?_ (by omega) (fun x hx P hP => ?_) ?_
    · exact ⟨_, rfl, h⟩
    · exact mo
    · simp [wipeR] at hP ⊢
      exact hP
    · simp [wipeR, mergeR]
      refine ⟨ns.reverse.map fun x => if x < 0 then -x else x, by simp [List.map_reverse, Function.comp_def], fun x hx => ?_, by simpa using hl, m1, m2⟩
      obtain ⟨y, _, rfl⟩ := List.mem_map.mp hx
      split <;> omega

abbrev sp__law_pick : Spec where
  n := 1
  w := fun as Q => ∃ m : Int, as = [.int m] ∧ m < 2 ^ 30 ∧ ∀ r : Int, 0 ≤ r → r < max 1 m → Q (.int r)
  len := fun as Q ⟨m, h, _⟩ => by rw [h]; rfl
  mono := fun as Q Q' ⟨m, h, h1, h2⟩ f => ⟨m, h, h1, fun r a b => f _ (h2 r a b)⟩
def T__law_pickb2_1 : DTS := (gRet (gBin modD (gU intU (gVar 2)) (gA max2A (gCons (gC (.int 1)) (gCons (gVar 1) gNil)))))
def T__law_pickb2 : DTS := gSeq (gSrcPut 0 (fun v => 0 ≤ v) (gBin fdivD (gVar 2) (gA max2A (gCons (gC (.int 1)) (gCons (gVar 1) gNil))))) T__law_pickb2_1
def T__law_pick_7 : DTS := (gRet (gBin modD (gU intU (gBin fdivD (gVar 3) (gC (.int 16)))) (gVar 1)))
def T__law_pick_6 : DTS := gSeq (gSrcPut 0 (fun v => 0 ≤ v ∧ v < 2 ^ 31) (gVar 3)) T__law_pick_7
def T__law_pick_5 : DTS := gSeq (gSet 3 (gBin modD (gU intU (gBin addD (gBin mulI (gVar 3) (gVar 3)) (gBin mulI (gSrc 0 (fun v => 0 ≤ v)) (gC (.int 17))))) (gC (.int 2147483647)))) T__law_pick_6
def T__law_pick_4 : DTS := gSeq (gSet 3 (gBin modD (gU intU (gBin addD (gSrc 0 (fun v => 0 ≤ v ∧ v < 2 ^ 31)) (gBin mulI (gSrc 0 (fun v => 0 ≤ v)) (gC (.int 104729))))) (gC (.int 998244353)))) T__law_pick_5
def T__law_pick_3 : DTS := gSeq (gSrcPut 0 (fun v => 0 ≤ v) (gBin addD (gSrc 0 (fun v => 0 ≤ v)) (gC (.int 1)))) T__law_pick_4
def T__law_pick_2 : DTS := gSeq (gIfS (gOr (gTest (gBin ltD (gVar 1) (gC (.int 2)))) (gTest (gBin gtD (gVar 2) (gC (.int 1))))) T__law_pickb2 gNext) T__law_pick_3
def T__law_pick_1 : DTS := gSeq (gSet 2 (gSrc 0 (fun v => 0 ≤ v))) T__law_pick_2
def T__law_pick : DTS := gSeq (gSrcRun 0 1) T__law_pick_1
abbrev N__law_pick : List Str := ["source", "many", "left", "mixed"]
theorem w__law_pick (ds : List D) (Q : D → Prop) (h : sp__law_pick.w ds Q) : T__law_pick { nx := fun _ => Q .none, rt := fun d _ => Q d } (startR N__law_pick (.srcR :: ds.map .dat)) := by
  obtain ⟨m, rfl, hm, q⟩ := h
  rw [show startR N__law_pick (Cl.srcR :: List.map Cl.dat [PyData.int m]) = [some .srcR, some (.dat (.int m)), none, none] from rfl]
  unfold T__law_pick T__law_pick_1 T__law_pick_2 T__law_pick_3 T__law_pick_4 T__law_pick_5 T__law_pick_6 T__law_pick_7 T__law_pickb2 T__law_pickb2_1
  simp
  intro l l0
  have mx : (if 1 < m then m else 1) = max 1 m := by split <;> omega
  simp only [mx]
  have b1 : 0 < max 1 m := by omega
  have b2 : max 1 m < 1073741824 := by omega
  have fin : ∀ r : Int, Q (.int (r % max 1 m)) := fun r => q _ (Int.emod_nonneg _ (by omega)) (Int.emod_lt_of_pos _ b1)
  have b3 : 0 ≤ l / max 1 m := Int.ediv_nonneg l0 (by omega)
  by_cases h2 : m < 2
  · exact .inr ⟨h2, ⟨b1, b2⟩, b3, b1, fin _⟩
  · refine .inl ⟨by omega, ?_⟩
    by_cases h3 : l ≤ 1
    · have e : max 1 m = m := by omega
      rw [e] at fin
      exact .inl ⟨h3, fun v hv => ⟨by omega, fun v2 _ _ v3 _ => ⟨⟨by omega, by omega⟩, fun v4 _ => ⟨⟨Int.emod_nonneg _ (by decide), by have := Int.emod_lt_of_pos ((v2 + v3 * 104729) % 998244353 * ((v2 + v3 * 104729) % 998244353) + v4 * 17) (show (0 : Int) < 2147483647 by decide); omega⟩, by omega, fin _⟩⟩⟩⟩
    · exact .inr ⟨by omega, ⟨b1, b2⟩, b3, b1, fin _⟩

abbrev sp__law_of : Spec where
  n := 1
  w := fun as Q => ∃ ds : List D, (as = [.list ds] ∨ as = [.tuple ds]) ∧ 0 < ds.length ∧ ds.length < 2 ^ 29 ∧ ∀ d ∈ ds, Q d
  len := fun as Q ⟨ds, h, _⟩ => by rcases h with rfl | rfl <;> rfl
  mono := fun as Q Q' ⟨ds, h, h1, h2, h3⟩ f => ⟨ds, h, h1, h2, fun d hd => f d (h3 d hd)⟩
def T__law_of : DTS := (gRet (gBin ixD (gVar 1) (gCallS sp__law_pick 0 (gCons (gU lenU (gVar 1)) gNil))))
abbrev N__law_of : List Str := ["source", "some"]
theorem w__law_of (as : List D) (Q : D → Prop) (h : sp__law_of.w as Q) : T__law_of { nx := fun _ => Q .none, rt := fun d _ => Q d } (startR N__law_of (.srcR :: as.map .dat)) := by
  obtain ⟨ds, h, h1, h2, q⟩ := h
  rcases h with rfl | rfl
  all_goals
    unfold T__law_of
    simp [startR]
    refine ⟨by omega, fun r r0 r1 => ?_⟩
    obtain ⟨d, hd, e⟩ := atI_pos (ds := ds) r0 (by omega)
    exact ⟨d, e, q d hd⟩

abbrev sp__law_mixed : Spec where
  n := 1
  w := fun as Q => ∃ ds : List D, (as = [.list ds] ∨ as = [.tuple ds]) ∧ ds.length ≤ 1000 ∧ ∀ es : List D, es.Perm ds → Q (.list es)
  len := fun as Q ⟨ds, h, _⟩ => by rcases h with rfl | rfl <;> rfl
  mono := fun as Q Q' ⟨ds, h, h1, h2⟩ f => ⟨ds, h, h1, fun d hd => f _ (h2 d hd)⟩
def T__law_mixed_1 : DTS := (gRet (gLc (giR1 (gU lenU (gOwn 2))) (gdName 3) gYes (gPopAt 2 (gCallS sp__law_pick 0 (gCons (gU lenU (gOwn 2)) gNil))) [3]))
def T__law_mixed : DTS := gSeq (gSetO 2 (gU lstU (gVar 1))) T__law_mixed_1
abbrev N__law_mixed : List Str := ["source", "things", "rest", "lap"]
theorem w__law_mixed (as : List D) (Q : D → Prop) (h : sp__law_mixed.w as Q) : T__law_mixed { nx := fun _ => Q .none, rt := fun d _ => Q d } (startR N__law_mixed (.srcR :: as.map .dat)) := by
  obtain ⟨ds, h, h1, q⟩ := h
  have main : ∀ c : Cl, (gRet (gLc (giR1 (gU lenU (gOwn 2))) (gdName 3) gYes (gPopAt 2 (gCallS sp__law_pick 0 (gCons (gU lenU (gOwn 2)) gNil))) [3])) { nx := fun _ => Q .none, rt := fun d _ => Q d } [some .srcR, some c, some (.own (.list ds)), none] := by
    intro c
    rw [gRet_s]
    refine lcInv (List.range ds.length) (fun i : Nat => PyData.int i) [some .srcR, some c, some (.own (.list ds)), none] (fun i acc ρ => ∃ rest : List D, ρ = [some .srcR, some c, some (.own (.list rest)), none] ∧ rest.length + i = ds.length ∧ (acc ++ rest).Perm ds) (fun P h => ?_) rfl (by simp; omega) ⟨ds, rfl, by omega, .refl _⟩ (fun i x acc ρ2 hx hI => ?_) (fun acc ρ2 hI => ?_)
    · refine ⟨_, rfl, _, rfl, by omega, by omega, ?_⟩
      rw [Int.toNat_natCast, rngD_map]
      exact h
    · obtain ⟨rest, rfl, e, hp⟩ := hI
      have hi : i < ds.length := by
        have := (List.getElem?_eq_some_iff.mp hx).1
        simpa using this
      simp
      refine ⟨by omega, fun r r0 r1 => ?_⟩
      have hr : r.toNat < rest.length := by omega
      refine ⟨rest, r.toNat, (Int.toNat_of_nonneg r0).symm, rfl, by omega, rest[r.toNat], List.getElem?_eq_getElem hr, rest.eraseIdx r.toNat, ?_, ?_, ?_⟩
      · simp [wipeR]
      · rw [List.length_eraseIdx]; simp [hr]; omega
      · exact ((eraseIdx_perm (List.getElem?_eq_getElem hr)).append_left acc).trans hp
    · obtain ⟨rest, rfl, e, hp⟩ := hI
      have e0 : rest = [] := List.eq_nil_of_length_eq_zero (by simpa using e)
      subst e0
      rw [List.append_nil] at hp
      exact q acc hp
  rcases h with rfl | rfl
  all_goals
    unfold T__law_mixed
    rw [gSeq_s, gSetO_s, gU_s, gVar_s]
    exact ⟨_, rfl, main _⟩

abbrev sp__law_row : Spec where
  n := 1
  w := fun as Q => ∃ n : Nat, as = [.int n] ∧ n ≤ 1000 ∧ ∀ ns : List Int, ns.Perm (upTo n) → Q (tupI ns)
  len := fun as Q ⟨n, h, _⟩ => by rw [h]; rfl
  mono := fun as Q Q' ⟨n, h, h1, h2⟩ f => ⟨n, h, h1, fun d hd => f _ (h2 d hd)⟩
def T__law_rowb3_1 : DTS := (gCut 3 (gRev (gSlO 3 (gSome (gVar 5)) (gSome (gBin addD (gVar 5) (gC (.int 2)))))) (gSome (gVar 5)) (gSome (gBin addD (gVar 5) (gC (.int 2)))))
def T__law_rowb3 : DTS := gSeq (gSet 5 (gCallS sp__law_pick 0 (gCons (gA max2A (gCons (gC (.int 1)) (gCons (gBin subD (gVar 1) (gC (.int 1))) gNil))) gNil))) T__law_rowb3_1
def T__law_row_4 : DTS := (gRet (gU tupU (gOwn 3)))
def T__law_row_3 : DTS := gSeq (gFor (giR1 (gCallS sp__law_pick 0 (gCons (gBin addD (gVar 1) (gC (.int 1))) gNil))) (gdName 4) T__law_rowb3) T__law_row_4
def T__law_row_2 : DTS := gSeq (gSetIfN 3 (gTest (gBin eqD (gVar 2) (gC (.int 2)))) (gRev (gOwn 3))) T__law_row_3
def T__law_row_1 : DTS := gSeq (gIfS (gTest (gBin ltD (gVar 2) (gC (.int 2)))) (gFz 3 (gRet (gU tupU (gCallS sp__law_mixed 0 (gCons (gVar 3) gNil))))) gNext) T__law_row_2
def T__law_row : DTS := gSeq (gPar2 2 3 (gcDat (gCallS sp__law_pick 0 (gCons (gC (.int 4)) gNil)) (gcOwn (gLRg (gRg1 (gVar 1))) gcNil))) T__law_row_1
abbrev N__law_row : List Str := ["source", "n", "way", "found", "lap", "k"]
theorem cut_two {ds : List D} {k : Nat} (hk : k ≤ ds.length) : cutD ds (some (k : Int)) (some ((k : Int) + 2)) = (ds.drop k).take (min (k + 2) ds.length - k) := by
  unfold cutD
  rw [show ((k : Int) + 2) = ((k + 2 : Nat) : Int) by omega, HT.sIx_nat, HT.sIx_nat, Nat.min_eq_left hk]
theorem row_loop {Q : D → Prop} {n : Nat} (hn : n ≤ 1000) (q : ∀ ns : List Int, ns.Perm (upTo n) → Q (tupI ns)) (way : Int) (fs : List Int) (hf : fs.Perm (upTo n)) :
    T__law_row_3 { nx := fun _ => Q .none, rt := fun d _ => Q d } [some .srcR, some (.dat (.int n)), some (.dat (.int way)), some (.own (.list (fs.map .int))), none, none] := by
  unfold T__law_row_3
  rw [gSeq_s]
  unfold gFor
  rw [giR1_s]
  simp only [gBin_s, gCallS_s, gCons_s, gC_s, gNil_s, gU_s, gVar_s, lk_zero, lk_succ]
  refine ⟨trivial, _, rfl, trivial, _, rfl, by omega, fun r r0 r1 => ⟨r, rfl, by omega, by omega, ?_⟩⟩
  obtain ⟨l, rfl⟩ := Int.eq_ofNat_of_zero_le r0
  rw [Int.toNat_natCast, rngD_map]
  refine ⟨fun i ρ => ∃ (ms : List Int) (o1 o2 : Option Cl), ms.Perm (upTo n) ∧ ρ = [some .srcR, some (.dat (.int n)), some (.dat (.int way)), some (.own (.list (ms.map .int))), o1, o2], ⟨fs, none, none, hf, rfl⟩, ?_, ?_⟩
  · rintro i d ρ2 hd ⟨ms, o1, o2, hp, rfl⟩
    have lm : ms.length = n := by rw [hp.length_eq, upTo_len]
    unfold T__law_rowb3 T__law_rowb3_1
    rw [gdName_s, gSeq_s, gSet_s]
    refine ⟨rfl, _, rfl, rfl, _, rfl, ?_, fun k k0 k1 => ?_⟩
    · split <;> omega
    obtain ⟨j, rfl⟩ := Int.eq_ofNat_of_zero_le k0
    have hj : j ≤ ms.length := by
      by_cases h : (n : Int) - 1 > 1
      · rw [if_pos h] at k1; omega
      · rw [if_neg h] at k1; omega
    dsimp only
    rw [gCut_s]
    refine ⟨⟨_, rfl⟩, _, rfl, _, rfl, _, rfl, _, rfl, _, rfl, _, rfl, ⟨_, rfl⟩, _, rfl, _, rfl, _, rfl, _, rfl, _, _, j, j + 2, rfl, rfl, rfl, rfl, by omega, by simpa using hj, ?_, ?_⟩
    · rw [cut_two (by simpa using hj)]
      simp
      omega
    · rw [cut_two (by simpa using hj)]
      refine ⟨ms.take j ++ ((ms.drop j).take (min (j + 2) ms.length - j)).reverse ++ ms.drop (min (j + 2) ms.length), some (.dat d), some (.dat (.int j)), ?_, ?_⟩
      · refine List.Perm.trans ?_ hp
        have e : ms = ms.take j ++ (ms.drop j).take (min (j + 2) ms.length - j) ++ ms.drop (min (j + 2) ms.length) := by
          conv => lhs; rw [← List.take_append_drop (min (j + 2) ms.length) ms]
          congr 1
          conv => lhs; rw [← List.take_append_drop j (ms.take (min (j + 2) ms.length))]
          rw [List.take_take, Nat.min_eq_left (by omega), List.drop_take]
        conv => rhs; rw [e]
        exact ((List.reverse_perm _).append_left _).append_right _
      · simp [List.map_take, List.map_drop, List.map_reverse]
  · rintro ρ2 ⟨ms, o1, o2, hp, rfl⟩
    exact ⟨_, rfl, q ms hp⟩
theorem w__law_row (as : List D) (Q : D → Prop) (h : sp__law_row.w as Q) : T__law_row { nx := fun _ => Q .none, rt := fun d _ => Q d } (startR N__law_row (.srcR :: as.map .dat)) := by
  obtain ⟨n, rfl, hn, q⟩ := h
  rw [show startR N__law_row (Cl.srcR :: List.map Cl.dat [PyData.int n]) = [some .srcR, some (.dat (.int n)), none, none, none, none] from rfl]
  unfold T__law_row
  simp only [gSeq_s, gPar2_s, gcDat_s, gcOwn_s, gcNil_s, gCallS_s, gCons_s, gC_s, gNil_s, gLRg_s, gRg1_s, gVar_s, lk_zero, lk_succ]
  refine ⟨trivial, trivial, 4, rfl, by decide, fun way w0 w1 => ⟨_, rfl, _, rfl, by unfold rngB; omega, ?_⟩⟩
  rw [show ((n : Int) - 0).toNat = n by omega, rngD_upTo]
  show T__law_row_1 _ [some .srcR, some (.dat (.int n)), some (.dat (.int way)), some (.own (.list ((upTo n).map .int))), none, none]
  unfold T__law_row_1
  simp only [gSeq_s, gIfS_s, gTest_s, gBin_s, gVar_s, gC_s, lk_zero, lk_succ]
  refine ⟨_, rfl, decide (way < 2), rfl, ?_⟩
  by_cases h2 : way < 2
  · rw [if_pos (by simpa using h2)]
    rw [gFz_s, fz_own rfl]
    simp
    exact ⟨by simpa [upTo_len] using hn, fun es he => by
      obtain ⟨ms, rfl, hm⟩ := perm_ints he
      exact q ms hm⟩
  · rw [if_neg (by simpa using h2)]
    show T__law_row_2 _ _
    unfold T__law_row_2
    simp only [gSeq_s, gSetIfN_s, gTest_s, gBin_s, gVar_s, gC_s, lk_zero, lk_succ, eqD_s]
    refine ⟨_, rfl, rfl, _, rfl, ?_⟩
    by_cases h3 : PyData.eqv (.int way) (.int 2) = true
    · rw [if_pos h3]
      exact ⟨_, rfl, row_loop hn q way _ (.refl _)⟩
    · rw [if_neg h3]
      refine ⟨_, rfl, _, rfl, ?_⟩
      rw [← List.map_reverse]
      exact row_loop hn q way _ (upTo_rev (.refl _))

abbrev sp_plain : Spec where
  n := 1
  w := fun as Q => ∃ n : Nat, as = [.int n] ∧ n ≤ 1000 ∧ Q (tupI (upTo n))
  len := fun as Q ⟨n, h, _⟩ => by rw [h]; rfl
  mono := fun as Q Q' ⟨n, h, h1, q⟩ f => ⟨n, h, h1, f _ q⟩
def T_plain : DTS := (gRet (gTRg (gRg1 (gVar 0))))
abbrev N_plain : List Str := ["n"]
theorem w_plain (as : List D) (Q : D → Prop) (h : sp_plain.w as Q) : T_plain { nx := fun _ => Q .none, rt := fun d _ => Q d } (startR N_plain (as.map .dat)) := by
  obtain ⟨n, rfl, hn, q⟩ := h
  refine ⟨_, rfl, n, rfl, by unfold rngB; omega, ?_⟩
  rw [show ((n : Int) - 0).toNat = n by omega, rngD_upTo]
  exact q
theorem ev_plain {l : DTA} {ρ : Rho} {n : Nat} (h : EvA l ρ [.int n]) (hn : n ≤ 1000) : Ev (gCall sp_plain l) ρ (tupI (upTo n)) := ev_call h fun Q q => ⟨n, rfl, hn, q⟩

/-! ## rows: what stands out of order -/
def lessOf (a : Int) (r : List Int) : List Int := r.filter fun b => decide (b < a)
def pairsOf : List Int → List (Int × Int)
  | [] => []
  | a :: r => (lessOf a r).map (fun b => (b, a)) ++ pairsOf r
def codeOf : List Int → List Int
  | [] => []
  | a :: r => ((lessOf a r).length : Int) :: codeOf r
def lenOf (ns : List Int) : Int := (codeOf ns).sum
theorem codeOf_len : ∀ ns : List Int, (codeOf ns).length = ns.length
  | [] => rfl
  | a :: r => by simp [codeOf, codeOf_len r]
theorem pairs_len : ∀ ns : List Int, ((pairsOf ns).length : Int) = lenOf ns
  | [] => rfl
  | a :: r => by
    have := pairs_len r
    simp only [pairsOf, lenOf, codeOf, List.length_append, List.length_map, List.sum_cons] at *
    omega
theorem lessOf_perm {a : Int} {r s : List Int} (h : r.Perm s) : (lessOf a r).length = (lessOf a s).length := (h.filter _).length_eq
theorem lessOf_le (a : Int) (r : List Int) : (lessOf a r).length ≤ r.length := List.length_filter_le _ _
theorem lessOf_cons {a b : Int} {r : List Int} : ((lessOf a (b :: r)).length : Int) = (if b < a then 1 else 0) + ((lessOf a r).length : Int) := by
  unfold lessOf
  by_cases h : b < a
  · simp [List.filter_cons, h]; omega
  · simp [List.filter_cons, h]
theorem codeOf_get : ∀ (ns : List Int) (k : Nat) (a : Int), ns[k]? = some a → (codeOf ns)[k]? = some ((lessOf a (ns.drop (k + 1))).length : Int)
  | [], _, _, h => by simp at h
  | x :: r, 0, a, h => by
    simp at h
    subst h
    simp [codeOf]
  | x :: r, k + 1, a, h => by
    simpa [codeOf] using codeOf_get r k a (by simpa using h)
theorem codeOf_map (ns : List Int) : codeOf ns = (List.range ns.length).map fun k => ((lessOf (ns.getD k 0) (ns.drop (k + 1))).length : Int) := by
  refine List.ext_getElem? fun k => ?_
  by_cases hk : k < ns.length
  · rw [codeOf_get ns k ns[k] (List.getElem?_eq_getElem hk), List.getElem?_map, List.getElem?_range hk]
    simp [hk]
  · rw [List.getElem?_eq_none (by rw [codeOf_len]; omega), List.getElem?_eq_none (by simp; omega)]
/-! adjacent places exchanged -/
theorem len_swap {a b : Int} (h : a ≠ b) (post : List Int) : ∀ pre : List Int, lenOf (pre ++ b :: a :: post) = lenOf (pre ++ a :: b :: post) + (if a < b then 1 else -1)
  | [] => by
    simp only [List.nil_append, lenOf, codeOf, List.sum_cons, lessOf_cons]
    by_cases h1 : a < b
    · have h2 : ¬ b < a := by omega
      simp [h1, h2]; omega
    · have h2 : b < a := by omega
      simp [h1, h2]; omega
  | x :: pre => by
    have ih := len_swap h post pre
    have e : (lessOf x (pre ++ b :: a :: post)).length = (lessOf x (pre ++ a :: b :: post)).length := lessOf_perm ((List.Perm.swap a b post).append_left pre)
    simp only [lenOf, List.cons_append, codeOf, List.sum_cons, e] at ih ⊢
    omega
def exch (ns : List Int) (i j : Nat) : List Int := (ns.set i (ns.getD j 0)).set j (ns.getD i 0)
theorem exch_at {ns : List Int} {k : Nat} (h : k + 1 < ns.length) : ns = ns.take k ++ ns.getD k 0 :: ns.getD (k + 1) 0 :: ns.drop (k + 2) ∧ exch ns k (k + 1) = ns.take k ++ ns.getD (k + 1) 0 :: ns.getD k 0 :: ns.drop (k + 2) := by
  have e : ns = ns.take k ++ ns.getD k 0 :: ns.getD (k + 1) 0 :: ns.drop (k + 2) := by
    conv => lhs; rw [← List.take_append_drop k ns]
    rw [List.drop_eq_getElem_cons (by omega), List.drop_eq_getElem_cons h]
    simp [List.getD, show k < ns.length by omega, h]
  refine ⟨e, ?_⟩
  have hl : (ns.take k).length = k := by rw [List.length_take]; omega
  generalize ns.getD k 0 = x at *
  generalize hy : ns.getD (k + 1) 0 = y at *
  unfold exch
  generalize hT : ns.take k = T at *
  generalize ns.drop (k + 2) = U at *
  have hx : ns.getD k 0 = x := by rw [e]; simp [List.getD, List.getElem?_append_right, hl]
  rw [hx, hy]
  rw [e, List.set_append_right _ _ (by omega), List.set_append_right _ _ (by omega)]
  simp [hl]
theorem exch_len {ns : List Int} {k : Nat} (h : k + 1 < ns.length) (d : ns.getD k 0 ≠ ns.getD (k + 1) 0) : lenOf (exch ns k (k + 1)) = lenOf ns + (if ns.getD k 0 < ns.getD (k + 1) 0 then 1 else -1) := by
  obtain ⟨e1, e2⟩ := exch_at h
  rw [e2, len_swap d, ← e1]
/-! codes -/
def decode : List Int → List Int → List Int
  | _, [] => []
  | rest, k :: ks => rest.getD k.toNat 0 :: decode (rest.eraseIdx k.toNat) ks
def CodeOk : Nat → List Int → Prop
  | _, [] => True
  | n, k :: ks => 0 ≤ k ∧ k < n ∧ CodeOk (n - 1) ks
abbrev Up (l : List Int) : Prop := l.Pairwise fun a b => a < b
theorem up_less : ∀ {l : List Int} {k : Nat} {a : Int}, Up l → l[k]? = some a → (lessOf a l).length = k
  | [], _, _, _, h => by simp at h
  | x :: r, 0, a, hu, h => by
    simp at h
    subst h
    have hp := List.pairwise_cons.mp hu
    unfold lessOf
    rw [List.filter_cons_of_neg (by simp)]
    rw [List.filter_eq_nil_iff.mpr (fun b hb => by have := hp.1 b hb; simp; omega)]
    rfl
  | x :: r, k + 1, a, hu, h => by
    have hp := List.pairwise_cons.mp hu
    have hr : r[k]? = some a := by simpa using h
    have := up_less hp.2 hr
    have hx := hp.1 a (List.mem_of_getElem? hr)
    unfold lessOf at *
    rw [List.filter_cons_of_pos (by simpa using hx)]
    simp [this]
theorem up_erase {l : List Int} {k : Nat} (h : Up l) : Up (l.eraseIdx k) := h.sublist (List.eraseIdx_sublist ..)
theorem erase_perm' {l : List Int} {k : Nat} {a : Int} (h : l[k]? = some a) : (a :: l.eraseIdx k).Perm l := by
  induction l generalizing k with
  | nil => simp at h
  | cons x r ih =>
    cases k with
    | zero => simp at h; subst h; exact .refl _
    | succ k => exact (List.Perm.swap x a _).trans ((ih (by simpa using h)).cons x)
theorem less_erase {l : List Int} {k : Nat} {a : Int} (h : l[k]? = some a) : (lessOf a (l.eraseIdx k)).length = (lessOf a l).length := by
  rw [← lessOf_perm (erase_perm' h)]
  unfold lessOf
  rw [List.filter_cons_of_neg (by simp)]
theorem decode_ok : ∀ (code rest : List Int), Up rest → code.length = rest.length → CodeOk rest.length code → (decode rest code).Perm rest ∧ codeOf (decode rest code) = code
  | [], rest, _, hl, _ => by
    have : rest = [] := List.eq_nil_of_length_eq_zero (by simpa using hl.symm)
    subst this
    exact ⟨.refl _, rfl⟩
  | k :: ks, rest, hu, hl, hc => by
    obtain ⟨h0, h1, h2⟩ := hc
    have hk : k.toNat < rest.length := by omega
    have hg : rest[k.toNat]? = some (rest.getD k.toNat 0) := by simp [List.getD, hk]
    have he : (rest.eraseIdx k.toNat).length = rest.length - 1 := by rw [List.length_eraseIdx]; simp [hk]
    obtain ⟨p, c⟩ := decode_ok ks (rest.eraseIdx k.toNat) (up_erase hu) (by simp at hl; omega) (by rw [he]; exact h2)
    refine ⟨(p.cons _).trans (erase_perm' hg), ?_⟩
    show _ :: codeOf _ = _
    rw [c, lessOf_perm p, less_erase hg, up_less hu hg]
    simp; omega
theorem code_back : ∀ (row rest : List Int), Up rest → row.Perm rest → decode rest (codeOf row) = row ∧ CodeOk rest.length (codeOf row)
  | [], rest, _, _ => ⟨rfl, trivial⟩
  | a :: r, rest, hu, hp => by
    have ha : a ∈ rest := hp.mem_iff.mp List.mem_cons_self
    obtain ⟨j, hj⟩ := List.getElem?_of_mem ha
    have e : (lessOf a r).length = j := by
      rw [← up_less hu hj, ← lessOf_perm hp]
      unfold lessOf
      rw [List.filter_cons_of_neg (by simp)]
    have hl := (List.getElem?_eq_some_iff.mp hj).1
    have he : (rest.eraseIdx j).length = rest.length - 1 := by rw [List.length_eraseIdx]; simp [hl]
    have hr : r.Perm (rest.eraseIdx j) := (hp.trans (erase_perm' hj).symm).cons_inv
    obtain ⟨d, c⟩ := code_back r (rest.eraseIdx j) (up_erase hu) hr
    refine ⟨?_, by omega, by rw [e]; omega, by rw [← he]; exact c⟩
    show rest.getD _ 0 :: decode _ _ = _
    rw [e, Int.toNat_natCast, d]
    simp [List.getD, hj]
/-! the other way -/
theorem sum_add {α : Type} (f g : α → Int) : ∀ l : List α, (l.map fun x => f x + g x).sum = (l.map f).sum + (l.map g).sum
  | [] => rfl
  | x :: r => by
    have := sum_add f g r
    simp only [List.map_cons, List.sum_cons] at *
    omega
theorem sum_swap {α β : Type} (f : α → β → Int) : ∀ (l : List α) (m : List β), (l.map fun x => (m.map fun y => f x y).sum).sum = (m.map fun y => (l.map fun x => f x y).sum).sum
  | [], m => by
    induction m with
    | nil => rfl
    | cons y m ih => simpa using ih
  | x :: l, m => by
    rw [List.map_cons, List.sum_cons, sum_swap f l m, ← sum_add]
    rfl
theorem sum_perm {l m : List Int} (h : l.Perm m) : l.sum = m.sum := by
  induction h with
  | nil => rfl
  | cons x _ ih => simp [ih]
  | swap x y l => simp; omega
  | trans _ _ h1 h2 => exact h1.trans h2
/-- how many pairs of places below n are out of order -/
def invs (n : Nat) (f : Nat → Int) : Int := ((List.range n).map fun i => ((List.range n).map fun j => if i < j ∧ f j < f i then (1 : Int) else 0).sum).sum
theorem sum_zero {α : Type} {f : α → Int} : ∀ {l : List α}, (∀ x ∈ l, f x = 0) → (l.map f).sum = 0
  | [], _ => rfl
  | x :: r, h => by
    rw [List.map_cons, List.sum_cons, h x List.mem_cons_self, sum_zero fun y hy => h y (List.mem_cons_of_mem _ hy)]
    rfl
theorem less_sum (a : Int) : ∀ r : List Int, ((lessOf a r).length : Int) = ((List.range r.length).map fun j => if r.getD j 0 < a then (1 : Int) else 0).sum
  | [] => rfl
  | b :: r => by
    rw [lessOf_cons, less_sum a r, List.length_cons, List.range_succ_eq_map, List.map_cons, List.sum_cons, List.map_map]
    congr 1
theorem len_invs : ∀ ns : List Int, lenOf ns = invs ns.length fun i => ns.getD i 0
  | [] => rfl
  | a :: r => by
    have ih := len_invs r
    have e1 : lenOf (a :: r) = ((lessOf a r).length : Int) + lenOf r := rfl
    rw [e1, ih, less_sum]
    unfold invs
    rw [List.length_cons, List.range_succ_eq_map, List.map_cons, List.sum_cons, List.map_map, List.map_cons, List.sum_cons, List.map_map]
    congr 1
    · simp [Function.comp_def]
    · congr 1
      refine List.map_congr_left fun i _ => ?_
      simp only [Function.comp_def, List.map_cons, List.sum_cons, List.map_map]
      simp [Nat.succ_eq_add_one]
/-- bijections that are each other's way back -/
theorem invs_back {n : Nat} {f g : Nat → Nat} (hf : ∀ i, i < n → f i < n) (hg : ∀ i, i < n → g i < n) (fg : ∀ i, i < n → f (g i) = i) (gf : ∀ i, i < n → g (f i) = i) : invs n (fun i => (f i : Int)) = invs n fun i => (g i : Int) := by
  have perm : ((List.range n).map g).Perm (List.range n) := by
    have nd : ((List.range n).map g).Nodup := by
      rw [List.nodup_iff_pairwise_ne] at *
      refine List.pairwise_map.mpr (List.Pairwise.imp_of_mem (fun {x y} hx hy h e => h ?_) List.nodup_range)
      rw [List.mem_range] at hx hy
      rw [← fg x hx, ← fg y hy, e]
    refine (List.perm_ext_iff_of_nodup nd List.nodup_range).mpr fun x => ?_
    rw [List.mem_map]
    simp only [List.mem_range]
    exact ⟨fun ⟨y, hy, e⟩ => e ▸ hg y hy, fun hx => ⟨f x, hf x hx, gf x hx⟩⟩
  have re : ∀ h : Nat → Int, ((List.range n).map h).sum = ((List.range n).map fun y => h (g y)).sum := fun h => by
    have := sum_perm (perm.map h)
    rw [List.map_map] at this
    exact this.symm
  unfold invs
  rw [re]
  have e2 : ((List.range n).map fun y => ((List.range n).map fun j => if g y < j ∧ (f j : Int) < (f (g y) : Int) then (1 : Int) else 0).sum).sum = ((List.range n).map fun y => ((List.range n).map fun x => if g y < g x ∧ x < y then (1 : Int) else 0).sum).sum := by
    congr 1
    refine List.map_congr_left fun y hy => ?_
    rw [re]
    congr 1
    refine List.map_congr_left fun x hx => ?_
    rw [List.mem_range] at hy hx
    rw [fg x hx, fg y hy]
    simp
  rw [e2, sum_swap]
  congr 1
  refine List.map_congr_left fun x _ => ?_
  congr 1
  refine List.map_congr_left fun y _ => ?_
  by_cases h : x < y <;> by_cases h2 : g y < g x <;> simp [h, h2]
def otherOf (ns : List Int) : List Int := (List.range ns.length).map fun v : Nat => ((ns.idxOf (v : Int) : Nat) : Int)
theorem up_upTo (n : Nat) : Up (upTo n) := by
  unfold upTo
  refine List.pairwise_map.mpr (List.pairwise_lt_range.imp fun {a b} h => by omega)
theorem other_len {ns : List Int} {n : Nat} (h : ns.Perm (upTo n)) : lenOf (otherOf ns) = lenOf ns := by
  have hl : ns.length = n := by rw [h.length_eq, upTo_len]
  have nd : ns.Nodup := h.nodup_iff.mpr ((up_upTo n).imp fun {a b} h => by omega)
  have mem : ∀ x : Int, x ∈ ns ↔ ∃ k : Nat, k < n ∧ x = k := fun x => by
    rw [h.mem_iff]
    unfold upTo
    simp only [List.mem_map, List.mem_range]
    exact ⟨fun ⟨a, b, c⟩ => ⟨a, b, c.symm⟩, fun ⟨a, b, c⟩ => ⟨a, b, c.symm⟩⟩
  have fl : ∀ i, i < n → (ns.getD i 0).toNat < n ∧ ((ns.getD i 0).toNat : Int) = ns.getD i 0 := fun i hi => by
    have hm : ns.getD i 0 ∈ ns := by
      rw [show ns.getD i 0 = ns[i]'(by omega) by simp [List.getD, show i < ns.length by omega]]
      exact List.getElem_mem _
    obtain ⟨k, hk, e⟩ := (mem _).mp hm
    omega
  have gl : ∀ v, v < n → ns.idxOf (v : Int) < n := fun v hv => by
    have := List.idxOf_lt_length_iff.mpr ((mem (v : Int)).mpr ⟨v, hv, rfl⟩)
    omega
  have fg : ∀ v, v < n → ns.getD (ns.idxOf (v : Int)) 0 = v := fun v hv => by
    have := gl v hv
    rw [show ns.getD (ns.idxOf (v : Int)) 0 = ns[ns.idxOf (v : Int)]'(by omega) by simp [List.getD, show ns.idxOf (v : Int) < ns.length by omega]]
    exact List.getElem_idxOf (by omega)
  have gf : ∀ i, i < n → ns.idxOf (ns.getD i 0) = i := fun i hi => by
    rw [show ns.getD i 0 = ns[i]'(by omega) by simp [List.getD, show i < ns.length by omega]]
    exact nd.idxOf_getElem i (by omega)
  have e1 : lenOf ns = invs n fun i => (((ns.getD i 0).toNat : Nat) : Int) := by
    rw [len_invs, hl]
    unfold invs
    congr 1
    refine List.map_congr_left fun i hi => ?_
    congr 1
    refine List.map_congr_left fun j hj => ?_
    rw [List.mem_range] at hi hj
    show (if i < j ∧ ns.getD j 0 < ns.getD i 0 then (1 : Int) else 0) = if i < j ∧ (((ns.getD j 0).toNat : Nat) : Int) < (((ns.getD i 0).toNat : Nat) : Int) then 1 else 0
    rw [(fl i hi).2, (fl j hj).2]
  have e2 : lenOf (otherOf ns) = invs n fun v => ((ns.idxOf (v : Int) : Nat) : Int) := by
    have lo : (otherOf ns).length = n := by simp [otherOf, hl]
    rw [len_invs, lo]
    unfold invs
    congr 1
    refine List.map_congr_left fun i hi => ?_
    congr 1
    refine List.map_congr_left fun j hj => ?_
    rw [List.mem_range] at hi hj
    have g : ∀ v, v < n → (otherOf ns).getD v 0 = ((ns.idxOf (v : Int) : Nat) : Int) := fun v hv => by simp [otherOf, List.getD, hl, hv]
    show (if i < j ∧ (otherOf ns).getD j 0 < (otherOf ns).getD i 0 then (1 : Int) else 0) = _
    rw [g i hi, g j hj]
  rw [e1, e2]
  exact (invs_back (f := fun i => (ns.getD i 0).toNat) (g := fun v => ns.idxOf (v : Int)) (fun i hi => (fl i hi).1) gl (fun v hv => by
    show (ns.getD (ns.idxOf (v : Int)) 0).toNat = v
    rw [fg v hv]; rfl) (fun i hi => by
    show ns.idxOf (((ns.getD i 0).toNat : Nat) : Int) = i
    rw [(fl i hi).2]; exact gf i hi)).symm

abbrev sp_exchanged : Spec where
  n := 3
  w := fun as Q => ∃ (ns : List Int) (i j : Nat), as = [tupI ns, .int i, .int j] ∧ i < ns.length ∧ j < ns.length ∧ Q (tupI (exch ns i j))
  len := fun as Q ⟨ns, i, j, h, _⟩ => by rw [h]; rfl
  mono := fun as Q Q' ⟨ns, i, j, h, h1, h2, q⟩ f => ⟨ns, i, j, h, h1, h2, f _ q⟩
def T_exchanged_2 : DTS := (gRet (gU tupU (gOwn 3)))
def T_exchanged_1 : DTS := gSeq (gAsg (gTup (gCons (gBinO ixD 3 (gVar 2)) (gCons (gBinO ixD 3 (gVar 1)) gNil))) (gdTup (gdCons (gdSub 3 (gVar 1)) (gdCons (gdSub 3 (gVar 2)) gdNil)) 2)) T_exchanged_2
def T_exchanged : DTS := gSeq (gSetO 3 (gU lstU (gVar 0))) T_exchanged_1
abbrev N_exchanged : List Str := ["row", "i", "j", "found"]
theorem w_exchanged (as : List D) (Q : D → Prop) (h : sp_exchanged.w as Q) : T_exchanged { nx := fun _ => Q .none, rt := fun d _ => Q d } (startR N_exchanged (as.map .dat)) := by
  obtain ⟨ns, i, j, rfl, hi, hj, q⟩ := h
  unfold T_exchanged T_exchanged_1 T_exchanged_2
  simp [startR, tupI]
  refine ⟨_, atI_int hj, _, atI_int hi, _, ixN_nat hi, _, ixN_nat hj, ?_⟩
  have e : (((ns.map PyData.int).set i (.int (ns.getD j 0))).set j (.int (ns.getD i 0))) = (exch ns i j).map .int := by simp [exch, List.map_set]
  rw [e]
  exact q

abbrev sp_swapped : Spec where
  n := 2
  w := fun as Q => ∃ (ns : List Int) (k : Nat), as = [tupI ns, .int k] ∧ k + 1 < ns.length ∧ Q (tupI (exch ns k (k + 1)))
  len := fun as Q ⟨ns, k, h, _⟩ => by rw [h]; rfl
  mono := fun as Q Q' ⟨ns, k, h, h1, q⟩ f => ⟨ns, k, h, h1, f _ q⟩
def T_swapped : DTS := (gRet (gCall sp_exchanged (gCons (gVar 0) (gCons (gVar 1) (gCons (gBin addD (gVar 1) (gC (.int 1))) gNil)))))
abbrev N_swapped : List Str := ["row", "k"]
theorem w_swapped (as : List D) (Q : D → Prop) (h : sp_swapped.w as Q) : T_swapped { nx := fun _ => Q .none, rt := fun d _ => Q d } (startR N_swapped (as.map .dat)) := by
  obtain ⟨ns, k, rfl, hk, q⟩ := h
  unfold T_swapped
  rw [show startR N_swapped (List.map Cl.dat [tupI ns, PyData.int k]) = [some (.dat (tupI ns)), some (.dat (.int k))] from rfl]
  simp only [gRet_s, gCall_s, gCons_s, gNil_s, gBin_s, gVar_s, gC_s, lk_zero, lk_succ]
  exact ⟨_, rfl, _, rfl, _, rfl, ns, k, k + 1, rfl, by omega, hk, q⟩
theorem ev_swapped {l : DTA} {ρ : Rho} {ns : List Int} {k : Nat} (h : EvA l ρ [tupI ns, .int k]) (hk : k + 1 < ns.length) : Ev (gCall sp_swapped l) ρ (tupI (exch ns k (k + 1))) := ev_call h fun Q q => ⟨ns, k, rfl, hk, q⟩

/-! ## words: places one after the other -/
def tupN (ws : List Nat) : D := .tuple (ws.map fun k : Nat => .int k)
def WordOk (n : Nat) (ws : List Nat) : Prop := ∀ k ∈ ws, k + 1 < n
def ledM : List Int → List Nat → List Int
  | ns, [] => ns
  | ns, k :: r => ledM (exch ns k (k + 1)) r
theorem exch_perm {ns : List Int} {k : Nat} (h : k + 1 < ns.length) : (exch ns k (k + 1)).Perm ns := by
  unfold exch
  have e1 : ns[k]? = some (ns.getD k 0) := by simp [List.getD, show k < ns.length by omega]
  have e2 : ns[k + 1]? = some (ns.getD (k + 1) 0) := by simp [List.getD, h]
  exact swap_perm e1 e2 (by omega)
theorem exch_length (ns : List Int) (i j : Nat) : (exch ns i j).length = ns.length := by simp [exch]
theorem led_perm : ∀ {ws : List Nat} {ns : List Int}, WordOk ns.length ws → (ledM ns ws).Perm ns
  | [], ns, _ => .refl _
  | k :: r, ns, h => by
    have hk := h k List.mem_cons_self
    exact (led_perm (ns := exch ns k (k + 1)) (fun j hj => by rw [exch_length]; exact h j (List.mem_cons_of_mem _ hj))).trans (exch_perm hk)
theorem led_append : ∀ (u v : List Nat) (ns : List Int), ledM ns (u ++ v) = ledM (ledM ns u) v
  | [], v, ns => rfl
  | k :: r, v, ns => led_append r v _
theorem led_len {ws : List Nat} {ns : List Int} (h : WordOk ns.length ws) : (ledM ns ws).length = ns.length := (led_perm h).length_eq
theorem exch_get {ns : List Int} {k : Nat} (h : k + 1 < ns.length) (i : Nat) : (exch ns k (k + 1)).getD i 0 = if i = k then ns.getD (k + 1) 0 else if i = k + 1 then ns.getD k 0 else ns.getD i 0 := by
  unfold exch
  simp only [List.getD, List.getElem?_set, List.length_set]
  by_cases h1 : k + 1 = i
  · subst h1
    simp [h]
  · by_cases h2 : k = i
    · subst h2
      simp [show k < ns.length by omega]
    · simp [h1, h2, Ne.symm h1, Ne.symm h2]
theorem exch_back {ns : List Int} {k : Nat} (h : k + 1 < ns.length) : exch (exch ns k (k + 1)) k (k + 1) = ns := by
  have e : ∀ (m : List Int) (i : Nat), i < m.length → m[i]? = some (m.getD i 0) := fun m i hi => by simp [List.getD, hi]
  refine List.ext_getElem? fun i => ?_
  by_cases hi : i < ns.length
  · rw [e _ i (by rw [exch_length, exch_length]; exact hi), e _ i hi, exch_get (by rw [exch_length]; exact h), exch_get h, exch_get h, exch_get h]
    by_cases h1 : i = k
    · simp [h1]
    · by_cases h2 : i = k + 1
      · simp [h2]
      · simp [h1, h2]
  · rw [List.getElem?_eq_none (by rw [exch_length, exch_length]; omega), List.getElem?_eq_none (by omega)]
/-- the pairs that are exchanged -/
def wpairs : List Int → List Nat → List (Int × Int)
  | _, [] => []
  | ns, k :: r => (min (ns.getD k 0) (ns.getD (k + 1) 0), max (ns.getD k 0) (ns.getD (k + 1) 0)) :: wpairs (exch ns k (k + 1)) r
theorem wpairs_len : ∀ (ws : List Nat) (ns : List Int), (wpairs ns ws).length = ws.length
  | [], _ => rfl
  | k :: r, ns => by simp [wpairs, wpairs_len r]
/-- every step goes up -/
def Ups : List Int → List Nat → Prop
  | _, [] => True
  | ns, k :: r => k + 1 < ns.length ∧ ns.getD k 0 < ns.getD (k + 1) 0 ∧ Ups (exch ns k (k + 1)) r
theorem ups_ok : ∀ {ws : List Nat} {ns : List Int}, Ups ns ws → WordOk ns.length ws
  | [], _, _ => fun k h => by cases h
  | j :: r, ns, h => fun k hk => by
    rcases List.mem_cons.mp hk with rfl | hk
    · exact h.1
    · have := ups_ok h.2.2 k hk
      rwa [exch_length] at this
/-- a shortest way to the row -/
def IsWay (n : Nat) (row : List Int) (ws : List Nat) : Prop := Ups (upTo n) ws ∧ ledM (upTo n) ws = row
theorem pairs_swap {a b : Int} (h : a < b) (post : List Int) : ∀ pre : List Int, (pairsOf (pre ++ b :: a :: post)).Perm ((a, b) :: pairsOf (pre ++ a :: b :: post))
  | [] => by
    have e1 : lessOf b (a :: post) = a :: lessOf b post := by simp [lessOf, h]
    have e2 : lessOf a (b :: post) = lessOf a post := by
      have : ¬ b < a := by omega
      simp [lessOf, this]
    simp only [List.nil_append, pairsOf, e1, e2, List.map_cons, List.cons_append]
    refine List.Perm.cons _ ?_
    rw [← List.append_assoc, ← List.append_assoc]
    exact (List.perm_append_comm).append_right _
  | x :: pre => by
    have e : (lessOf x (pre ++ b :: a :: post)).Perm (lessOf x (pre ++ a :: b :: post)) := ((List.Perm.swap a b post).append_left pre).filter _
    simp only [List.cons_append, pairsOf]
    exact ((e.map _).append (pairs_swap h post pre)).trans List.perm_middle
theorem pairs_up {ns : List Int} {k : Nat} (h : k + 1 < ns.length) (hu : ns.getD k 0 < ns.getD (k + 1) 0) : (pairsOf (exch ns k (k + 1))).Perm ((ns.getD k 0, ns.getD (k + 1) 0) :: pairsOf ns) := by
  obtain ⟨e1, e2⟩ := exch_at h
  rw [e2]
  conv => rhs; rw [e1]
  have g1 : (ns.take k ++ ns.getD k 0 :: ns.getD (k + 1) 0 :: ns.drop (k + 2)).getD k 0 = ns.getD k 0 := by rw [← e1]
  have g2 : (ns.take k ++ ns.getD k 0 :: ns.getD (k + 1) 0 :: ns.drop (k + 2)).getD (k + 1) 0 = ns.getD (k + 1) 0 := by rw [← e1]
  rw [g1, g2]
  exact pairs_swap hu _ _
theorem ups_pairs : ∀ {ws : List Nat} {ns : List Int}, Ups ns ws → (wpairs ns ws ++ pairsOf ns).Perm (pairsOf (ledM ns ws))
  | [], ns, _ => .refl _
  | k :: r, ns, h => by
    have ih := ups_pairs h.2.2
    have e : (min (ns.getD k 0) (ns.getD (k + 1) 0), max (ns.getD k 0) (ns.getD (k + 1) 0)) = (ns.getD k 0, ns.getD (k + 1) 0) := by
      have := h.2.1
      rw [Int.min_eq_left (by omega), Int.max_eq_right (by omega)]
    show (_ :: (wpairs _ r ++ pairsOf ns)).Perm _
    rw [e]
    exact (List.perm_middle.symm.trans ((pairs_up h.1 h.2.1).symm.append_left _)).trans ih
theorem pairs_none : ∀ {l : List Int}, Up l → pairsOf l = []
  | [], _ => rfl
  | a :: r, h => by
    have hp := List.pairwise_cons.mp h
    have e : lessOf a r = [] := List.filter_eq_nil_iff.mpr fun b hb => by have := hp.1 b hb; simp; omega
    simp [pairsOf, e, pairs_none hp.2]
theorem pairs_upTo (n : Nat) : pairsOf (upTo n) = [] := pairs_none (up_upTo n)
theorem way_pairs {n : Nat} {row : List Int} {ws : List Nat} (h : IsWay n row ws) : (wpairs (upTo n) ws).Perm (pairsOf row) := by
  have := ups_pairs h.1
  rw [pairs_upTo, List.append_nil, h.2] at this
  exact this
theorem pairs_nodup : ∀ {ns : List Int}, ns.Nodup → (pairsOf ns).Nodup
  | [], _ => List.nodup_nil
  | a :: r, h => by
    obtain ⟨h1, h2⟩ := List.nodup_cons.mp h
    refine List.nodup_append.mpr ⟨?_, pairs_nodup h2, fun x hx y hy e => ?_⟩
    · exact List.pairwise_map.mpr ((h2.sublist List.filter_sublist).imp fun {u v} huv e => huv (congrArg Prod.fst e))
    · obtain ⟨b, _, rfl⟩ := List.mem_map.mp hx
      subst e
      have : ∀ (l : List Int) (p : Int × Int), p ∈ pairsOf l → p.2 ∈ l := by
        intro l
        induction l with
        | nil => intro p h; cases h
        | cons c l ih =>
          intro p h
          rcases List.mem_append.mp h with h | h
          · obtain ⟨b, _, rfl⟩ := List.mem_map.mp h
            exact List.mem_cons_self
          · exact List.mem_cons_of_mem _ (ih p h)
      exact h1 (this r _ hy)
theorem row_nodup {ns : List Int} {n : Nat} (h : ns.Perm (upTo n)) : ns.Nodup := h.nodup_iff.mpr ((up_upTo n).imp fun {a b} h => by omega)
theorem led_step {ns : List Int} {ws : List Nat} {i k : Nat} (h : WordOk ns.length ws) (hk : ws[i]? = some k) : k + 1 < (ledM ns (ws.take i)).length ∧ ledM ns (ws.take (i + 1)) = exch (ledM ns (ws.take i)) k (k + 1) := by
  have ok : WordOk ns.length (ws.take i) := fun j hj => h j (List.mem_of_mem_take hj)
  refine ⟨by rw [led_len ok]; exact h k (List.mem_of_getElem? hk), ?_⟩
  rw [List.take_add_one, hk, led_append]
  rfl

abbrev sp_led : Spec where
  n := 2
  w := fun as Q => ∃ (ns : List Int) (ws : List Nat), as = [tupI ns, tupN ws] ∧ WordOk ns.length ws ∧ Q (tupI (ledM ns ws))
  len := fun as Q ⟨ns, ws, h, _⟩ => by rw [h]; rfl
  mono := fun as Q Q' ⟨ns, ws, h, h1, q⟩ f => ⟨ns, ws, h, h1, f _ q⟩
def T_led_1 : DTS := (gRet (gVar 0))
def T_led : DTS := gSeq (gFor (giSeq (gVar 1)) (gdName 2) (gSet 0 (gCall sp_swapped (gCons (gVar 0) (gCons (gVar 2) gNil))))) T_led_1
abbrev N_led : List Str := ["row", "word", "k"]
theorem w_led (as : List D) (Q : D → Prop) (h : sp_led.w as Q) : T_led { nx := fun _ => Q .none, rt := fun d _ => Q d } (startR N_led (as.map .dat)) := by
  obtain ⟨ns, ws, rfl, hw, q⟩ := h
  unfold T_led
  rw [show startR N_led (List.map Cl.dat [tupI ns, tupN ws]) = [some (.dat (tupI ns)), some (.dat (tupN ws)), none] from rfl, gSeq_s]
  refine forInv ws (fun k : Nat => PyData.int k) [some (.dat (tupI ns)), some (.dat (tupN ws)), none] (fun i ρ => ∃ o : Option Cl, ρ = [some (.dat (tupI (ledM ns (ws.take i)))), some (.dat (tupN ws)), o]) (fun P h => ⟨_, rfl, h⟩) ⟨none, rfl⟩ (fun i k ρ2 hk hJ => ?_) (fun ρ2 hJ => ?_)
  · obtain ⟨o, rfl⟩ := hJ
    obtain ⟨h1, h2⟩ := led_step hw hk
    rw [gdName_s, gSet_s]
    exact ⟨_, rfl, _, rfl, _, k, rfl, h1, _, by rw [h2]; rfl⟩
  · obtain ⟨o, rfl⟩ := hJ
    rw [List.take_length]
    exact ⟨_, rfl, q⟩
theorem ev_led {l : DTA} {ρ : Rho} {ns : List Int} {ws : List Nat} (h : EvA l ρ [tupI ns, tupN ws]) (hw : WordOk ns.length ws) : Ev (gCall sp_led l) ρ (tupI (ledM ns ws)) := ev_call h fun Q q => ⟨ns, ws, rfl, hw, q⟩
local macro_rules | `(tactic| walk_at "ev") => `(tactic| apply ev_led)

abbrev sp_row_of : Spec where
  n := 2
  w := fun as Q => ∃ (n : Nat) (ws : List Nat), as = [.int n, tupN ws] ∧ n ≤ 1000 ∧ WordOk n ws ∧ Q (tupI (ledM (upTo n) ws))
  len := fun as Q ⟨ns, ws, h, _⟩ => by rw [h]; rfl
  mono := fun as Q Q' ⟨ns, ws, h, h1, h2, q⟩ f => ⟨ns, ws, h, h1, h2, f _ q⟩
def T_row_of : DTS := (gRet (gCall sp_led (gCons (gCall sp_plain (gCons (gVar 0) gNil)) (gCons (gVar 1) gNil))))
abbrev N_row_of : List Str := ["n", "word"]
theorem w_row_of (as : List D) (Q : D → Prop) (h : sp_row_of.w as Q) : T_row_of { nx := fun _ => Q .none, rt := fun d _ => Q d } (startR N_row_of (as.map .dat)) := by
  obtain ⟨n, ws, rfl, hn, hw, q⟩ := h
  exact ⟨_, rfl, n, rfl, hn, _, rfl, upTo n, ws, rfl, by rw [upTo_len]; exact hw, q⟩
theorem ev_row_of {l : DTA} {ρ : Rho} {n : Nat} {ws : List Nat} (h : EvA l ρ [.int n, tupN ws]) (hn : n ≤ 1000) (hw : WordOk n ws) : Ev (gCall sp_row_of l) ρ (tupI (ledM (upTo n) ws)) := ev_call h fun Q q => ⟨n, ws, rfl, hn, hw, q⟩
local macro_rules | `(tactic| walk_at "ev") => `(tactic| apply ev_row_of)

abbrev sp_code_of : Spec where
  n := 1
  w := fun as Q => ∃ ns : List Int, as = [tupI ns] ∧ ns.length ≤ 1000 ∧ Q (tupI (codeOf ns))
  len := fun as Q ⟨ns, h, _⟩ => by rw [h]; rfl
  mono := fun as Q Q' ⟨ns, h, h1, q⟩ f => ⟨ns, h, h1, f _ q⟩
def T_code_of : DTS := (gRet (gU tupU (gLc (giEnum (gVar 0)) (gdTup (gdCons (gdName 2) (gdCons (gdName 3) gdNil)) 2) gYes (gU lenU (gLc (giSeq (gSl (gVar 0) (gSome (gBin addD (gVar 2) (gC (.int 1)))) gNo)) (gdName 1) (gTest (gBin ltD (gVar 1) (gVar 3))) (gVar 1) [1])) [2, 3])))
abbrev N_code_of : List Str := ["row", "late", "k", "ahead"]
theorem w_code_of (as : List D) (Q : D → Prop) (h : sp_code_of.w as Q) : T_code_of { nx := fun _ => Q .none, rt := fun d _ => Q d } (startR N_code_of (as.map .dat)) := by
  obtain ⟨ns, rfl, hl, q⟩ := h
  unfold T_code_of
  rw [gRet_s, gU_s]
  rw [show startR N_code_of (List.map Cl.dat [tupI ns]) = [some (.dat (tupI ns)), none, none, none] from rfl]
  refine lcAll ns.zipIdx (fun p => PyData.tuple [.int p.2, .int p.1]) (fun p => PyData.int (lessOf p.1 (ns.drop (p.2 + 1))).length) [some (.dat (tupI ns)), none, none, none] (fun P h => ?_) rfl (by simpa using by omega) (fun p hp P hP => ?_) ?_
  · refine ⟨_, rfl, ?_⟩
    show P (enumD (ns.map .int)) _
    rw [enumD_map]
    exact h
  · have hm := List.mem_zipIdx hp
    simp
    refine lcAt (ns.drop (p.2 + 1)) PyData.int (fun b => if (fun b => decide (b < p.1)) b = true then some (PyData.int b) else none) [some (.dat (tupI ns)), none, some (.dat (.int p.2)), some (.dat (.int p.1))] (fun P' h => ?_) rfl (by rw [List.length_drop]; omega) (fun b hb P' hP' => ?_) ?_
    · refine ⟨_, rfl, _, rfl, (p.2 : Int) + 1, rfl, ?_⟩
      show P' (cutD (ns.map .int) (some ((p.2 : Int) + 1)) none) _
      rw [cut_from, ← List.map_drop]
      exact h
    · by_cases hb : b < p.1 <;> (simp [wipeR, hb] at hP' ⊢; first | exact hP' | exact ⟨by omega, hP'⟩ | exact .inr hP' | exact .inl ⟨by omega, hP'⟩)
    · rw [filter_some]
      simp [mergeR, wipeR]
      simpa [wipeR, lessOf] using hP
  · simp [mergeR, wipeR]
    have e : (ns.zipIdx.map fun p => PyData.int (lessOf p.1 (ns.drop (p.2 + 1))).length) = (codeOf ns).map .int := by
      refine List.ext_getElem? fun i => ?_
      rw [List.getElem?_map, List.getElem?_zipIdx, List.getElem?_map]
      by_cases hi : i < ns.length
      · rw [codeOf_get ns i ns[i] (List.getElem?_eq_getElem hi)]
        simp [hi]
      · rw [List.getElem?_eq_none (l := codeOf ns) (by rw [codeOf_len]; omega)]
        simp [hi]
    rw [e]
    exact q

abbrev sp_row_length : Spec where
  n := 1
  w := fun as Q => ∃ ns : List Int, as = [tupI ns] ∧ ns.length ≤ 1000 ∧ Q (.int (lenOf ns))
  len := fun as Q ⟨ns, h, _⟩ => by rw [h]; rfl
  mono := fun as Q Q' ⟨ns, h, h1, q⟩ f => ⟨ns, h, h1, f _ q⟩
def T_row_length : DTS := (gRet (gU sumU (gCall sp_code_of (gCons (gVar 0) gNil))))
abbrev N_row_length : List Str := ["row"]
theorem w_row_length (as : List D) (Q : D → Prop) (h : sp_row_length.w as Q) : T_row_length { nx := fun _ => Q .none, rt := fun d _ => Q d } (startR N_row_length (as.map .dat)) := by
  obtain ⟨ns, rfl, hl, q⟩ := h
  unfold T_row_length
  rw [show startR N_row_length (List.map Cl.dat [tupI ns]) = [some (.dat (tupI ns))] from rfl]
  simp only [gRet_s, gU_s, gCall_s, gCons_s, gNil_s, gVar_s, lk_zero]
  exact ⟨_, rfl, ns, rfl, hl, sumU_t q⟩
theorem ev_row_length {l : DTA} {ρ : Rho} {ns : List Int} (h : EvA l ρ [tupI ns]) (hl : ns.length ≤ 1000) : Ev (gCall sp_row_length l) ρ (.int (lenOf ns)) := ev_call h fun Q q => ⟨ns, rfl, hl, q⟩
local macro_rules | `(tactic| walk_at "ev") => `(tactic| apply ev_row_length)

def dropsOf (ns : List Int) : List Int := ((List.range (ns.length - 1)).filter fun k => decide (ns.getD (k + 1) 0 < ns.getD k 0)).map fun k : Nat => (k : Int)
/-- [k for k in range(n) if row[k] > row[k + 1]], wherever it stands -/
theorem drops_lc {gi : DTI} {i j : Nat} {ρ : Rho} {Q : D → Rho → Prop} {ns : List Int} (hl : ns.length ≤ 1000) (ρ1 : Rho) (hi : ∀ P : List D → Rho → Prop, P ((List.range (ns.length - 1)).map fun k : Nat => PyData.int k) ρ1 → gi ρ P) (h1 : noOwn ρ1 [j] = true)
    (hr : ∀ d : D, lk ((wipeR ρ1 [j]).set j (some (.dat d))) i = some (.dat (tupI ns))) (hj : ∀ d : D, lk ((wipeR ρ1 [j]).set j (some (.dat d))) j = some (.dat d)) (hw : ∀ d : D, wipeR ((wipeR ρ1 [j]).set j (some (.dat d))) [j] = wipeR ρ1 [j])
    (q : Q (.list ((dropsOf ns).map .int)) (mergeR ρ1 (wipeR ρ1 [j]) [j])) :
    gLc gi (gdName j) (gTest (gBin gtD (gBin ixD (gVar i) (gVar j)) (gBin ixD (gVar i) (gBin addD (gVar j) (gC (.int 1)))))) (gVar j) [j] ρ Q := by
  refine lcAt (List.range (ns.length - 1)) (fun k : Nat => PyData.int k) (fun k => if (fun k => decide (ns.getD (k + 1) 0 < ns.getD k 0)) k = true then some (PyData.int k) else none) ρ1 hi h1 (by simp; omega) (fun k hk P hP => ?_) ?_
  · have hk' : k + 1 < ns.length := by
      have := List.mem_range.mp hk
      omega
    rw [gdName_s]
    simp only [gTest_s, gBin_s, gVar_s, gC_s]
    refine ⟨_, hr _, _, hj _, ?_⟩
    refine ⟨_, atI_int (by omega), _, hr _, _, hj _, ?_⟩
    refine ⟨_, by rw [show ((k : Int) + 1) = ((k + 1 : Nat) : Int) by omega]; exact atI_int hk', ?_⟩
    refine ⟨_, rfl, ?_⟩
    by_cases c : ns.getD (k + 1) 0 < ns.getD k 0
    · rw [if_pos (by simpa using c)]
      dsimp only at hP
      rw [if_pos (by simpa using c)] at hP
      exact ⟨_, hj _, by rw [hw]; exact hP⟩
    · rw [if_neg (by simpa using c)]
      dsimp only at hP
      rw [if_neg (by simpa using c)] at hP
      rw [hw]; exact hP
  · rw [filter_some]
    have e : ((List.range (ns.length - 1)).filter fun k => decide (ns.getD (k + 1) 0 < ns.getD k 0)).map (fun k : Nat => PyData.int k) = (dropsOf ns).map .int := by
      unfold dropsOf
      rw [List.map_map]; rfl
    rw [e]
    exact q

def pD (p : Int × Int) : D := .tuple [.int p.1, .int p.2]
/-- the pairs, sorted -/
def pairsD (ns : List Int) : List D := sorD ((pairsOf ns).map pD)
theorem pairs_bound : ∀ ns : List Int, (pairsOf ns).length ≤ ns.length * ns.length
  | [] => Nat.le_refl _
  | a :: r => by
    have h1 := pairs_bound r
    have h2 := lessOf_le a r
    have h3 : (r.length + 1) * (r.length + 1) = r.length * r.length + r.length + r.length + 1 := by rw [Nat.add_mul, Nat.mul_add]; omega
    simp only [pairsOf, List.length_append, List.length_map, List.length_cons]
    omega
theorem pairs_small {ns : List Int} (h : ns.length ≤ 200) : (pairsOf ns).length ≤ 40000 := Nat.le_trans (pairs_bound ns) (Nat.mul_le_mul h h)
theorem pairs_at {ns : List Int} {i : Nat} {x : Int} (h : ns[i]? = some x) : pairsOf (ns.drop i) = (lessOf x (ns.drop (i + 1))).map (fun b => (b, x)) ++ pairsOf (ns.drop (i + 1)) := by
  have hi := (List.getElem?_eq_some_iff.mp h).1
  rw [List.drop_eq_getElem_cons hi, (List.getElem?_eq_some_iff.mp h).2]
  rfl
theorem sorU_pairs {ps : List (Int × Int)} {P : D → Prop} (h : P (.list (sorD (ps.map pD)))) : sorU (.list (ps.map pD)) P := by
  have m : ∀ d ∈ ps.map pD, ∃ p, d = pD p := fun d hd => by
    obtain ⟨p, _, rfl⟩ := List.mem_map.mp hd
    exact ⟨p, rfl⟩
  refine ⟨_, .inl rfl, fun d hd e he => ?_, .inl (.inl fun d hd => ?_), fun d hd => ?_, h⟩
  · obtain ⟨p, rfl⟩ := m d hd
    obtain ⟨q, rfl⟩ := m e he
    simp [pD, PySem.W.alike, PySem.W.alikeAll]
  · obtain ⟨p, rfl⟩ := m d hd
    exact ⟨_, _, rfl⟩
  · obtain ⟨p, rfl⟩ := m d hd
    exact ⟨by simp [pD, PyData.depth, PyData.depthAll], by simp [pD, PyData.canLay0, PyData.canLayAll0]⟩
theorem eqv_pD (p q : Int × Int) : PyData.eqv (pD p) (pD q) = decide (p = q) := by
  have e : PyData.eqv (pD p) (pD q) = (p.1 == q.1 && (p.2 == q.2 && true)) := by simp [pD, PyData.eqv, PyData.eqvAll]
  rw [e]
  obtain ⟨a, b⟩ := p
  obtain ⟨c, d⟩ := q
  by_cases h1 : a = c <;> by_cases h2 : b = d <;> simp [h1, h2]
theorem shaped_pD (p : Int × Int) : SeqAt.shaped (pD p) = true := by simp [pD, SeqAt.shaped, PyData.canLay0, PyData.canLayAll0, PyData.depth, PyData.depthAll]
theorem lay_depth : ∀ {ds : List D} {k : Nat}, (∀ d ∈ ds, d.canLay0 = true ∧ d.depth ≤ k) → PyData.canLayAll0 ds = true ∧ PyData.depthAll ds ≤ k
  | [], k, _ => ⟨rfl, Nat.zero_le _⟩
  | d :: r, k, h => by
    obtain ⟨h1, h2⟩ := h d List.mem_cons_self
    obtain ⟨h3, h4⟩ := lay_depth fun e he => h e (List.mem_cons_of_mem _ he)
    exact ⟨by rw [PyData.canLayAll0, h1, h3]; rfl, by simp only [PyData.depthAll]; omega⟩
theorem shaped_list {ds : List D} {k : Nat} (h : ∀ d ∈ ds, d.canLay0 = true ∧ d.depth ≤ k) (hk : k ≤ 60) : SeqAt.shaped (.list ds) = true ∧ SeqAt.shaped (.tuple ds) = true := by
  obtain ⟨h1, h2⟩ := lay_depth h
  have e1 : (PyData.list ds).depth ≤ 64 := by simp [PyData.depth]; omega
  have e2 : (PyData.tuple ds).depth ≤ 64 := by simp [PyData.depth]; omega
  constructor
  · unfold SeqAt.shaped
    rw [decide_eq_true e1, show (PyData.list ds).canLay0 = true by simpa [PyData.canLay0] using h1]; rfl
  · unfold SeqAt.shaped
    rw [decide_eq_true e2, show (PyData.tuple ds).canLay0 = true by simpa [PyData.canLay0] using h1]; rfl
theorem shaped_pairs (ps : List (Int × Int)) : SeqAt.shaped (.list (ps.map pD)) = true := by
  refine (shaped_list (k := 2) (fun d hd => ?_) (by decide)).1
  obtain ⟨p, _, rfl⟩ := List.mem_map.mp hd
  exact ⟨by simp [pD, PyData.canLay0, PyData.canLayAll0], by simp [pD, PyData.depth, PyData.depthAll]⟩
/-- the first place of a pair -/
theorem ix_pair {ps : List (Int × Int)} {j : Nat} {p : Int × Int} {P : Int → Prop} (h1 : ps[j]? = some p) (h2 : ∀ m : Nat, m < j → ps[m]? ≠ some p) (q : P j) : ixGoes (ps.map pD) (pD p) P := by
  refine ⟨shaped_pairs ps, shaped_pD p, j, pD p, by rw [List.getElem?_map, h1]; rfl, by rw [eqv_pD]; simp, fun m z hm hz => ?_, q⟩
  rw [List.getElem?_map] at hz
  obtain ⟨q', hq, rfl⟩ := Option.map_eq_some_iff.mp hz
  rw [eqv_pD]
  exact decide_eq_false fun e => h2 m hm (e ▸ hq)

/-- n, .., m - 1 -/
def fromTo (n m : Nat) : List Int := (List.range (m - n)).map fun i : Nat => (n : Int) + i
theorem fromTo_len (n m : Nat) : (fromTo n m).length = m - n := by simp [fromTo]
theorem rngD_from (n m : Nat) : rngD n ((m : Int) - n).toNat = (fromTo n m).map .int := by
  rw [show ((m : Int) - n).toNat = m - n by omega, fromTo, List.map_map]; rfl

/-! ## rows turned about -/
theorem len_snoc (a : Int) : ∀ l : List Int, lenOf (l ++ [a]) = lenOf l + ((l.filter fun b => decide (a < b)).length : Int)
  | [] => rfl
  | x :: l => by
    have ih := len_snoc a l
    simp only [lenOf, List.cons_append, codeOf, List.sum_cons] at ih ⊢
    rw [ih]
    have e : ((lessOf x (l ++ [a])).length : Int) = (lessOf x l).length + (if a < x then 1 else 0) := by
      unfold lessOf
      rw [List.filter_append, List.length_append]
      by_cases h : a < x <;> simp [h]
    rw [e]
    by_cases h : a < x <;> simp [h] <;> omega
theorem less_more {a : Int} : ∀ {r : List Int}, a ∉ r → (lessOf a r).length + (r.filter fun b => decide (a < b)).length = r.length
  | [], _ => rfl
  | x :: r, h => by
    have hx : x ≠ a := fun e => h (by rw [e]; exact List.mem_cons_self)
    have ih := less_more (r := r) fun z => h (List.mem_cons_of_mem _ z)
    unfold lessOf at ih ⊢
    by_cases c : x < a
    · have c' : ¬ a < x := by omega
      simp [c, c']; omega
    · have c' : a < x := by omega
      simp [c, c']; omega
def triN : Nat → Int
  | 0 => 0
  | n + 1 => triN n + n
theorem triN_two : ∀ n : Nat, 2 * triN n = (n : Int) * (n - 1)
  | 0 => rfl
  | n + 1 => by
    have ih := triN_two n
    have e : ((n + 1 : Nat) : Int) * (((n + 1 : Nat) : Int) - 1) = (n : Int) * (n - 1) + 2 * n := by
      rw [show (((n + 1 : Nat) : Int) - 1) = n by omega, show ((n + 1 : Nat) : Int) = (n : Int) + 1 by omega, Int.add_mul, Int.mul_sub]
      omega
    rw [e, triN]
    omega
theorem triN_half (n : Nat) : (n : Int) * (n - 1) / 2 = triN n := by
  have := triN_two n
  omega
theorem len_rev : ∀ {ns : List Int}, ns.Nodup → lenOf ns.reverse + lenOf ns = triN ns.length
  | [], _ => rfl
  | a :: r, h => by
    obtain ⟨h1, h2⟩ := List.nodup_cons.mp h
    have ih := len_rev h2
    rw [List.reverse_cons, len_snoc, List.filter_reverse, List.length_reverse]
    have l := less_more h1
    simp only [lenOf, codeOf, List.sum_cons, List.length_cons, triN] at ih ⊢
    omega
theorem less_flip (c a : Int) (r : List Int) : (lessOf (c - a) (r.map fun x => c - x)).length = (r.filter fun b => decide (a < b)).length := by
  unfold lessOf
  rw [List.filter_map, List.length_map]
  congr 1
  refine List.filter_congr fun x _ => ?_
  simp only [Function.comp]
  exact decide_eq_decide.mpr (by omega)
theorem len_flip (c : Int) : ∀ {ns : List Int}, ns.Nodup → lenOf (ns.map fun x => c - x) + lenOf ns = triN ns.length
  | [], _ => rfl
  | a :: r, h => by
    obtain ⟨h1, h2⟩ := List.nodup_cons.mp h
    have ih := len_flip c h2
    have l := less_more h1
    simp only [lenOf, codeOf, List.map_cons, List.sum_cons, List.length_cons, triN, less_flip] at ih ⊢
    omega
theorem pairs_tail {t : List Int} (ht : Up t) : ∀ {ns : List Int}, (∀ x ∈ ns, ∀ y ∈ t, x < y) → pairsOf (ns ++ t) = pairsOf ns
  | [], _ => pairs_none ht
  | a :: r, h => by
    have e : lessOf a (r ++ t) = lessOf a r := by
      have e0 : t.filter (fun b => decide (b < a)) = [] := List.filter_eq_nil_iff.mpr fun b hb => by have := h a List.mem_cons_self b hb; simp; omega
      unfold lessOf
      rw [List.filter_append, e0, List.append_nil]
    rw [List.cons_append, pairsOf, pairsOf, e, pairs_tail ht fun x hx => h x (List.mem_cons_of_mem _ hx)]
theorem up_fromTo (n m : Nat) : Up (fromTo n m) := List.pairwise_map.mpr (List.pairwise_lt_range.imp fun {a b} h => by omega)
theorem fromTo_mem {n m : Nat} {x : Int} (h : x ∈ fromTo n m) : (n : Int) ≤ x := by
  obtain ⟨i, _, rfl⟩ := List.mem_map.mp h
  omega
theorem wide_pairs {ns : List Int} {n m : Nat} (hp : ns.Perm (upTo n)) : pairsOf (ns ++ fromTo n m) = pairsOf ns := pairs_tail (up_fromTo n m) fun x hx y hy => by
  have h1 := upTo_mem.mp (hp.mem_iff.mp hx)
  have h2 := fromTo_mem hy
  omega
theorem mem_pairs {x y : Int} : ∀ {ns : List Int}, (x, y) ∈ pairsOf ns ↔ x < y ∧ [y, x].Sublist ns
  | [] => by simp [pairsOf]
  | a :: r => by
    rw [pairsOf, List.mem_append, mem_pairs (ns := r), List.sublist_cons_iff]
    constructor
    · rintro (h | ⟨h1, h2⟩)
      · obtain ⟨b, hb, e⟩ := List.mem_map.mp h
        obtain ⟨hm, hlt⟩ := List.mem_filter.mp hb
        simp only [Prod.mk.injEq] at e
        obtain ⟨rfl, rfl⟩ := e
        exact ⟨of_decide_eq_true hlt, .inr ⟨[b], rfl, List.singleton_sublist.mpr hm⟩⟩
      · exact ⟨h1, .inl h2⟩
    · rintro ⟨h1, h2 | ⟨l, e, h2⟩⟩
      · exact .inr ⟨h1, h2⟩
      · simp only [List.cons.injEq] at e
        obtain ⟨rfl, rfl⟩ := e
        exact .inl (List.mem_map.mpr ⟨x, List.mem_filter.mpr ⟨List.singleton_sublist.mp h2, decide_eq_true h1⟩, rfl⟩)
theorem two_orders {x y : Int} (hn : x ≠ y) : ∀ {ns : List Int}, x ∈ ns → y ∈ ns → [x, y].Sublist ns ∨ [y, x].Sublist ns
  | a :: r, hx, hy => by
    rcases List.mem_cons.mp hx with rfl | hx'
    · exact .inl (List.cons_sublist_cons.mpr (List.singleton_sublist.mpr ((List.mem_cons.mp hy).resolve_left (Ne.symm hn))))
    · rcases List.mem_cons.mp hy with rfl | hy'
      · exact .inr (List.cons_sublist_cons.mpr (List.singleton_sublist.mpr hx'))
      · exact (two_orders hn hx' hy').imp (fun h => h.cons _) fun h => h.cons _
theorem one_order {x y : Int} : ∀ {ns : List Int}, ns.Nodup → [x, y].Sublist ns → ¬ [y, x].Sublist ns
  | [], _, h, _ => by simp at h
  | a :: r, nd, h, k => by
    obtain ⟨h1, h2⟩ := List.nodup_cons.mp nd
    rcases List.sublist_cons_iff.mp h with h' | ⟨l, e, h'⟩
    · rcases List.sublist_cons_iff.mp k with k' | ⟨l, e, k'⟩
      · exact one_order h2 h' k'
      · simp only [List.cons.injEq] at e
        exact h1 (e.1 ▸ h'.subset (by simp))
    · simp only [List.cons.injEq] at e
      obtain ⟨rfl, rfl⟩ := e
      rcases List.sublist_cons_iff.mp k with k' | ⟨l, e, k'⟩
      · exact h1 (k'.subset (by simp))
      · simp only [List.cons.injEq] at e
        obtain ⟨rfl, rfl⟩ := e
        exact h1 (List.singleton_sublist.mp h')
theorem rev_pairs {ns : List Int} {n : Nat} (hp : ns.Perm (upTo n)) {x y : Int} : (x, y) ∈ pairsOf ns.reverse ↔ 0 ≤ x ∧ x < y ∧ y < n ∧ (x, y) ∉ pairsOf ns := by
  have nd := row_nodup hp
  have mem : ∀ z : Int, z ∈ ns ↔ 0 ≤ z ∧ z < n := fun z => by rw [hp.mem_iff]; exact upTo_mem
  have r : [y, x].Sublist ns.reverse ↔ [x, y].Sublist ns := by
    rw [show [y, x] = [x, y].reverse from rfl]
    exact List.reverse_sublist
  rw [mem_pairs, mem_pairs, r]
  constructor
  · rintro ⟨h1, h2⟩
    have hx := (mem x).mp (h2.subset (by simp))
    have hy := (mem y).mp (h2.subset (by simp))
    exact ⟨hx.1, h1, hy.2, fun h => one_order nd h2 h.2⟩
  · rintro ⟨h0, h1, h2, h3⟩
    exact ⟨h1, (two_orders (by omega) ((mem x).mpr ⟨h0, by omega⟩) ((mem y).mpr ⟨by omega, h2⟩)).resolve_right fun h => h3 ⟨h1, h⟩⟩
/-- all pairs but those of the row, ascending -/
def farRow (ns : List Int) (n i : Nat) : List (Int × Int) := ((List.range (n - (i + 1))).filter fun t : Nat => !decide (((i : Int), ((i : Int) + 1 + (t : Int))) ∈ pairsOf ns)).map fun t : Nat => ((i : Int), (i : Int) + 1 + (t : Int))
def farOf (ns : List Int) (n : Nat) : List (Int × Int) := (List.range n).flatMap (farRow ns n)
theorem mem_far {ns : List Int} {n : Nat} {x y : Int} : (x, y) ∈ farOf ns n ↔ 0 ≤ x ∧ x < y ∧ y < n ∧ (x, y) ∉ pairsOf ns := by
  unfold farOf farRow
  simp only [List.mem_flatMap, List.mem_range, List.mem_map, List.mem_filter, Prod.mk.injEq, Bool.not_eq_true', decide_eq_false_iff_not]
  constructor
  · rintro ⟨a, ha, t, ⟨ht, hn⟩, rfl, rfl⟩
    exact ⟨by omega, by omega, by omega, hn⟩
  · rintro ⟨h0, h1, h2, h3⟩
    refine ⟨x.toNat, by omega, (y - x - 1).toNat, ⟨by omega, ?_⟩, by omega, by omega⟩
    rw [show ((x.toNat : Nat) : Int) = x by omega, show x + 1 + ((y - x - 1).toNat : Int) = y by omega]
    exact h3
theorem far_up (ns : List Int) (n : Nat) : (farOf ns n).Pairwise fun p q => p.1 < q.1 ∨ (p.1 = q.1 ∧ p.2 < q.2) := by
  unfold farOf
  refine List.pairwise_flatMap.mpr ⟨fun a _ => List.pairwise_map.mpr ((List.pairwise_lt_range.sublist List.filter_sublist).imp fun {x y} h => .inr ⟨rfl, by dsimp only; omega⟩), List.pairwise_lt_range.imp fun {a b} h x hx y hy => .inl ?_⟩
  obtain ⟨_, _, rfl⟩ := List.mem_map.mp hx
  obtain ⟨_, _, rfl⟩ := List.mem_map.mp hy
  dsimp only
  omega
theorem far_is {ns : List Int} {n : Nat} (hp : ns.Perm (upTo n)) : pairsD ns.reverse = (farOf ns n).map pD := by
  unfold pairsD
  have up := far_up ns n
  refine sorD_is (fun x hx y hy h1 h2 => ?_) (List.Perm.map _ ?_) (List.pairwise_map.mpr (up.imp fun {p q} h => ?_))
  · obtain ⟨p, _, rfl⟩ := List.mem_map.mp hx
    obtain ⟨q, _, rfl⟩ := List.mem_map.mp hy
    unfold pD at h1 h2
    rw [leII] at h1 h2
    have h1 := of_decide_eq_true h1
    have h2 := of_decide_eq_true h2
    have e : p = q := Prod.ext (by omega) (by omega)
    rw [e]
  · refine (List.perm_ext_iff_of_nodup (up.imp fun {p q} h e => ?_) (pairs_nodup ((List.reverse_perm ns).nodup_iff.mpr (row_nodup hp)))).mpr fun p => ?_
    · subst e
      omega
    · obtain ⟨x, y⟩ := p
      rw [mem_far, rev_pairs hp]
  · unfold pD
    rw [leII]
    exact decide_eq_true (by omega)
theorem far_bound (ns : List Int) {n : Nat} (hn : n ≤ 200) : (farOf ns n).length ≤ 40000 := by
  have : ∀ l : List Nat, (l.flatMap (farRow ns n)).length ≤ l.length * 200 := by
    intro l
    induction l with
    | nil => simp
    | cons a l ih =>
      have h1 : (farRow ns n a).length ≤ 200 := by
        unfold farRow
        rw [List.length_map]
        have := List.length_filter_le (fun t : Nat => !decide (((a : Int), ((a : Int) + 1 + (t : Int))) ∈ pairsOf ns)) (List.range (n - (a + 1)))
        rw [List.length_range] at this
        omega
      rw [List.flatMap_cons, List.length_append, List.length_cons, Nat.add_mul]
      omega
  have := this (List.range n)
  rw [List.length_range] at this
  unfold farOf
  omega
/-! drops, words -/
theorem getD_app1 {a b : List Int} {k : Nat} (h : k < a.length) : (a ++ b).getD k 0 = a.getD k 0 := by simp [List.getD, List.getElem?_append_left h]
theorem drops_flip (c : Int) (ns : List Int) : dropsOf (ns.map fun x => c - x) = ((List.range (ns.length - 1)).filter fun k => decide (ns.getD k 0 < ns.getD (k + 1) 0)).map fun k : Nat => (k : Int) := by
  unfold dropsOf
  rw [List.length_map]
  congr 1
  refine List.filter_congr fun k hk => decide_eq_decide.mpr ?_
  have hk := List.mem_range.mp hk
  have g : ∀ j, j < ns.length → (ns.map fun x => c - x).getD j 0 = c - ns.getD j 0 := fun j hj => by simp [List.getD, hj]
  rw [g _ (by omega), g _ (by omega)]
  omega
theorem drops_wide {ns : List Int} {n m : Nat} (hp : ns.Perm (upTo n)) (hm : n ≤ m) (h1 : 1 ≤ n) : dropsOf (ns ++ fromTo n m) = dropsOf ns := by
  have hl : ns.length = n := by rw [hp.length_eq, upTo_len]
  unfold dropsOf
  rw [List.length_append, fromTo_len, hl, show n + (m - n) - 1 = (n - 1) + (m - n) by omega, List.range_add, List.filter_append, List.map_append]
  have e1 : (List.range (n - 1)).filter (fun k => decide ((ns ++ fromTo n m).getD (k + 1) 0 < (ns ++ fromTo n m).getD k 0)) = (List.range (n - 1)).filter fun k => decide (ns.getD (k + 1) 0 < ns.getD k 0) := by
    refine List.filter_congr fun k hk => ?_
    have hk := List.mem_range.mp hk
    rw [getD_app1 (by omega), getD_app1 (by omega)]
  have e2 : ((List.range (m - n)).map fun x => n - 1 + x).filter (fun k => decide ((ns ++ fromTo n m).getD (k + 1) 0 < (ns ++ fromTo n m).getD k 0)) = [] := by
    refine List.filter_eq_nil_iff.mpr fun k hk => ?_
    obtain ⟨t, ht, rfl⟩ := List.mem_map.mp hk
    have ht := List.mem_range.mp ht
    have g : ∀ j, j < m - n → (ns ++ fromTo n m).getD (n + j) 0 = (n : Int) + j := fun j hj => by
      simp [List.getD, List.getElem?_append_right, hl, fromTo, hj]
    have a := g t ht
    rw [show n - 1 + t + 1 = n + t by omega, a]
    have b : (ns ++ fromTo n m).getD (n - 1 + t) 0 ≤ (n : Int) + t := by
      by_cases h : t = 0
      · subst h
        rw [getD_app1 (by omega)]
        have hmem : ns.getD (n - 1 + 0) 0 ∈ ns := by
          have : n - 1 < ns.length := by omega
          rw [Nat.add_zero, List.getD_eq_getElem?_getD, List.getElem?_eq_getElem this]
          exact List.getElem_mem this
        have := upTo_mem.mp (hp.mem_iff.mp hmem)
        omega
      · have := g (t - 1) (by omega)
        rw [show n - 1 + t = n + (t - 1) by omega, this]
        omega
    rw [decide_eq_true_eq]
    omega
  rw [e1, e2, List.map_nil, List.append_nil]
theorem exch_app {a t : List Int} {k : Nat} (h : k + 1 < a.length) : exch (a ++ t) k (k + 1) = exch a k (k + 1) ++ t := by
  unfold exch
  rw [getD_app1 h, getD_app1 (by omega), List.set_append_left _ _ (by omega), List.set_append_left _ _ (by rw [List.length_set]; omega)]
theorem led_app : ∀ {ws : List Nat} {a : List Int} (t : List Int), WordOk a.length ws → ledM (a ++ t) ws = ledM a ws ++ t
  | [], _, _, _ => rfl
  | k :: r, a, t, h => by
    have hk := h k List.mem_cons_self
    show ledM (exch (a ++ t) k (k + 1)) r = ledM (exch a k (k + 1)) r ++ t
    rw [exch_app hk]
    exact led_app t fun j hj => by rw [exch_length]; exact h j (List.mem_cons_of_mem _ hj)
theorem flip_flip {ns : List Int} : (ns.map fun a => (ns.length : Int) - 1 - a).map (fun a => ((ns.map fun a => (ns.length : Int) - 1 - a).length : Int) - 1 - a) = ns := by
  rw [List.map_map, List.length_map]
  conv => rhs; rw [← List.map_id ns]
  refine List.map_congr_left fun a _ => ?_
  simp only [Function.comp, id]
  omega

/-! ## dicts whose keys are pairs -/
def pX (p : Int × Int) : List Int × D := ([p.1, p.2], .int 0)
theorem pX_nodup {ps : List (Int × Int)} (h : ps.Nodup) : ((ps.map pX).map (·.1)).Nodup := by
  rw [List.map_map]
  refine List.pairwise_map.mpr (h.imp fun {a b} n e => n ?_)
  simp only [Function.comp, pX, List.cons.injEq, and_true] at e
  exact Prod.ext e.1 e.2
def hashRow (a : Nat) : List Int := (List.range 12).map fun (b : Nat) => hashT [((b : Nat) : Int), (a : Int)]
theorem hash_rows : ∀ a < 12, (hashRow a).Nodup := by decide +kernel
theorem nodup_at {α : Type} {l : List α} (nd : l.Nodup) {i j : Nat} (hi : i < l.length) (hj : j < l.length) (e : l[i] = l[j]) : i = j := by
  rcases Nat.lt_trichotomy i j with h | h | h
  · exact absurd e (List.pairwise_iff_getElem.mp nd i j hi hj h)
  · exact h
  · exact absurd e.symm (List.pairwise_iff_getElem.mp nd j i hj hi h)
theorem hash_pair (a : Nat) (ha : a < 12) (b : Nat) (hb : b < 12) (c : Nat) (hc : c < 12) (e : hashT [((b : Nat) : Int), ((a : Nat) : Int)] = hashT [((c : Nat) : Int), (a : Int)]) : b = c := by
  refine nodup_at (hash_rows a ha) (i := b) (j := c) (by simp [hashRow, hb]) (by simp [hashRow, hc]) ?_
  simp only [hashRow, List.getElem_map, List.getElem_range]
  exact e
theorem block_of (F : List Int → Int) {a : Int} {bs : List Int} (inj : ∀ x ∈ bs, ∀ y ∈ bs, F [x, a] = F [y, a] → x = y) (nd : bs.Nodup) : (((bs.map fun b => (b, a)).map pX).map fun p => F p.1).Nodup := by
  rw [List.map_map, List.map_map]
  exact List.pairwise_map.mpr (List.Pairwise.imp_of_mem (fun {x y} hx hy n e => n (inj x hx y hy e)) nd)
theorem hash_block {a : Int} {bs : List Int} (ha : 0 ≤ a ∧ a < 12) (hb : ∀ b ∈ bs, 0 ≤ b ∧ b < 12) (nd : bs.Nodup) : (((bs.map fun b => (b, a)).map pX).map fun p => hashT p.1).Nodup := by
  refine block_of hashT (fun x hx y hy e => ?_) nd
  have h1 := hb x hx
  have h2 := hb y hy
  obtain ⟨x, rfl⟩ := Int.eq_ofNat_of_zero_le h1.1
  obtain ⟨y, rfl⟩ := Int.eq_ofNat_of_zero_le h2.1
  obtain ⟨a, rfl⟩ := Int.eq_ofNat_of_zero_le ha.1
  exact congrArg _ (hash_pair a (by omega) x (by omega) y (by omega) e)
theorem pairsD_ex (ns : List Int) : ∃ ps : List (Int × Int), ps.map pD = pairsD ns ∧ ps.Perm (pairsOf ns) := by
  have pm := sorD_perm ((pairsOf ns).map pD)
  refine ⟨(pairsD ns).map fun d => match d with | .tuple [.int a, .int b] => (a, b) | _ => (0, 0), ?_, ?_⟩
  · rw [List.map_map]
    conv => rhs; rw [← List.map_id (pairsD ns)]
    refine List.map_congr_left fun d hd => ?_
    obtain ⟨p, _, rfl⟩ := List.mem_map.mp (pm.mem_iff.mp hd)
    rfl
  · have := pm.map fun d : D => match d with | .tuple [.int a, .int b] => (a, b) | _ => ((0 : Int), (0 : Int))
    rw [List.map_map] at this
    have e : (pairsOf ns).map ((fun d : D => match d with | .tuple [.int a, .int b] => (a, b) | _ => ((0 : Int), (0 : Int))) ∘ pD) = pairsOf ns := by
      conv => rhs; rw [← List.map_id (pairsOf ns)]
      exact List.map_congr_left fun i _ => rfl
    rw [e] at this
    exact this
theorem any_key (v : D) (ps : List (Int × Int)) (x y : Int) : ((ps.map fun p => ([p.1, p.2], v)).any fun p : List Int × D => decide (p.1 = [x, y])) = decide ((x, y) ∈ ps) := by
  rw [List.any_map]
  by_cases h : (x, y) ∈ ps
  · rw [decide_eq_true h, List.any_eq_true]
    exact ⟨(x, y), h, by simp⟩
  · rw [decide_eq_false h, List.any_eq_false]
    intro p hp e
    simp at e
    exact h (by rw [← e.1, ← e.2]; exact hp)

/-! ## places, and how far two rows are from each other -/
theorem ix_self {α : Type} [BEq α] [LawfulBEq α] {a : α} {r : List α} : (a :: r).idxOf a = 0 := by simp [List.idxOf_cons]
theorem ix_ne {α : Type} [BEq α] [LawfulBEq α] {a x : α} {r : List α} (h : a ≠ x) : (a :: r).idxOf x = r.idxOf x + 1 := by rw [List.idxOf_cons, beq_false_of_ne h]; rfl
theorem idx_first {α : Type} [BEq α] [LawfulBEq α] {x : α} : ∀ {ns : List α}, x ∈ ns → ns[ns.idxOf x]? = some x ∧ ∀ m : Nat, m < ns.idxOf x → ns[m]? ≠ some x
  | a :: r, h => by
    classical
    by_cases e : a = x
    · subst e
      rw [ix_self]
      simp
    · have hr := (List.mem_cons.mp h).resolve_left (Ne.symm e)
      obtain ⟨h1, h2⟩ := idx_first hr
      have ex : (a :: r).idxOf x = r.idxOf x + 1 := ix_ne e
      rw [ex]
      refine ⟨by simpa using h1, fun m hm => ?_⟩
      cases m with
      | zero => simpa using e
      | succ m => simpa using h2 m (by omega)
theorem idx_lt {α : Type} [BEq α] [LawfulBEq α] {x : α} {ns : List α} (h : x ∈ ns) : ns.idxOf x < ns.length := (List.getElem?_eq_some_iff.mp (idx_first h).1).1
theorem idx_sub {x y : Int} : ∀ {ns : List Int}, ns.Nodup → (([y, x].Sublist ns) ↔ x ∈ ns ∧ y ∈ ns ∧ ns.idxOf y < ns.idxOf x)
  | [], _ => by simp
  | a :: r, nd => by
    obtain ⟨h1, h2⟩ := List.nodup_cons.mp nd
    rw [List.sublist_cons_iff, idx_sub h2]
    constructor
    · rintro (⟨hx, hy, hlt⟩ | ⟨l, e, h⟩)
      · have nx : a ≠ x := fun e => h1 (e ▸ hx)
        have ny : a ≠ y := fun e => h1 (e ▸ hy)
        refine ⟨List.mem_cons_of_mem _ hx, List.mem_cons_of_mem _ hy, ?_⟩
        rw [ix_ne nx, ix_ne ny]; omega
      · simp only [List.cons.injEq] at e
        obtain ⟨rfl, rfl⟩ := e
        have hx := List.singleton_sublist.mp h
        have nx : y ≠ x := fun e => h1 (e ▸ hx)
        refine ⟨List.mem_cons_of_mem _ hx, List.mem_cons_self, ?_⟩
        rw [ix_self, ix_ne nx]; omega
    · rintro ⟨hx, hy, hlt⟩
      by_cases nx : a = x
      · subst nx
        rw [ix_self] at hlt; omega
      · have hx' := (List.mem_cons.mp hx).resolve_left (Ne.symm nx)
        by_cases ny : a = y
        · subst ny
          exact .inr ⟨[x], rfl, List.singleton_sublist.mpr hx'⟩
        · have hy' := (List.mem_cons.mp hy).resolve_left (Ne.symm ny)
          rw [ix_ne nx, ix_ne ny] at hlt
          exact .inl ⟨hx', hy', by omega⟩
theorem idx_inj {α : Type} [BEq α] [LawfulBEq α] {x y : α} {ns : List α} (hx : x ∈ ns) (hy : y ∈ ns) (e : ns.idxOf x = ns.idxOf y) : x = y := by
  have h1 := (idx_first hx).1
  have h2 := (idx_first hy).1
  rw [e, h2] at h1
  exact (Option.some.inj h1).symm
theorem idx_get {ns : List Int} (nd : ns.Nodup) {k : Nat} (h : k < ns.length) : ns.idxOf (ns.getD k 0) = k := by
  have e : ns.getD k 0 = ns[k] := by simp [List.getD, h]
  rw [e]
  exact nd.idxOf_getElem k h
/-- the pairs of a list, one before the other -/
def seqs : List Int → List (Int × Int)
  | [] => []
  | a :: r => r.map (fun b => (a, b)) ++ seqs r
theorem mem_seqs {u v : Int} : ∀ {l : List Int}, (u, v) ∈ seqs l ↔ [u, v].Sublist l
  | [] => by simp [seqs]
  | a :: r => by
    rw [seqs, List.mem_append, mem_seqs (l := r), List.sublist_cons_iff]
    constructor
    · rintro (h | h)
      · obtain ⟨b, hb, e⟩ := List.mem_map.mp h
        simp only [Prod.mk.injEq] at e
        obtain ⟨rfl, rfl⟩ := e
        exact .inr ⟨[b], rfl, List.singleton_sublist.mpr hb⟩
      · exact .inl h
    · rintro (h | ⟨l, e, h⟩)
      · exact .inr h
      · simp only [List.cons.injEq] at e
        obtain ⟨rfl, rfl⟩ := e
        exact .inl (List.mem_map.mpr ⟨v, List.singleton_sublist.mp h, rfl⟩)
theorem seqs_nodup : ∀ {l : List Int}, l.Nodup → (seqs l).Nodup
  | [], _ => List.nodup_nil
  | a :: r, nd => by
    obtain ⟨h1, h2⟩ := List.nodup_cons.mp nd
    refine List.nodup_append.mpr ⟨List.pairwise_map.mpr (h2.imp fun {u v} huv e => huv (congrArg Prod.snd e)), seqs_nodup h2, fun x hx y hy e => ?_⟩
    obtain ⟨b, _, rfl⟩ := List.mem_map.mp hx
    subst e
    exact h1 ((mem_seqs.mp hy).subset (by simp))
theorem len_map (f : Int → Int) : ∀ l : List Int, lenOf (l.map f) = (((seqs l).filter fun p => decide (f p.2 < f p.1)).length : Int)
  | [] => rfl
  | a :: r => by
    have ih := len_map f r
    simp only [lenOf, List.map_cons, codeOf, List.sum_cons, seqs, List.filter_append, List.length_append] at ih ⊢
    rw [ih]
    have e : (lessOf (f a) (r.map f)).length = ((r.map fun b => (a, b)).filter fun p => decide (f p.2 < f p.1)).length := by
      unfold lessOf
      rw [List.filter_map, List.filter_map, List.length_map, List.length_map]
      rfl
    rw [e]
    omega
def betw (one other : List Int) : List Int := other.map fun x => ((one.idxOf x : Nat) : Int)
theorem filter_split {α : Type} (p q r : α → Bool) : ∀ (l : List α), (∀ x ∈ l, p x = true → (q x = true ∧ r x = false) ∨ (q x = false ∧ r x = true)) → (l.filter p).length = (l.filter fun x => p x && q x).length + (l.filter fun x => p x && r x).length
  | [], _ => rfl
  | x :: l, h => by
    have ih := filter_split p q r l fun y hy => h y (List.mem_cons_of_mem _ hy)
    by_cases hp : p x = true
    · rcases h x List.mem_cons_self hp with ⟨h1, h2⟩ | ⟨h1, h2⟩
      · simp [hp, h1, h2]; omega
      · simp [hp, h1, h2]; omega
    · simp [hp]; omega
theorem betw_len {n : Nat} {one other : List Int} (h1 : one.Perm (upTo n)) (h2 : other.Perm (upTo n)) :
    lenOf (betw one other) = (((pairsOf one).filter fun p => !decide (p ∈ pairsOf other)).length : Int) + (((pairsOf other).filter fun p => !decide (p ∈ pairsOf one)).length : Int) := by
  have nd1 := row_nodup h1
  have nd2 := row_nodup h2
  have m1 : ∀ x, x ∈ one ↔ x ∈ other := fun x => by rw [h1.mem_iff, h2.mem_iff]
  unfold betw
  rw [len_map]
  rw [filter_split (fun p : Int × Int => decide (((one.idxOf p.2 : Nat) : Int) < ((one.idxOf p.1 : Nat) : Int))) (fun p => decide (p.1 < p.2)) (fun p => decide (p.2 < p.1))]
  · have pA : ((seqs other).filter fun p => decide (((one.idxOf p.2 : Nat) : Int) < ((one.idxOf p.1 : Nat) : Int)) && decide (p.1 < p.2)).Perm ((pairsOf one).filter fun p => !decide (p ∈ pairsOf other)) := by
      refine (List.perm_ext_iff_of_nodup ((seqs_nodup nd2).sublist List.filter_sublist) ((pairs_nodup nd1).sublist List.filter_sublist)).mpr fun p => ?_
      obtain ⟨u, v⟩ := p
      simp only [List.mem_filter, Bool.and_eq_true, decide_eq_true_eq, Bool.not_eq_true', decide_eq_false_iff_not, mem_seqs, mem_pairs]
      constructor
      · rintro ⟨h, hlt, huv⟩
        have hu : u ∈ other := h.subset (by simp)
        have hv : v ∈ other := h.subset (by simp)
        exact ⟨⟨huv, (idx_sub nd1).mpr ⟨(m1 u).mpr hu, (m1 v).mpr hv, by omega⟩⟩, fun z => one_order nd2 h z.2⟩
      · rintro ⟨⟨huv, h⟩, hn⟩
        have hu : u ∈ one := h.subset (by simp)
        have hv : v ∈ one := h.subset (by simp)
        have := ((idx_sub nd1).mp h).2.2
        exact ⟨(two_orders (by omega) ((m1 u).mp hu) ((m1 v).mp hv)).resolve_right fun z => hn ⟨huv, z⟩, by omega, huv⟩
    have pB : (((seqs other).filter fun p => decide (((one.idxOf p.2 : Nat) : Int) < ((one.idxOf p.1 : Nat) : Int)) && decide (p.2 < p.1)).map fun p => (p.2, p.1)).Perm ((pairsOf other).filter fun p => !decide (p ∈ pairsOf one)) := by
      have ndS : (((seqs other).filter fun p => decide (((one.idxOf p.2 : Nat) : Int) < ((one.idxOf p.1 : Nat) : Int)) && decide (p.2 < p.1)).map fun p => (p.2, p.1)).Nodup :=
        List.pairwise_map.mpr (((seqs_nodup nd2).sublist List.filter_sublist).imp fun {p q} ne e => ne (by
          simp only [Prod.mk.injEq] at e
          exact Prod.ext e.2 e.1))
      refine (List.perm_ext_iff_of_nodup ndS ((pairs_nodup nd2).sublist List.filter_sublist)).mpr fun p => ?_
      · obtain ⟨x, y⟩ := p
        simp only [List.mem_map, List.mem_filter, Bool.and_eq_true, decide_eq_true_eq, Bool.not_eq_true', decide_eq_false_iff_not, Prod.mk.injEq, Prod.exists, mem_seqs, mem_pairs]
        constructor
        · rintro ⟨u, v, ⟨h, hlt, hvu⟩, rfl, rfl⟩
          exact ⟨⟨hvu, h⟩, fun z => by have := ((idx_sub nd1).mp z.2).2.2; omega⟩
        · rintro ⟨⟨hxy, h⟩, hn⟩
          have hx : x ∈ one := (m1 x).mpr (h.subset (by simp))
          have hy : y ∈ one := (m1 y).mpr (h.subset (by simp))
          refine ⟨y, x, ⟨h, ?_, hxy⟩, rfl, rfl⟩
          have ne : one.idxOf x ≠ one.idxOf y := fun e => by have := idx_inj hx hy e; omega
          have : ¬ one.idxOf y < one.idxOf x := fun z => hn ⟨hxy, (idx_sub nd1).mpr ⟨hx, hy, z⟩⟩
          omega
    have l1 := pA.length_eq
    have l2 := pB.length_eq
    rw [List.length_map] at l2
    omega
  · rintro ⟨u, v⟩ h hlt
    have hs := mem_seqs.mp h
    have hlt := of_decide_eq_true hlt
    have ne : u ≠ v := fun e => by subst e; simp at hlt
    by_cases c : u < v
    · exact .inl ⟨decide_eq_true c, decide_eq_false (by dsimp only; omega)⟩
    · exact .inr ⟨decide_eq_false c, decide_eq_true (by dsimp only; omega)⟩
theorem betw_perm {n : Nat} {one other : List Int} (h1 : one.Perm (upTo n)) (h2 : other.Perm (upTo n)) : (betw one other).Perm (upTo n) := by
  have hl : one.length = n := by rw [h1.length_eq, upTo_len]
  refine (List.perm_ext_iff_of_nodup ?_ (row_nodup (.refl _))).mpr fun z => ?_
  · refine List.pairwise_map.mpr (List.Pairwise.imp_of_mem (fun {x y} hx hy ne e => ne ?_) (row_nodup h2))
    exact idx_inj (h1.mem_iff.mpr (h2.mem_iff.mp hx)) (h1.mem_iff.mpr (h2.mem_iff.mp hy)) (by omega)
  · rw [upTo_mem]
    constructor
    · intro h
      obtain ⟨x, hx, rfl⟩ := List.mem_map.mp h
      have := idx_lt (h1.mem_iff.mpr (h2.mem_iff.mp hx))
      omega
    · rintro ⟨z0, zn⟩
      have hz : z.toNat < one.length := by omega
      refine List.mem_map.mpr ⟨one.getD z.toNat 0, ?_, ?_⟩
      · have : one.getD z.toNat 0 ∈ one := by
          rw [List.getD_eq_getElem?_getD, List.getElem?_eq_getElem hz]
          exact List.getElem_mem hz
        exact h2.mem_iff.mpr (h1.mem_iff.mp this)
      · rw [idx_get (row_nodup h1) hz]
        omega
theorem betw_self {n : Nat} {one : List Int} (h : one.Perm (upTo n)) : betw one one = upTo n := by
  have hl : one.length = n := by rw [h.length_eq, upTo_len]
  refine List.ext_getElem? fun k => ?_
  unfold betw upTo
  rw [List.getElem?_map, List.getElem?_map]
  by_cases hk : k < n
  · have := idx_get (row_nodup h) (k := k) (by omega)
    rw [List.getD_eq_getElem?_getD, List.getElem?_eq_getElem (by omega)] at this
    rw [List.getElem?_eq_getElem (by omega), List.getElem?_range hk]
    simp at this
    simp [this]
  · rw [List.getElem?_eq_none (by omega), List.getElem?_eq_none (by simp; omega)]
    rfl
theorem other_betw {n : Nat} {one : List Int} (h : one.Perm (upTo n)) : otherOf one = betw one (upTo n) := by
  have hl : one.length = n := by rw [h.length_eq, upTo_len]
  unfold otherOf betw upTo
  rw [hl, List.map_map]
  rfl
theorem other_lenOf {n : Nat} {one : List Int} (h : one.Perm (upTo n)) : lenOf (otherOf one) = lenOf one := by
  rw [other_betw h, betw_len h (.refl _), pairs_upTo]
  have e1 : (pairsOf one).filter (fun p => !decide (p ∈ ([] : List (Int × Int)))) = pairsOf one := List.filter_eq_self.mpr fun p _ => by simp
  rw [e1, ← pairs_len one]
  simp
theorem shaped_tupI' (ns : List Int) : SeqAt.shaped (.list (ns.map PyData.int)) = true := (shaped_list (k := 0) (fun d hd => by
  obtain ⟨x, _, rfl⟩ := List.mem_map.mp hd
  exact ⟨rfl, by simp [PyData.depth]⟩) (by decide)).1
theorem ev_ixT {a b : DTE} {ρ : Rho} {ns : List Int} {x : Int} (ha : Ev a ρ (tupI ns)) (hb : Ev b ρ (.int x)) (hx : x ∈ ns) : Ev (gIndexT a b) ρ (.int ((ns.idxOf x : Nat) : Int)) := fun Q q => by
  refine ha _ ⟨ns.map PyData.int, rfl, hb _ ⟨shaped_tupI' ns, by simp [SeqAt.shaped, PyData.canLay0, PyData.depth], ns.idxOf x, .int x, ?_, by simp [PyData.eqv], fun m z hm hz => ?_, q⟩⟩
  · rw [List.getElem?_map, (idx_first hx).1]; rfl
  · rw [List.getElem?_map] at hz
    obtain ⟨y, hy, rfl⟩ := Option.map_eq_some_iff.mp hz
    have ne := (idx_first hx).2 m hm
    have : y ≠ x := fun e => ne (by rw [hy, e])
    simp [PyData.eqv, this]
/-! words by first drops -/
inductive Least : List Int → List Nat → Prop
  | done {c : List Int} : dropsOf c = [] → Least c []
  | step {c : List Int} {k : Nat} {t : List Int} {w : List Nat} : dropsOf c = (k : Int) :: t → Least (exch c k (k + 1)) w → Least c (k :: w)
theorem least_one {c : List Int} {w v : List Nat} (h : Least c w) : Least c v → w = v := by
  induction h generalizing v with
  | done e =>
    intro g
    cases g with
    | done _ => rfl
    | step e' _ => rw [e] at e'; cases e'
  | step e _ ih =>
    intro g
    cases g with
    | done e' => rw [e] at e'; cases e'
    | step e' g =>
      rw [e] at e'
      simp only [List.cons.injEq] at e'
      have : _ = _ := Int.ofNat.inj e'.1
      subst this
      rw [ih g]
theorem exch_mapF (f : Int → Int) {c : List Int} {i j : Nat} (hi : i < c.length) (hj : j < c.length) : (exch c i j).map f = exch (c.map f) i j := by
  unfold exch
  have g : ∀ k, k < c.length → (c.map f).getD k 0 = f (c.getD k 0) := fun k hk => by simp [List.getD, hk]
  rw [g i hi, g j hj, List.map_set, List.map_set]
theorem led_mapF (f : Int → Int) : ∀ {ws : List Nat} {c : List Int}, WordOk c.length ws → ledM (c.map f) ws = (ledM c ws).map f
  | [], _, _ => rfl
  | k :: r, c, h => by
    have hk := h k List.mem_cons_self
    show ledM (exch (c.map f) k (k + 1)) r = _
    rw [← exch_mapF f (by omega) hk]
    exact led_mapF f fun j hj => by rw [exch_length]; exact h j (List.mem_cons_of_mem _ hj)
theorem drops_small {c : List Int} {x : Int} (h : x ∈ dropsOf c) : ∃ k : Nat, x = k ∧ k + 1 < c.length ∧ c.getD (k + 1) 0 < c.getD k 0 := by
  unfold dropsOf at h
  obtain ⟨k, hk, rfl⟩ := List.mem_map.mp h
  obtain ⟨h1, h2⟩ := List.mem_filter.mp hk
  have := List.mem_range.mp h1
  exact ⟨k, rfl, by omega, by simpa using h2⟩

/-! ## far moves -/
def Far (i j : Nat) : Prop := i + 1 < j ∨ j + 1 < i
theorem Far.sym {i j : Nat} (h : Far i j) : Far j i := h.elim .inr .inl
inductive FarStep : List Nat → List Nat → Prop
  | mk (u v : List Nat) {i j : Nat} : Far i j → FarStep (u ++ i :: j :: v) (u ++ j :: i :: v)
theorem FarStep.sym {u v : List Nat} (h : FarStep u v) : FarStep v u := by
  cases h with
  | mk a b f => exact .mk a b f.sym
theorem FarStep.cons {u v : List Nat} (k : Nat) (h : FarStep u v) : FarStep (k :: u) (k :: v) := by
  cases h with
  | mk a b f => exact .mk (k :: a) b f
inductive Reach : List Nat → List Nat → Prop
  | refl (w : List Nat) : Reach w w
  | step {u v w : List Nat} : Reach u v → FarStep v w → Reach u w
theorem Reach.trans {u v w : List Nat} (h : Reach u v) (g : Reach v w) : Reach u w := by
  induction g with
  | refl => exact h
  | step _ s ih => exact ih.step s
theorem Reach.sym {u v : List Nat} (h : Reach u v) : Reach v u := by
  induction h with
  | refl => exact .refl _
  | step _ s ih => exact (Reach.step (.refl _) s.sym).trans ih
theorem Reach.cons {u v : List Nat} (k : Nat) (h : Reach u v) : Reach (k :: u) (k :: v) := by
  induction h with
  | refl => exact .refl _
  | step _ s ih => exact ih.step (s.cons k)
theorem reach_bubble {k : Nat} {w : List Nat} : ∀ {v : List Nat}, (∀ l ∈ v, Far k l) → Reach (k :: (v ++ w)) (v ++ k :: w)
  | [], _ => .refl _
  | l :: v, h => (Reach.step (.refl _) (FarStep.mk [] (v ++ w) (h l List.mem_cons_self))).trans ((reach_bubble fun x hx => h x (List.mem_cons_of_mem _ hx)).cons l)
theorem ext_getD {a b : List Int} (hl : a.length = b.length) (h : ∀ k, k < a.length → a.getD k 0 = b.getD k 0) : a = b := by
  refine List.ext_getElem? fun k => ?_
  by_cases hk : k < a.length
  · have := h k hk
    simp only [List.getD_eq_getElem?_getD, List.getElem?_eq_getElem hk, List.getElem?_eq_getElem (show k < b.length by omega), Option.getD_some] at this
    rw [List.getElem?_eq_getElem hk, List.getElem?_eq_getElem (by omega), this]
  · rw [List.getElem?_eq_none (by omega), List.getElem?_eq_none (by omega)]
theorem exch_comm {r : List Int} {i j : Nat} (f : Far i j) (hi : i + 1 < r.length) (hj : j + 1 < r.length) : exch (exch r i (i + 1)) j (j + 1) = exch (exch r j (j + 1)) i (i + 1) := by
  refine ext_getD (by simp [exch_length]) fun k _ => ?_
  unfold Far at f
  rw [exch_get (ns := exch r i (i + 1)) (by rw [exch_length]; exact hj), exch_get (ns := exch r j (j + 1)) (by rw [exch_length]; exact hi)]
  simp only [exch_get hi, exch_get hj]
  by_cases h1 : k = i
  · subst h1
    simp [show k ≠ j by omega, show k ≠ j + 1 by omega, show k + 1 ≠ j by omega]
  · by_cases h2 : k = i + 1
    · subst h2
      simp [show i + 1 ≠ j by omega, show i ≠ j by omega, show i ≠ j + 1 by omega]
    · by_cases h3 : k = j
      · subst h3
        simp [h1, h2, show k + 1 ≠ i by omega, show k ≠ i by omega]
      · by_cases h4 : k = j + 1
        · subst h4
          simp [h1, h2, show j ≠ i by omega, show j ≠ i + 1 by omega]
        · simp [h1, h2, h3, h4]
theorem exch_at_far {r : List Int} {i j : Nat} (f : Far i j) (hi : i + 1 < r.length) : (exch r i (i + 1)).getD j 0 = r.getD j 0 ∧ (exch r i (i + 1)).getD (j + 1) 0 = r.getD (j + 1) 0 := by
  unfold Far at f
  rw [exch_get hi, exch_get hi]
  constructor
  · rw [if_neg (by omega), if_neg (by omega)]
  · rw [if_neg (by omega), if_neg (by omega)]
theorem ups_app : ∀ {u v : List Nat} {r : List Int}, Ups r (u ++ v) ↔ Ups r u ∧ Ups (ledM r u) v
  | [], v, r => ⟨fun h => ⟨trivial, h⟩, fun h => h.2⟩
  | k :: u, v, r => by
    show (_ ∧ _ ∧ Ups _ (u ++ v)) ↔ (_ ∧ _ ∧ Ups _ u) ∧ Ups (ledM _ u) v
    rw [ups_app (u := u)]
    exact ⟨fun h => ⟨⟨h.1, h.2.1, h.2.2.1⟩, h.2.2.2⟩, fun h => ⟨h.1.1, h.1.2.1, h.1.2.2, h.2⟩⟩
theorem wpairs_app : ∀ (u v : List Nat) (r : List Int), wpairs r (u ++ v) = wpairs r u ++ wpairs (ledM r u) v
  | [], _, _ => rfl
  | k :: u, v, r => by
    show _ :: wpairs _ (u ++ v) = _ :: (wpairs _ u ++ _)
    rw [wpairs_app u v]
    rfl
/-- the pair at a place -/
def pAt (r : List Int) (k : Nat) : Int × Int := (min (r.getD k 0) (r.getD (k + 1) 0), max (r.getD k 0) (r.getD (k + 1) 0))
theorem pAt_up {r : List Int} {k : Nat} (h : r.getD k 0 < r.getD (k + 1) 0) : pAt r k = (r.getD k 0, r.getD (k + 1) 0) := by
  unfold pAt
  rw [Int.min_eq_left (by omega), Int.max_eq_right (by omega)]
theorem wpairs_cons (r : List Int) (k : Nat) (v : List Nat) : wpairs r (k :: v) = pAt r k :: wpairs (exch r k (k + 1)) v := rfl
/-- a far move of a word that goes up -/
theorem far_ups {r : List Int} {u v : List Nat} {i j : Nat} (f : Far i j) (h : Ups r (u ++ i :: j :: v)) :
    Ups r (u ++ j :: i :: v) ∧ ledM r (u ++ j :: i :: v) = ledM r (u ++ i :: j :: v) ∧ wpairs r (u ++ i :: j :: v) = wpairs r u ++ pAt (ledM r u) i :: pAt (ledM r u) j :: wpairs (ledM r (u ++ [i, j])) v ∧
      wpairs r (u ++ j :: i :: v) = wpairs r u ++ pAt (ledM r u) j :: pAt (ledM r u) i :: wpairs (ledM r (u ++ [i, j])) v := by
  obtain ⟨h1, h2, h3, h4, h5, h6⟩ := ups_app.mp h
  have hj : j + 1 < (ledM r u).length := by rwa [exch_length] at h4
  obtain ⟨a1, a2⟩ := exch_at_far f h2
  obtain ⟨b1, b2⟩ := exch_at_far f.sym hj
  have c := exch_comm f h2 hj
  rw [a1, a2] at h5
  have e1 : pAt (exch (ledM r u) i (i + 1)) j = pAt (ledM r u) j := by unfold pAt; rw [a1, a2]
  have e2 : pAt (exch (ledM r u) j (j + 1)) i = pAt (ledM r u) i := by unfold pAt; rw [b1, b2]
  refine ⟨ups_app.mpr ⟨h1, hj, h5, by rw [exch_length]; exact h2, by rw [b1, b2]; exact h3, by rw [← c]; exact h6⟩, ?_, ?_, ?_⟩
  · rw [led_append, led_append]
    show ledM (exch (exch (ledM r u) j (j + 1)) i (i + 1)) v = ledM (exch (exch (ledM r u) i (i + 1)) j (j + 1)) v
    rw [c]
  · rw [wpairs_app, wpairs_cons, wpairs_cons, e1, led_append]
    rfl
  · rw [wpairs_app, wpairs_cons, wpairs_cons, e2, led_append, ← c]
    rfl
theorem getD_inj {r : List Int} (nd : r.Nodup) {i j : Nat} (hi : i < r.length) (hj : j < r.length) (e : r.getD i 0 = r.getD j 0) : i = j := by
  have h1 := idx_get nd hi
  rw [e, idx_get nd hj] at h1
  exact h1.symm
def shares (p q : Int × Int) : Prop := p ≠ q ∧ (p.1 = q.1 ∨ p.1 = q.2 ∨ p.2 = q.1 ∨ p.2 = q.2)
theorem far_apart {r : List Int} (nd : r.Nodup) {i j : Nat} (f : Far i j) (hi : i + 1 < r.length) (hj : j + 1 < r.length) (ui : r.getD i 0 < r.getD (i + 1) 0) (uj : r.getD j 0 < r.getD (j + 1) 0) : ¬ shares (pAt r i) (pAt r j) := by
  rw [pAt_up ui, pAt_up uj]
  unfold Far at f
  rintro ⟨_, h | h | h | h⟩
  · have := getD_inj nd (by omega) (by omega) h; omega
  · have := getD_inj nd (by omega) (by omega) h; omega
  · have := getD_inj nd (by omega) (by omega) h; omega
  · have := getD_inj nd (by omega) (by omega) h; omega
theorem shares.sym {p q : Int × Int} (h : shares p q) : shares q p := ⟨fun e => h.1 e.symm, by obtain ⟨_, h | h | h | h⟩ := h <;> simp [h]⟩
/-- two things beside each other change places: all other orders stay -/
theorem idx_swap {P Q : List (Int × Int)} {p q s t : Int × Int} (nd : (P ++ p :: q :: Q).Nodup) (hs : s ∈ P ++ p :: q :: Q) (ht : t ∈ P ++ p :: q :: Q) (h : ¬ (s = p ∧ t = q)) (h' : ¬ (s = q ∧ t = p)) :
    (P ++ p :: q :: Q).idxOf s < (P ++ p :: q :: Q).idxOf t ↔ (P ++ q :: p :: Q).idxOf s < (P ++ q :: p :: Q).idxOf t := by
  obtain ⟨n1, n2, n3⟩ := List.nodup_append.mp nd
  obtain ⟨m1, m2⟩ := List.nodup_cons.mp n2
  obtain ⟨m3, _⟩ := List.nodup_cons.mp m2
  have pq : p ≠ q := fun e => m1 (by rw [e]; exact List.mem_cons_self)
  have val : ∀ x, x ∈ P ++ p :: q :: Q → ((P ++ p :: q :: Q).idxOf x = P.idxOf x ∧ (P ++ q :: p :: Q).idxOf x = P.idxOf x ∧ P.idxOf x < P.length ∧ x ≠ p ∧ x ≠ q) ∨ (x = p ∧ (P ++ p :: q :: Q).idxOf x = P.length ∧ (P ++ q :: p :: Q).idxOf x = P.length + 1) ∨
      (x = q ∧ (P ++ p :: q :: Q).idxOf x = P.length + 1 ∧ (P ++ q :: p :: Q).idxOf x = P.length) ∨ ((P ++ p :: q :: Q).idxOf x = P.length + 2 + Q.idxOf x ∧ (P ++ q :: p :: Q).idxOf x = P.length + 2 + Q.idxOf x ∧ x ≠ p ∧ x ≠ q) := by
    intro x hx
    rw [List.idxOf_append, List.idxOf_append]
    by_cases hP : x ∈ P
    · rw [if_pos hP, if_pos hP]
      exact .inl ⟨rfl, rfl, idx_lt hP, n3 x hP p (by simp), n3 x hP q (by simp)⟩
    · rw [if_neg hP, if_neg hP]
      by_cases hp : x = p
      · subst hp
        rw [ix_self, ix_ne (Ne.symm pq), ix_self]
        exact .inr (.inl ⟨rfl, by omega, by omega⟩)
      · by_cases hq : x = q
        · subst hq
          rw [ix_ne pq, ix_self, ix_self]
          exact .inr (.inr (.inl ⟨rfl, by omega, by omega⟩))
        · rw [ix_ne (Ne.symm hp), ix_ne (Ne.symm hq), ix_ne (Ne.symm hq), ix_ne (Ne.symm hp)]
          exact .inr (.inr (.inr ⟨by omega, by omega, hp, hq⟩))
  rcases val s hs with ⟨a1, a2, a3, a4, a5⟩ | ⟨a1, a2, a3⟩ | ⟨a1, a2, a3⟩ | ⟨a1, a2, a3, a4⟩ <;> rcases val t ht with ⟨b1, b2, b3, b4, b5⟩ | ⟨b1, b2, b3⟩ | ⟨b1, b2, b3⟩ | ⟨b1, b2, b3, b4⟩ <;> first
    | omega
    | (refine absurd (And.intro ?_ ?_) h <;> assumption)
    | (refine absurd (And.intro ?_ ?_) h' <;> assumption)
/-- the order of pairs that share a thing -/
def Same (P Q : List (Int × Int)) : Prop := ∀ s ∈ P, ∀ t ∈ P, shares s t → (P.idxOf s < P.idxOf t ↔ Q.idxOf s < Q.idxOf t)
theorem ups_nodup {r : List Int} {u : List Nat} (nd : r.Nodup) (h : Ups r u) : (wpairs r u).Nodup := by
  have p := ups_pairs h
  have : (pairsOf (ledM r u)).Nodup := pairs_nodup ((led_perm (ups_ok h)).nodup_iff.mpr nd)
  exact (List.nodup_append.mp (p.nodup_iff.mpr this)).1
theorem far_same {r : List Int} (nd : r.Nodup) {u v : List Nat} (h : Ups r u) (s : FarStep u v) : Ups r v ∧ ledM r v = ledM r u ∧ Same (wpairs r u) (wpairs r v) ∧ (wpairs r u).Perm (wpairs r v) := by
  cases s with
  | mk a b f =>
    rename_i i j
    obtain ⟨h1, h2, h3, h4⟩ := far_ups f h
    have ndu := ups_nodup nd h
    obtain ⟨g1, g2, g3, g4, g5, g6⟩ := ups_app.mp h
    obtain ⟨a1, a2⟩ := exch_at_far f g2
    rw [a1, a2] at g5
    have hj : j + 1 < (ledM r a).length := by rwa [exch_length] at g4
    have ap := far_apart ((led_perm (ups_ok g1)).nodup_iff.mpr nd) f g2 hj g3 g5
    refine ⟨h1, h2, fun s hs t ht sh => ?_, ?_⟩
    · rw [h3] at hs ht ndu ⊢
      rw [h4]
      exact idx_swap ndu hs ht (fun ⟨e1, e2⟩ => ap (e1 ▸ e2 ▸ sh)) fun ⟨e1, e2⟩ => ap (by rw [e1, e2] at sh; exact sh.sym)
    · rw [h3, h4]
      exact (List.Perm.swap _ _ _).append_left _
theorem Same.trans {P Q R : List (Int × Int)} (h : Same P Q) (g : Same Q R) (p : P.Perm Q) : Same P R := fun s hs t ht sh => (h s hs t ht sh).trans (g s (p.mem_iff.mp hs) t (p.mem_iff.mp ht) sh)
theorem reach_same {r : List Int} (nd : r.Nodup) {u v : List Nat} (h : Ups r u) (s : Reach u v) : Ups r v ∧ ledM r v = ledM r u ∧ Same (wpairs r u) (wpairs r v) ∧ (wpairs r u).Perm (wpairs r v) := by
  induction s with
  | refl => exact ⟨h, rfl, fun _ _ _ _ _ => .rfl, .refl _⟩
  | step _ f ih =>
    obtain ⟨h1, h2, h3, h4⟩ := ih
    obtain ⟨g1, g2, g3, g4⟩ := far_same nd h1 f
    exact ⟨g1, g2.trans h2, h3.trans g3 h4, h4.trans g4⟩
/-- what touches neither of two things beside each other -/
theorem untouched {k : Nat} : ∀ {v : List Nat} {r : List Int}, r.Nodup → Ups r v → k + 1 < r.length → (∀ q ∈ wpairs r v, q.1 ≠ r.getD k 0 ∧ q.2 ≠ r.getD k 0 ∧ q.1 ≠ r.getD (k + 1) 0 ∧ q.2 ≠ r.getD (k + 1) 0) →
    (∀ l ∈ v, Far k l) ∧ (ledM r v).getD k 0 = r.getD k 0 ∧ (ledM r v).getD (k + 1) 0 = r.getD (k + 1) 0
  | [], _, _, _, _, _ => ⟨(fun _ h => nomatch h), rfl, rfl⟩
  | l :: v, r, nd, h, hk, hq => by
    obtain ⟨h1, h2, h3⟩ := h
    have h0 := hq _ (show pAt r l ∈ wpairs r (l :: v) from List.mem_cons_self)
    rw [pAt_up h2] at h0
    obtain ⟨q1, q2, q3, q4⟩ := h0
    have f : Far k l := by
      unfold Far
      have a1 : l ≠ k := fun e => q1 (by rw [e])
      have a2 : l + 1 ≠ k := fun e => q2 (by rw [← e])
      have a3 : l ≠ k + 1 := fun e => q3 (by rw [e])
      omega
    obtain ⟨e1, e2⟩ := exch_at_far f.sym h1
    obtain ⟨g1, g2, g3⟩ := untouched (v := v) (r := exch r l (l + 1)) (((exch_perm h1).nodup_iff).mpr nd) h3 (by rw [exch_length]; exact hk) (fun q h => by
      rw [e1, e2]
      exact hq q (List.mem_cons_of_mem _ h))
    refine ⟨fun x hx => ?_, g2.trans e1, g3.trans e2⟩
    rcases List.mem_cons.mp hx with rfl | hx
    · exact f
    · exact g1 x hx
theorem wpairs_split {v : List Nat} {r : List Int} {p : Int × Int} (h : p ∈ wpairs r v) : ∃ v1 j v2, v = v1 ++ j :: v2 ∧ p = pAt (ledM r v1) j ∧ (wpairs r v).idxOf p = v1.length ∧ ∀ q ∈ wpairs r v1, q ≠ p := by
  induction v generalizing r with
  | nil => cases h
  | cons k v ih =>
    by_cases e : pAt r k = p
    · refine ⟨[], k, v, rfl, e.symm, ?_, fun q hq => by cases hq⟩
      rw [wpairs_cons, ← e, ix_self]; rfl
    · obtain ⟨v1, j, v2, rfl, h2, h3, h4⟩ := ih ((List.mem_cons.mp (show p ∈ pAt r k :: wpairs _ v from h)).resolve_left (Ne.symm e))
      refine ⟨k :: v1, j, v2, rfl, h2, ?_, fun q hq => ?_⟩
      · rw [wpairs_cons, ix_ne e, h3]; rfl
      · rcases List.mem_cons.mp (show q ∈ pAt r k :: wpairs _ v1 from hq) with rfl | hq
        · exact e
        · exact h4 q hq
theorem trace : ∀ {u v : List Nat} {r : List Int}, r.Nodup → Ups r u → Ups r v → Same (wpairs r u) (wpairs r v) → (wpairs r u).Perm (wpairs r v) → Reach u v
  | [], v, r, _, _, _, _, p => by
    have := p.length_eq
    rw [wpairs_len, wpairs_len] at this
    have : v = [] := List.eq_nil_of_length_eq_zero this.symm
    rw [this]
    exact .refl _
  | k :: u, v, r, nd, hu, hv, sm, p => by
    obtain ⟨h1, h2, h3⟩ := hu
    have hu' : Ups r (k :: u) := ⟨h1, h2, h3⟩
    have ep := pAt_up h2
    have mem : pAt r k ∈ wpairs r (k :: u) := List.mem_cons_self
    obtain ⟨v1, j, v2, rfl, ej, ei, en⟩ := wpairs_split (p.mem_iff.mp mem)
    obtain ⟨g1, g2, g3, g4⟩ := ups_app.mp hv
    have ndv := ups_nodup nd hv
    have out : ∀ q ∈ wpairs r v1, ¬ shares q (pAt r k) := fun q hq sh => by
      have hqv : q ∈ wpairs r (v1 ++ j :: v2) := by rw [wpairs_app]; exact List.mem_append_left _ hq
      have lt : (wpairs r (v1 ++ j :: v2)).idxOf q < (wpairs r (v1 ++ j :: v2)).idxOf (pAt r k) := by
        rw [ei, wpairs_app, List.idxOf_append, if_pos hq]
        have := idx_lt hq
        rwa [wpairs_len] at this
      have := (sm q (p.mem_iff.mpr hqv) _ mem sh).mpr lt
      rw [show (wpairs r (k :: u)).idxOf (pAt r k) = 0 from ix_self] at this
      omega
    have apart : ∀ q ∈ wpairs r v1, q.1 ≠ r.getD k 0 ∧ q.2 ≠ r.getD k 0 ∧ q.1 ≠ r.getD (k + 1) 0 ∧ q.2 ≠ r.getD (k + 1) 0 := fun q hq => by
      have n := out q hq
      have ne := en q hq
      rw [ep] at n ne
      unfold shares at n
      refine ⟨fun e => n ⟨ne, .inl e⟩, fun e => n ⟨ne, .inr (.inr (.inl e))⟩, fun e => n ⟨ne, .inr (.inl e)⟩, fun e => n ⟨ne, .inr (.inr (.inr e))⟩⟩
    obtain ⟨far, e1, e2⟩ := untouched nd g1 h1 apart
    have ndr : (ledM r v1).Nodup := (led_perm (ups_ok g1)).nodup_iff.mpr nd
    have ll : (ledM r v1).length = r.length := led_len (ups_ok g1)
    have jk : j = k := by
      rw [ep, pAt_up g3] at ej
      have := congrArg Prod.fst ej
      dsimp only at this
      rw [← e1] at this
      exact (getD_inj ndr (by omega) (by omega) this).symm
    subst jk
    have rb : Reach (v1 ++ j :: v2) (j :: (v1 ++ v2)) := (reach_bubble far).sym
    obtain ⟨k1, k2, k3, k4⟩ := reach_same nd hv rb
    obtain ⟨_, _, k5⟩ := k1
    have sm2 := sm.trans k3 p
    have p2 := p.trans k4
    have ndu := ups_nodup nd hu'
    rw [wpairs_cons] at ndu
    obtain ⟨nu1, nu2⟩ := List.nodup_cons.mp ndu
    refine (Reach.cons j (trace (((exch_perm h1).nodup_iff).mpr nd) h3 k5 (fun s hs t ht sh => ?_) (List.Perm.cons_inv (by rw [wpairs_cons, wpairs_cons] at p2; exact p2)))).trans rb.sym
    have ns : pAt r j ≠ s := fun e => nu1 (by rw [e]; exact hs)
    have nt : pAt r j ≠ t := fun e => nu1 (by rw [e]; exact ht)
    have q := sm2 s (List.mem_cons_of_mem _ hs) t (List.mem_cons_of_mem _ ht) sh
    rw [wpairs_cons, wpairs_cons, ix_ne ns, ix_ne nt, ix_ne ns, ix_ne nt] at q
    omega
theorem ev_ixP {a b : DTE} {ρ : Rho} {ps : List (Int × Int)} {p : Int × Int} (ha : Ev a ρ (.tuple (ps.map pD))) (hb : Ev b ρ (pD p)) (hp : p ∈ ps) : Ev (gIndexT a b) ρ (.int ((ps.idxOf p : Nat) : Int)) := fun Q q => ha _ ⟨_, rfl, hb _ (ix_pair (idx_first hp).1 (idx_first hp).2 q)⟩
theorem ev_ixPL {a b : DTE} {ρ : Rho} {ps : List (Int × Int)} {p : Int × Int} (ha : Ev a ρ (.list (ps.map pD))) (hb : Ev b ρ (pD p)) (hp : p ∈ ps) : Ev (gIndexL a b) ρ (.int ((ps.idxOf p : Nat) : Int)) := fun Q q => ha _ ⟨_, rfl, hb _ (ix_pair (idx_first hp).1 (idx_first hp).2 q)⟩

/-! ## triples and senses -/
def tripAt (ns : List Int) (i j : Nat) : List (Int × Int × Int) := if ns.getD j 0 < ns.getD i 0 then (lessOf (ns.getD j 0) (ns.drop (j + 1))).map fun a => (a, ns.getD j 0, ns.getD i 0) else []
def tripRow (ns : List Int) (i : Nat) : List (Int × Int × Int) := (List.range (ns.length - (i + 1))).flatMap fun t => tripAt ns i (i + 1 + t)
def triplesOf (ns : List Int) : List (Int × Int × Int) := (List.range ns.length).flatMap (tripRow ns)
def tD (t : Int × Int × Int) : D := .tuple [.int t.1, .int t.2.1, .int t.2.2]
def tripOf : D → Int × Int × Int
  | .tuple [.int a, .int b, .int c] => (a, b, c)
  | _ => (0, 0, 0)
def tripS (ns : List Int) : List (Int × Int × Int) := (sorD ((triplesOf ns).map tD)).map tripOf
theorem tripS_D (ns : List Int) : (tripS ns).map tD = sorD ((triplesOf ns).map tD) := by
  unfold tripS
  rw [List.map_map]
  conv => rhs; rw [← List.map_id (sorD ((triplesOf ns).map tD))]
  refine List.map_congr_left fun d hd => ?_
  obtain ⟨p, _, rfl⟩ := List.mem_map.mp ((sorD_perm ((triplesOf ns).map tD)).mem_iff.mp hd)
  rfl
theorem tripS_perm (ns : List Int) : (tripS ns).Perm (triplesOf ns) := by
  have := (sorD_perm ((triplesOf ns).map tD)).map tripOf
  rw [List.map_map] at this
  have e : (triplesOf ns).map (tripOf ∘ tD) = triplesOf ns := by
    conv => rhs; rw [← List.map_id (triplesOf ns)]
    exact List.map_congr_left fun i _ => rfl
  rw [e] at this
  exact this
theorem sorU_trip {ts : List (Int × Int × Int)} {P : D → Prop} (h : P (.list (sorD (ts.map tD)))) : sorU (.list (ts.map tD)) P := by
  have m : ∀ d ∈ ts.map tD, ∃ p, d = tD p := fun d hd => by
    obtain ⟨p, _, rfl⟩ := List.mem_map.mp hd
    exact ⟨p, rfl⟩
  refine ⟨_, .inl rfl, fun d hd e he => ?_, .inl (.inl fun d hd => ?_), fun d hd => ?_, h⟩
  · obtain ⟨p, rfl⟩ := m d hd
    obtain ⟨q, rfl⟩ := m e he
    simp [tD, PySem.W.alike, PySem.W.alikeAll]
  · obtain ⟨p, rfl⟩ := m d hd
    exact ⟨_, _, rfl⟩
  · obtain ⟨p, rfl⟩ := m d hd
    exact ⟨by simp [tD, PyData.depth, PyData.depthAll], by simp [tD, PyData.canLay0, PyData.canLayAll0]⟩
theorem flat_le {α β : Type} {f : α → List β} {c : Nat} : ∀ {l : List α}, (∀ x ∈ l, (f x).length ≤ c) → (l.flatMap f).length ≤ l.length * c
  | [], _ => by simp
  | x :: l, h => by
    have h1 := h x List.mem_cons_self
    have h2 := flat_le fun y hy => h y (List.mem_cons_of_mem _ hy)
    rw [List.flatMap_cons, List.length_append, List.length_cons, Nat.add_mul]
    omega
theorem tripAt_le (ns : List Int) (i j : Nat) : (tripAt ns i j).length ≤ ns.length := by
  unfold tripAt
  split
  · rw [List.length_map]
    have := lessOf_le (ns.getD j 0) (ns.drop (j + 1))
    rw [List.length_drop] at this
    omega
  · exact Nat.zero_le _
theorem tripRow_le {ns : List Int} (h : ns.length ≤ 40) (i : Nat) : (tripRow ns i).length ≤ 1600 := by
  have := flat_le (l := List.range (ns.length - (i + 1))) (f := fun t => tripAt ns i (i + 1 + t)) (c := 40) fun x _ => Nat.le_trans (tripAt_le ns i _) h
  rw [List.length_range] at this
  have h2 : (ns.length - (i + 1)) * 40 ≤ 40 * 40 := Nat.mul_le_mul (by omega) (Nat.le_refl _)
  unfold tripRow
  omega
theorem triples_le {ns : List Int} (h : ns.length ≤ 40) : (triplesOf ns).length ≤ 64000 := by
  have := flat_le (l := List.range ns.length) (f := tripRow ns) (c := 1600) fun x _ => tripRow_le h x
  rw [List.length_range] at this
  have h2 : ns.length * 1600 ≤ 40 * 1600 := Nat.mul_le_mul h (Nat.le_refl _)
  unfold triplesOf
  omega
theorem getD_mem {ns : List Int} {k : Nat} (h : k < ns.length) : ns.getD k 0 ∈ ns := by
  rw [List.getD_eq_getElem?_getD, List.getElem?_eq_getElem h]
  exact List.getElem_mem h
theorem idx_getD {ns : List Int} {x : Int} (h : x ∈ ns) : ns.getD (ns.idxOf x) 0 = x := by
  rw [List.getD_eq_getElem?_getD, (idx_first h).1]; rfl
theorem mem_triples {ns : List Int} (nd : ns.Nodup) {a b c : Int} : (a, b, c) ∈ triplesOf ns ↔ (a, b) ∈ pairsOf ns ∧ (b, c) ∈ pairsOf ns := by
  unfold triplesOf tripRow
  rw [mem_pairs, mem_pairs, idx_sub nd, idx_sub nd]
  constructor
  · intro h
    obtain ⟨i, hi, h⟩ := List.mem_flatMap.mp h
    obtain ⟨t, ht, h⟩ := List.mem_flatMap.mp h
    have hi := List.mem_range.mp hi
    have ht := List.mem_range.mp ht
    unfold tripAt at h
    split at h
    · rename_i hlt
      obtain ⟨a', ha, e⟩ := List.mem_map.mp h
      simp only [Prod.mk.injEq] at e
      obtain ⟨rfl, rfl, rfl⟩ := e
      obtain ⟨hm, hl⟩ := List.mem_filter.mp ha
      have hl := of_decide_eq_true hl
      obtain ⟨m, hm'⟩ := List.getElem?_of_mem hm
      rw [List.getElem?_drop] at hm'
      have hk := (List.getElem?_eq_some_iff.mp hm').1
      have ea : ns.getD (i + 1 + t + 1 + m) 0 = a' := by rw [List.getD_eq_getElem?_getD, hm']; rfl
      have ia : ns.idxOf a' = i + 1 + t + 1 + m := by rw [← ea]; exact idx_get nd hk
      have ib := idx_get nd (k := i + 1 + t) (by omega)
      have ic := idx_get nd (k := i) (by omega)
      exact ⟨⟨hl, List.mem_of_mem_drop hm, getD_mem (by omega), by omega⟩, hlt, getD_mem (by omega), getD_mem hi, by omega⟩
    · cases h
  · rintro ⟨⟨h1, ha, hb, h2⟩, h3, _, hc, h4⟩
    have lb := idx_lt hb
    have la := idx_lt ha
    refine List.mem_flatMap.mpr ⟨ns.idxOf c, List.mem_range.mpr (idx_lt hc), List.mem_flatMap.mpr ⟨ns.idxOf b - (ns.idxOf c + 1), List.mem_range.mpr (by omega), ?_⟩⟩
    rw [show ns.idxOf c + 1 + (ns.idxOf b - (ns.idxOf c + 1)) = ns.idxOf b by omega]
    unfold tripAt
    rw [idx_getD hb, idx_getD hc, if_pos h3]
    refine List.mem_map.mpr ⟨a, List.mem_filter.mpr ⟨?_, decide_eq_true h1⟩, rfl⟩
    refine List.mem_of_getElem? (i := ns.idxOf a - (ns.idxOf b + 1)) ?_
    rw [List.getElem?_drop, show ns.idxOf b + 1 + (ns.idxOf a - (ns.idxOf b + 1)) = ns.idxOf a by omega]
    exact (idx_first ha).1
/-! the orders in which pairs are exchanged -/
theorem mem_take_idx {α : Type} [BEq α] [LawfulBEq α] {p : α} {L : List α} {t : Nat} : p ∈ L.take t ↔ p ∈ L ∧ L.idxOf p < t := by
  constructor
  · intro h
    have hL : p ∈ L := List.mem_of_mem_take h
    refine ⟨hL, ?_⟩
    have e : L.idxOf p = (L.take t).idxOf p := by
      conv => lhs; rw [← List.take_append_drop t L]
      rw [List.idxOf_append, if_pos h]
    have := idx_lt h
    rw [List.length_take] at this
    omega
  · rintro ⟨h, lt⟩
    refine List.mem_of_getElem? (i := L.idxOf p) ?_
    rw [List.getElem?_take, if_pos lt]
    exact (idx_first h).1
theorem wpairs_take (r : List Int) (u : List Nat) (t : Nat) : (wpairs r u).take t = wpairs r (u.take t) := by
  by_cases h : t ≤ u.length
  · conv => lhs; rw [← List.take_append_drop t u]
    rw [wpairs_app, List.take_left' (by rw [wpairs_len, List.length_take]; omega)]
  · rw [List.take_of_length_le (by rw [wpairs_len]; omega), List.take_of_length_le (by omega)]
section
variable {n : Nat} {row : List Int} {u v : List Nat}
theorem ups_take {r : List Int} {u : List Nat} (h : Ups r u) (t : Nat) : Ups r (u.take t) := by
  rw [← List.take_append_drop t u] at h
  exact (ups_app.mp h).1
theorem way_take (h : Ups (upTo n) u) {p : Int × Int} {t : Nat} : p ∈ pairsOf (ledM (upTo n) (u.take t)) ↔ p ∈ wpairs (upTo n) u ∧ (wpairs (upTo n) u).idxOf p < t := by
  rw [← (way_pairs ⟨ups_take h t, rfl⟩).mem_iff, ← wpairs_take, mem_take_idx]
theorem pairs_trans {r : List Int} (nd : r.Nodup) {a b c : Int} (h1 : (a, b) ∈ pairsOf r) (h2 : (b, c) ∈ pairsOf r) : (a, c) ∈ pairsOf r := by
  rw [mem_pairs, idx_sub nd] at *
  exact ⟨by omega, h1.2.1, h2.2.2.1, by omega⟩
theorem pairs_either {r : List Int} (nd : r.Nodup) {a b c : Int} (hb : b ∈ r) (hab : a < b) (hbc : b < c) (h : (a, c) ∈ pairsOf r) : (a, b) ∈ pairsOf r ∨ (b, c) ∈ pairsOf r := by
  rw [mem_pairs, idx_sub nd] at h
  rw [mem_pairs, mem_pairs, idx_sub nd, idx_sub nd]
  by_cases c1 : r.idxOf b < r.idxOf a
  · exact .inl ⟨hab, h.2.1, hb, c1⟩
  · exact .inr ⟨hbc, hb, h.2.2.1, by omega⟩
theorem idx_ne {α : Type} [BEq α] [LawfulBEq α] {x y : α} {ns : List α} (hx : x ∈ ns) (hy : y ∈ ns) (n : x ≠ y) : ns.idxOf x ≠ ns.idxOf y := fun e => n (idx_inj hx hy e)
/-- of three pairs of three things the outer one is exchanged between the two others -/
theorem between (h : Ups (upTo n) u) {a b c : Int} (hb : 0 ≤ b ∧ b < n) (hab : a < b) (hbc : b < c) (hac : (a, c) ∈ wpairs (upTo n) u) :
    ((a, b) ∈ wpairs (upTo n) u → (b, c) ∈ wpairs (upTo n) u → ((wpairs (upTo n) u).idxOf (a, b) < (wpairs (upTo n) u).idxOf (a, c) ↔ (wpairs (upTo n) u).idxOf (a, b) < (wpairs (upTo n) u).idxOf (b, c)) ∧ ((wpairs (upTo n) u).idxOf (a, c) < (wpairs (upTo n) u).idxOf (b, c) ↔ (wpairs (upTo n) u).idxOf (a, b) < (wpairs (upTo n) u).idxOf (b, c))) ∧
    ((b, c) ∉ wpairs (upTo n) u → (a, b) ∈ wpairs (upTo n) u ∧ (wpairs (upTo n) u).idxOf (a, b) < (wpairs (upTo n) u).idxOf (a, c)) ∧
    ((a, b) ∉ wpairs (upTo n) u → (b, c) ∈ wpairs (upTo n) u ∧ (wpairs (upTo n) u).idxOf (b, c) < (wpairs (upTo n) u).idxOf (a, c)) := by
  have pm : ∀ t, (ledM (upTo n) (u.take t)).Perm (upTo n) := fun t => led_perm (ups_ok (ups_take h t))
  have ndt : ∀ t, (ledM (upTo n) (u.take t)).Nodup := fun t => row_nodup (pm t)
  have hbt : ∀ t, b ∈ ledM (upTo n) (u.take t) := fun t => (pm t).mem_iff.mpr (upTo_mem.mpr hb)
  have low := pairs_either (ndt ((wpairs (upTo n) u).idxOf (a, c) + 1)) (hbt _) hab hbc ((way_take h).mpr ⟨hac, by omega⟩)
  rw [way_take h, way_take h] at low
  have n1 : (a, b) ≠ (a, c) := fun e => by simp at e; omega
  have n2 : (b, c) ≠ (a, c) := fun e => by simp at e; omega
  have n3 : (a, b) ≠ (b, c) := fun e => by simp at e; omega
  refine ⟨fun h1 h2 => ?_, fun h2 => ?_, fun h1 => ?_⟩
  · have d1 := idx_ne h1 hac n1
    have d2 := idx_ne h2 hac n2
    have d3 := idx_ne h1 h2 n3
    have up := pairs_trans (ndt (max ((wpairs (upTo n) u).idxOf (a, b)) ((wpairs (upTo n) u).idxOf (b, c)) + 1)) ((way_take h).mpr ⟨h1, by omega⟩) ((way_take h).mpr ⟨h2, by omega⟩)
    rw [way_take h] at up
    omega
  · have low := low.resolve_right fun z => h2 z.1
    have d1 := idx_ne low.1 hac n1
    exact ⟨low.1, by omega⟩
  · have low := low.resolve_left fun z => h1 z.1
    have d2 := idx_ne low.1 hac n2
    exact ⟨low.1, by omega⟩
theorem order_same (hp : row.Perm (upTo n)) (hu : IsWay n row u) (hv : IsWay n row v)
    (hs : ∀ a b c : Int, (a, b) ∈ pairsOf row → (b, c) ∈ pairsOf row → ((wpairs (upTo n) u).idxOf (a, b) < (wpairs (upTo n) u).idxOf (b, c) ↔ (wpairs (upTo n) v).idxOf (a, b) < (wpairs (upTo n) v).idxOf (b, c))) : Same (wpairs (upTo n) u) (wpairs (upTo n) v) := by
  have pu := way_pairs hu
  have pv := way_pairs hv
  have mu : ∀ {p}, p ∈ wpairs (upTo n) u ↔ p ∈ pairsOf row := pu.mem_iff
  have mv : ∀ {p}, p ∈ wpairs (upTo n) v ↔ p ∈ pairsOf row := pv.mem_iff
  have nd := row_nodup hp
  have rng : ∀ {x y : Int}, (x, y) ∈ pairsOf row → x < y ∧ 0 ≤ x ∧ y < n := fun {x y} h => by
    obtain ⟨h1, h2⟩ := mem_pairs.mp h
    have a := upTo_mem.mp (hp.mem_iff.mp (h2.subset (show x ∈ [y, x] by simp)))
    have b := upTo_mem.mp (hp.mem_iff.mp (h2.subset (show y ∈ [y, x] by simp)))
    exact ⟨h1, a.1, b.2⟩
  have swap : ∀ {p q : Int × Int}, p ∈ pairsOf row → q ∈ pairsOf row → p ≠ q → ((wpairs (upTo n) u).idxOf p < (wpairs (upTo n) u).idxOf q ↔ (wpairs (upTo n) v).idxOf p < (wpairs (upTo n) v).idxOf q) → ((wpairs (upTo n) u).idxOf q < (wpairs (upTo n) u).idxOf p ↔ (wpairs (upTo n) v).idxOf q < (wpairs (upTo n) v).idxOf p) := fun {p q} h1 h2 ne h => by
    have d1 := idx_ne (mu.mpr h1) (mu.mpr h2) ne
    have d2 := idx_ne (mv.mpr h1) (mv.mpr h2) ne
    omega
  -- ab, ac
  have lowP : ∀ {a b c : Int}, (a, b) ∈ pairsOf row → (a, c) ∈ pairsOf row → b < c → ((wpairs (upTo n) u).idxOf (a, b) < (wpairs (upTo n) u).idxOf (a, c) ↔ (wpairs (upTo n) v).idxOf (a, b) < (wpairs (upTo n) v).idxOf (a, c)) := fun {a b c} h1 h2 hbc => by
    have r1 := rng h1
    have r2 := rng h2
    have bu := between hu.1 (a := a) (b := b) (c := c) ⟨by omega, by omega⟩ r1.1 hbc (mu.mpr h2)
    have bv := between hv.1 (a := a) (b := b) (c := c) ⟨by omega, by omega⟩ r1.1 hbc (mv.mpr h2)
    by_cases h3 : (b, c) ∈ pairsOf row
    · have x := (bu.1 (mu.mpr h1) (mu.mpr h3)).1
      have y := (bv.1 (mv.mpr h1) (mv.mpr h3)).1
      have z := hs a b c h1 h3
      exact x.trans (z.trans y.symm)
    · have x := (bu.2.1 fun z => h3 (mu.mp z)).2
      have y := (bv.2.1 fun z => h3 (mv.mp z)).2
      exact ⟨fun _ => y, fun _ => x⟩
  -- ac, bc
  have highP : ∀ {a b c : Int}, (a, c) ∈ pairsOf row → (b, c) ∈ pairsOf row → a < b → ((wpairs (upTo n) u).idxOf (a, c) < (wpairs (upTo n) u).idxOf (b, c) ↔ (wpairs (upTo n) v).idxOf (a, c) < (wpairs (upTo n) v).idxOf (b, c)) := fun {a b c} h1 h2 hab => by
    have r1 := rng h1
    have r2 := rng h2
    have bu := between hu.1 (a := a) (b := b) (c := c) ⟨by omega, by omega⟩ hab r2.1 (mu.mpr h1)
    have bv := between hv.1 (a := a) (b := b) (c := c) ⟨by omega, by omega⟩ hab r2.1 (mv.mpr h1)
    by_cases h3 : (a, b) ∈ pairsOf row
    · have x := (bu.1 (mu.mpr h3) (mu.mpr h2)).2
      have y := (bv.1 (mv.mpr h3) (mv.mpr h2)).2
      have z := hs a b c h3 h2
      exact x.trans (z.trans y.symm)
    · have x := (bu.2.2 fun z => h3 (mu.mp z)).2
      have y := (bv.2.2 fun z => h3 (mv.mp z)).2
      exact ⟨fun z => by omega, fun z => by omega⟩
  rintro ⟨x1, y1⟩ hp1 ⟨x2, y2⟩ hp2 ⟨ne, sh⟩
  have m1 := mu.mp hp1
  have m2 := mu.mp hp2
  dsimp only at sh
  rcases sh with e | e | e | e
  · subst e
    rcases Int.lt_trichotomy y1 y2 with h | h | h
    · exact lowP m1 m2 h
    · exact absurd (by rw [h]) ne
    · exact swap m2 m1 (Ne.symm ne) (lowP m2 m1 h)
  · subst e
    exact swap m2 m1 (Ne.symm ne) (hs _ _ _ m2 m1)
  · subst e
    exact hs _ _ _ m1 m2
  · subst e
    rcases Int.lt_trichotomy x1 x2 with h | h | h
    · exact highP m1 m2 h
    · exact absurd (by rw [h]) ne
    · exact swap m2 m1 (Ne.symm ne) (highP m2 m1 h)
def sensesOf (n : Nat) (ws : List Nat) : List Int := (tripS (ledM (upTo n) ws)).map fun t => if (wpairs (upTo n) ws).idxOf (t.1, t.2.1) < (wpairs (upTo n) ws).idxOf (t.2.1, t.2.2) then 1 else -1
theorem senses_iff (hp : row.Perm (upTo n)) (hu : IsWay n row u) (hv : IsWay n row v) : sensesOf n u = sensesOf n v ↔ ∀ a b c : Int, (a, b) ∈ pairsOf row → (b, c) ∈ pairsOf row → ((wpairs (upTo n) u).idxOf (a, b) < (wpairs (upTo n) u).idxOf (b, c) ↔ (wpairs (upTo n) v).idxOf (a, b) < (wpairs (upTo n) v).idxOf (b, c)) := by
  have nd := row_nodup hp
  unfold sensesOf
  rw [hu.2, hv.2, List.map_inj_left]
  constructor
  · intro h a b c h1 h2
    have := h (a, b, c) ((tripS_perm row).mem_iff.mpr ((mem_triples nd).mpr ⟨h1, h2⟩))
    dsimp only at this
    split at this <;> split at this <;> first | (simp at this; done) | (constructor <;> intro <;> first | assumption | contradiction)
  · rintro h ⟨a, b, c⟩ hm
    obtain ⟨h1, h2⟩ := (mem_triples nd).mp ((tripS_perm row).mem_iff.mp hm)
    dsimp only
    have := h a b c h1 h2
    by_cases x : (wpairs (upTo n) u).idxOf (a, b) < (wpairs (upTo n) u).idxOf (b, c)
    · rw [if_pos x, if_pos (this.mp x)]
    · rw [if_neg x, if_neg fun y => x (this.mpr y)]
/-- far alike: all senses in common -/
theorem alike_iff (hp : row.Perm (upTo n)) (hu : IsWay n row u) (hv : IsWay n row v) : sensesOf n u = sensesOf n v ↔ Reach u v := by
  rw [senses_iff hp hu hv]
  have pu := way_pairs hu
  have pv := way_pairs hv
  constructor
  · intro h
    exact trace (row_nodup (.refl _)) hu.1 hv.1 (order_same hp hu hv h) (pu.trans pv.symm)
  · intro h a b c h1 h2
    obtain ⟨_, _, sm, _⟩ := reach_same (row_nodup (.refl _)) hu.1 h
    refine sm _ (pu.mem_iff.mpr h1) _ (pu.mem_iff.mpr h2) ⟨fun e => ?_, .inr (.inr (.inl rfl))⟩
    have := (mem_pairs.mp h1).1
    simp at e
    omega
end

/-! ## moves -/
instance farDec (i j : Nat) : Decidable (Far i j) := by unfold Far; infer_instance
def movedOf (ws : List Nat) (name : Str) (i : Nat) : Option (List Nat) :=
  if name = "three" then match (ws.drop i).take 3 with
    | [a, b, c] => if a = c ∧ (a + 1 = b ∨ b + 1 = a) then some (ws.take i ++ [b, a, b] ++ ws.drop (i + 3)) else none
    | _ => none
  else match (ws.drop i).take 2 with
    | [a, b] => if name = "far" then (if Far a b then some (ws.take i ++ [b, a] ++ ws.drop (i + 2)) else none) else if a = b then some (ws.take i ++ ws.drop (i + 2)) else none
    | _ => none
theorem split3 {ws : List Nat} {i a b c : Nat} (h : (ws.drop i).take 3 = [a, b, c]) : ws = ws.take i ++ a :: b :: c :: ws.drop (i + 3) := by
  conv => lhs; rw [← List.take_append_drop i ws, ← List.take_append_drop 3 (ws.drop i), h, List.drop_drop]
  rfl
theorem split2 {ws : List Nat} {i a b : Nat} (h : (ws.drop i).take 2 = [a, b]) : ws = ws.take i ++ a :: b :: ws.drop (i + 2) := by
  conv => lhs; rw [← List.take_append_drop i ws, ← List.take_append_drop 2 (ws.drop i), h, List.drop_drop]
  rfl
theorem moved_three {ws w : List Nat} {i : Nat} (h : movedOf ws "three" i = some w) : ∃ u v a b, ws = u ++ a :: b :: a :: v ∧ w = u ++ b :: a :: b :: v ∧ (a + 1 = b ∨ b + 1 = a) := by
  unfold movedOf at h
  rw [if_pos rfl] at h
  split at h
  · rename_i a b c e
    split at h
    · rename_i hc
      obtain ⟨rfl, hc⟩ := hc
      refine ⟨ws.take i, ws.drop (i + 3), a, b, split3 e, ?_, hc⟩
      rw [← Option.some.inj h]
      simp
    · cases h
  · cases h
theorem moved_far {ws w : List Nat} {i : Nat} (h : movedOf ws "far" i = some w) : FarStep ws w := by
  unfold movedOf at h
  rw [if_neg (by decide)] at h
  split at h
  · rename_i a b e
    rw [if_pos rfl] at h
    split at h
    · rename_i hc
      have e1 := split2 e
      have e2 := Option.some.inj h
      rw [← e2]
      conv => lhs; rw [e1]
      have := FarStep.mk (ws.take i) (ws.drop (i + 2)) hc
      simpa using this
    · cases h
  · cases h
theorem far_moved {ws w : List Nat} (h : FarStep ws w) : ∃ i, i + 1 < ws.length ∧ movedOf ws "far" i = some w := by
  cases h with
  | mk u v f =>
    rename_i i j
    refine ⟨u.length, by simp, ?_⟩
    unfold movedOf
    rw [if_neg (by decide)]
    have e : ((u ++ i :: j :: v).drop u.length).take 2 = [i, j] := by simp
    rw [e]
    dsimp only
    rw [if_pos rfl, if_pos f]
    simp
/-! three beside each other -/
theorem braid_eq {r : List Int} {k : Nat} (h : k + 1 + 1 < r.length) : exch (exch (exch r k (k + 1)) (k + 1) (k + 1 + 1)) k (k + 1) = exch (exch (exch r (k + 1) (k + 1 + 1)) k (k + 1)) (k + 1) (k + 1 + 1) := by
  refine ext_getD (by simp [exch_length]) fun j _ => ?_
  have l1 : k + 1 < r.length := by omega
  have l2 : k + 1 + 1 < r.length := by omega
  rw [exch_get (ns := exch (exch r k (k + 1)) (k + 1) (k + 1 + 1)) (by simp only [exch_length]; exact l1), exch_get (ns := exch (exch r (k + 1) (k + 1 + 1)) k (k + 1)) (by simp only [exch_length]; exact l2)]
  simp only [exch_get (ns := exch r k (k + 1)) (k := k + 1) (by simp only [exch_length]; exact l2), exch_get (ns := exch r (k + 1) (k + 1 + 1)) (k := k) (by simp only [exch_length]; exact l1), exch_get l1, exch_get l2]
  by_cases h1 : j = k
  · subst h1; simp [show ¬ j + 1 + 1 = j by omega, show ¬ j = j + 1 + 1 by omega]
  · by_cases h2 : j = k + 1
    · subst h2; simp [show ¬ k + 1 + 1 = k by omega, show ¬ k = k + 1 + 1 by omega]
    · by_cases h3 : j = k + 1 + 1
      · subst h3; simp [show ¬ k + 1 + 1 = k by omega, show ¬ k = k + 1 + 1 by omega]
      · simp [h1, h2, h3]
theorem exch_fst {r : List Int} {k : Nat} (h : k + 1 < r.length) : (exch r k (k + 1)).getD k 0 = r.getD (k + 1) 0 := by rw [exch_get h, if_pos rfl]
theorem exch_snd {r : List Int} {k : Nat} (h : k + 1 < r.length) : (exch r k (k + 1)).getD (k + 1) 0 = r.getD k 0 := by rw [exch_get h, if_neg (by omega), if_pos rfl]
theorem exch_oth {r : List Int} {k j : Nat} (h : k + 1 < r.length) (h1 : j ≠ k) (h2 : j ≠ k + 1) : (exch r k (k + 1)).getD j 0 = r.getD j 0 := by rw [exch_get h, if_neg h1, if_neg h2]
theorem ups3a {r : List Int} {k : Nat} {v : List Nat} : Ups r (k :: (k + 1) :: k :: v) ↔ k + 1 + 1 < r.length ∧ (r.getD k 0 < r.getD (k + 1) 0 ∧ r.getD k 0 < r.getD (k + 1 + 1) 0 ∧ r.getD (k + 1) 0 < r.getD (k + 1 + 1) 0) ∧ Ups (exch (exch (exch r k (k + 1)) (k + 1) (k + 1 + 1)) k (k + 1)) v := by
  show (_ ∧ _ ∧ (_ ∧ _ ∧ (_ ∧ _ ∧ _))) ↔ _
  simp only [exch_length]
  by_cases h : k + 1 + 1 < r.length
  · have l1 : k + 1 < r.length := by omega
    have m2 : k + 1 + 1 < (exch r k (k + 1)).length := by rw [exch_length]; exact h
    rw [exch_snd l1, exch_oth (j := k + 1 + 1) l1 (by omega) (by omega), exch_oth (j := k) m2 (by omega) (by omega), exch_fst l1, exch_fst m2, exch_oth (j := k + 1 + 1) l1 (by omega) (by omega)]
    exact ⟨fun ⟨a, b, c, d, e, f, g⟩ => ⟨h, ⟨b, d, f⟩, g⟩, fun ⟨a, ⟨b, d, f⟩, g⟩ => ⟨l1, b, h, d, l1, f, g⟩⟩
  · exact ⟨fun ⟨_, _, c, _⟩ => absurd c h, fun ⟨a, _⟩ => absurd a h⟩
theorem ups3b {r : List Int} {k : Nat} {v : List Nat} : Ups r ((k + 1) :: k :: (k + 1) :: v) ↔ k + 1 + 1 < r.length ∧ (r.getD k 0 < r.getD (k + 1) 0 ∧ r.getD k 0 < r.getD (k + 1 + 1) 0 ∧ r.getD (k + 1) 0 < r.getD (k + 1 + 1) 0) ∧ Ups (exch (exch (exch r (k + 1) (k + 1 + 1)) k (k + 1)) (k + 1) (k + 1 + 1)) v := by
  show (_ ∧ _ ∧ (_ ∧ _ ∧ (_ ∧ _ ∧ _))) ↔ _
  simp only [exch_length]
  by_cases h : k + 1 + 1 < r.length
  · have l1 : k + 1 < r.length := by omega
    have m1 : k + 1 < (exch r (k + 1) (k + 1 + 1)).length := by rw [exch_length]; exact l1
    rw [exch_oth (j := k) h (by omega) (by omega), exch_fst h, exch_snd m1, exch_oth (j := k) h (by omega) (by omega), exch_oth (j := k + 1 + 1) m1 (by omega) (by omega), exch_snd h]
    exact ⟨fun ⟨a, b, c, d, e, f, g⟩ => ⟨h, ⟨f, d, b⟩, g⟩, fun ⟨a, ⟨b, d, f⟩, g⟩ => ⟨h, f, l1, d, h, b, g⟩⟩
  · exact ⟨fun ⟨c, _⟩ => absurd c h, fun ⟨a, _⟩ => absurd a h⟩
theorem three_ups {r : List Int} {a b : Nat} {v : List Nat} (h : a + 1 = b ∨ b + 1 = a) (hu : Ups r (a :: b :: a :: v)) : Ups r (b :: a :: b :: v) ∧ ledM r (b :: a :: b :: v) = ledM r (a :: b :: a :: v) := by
  rcases h with rfl | rfl
  · have h1 := ups3a.mp hu
    refine ⟨ups3b.mpr ⟨h1.1, h1.2.1, by rw [← braid_eq h1.1]; exact h1.2.2⟩, ?_⟩
    show ledM (exch (exch (exch r (a + 1) (a + 1 + 1)) a (a + 1)) (a + 1) (a + 1 + 1)) v = ledM (exch (exch (exch r a (a + 1)) (a + 1) (a + 1 + 1)) a (a + 1)) v
    rw [braid_eq h1.1]
  · have h1 := ups3b.mp hu
    refine ⟨ups3a.mpr ⟨h1.1, h1.2.1, by rw [braid_eq h1.1]; exact h1.2.2⟩, ?_⟩
    show ledM (exch (exch (exch r b (b + 1)) (b + 1) (b + 1 + 1)) b (b + 1)) v = ledM (exch (exch (exch r (b + 1) (b + 1 + 1)) b (b + 1)) (b + 1) (b + 1 + 1)) v
    rw [braid_eq h1.1]
theorem moved_way {n : Nat} {row : List Int} {ws w : List Nat} {name : Str} {i : Nat} (hn : name = "far" ∨ name = "three") (h : IsWay n row ws) (hm : movedOf ws name i = some w) : IsWay n row w := by
  rcases hn with rfl | rfl
  · obtain ⟨h1, h2, _⟩ := far_same (row_nodup (.refl (upTo n))) h.1 (moved_far hm)
    exact ⟨h1, h2.trans h.2⟩
  · obtain ⟨u, v, a, b, rfl, rfl, hab⟩ := moved_three hm
    obtain ⟨h1, h2⟩ := ups_app.mp h.1
    obtain ⟨h3, h4⟩ := three_ups hab h2
    refine ⟨ups_app.mpr ⟨h1, h3⟩, ?_⟩
    rw [led_append, h4, ← led_append]
    exact h.2
theorem cut_mid {ds : List D} {i k : Nat} : cutD ds (some (i : Int)) (some ((i : Int) + (k : Nat))) = (ds.drop i).take k := by
  unfold cutD
  rw [show ((i : Int) + (k : Nat)) = ((i + k : Nat) : Int) by omega, HT.sIx_nat, HT.sIx_nat]
  by_cases h : i ≤ ds.length
  · rw [Nat.min_eq_left h]
    by_cases h2 : i + k ≤ ds.length
    · rw [Nat.min_eq_left h2, show i + k - i = k by omega]
    · rw [Nat.min_eq_right (by omega), List.take_of_length_le (l := ds.drop i) (i := k) (by rw [List.length_drop]; omega)]
      exact List.take_of_length_le (by rw [List.length_drop]; omega)
  · have e1 : min i ds.length = ds.length := by omega
    have e2 : min (i + k) ds.length = ds.length := by omega
    rw [show ds.drop i = [] from List.drop_eq_nil_of_le (by omega), e1, e2, List.drop_eq_nil_of_le (Nat.le_refl _)]
    simp
/-! ## words without equal neighbours -/
/-- of k letters below 4, not beginning with p -/
def noRep : Nat → Nat → List (List Nat)
  | 0, _ => [[]]
  | k + 1, p => ((List.range 4).filter fun x => decide (x ≠ p)).flatMap fun x => (noRep k x).map (x :: ·)
theorem noRep_len : ∀ k p, p < 4 → (noRep k p).length ≤ 3 ^ k
  | 0, _, _ => by simp [noRep]
  | k + 1, p, hp => by
    have h := flat_le (l := (List.range 4).filter fun x => decide (x ≠ p)) (f := fun x => (noRep k x).map (x :: ·)) (c := 3 ^ k) fun x hx => by
      rw [List.length_map]
      exact noRep_len k x (List.mem_range.mp (List.mem_filter.mp hx).1)
    have e : ((List.range 4).filter fun x => decide (x ≠ p)).length = 3 := by
      match p, hp with
      | 0, _ => rfl
      | 1, _ => rfl
      | 2, _ => rfl
      | 3, _ => rfl
    rw [e] at h
    unfold noRep
    rw [Nat.pow_succ]
    omega
theorem noRep_all (k : Nat) : (noRep k 4).length ≤ 4 * 3 ^ (k - 1) := by
  cases k with
  | zero => simp [noRep]
  | succ k =>
    have h := flat_le (l := (List.range 4).filter fun x => decide (x ≠ 4)) (f := fun x => (noRep k x).map (x :: ·)) (c := 3 ^ k) fun x hx => by
      rw [List.length_map]
      exact noRep_len k x (List.mem_range.mp (List.mem_filter.mp hx).1)
    rw [show ((List.range 4).filter fun x => decide (x ≠ 4)).length = 4 from rfl] at h
    unfold noRep
    exact h
theorem ups_noRep : ∀ {w : List Nat} {r : List Int} {p : Nat}, Ups r w → r.length ≤ 5 → (∀ x t, w = x :: t → x ≠ p) → w ∈ noRep w.length p
  | [], _, _, _, _, _ => List.mem_singleton.mpr rfl
  | x :: w, r, p, h, hr, hp => by
    obtain ⟨h1, h2, h3⟩ := h
    show x :: w ∈ ((List.range 4).filter fun x => decide (x ≠ p)).flatMap fun x => (noRep w.length x).map (x :: ·)
    refine List.mem_flatMap.mpr ⟨x, List.mem_filter.mpr ⟨List.mem_range.mpr (by omega), decide_eq_true (hp x w rfl)⟩, List.mem_map.mpr ⟨w, ups_noRep h3 (by rw [exch_length]; exact hr) (fun y t e => ?_), rfl⟩⟩
    subst e
    rintro rfl
    obtain ⟨_, g2, _⟩ := h3
    rw [exch_fst h1, exch_snd h1] at g2
    omega
theorem nodup_le {α : Type} [DecidableEq α] : ∀ {l m : List α}, l.Nodup → (∀ x ∈ l, x ∈ m) → l.length ≤ m.length
  | [], _, _, _ => Nat.zero_le _
  | x :: l, m, nd, h => by
    obtain ⟨h1, h2⟩ := List.nodup_cons.mp nd
    have hx := h x List.mem_cons_self
    have := nodup_le (m := m.erase x) h2 fun y hy => (List.mem_erase_of_ne (fun e : y = x => h1 (by rw [← e]; exact hy))).mpr (h y (List.mem_cons_of_mem _ hy))
    rw [List.length_erase_of_mem hx] at this
    have := List.length_pos_of_mem hx
    rw [List.length_cons]
    omega
theorem lot_bound {n : Nat} (hn : n ≤ 5) {row : List Int} (hp : row.Perm (upTo n)) {ls : List (List Nat)} (nd : ls.Nodup) (h : ∀ w ∈ ls, IsWay n row w) : ls.length ≤ 78732 := by
  have len : ∀ w, IsWay n row w → w.length = (pairsOf row).length := fun w hw => by
    have := (way_pairs hw).length_eq
    rwa [wpairs_len] at this
  have hb : (pairsOf row).length ≤ 10 := by
    have h1 := pairs_len row
    have h2 := len_rev (row_nodup hp)
    have h3 : 0 ≤ lenOf row.reverse := by rw [← pairs_len]; omega
    rw [hp.length_eq, upTo_len] at h2
    have h4 := triN_two n
    have h5 : (n : Int) * (n - 1) ≤ 5 * 4 := Int.le_trans (Int.mul_le_mul_of_nonneg_left (show (n : Int) - 1 ≤ 4 by omega) (by omega)) (by omega)
    omega
  have h1 := nodup_le nd (m := noRep (pairsOf row).length 4) fun w hw => by
    have iw := h w hw
    rw [← len w iw]
    refine ups_noRep iw.1 (by rw [upTo_len]; exact hn) fun x t e => ?_
    have := ups_ok iw.1 x (by rw [e]; exact List.mem_cons_self)
    rw [upTo_len] at this
    omega
  have h2 := noRep_all (pairsOf row).length
  have h3 : 3 ^ ((pairsOf row).length - 1) ≤ 3 ^ 9 := Nat.pow_le_pow_right (by decide) (by omega)
  have h4 : (3 : Nat) ^ 9 = 19683 := by decide
  omega

/-! ## two values exchanged -/
def swapV (a b x : Int) : Int := if x = a then b else if x = b then a else x
theorem swapV_twice (a b x : Int) : swapV a b (swapV a b x) = x := by
  unfold swapV
  split <;> (try split) <;> (try split) <;> omega
theorem swapV_comm (a b : Int) : swapV a b = swapV b a := by
  funext x
  unfold swapV
  split <;> split <;> omega
theorem swapV_mm (a b : Int) : swapV (min a b) (max a b) = swapV a b := by
  by_cases h : a ≤ b
  · rw [Int.min_eq_left h, Int.max_eq_right h]
  · rw [Int.min_eq_right (by omega), Int.max_eq_left (by omega), swapV_comm]
theorem getD_map {ns : List Int} {f : Int → Int} {i : Nat} (h : i < ns.length) : (ns.map f).getD i 0 = f (ns.getD i 0) := by simp [List.getD, h]
theorem exch_map {ns : List Int} {f : Int → Int} {k : Nat} (h : k + 1 < ns.length) : exch (ns.map f) k (k + 1) = (exch ns k (k + 1)).map f := by
  unfold exch
  rw [getD_map h, getD_map (by omega)]
  simp [List.map_set]
theorem led_map : ∀ {ws : List Nat} {ns : List Int} {f : Int → Int}, WordOk ns.length ws → ledM (ns.map f) ws = (ledM ns ws).map f
  | [], _, _, _ => rfl
  | k :: r, ns, f, h => by
    show ledM (exch (ns.map f) k (k + 1)) r = _
    rw [exch_map (h k List.mem_cons_self), led_map (fun j hj => by rw [exch_length]; exact h j (List.mem_cons_of_mem _ hj))]
    rfl
theorem nodup_inj {α : Type} {l : List α} (nd : l.Nodup) {i j : Nat} (hi : i < l.length) (hj : j < l.length) (e : l[i] = l[j]) : i = j := by
  rcases Nat.lt_trichotomy i j with h | h | h
  · exact absurd e (List.pairwise_iff_getElem.mp nd i j hi hj h)
  · exact h
  · exact absurd e.symm (List.pairwise_iff_getElem.mp nd j i hj hi h)
theorem exch_swapV {ns : List Int} {k : Nat} (nd : ns.Nodup) (h : k + 1 < ns.length) : exch ns k (k + 1) = ns.map (swapV (ns.getD k 0) (ns.getD (k + 1) 0)) := by
  have e : ∀ (m : List Int) (i : Nat), i < m.length → m[i]? = some (m.getD i 0) := fun m i hi => by simp [List.getD, hi]
  have ne : ∀ i j, i < ns.length → j < ns.length → i ≠ j → ns.getD i 0 ≠ ns.getD j 0 := fun i j hi hj hij q => by
    have q' : ns[i] = ns[j] := by simpa [List.getD, hi, hj] using q
    exact hij (nodup_inj nd hi hj q')
  refine List.ext_getElem? fun i => ?_
  by_cases hi : i < ns.length
  · rw [e _ i (by rw [exch_length]; exact hi), e _ i (by simpa using hi), exch_get h, getD_map hi]
    unfold swapV
    by_cases h1 : i = k
    · subst h1; simp
    · by_cases h2 : i = k + 1
      · subst h2
        rw [if_neg h1, if_pos rfl, if_neg (ne _ _ hi (by omega) (by omega)), if_pos rfl]
      · rw [if_neg h1, if_neg h2, if_neg (ne _ _ hi (by omega) h1), if_neg (ne _ _ hi h h2)]
  · rw [List.getElem?_eq_none (by rw [exch_length]; omega), List.getElem?_eq_none (by simp; omega)]
/-- a place left out: the pair exchanged there is exchanged in the row -/
theorem led_without {ns : List Int} {ws : List Nat} {i : Nat} {p : Int × Int} (nd : ns.Nodup) (hw : WordOk ns.length ws) (hp : (wpairs ns ws)[i]? = some p) : ledM ns (ws.take i ++ ws.drop (i + 1)) = (ledM ns ws).map (swapV p.1 p.2) := by
  induction ws generalizing ns i with
  | nil => simp [wpairs] at hp
  | cons k r ih =>
    have hk := hw k List.mem_cons_self
    have hr : WordOk ns.length r := fun j hj => hw j (List.mem_cons_of_mem _ hj)
    cases i with
    | zero =>
      simp only [wpairs, List.getElem?_cons_zero, Option.some.injEq] at hp
      subst hp
      show ledM ns r = (ledM (exch ns k (k + 1)) r).map _
      rw [swapV_mm, exch_swapV nd hk, led_map hr, List.map_map]
      have : (swapV (ns.getD k 0) (ns.getD (k + 1) 0) ∘ swapV (ns.getD k 0) (ns.getD (k + 1) 0)) = id := funext fun x => swapV_twice _ _ x
      rw [this, List.map_id]
    | succ i =>
      exact ih (ns := exch ns k (k + 1)) (i := i) ((exch_perm hk).nodup_iff.mpr nd) (by rw [exch_length]; exact hr) (by simpa [wpairs] using hp)
theorem eqv_tupI : ∀ a b : List Int, PyData.eqv (tupI a) (tupI b) = decide (a = b)
  | [], [] => by simp [tupI, PyData.eqv, PyData.eqvAll]
  | [], y :: b => by simp [tupI, PyData.eqv, PyData.eqvAll]
  | x :: a, [] => by simp [tupI, PyData.eqv, PyData.eqvAll]
  | x :: a, y :: b => by
    have ih := eqv_tupI a b
    simp only [tupI, PyData.eqv, List.map_cons, PyData.eqvAll] at ih ⊢
    rw [ih]
    by_cases h1 : x = y <;> by_cases h2 : a = b <;> simp [h1, h2]
theorem shaped_tupI (a : List Int) : SeqAt.shaped (tupI a) = true := by
  refine (shaped_list (k := 0) (fun d hd => ?_) (by decide)).2
  obtain ⟨x, _, rfl⟩ := List.mem_map.mp hd
  exact ⟨rfl, by simp [PyData.depth]⟩
theorem pairs_lt : ∀ {ns : List Int} {p : Int × Int}, p ∈ pairsOf ns → p.1 < p.2 ∧ p.1 ∈ ns ∧ p.2 ∈ ns
  | [], p, h => by cases h
  | a :: r, p, h => by
    rcases List.mem_append.mp h with h | h
    · obtain ⟨b, hb, rfl⟩ := List.mem_map.mp h
      have hb' := List.mem_filter.mp hb
      exact ⟨by simpa using hb'.2, List.mem_cons_of_mem _ hb'.1, List.mem_cons_self⟩
    · obtain ⟨h1, h2, h3⟩ := pairs_lt h
      exact ⟨h1, List.mem_cons_of_mem _ h2, List.mem_cons_of_mem _ h3⟩
/-- the same pair is exchanged -/
theorem swapV_same {ns : List Int} {p q : Int × Int} (hp : p.1 < p.2 ∧ p.1 ∈ ns ∧ p.2 ∈ ns) (hq : q.1 < q.2) (e : ns.map (swapV p.1 p.2) = ns.map (swapV q.1 q.2)) : p = q := by
  have h1 := List.map_inj_left.mp e p.1 hp.2.1
  unfold swapV at h1
  rw [if_pos rfl] at h1
  obtain ⟨a, b⟩ := p
  obtain ⟨c, d⟩ := q
  dsimp only at *
  split at h1
  · rename_i h; rw [h, h1]
  · split at h1 <;> omega
/-- a drop is a pair of neighbours -/
theorem drop_pair {ns : List Int} {k : Nat} (h : k + 1 < ns.length) (hlt : ns.getD (k + 1) 0 < ns.getD k 0) : (ns.getD (k + 1) 0, ns.getD k 0) ∈ pairsOf ns := by
  have : ∀ (l : List Int) (k : Nat), k + 1 < l.length → l.getD (k + 1) 0 < l.getD k 0 → (l.getD (k + 1) 0, l.getD k 0) ∈ pairsOf l := by
    intro l
    induction l with
    | nil => intro k h; simp at h
    | cons a r ih =>
      intro k h hlt
      cases k with
      | zero =>
        cases r with
        | nil => simp at h
        | cons b r =>
          refine List.mem_append_left _ (List.mem_map.mpr ⟨b, List.mem_filter.mpr ⟨List.mem_cons_self, ?_⟩, rfl⟩)
          simpa using hlt
      | succ k => exact List.mem_append_right _ (ih k (by simpa using h) hlt)
  exact this ns k h hlt
theorem range_one {m j : Nat} (h : j < m) : (List.range m).filter (fun i => decide (i = j)) = [j] := by
  induction m with
  | zero => omega
  | succ m ih =>
    rw [List.range_succ, List.filter_append]
    by_cases e : j = m
    · subst e
      rw [List.filter_eq_nil_iff.mpr (fun x hx => by have := List.mem_range.mp hx; simp; omega)]
      simp
    · rw [ih (by omega)]
      simp [Ne.symm e]

/-! ## a shortest way with a told last swap -/
def bnd : Nat → Nat
  | 0 => 0
  | 1 => 1
  | 2 => 2
  | p + 3 => 2 * bnd (p + 1) + 1
theorem bnd_step : ∀ p, bnd p + 1 ≤ bnd (p + 1)
  | 0 => by decide
  | 1 => by decide
  | 2 => by decide
  | p + 3 => by
    have := bnd_step (p + 1)
    show 2 * bnd (p + 1) + 1 + 1 ≤ 2 * bnd (p + 1 + 1) + 1
    omega
theorem bnd_mono {p q : Nat} (h : p ≤ q) : bnd p ≤ bnd q := by
  induction h with
  | refl => exact Nat.le_refl _
  | step _ ih => exact Nat.le_trans ih (Nat.le_trans (Nat.le_succ _) (bnd_step _))
theorem bnd_two : ∀ p, 2 * bnd p + 1 ≤ bnd (p + 2)
  | 0 => by decide
  | p + 1 => Nat.le_refl _
abbrev Mv := Str × Nat
def lastW (w : List Nat) : Nat := w.getD (w.length - 1) 0
theorem lastW_app (u : List Nat) (j : Nat) : lastW (u ++ [j]) = j := by simp [lastW, List.getD]
def wl : Nat → List Nat → Nat → List Mv × List Nat
  | 0, w, _ => ([], w)
  | f + 1, w, k =>
    if lastW w = k then ([], w)
    else if Far (lastW w) k then
      ((wl f (w.take (w.length - 1)) k).1 ++ [(("far" : Str), w.length - 1 - 1)], (wl f (w.take (w.length - 1)) k).2.take (w.length - 1 - 1) ++ [lastW w, k])
    else
      ((wl f (w.take (w.length - 1)) k).1 ++ (wl f ((wl f (w.take (w.length - 1)) k).2.take (w.length - 1 - 1)) (lastW w)).1 ++ [(("three" : Str), w.length - 1 - 2)],
        (wl f ((wl f (w.take (w.length - 1)) k).2.take (w.length - 1 - 1)) (lastW w)).2.take (w.length - 1 - 2) ++ [k, lastW w, k])
/-- what the walk asks -/
def okW : Nat → List Nat → Nat → Prop
  | 0, _, _ => False
  | f + 1, w, k => 0 < w.length ∧ w.length ≤ 1000 ∧ (lastW w ≠ k → 2 ≤ w.length ∧ okW f (w.take (w.length - 1)) k ∧ (wl f (w.take (w.length - 1)) k).2.length ≤ 1000 ∧ (wl f (w.take (w.length - 1)) k).1.length + 1 ≤ 100000 ∧
      (¬ Far (lastW w) k → 3 ≤ w.length ∧ okW f ((wl f (w.take (w.length - 1)) k).2.take (w.length - 1 - 1)) (lastW w) ∧ (wl f ((wl f (w.take (w.length - 1)) k).2.take (w.length - 1 - 1)) (lastW w)).2.length ≤ 1000 ∧
        (wl f (w.take (w.length - 1)) k).1.length + (wl f ((wl f (w.take (w.length - 1)) k).2.take (w.length - 1 - 1)) (lastW w)).1.length + 1 ≤ 100000))
def goes : List Nat → List Mv → Option (List Nat)
  | w, [] => some w
  | w, m :: r => match movedOf w m.1 m.2 with
    | none => none
    | some w' => goes w' r
theorem goes_cons {w w' : List Nat} {m : Mv} {r : List Mv} (h : movedOf w m.1 m.2 = some w') : goes w (m :: r) = goes w' r := by
  simp only [goes, h]
theorem goes_app : ∀ {a b : List Mv} {w w' : List Nat}, goes w a = some w' → goes w (a ++ b) = goes w' b
  | [], b, w, w', h => by cases h; rfl
  | m :: a, b, w, w', h => by
    cases e : movedOf w m.1 m.2 with
    | none => simp only [goes, e] at h; cases h
    | some v =>
      rw [goes_cons e] at h
      rw [List.cons_append, goes_cons e]
      exact goes_app h
theorem moved_app {w w' v : List Nat} {name : Str} {i : Nat} (h : movedOf w name i = some w') : movedOf (w ++ v) name i = some (w' ++ v) := by
  unfold movedOf at h ⊢
  by_cases hn : name = "three"
  · rw [if_pos hn] at h ⊢
    split at h
    · rename_i a b c e
      have hl : i + 3 ≤ w.length := by
        have := congrArg List.length e
        simp at this
        omega
      have e2 : ((w ++ v).drop i).take 3 = [a, b, c] := by
        rw [List.drop_append_of_le_length (by omega), List.take_append_of_le_length (by rw [List.length_drop]; omega), e]
      rw [e2, List.take_append_of_le_length (by omega), List.drop_append_of_le_length hl]
      dsimp only
      split at h
      · rename_i hc
        rw [if_pos hc, ← Option.some.inj h]
        simp
      · cases h
    · cases h
  · rw [if_neg hn] at h ⊢
    split at h
    · rename_i a b e
      have hl : i + 2 ≤ w.length := by
        have := congrArg List.length e
        simp at this
        omega
      have e2 : ((w ++ v).drop i).take 2 = [a, b] := by
        rw [List.drop_append_of_le_length (by omega), List.take_append_of_le_length (by rw [List.length_drop]; omega), e]
      rw [e2, List.take_append_of_le_length (by omega), List.drop_append_of_le_length hl]
      dsimp only
      split at h
      · rename_i hf
        rw [if_pos hf]
        split at h
        · rename_i hc
          rw [if_pos hc, ← Option.some.inj h]
          simp
        · cases h
      · rename_i hf
        rw [if_neg hf]
        split at h
        · rename_i hc
          rw [if_pos hc, ← Option.some.inj h]
          simp
        · cases h
    · cases h
theorem goes_lift {v : List Nat} : ∀ {ms : List Mv} {w w' : List Nat}, goes w ms = some w' → goes (w ++ v) ms = some (w' ++ v)
  | [], w, w', h => by cases h; rfl
  | m :: r, w, w', h => by
    cases e : movedOf w m.1 m.2 with
    | none => simp only [goes, e] at h; cases h
    | some z =>
      rw [goes_cons e] at h
      rw [goes_cons (moved_app e)]
      exact goes_lift h
theorem goes_way {n : Nat} {row : List Int} : ∀ {ms : List Mv} {w w' : List Nat}, (∀ m ∈ ms, m.1 = "far" ∨ m.1 = "three") → IsWay n row w → goes w ms = some w' → IsWay n row w'
  | [], w, w', _, hw, h => by cases h; exact hw
  | m :: r, w, w', hn, hw, h => by
    cases e : movedOf w m.1 m.2 with
    | none => simp only [goes, e] at h; cases h
    | some z =>
      rw [goes_cons e] at h
      exact goes_way (fun m' hm => hn m' (List.mem_cons_of_mem _ hm)) (moved_way (hn m List.mem_cons_self) hw e) h
theorem far_at {u v : List Nat} {a b : Nat} (f : Far a b) : movedOf (u ++ a :: b :: v) "far" u.length = some (u ++ b :: a :: v) := by
  unfold movedOf
  rw [if_neg (by decide), show ((u ++ a :: b :: v).drop u.length).take 2 = [a, b] by simp]
  dsimp only
  rw [if_pos rfl, if_pos f]
  simp
theorem three_at {u v : List Nat} {a b : Nat} (f : a + 1 = b ∨ b + 1 = a) : movedOf (u ++ a :: b :: a :: v) "three" u.length = some (u ++ b :: a :: b :: v) := by
  unfold movedOf
  rw [if_pos rfl, show ((u ++ a :: b :: a :: v).drop u.length).take 3 = [a, b, a] by simp]
  dsimp only
  rw [if_pos ⟨rfl, f⟩]
  simp
theorem idx_app {α : Type} [BEq α] [LawfulBEq α] {p : α} {L M : List α} (h : p ∈ L) : (L ++ M).idxOf p = L.idxOf p := by rw [List.idxOf_append, if_pos h]
theorem idx_take {α : Type} [BEq α] [LawfulBEq α] {p : α} {L : List α} {t : Nat} (h : p ∈ L) (ht : L.idxOf p < t) : p ∈ L.take t ∧ (L.take t).idxOf p = L.idxOf p := by
  have h1 := mem_take_idx.mpr ⟨h, ht⟩
  refine ⟨h1, ?_⟩
  conv => rhs; rw [← List.take_append_drop t L]
  rw [idx_app h1]
structure Wl (f n : Nat) (w : List Nat) (k i : Nat) (ms : List Mv) (w' : List Nat) : Prop where
  ok : w.length ≤ 32 → okW f w k
  lt : i < w.length
  ex : ∃ h, w' = h ++ [k] ∧ h.length + 1 = w.length ∧ h.take i = w.take i
  go : goes w ms = some w'
  nm : ∀ m ∈ ms, (m.1 = "far" ∨ m.1 = "three") ∧ m.2 < w.length
  len : ms.length ≤ bnd (w.length - 1 - i)
theorem wl_ok {n : Nat} : ∀ (f : Nat) {w : List Nat} {r : List Int} {k : Nat}, w.length ≤ f → IsWay n r w → k + 1 < n → r.getD (k + 1) 0 < r.getD k 0 →
    Wl f n w k ((wpairs (upTo n) w).idxOf (r.getD (k + 1) 0, r.getD k 0)) (wl f w k).1 (wl f w k).2 := by
  intro f
  induction f with
  | zero =>
    intro w r k hf hw hk hd
    exfalso
    have hm := (way_pairs hw).mem_iff.mpr (drop_pair (by rw [← hw.2, led_len (ups_ok hw.1), upTo_len]; exact hk) hd)
    have := List.length_pos_of_mem hm
    rw [wpairs_len] at this
    omega
  | succ f ih =>
    intro w r k hf hw hk hd
    have hrl : r.length = n := by rw [← hw.2, led_len (ups_ok hw.1), upTo_len]
    have hm := (way_pairs hw).mem_iff.mpr (drop_pair (by rw [hrl]; exact hk) hd)
    have hpos := List.length_pos_of_mem hm
    rw [wpairs_len] at hpos
    have hi : (wpairs (upTo n) w).idxOf (r.getD (k + 1) 0, r.getD k 0) < w.length := by
      have := idx_lt hm
      rwa [wpairs_len] at this
    obtain ⟨u, j, rfl⟩ : ∃ u j, w = u ++ [j] := by
      rcases List.eq_nil_or_concat w with h | ⟨u, j, h⟩
      · rw [h] at hpos; cases hpos
      · exact ⟨u, j, by rw [h, List.concat_eq_append]⟩
    obtain ⟨hu, hj⟩ := ups_app.mp hw.1
    have hr' : (ledM (upTo n) u).length = n := by rw [led_len (ups_ok hu), upTo_len]
    have er : r = exch (ledM (upTo n) u) j (j + 1) := by rw [← hw.2, led_append]; rfl
    have hj1 : j + 1 < (ledM (upTo n) u).length := hj.1
    have hj2 : (ledM (upTo n) u).getD j 0 < (ledM (upTo n) u).getD (j + 1) 0 := hj.2.1
    have hwp : wpairs (upTo n) (u ++ [j]) = wpairs (upTo n) u ++ [pAt (ledM (upTo n) u) j] := wpairs_app u [j] _
    have t1 : (u ++ [j]).take ((u ++ [j]).length - 1) = u := by simp
    have l1 : (u ++ [j]).length - 1 = u.length := by simp
    have hlu : u.length ≤ f := (by simp only [List.length_append, List.length_cons, List.length_nil] at hf; omega)
    have uwl : wl (f + 1) (u ++ [j]) k = if j = k then ([], u ++ [j]) else if Far j k then ((wl f u k).1 ++ [(("far" : Str), u.length - 1)], (wl f u k).2.take (u.length - 1) ++ [j, k]) else
        ((wl f u k).1 ++ (wl f ((wl f u k).2.take (u.length - 1)) j).1 ++ [(("three" : Str), u.length - 2)], (wl f ((wl f u k).2.take (u.length - 1)) j).2.take (u.length - 2) ++ [k, j, k]) := by
      show (if lastW (u ++ [j]) = k then _ else if Far (lastW (u ++ [j])) k then _ else _) = _
      rw [lastW_app, t1, l1]
    have uok : okW (f + 1) (u ++ [j]) k ↔ (0 < u.length + 1 ∧ u.length + 1 ≤ 1000 ∧ (j ≠ k → 2 ≤ u.length + 1 ∧ okW f u k ∧ (wl f u k).2.length ≤ 1000 ∧ (wl f u k).1.length + 1 ≤ 100000 ∧
      (¬ Far j k → 3 ≤ u.length + 1 ∧ okW f ((wl f u k).2.take (u.length - 1)) j ∧ (wl f ((wl f u k).2.take (u.length - 1)) j).2.length ≤ 1000 ∧
        (wl f u k).1.length + (wl f ((wl f u k).2.take (u.length - 1)) j).1.length + 1 ≤ 100000))) := by
      show (0 < (u ++ [j]).length ∧ (u ++ [j]).length ≤ 1000 ∧ (lastW (u ++ [j]) ≠ k → 2 ≤ (u ++ [j]).length ∧ _)) ↔ _
      rw [lastW_app, t1, l1, show (u ++ [j]).length = u.length + 1 by simp]
    rw [uwl]
    by_cases hjk : j = k
    · subst hjk
      rw [if_pos rfl]
      refine ⟨fun z => uok.mpr ⟨by omega, by simp only [List.length_append, List.length_cons, List.length_nil] at z; omega, fun z => absurd rfl z⟩, hi, ⟨u, rfl, by simp, ?_⟩, rfl, fun m hm => by simp at hm, Nat.zero_le _⟩
      rw [List.take_append_of_le_length (by simp only [List.length_append, List.length_cons, List.length_nil] at hi; omega)]
    rw [if_neg hjk]
    have ndu : (ledM (upTo n) u).Nodup := row_nodup (led_perm (ups_ok hu))
    have hwu : IsWay n (ledM (upTo n) u) u := ⟨hu, rfl⟩
    have inU : ∀ {p : Int × Int}, p ∈ wpairs (upTo n) (u ++ [j]) → p ≠ pAt (ledM (upTo n) u) j → p ∈ wpairs (upTo n) u := fun {p} h hne => by
      rw [hwp] at h
      rcases List.mem_append.mp h with h | h
      · exact h
      · exact absurd (List.mem_singleton.mp h) hne
    have hk1 : k + 1 < (ledM (upTo n) u).length := by omega
    by_cases hfar : Far j k
    · rw [if_pos hfar]
      obtain ⟨e1, e2⟩ := exch_at_far hfar hj1
      rw [← er] at e1 e2
      have hne : (r.getD (k + 1) 0, r.getD k 0) ≠ pAt (ledM (upTo n) u) j := by
        rw [pAt_up hj2, e1, e2]
        intro z
        have z1 := (Prod.mk.inj z).1
        have z2 := (Prod.mk.inj z).2
        have a1 := getD_inj ndu hk1 (by omega) z1
        have a2 := getD_inj ndu (by omega) hj1 z2
        omega
      have hmu := inU hm hne
      have ei : (wpairs (upTo n) (u ++ [j])).idxOf (r.getD (k + 1) 0, r.getD k 0) = (wpairs (upTo n) u).idxOf (r.getD (k + 1) 0, r.getD k 0) := by rw [hwp, idx_app hmu]
      rw [ei]
      have W := ih hlu hwu hk (by rw [← e1, ← e2]; exact hd)
      rw [← e1, ← e2] at W
      obtain ⟨h, e3, h4, h5⟩ := W.ex
      have e4 : (wl f u k).2.take (u.length - 1) = h := by rw [e3, show u.length - 1 = h.length by omega, List.take_left' rfl]
      have e5 : u.length - 1 = h.length := by omega
      rw [e4]
      have hiu := W.lt
      have lh : (wl f u k).2.length = u.length := by rw [e3, List.length_append]; exact h4
      refine ⟨fun z => ?_, by simp only [List.length_append, List.length_cons, List.length_nil]; omega, ⟨h ++ [j], by simp, by simp only [List.length_append, List.length_cons, List.length_nil]; omega, ?_⟩, ?_, ?_, ?_⟩
      · simp only [List.length_append, List.length_cons, List.length_nil] at z
        have b1 : (wl f u k).1.length ≤ bnd 32 := Nat.le_trans W.len (bnd_mono (by omega))
        have b2 : bnd 32 ≤ 98303 := by decide
        exact uok.mpr ⟨by omega, by omega, fun _ => ⟨by omega, W.ok (by omega), by omega, by omega, fun z => absurd hfar z⟩⟩
      · rw [List.take_append_of_le_length (by omega), h5, List.take_append_of_le_length (by omega)]
      · rw [goes_app (goes_lift W.go), e3, e5]
        show goes ((h ++ [k]) ++ [j]) [(("far" : Str), h.length)] = _
        rw [List.append_assoc]
        exact goes_cons (far_at hfar.sym)
      · intro m hm
        rcases List.mem_append.mp hm with hm | hm
        · have := W.nm m hm
          exact ⟨this.1, by simp only [List.length_append, List.length_cons, List.length_nil]; omega⟩
        · rw [List.mem_singleton.mp hm]
          exact ⟨.inl rfl, by simp only [List.length_append, List.length_cons, List.length_nil]; omega⟩
      · have := W.len
        rw [List.length_append, List.length_append]
        show (wl f u k).1.length + 1 ≤ bnd (u.length + 1 - 1 - _)
        have hb := bnd_step (u.length - 1 - (wpairs (upTo n) u).idxOf (r.getD (k + 1) 0, r.getD k 0))
        rw [show u.length + 1 - 1 - (wpairs (upTo n) u).idxOf (r.getD (k + 1) 0, r.getD k 0) = u.length - 1 - (wpairs (upTo n) u).idxOf (r.getD (k + 1) 0, r.getD k 0) + 1 by omega]
        omega
    · rw [if_neg hfar]
      -- j and k beside each other
      have core : ∃ a b c : Int, a < b ∧ b < c ∧ (0 ≤ b ∧ b < n) ∧ (ledM (upTo n) u).getD (k + 1) 0 = a ∧ (ledM (upTo n) u).getD k 0 = c ∧
          ((pAt (ledM (upTo n) u) j = (a, b) ∧ r.getD (k + 1) 0 = b ∧ r.getD k 0 = c) ∨ (pAt (ledM (upTo n) u) j = (b, c) ∧ r.getD (k + 1) 0 = a ∧ r.getD k 0 = b)) ∧
          (∀ h : List Int, h.length = n → exch h k (k + 1) = ledM (upTo n) u → h.getD (j + 1) 0 = r.getD (k + 1) 0 ∧ h.getD j 0 = r.getD k 0) := by
        have inn : ∀ {i : Nat}, i < n → 0 ≤ (ledM (upTo n) u).getD i 0 ∧ (ledM (upTo n) u).getD i 0 < n := fun {i} hi => upTo_mem.mp ((led_perm (ups_ok hu)).mem_iff.mp (getD_mem (by omega)))
        have hjk' : j = k + 1 ∨ k = j + 1 := by unfold Far at hfar; omega
        rcases hjk' with rfl | rfl
        · -- (x, y, z), y < z, x > z
          have g0 : r.getD k 0 = (ledM (upTo n) u).getD k 0 := by rw [er]; exact exch_oth hj1 (by omega) (by omega)
          have g1 : r.getD (k + 1) 0 = (ledM (upTo n) u).getD (k + 1 + 1) 0 := by rw [er]; exact exch_fst hj1
          rw [g0, g1] at hd
          refine ⟨(ledM (upTo n) u).getD (k + 1) 0, (ledM (upTo n) u).getD (k + 1 + 1) 0, (ledM (upTo n) u).getD k 0, hj2, hd, inn (by omega), rfl, rfl, .inl ⟨pAt_up hj2, g1, g0⟩, fun h hl he => ?_⟩
          have hk2 : k + 1 < h.length := by omega
          rw [g0, g1, ← he]
          exact ⟨(exch_oth hk2 (by omega) (by omega)).symm, (exch_fst hk2).symm⟩
        · -- (x, y, z), x < y, x > z
          have g0 : r.getD (j + 1) 0 = (ledM (upTo n) u).getD j 0 := by rw [er]; exact exch_snd hj1
          have g1 : r.getD (j + 1 + 1) 0 = (ledM (upTo n) u).getD (j + 1 + 1) 0 := by rw [er]; exact exch_oth hj1 (by omega) (by omega)
          rw [g0, g1] at hd
          refine ⟨(ledM (upTo n) u).getD (j + 1 + 1) 0, (ledM (upTo n) u).getD j 0, (ledM (upTo n) u).getD (j + 1) 0, hd, hj2, inn (by omega), rfl, rfl, .inr ⟨pAt_up hj2, g1, g0⟩, fun h hl he => ?_⟩
          have hk2 : j + 1 + 1 < h.length := by omega
          rw [g0, g1, ← he]
          exact ⟨(exch_snd hk2).symm, (exch_oth hk2 (by omega) (by omega)).symm⟩
      obtain ⟨a, b, c, hab, hbc, hb, ha, hc, hcase, hback⟩ := core
      have hd1 : (ledM (upTo n) u).getD (k + 1) 0 < (ledM (upTo n) u).getD k 0 := by omega
      have W := ih hlu hwu hk hd1
      rw [ha, hc] at W
      have hmg : (a, c) ∈ wpairs (upTo n) u := by
        have := (way_pairs hwu).mem_iff.mpr (drop_pair hk1 hd1)
        rwa [ha, hc] at this
      have bt := between hu (a := a) (b := b) (c := c) hb hab hbc hmg
      have ndw := ups_nodup (row_nodup (.refl (upTo n))) hw.1
      rw [hwp] at ndw
      have hnl : pAt (ledM (upTo n) u) j ∉ wpairs (upTo n) u := fun z => (List.nodup_append.mp ndw).2.2 _ z _ (List.mem_singleton.mpr rfl) rfl
      have hmu : (r.getD (k + 1) 0, r.getD k 0) ∈ wpairs (upTo n) u ∧ (wpairs (upTo n) u).idxOf (r.getD (k + 1) 0, r.getD k 0) < (wpairs (upTo n) u).idxOf (a, c) := by
        rcases hcase with ⟨h1, h2, h3⟩ | ⟨h1, h2, h3⟩
        · rw [h1] at hnl
          rw [h2, h3]
          exact bt.2.2 hnl
        · rw [h1] at hnl
          rw [h2, h3]
          exact bt.2.1 hnl
      have ei : (wpairs (upTo n) (u ++ [j])).idxOf (r.getD (k + 1) 0, r.getD k 0) = (wpairs (upTo n) u).idxOf (r.getD (k + 1) 0, r.getD k 0) := by rw [hwp, idx_app hmu.1]
      rw [ei]
      have hiw := W.lt
      obtain ⟨h, e3, h4, h5⟩ := W.ex
      have e4 : (wl f u k).2.take (u.length - 1) = h := by rw [e3, show u.length - 1 = h.length by omega, List.take_left' rfl]
      rw [e4]
      have whead : IsWay n (ledM (upTo n) u) (h ++ [k]) := by rw [← e3]; exact goes_way (fun m hm => (W.nm m hm).1) hwu W.go
      obtain ⟨uh, uk⟩ := ups_app.mp whead.1
      have lh : (ledM (upTo n) h).length = n := by rw [led_len (ups_ok uh), upTo_len]
      have back := hback (ledM (upTo n) h) lh (by rw [← whead.2, led_append]; rfl)
      have wh : IsWay n (ledM (upTo n) h) h := ⟨uh, rfl⟩
      have W2 := ih (w := h) (r := ledM (upTo n) h) (k := j) (by omega) wh (by omega) (by rw [back.1, back.2]; exact hd)
      rw [back.1, back.2] at W2
      have tk : wpairs (upTo n) h = wpairs (upTo n) h := rfl
      have ih2 : (wpairs (upTo n) h).idxOf (r.getD (k + 1) 0, r.getD k 0) = (wpairs (upTo n) u).idxOf (r.getD (k + 1) 0, r.getD k 0) := by
        obtain ⟨m1, m2⟩ := idx_take (t := (wpairs (upTo n) u).idxOf (a, c)) hmu.1 hmu.2
        rw [wpairs_take, ← h5, ← wpairs_take] at m1 m2
        rw [← m2]
        conv => lhs; rw [← List.take_append_drop ((wpairs (upTo n) u).idxOf (a, c)) (wpairs (upTo n) h)]
        rw [idx_app m1]
      rw [ih2] at W2
      have hi2 := W2.lt
      obtain ⟨g, e6, h7, h8⟩ := W2.ex
      have e7 : (wl f h j).2.take (u.length - 2) = g := by rw [e6, show u.length - 2 = g.length by omega, List.take_left' rfl]
      rw [e7]
      have hpos2 : u.length - 2 = g.length := by omega
      have lw1 : (wl f u k).2.length = u.length := by rw [e3, List.length_append]; exact h4
      have lw2 : (wl f h j).2.length = h.length := by rw [e6, List.length_append]; exact h7
      have q1 := W.len
      have q2 := W2.len
      have b1 : bnd (u.length - 1 - (wpairs (upTo n) u).idxOf (a, c)) ≤ bnd (h.length - 1 - (wpairs (upTo n) u).idxOf (r.getD (k + 1) 0, r.getD k 0)) := bnd_mono (by omega)
      have b2 := bnd_two (h.length - 1 - (wpairs (upTo n) u).idxOf (r.getD (k + 1) 0, r.getD k 0))
      refine ⟨fun z => ?_, by simp only [List.length_append, List.length_cons, List.length_nil]; omega, ⟨g ++ [k, j], by simp, by simp only [List.length_append, List.length_cons, List.length_nil]; omega, ?_⟩, ?_, ?_, ?_⟩
      · simp only [List.length_append, List.length_cons, List.length_nil] at z
        have b3 : bnd (h.length - 1 - (wpairs (upTo n) u).idxOf (r.getD (k + 1) 0, r.getD k 0) + 2) ≤ bnd 32 := bnd_mono (by omega)
        have b4 : bnd 32 ≤ 98303 := by decide
        refine uok.mpr ⟨by omega, by omega, fun _ => ⟨by omega, W.ok (by omega), by omega, by omega, fun _ => ?_⟩⟩
        rw [e4]
        exact ⟨by omega, W2.ok (by omega), by omega, by omega⟩
      · rw [List.take_append_of_le_length (by omega), h8, List.take_append_of_le_length (by omega)]
        have := congrArg (List.take ((wpairs (upTo n) u).idxOf (r.getD (k + 1) 0, r.getD k 0))) h5
        rw [List.take_take, List.take_take, Nat.min_eq_left (by omega)] at this
        exact this
      · have s1 : goes (u ++ [j]) (wl f u k).1 = some (h ++ [k, j]) := by
          rw [goes_lift W.go, e3]
          simp
        have s2 : goes (h ++ [k, j]) (wl f h j).1 = some (g ++ [j, k, j]) := by
          rw [goes_lift W2.go, e6]
          simp
        rw [List.append_assoc, goes_app s1, goes_app s2, hpos2]
        refine goes_cons (three_at ?_)
        unfold Far at hfar
        omega
      · intro m hm
        rcases List.mem_append.mp hm with hm | hm
        · rcases List.mem_append.mp hm with hm | hm
          · have := W.nm m hm
            exact ⟨this.1, by simp only [List.length_append, List.length_cons, List.length_nil]; omega⟩
          · have := W2.nm m hm
            exact ⟨this.1, by simp only [List.length_append, List.length_cons, List.length_nil]; omega⟩
        · rw [List.mem_singleton.mp hm]
          exact ⟨.inr rfl, by simp only [List.length_append, List.length_cons, List.length_nil]; omega⟩
      · rw [List.length_append, List.length_append, List.length_append]
        show (wl f u k).1.length + (wl f h j).1.length + 1 ≤ bnd (u.length + 1 - 1 - _)
        rw [show u.length + 1 - 1 - (wpairs (upTo n) u).idxOf (r.getD (k + 1) 0, r.getD k 0) = h.length - 1 - (wpairs (upTo n) u).idxOf (r.getD (k + 1) 0, r.getD k 0) + 2 by omega]
        omega
theorem way_len {n : Nat} {r : List Int} {u v : List Nat} (hu : IsWay n r u) (hv : IsWay n r v) : u.length = v.length := by
  have := ((way_pairs hu).trans (way_pairs hv).symm).length_eq
  rwa [wpairs_len, wpairs_len] at this
/-! ## from one shortest way to another one -/
def mrow (other : List Nat) : Nat → List Nat → List Mv
  | 0, _ => []
  | m + 1, way => (wl 32 way (other.getD m 0)).1 ++ mrow other m ((wl 32 way (other.getD m 0)).2.take m)
def bsum : Nat → Nat
  | 0 => 0
  | m + 1 => bsum m + bnd m
theorem take_one {other : List Nat} {m : Nat} (h : m < other.length) : other.take (m + 1) = other.take m ++ [other.getD m 0] := by
  rw [List.take_add_one, List.getElem?_eq_getElem h]
  simp [List.getD, h]
theorem drop_one {other : List Nat} {m : Nat} (h : m < other.length) : other.drop m = other.getD m 0 :: other.drop (m + 1) := by
  rw [List.drop_eq_getElem_cons h]
  simp [List.getD, h]
def okM (other : List Nat) : Nat → List Nat → Prop
  | 0, way => way.length = 0
  | m + 1, way => way.length = m + 1 ∧ okW 32 way (other.getD m 0) ∧ (wl 32 way (other.getD m 0)).2.length = m + 1 ∧ okM other m ((wl 32 way (other.getD m 0)).2.take m)
structure Mr (n : Nat) (other : List Nat) (m : Nat) (way : List Nat) : Prop where
  ok : okM other m way
  go : goes (way ++ other.drop m) (mrow other m way) = some other
  nm : ∀ x ∈ mrow other m way, (x.1 = "far" ∨ x.1 = "three") ∧ x.2 < other.length
  size : (mrow other m way).length ≤ bsum m
theorem mrow_ok {n : Nat} {other : List Nat} (ho : Ups (upTo n) other) (hl : other.length ≤ 32) : ∀ {m : Nat} {way : List Nat}, m ≤ other.length → IsWay n (ledM (upTo n) (other.take m)) way → Mr n other m way
  | 0, way, _, hw => by
    have e : way = [] := List.eq_nil_of_length_eq_zero (by rw [way_len hw ⟨ups_take ho 0, rfl⟩]; simp)
    subst e
    exact ⟨rfl, rfl, (fun x hx => by cases hx), Nat.le_refl _⟩
  | m + 1, way, hm, hw => by
    have hlen : way.length = m + 1 := by rw [way_len hw ⟨ups_take ho (m + 1), rfl⟩, List.length_take]; omega
    have ht := take_one (other := other) (m := m) (by omega)
    have hu := ups_take ho (m + 1)
    rw [ht] at hu
    obtain ⟨u1, u2⟩ := ups_app.mp hu
    have er : ledM (upTo n) (other.take (m + 1)) = exch (ledM (upTo n) (other.take m)) (other.getD m 0) (other.getD m 0 + 1) := by rw [ht, led_append]; rfl
    have hk : other.getD m 0 + 1 < (ledM (upTo n) (other.take m)).length := u2.1
    have W := wl_ok 32 (k := other.getD m 0) (by omega) hw (by rw [led_len (ups_ok u1), upTo_len] at hk; exact hk) (by rw [er, exch_fst hk, exch_snd hk]; exact u2.2.1)
    obtain ⟨h, e1, e2, _⟩ := W.ex
    have e3 : (wl 32 way (other.getD m 0)).2.take m = h := by rw [e1, List.take_left' (by omega)]
    have wv : IsWay n (ledM (upTo n) (other.take (m + 1))) (h ++ [other.getD m 0]) := by rw [← e1]; exact goes_way (fun x hx => (W.nm x hx).1) hw W.go
    have wh : IsWay n (ledM (upTo n) (other.take m)) h := by
      obtain ⟨v1, v2⟩ := ups_app.mp wv.1
      refine ⟨v1, ?_⟩
      have z := wv.2
      rw [er, led_append] at z
      have l1 : (ledM (upTo n) h).length = n := by rw [led_len (ups_ok v1), upTo_len]
      rw [← exch_back v2.1, ← exch_back hk]
      exact congrArg (fun x => exch x (other.getD m 0) (other.getD m 0 + 1)) z
    have M := mrow_ok ho hl (m := m) (way := h) (by omega) wh
    have em : mrow other (m + 1) way = (wl 32 way (other.getD m 0)).1 ++ mrow other m h := by
      show (wl 32 way (other.getD m 0)).1 ++ mrow other m ((wl 32 way (other.getD m 0)).2.take m) = _
      rw [e3]
    refine ⟨⟨hlen, W.ok (by omega), by rw [e1, List.length_append]; simp; omega, by rw [e3]; exact M.ok⟩, ?_, ?_, ?_⟩
    · rw [em, goes_app (goes_lift W.go), e1, List.append_assoc, List.singleton_append, ← drop_one (by omega)]
      exact M.go
    · intro x hx
      rw [em] at hx
      rcases List.mem_append.mp hx with hx | hx
      · have := W.nm x hx
        exact ⟨this.1, by omega⟩
      · exact M.nm x hx
    · rw [em, List.length_append]
      have h1 := W.len
      have h2 := M.size
      have h3 : bnd (way.length - 1 - (wpairs (upTo n) way).idxOf ((ledM (upTo n) (other.take (m + 1))).getD (other.getD m 0 + 1) 0, (ledM (upTo n) (other.take (m + 1))).getD (other.getD m 0) 0)) ≤ bnd m := bnd_mono (by omega)
      show _ ≤ bsum m + bnd m
      omega
def mvD (m : Mv) : D := .tuple [.str m.1, .int m.2]
def mvsL (ms : List Mv) : D := .list (ms.map mvD)
def mvsT (ms : List Mv) : D := .tuple (ms.map mvD)
theorem at_word {w : List Nat} {i : Nat} (h : i < w.length) : atI (w.map fun k : Nat => PyData.int k) (i : Int) = some (.int ((w.getD i 0 : Nat) : Int)) := by
  refine atI_nat ?_
  rw [List.getElem?_map, List.getElem?_eq_getElem h]
  simp [List.getD, h]

/-! ## what the laws compare -/
abbrev Okay (d : D) : Prop := ∃ n k, OkR n k d ∧ n ≤ 2 ^ 20 ∧ k ≤ 60
theorem okay_of {n k : Nat} {d : D} (h : OkR n k d) (h1 : n ≤ 2 ^ 20) (h2 : k ≤ 60) : Okay d := ⟨n, k, h, h1, h2⟩
theorem neRepr {ga gb : DTE} {ρ : Rho} {P : Bool → Rho → Prop} (x : D) (ok : Okay x) (ha : ∀ R : D → Rho → Prop, R x ρ → ga ρ R) (hb : ∀ R : D → Rho → Prop, R x ρ → gb ρ R) (q : P false ρ) : gTest (gBin neD (gU reprU ga) (gU reprU gb)) ρ P := by
  rw [gTest_s, gBin_s]
  refine ha _ ⟨ok, hb _ ⟨ok, rfl, _, rfl, ?_⟩⟩
  rw [show PyData.eqv (.str x.shown) (.str x.shown) = true by simp [PyData.eqv]]
  exact q
theorem eqRepr {ga gb : DTE} {ρ : Rho} {Q : D → Rho → Prop} (x : D) (ok : Okay x) (ha : ∀ R : D → Rho → Prop, R x ρ → ga ρ R) (hb : ∀ R : D → Rho → Prop, R x ρ → gb ρ R) (q : Q (.bool true) ρ) : gBin eqD (gU reprU ga) (gU reprU gb) ρ Q := by
  rw [gBin_s]
  refine ha _ ⟨ok, hb _ ⟨ok, rfl, ?_⟩⟩
  rw [show PyData.eqv (.str x.shown) (.str x.shown) = true by simp [PyData.eqv]]
  exact q
theorem neInt {ga gb : DTE} {ρ : Rho} {P : Bool → Rho → Prop} (x : Int) (ha : ∀ R : D → Rho → Prop, R (.int x) ρ → ga ρ R) (hb : ∀ R : D → Rho → Prop, R (.int x) ρ → gb ρ R) (q : P false ρ) : gTest (gBin neD ga gb) ρ P := by
  rw [gTest_s, gBin_s]
  refine ha _ (hb _ ⟨rfl, _, rfl, ?_⟩)
  rw [show PyData.eqv (.int x) (.int x) = true by simp [PyData.eqv]]
  exact q
theorem alike_ints : ∀ ns : List Int, PySem.W.alikeAll (ns.map PyData.int) (ns.map PyData.int) = true
  | [] => rfl
  | x :: r => by
    rw [List.map_cons, PySem.W.alikeAll, alike_ints r]
    rfl
theorem neList {ga gb : DTE} {ρ : Rho} {P : Bool → Rho → Prop} (ns : List Int) (hs : SeqAt.shaped (lstI ns) = true) (ha : ∀ R : D → Rho → Prop, R (lstI ns) ρ → ga ρ R) (hb : ∀ R : D → Rho → Prop, R (lstI ns) ρ → gb ρ R) (q : P false ρ) : gTest (gBin neD ga gb) ρ P := by
  rw [gTest_s, gBin_s]
  refine ha _ (hb _ ⟨eqOk_of hs hs, _, rfl, ?_⟩)
  have e : PyData.eqv (lstI ns) (lstI ns) = true := PySem.W.eqv_refl_alike _ (alike_ints ns)
  rw [e]
  exact q
theorem okI {ns : List Int} {m : Nat} (h : ∀ x ∈ ns, x.natAbs < 10 ^ 12) (hl : ns.length ≤ m) : OkR (m * 41) 1 (tupI ns) := okTupMap (fun x hx => okInt (h x hx)) hl
theorem okLI {ns : List Int} {m : Nat} (h : ∀ x ∈ ns, x.natAbs < 10 ^ 12) (hl : ns.length ≤ m) : OkR (m * 41) 1 (lstI ns) := okLstMap (fun x hx => okInt (h x hx)) hl
theorem sorU_int {ns : List Int} {d : D} {P : D → Prop} (hd : d = tupI ns ∨ d = lstI ns) (h : P (.list (sorD (ns.map .int)))) : sorU d P := by
  have m : ∀ d ∈ ns.map PyData.int, ∃ p, d = .int p := fun d hd => by
    obtain ⟨p, _, rfl⟩ := List.mem_map.mp hd
    exact ⟨p, rfl⟩
  refine ⟨_, hd.symm, fun d hd e he => ?_, .inl (.inr fun d hd => ?_), fun d hd => ?_, h⟩
  · obtain ⟨p, rfl⟩ := m d hd
    obtain ⟨q, rfl⟩ := m e he
    rfl
  · obtain ⟨p, rfl⟩ := m d hd
    exact ⟨(fun z => by cases z), fun xs z => by cases z⟩
  · obtain ⟨p, rfl⟩ := m d hd
    exact ⟨by simp [PyData.depth], rfl⟩
theorem sorD_up {ns ms : List Int} (h : ns.Perm ms) (hu : ms.Pairwise fun a b => a ≤ b) : sorD (ns.map PyData.int) = ms.map .int := by
  refine sorD_is (fun x hx y hy h1 h2 => ?_) (h.symm.map _) (List.pairwise_map.mpr (hu.imp fun {a b} h => by rw [leI]; simpa using h))
  obtain ⟨a, _, rfl⟩ := List.mem_map.mp hx
  obtain ⟨b, _, rfl⟩ := List.mem_map.mp hy
  rw [leI] at h1 h2
  rw [show a = b by have := of_decide_eq_true h1; have := of_decide_eq_true h2; omega]
theorem row_small {ns : List Int} {n : Nat} (h : ns.Perm (upTo n)) (hn : n ≤ 1000) : ∀ x ∈ ns, x.natAbs < 10 ^ 12 := fun x hx => by
  have := upTo_mem.mp (h.mem_iff.mp hx)
  omega

/-! ## comparing, by evaluation -/
theorem evt_neRepr {a b : DTE} {ρ : Rho} (x : D) (ok : Okay x) (ha : Ev a ρ x) (hb : Ev b ρ x) : EvT (gTest (gBin neD (gU reprU a) (gU reprU b))) ρ false :=
  evt_to (evt_test (ev_bin (ev_u ha (u_repr ok)) (ev_u hb (u_repr ok)) op_neS)) (by simp)
theorem evt_neKept {a b : DTE} {ρ : Rho} (x : D) (ok : Okay x) (ha : Ev a ρ x) (hb : Ev b ρ (.str x.shown)) : EvT (gTest (gBin neD (gU reprU a) b)) ρ false :=
  evt_to (evt_test (ev_bin (ev_u ha (u_repr ok)) hb op_neS)) (by simp)
theorem ev_eqRepr {a b : DTE} {ρ : Rho} (x : D) (ok : Okay x) (ha : Ev a ρ x) (hb : Ev b ρ x) : Ev (gBin eqD (gU reprU a) (gU reprU b)) ρ (.bool true) :=
  ev_to (ev_bin (ev_u ha (u_repr ok)) (ev_u hb (u_repr ok)) op_eqS) (by simp)
theorem evt_neInt {a b : DTE} {ρ : Rho} (x : Int) (ha : Ev a ρ (.int x)) (hb : Ev b ρ (.int x)) : EvT (gTest (gBin neD a b)) ρ false :=
  evt_to (evt_test (ev_bin ha hb op_neI)) (by simp)
theorem ev_revTI {a : DTE} {ρ : Rho} {ns : List Int} (h : Ev a ρ (tupI ns)) : Ev (gRevT a) ρ (tupI ns.reverse) := ev_to (ev_revT h) (by rw [tupI, List.map_reverse])
theorem op_addTI {ns ms : List Int} (h : ns.length + ms.length ≤ 100000) : Op2 addD (tupI ns) (tupI ms) (tupI (ns ++ ms)) := fun P q => by
  refine op_addT (by rw [List.length_map, List.length_map]; exact h) P ?_
  rw [← List.map_append]
  exact q
theorem ev_range {a b : DTE} {ρ : Rho} {n m : Nat} (ha : Ev a ρ (.int n)) (hb : Ev b ρ (.int m)) (h : n ≤ 1000 ∧ m ≤ 1000) : Ev (gTRg (gRg2 a b)) ρ (tupI (fromTo n m)) :=
  ev_to (ev_trg (evr_2 ha hb) (by unfold rngB; omega)) (by rw [rngD_from]; rfl)
theorem ev_range0 {a : DTE} {ρ : Rho} {n : Nat} (ha : Ev a ρ (.int n)) (h : n ≤ 1000) : Ev (gTRg (gRg1 a)) ρ (tupI (upTo n)) :=
  ev_to (ev_trg (evr_1 ha) (by unfold rngB; omega)) (by rw [show ((n : Int) - 0).toNat = n by omega, rngD_upTo]; rfl)
theorem evi_rng {a : DTE} {ρ : Rho} {n : Int} (N : Nat) (h : Ev a ρ (.int n)) (hn : n ≤ 100000 ∧ -100000 ≤ n) (e : n = N ∨ (n < 0 ∧ N = 0)) : EvI (giR1 a) ρ ((List.range N).map fun k : Nat => PyData.int k) :=
  evi_to (evi_r1 h hn) (rng_to e)
theorem evi_rng2 {a b : DTE} {ρ : Rho} {u v : Int} (N : Nat) (h : Ev a ρ (.int u)) (h2 : Ev b ρ (.int v)) (hn : v ≤ 100000 ∧ -100000 ≤ v ∧ u ≤ 100000 ∧ -100000 ≤ u) (e : (v - u).toNat = N) : EvI (giR2 a b) ρ ((List.range N).map fun k : Nat => PyData.int (u + k)) :=
  evi_to (evi_r2 h h2 hn) (by rw [e]; rfl)
theorem at_int {ns : List Int} {k : Int} (j : Nat) (e : k = j) (h : j < ns.length) : atI (ns.map PyData.int) k = some (.int (ns.getD j 0)) := by rw [e]; exact atI_int h
theorem ok_small {ns : List Int} {m : Nat} (h : ∀ x ∈ ns, 0 ≤ x ∧ x < 100) (hl : ns.length ≤ m) : OkR (m * 41) 1 (tupI ns) := okI (fun x hx => by have := h x hx; omega) hl
theorem okN {ws : List Nat} {m : Nat} (h : ∀ k ∈ ws, k < 1000) (hl : ws.length ≤ m) : OkR (m * 41) 1 (tupN ws) := okTupMap (fun k hk => okInt (by have := h k hk; omega)) hl
theorem ok_pairs {ps : List (Int × Int)} {m : Nat} (h : ∀ p ∈ ps, p.1.natAbs < 10 ^ 12 ∧ p.2.natAbs < 10 ^ 12) (hl : ps.length ≤ m) : OkR (m * 83) 2 (.tuple (ps.map pD)) := okTupMap (fun p hp => (okTup (okCons (okInt (h p hp).1) (okCons (okInt (h p hp).2) (okNil (k := 0))))).mono (by decide) (by decide)) hl
theorem okPairs {ns : List Int} {m : Nat} (h : ∀ p ∈ pairsOf ns, p.1.natAbs < 10 ^ 12 ∧ p.2.natAbs < 10 ^ 12) (hl : (pairsOf ns).length ≤ m) : OkR (m * 83) 2 (.tuple (pairsD ns)) := by
  obtain ⟨ps, e, hp⟩ := pairsD_ex ns
  rw [← e]
  exact ok_pairs (fun p hp' => h p (hp.mem_iff.mp hp')) (by rw [hp.length_eq]; exact hl)

/-! ## moves that are told -/
def isInt : D → Bool
  | .int _ => true
  | _ => false
def hdW (ws : List Str) : List D → Bool
  | .str s :: _ => decide (s ∈ ws)
  | _ => false
def isWd (ws : List Str) (many : Nat) : D → Bool
  | .tuple ds => decide (ds.length = many) && hdW ws ds
  | _ => false
theorem isT_str_no {x : D} (h : ¬ ∃ s, x = .str s) : isT "str" x = false := by
  cases x <;> first | (rw [isT_str]; done) | skip
  rename_i s
  exact absurd ⟨s, rfl⟩ h
theorem isT_tup_no {x : D} (h : ¬ ∃ s, x = .tuple s) : isT "tuple" x = false := by
  cases x <;> first | (rw [isT_tuple]; done) | skip
  rename_i s
  exact absurd ⟨s, rfl⟩ h
theorem isInt_no {x : D} (h : ¬ ∃ s, x = .int s) : isInt x = false := by
  cases x <;> first | rfl | skip
  rename_i s
  exact absurd ⟨s, rfl⟩ h
theorem hdW_no {ws : List Str} {x : D} {r : List D} (h : ¬ ∃ s, x = .str s) : hdW ws (x :: r) = false := by
  cases x <;> first | rfl | skip
  rename_i s
  exact absurd ⟨s, rfl⟩ h
def isMv (ws : List Str) : D → Bool
  | .tuple [.str s, .int i] => decide (s ∈ ws) && decide (0 ≤ i)
  | _ => false
def mvOf : D → Mv
  | .tuple [.str s, .int i] => (s, i.toNat)
  | _ => ("", 0)
theorem isMv_eq {ws : List Str} {d : D} (h : isMv ws d = true) : d = mvD (mvOf d) ∧ (mvOf d).1 ∈ ws := by
  unfold isMv at h
  split at h
  · rename_i s i
    simp only [Bool.and_eq_true, decide_eq_true_eq] at h
    refine ⟨?_, h.1⟩
    show PyData.tuple [.str s, .int i] = .tuple [.str s, .int (i.toNat : Int)]
    rw [Int.toNat_of_nonneg h.2]
  · cases h
theorem isMv_mk {ws : List Str} {m : Mv} (h : m.1 ∈ ws) : isMv ws (mvD m) = true ∧ mvOf (mvD m) = m := by
  constructor
  · show (decide (m.1 ∈ ws) && decide ((0 : Int) ≤ (m.2 : Int))) = true
    simp [h]
  · show (m.1, ((m.2 : Nat) : Int).toNat) = m
    simp
def runM : List Nat → Nat → List Mv → D × List Nat
  | w, _, [] => (.none, w)
  | w, k, m :: r => match movedOf w m.1 m.2 with
    | none => (.tuple [.str "move", .int (k : Nat)], w)
    | some w' => runM w' (k + 1) r
def formD : D := .tuple [.str "form"]
def faultM (ws : List Str) (w : List Nat) : D → D × List Nat
  | .tuple ds => if ds.all (isMv ws) = true then runM w 0 (ds.map mvOf) else (formD, w)
  | _ => (formD, w)
def judgeM (one other : List Nat) (d : D) : D :=
  match (faultM ["far", "three"] one d).1 with
  | .none => if (faultM ["far", "three"] one d).2 = other then .none else .tuple [.str "end"]
  | f => f
theorem runM_goes : ∀ {ms : List Mv} {w w' : List Nat} {k : Nat}, goes w ms = some w' → runM w k ms = (.none, w')
  | [], w, w', k, h => by cases h; rfl
  | m :: r, w, w', k, h => by
    cases e : movedOf w m.1 m.2 with
    | none => simp only [goes, e] at h; cases h
    | some z =>
      rw [goes_cons e] at h
      show (match movedOf w m.1 m.2 with | none => _ | some w' => runM w' (k + 1) r) = _
      rw [e]
      exact runM_goes h
/-- a fault is told shortly -/
def Fault (n : Nat) (d : D) : Prop := d = .none ∨ d = formD ∨ d = .tuple [.str "end"] ∨ d = .tuple [.str "longer"] ∨ ∃ k : Nat, k < n ∧ d = .tuple [.str "move", .int k]
theorem runM_ok : ∀ {ms : List Mv} {w : List Nat} {k n : Nat}, k + ms.length ≤ n → Fault n (runM w k ms).1
  | [], w, k, n, _ => .inl rfl
  | m :: r, w, k, n, h => by
    show Fault n (match movedOf w m.1 m.2 with | none => _ | some w' => runM w' (k + 1) r).1
    cases e : movedOf w m.1 m.2 with
    | none => exact .inr (.inr (.inr (.inr ⟨k, by simp at h; omega, rfl⟩)))
    | some z => exact runM_ok (by simp at h; omega)
theorem faultM_ok {ws : List Str} {w : List Nat} {d : D} {n : Nat} (h : ∀ ds, d = .tuple ds → ds.length ≤ n) : Fault n (faultM ws w d).1 := by
  unfold faultM
  split
  · rename_i ds
    split
    · exact runM_ok (by rw [List.length_map, Nat.zero_add]; exact h ds rfl)
    · exact .inr (.inl rfl)
  · exact .inr (.inl rfl)
theorem judgeM_ok {one other : List Nat} {d : D} {n : Nat} (h : ∀ ds, d = .tuple ds → ds.length ≤ n) : Fault n (judgeM one other d) := by
  have f := faultM_ok (ws := ["far", "three"]) (w := one) h
  unfold judgeM
  split
  · split
    · exact .inl rfl
    · exact .inr (.inr (.inl rfl))
  · exact f
theorem judgeM_none {one other : List Nat} {ms : List Mv} (h : goes one ms = some other) (hn : ∀ m ∈ ms, m.1 = "far" ∨ m.1 = "three") : judgeM one other (mvsT ms) = .none := by
  have e : faultM ["far", "three"] one (mvsT ms) = (.none, other) := by
    unfold mvsT faultM
    have h1 : (ms.map mvD).all (isMv ["far", "three"]) = true := by
      rw [List.all_eq_true]
      intro d hd
      obtain ⟨m, hm, rfl⟩ := List.mem_map.mp hd
      exact (isMv_mk (by rcases hn m hm with h | h <;> simp [h])).1
    dsimp only
    rw [if_pos h1, List.map_map]
    have h2 : ms.map (mvOf ∘ mvD) = ms := by
      conv => rhs; rw [← List.map_id ms]
      exact List.map_congr_left fun m hm => (isMv_mk (ws := ["far", "three"]) (by rcases hn m hm with h | h <;> simp [h])).2
    rw [h2]
    exact runM_goes h
  unfold judgeM
  rw [e]
  dsimp only
  rw [if_pos rfl]
theorem moved_len {w w' : List Nat} {name : Str} {i : Nat} (h : movedOf w name i = some w') : w'.length ≤ w.length := by
  unfold movedOf at h
  split at h
  · split at h
    · rename_i a b c e
      have hl := congrArg List.length e
      simp at hl
      split at h
      · rw [← Option.some.inj h]
        simp only [List.length_append, List.length_take, List.length_drop, List.length_cons, List.length_nil]
        omega
      · cases h
    · cases h
  · split at h
    · rename_i a b e
      have hl := congrArg List.length e
      simp at hl
      split at h
      · split at h
        · rw [← Option.some.inj h]
          simp only [List.length_append, List.length_take, List.length_drop, List.length_cons, List.length_nil]
          omega
        · cases h
      · split at h
        · rw [← Option.some.inj h]
          simp only [List.length_append, List.length_take, List.length_drop]
          omega
        · cases h
    · cases h
theorem enum_mvs (ms : List Mv) : enumD (ms.map mvD) = ms.zipIdx.map fun p => PyData.tuple [.int (p.2 : Nat), mvD p.1] := enumD_map mvD ms
theorem ev_strT {ρ : Rho} {a b : Str} : Ev (gTup (gCons (gC (.str a)) (gCons (gC (.str b)) gNil))) ρ (.tuple (([a, b] : List Str).map .str)) := ev_tup (eva_cons ev_c (eva_cons ev_c eva_nil)) (by simp)
def cI' (w : List Nat) : List Int := w.map fun k : Nat => (k : Int)
theorem tupN_tK' (w : List Nat) : tupN w = tK (cI' w) := by
  unfold tupN tK cI'
  rw [List.map_map]; rfl
theorem cI'_inj {u v : List Nat} (h : cI' u = cI' v) : u = v := (List.map_inj_right (fun x y e => Int.ofNat.inj e)).mp h
theorem lay_word' (w : List Nat) : (tupN w).canLay0 = true ∧ (tupN w).depth ≤ 1 := by
  have q := lay_depth (ds := w.map fun k : Nat => PyData.int k) (k := 0) fun e he => by
    obtain ⟨x, _, rfl⟩ := List.mem_map.mp he
    exact ⟨rfl, by simp [PyData.depth]⟩
  have q2 := q.2
  exact ⟨by simpa [tupN, PyData.canLay0] using q.1, by simp [tupN, PyData.depth]; omega⟩
theorem eqv_tupN' (a b : List Nat) : PyData.eqv (tupN a) (tupN b) = decide (a = b) := by
  rw [tupN_tK', tupN_tK']
  have := eqv_tupI (cI' a) (cI' b)
  rw [show tK (cI' a) = tupI (cI' a) from rfl, show tK (cI' b) = tupI (cI' b) from rfl, this]
  exact decide_eq_decide.mpr ⟨cI'_inj, fun e => by rw [e]⟩
theorem shaped_tupN (w : List Nat) : SeqAt.shaped (tupN w) = true := by rw [tupN_tK']; exact shaped_tupI _
theorem op_eqN {a b : List Nat} : Op2 eqD (tupN a) (tupN b) (.bool (decide (a = b))) := fun P q => op_eq (eqOk_of (shaped_tupN _) (shaped_tupN _)) P (by rw [eqv_tupN']; exact q)

/-! ## words shortened -/
def isShort (n : Nat) (w : List Nat) : Bool := decide ((pairsOf (ledM (upTo n) w)).length = w.length)
theorem ups_snoc' {r : List Int} {u : List Nat} {k : Nat} (h : Ups r u) (h1 : k + 1 < (ledM r u).length) (h2 : (ledM r u).getD k 0 < (ledM r u).getD (k + 1) 0) : Ups r (u ++ [k]) := ups_app.mpr ⟨h, h1, h2, trivial⟩
theorem getD_ne {r : List Int} (nd : r.Nodup) {k : Nat} (h : k + 1 < r.length) : r.getD k 0 ≠ r.getD (k + 1) 0 := fun e => by
  have := getD_inj nd (by omega) h e
  omega
/-- one step changes the number of pairs by one -/
theorem pairs_step {r : List Int} (nd : r.Nodup) {k : Nat} (h : k + 1 < r.length) : (r.getD k 0 < r.getD (k + 1) 0 ∧ (pairsOf (exch r k (k + 1))).length = (pairsOf r).length + 1) ∨ (r.getD (k + 1) 0 < r.getD k 0 ∧ (pairsOf (exch r k (k + 1))).length + 1 = (pairsOf r).length) := by
  rcases Int.lt_or_lt_of_ne (getD_ne nd h) with hl | hl
  · have := (pairs_up h hl).length_eq
    exact .inl ⟨hl, by simpa using this⟩
  · have hx : k + 1 < (exch r k (k + 1)).length := by rw [exch_length]; exact h
    have := (pairs_up hx (by rw [exch_fst h, exch_snd h]; exact hl)).length_eq
    rw [exch_back h] at this
    exact .inr ⟨hl, by simpa using this.symm⟩
theorem pairs_at_most {n : Nat} : ∀ {w : List Nat} {r : List Int}, r.Nodup → WordOk r.length w → (pairsOf (ledM r w)).length ≤ (pairsOf r).length + w.length
  | [], r, _, _ => Nat.le_refl _
  | k :: w, r, nd, hw => by
    have hk := hw k List.mem_cons_self
    have nd2 : (exch r k (k + 1)).Nodup := (exch_perm hk).nodup_iff.mpr nd
    have h1 := pairs_at_most (n := n) (w := w) (r := exch r k (k + 1)) nd2 (fun j hj => by rw [exch_length]; exact hw j (List.mem_cons_of_mem _ hj))
    have h2 := pairs_step nd hk
    show (pairsOf (ledM (exch r k (k + 1)) w)).length ≤ _
    rw [List.length_cons]
    omega
theorem ups_of_len {n : Nat} : ∀ {w : List Nat} {r : List Int}, r.Nodup → WordOk r.length w → (pairsOf (ledM r w)).length = (pairsOf r).length + w.length → Ups r w
  | [], r, _, _, _ => trivial
  | k :: w, r, nd, hw, he => by
    have hk := hw k List.mem_cons_self
    have nd2 : (exch r k (k + 1)).Nodup := (exch_perm hk).nodup_iff.mpr nd
    have hw2 : WordOk (exch r k (k + 1)).length w := fun j hj => by rw [exch_length]; exact hw j (List.mem_cons_of_mem _ hj)
    have h1 := pairs_at_most (n := n) (w := w) nd2 hw2
    have he : (pairsOf (ledM (exch r k (k + 1)) w)).length = (pairsOf r).length + (k :: w).length := he
    rw [List.length_cons] at he
    rcases pairs_step nd hk with ⟨h2, h3⟩ | ⟨h2, h3⟩
    · exact ⟨hk, h2, ups_of_len (n := n) nd2 hw2 (by omega)⟩
    · omega
theorem short_iff {n : Nat} {w : List Nat} (hw : WordOk n w) : isShort n w = true ↔ Ups (upTo n) w := by
  have nd : (upTo n).Nodup := row_nodup (.refl _)
  have hw' : WordOk (upTo n).length w := by rw [upTo_len]; exact hw
  unfold isShort
  rw [decide_eq_true_eq]
  constructor
  · intro h
    refine ups_of_len (n := n) nd hw' ?_
    rw [pairs_upTo, h]
    simp
  · intro h
    have := (way_pairs (n := n) ⟨h, rfl⟩).length_eq
    rw [wpairs_len] at this
    exact this.symm
def firstBad (n : Nat) (w : List Nat) : Nat := ((List.range (w.length + 1)).filter fun k => !isShort n (w.take k)).headD 0
theorem filter_head {p : Nat → Bool} : ∀ {m : Nat}, (∃ k, k < m ∧ p k = true) → ∃ k t, (List.range m).filter p = k :: t ∧ k < m ∧ p k = true ∧ ∀ j, j < k → p j = false
  | 0, h => by obtain ⟨k, h, _⟩ := h; cases h
  | m + 1, h => by
    by_cases h2 : ∃ k, k < m ∧ p k = true
    · obtain ⟨k, t, h3, h4, h5, h6⟩ := filter_head h2
      refine ⟨k, t ++ [m].filter p, ?_, by omega, h5, h6⟩
      rw [List.range_succ, List.filter_append, h3]
      rfl
    · obtain ⟨k, hk, hp⟩ := h
      have hno : ∀ j, j < m → p j = false := fun j hj => by
        cases e : p j with
        | false => rfl
        | true => exact absurd ⟨j, hj, e⟩ h2
      have : k = m := by
        by_cases hkm : k < m
        · rw [hno k hkm] at hp; cases hp
        · omega
      subst this
      refine ⟨k, [], ?_, by omega, hp, hno⟩
      rw [List.range_succ, List.filter_append, List.filter_eq_nil_iff.mpr fun j hj => by rw [hno j (List.mem_range.mp hj)]; simp]
      simp [hp]
theorem take_snoc {w : List Nat} {m : Nat} (h : m < w.length) : w.take (m + 1) = w.take m ++ [w.getD m 0] := by
  rw [List.take_add_one, List.getElem?_eq_getElem h]
  simp [List.getD, h]
theorem away_at {u v : List Nat} {a : Nat} : movedOf (u ++ a :: a :: v) "away" u.length = some (u ++ v) := by
  unfold movedOf
  rw [if_neg (by decide), show ((u ++ a :: a :: v).drop u.length).take 2 = [a, a] by simp]
  dsimp only
  rw [if_neg (by decide), if_pos rfl]
  simp
theorem moved_ok {n : Nat} {w w' : List Nat} {name : Str} {i : Nat} (hw : WordOk n w) (h : movedOf w name i = some w') : WordOk n w' := by
  unfold movedOf at h
  split at h
  · split at h
    · rename_i a b c e
      have e1 := split3 e
      split at h
      · rw [← Option.some.inj h]
        intro k hk
        refine hw k ?_
        rw [e1]
        simp only [List.mem_append, List.mem_cons, List.not_mem_nil, or_false] at hk ⊢
        rcases hk with (hk | hk | hk | hk) | hk <;> simp [hk]
      · cases h
    · cases h
  · split at h
    · rename_i a b e
      have e1 := split2 e
      split at h
      · split at h
        · rw [← Option.some.inj h]
          intro k hk
          refine hw k ?_
          rw [e1]
          simp only [List.mem_append, List.mem_cons, List.not_mem_nil, or_false] at hk ⊢
          rcases hk with (hk | hk | hk) | hk <;> simp [hk]
        · cases h
      · split at h
        · rw [← Option.some.inj h]
          intro k hk
          refine hw k ?_
          rw [e1]
          simp only [List.mem_append, List.mem_cons] at hk ⊢
          rcases hk with hk | hk <;> simp [hk]
        · cases h
    · cases h
structure ShStep (n : Nat) (w : List Nat) (m : Nat) : Prop where
  fst : firstBad n w = m
  ls : ∃ t, ((List.range (w.length + 1)).filter fun k => !isShort n (w.take k)) = m :: t
  m2 : 2 ≤ m
  ml : m ≤ w.length
  ok : okW 32 (w.take (m - 1)) (w.getD (m - 1) 0)
  len : (wl 32 (w.take (m - 1)) (w.getD (m - 1) 0)).2.length = m - 1
  go : goes w ((wl 32 (w.take (m - 1)) (w.getD (m - 1) 0)).1 ++ [(("away" : Str), m - 2)]) = some ((wl 32 (w.take (m - 1)) (w.getD (m - 1) 0)).2.take (m - 2) ++ w.drop m)
  nm : ∀ x ∈ (wl 32 (w.take (m - 1)) (w.getD (m - 1) 0)).1 ++ [(("away" : Str), m - 2)], (x.1 = "far" ∨ x.1 = "three" ∨ x.1 = "away") ∧ x.2 < w.length
  size : (wl 32 (w.take (m - 1)) (w.getD (m - 1) 0)).1.length ≤ bnd (w.length - 2)
theorem goes_ok {n : Nat} : ∀ {ms : List Mv} {w w' : List Nat}, WordOk n w → goes w ms = some w' → WordOk n w'
  | [], w, w', hw, h => by cases h; exact hw
  | m :: r, w, w', hw, h => by
    cases e : movedOf w m.1 m.2 with
    | none => simp only [goes, e] at h; cases h
    | some z =>
      rw [goes_cons e] at h
      exact goes_ok (moved_ok hw e) h
theorem sh_step {n : Nat} {w : List Nat} (hw : WordOk n w) (hl : w.length ≤ 30) (h : isShort n w = false) : ∃ m, ShStep n w m := by
  obtain ⟨m, t, e1, e2, e3, e4⟩ := filter_head (p := fun k => !isShort n (w.take k)) (m := w.length + 1) ⟨w.length, by omega, by rw [List.take_of_length_le (Nat.le_refl _), h]; rfl⟩
  have tw : ∀ k, WordOk n (w.take k) := fun k j hj => hw j (List.mem_of_mem_take hj)
  have bad : ¬ Ups (upTo n) (w.take m) := fun z => by
    have := (short_iff (tw m)).mpr z
    rw [this] at e3
    cases e3
  have m1 : m ≠ 0 := fun z => by subst z; exact bad trivial
  have good : Ups (upTo n) (w.take (m - 1)) := (short_iff (tw _)).mp (by simpa using e4 (m - 1) (by omega))
  have hlt : m - 1 < w.length := by omega
  have et : w.take m = w.take (m - 1) ++ [w.getD (m - 1) 0] := by
    have := take_snoc hlt
    rwa [show m - 1 + 1 = m by omega] at this
  generalize hk : w.getD (m - 1) 0 = k at *
  have kin : k ∈ w := by
    rw [← hk]
    simp [List.getD, hlt]
  have hk1 := hw k kin
  have lr : (ledM (upTo n) (w.take (m - 1))).length = n := by rw [led_len (by rw [upTo_len]; exact tw _), upTo_len]
  have nd : (ledM (upTo n) (w.take (m - 1))).Nodup := row_nodup (led_perm (by rw [upTo_len]; exact tw _))
  have hd : (ledM (upTo n) (w.take (m - 1))).getD (k + 1) 0 < (ledM (upTo n) (w.take (m - 1))).getD k 0 := by
    rcases pairs_step nd (by omega : k + 1 < (ledM (upTo n) (w.take (m - 1))).length) with ⟨z, _⟩ | ⟨z, _⟩
    · refine absurd ?_ bad
      rw [et]
      exact ups_snoc' good (by omega) z
    · exact z
  have lt : (w.take (m - 1)).length = m - 1 := by rw [List.length_take]; omega
  have W := wl_ok 32 (k := k) (by omega) ⟨good, rfl⟩ hk1 hd
  obtain ⟨g, g1, g2, _⟩ := W.ex
  have wlt := W.lt
  have mp : 2 ≤ m := by omega
  have g3 : (wl 32 (w.take (m - 1)) k).2.take (m - 2) = g := by rw [g1, List.take_left' (by omega)]
  have ew : w = w.take (m - 1) ++ (k :: w.drop m) := by
    conv => lhs; rw [← List.take_append_drop m w, et, List.append_assoc]
    rfl
  refine ⟨m, ?_, ⟨t, e1⟩, mp, by omega, ?_, ?_, ?_, ?_, ?_⟩
  · unfold firstBad
    rw [e1]
    rfl
  · rw [hk]; exact W.ok (by omega)
  · rw [hk, g1, List.length_append]; simp; omega
  · rw [hk, g3]
    have key : ∀ x : List Nat, x = w.take (m - 1) ++ (k :: w.drop m) → goes x ((wl 32 (w.take (m - 1)) k).1 ++ [(("away" : Str), m - 2)]) = some (g ++ w.drop m) := fun x hx => ?_
    · exact key w ew
    subst hx
    rw [goes_app (goes_lift W.go), g1, List.append_assoc, show m - 2 = g.length by omega]
    exact goes_cons away_at
  · rw [hk]
    intro x hx
    rcases List.mem_append.mp hx with hx | hx
    · have := W.nm x hx
      exact ⟨this.1.elim .inl fun z => .inr (.inl z), by omega⟩
    · rw [List.mem_singleton.mp hx]
      exact ⟨.inr (.inr rfl), by show m - 2 < w.length; omega⟩
  · rw [hk]
    exact Nat.le_trans W.len (bnd_mono (by omega))
def shrow : Nat → Nat → List Nat → List Mv
  | 0, _, _ => []
  | f + 1, n, w => if isShort n w = true then [] else
      (wl 32 (w.take (firstBad n w - 1)) (w.getD (firstBad n w - 1) 0)).1 ++ [(("away" : Str), firstBad n w - 2)] ++ shrow f n ((wl 32 (w.take (firstBad n w - 1)) (w.getD (firstBad n w - 1) 0)).2.take (firstBad n w - 2) ++ w.drop (firstBad n w))
def ssum : Nat → Nat
  | 0 => 0
  | 1 => 0
  | l + 2 => bnd l + 1 + ssum l
theorem ssum_mono : ∀ {p q : Nat}, p ≤ q → ssum p ≤ ssum q := fun {p q} h => by
  have step : ∀ p, ssum p ≤ ssum (p + 1) := by
    intro p
    induction p using Nat.strongRecOn with
    | _ p ih =>
      match p, ih with
      | 0, _ => exact Nat.le_refl _
      | 1, _ => exact Nat.zero_le _
      | p + 2, ih =>
        have h1 := ih p (by omega)
        have h2 : bnd p ≤ bnd (p + 1) := bnd_mono (by omega)
        show bnd p + 1 + ssum p ≤ bnd (p + 1) + 1 + ssum (p + 1)
        omega
  induction h with
  | refl => exact Nat.le_refl _
  | step _ ih => exact Nat.le_trans ih (step _)
structure Sr (n f : Nat) (w : List Nat) : Prop where
  go : ∃ w', goes w (shrow f n w) = some w' ∧ isShort n w' = true
  nm : ∀ x ∈ shrow f n w, (x.1 = "far" ∨ x.1 = "three" ∨ x.1 = "away") ∧ x.2 < w.length
  size : (shrow f n w).length ≤ ssum w.length
theorem sh_next {n : Nat} {w : List Nat} {m : Nat} (hw : WordOk n w) (S : ShStep n w m) : WordOk n ((wl 32 (w.take (m - 1)) (w.getD (m - 1) 0)).2.take (m - 2) ++ w.drop m) ∧ ((wl 32 (w.take (m - 1)) (w.getD (m - 1) 0)).2.take (m - 2) ++ w.drop m).length = w.length - 2 := by
  refine ⟨goes_ok hw S.go, ?_⟩
  rw [List.length_append, List.length_take, List.length_drop, S.len]
  have := S.m2
  have := S.ml
  omega
theorem shrow_ok {n : Nat} : ∀ {f : Nat} {w : List Nat}, WordOk n w → w.length ≤ f → w.length ≤ 30 → Sr n f w
  | 0, w, hw, hf, _ => by
    have : w = [] := List.eq_nil_of_length_eq_zero (by omega)
    subst this
    exact ⟨⟨[], rfl, (short_iff hw).mpr trivial⟩, (fun x hx => by cases hx), Nat.zero_le _⟩
  | f + 1, w, hw, hf, hl => by
    cases hs : isShort n w with
    | true =>
      have e : shrow (f + 1) n w = [] := by
        show (if isShort n w = true then _ else _) = _
        rw [if_pos hs]
      rw [show Sr n (f + 1) w ↔ Sr n (f + 1) w from Iff.rfl]
      exact ⟨⟨w, by rw [e]; rfl, hs⟩, (fun x hx => by rw [e] at hx; cases hx), by rw [e]; exact Nat.zero_le _⟩
    | false =>
      obtain ⟨m, S⟩ := sh_step hw hl hs
      obtain ⟨n1, n2⟩ := sh_next hw S
      have := S.m2
      have := S.ml
      have R := shrow_ok (f := f) n1 (by omega) (by omega)
      have e : shrow (f + 1) n w = (wl 32 (w.take (m - 1)) (w.getD (m - 1) 0)).1 ++ [(("away" : Str), m - 2)] ++ shrow f n ((wl 32 (w.take (m - 1)) (w.getD (m - 1) 0)).2.take (m - 2) ++ w.drop m) := by
        show (if isShort n w = true then _ else _) = _
        rw [if_neg (by rw [hs]; simp), S.fst]
      refine ⟨?_, fun x hx => ?_, ?_⟩
      · obtain ⟨w', h1, h2⟩ := R.go
        exact ⟨w', by rw [e, goes_app S.go]; exact h1, h2⟩
      · rw [e] at hx
        rcases List.mem_append.mp hx with hx | hx
        · exact S.nm x hx
        · have := R.nm x hx
          exact ⟨this.1, by omega⟩
      · rw [e, List.length_append, List.length_append]
        have h1 := S.size
        have h2 := R.size
        rw [n2] at h2
        have h3 : ssum w.length = bnd (w.length - 2) + 1 + ssum (w.length - 2) := by
          obtain ⟨l, hl⟩ : ∃ l, w.length = l + 2 := ⟨w.length - 2, by omega⟩
          rw [hl]
          rfl
        simp only [List.length_cons, List.length_nil]
        omega
/-- the judge -/
def judgeS (n : Nat) (w : List Nat) (d : D) : D :=
  match (faultM ["far", "three", "away"] w d).1 with
  | .none => if isShort n (faultM ["far", "three", "away"] w d).2 = true then .none else .tuple [.str "longer"]
  | f => f
theorem runM_word {n : Nat} : ∀ {ms : List Mv} {w : List Nat} {k : Nat}, WordOk n w → WordOk n (runM w k ms).2
  | [], w, k, h => h
  | m :: r, w, k, h => by
    show WordOk n (match movedOf w m.1 m.2 with | none => _ | some w' => runM w' (k + 1) r).2
    cases e : movedOf w m.1 m.2 with
    | none => exact h
    | some z => exact runM_word (moved_ok h e)
theorem faultM_word {n : Nat} {ws : List Str} {w : List Nat} {d : D} (h : WordOk n w) : WordOk n (faultM ws w d).2 := by
  unfold faultM
  split
  · split
    · exact runM_word h
    · exact h
  · exact h
theorem judgeS_ok {n m : Nat} {w : List Nat} {d : D} (h : ∀ ds, d = .tuple ds → ds.length ≤ m) : Fault m (judgeS n w d) := by
  have f := faultM_ok (ws := ["far", "three", "away"]) (w := w) h
  unfold judgeS
  split
  · split
    · exact .inl rfl
    · exact .inr (.inr (.inr (.inl rfl)))
  · exact f
theorem judgeS_none {n : Nat} {w w' : List Nat} {ms : List Mv} (h : goes w ms = some w') (hs : isShort n w' = true) (hn : ∀ m ∈ ms, m.1 = "far" ∨ m.1 = "three" ∨ m.1 = "away") : judgeS n w (mvsT ms) = .none := by
  have e : faultM ["far", "three", "away"] w (mvsT ms) = (.none, w') := by
    unfold mvsT faultM
    have h1 : (ms.map mvD).all (isMv ["far", "three", "away"]) = true := by
      rw [List.all_eq_true]
      intro d hd
      obtain ⟨m, hm, rfl⟩ := List.mem_map.mp hd
      exact (isMv_mk (by rcases hn m hm with h | h | h <;> simp [h])).1
    dsimp only
    rw [if_pos h1, List.map_map]
    have h2 : ms.map (mvOf ∘ mvD) = ms := by
      conv => rhs; rw [← List.map_id ms]
      exact List.map_congr_left fun m hm => (isMv_mk (ws := ["far", "three", "away"]) (by rcases hn m hm with h | h | h <;> simp [h])).2
    rw [h2]
    exact runM_goes h
  unfold judgeS
  rw [e]
  dsimp only
  rw [if_pos hs]

abbrev sp_is_shortest : Spec where
  n := 2
  w := fun as Q => ∃ (n : Nat) (w : List Nat), as = [.int n, tupN w] ∧ n ≤ 1000 ∧ WordOk n w ∧ Q (.bool (isShort n w))
  len := fun as Q ⟨n, w, h, _⟩ => by rw [h]; rfl
  mono := fun as Q Q' ⟨n, w, h, h1, h2, q⟩ f => ⟨n, w, h, h1, h2, f _ q⟩
def T_is_shortest : DTS := (gRet (gBin eqD (gCall sp_row_length (gCons (gCall sp_row_of (gCons (gVar 0) (gCons (gVar 1) gNil))) gNil)) (gU lenU (gVar 1))))
abbrev N_is_shortest : List Str := ["n", "word"]
theorem w_is_shortest (as : List D) (Q : D → Prop) (h : sp_is_shortest.w as Q) : T_is_shortest { nx := fun _ => Q .none, rt := fun d _ => Q d } (startR N_is_shortest (as.map .dat)) := by
  obtain ⟨n, w, rfl, hn, hw, q⟩ := h
  unfold T_is_shortest
  rw [show startR N_is_shortest (List.map Cl.dat [.int n, tupN w]) = [some (.dat (.int n)), some (.dat (tupN w))] from rfl]
  refine st_ret (ev_to (ev_bin (ev_row_length (ns := ledM (upTo n) w) (eva_cons (ev_row_of (eva_cons (ev_var rfl) (eva_cons (ev_var rfl) eva_nil)) hn hw) eva_nil) ?_) (ev_u (ev_var rfl) u_lenTm) op_eqI) ?_) q
  · rw [led_len (by rw [upTo_len]; exact hw), upTo_len]; exact hn
  · unfold isShort
    rw [← pairs_len]
    exact congrArg PyData.bool (decide_eq_decide.mpr (by omega))
theorem ev_is_shortest {l : DTA} {ρ : Rho} {n : Nat} {w : List Nat} (h : EvA l ρ [.int n, tupN w]) (hn : n ≤ 1000) (hw : WordOk n w) : Ev (gCall sp_is_shortest l) ρ (.bool (isShort n w)) := ev_call h fun Q q => ⟨n, w, rfl, hn, hw, q⟩

abbrev sp_is_integer : Spec where
  n := 1
  w := fun as Q => ∃ d : D, as = [d] ∧ Q (.bool (isInt d))
  len := fun as Q ⟨d, h, _⟩ => by rw [h]; rfl
  mono := fun as Q Q' ⟨d, h, q⟩ f => ⟨d, h, f _ q⟩
def T_is_integer : DTS := (gRet (gAndV (gIs "int" (gVar 0)) (gNotV (gIs "bool" (gVar 0)))))
abbrev N_is_integer : List Str := ["value"]
theorem w_is_integer (as : List D) (Q : D → Prop) (h : sp_is_integer.w as Q) : T_is_integer { nx := fun _ => Q .none, rt := fun d _ => Q d } (startR N_is_integer (as.map .dat)) := by
  obtain ⟨d, rfl, q⟩ := h
  unfold T_is_integer
  rw [show startR N_is_integer (List.map Cl.dat [d]) = [some (.dat d)] from rfl]
  refine st_ret (ev_to (ev_andV (ev_is (ev_var rfl)) fun _ => ev_notV (ev_is (ev_var rfl))) ?_) q
  cases d <;> simp [isInt]
theorem ev_is_integer {l : DTA} {ρ : Rho} {d : D} (h : EvA l ρ [d]) : Ev (gCall sp_is_integer l) ρ (.bool (isInt d)) := ev_call h fun Q q => ⟨d, rfl, q⟩

abbrev sp_is_worded : Spec where
  n := 3
  w := fun as Q => ∃ (d : D) (ws : List Str) (many : Nat), as = [d, .tuple (ws.map .str), .int many] ∧ 1 ≤ many ∧ Q (.bool (isWd ws many d))
  len := fun as Q ⟨d, ws, m, h, _⟩ => by rw [h]; rfl
  mono := fun as Q Q' ⟨d, ws, m, h, h1, q⟩ f => ⟨d, ws, m, h, h1, f _ q⟩
def T_is_worded : DTS := (gRet (gAndV (gIs "tuple" (gVar 0)) (gAndV (gBin eqD (gU lenU (gVar 0)) (gVar 2)) (gAndV (gIs "str" (gBin ixD (gVar 0) (gC (.int 0)))) (gBin inD (gBin ixD (gVar 0) (gC (.int 0))) (gVar 1))))))
abbrev N_is_worded : List Str := ["value", "words", "many"]
theorem w_is_worded (as : List D) (Q : D → Prop) (h : sp_is_worded.w as Q) : T_is_worded { nx := fun _ => Q .none, rt := fun d _ => Q d } (startR N_is_worded (as.map .dat)) := by
  obtain ⟨d, ws, many, rfl, hm, q⟩ := h
  unfold T_is_worded
  rw [show startR N_is_worded (List.map Cl.dat [d, .tuple (ws.map .str), .int many]) = [some (.dat d), some (.dat (.tuple (ws.map .str))), some (.dat (.int many))] from rfl]
  by_cases ht : ∃ ds, d = .tuple ds
  · obtain ⟨ds, rfl⟩ := ht
    refine st_ret (ev_to (ev_andV (ev_is (ev_var rfl)) (q := decide (ds.length = many) && hdW ws ds) fun _ => ?_) (by simp [isWd])) q
    refine ev_to (ev_andV (ev_bin (ev_u (ev_var rfl) u_lenT) (ev_var rfl) op_eqI) (q := hdW ws ds) fun c => ?_) (by congr 2; exact decide_eq_decide.mpr (by omega))
    have c := of_decide_eq_true c
    cases ds with
    | nil => simp at c; omega
    | cons x r =>
      have hx : ∀ {ρ : Rho}, lk ρ 0 = some (.dat (.tuple (x :: r))) → Ev (gBin ixD (gVar 0) (gC (.int 0))) ρ x := fun h => ev_bin (ev_var h) ev_c (op_ixT (atI_nat (j := 0) rfl))
      by_cases hs : ∃ s, x = .str s
      · obtain ⟨s, rfl⟩ := hs
        exact ev_to (ev_andV (ev_is (hx rfl)) fun _ => ev_bin (hx rfl) (ev_var rfl) op_inS) (by simp [hdW])
      · have e1 : isT "str" x = false := isT_str_no hs
        refine ev_to (ev_andV (q := false) (ev_is (hx rfl)) fun c => by rw [e1] at c; cases c) ?_
        rw [e1]
        rw [hdW_no hs]
        rfl
  · have e1 : isT "tuple" d = false := isT_tup_no ht
    refine st_ret (ev_to (ev_andV (q := false) (ev_is (ev_var rfl)) fun c => by rw [e1] at c; cases c) ?_) q
    rw [e1]
    congr 1
    unfold isWd
    split
    · rename_i ds; exact absurd ⟨ds, rfl⟩ ht
    · rfl
theorem ev_is_worded {l : DTA} {ρ : Rho} {d : D} {ws : List Str} {many : Nat} (h : EvA l ρ [d, .tuple (ws.map .str), .int many]) (h1 : 1 ≤ many) : Ev (gCall sp_is_worded l) ρ (.bool (isWd ws many d)) := ev_call h fun Q q => ⟨d, ws, many, rfl, h1, q⟩

def optN' : Option (List Nat) → D
  | none => .none
  | some w => tupN w
abbrev sp_moved_or_none : Spec where
  n := 2
  w := fun as Q => ∃ (ws : List Nat) (m : Mv), as = [tupN ws, mvD m] ∧ ws.length ≤ 50000 ∧ Q (optN' (movedOf ws m.1 m.2))
  len := fun as Q ⟨ws, m, h, _⟩ => by rw [h]; rfl
  mono := fun as Q Q' ⟨ws, m, h, h1, q⟩ f => ⟨ws, m, h, h1, f _ q⟩
def T_moved_or_noneb1_2 : DTS := (gRet (gBin addD (gBin addD (gSl (gVar 0) gNo (gSome (gVar 3))) (gTup (gCons (gBin ixD (gVar 4) (gC (.int 1))) (gCons (gBin ixD (gVar 4) (gC (.int 0))) (gCons (gBin ixD (gVar 4) (gC (.int 1))) gNil))))) (gSl (gVar 0) (gSome (gBin addD (gVar 3) (gC (.int 3)))) gNo)))
def T_moved_or_noneb1_1 : DTS := gSeq (gIfS (gOr (gTest (gBin ltD (gU lenU (gVar 4)) (gC (.int 3)))) (gOr (gTest (gBin neD (gBin ixD (gVar 4) (gC (.int 0))) (gBin ixD (gVar 4) (gC (.int 2))))) (gTest (gBin neD (gU absU (gBin subD (gBin ixD (gVar 4) (gC (.int 0))) (gBin ixD (gVar 4) (gC (.int 1))))) (gC (.int 1)))))) (gRet (gC .none)) gNext) T_moved_or_noneb1_2
def T_moved_or_noneb1 : DTS := gSeq (gSet 4 (gSl (gVar 0) (gSome (gVar 3)) (gSome (gBin addD (gVar 3) (gC (.int 3)))))) T_moved_or_noneb1_1
def T_moved_or_none_5 : DTS := (gRet (gIf (gTest (gBin eqD (gBin ixD (gVar 4) (gC (.int 0))) (gBin ixD (gVar 4) (gC (.int 1))))) (gBin addD (gSl (gVar 0) gNo (gSome (gVar 3))) (gSl (gVar 0) (gSome (gBin addD (gVar 3) (gC (.int 2)))) gNo)) (gC .none)))
def T_moved_or_none_4 : DTS := gSeq (gIfS (gTest (gBin eqD (gVar 2) (gC (.str "far")))) (gRet (gIf (gTest (gBin gtD (gU absU (gBin subD (gBin ixD (gVar 4) (gC (.int 0))) (gBin ixD (gVar 4) (gC (.int 1))))) (gC (.int 1)))) (gBin addD (gBin addD (gSl (gVar 0) gNo (gSome (gVar 3))) (gRevT (gVar 4))) (gSl (gVar 0) (gSome (gBin addD (gVar 3) (gC (.int 2)))) gNo)) (gC .none))) gNext) T_moved_or_none_5
def T_moved_or_none_3 : DTS := gSeq (gIfS (gTest (gBin ltD (gU lenU (gVar 4)) (gC (.int 2)))) (gRet (gC .none)) gNext) T_moved_or_none_4
def T_moved_or_none_2 : DTS := gSeq (gSet 4 (gSl (gVar 0) (gSome (gVar 3)) (gSome (gBin addD (gVar 3) (gC (.int 2)))))) T_moved_or_none_3
def T_moved_or_none_1 : DTS := gSeq (gIfS (gTest (gBin eqD (gVar 2) (gC (.str "three")))) T_moved_or_noneb1 gNext) T_moved_or_none_2
def T_moved_or_none : DTS := gSeq (gAsg (gVar 1) (gdTup (gdCons (gdName 2) (gdCons (gdName 3) gdNil)) 2)) T_moved_or_none_1
abbrev N_moved_or_none : List Str := ["word", "move", "name", "i", "some"]
theorem cut_word' {ws : List Nat} {i k : Nat} : cutD (ws.map fun k : Nat => PyData.int k) (some (i : Int)) (some ((i : Int) + (k : Nat))) = ((ws.drop i).take k).map fun k : Nat => PyData.int k := by
  rw [cut_mid, List.map_take, List.map_drop]
theorem w_moved_or_none (as : List D) (Q : D → Prop) (h : sp_moved_or_none.w as Q) : T_moved_or_none { nx := fun _ => Q .none, rt := fun d _ => Q d } (startR N_moved_or_none (as.map .dat)) := by
  obtain ⟨ws, ⟨name, i⟩, rfl, hl, q⟩ := h
  dsimp only at q
  unfold T_moved_or_none
  rw [show startR N_moved_or_none (List.map Cl.dat [tupN ws, mvD (name, i)]) = [some (.dat (tupN ws)), some (.dat (.tuple [.str name, .int i])), none, none, none] from rfl]
  apply st_seq
  refine st_asg (ev_var rfl) (evg_tup (evgs_cons evg_name (evgs_cons evg_name evgs_nil)) rfl) ?_
  walk_at "nx"
  show T_moved_or_none_1 _ _
  unfold T_moved_or_none_1
  apply st_seq
  have fromI : ∀ {ρ : Rho} (j : Nat) {b : DTE}, lk ρ 0 = some (.dat (tupN ws)) → Ev b ρ (.int ((i : Int) + (j : Nat))) → Ev (gSl (gVar 0) (gSome b) gNo) ρ (tupN (ws.drop (i + j))) := fun j _ h0 hb => ev_to (ev_sl (ev_var h0) (evo_some hb) evo_no Cut.t) (by rw [show ((i : Int) + (j : Nat)) = ((i + j : Nat) : Int) by omega, cut_from0, ← List.map_drop]; rfl)
  have toI : ∀ {ρ : Rho}, lk ρ 0 = some (.dat (tupN ws)) → lk ρ 3 = some (.dat (.int i)) → Ev (gSl (gVar 0) gNo (gSome (gVar 3))) ρ (tupN (ws.take i)) := fun h0 h3 => ev_to (ev_sl (ev_var h0) evo_no (evo_some (ev_var h3)) Cut.t) (by rw [cut_to, ← List.map_take]; rfl)
  have addN : ∀ (u v : List Nat), u.length + v.length ≤ 100000 → Op2 addD (tupN u) (tupN v) (tupN (u ++ v)) := fun u v h P z => by
    refine op_addT (by rw [List.length_map, List.length_map]; exact h) P ?_
    rw [← List.map_append]
    exact z
  have absI : ∀ a b : Nat, (if ((a : Int) - b) < 0 then -((a : Int) - b) else ((a : Int) - b)) = ((if a < b then b - a else a - b : Nat) : Int) := fun a b => by split <;> split <;> omega
  have lt1 : (ws.take i).length ≤ ws.length := by rw [List.length_take]; omega
  by_cases h3 : name = "three"
  · subst h3
    unfold movedOf at q
    rw [if_pos rfl] at q
    refine st_ifT (evt_to (evt_test (ev_bin (ev_var rfl) ev_c op_eqS)) (by simp)) ?_
    unfold T_moved_or_noneb1
    apply st_seq
    refine st_set (d := tupN ((ws.drop i).take 3)) (ev_to (ev_sl (ev_var rfl) (evo_some (ev_var rfl)) (evo_some (ev_bin (ev_var rfl) ev_c op_add)) Cut.t) ?_) ?_
    · exact congrArg PyData.tuple (cut_word' (k := 3))
    walk_at "nx"
    show T_moved_or_noneb1_1 _ _
    unfold T_moved_or_noneb1_1
    apply st_seq
    by_cases hlen : ((ws.drop i).take 3).length < 3
    · refine st_ifT (evt_to (evt_or (q := true) (evt_test (ev_bin (ev_u (ev_var rfl) u_lenTm) ev_c op_lt)) fun c => ?_) (by simp)) ?_
      · have c := of_decide_eq_false c
        omega
      · refine st_ret ev_c ?_
        split at q
        · rename_i a b d e
          rw [e] at hlen
          simp at hlen
        · exact q
    · obtain ⟨a, b, d, e⟩ : ∃ a b d, (ws.drop i).take 3 = [a, b, d] := by
        have hle := List.length_take_le 3 (ws.drop i)
        match h : (ws.drop i).take 3 with
        | [a, b, d] => exact ⟨a, b, d, rfl⟩
        | [] => rw [h] at hlen; simp at hlen
        | [_] => rw [h] at hlen; simp at hlen
        | [_, _] => rw [h] at hlen; simp at hlen
        | _ :: _ :: _ :: _ :: _ => rw [h] at hle; simp at hle
      rw [e] at q ⊢
      dsimp only at q
      have two : ∀ {ρ : Rho}, lk ρ 4 = some (.dat (tupN [a, b, d])) → Ev (gBin ixD (gVar 4) (gC (.int 0))) ρ (.int a) ∧ Ev (gBin ixD (gVar 4) (gC (.int 1))) ρ (.int b) ∧ Ev (gBin ixD (gVar 4) (gC (.int 2))) ρ (.int d) := fun h => ⟨ev_bin (ev_var h) ev_c (op_ixT rfl), ev_bin (ev_var h) ev_c (op_ixT rfl), ev_bin (ev_var h) ev_c (op_ixT rfl)⟩
      refine st_if (p := !decide (a = d ∧ (a + 1 = b ∨ b + 1 = a))) (evt_to (evt_orF (evt_to (evt_test (ev_bin (ev_u (ev_var rfl) u_lenTm) ev_c op_lt)) (by simp)) (evt_or (evt_test (ev_bin (two rfl).1 (two rfl).2.2 op_neI)) fun _ => evt_test (ev_bin (ev_u (ev_bin (two rfl).1 (two rfl).2.1 op_sub) u_abs) ev_c op_neI))) ?_) (fun c => ?_) (fun c => ?_)
      · rw [absI, Bool.decide_and, Bool.not_and]
        congr 2
        · exact decide_eq_decide.mpr (by omega)
        · refine decide_eq_decide.mpr ?_
          split <;> omega
      · have c : ¬ (a = d ∧ (a + 1 = b ∨ b + 1 = a)) := of_decide_eq_false (by cases h : decide (a = d ∧ (a + 1 = b ∨ b + 1 = a)) <;> simp [h] at c ⊢)
        rw [if_neg c] at q
        exact st_ret ev_c q
      · have c : (a = d ∧ (a + 1 = b ∨ b + 1 = a)) := of_decide_eq_true (by cases h : decide (a = d ∧ (a + 1 = b ∨ b + 1 = a)) <;> simp [h] at c ⊢)
        rw [if_pos c] at q
        show T_moved_or_noneb1_2 _ _
        unfold T_moved_or_noneb1_2
        refine st_ret (ev_bin (ev_bin (toI rfl rfl) (ev_to (d := tupN [b, a, b]) (ev_tup (eva_cons (two rfl).2.1 (eva_cons (two rfl).1 (eva_cons (two rfl).2.1 eva_nil))) (by simp)) rfl) (addN (ws.take i) [b, a, b] (by simp; omega))) (fromI 3 rfl (ev_bin (ev_var rfl) ev_c op_add)) (addN _ _ (by simp; omega))) q
  · refine st_ifF (evt_to (evt_test (ev_bin (ev_var rfl) ev_c op_eqS)) (by simpa using h3)) ?_
    show T_moved_or_none_2 _ _
    unfold T_moved_or_none_2
    apply st_seq
    refine st_set (d := tupN ((ws.drop i).take 2)) (ev_to (ev_sl (ev_var rfl) (evo_some (ev_var rfl)) (evo_some (ev_bin (ev_var rfl) ev_c op_add)) Cut.t) ?_) ?_
    · exact congrArg PyData.tuple (cut_word' (k := 2))
    walk_at "nx"
    show T_moved_or_none_3 _ _
    unfold T_moved_or_none_3
    apply st_seq
    unfold movedOf at q
    rw [if_neg h3] at q
    refine st_if (evt_test (ev_bin (ev_u (ev_var rfl) u_lenTm) ev_c op_lt)) (fun c => ?_) (fun c => ?_)
    · have c := of_decide_eq_true c
      refine st_ret ev_c ?_
      split at q
      · rename_i a b e
        rw [e] at c
        simp at c
      · exact q
    · have c := of_decide_eq_false c
      obtain ⟨a, b, e⟩ : ∃ a b, (ws.drop i).take 2 = [a, b] := by
        have hle := List.length_take_le 2 (ws.drop i)
        match h : (ws.drop i).take 2 with
        | [a, b] => exact ⟨a, b, rfl⟩
        | [] => rw [h] at c; simp at c
        | [_] => rw [h] at c; simp at c
        | _ :: _ :: _ :: _ => rw [h] at hle; simp at hle
      rw [e] at q ⊢
      dsimp only at q
      have two : ∀ {ρ : Rho}, lk ρ 4 = some (.dat (tupN [a, b])) → Ev (gBin ixD (gVar 4) (gC (.int 0))) ρ (.int a) ∧ Ev (gBin ixD (gVar 4) (gC (.int 1))) ρ (.int b) := fun h => ⟨ev_bin (ev_var h) ev_c (op_ixT rfl), ev_bin (ev_var h) ev_c (op_ixT rfl)⟩
      show T_moved_or_none_4 _ _
      unfold T_moved_or_none_4
      apply st_seq
      refine st_if (evt_test (ev_bin (ev_var rfl) ev_c op_eqS)) (fun cf => ?_) (fun cf => ?_)
      · rw [if_pos (of_decide_eq_true cf)] at q
        by_cases hf : Far a b
        · rw [if_pos hf] at q
          refine st_ret (ev_ifT (evt_to (evt_test (ev_bin (ev_u (ev_bin (two rfl).1 (two rfl).2 op_sub) u_abs) ev_c op_gt)) ?_) (ev_bin (ev_bin (toI rfl rfl) (ev_to (d := tupN [b, a]) (ev_revT (ev_var rfl)) rfl) (addN (ws.take i) [b, a] (by simp; omega))) (fromI 2 rfl (ev_bin (ev_var rfl) ev_c op_add)) (addN _ _ (by simp; omega)))) q
          rw [absI]
          refine decide_eq_true ?_
          unfold Far at hf
          split <;> omega
        · rw [if_neg hf] at q
          refine st_ret (ev_ifF (evt_to (evt_test (ev_bin (ev_u (ev_bin (two rfl).1 (two rfl).2 op_sub) u_abs) ev_c op_gt)) ?_) ev_c) q
          rw [absI]
          refine decide_eq_false ?_
          unfold Far at hf
          split <;> omega
      · rw [if_neg (of_decide_eq_false cf)] at q
        show T_moved_or_none_5 _ _
        unfold T_moved_or_none_5
        by_cases hc : a = b
        · rw [if_pos hc] at q
          exact st_ret (ev_ifT (evt_to (evt_test (ev_bin (two rfl).1 (two rfl).2 op_eqI)) (decide_eq_true (by omega))) (ev_bin (toI rfl rfl) (fromI 2 rfl (ev_bin (ev_var rfl) ev_c op_add)) (addN _ _ (by simp; omega)))) q
        · rw [if_neg hc] at q
          exact st_ret (ev_ifF (evt_to (evt_test (ev_bin (two rfl).1 (two rfl).2 op_eqI)) (decide_eq_false (by omega))) ev_c) q
theorem ev_moved_or_none {l : DTA} {ρ : Rho} {ws : List Nat} {m : Mv} (h : EvA l ρ [tupN ws, mvD m]) (hl : ws.length ≤ 50000) : Ev (gCall sp_moved_or_none l) ρ (optN' (movedOf ws m.1 m.2)) := ev_call h fun Q q => ⟨ws, m, rfl, hl, q⟩

abbrev spr_with_last (m : Nat) : Spec where
  n := 2
  w := fun as Q => ∃ (w : List Nat) (k : Nat), as = [tupN w, .int k] ∧ okW m w k ∧ Q (.tuple [mvsL (wl m w k).1, tupN (wl m w k).2])
  len := fun as Q ⟨w, k, h, _⟩ => by rw [h]; rfl
  mono := fun as Q Q' ⟨w, k, h, h1, q⟩ f => ⟨w, k, h, h1, f _ q⟩
abbrev sp_with_last : Spec := spr_with_last 32
theorem z_with_last (ds : List D) (Q : D → Prop) : ¬ (spr_with_last 0).w ds Q := fun ⟨_, _, _, h, _⟩ => h
def T_with_lastb4_1 (m : Nat) : DTS := (gRet (gTup (gCons (gBin catD (gVar 6) (gLst (gCons (gTup (gCons (gC (.str "far")) (gCons (gBin subD (gVar 4) (gC (.int 1))) gNil))) gNil))) (gCons (gBin addD (gSl (gVar 7) gNo (gSome (gBin subD (gVar 4) (gC (.int 1))))) (gTup (gCons (gVar 5) (gCons (gVar 1) gNil)))) gNil))))
def T_with_lastb4 (m : Nat) : DTS := gSeq (gAsg (gCall (spr_with_last m) (gCons (gSl (gVar 3) gNo (gSome (gVar 4))) (gCons (gVar 1) gNil))) (gdTup (gdCons (gdName 6) (gdCons (gdName 7) gdNil)) 2)) (T_with_lastb4_1 m)
def T_with_last_7 (m : Nat) : DTS := (gRet (gTup (gCons (gBin catD (gBin addD (gVar 6) (gVar 8)) (gLst (gCons (gTup (gCons (gC (.str "three")) (gCons (gBin subD (gVar 4) (gC (.int 2))) gNil))) gNil))) (gCons (gBin addD (gSl (gVar 9) gNo (gSome (gBin subD (gVar 4) (gC (.int 2))))) (gTup (gCons (gVar 1) (gCons (gVar 5) (gCons (gVar 1) gNil))))) gNil))))
def T_with_last_6 (m : Nat) : DTS := gSeq (gAsg (gCall (spr_with_last m) (gCons (gSl (gVar 7) gNo (gSome (gBin subD (gVar 4) (gC (.int 1))))) (gCons (gVar 5) gNil))) (gdTup (gdCons (gdName 8) (gdCons (gdName 9) gdNil)) 2)) (T_with_last_7 m)
def T_with_last_5 (m : Nat) : DTS := gSeq (gAsg (gCall (spr_with_last m) (gCons (gSl (gVar 3) gNo (gSome (gVar 4))) (gCons (gVar 1) gNil))) (gdTup (gdCons (gdName 6) (gdCons (gdName 7) gdNil)) 2)) (T_with_last_6 m)
def T_with_last_4 (m : Nat) : DTS := gSeq (gIfS (gTest (gBin gtD (gU absU (gBin subD (gVar 5) (gVar 1))) (gC (.int 1)))) (T_with_lastb4 m) gNext) (T_with_last_5 m)
def T_with_last_3 (m : Nat) : DTS := gSeq (gSet 5 (gBin ixD (gVar 3) (gVar 4))) (T_with_last_4 m)
def T_with_last_2 (m : Nat) : DTS := gSeq (gIfS (gTest (gBin eqD (gBin ixD (gVar 3) (gVar 4)) (gVar 1))) (gRet (gTup (gCons (gVar 2) (gCons (gVar 3) gNil)))) gNext) (T_with_last_3 m)
def T_with_last_1 (m : Nat) : DTS := gSeq (gSet 4 (gBin subD (gU lenU (gVar 3)) (gC (.int 1)))) (T_with_last_2 m)
def T_with_last (m : Nat) : DTS := gSeq (gPar2 2 3 (gcDat (gLst gNil) (gcDat (gVar 0) gcNil))) (T_with_last_1 m)
abbrev N_with_last : List Str := ["row_way", "k", "moves", "way", "last", "j", "more", "head", "late", "front"]
theorem ev_with_last_r {m : Nat} {l : DTA} {ρ : Rho} {w : List Nat} {k : Nat} (h : EvA l ρ [tupN w, .int k]) (h1 : okW m w k) : Ev (gCall (spr_with_last m) l) ρ (.tuple [mvsL (wl m w k).1, tupN (wl m w k).2]) := ev_call h fun Q q => ⟨w, k, rfl, h1, q⟩
theorem op_addN {u v : List Nat} (h : u.length + v.length ≤ 100000) : Op2 addD (tupN u) (tupN v) (tupN (u ++ v)) := fun P z => by
  refine op_addT (by rw [List.length_map, List.length_map]; exact h) P ?_
  rw [← List.map_append]
  exact z
theorem ev_toN {ρ : Rho} {a b : DTE} {ws : List Nat} {i : Nat} (h : Ev a ρ (tupN ws)) (hb : Ev b ρ (.int (i : Nat))) : Ev (gSl a gNo (gSome b)) ρ (tupN (ws.take i)) := ev_to (ev_sl h evo_no (evo_some hb) Cut.t) (by rw [cut_to, ← List.map_take]; rfl)
theorem op_catM {u v : List Mv} (h : u.length + v.length ≤ 100000) : Op2 addD (mvsL u) (mvsL v) (mvsL (u ++ v)) := fun P z => by
  refine op_addL (by rw [List.length_map, List.length_map]; exact h) P ?_
  rw [← List.map_append]
  exact z
theorem op_catM' {u v : List Mv} (h : u.length + v.length ≤ 100000) : Op2 catD (mvsL u) (mvsL v) (mvsL (u ++ v)) := fun P z => by
  refine op_cat (by rw [List.length_map, List.length_map]; exact h) P ?_
  rw [← List.map_append]
  exact z
theorem w_with_last (m : Nat) (as : List D) (Q : D → Prop) (h : (spr_with_last (m + 1)).w as Q) : T_with_last m { nx := fun _ => Q .none, rt := fun d _ => Q d } (startR N_with_last (as.map .dat)) := by
  obtain ⟨w, k, rfl, ok, q⟩ := h
  obtain ⟨h0, hl, ok⟩ := ok
  unfold T_with_last
  rw [show startR N_with_last (List.map Cl.dat [tupN w, .int k]) = [some (.dat (tupN w)), some (.dat (.int k)), none, none, none, none, none, none, none, none] from rfl]
  apply st_seq
  refine st_par2 (u := .dat (.list [])) (v := .dat (tupN w)) (by walk_at "evs"; simp) ?_
  walk_at "nx"
  show T_with_last_1 m _ _
  unfold T_with_last_1
  apply st_seq
  refine st_set (d := .int ((w.length - 1 : Nat) : Int)) (ev_to (ev_bin (ev_u (ev_var rfl) u_lenTm) ev_c op_sub) (by congr 1; omega)) ?_
  walk_at "nx"
  show T_with_last_2 m _ _
  unfold T_with_last_2
  apply st_seq
  have atl : ∀ {ρ : Rho}, lk ρ 3 = some (.dat (tupN w)) → lk ρ 4 = some (.dat (.int ((w.length - 1 : Nat) : Int))) → Ev (gBin ixD (gVar 3) (gVar 4)) ρ (.int ((lastW w : Nat) : Int)) := fun h3 h4 => by
    exact ev_bin (ev_var h3) (ev_var h4) (op_ixT (at_word (by omega)))
  have e : wl (m + 1) w k = if lastW w = k then ([], w) else if Far (lastW w) k then
      ((wl m (w.take (w.length - 1)) k).1 ++ [(("far" : Str), w.length - 1 - 1)], (wl m (w.take (w.length - 1)) k).2.take (w.length - 1 - 1) ++ [lastW w, k])
    else
      ((wl m (w.take (w.length - 1)) k).1 ++ (wl m ((wl m (w.take (w.length - 1)) k).2.take (w.length - 1 - 1)) (lastW w)).1 ++ [(("three" : Str), w.length - 1 - 2)],
        (wl m ((wl m (w.take (w.length - 1)) k).2.take (w.length - 1 - 1)) (lastW w)).2.take (w.length - 1 - 2) ++ [k, lastW w, k]) := rfl
  rw [e] at q
  refine st_if (evt_test (ev_bin (atl rfl rfl) (ev_var rfl) op_eqI)) (fun c => ?_) (fun c => ?_)
  · have c := of_decide_eq_true c
    rw [if_pos (show lastW w = k by omega)] at q
    exact st_ret (ev_tup (eva_cons (ev_var rfl) (eva_cons (ev_var rfl) eva_nil)) (by simp)) q
  have c := of_decide_eq_false c
  have hne : lastW w ≠ k := fun z => c (by omega)
  rw [if_neg hne] at q
  obtain ⟨l2, ok1, ln1, sz1, ok⟩ := ok hne
  generalize hw1 : w.take (w.length - 1) = w1 at *
  generalize ha : wl m w1 k = a at *
  show T_with_last_3 m _ _
  unfold T_with_last_3
  apply st_seq
  refine st_set (atl rfl rfl) ?_
  walk_at "nx"
  show T_with_last_4 m _ _
  unfold T_with_last_4
  apply st_seq
  have first : ∀ {ρ : Rho}, lk ρ 3 = some (.dat (tupN w)) → lk ρ 4 = some (.dat (.int ((w.length - 1 : Nat) : Int))) → lk ρ 1 = some (.dat (.int k)) → Ev (gCall (spr_with_last m) (gCons (gSl (gVar 3) gNo (gSome (gVar 4))) (gCons (gVar 1) gNil))) ρ (.tuple [mvsL a.1, tupN a.2]) := fun h3 h4 h1 => by
    rw [← ha]
    refine ev_with_last_r (eva_cons (ev_to (ev_toN (ev_var h3) (ev_var h4)) (by rw [hw1])) (eva_cons (ev_var h1) eva_nil)) ok1
  have absI : ∀ a b : Nat, (if ((a : Int) - b) < 0 then -((a : Int) - b) else ((a : Int) - b)) = ((if a < b then b - a else a - b : Nat) : Int) := fun a b => by split <;> split <;> omega
  have sub1 : ∀ {ρ : Rho} (j : Nat), j < w.length → lk ρ 4 = some (.dat (.int ((w.length - 1 : Nat) : Int))) → Ev (gBin subD (gVar 4) (gC (.int j))) ρ (.int ((w.length - 1 - j : Nat) : Int)) := fun j hj h4 => ev_to (ev_bin (ev_var h4) ev_c op_sub) (by congr 1; omega)
  refine st_if (evt_test (ev_bin (ev_u (ev_bin (ev_var rfl) (ev_var rfl) op_sub) u_abs) ev_c op_gt)) (fun c => ?_) (fun c => ?_)
  · have c := of_decide_eq_true c
    rw [absI] at c
    have hf : Far (lastW w) k := by
      unfold Far
      split at c <;> omega
    rw [if_pos hf] at q
    unfold T_with_lastb4
    apply st_seq
    refine st_asg (first rfl rfl rfl) (evg_tup (evgs_cons evg_name (evgs_cons evg_name evgs_nil)) rfl) ?_
    walk_at "nx"
    show T_with_lastb4_1 m _ _
    unfold T_with_lastb4_1
    refine st_ret (ev_tup (eva_cons (ev_bin (ev_var rfl) (ev_to (d := mvsL [(("far" : Str), w.length - 1 - 1)]) (ev_lst (eva_cons (ev_tup (eva_cons ev_c (eva_cons (sub1 1 (by omega) rfl) eva_nil)) (by simp)) eva_nil) (by simp)) rfl) (op_catM' (by simpa using sz1)))
      (eva_cons (ev_bin (ev_toN (ev_var rfl) (sub1 1 (by omega) rfl)) (ev_to (d := tupN [lastW w, k]) (ev_tup (eva_cons (ev_var rfl) (eva_cons (ev_var rfl) eva_nil)) (by simp)) rfl) (op_addN (by rw [List.length_take]; simp; omega))) eva_nil)) (by simp)) q
  · have c := of_decide_eq_false c
    rw [absI] at c
    have hf : ¬ Far (lastW w) k := by
      unfold Far
      split at c <;> omega
    rw [if_neg hf] at q
    obtain ⟨l3, ok2, ln2, sz2⟩ := ok hf
    generalize hw2 : a.2.take (w.length - 1 - 1) = w2 at *
    generalize hb : wl m w2 (lastW w) = b at *
    show T_with_last_5 m _ _
    unfold T_with_last_5
    apply st_seq
    refine st_asg (first rfl rfl rfl) (evg_tup (evgs_cons evg_name (evgs_cons evg_name evgs_nil)) rfl) ?_
    walk_at "nx"
    show T_with_last_6 m _ _
    unfold T_with_last_6
    apply st_seq
    refine st_asg (ev_to (ev_with_last_r (w := w2) (k := lastW w) (eva_cons (ev_to (ev_toN (ev_var rfl) (sub1 1 (by omega) rfl)) (by rw [hw2])) (eva_cons (ev_var rfl) eva_nil)) ok2) (by rw [hb])) (evg_tup (evgs_cons evg_name (evgs_cons evg_name evgs_nil)) rfl) ?_
    walk_at "nx"
    show T_with_last_7 m _ _
    unfold T_with_last_7
    refine st_ret (ev_tup (eva_cons (ev_bin (ev_bin (ev_var rfl) (ev_var rfl) (op_catM (by omega))) (ev_to (d := mvsL [(("three" : Str), w.length - 1 - 2)]) (ev_lst (eva_cons (ev_tup (eva_cons ev_c (eva_cons (sub1 2 (by omega) rfl) eva_nil)) (by simp)) eva_nil) (by simp)) rfl) (op_catM' (by rw [List.length_append]; exact sz2)))
      (eva_cons (ev_bin (ev_toN (ev_var rfl) (sub1 2 (by omega) rfl)) (ev_to (d := tupN [k, lastW w, k]) (ev_tup (eva_cons (ev_var rfl) (eva_cons (ev_var rfl) (eva_cons (ev_var rfl) eva_nil))) (by simp)) rfl) (op_addN (by rw [List.length_take]; simp; omega))) eva_nil)) (by simp)) q
theorem ev_with_last {l : DTA} {ρ : Rho} {w : List Nat} {k : Nat} (h : EvA l ρ [tupN w, .int k]) (h1 : okW 32 w k) : Ev (gCall sp_with_last l) ρ (.tuple [mvsL (wl 32 w k).1, tupN (wl 32 w k).2]) := ev_with_last_r h h1

abbrev sp_is_move : Spec where
  n := 2
  w := fun as Q => ∃ (d : D) (ws : List Str), as = [d, .tuple (ws.map .str)] ∧ Q (.bool (isMv ws d))
  len := fun as Q ⟨d, ws, h, _⟩ => by rw [h]; rfl
  mono := fun as Q Q' ⟨d, ws, h, q⟩ f => ⟨d, ws, h, f _ q⟩
def T_is_move : DTS := (gRet (gAndV (gCall sp_is_worded (gCons (gVar 0) (gCons (gVar 1) (gCons (gC (.int 2)) gNil)))) (gAndV (gCall sp_is_integer (gCons (gBin ixD (gVar 0) (gC (.int 1))) gNil)) (gBin geD (gBin ixD (gVar 0) (gC (.int 1))) (gC (.int 0))))))
abbrev N_is_move : List Str := ["value", "words"]
theorem isMv_two (ws : List Str) (d : D) : (∃ s y, d = .tuple [.str s, y] ∧ s ∈ ws) ∨ isWd ws 2 d = false := by
  by_cases h : isWd ws 2 d = true
  · left
    unfold isWd at h
    split at h
    · rename_i ds
      simp only [Bool.and_eq_true, decide_eq_true_eq] at h
      obtain ⟨h1, h2⟩ := h
      unfold hdW at h2
      split at h2
      · rename_i s r
        match r, h1 with
        | [y], _ => exact ⟨s, y, rfl, of_decide_eq_true h2⟩
      · cases h2
    · cases h
  · right; simpa using h
theorem isMv_wd {ws : List Str} {d : D} (h : isWd ws 2 d = false) : isMv ws d = false := by
  cases e : isMv ws d with
  | false => rfl
  | true =>
    obtain ⟨h1, h2⟩ := isMv_eq e
    rw [h1] at h
    have : isWd ws 2 (mvD (mvOf d)) = true := by
      show (decide (2 = 2) && decide ((mvOf d).1 ∈ ws)) = true
      simp [h2]
    rw [this] at h
    cases h
theorem w_is_move (as : List D) (Q : D → Prop) (h : sp_is_move.w as Q) : T_is_move { nx := fun _ => Q .none, rt := fun d _ => Q d } (startR N_is_move (as.map .dat)) := by
  obtain ⟨d, ws, rfl, q⟩ := h
  unfold T_is_move
  rw [show startR N_is_move (List.map Cl.dat [d, .tuple (ws.map .str)]) = [some (.dat d), some (.dat (.tuple (ws.map .str)))] from rfl]
  rcases isMv_two ws d with ⟨s, y, rfl, hs⟩ | hw
  · have hy : ∀ {ρ : Rho}, lk ρ 0 = some (.dat (.tuple [.str s, y])) → Ev (gBin ixD (gVar 0) (gC (.int 1))) ρ y := fun h => ev_bin (ev_var h) ev_c (op_ixT rfl)
    by_cases hi : ∃ i, y = .int i
    · obtain ⟨i, rfl⟩ := hi
      exact st_ret (ev_to (ev_andV (ev_is_worded (many := 2) (eva_cons (ev_var rfl) (eva_cons (ev_var rfl) (eva_cons ev_c eva_nil))) (by decide)) fun _ => ev_andV (ev_is_integer (eva_cons (hy rfl) eva_nil)) fun _ => ev_bin (hy rfl) ev_c op_ge) (by simp [isWd, hdW, isInt, isMv])) q
    · have e1 : isInt y = false := isInt_no hi
      refine st_ret (ev_to (ev_andV (ev_is_worded (many := 2) (eva_cons (ev_var rfl) (eva_cons (ev_var rfl) (eva_cons ev_c eva_nil))) (by decide)) fun _ => ev_andV (q := false) (ev_is_integer (eva_cons (hy rfl) eva_nil)) fun c => by rw [e1] at c; cases c) ?_) q
      rw [e1]
      have : isMv ws (.tuple [.str s, y]) = false := by
        unfold isMv
        split
        · rename_i i e
          exact absurd ⟨_, by simp at e; exact e.2⟩ hi
        · rfl
      rw [this]
      simp
  · refine st_ret (ev_to (ev_andV (q := false) (ev_is_worded (many := 2) (eva_cons (ev_var rfl) (eva_cons (ev_var rfl) (eva_cons ev_c eva_nil))) (by decide)) fun c => by rw [hw] at c; cases c) ?_) q
    rw [hw, isMv_wd hw]
    rfl
theorem ev_is_move {l : DTA} {ρ : Rho} {d : D} {ws : List Str} (h : EvA l ρ [d, .tuple (ws.map .str)]) : Ev (gCall sp_is_move l) ρ (.bool (isMv ws d)) := ev_call h fun Q q => ⟨d, ws, rfl, q⟩

abbrev sp_row_fault : Spec where
  n := 3
  w := fun as Q => ∃ (w : List Nat) (d : D) (ws : List Str), as = [tupN w, d, .tuple (ws.map .str)] ∧ w.length ≤ 50000 ∧ (∀ ds, d = .tuple ds → ds.length ≤ 100000) ∧ Q (.tuple [(faultM ws w d).1, tupN (faultM ws w d).2])
  len := fun as Q ⟨w, d, ws, h, _⟩ => by rw [h]; rfl
  mono := fun as Q Q' ⟨w, d, ws, h, h1, h2, q⟩ f => ⟨w, d, ws, h, h1, h2, f _ q⟩
def T_row_faultb1_2 : DTS := (gSet 0 (gVar 5))
def T_row_faultb1_1 : DTS := gSeq (gIfS (gTest (gIsN false (gVar 5))) (gRet (gTup (gCons (gTup (gCons (gC (.str "move")) (gCons (gVar 3) gNil))) (gCons (gVar 0) gNil)))) gNext) T_row_faultb1_2
def T_row_faultb1 : DTS := gSeq (gSet 5 (gCall sp_moved_or_none (gCons (gVar 0) (gCons (gVar 4) gNil)))) T_row_faultb1_1
def T_row_fault_2 : DTS := (gRet (gTup (gCons (gC .none) (gCons (gVar 0) gNil))))
def T_row_fault_1 : DTS := gSeq (gFor (giEnum (gVar 1)) (gdTup (gdCons (gdName 3) (gdCons (gdName 4) gdNil)) 2) T_row_faultb1) T_row_fault_2
def T_row_fault : DTS := gSeq (gIfS (gOr (gNot (gTest (gIs "tuple" (gVar 1)))) (gNot (gTest (gU allU (gLc (giSeq (gVar 1)) (gdName 4) gYes (gCall sp_is_move (gCons (gVar 4) (gCons (gVar 2) gNil))) [4]))))) (gRet (gTup (gCons (gTup (gCons (gC (.str "form")) gNil)) (gCons (gVar 0) gNil)))) gNext) T_row_fault_1
abbrev N_row_fault : List Str := ["word", "value", "words", "k", "move", "late"]
theorem w_row_fault (as : List D) (Q : D → Prop) (h : sp_row_fault.w as Q) : T_row_fault { nx := fun _ => Q .none, rt := fun d _ => Q d } (startR N_row_fault (as.map .dat)) := by
  obtain ⟨w, d, ws, rfl, hl, hd, q⟩ := h
  unfold T_row_fault
  rw [show startR N_row_fault (List.map Cl.dat [tupN w, d, .tuple (ws.map .str)]) = [some (.dat (tupN w)), some (.dat d), some (.dat (.tuple (ws.map .str))), none, none, none] from rfl]
  apply st_seq
  by_cases ht : ∃ ds, d = .tuple ds
  · obtain ⟨ds, rfl⟩ := ht
    have lds := hd ds rfl
    refine st_if (p := !ds.all (isMv ws)) (evt_to (evt_orF (evt_to (evt_not (evt_test (ev_is (ev_var rfl)))) (by simp)) (evt_not (evt_test (ev_u (ev_lcN ds id (fun x => .bool (isMv ws x)) (ys := (ds.map (isMv ws)).map PyData.bool) (evi_to (evi_seq (ev_var rfl) Items.t) (List.map_id ds).symm)
      (fun x hx => ev_is_move (eva_cons (ev_var rfl) (eva_cons (ev_var rfl) eva_nil))) (by rw [List.map_map]; rfl) lds) u_all)))) (by rw [List.all_map]; rfl)) (fun c => ?_) (fun c => ?_)
    · have c : ¬ ds.all (isMv ws) = true := by simpa using c
      refine st_ret (ev_tup (eva_cons (ev_tup (eva_cons ev_c eva_nil) (by simp)) (eva_cons (ev_var rfl) eva_nil)) (by simp)) ?_
      unfold faultM at q
      dsimp only at q
      rw [if_neg c] at q
      exact q
    · have c : ds.all (isMv ws) = true := by simpa using c
      unfold faultM at q
      dsimp only at q
      rw [if_pos c] at q
      have eds : ds = (ds.map mvOf).map mvD := by
        rw [List.map_map]
        conv => lhs; rw [← List.map_id ds]
        exact List.map_congr_left fun x hx => (isMv_eq (List.all_eq_true.mp c x hx)).1
      have lms : (ds.map mvOf).length ≤ 100000 := by rw [List.length_map]; exact lds
      generalize ds.map mvOf = ms at *
      subst eds
      show T_row_fault_1 _ _
      unfold T_row_fault_1
      apply st_seq
      refine st_for ms.zipIdx (fun p => PyData.tuple [.int (p.2 : Nat), mvD p.1]) (fun i ρ => ∃ (v : List Nat) (o3 o4 o5 : Option Cl), ρ = [some (.dat (tupN v)), some (.dat (.tuple (ms.map mvD))), some (.dat (.tuple (ws.map .str))), o3, o4, o5] ∧ v.length ≤ 50000 ∧ runM w 0 ms = runM v i (ms.drop i))
        (evi_to (evi_enum (ev_var rfl) Items.t) (enum_mvs ms)) ⟨w, none, none, none, rfl, hl, rfl⟩ (fun i x ρ2 hx hJ => ?_) (fun ρ2 hJ => ?_)
      · obtain ⟨v, o3, o4, o5, rfl, lv, hr⟩ := hJ
        have hx2 := List.getElem?_eq_some_iff.mp hx
        obtain ⟨hi, hx3⟩ := hx2
        rw [List.length_zipIdx] at hi
        rw [List.getElem_zipIdx] at hx3
        simp only [Nat.zero_add] at hx3
        subst hx3
        rw [List.drop_eq_getElem_cons hi] at hr
        generalize ms[i] = m at *
        refine evg_tup (evgs_cons evg_name (evgs_cons evg_name evgs_nil)) rfl _ ?_
        walk_at "nx"
        unfold T_row_faultb1
        apply st_seq
        refine st_set (ev_moved_or_none (ws := v) (m := m) (eva_cons (ev_var rfl) (eva_cons (ev_var rfl) eva_nil)) lv) ?_
        walk_at "nx"
        show T_row_faultb1_1 _ _
        unfold T_row_faultb1_1
        apply st_seq
        cases e : movedOf v m.1 m.2 with
        | none =>
          refine st_ifT (evt_to (evt_test (ev_isN (ev_var rfl))) rfl) ?_
          refine st_ret (ev_tup (eva_cons (ev_tup (eva_cons ev_c (eva_cons (ev_var rfl) eva_nil)) (by simp)) (eva_cons (ev_var rfl) eva_nil)) (by simp)) ?_
          have e2 : runM v i (m :: ms.drop (i + 1)) = (.tuple [.str "move", .int (i : Nat)], v) := by
            show (match movedOf v m.1 m.2 with | none => _ | some w' => runM w' (i + 1) _) = _
            rw [e]
          rw [hr, e2] at q
          exact q
        | some v' =>
          refine st_ifF (evt_to (evt_test (ev_notN (ev_var rfl) (by simp [optN', tupN]))) rfl) ?_
          show T_row_faultb1_2 _ _
          unfold T_row_faultb1_2
          refine st_set (ev_var rfl) ?_
          walk_at "nx"
          refine ⟨v', _, _, _, rfl, Nat.le_trans (moved_len e) lv, ?_⟩
          rw [hr]
          show (match movedOf v m.1 m.2 with | none => _ | some w' => runM w' (i + 1) _) = _
          rw [e]
      · obtain ⟨v, o3, o4, o5, rfl, lv, hr⟩ := hJ
        rw [List.length_zipIdx, List.drop_length] at hr
        show T_row_fault_2 _ _
        unfold T_row_fault_2
        refine st_ret (ev_tup (eva_cons ev_c (eva_cons (ev_var rfl) eva_nil)) (by simp)) ?_
        rw [hr] at q
        exact q
  · have e1 : isT "tuple" d = false := isT_tup_no ht
    have e2 : faultM ws w d = (formD, w) := by
      unfold faultM
      split
      · rename_i ds; exact absurd ⟨ds, rfl⟩ ht
      · rfl
    refine st_ifT (fun P z => evt_not (evt_test (ev_is (ev_var rfl))) _ ?_) ?_
    · rw [e1]; exact z
    · refine st_ret (ev_tup (eva_cons (ev_tup (eva_cons ev_c eva_nil) (by simp)) (eva_cons (ev_var rfl) eva_nil)) (by simp)) ?_
      rw [e2] at q
      exact q
theorem ev_row_fault {l : DTA} {ρ : Rho} {w : List Nat} {d : D} {ws : List Str} (h : EvA l ρ [tupN w, d, .tuple (ws.map .str)]) (h1 : w.length ≤ 50000) (h2 : ∀ ds, d = .tuple ds → ds.length ≤ 100000) : Ev (gCall sp_row_fault l) ρ (.tuple [(faultM ws w d).1, tupN (faultM ws w d).2]) := ev_call h fun Q q => ⟨w, d, ws, rfl, h1, h2, q⟩

abbrev sp_shortening_row : Spec where
  n := 2
  w := fun as Q => ∃ (n : Nat) (w : List Nat), as = [.int n, tupN w] ∧ n ≤ 1000 ∧ WordOk n w ∧ w.length ≤ 30 ∧ Q (mvsT (shrow w.length n w))
  len := fun as Q ⟨n, w, h, _⟩ => by rw [h]; rfl
  mono := fun as Q Q' ⟨n, w, h, h1, h2, h3, q⟩ f => ⟨n, w, h, h1, h2, h3, f _ q⟩
def T_shortening_rowb1_4 : DTS := (gSet 1 (gBin addD (gSl (gVar 7) gNo (gSome (gBin subD (gVar 3) (gC (.int 2))))) (gSl (gVar 1) (gSome (gVar 3)) gNo)))
def T_shortening_rowb1_3 : DTS := gSeq (gExt 2 (gLst (gStar (gVar 6) (gCons (gTup (gCons (gC (.str "away")) (gCons (gBin subD (gVar 3) (gC (.int 2))) gNil))) gNil)))) T_shortening_rowb1_4
def T_shortening_rowb1_2 : DTS := gSeq (gAsg (gCall sp_with_last (gCons (gVar 4) (gCons (gVar 5) gNil))) (gdTup (gdCons (gdName 6) (gdCons (gdName 7) gdNil)) 2)) T_shortening_rowb1_3
def T_shortening_rowb1_1 : DTS := gSeq (gPar2 4 5 (gcDat (gSl (gVar 1) gNo (gSome (gBin subD (gVar 3) (gC (.int 1))))) (gcDat (gBin ixD (gVar 1) (gBin subD (gVar 3) (gC (.int 1)))) gcNil))) T_shortening_rowb1_2
def T_shortening_rowb1 : DTS := gSeq (gSet 3 (gBin ixD (gLc (giR1 (gBin addD (gU lenU (gVar 1)) (gC (.int 1)))) (gdName 5) (gNot (gTest (gCall sp_is_shortest (gCons (gVar 0) (gCons (gSl (gVar 1) gNo (gSome (gVar 5))) gNil))))) (gVar 5) [5]) (gC (.int 0)))) T_shortening_rowb1_1
def T_shortening_row_2 : DTS := (gRet (gU tupU (gOwn 2)))
def T_shortening_row_1 : DTS := gSeq (gWhile (gNot (gTest (gCall sp_is_shortest (gCons (gVar 0) (gCons (gVar 1) gNil))))) T_shortening_rowb1) T_shortening_row_2
def T_shortening_row : DTS := gSeq (gSetO 2 (gLst gNil)) T_shortening_row_1
abbrev N_shortening_row : List Str := ["n", "word", "found", "many", "way", "k", "moves", "late"]
theorem ev_fromN {ρ : Rho} {a b : DTE} {ws : List Nat} {i : Nat} (h : Ev a ρ (tupN ws)) (hb : Ev b ρ (.int (i : Nat))) : Ev (gSl a (gSome b) gNo) ρ (tupN (ws.drop i)) := ev_to (ev_sl h (evo_some hb) evo_no Cut.t) (by rw [cut_from0, ← List.map_drop]; rfl)
theorem w_shortening_row (as : List D) (Q : D → Prop) (h : sp_shortening_row.w as Q) : T_shortening_row { nx := fun _ => Q .none, rt := fun d _ => Q d } (startR N_shortening_row (as.map .dat)) := by
  obtain ⟨n, w0, rfl, hn, hw0, hl0, q⟩ := h
  have big : ssum 30 ≤ 60000 := by decide
  have R0 := shrow_ok hw0 (Nat.le_refl _) hl0
  have sz0 : (shrow w0.length n w0).length ≤ 60000 := Nat.le_trans R0.size (Nat.le_trans (ssum_mono hl0) big)
  generalize htot : shrow w0.length n w0 = tot at *
  unfold T_shortening_row
  rw [show startR N_shortening_row (List.map Cl.dat [.int n, tupN w0]) = [some (.dat (.int n)), some (.dat (tupN w0)), none, none, none, none, none, none] from rfl]
  apply st_seq
  refine st_setO (d := .list []) (ev_lst eva_nil (by simp)) ?_
  walk_at "nx"
  show T_shortening_row_1 _ _
  unfold T_shortening_row_1
  apply st_seq
  refine st_while (fun f ρ => ∃ (found : List Mv) (w : List Nat) (o3 o4 o6 o7 : Option Cl) (o5 : Option D), ρ = [some (.dat (.int n)), some (.dat (tupN w)), some (.own (mvsL found)), o3, o4, o5.map .dat, o6, o7] ∧ WordOk n w ∧ w.length ≤ f ∧ w.length ≤ 30 ∧ found ++ shrow f n w = tot) w0.length ⟨[], w0, none, none, none, none, none, rfl, hw0, Nat.le_refl _, hl0, htot⟩ (fun f ρ2 hJ => ?_)
  obtain ⟨found, w, o3, o4, o6, o7, o5, rfl, hw, hf, hl, ht⟩ := hJ
  refine ⟨!isShort n w, evt_not (evt_test (ev_is_shortest (eva_cons (ev_var rfl) (eva_cons (ev_var rfl) eva_nil)) hn hw)), fun c => ?_, fun c => ?_⟩
  · have hs : isShort n w = false := by simpa using c
    obtain ⟨m, S⟩ := sh_step hw hl hs
    obtain ⟨n1, n2⟩ := sh_next hw S
    have m2 := S.m2
    have ml := S.ml
    obtain ⟨f, rfl⟩ : ∃ f', f = f' + 1 := ⟨f - 1, by omega⟩
    have e : shrow (f + 1) n w = (wl 32 (w.take (m - 1)) (w.getD (m - 1) 0)).1 ++ [(("away" : Str), m - 2)] ++ shrow f n ((wl 32 (w.take (m - 1)) (w.getD (m - 1) 0)).2.take (m - 2) ++ w.drop m) := by
      show (if isShort n w = true then _ else _) = _
      rw [if_neg (by rw [hs]; simp), S.fst]
    rw [e] at ht
    have hlen := congrArg List.length ht
    simp only [List.length_append, List.length_cons, List.length_nil] at hlen
    have okw := S.ok
    have lw2 := S.len
    generalize ha : wl 32 (w.take (m - 1)) (w.getD (m - 1) 0) = a at *
    unfold T_shortening_rowb1
    apply st_seq
    obtain ⟨t, et⟩ := S.ls
    refine st_set (d := .int m) (ev_bin (ev_lcFN (List.range (w.length + 1)) (fun k : Nat => PyData.int k) (fun k : Nat => PyData.int k) (fun k => !isShort n (w.take k)) (ys := (m :: t).map fun k : Nat => PyData.int k) (evi_rng (w.length + 1) (ev_bin (ev_u (ev_var rfl) u_lenTm) ev_c op_add) (by omega) (.inl (by omega)))
      (fun k hk => evt_not (evt_test (ev_is_shortest (eva_cons (ev_var rfl) (eva_cons (ev_toN (ev_var rfl) (ev_var rfl)) eva_nil)) hn fun j hj => hw j (List.mem_of_mem_take hj)))) (fun k hk _ => ev_var rfl) (by rw [et]) (by simp; omega) (by cases o5 <;> rfl)) ev_c (op_ixL (atI_nat (j := 0) rfl))) ?_
    walk_at "nx"
    show T_shortening_rowb1_1 _ _
    unfold T_shortening_rowb1_1
    apply st_seq
    have sub : ∀ {ρ : Rho} (j : Nat), j ≤ m → lk ρ 3 = some (.dat (.int (m : Nat))) → Ev (gBin subD (gVar 3) (gC (.int j))) ρ (.int ((m - j : Nat) : Int)) := fun j hj h3 => ev_to (ev_bin (ev_var h3) ev_c op_sub) (by congr 1; omega)
    refine st_par2 (evc_dat (ev_toN (ev_var rfl) (sub 1 (by omega) rfl)) (evc_dat (ev_bin (ev_var rfl) (sub 1 (by omega) rfl) (op_ixT (at_word (by omega)))) evc_nil)) ?_
    walk_at "nx"
    show T_shortening_rowb1_2 _ _
    unfold T_shortening_rowb1_2
    apply st_seq
    refine st_asg (ev_to (ev_with_last (eva_cons (ev_var rfl) (eva_cons (ev_var rfl) eva_nil)) okw) (by rw [ha])) (evg_tup (evgs_cons evg_name (evgs_cons evg_name evgs_nil)) rfl) ?_
    walk_at "nx"
    show T_shortening_rowb1_3 _ _
    unfold T_shortening_rowb1_3
    apply st_seq
    refine st_ext rfl (ev_to (d := mvsL (a.1 ++ [(("away" : Str), m - 2)])) (ev_lst (eva_starL (ev_var rfl) (eva_cons (ev_tup (eva_cons ev_c (eva_cons (sub 2 (by omega) rfl) eva_nil)) (by simp)) eva_nil)) (by simp; omega)) (by unfold mvsL; rw [List.map_append]; rfl)) (by simp; omega) ?_
    walk_at "nx"
    show T_shortening_rowb1_4 _ _
    unfold T_shortening_rowb1_4
    refine st_set (d := tupN (a.2.take (m - 2) ++ w.drop m)) (ev_bin (ev_toN (ev_var rfl) (sub 2 (by omega) rfl)) (ev_fromN (ev_var rfl) (ev_var rfl)) (op_addN (by rw [List.length_take, List.length_drop]; omega))) ?_
    walk_at "nx"
    refine ⟨f, by omega, found ++ (a.1 ++ [(("away" : Str), m - 2)]), _, _, _, _, _, some _, by rw [← List.map_append]; rfl, n1, by omega, by omega, ?_⟩
    rw [List.append_assoc]
    exact ht
  · have hs : isShort n w = true := by simpa using c
    have e : shrow f n w = [] := by
      cases f with
      | zero => rfl
      | succ f =>
        show (if isShort n w = true then _ else _) = _
        rw [if_pos hs]
    rw [e, List.append_nil] at ht
    show T_shortening_row_2 _ _
    unfold T_shortening_row_2
    refine st_ret (ev_u (ev_own rfl) u_tupL) ?_
    rw [ht]
    exact q
theorem ev_shortening_row {l : DTA} {ρ : Rho} {n : Nat} {w : List Nat} (h : EvA l ρ [.int n, tupN w]) (hn : n ≤ 1000) (hw : WordOk n w) (hl : w.length ≤ 30) : Ev (gCall sp_shortening_row l) ρ (mvsT (shrow w.length n w)) := ev_call h fun Q q => ⟨n, w, rfl, hn, hw, hl, q⟩

abbrev sp_judge_shortening_row : Spec where
  n := 3
  w := fun as Q => ∃ (n : Nat) (w : List Nat) (d : D), as = [.int n, tupN w, d] ∧ n ≤ 1000 ∧ WordOk n w ∧ w.length ≤ 50000 ∧ (∀ ds, d = .tuple ds → ds.length ≤ 100000) ∧ Q (judgeS n w d)
  len := fun as Q ⟨n, a, d, h, _⟩ => by rw [h]; rfl
  mono := fun as Q Q' ⟨n, a, d, h, h1, h2, h3, h4, q⟩ f => ⟨n, a, d, h, h1, h2, h3, h4, f _ q⟩
def T_judge_shortening_row_2 : DTS := (gRet (gIf (gTest (gCall sp_is_shortest (gCons (gVar 0) (gCons (gVar 4) gNil)))) (gC .none) (gTup (gCons (gC (.str "longer")) gNil))))
def T_judge_shortening_row_1 : DTS := gSeq (gIfS (gTest (gIsN true (gVar 3))) (gRet (gVar 3)) gNext) T_judge_shortening_row_2
def T_judge_shortening_row : DTS := gSeq (gAsg (gCall sp_row_fault (gCons (gVar 1) (gCons (gVar 2) (gCons (gTup (gStar (gC (.tuple ((["far", "three"] : List Str).map .str))) (gCons (gC (.str "away")) gNil))) gNil)))) (gdTup (gdCons (gdName 3) (gdCons (gdName 4) gdNil)) 2)) T_judge_shortening_row_1
abbrev N_judge_shortening_row : List Str := ["n", "word", "value", "fault", "last"]
theorem w_judge_shortening_row (as : List D) (Q : D → Prop) (h : sp_judge_shortening_row.w as Q) : T_judge_shortening_row { nx := fun _ => Q .none, rt := fun d _ => Q d } (startR N_judge_shortening_row (as.map .dat)) := by
  obtain ⟨n, w, d, rfl, hn, hw, hl, hd, q⟩ := h
  unfold T_judge_shortening_row
  rw [show startR N_judge_shortening_row (List.map Cl.dat [.int n, tupN w, d]) = [some (.dat (.int n)), some (.dat (tupN w)), some (.dat d), none, none] from rfl]
  apply st_seq
  refine st_asg (ev_row_fault (w := w) (d := d) (ws := ["far", "three", "away"]) (eva_cons (ev_var rfl) (eva_cons (ev_var rfl) (eva_cons (ev_to (ev_tup (eva_starT ev_c (eva_cons ev_c eva_nil)) (by simp)) rfl) eva_nil))) hl hd) (evg_tup (evgs_cons evg_name (evgs_cons evg_name evgs_nil)) rfl) ?_
  walk_at "nx"
  show T_judge_shortening_row_1 _ _
  unfold T_judge_shortening_row_1
  apply st_seq
  unfold judgeS at q
  have hw2 := faultM_word (ws := ["far", "three", "away"]) (d := d) hw
  generalize faultM ["far", "three", "away"] w d = r at *
  by_cases hr : r.1 = .none
  · rw [hr] at q ⊢
    refine st_ifF (evt_to (evt_test (ev_isN (ev_var rfl))) rfl) ?_
    show T_judge_shortening_row_2 _ _
    unfold T_judge_shortening_row_2
    dsimp only at q
    refine st_ret (ev_if (d := if isShort n r.2 = true then .none else .tuple [.str "longer"]) (evt_test (ev_is_shortest (eva_cons (ev_var rfl) (eva_cons (ev_var rfl) eva_nil)) hn hw2)) (fun c => ?_) (fun c => ?_)) q
    · rw [if_pos c]; exact ev_c
    · rw [if_neg (by rw [c]; simp)]; exact ev_tup (eva_cons ev_c eva_nil) (by simp)
  · refine st_ifT (evt_test (ev_notN (ev_var rfl) hr)) ?_
    refine st_ret (ev_var rfl) ?_
    split at q
    · rename_i e; exact absurd e hr
    · exact q
theorem ev_judge_shortening_row {l : DTA} {ρ : Rho} {n : Nat} {w : List Nat} {d : D} (h : EvA l ρ [.int n, tupN w, d]) (hn : n ≤ 1000) (hw : WordOk n w) (h1 : w.length ≤ 50000) (h2 : ∀ ds, d = .tuple ds → ds.length ≤ 100000) : Ev (gCall sp_judge_shortening_row l) ρ (judgeS n w d) := ev_call h fun Q q => ⟨n, w, d, rfl, hn, hw, h1, h2, q⟩

abbrev sp__law_swapped : Spec where
  n := 2
  w := fun as Q => ∃ (ns : List Int) (k : Nat), as = [tupI ns, .int k] ∧ ns.length ≤ 1000 ∧ k + 1 < ns.length ∧ Q (tupI (exch ns k (k + 1)))
  len := fun as Q ⟨ns, k, h, _⟩ => by rw [h]; rfl
  mono := fun as Q Q' ⟨ns, k, h, h1, h2, q⟩ f => ⟨ns, k, h, h1, h2, f _ q⟩
def T__law_swapped : DTS := (gRet (gBin addD (gBin addD (gSl (gVar 0) gNo (gSome (gVar 1))) (gTup (gCons (gBin ixD (gVar 0) (gBin addD (gVar 1) (gC (.int 1)))) (gCons (gBin ixD (gVar 0) (gVar 1)) gNil)))) (gSl (gVar 0) (gSome (gBin addD (gVar 1) (gC (.int 2)))) gNo)))
abbrev N__law_swapped : List Str := ["row", "k"]
theorem w__law_swapped (as : List D) (Q : D → Prop) (h : sp__law_swapped.w as Q) : T__law_swapped { nx := fun _ => Q .none, rt := fun d _ => Q d } (startR N__law_swapped (as.map .dat)) := by
  obtain ⟨ns, k, rfl, hl, hk, q⟩ := h
  unfold T__law_swapped
  rw [show startR N__law_swapped (List.map Cl.dat [tupI ns, .int k]) = [some (.dat (tupI ns)), some (.dat (.int k))] from rfl, gRet_s]
  refine ⟨_, rfl, _, rfl, _, rfl, ?_⟩
  refine ⟨_, rfl, _, rfl, _, by rw [show ((k : Int) + 1) = ((k + 1 : Nat) : Int) by omega]; exact atI_int hk, ?_⟩
  refine ⟨_, rfl, _, rfl, _, atI_int (by omega), by simp, ?_⟩
  show addD (.tuple (cutD (ns.map .int) none (some (k : Int)))) (.tuple [.int (ns.getD (k + 1) 0), .int (ns.getD k 0)]) _
  rw [cut_to]
  refine ⟨by simp; omega, _, rfl, _, rfl, _, rfl, ?_⟩
  show addD (.tuple ((ns.map .int).take k ++ [.int (ns.getD (k + 1) 0), .int (ns.getD k 0)])) (.tuple (cutD (ns.map .int) (some ((k : Int) + 2)) none)) _
  rw [show ((k : Int) + 2) = ((k + 1 : Nat) : Int) + 1 by omega, cut_from]
  refine ⟨by simp; omega, ?_⟩
  obtain ⟨_, e⟩ := exch_at hk
  have e2 : (ns.map PyData.int).take k ++ [.int (ns.getD (k + 1) 0), .int (ns.getD k 0)] ++ (ns.map PyData.int).drop (k + 1 + 1) = (exch ns k (k + 1)).map .int := by
    rw [e]
    simp [List.map_take, List.map_drop]
  rw [e2]
  exact q
theorem ev__law_swapped {l : DTA} {ρ : Rho} {ns : List Int} {k : Nat} (h : EvA l ρ [tupI ns, .int k]) (hl : ns.length ≤ 1000) (hk : k + 1 < ns.length) : Ev (gCall sp__law_swapped l) ρ (tupI (exch ns k (k + 1))) := ev_call h fun Q q => ⟨ns, k, rfl, hl, hk, q⟩

abbrev sp__law_led : Spec where
  n := 2
  w := fun as Q => ∃ (ns : List Int) (ws : List Nat), as = [tupI ns, tupN ws] ∧ ns.length ≤ 1000 ∧ WordOk ns.length ws ∧ Q (tupI (ledM ns ws))
  len := fun as Q ⟨ns, ws, h, _⟩ => by rw [h]; rfl
  mono := fun as Q Q' ⟨ns, ws, h, h1, h2, q⟩ f => ⟨ns, ws, h, h1, h2, f _ q⟩
def T__law_led_1 : DTS := (gRet (gVar 0))
def T__law_led : DTS := gSeq (gFor (giSeq (gVar 1)) (gdName 2) (gSet 0 (gCall sp__law_swapped (gCons (gVar 0) (gCons (gVar 2) gNil))))) T__law_led_1
abbrev N__law_led : List Str := ["row", "word", "k"]
theorem w__law_led (as : List D) (Q : D → Prop) (h : sp__law_led.w as Q) : T__law_led { nx := fun _ => Q .none, rt := fun d _ => Q d } (startR N__law_led (as.map .dat)) := by
  obtain ⟨ns, ws, rfl, hl, hw, q⟩ := h
  unfold T__law_led
  rw [show startR N__law_led (List.map Cl.dat [tupI ns, tupN ws]) = [some (.dat (tupI ns)), some (.dat (tupN ws)), none] from rfl, gSeq_s]
  refine forInv ws (fun k : Nat => PyData.int k) [some (.dat (tupI ns)), some (.dat (tupN ws)), none] (fun i ρ => ∃ o : Option Cl, ρ = [some (.dat (tupI (ledM ns (ws.take i)))), some (.dat (tupN ws)), o]) (fun P h => ⟨_, rfl, h⟩) ⟨none, rfl⟩ (fun i k ρ2 hk hJ => ?_) (fun ρ2 hJ => ?_)
  · obtain ⟨o, rfl⟩ := hJ
    obtain ⟨h1, h2⟩ := led_step hw hk
    have hl2 : (ledM ns (ws.take i)).length ≤ 1000 := by rw [led_len (fun j hj => hw j (List.mem_of_mem_take hj))]; exact hl
    rw [gdName_s, gSet_s]
    exact ⟨_, rfl, _, rfl, _, k, rfl, hl2, h1, _, by rw [h2]; rfl⟩
  · obtain ⟨o, rfl⟩ := hJ
    rw [List.take_length]
    exact ⟨_, rfl, q⟩
theorem ev__law_led {l : DTA} {ρ : Rho} {ns : List Int} {ws : List Nat} (h : EvA l ρ [tupI ns, tupN ws]) (hl : ns.length ≤ 1000) (hw : WordOk ns.length ws) : Ev (gCall sp__law_led l) ρ (tupI (ledM ns ws)) := ev_call h fun Q q => ⟨ns, ws, rfl, hl, hw, q⟩

abbrev sp__law_drops : Spec where
  n := 1
  w := fun as Q => ∃ ns : List Int, as = [tupI ns] ∧ ns.length ≤ 1000 ∧ Q (lstI (dropsOf ns))
  len := fun as Q ⟨ns, h, _⟩ => by rw [h]; rfl
  mono := fun as Q Q' ⟨ns, h, h1, q⟩ f => ⟨ns, h, h1, f _ q⟩
def T__law_drops : DTS := (gRet (gLc (giR1 (gBin subD (gU lenU (gVar 0)) (gC (.int 1)))) (gdName 1) (gTest (gBin gtD (gBin ixD (gVar 0) (gVar 1)) (gBin ixD (gVar 0) (gBin addD (gVar 1) (gC (.int 1)))))) (gVar 1) [1]))
abbrev N__law_drops : List Str := ["row", "k"]
theorem w__law_drops (as : List D) (Q : D → Prop) (h : sp__law_drops.w as Q) : T__law_drops { nx := fun _ => Q .none, rt := fun d _ => Q d } (startR N__law_drops (as.map .dat)) := by
  obtain ⟨ns, rfl, hl, q⟩ := h
  unfold T__law_drops
  rw [gRet_s]
  rw [show startR N__law_drops (List.map Cl.dat [tupI ns]) = [some (.dat (tupI ns)), none] from rfl]
  refine drops_lc hl [some (.dat (tupI ns)), none] (fun P h => ?_) rfl (fun d => rfl) (fun d => rfl) (fun d => rfl) q
  have ll : (ns.map PyData.int).length = ns.length := List.length_map ..
  refine ⟨_, rfl, _, rfl, by rw [ll]; omega, by rw [ll]; omega, ?_⟩
  rw [rng_to (n := ns.length - 1) (by rw [ll]; omega)]
  exact h
theorem ev__law_drops {l : DTA} {ρ : Rho} {ns : List Int} (h : EvA l ρ [tupI ns]) (hl : ns.length ≤ 1000) : Ev (gCall sp__law_drops l) ρ (lstI (dropsOf ns)) := ev_call h fun Q q => ⟨ns, rfl, hl, q⟩

abbrev sp__law_lot : Spec where
  n := 1
  w := fun as Q => ∃ ns : List Int, as = [tupI ns] ∧ ns.length ≤ 200 ∧ Q (.list (pairsD ns))
  len := fun as Q ⟨ns, h, _⟩ => by rw [h]; rfl
  mono := fun as Q Q' ⟨ns, h, h1, q⟩ f => ⟨ns, h, h1, f _ q⟩
def T__law_lot_2 : DTS := (gRet (gU sorU (gVar 1)))
def T__law_lot_1 : DTS := gSeq (gFor (giEnum (gVar 0)) (gdTup (gdCons (gdName 2) (gdCons (gdName 3) gdNil)) 2) (gSet 1 (gBin catD (gVar 1) (gLc (giSeq (gSl (gVar 0) (gSome (gBin addD (gVar 2) (gC (.int 1)))) gNo)) (gdName 4) (gTest (gBin ltD (gVar 4) (gVar 3))) (gTup (gCons (gVar 4) (gCons (gVar 3) gNil))) [4])))) T__law_lot_2
def T__law_lot : DTS := gSeq (gSet 1 (gLst gNil)) T__law_lot_1
abbrev N__law_lot : List Str := ["row", "found", "k", "thing", "late"]
theorem w__law_lot (as : List D) (Q : D → Prop) (h : sp__law_lot.w as Q) : T__law_lot { nx := fun _ => Q .none, rt := fun d _ => Q d } (startR N__law_lot (as.map .dat)) := by
  obtain ⟨ns, rfl, hl, q⟩ := h
  unfold T__law_lot
  rw [show startR N__law_lot (List.map Cl.dat [tupI ns]) = [some (.dat (tupI ns)), none, none, none, none] from rfl]
  apply st_seq
  refine st_set (ev_lst eva_nil (by simp)) ?_
  walk_at "nx"
  show T__law_lot_1 _ _
  unfold T__law_lot_1
  apply st_seq
  refine st_for ns.zipIdx (fun p => PyData.tuple [.int p.2, .int p.1]) (fun i ρ => ∃ (o1 o2 : Option Cl) (pre : List (Int × Int)), ρ = [some (.dat (tupI ns)), some (.dat (.list (pre.map pD))), o1, o2, none] ∧ pairsOf ns = pre ++ pairsOf (ns.drop i)) ?_ ⟨none, none, [], rfl, rfl⟩ (fun i p ρ2 hx hJ => ?_) (fun ρ2 hJ => ?_)
  · refine evi_to (evi_enum (ev_var rfl) Items.t) ?_
    rw [enumD_map]
  · obtain ⟨o1, o2, pre, rfl, e⟩ := hJ
    rw [List.getElem?_zipIdx] at hx
    obtain ⟨x, hx', rfl⟩ := Option.map_eq_some_iff.mp hx
    rw [Nat.zero_add]
    rw [pairs_at hx'] at e
    have hb := pairs_small hl
    rw [e, List.length_append, List.length_append, List.length_map] at hb
    rw [gdTup_s, gdCons_s, gdName_s, gdCons_s, gdName_s, gdNil_s]
    refine ⟨rfl, rfl, ?_⟩
    walk_at "nx"
    refine st_set (d := .list ((pre ++ (lessOf x (ns.drop (i + 1))).map fun b => (b, x)).map pD)) (ev_to (ev_bin (ev_var rfl) (ev_lcFN (ns.drop (i + 1)) PyData.int (fun b => pD (b, x)) (fun b => decide (b < x)) (ys := ((lessOf x (ns.drop (i + 1))).map fun b => (b, x)).map pD) ?_ (fun b hb => evt_test (ev_bin (ev_var rfl) (ev_var rfl) op_lt)) (fun b hb _ => ev_tup (eva_cons (ev_var rfl) (eva_cons (ev_var rfl) eva_nil)) (by simp)) ?_ (by rw [List.length_drop]; omega)) (op_cat ?_)) ?_) ⟨_, _, _, rfl, ?_⟩
    · refine evi_to (evi_seq (ev_sl (ev_var rfl) (evo_some (ev_bin (ev_var rfl) ev_c op_add)) evo_no Cut.t) Items.t) ?_
      rw [cut_from, ← List.map_drop]
    · unfold lessOf
      rw [List.map_map]
      rfl
    · rw [List.length_map, List.length_map, List.length_map]
      omega
    · rw [List.map_append]
    · rw [e, List.append_assoc]
  · obtain ⟨o1, o2, pre, rfl, e⟩ := hJ
    rw [List.length_zipIdx, List.drop_length] at e
    rw [show pairsOf ([] : List Int) = [] from rfl, List.append_nil] at e
    show T__law_lot_2 _ _
    unfold T__law_lot_2
    refine st_ret (d := .list (pairsD ns)) (ev_u (ev_var rfl) fun P h => ?_) q
    refine sorU_pairs ?_
    rw [← e]
    exact h
theorem ev__law_lot {l : DTA} {ρ : Rho} {ns : List Int} (h : EvA l ρ [tupI ns]) (hl : ns.length ≤ 200) : Ev (gCall sp__law_lot l) ρ (.list (pairsD ns)) := ev_call h fun Q q => ⟨ns, rfl, hl, q⟩

abbrev sp__law_number : Spec where
  n := 1
  w := fun as Q => ∃ d : D, as = [d] ∧ Q (.bool (isInt d))
  len := fun as Q ⟨d, h, _⟩ => by rw [h]; rfl
  mono := fun as Q Q' ⟨d, h, q⟩ f => ⟨d, h, f _ q⟩
def T__law_number : DTS := (gRet (gAndV (gIs "int" (gVar 0)) (gNotV (gIs "bool" (gVar 0)))))
abbrev N__law_number : List Str := ["value"]
theorem w__law_number (as : List D) (Q : D → Prop) (h : sp__law_number.w as Q) : T__law_number { nx := fun _ => Q .none, rt := fun d _ => Q d } (startR N__law_number (as.map .dat)) := by
  obtain ⟨d, rfl, q⟩ := h
  unfold T__law_number
  rw [show startR N__law_number (List.map Cl.dat [d]) = [some (.dat d)] from rfl]
  refine st_ret (ev_to (ev_andV (ev_is (ev_var rfl)) fun _ => ev_notV (ev_is (ev_var rfl))) ?_) q
  cases d <;> simp [isInt]
theorem ev__law_number {l : DTA} {ρ : Rho} {d : D} (h : EvA l ρ [d]) : Ev (gCall sp__law_number l) ρ (.bool (isInt d)) := ev_call h fun Q q => ⟨d, rfl, q⟩

theorem drops_mem {ns : List Int} {x : Int} (h : x ∈ dropsOf ns) : ∃ k : Nat, x = k ∧ k + 1 < ns.length ∧ ns.getD (k + 1) 0 < ns.getD k 0 := by
  unfold dropsOf at h
  obtain ⟨k, hk, rfl⟩ := List.mem_map.mp h
  obtain ⟨h1, h2⟩ := List.mem_filter.mp hk
  have := List.mem_range.mp h1
  exact ⟨k, rfl, by omega, by simpa using h2⟩
theorem drops_len (ns : List Int) : (dropsOf ns).length ≤ ns.length := by
  unfold dropsOf
  rw [List.length_map]
  refine Nat.le_trans (List.length_filter_le _ _) ?_
  rw [List.length_range]; omega
theorem no_drops {ns : List Int} (h : dropsOf ns = []) : ns.Pairwise fun a b => a ≤ b := by
  have adj : ∀ k, k + 1 < ns.length → ns.getD k 0 ≤ ns.getD (k + 1) 0 := fun k hk => by
    apply Classical.byContradiction
    intro c
    have : (k : Int) ∈ dropsOf ns := by
      unfold dropsOf
      exact List.mem_map.mpr ⟨k, List.mem_filter.mpr ⟨List.mem_range.mpr (by omega), decide_eq_true (by omega)⟩, rfl⟩
    rw [h] at this
    cases this
  have far : ∀ d k, k + d < ns.length → ns.getD k 0 ≤ ns.getD (k + d) 0 := fun d => by
    induction d with
    | zero => exact fun k _ => Int.le_refl _
    | succ d ih => exact fun k hk => Int.le_trans (ih k (by omega)) (adj (k + d) (by omega))
  refine List.pairwise_iff_getElem.mpr fun i j hi hj hij => ?_
  have := far (j - i) i (by omega)
  rw [show i + (j - i) = j by omega] at this
  simpa [List.getD, hi, hj] using this
theorem sorted_row {ns : List Int} {n : Nat} (hp : ns.Perm (upTo n)) (h : dropsOf ns = []) : ns = upTo n :=
  pw_uniq (le := fun a b : Int => decide (a ≤ b)) (fun x _ y _ h1 h2 => by have := of_decide_eq_true h1; have := of_decide_eq_true h2; omega) hp ((no_drops h).imp fun h => by simpa using h) ((up_upTo n).imp fun h => by simpa using Int.le_of_lt h)
theorem atI_last {ds : List D} {d : D} : atI (ds ++ [d]) (-1) = some d := L2.atI_last ds d

abbrev sp__law_way : Spec where
  n := 1
  w := fun as Q => ∃ (row : List Int) (n : Nat), as = [tupI row] ∧ n ≤ 200 ∧ row.Perm (upTo n) ∧ ∀ ws : List Nat, IsWay n row ws → Q (tupN ws)
  len := fun as Q ⟨row, n, h, _⟩ => by rw [h]; rfl
  mono := fun as Q Q' ⟨row, n, h, h1, h2, q⟩ f => ⟨row, n, h, h1, h2, fun ws hw => f _ (q ws hw)⟩
def T__law_wayb1_1 : DTS := (gSet 1 (gCall sp__law_swapped (gCons (gVar 1) (gCons (gBinO ixD 2 (gNeg (gC (.int 1)))) gNil))))
def T__law_wayb1 : DTS := gSeq (gApp 2 (gCallS sp__law_of 0 (gCons (gCall sp__law_drops (gCons (gVar 1) gNil)) gNil))) T__law_wayb1_1
def T__law_way_2 : DTS := (gRet (gU tupU (gRev (gOwn 2))))
def T__law_way_1 : DTS := gSeq (gWhile (gTest (gBin neD (gCall sp__law_drops (gCons (gVar 1) gNil)) (gLst gNil))) T__law_wayb1) T__law_way_2
def T__law_way : DTS := gSeq (gSetO 2 (gLst gNil)) T__law_way_1
abbrev N__law_way : List Str := ["source", "row", "found"]
theorem w__law_way (as : List D) (Q : D → Prop) (h : sp__law_way.w as Q) : T__law_way { nx := fun _ => Q .none, rt := fun d _ => Q d } (startR N__law_way (.srcR :: as.map .dat)) := by
  obtain ⟨row, n, rfl, hn, hp, q⟩ := h
  unfold T__law_way
  rw [show startR N__law_way (Cl.srcR :: List.map Cl.dat [tupI row]) = [some .srcR, some (.dat (tupI row)), none] from rfl, gSeq_s, gSetO_s]
  refine ⟨by simp, ?_⟩
  show T__law_way_1 _ [some .srcR, some (.dat (tupI row)), some (.own (.list []))]
  unfold T__law_way_1
  rw [gSeq_s, gWhile_s]
  have nn : ∀ r : List Int, 0 ≤ lenOf r := fun r => by rw [← pairs_len]; omega
  have l0 : row.length = n := by rw [hp.length_eq, upTo_len]
  refine ⟨fun m ρ => ∃ (r : List Int) (f : List Nat), ρ = [some .srcR, some (.dat (tupI r)), some (.own (.list (f.map fun k : Nat => PyData.int k)))] ∧ r.Perm (upTo n) ∧ Ups r f.reverse ∧ ledM r f.reverse = row ∧ lenOf r = m ∧ f.length + m ≤ 40000, ⟨(lenOf row).toNat, row, [], rfl, hp, trivial, rfl, by have := nn row; omega, ?_⟩, ?_⟩
  · have := pairs_len row
    have := pairs_small (ns := row) (by omega)
    simp
    omega
  · rintro m ρ2 ⟨r, f, rfl, hr, hu, hl, em, hb⟩
    have lr : r.length = n := by rw [hr.length_eq, upTo_len]
    have okd : SeqAt.shaped (lstI (dropsOf r)) = true := by
      refine (shaped_list (k := 0) (fun d hd => ?_) (by decide)).1
      obtain ⟨x, _, rfl⟩ := List.mem_map.mp hd
      exact ⟨rfl, by simp [PyData.depth]⟩
    rw [gTest_s, gBin_s]
    refine ⟨_, rfl, r, rfl, by omega, by simp, eqOk_of okd (by decide), _, rfl, ?_⟩
    by_cases hd : dropsOf r = []
    · rw [hd]
      have e : (!PyData.eqv (lstI []) (.list [])) = false := by simp [lstI, PyData.eqv, PyData.eqvAll]
      rw [e, if_neg Bool.false_ne_true]
      unfold T__law_way_2
      refine ⟨_, rfl, _, rfl, ?_⟩
      rw [← List.map_reverse]
      have er := sorted_row hr hd
      subst er
      exact q f.reverse ⟨hu, hl⟩
    · have e : (!PyData.eqv (lstI (dropsOf r)) (.list [])) = true := by
        cases h : dropsOf r with
        | nil => exact absurd h hd
        | cons x y => simp [lstI, PyData.eqv, PyData.eqvAll]
      rw [e, if_pos rfl]
      unfold T__law_wayb1
      rw [gSeq_s, gApp_s]
      refine ⟨⟨_, rfl⟩, rfl, _, rfl, r, rfl, by omega, rfl, (dropsOf r).map .int, .inl rfl, ?_, ?_, fun d hdm => ?_⟩
      · rw [List.length_map]
        exact List.length_pos_iff.mpr hd
      · have := drops_len r
        rw [List.length_map]; omega
      · obtain ⟨x, hx, rfl⟩ := List.mem_map.mp hdm
        obtain ⟨k, rfl, hk, hlt⟩ := drops_mem hx
        refine ⟨_, rfl, by rw [List.length_map]; omega, ?_⟩
        show T__law_wayb1_1 _ [some .srcR, some (.dat (tupI r)), some (.own (.list ((f.map fun k : Nat => PyData.int k) ++ [.int k])))]
        unfold T__law_wayb1_1
        rw [gSet_s]
        refine ⟨_, rfl, ⟨_, rfl⟩, 1, rfl, _, rfl, _, atI_last, r, k, rfl, by omega, hk, ?_⟩
        have ex := exch_len hk (by omega)
        rw [if_neg (by omega)] at ex
        have n2 := nn (exch r k (k + 1))
        refine ⟨m - 1, by omega, exch r k (k + 1), f ++ [k], by simp, (exch_perm hk).trans hr, ?_, ?_, by omega, by simp; omega⟩
        · rw [List.reverse_append]
          refine ⟨by rw [exch_length]; exact hk, ?_, ?_⟩
          · rw [exch_get hk, exch_get hk]
            simpa using hlt
          · rw [exch_back hk]; exact hu
        · rw [List.reverse_append]
          show ledM (exch (exch r k (k + 1)) k (k + 1)) f.reverse = row
          rw [exch_back hk]; exact hl

abbrev sp__law_drawn_word : Spec where
  n := 2
  w := fun as Q => ∃ n most : Nat, as = [.int n, .int most] ∧ 1 ≤ n ∧ n ≤ 200 ∧ 2 ≤ most ∧ most ≤ 1000 ∧ ∀ ws : List Nat, WordOk n ws → ws.length ≤ most → Q (tupN ws)
  len := fun as Q ⟨n, m, h, _⟩ => by rw [h]; rfl
  mono := fun as Q Q' ⟨n, m, h, h1, h2, h3, h4, q⟩ f => ⟨n, m, h, h1, h2, h3, h4, fun ws a b => f _ (q ws a b)⟩
def T__law_drawn_wordb3_1 : DTS := (gSet 3 (gBin addD (gBin addD (gSl (gVar 3) gNo (gSome (gVar 5))) (gTup (gCons (gCallS sp__law_pick 0 (gCons (gBin subD (gVar 1) (gC (.int 1))) gNil)) gNil))) (gSl (gVar 3) (gSome (gVar 5)) gNo)))
def T__law_drawn_wordb3 : DTS := gSeq (gSet 5 (gCallS sp__law_pick 0 (gCons (gBin addD (gU lenU (gVar 3)) (gC (.int 1))) gNil))) T__law_drawn_wordb3_1
def T__law_drawn_word_4 : DTS := (gRet (gVar 3))
def T__law_drawn_word_3 : DTS := gSeq (gFor (giR1 (gCallS sp__law_pick 0 (gCons (gC (.int 3)) gNil))) (gdName 4) T__law_drawn_wordb3) T__law_drawn_word_4
def T__law_drawn_word_2 : DTS := gSeq (gSet 3 (gSl (gCallS sp__law_way 0 (gCons (gCallS sp__law_row 0 (gCons (gVar 1) gNil)) gNil)) gNo (gSome (gBin subD (gVar 2) (gC (.int 2)))))) T__law_drawn_word_3
def T__law_drawn_word_1 : DTS := gSeq (gIfS (gTest (gBin eqD (gCallS sp__law_pick 0 (gCons (gC (.int 2)) gNil)) (gC (.int 0)))) (gRet (gU tupU (gLc (giR1 (gCallS sp__law_pick 0 (gCons (gBin addD (gVar 2) (gC (.int 1))) gNil))) (gdName 5) gYes (gCallS sp__law_pick 0 (gCons (gBin subD (gVar 1) (gC (.int 1))) gNil)) [5]))) gNext) T__law_drawn_word_2
def T__law_drawn_word : DTS := gSeq (gIfS (gTest (gBin eqD (gVar 1) (gC (.int 1)))) (gRet (gTup gNil)) gNext) T__law_drawn_word_1
abbrev N__law_drawn_word : List Str := ["source", "n", "most", "word", "lap", "k"]
theorem w__law_drawn_word (as : List D) (Q : D → Prop) (h : sp__law_drawn_word.w as Q) : T__law_drawn_word { nx := fun _ => Q .none, rt := fun d _ => Q d } (startR N__law_drawn_word (.srcR :: as.map .dat)) := by
  obtain ⟨n, most, rfl, hn1, hn, hm2, hm, q⟩ := h
  rw [show startR N__law_drawn_word (Cl.srcR :: List.map Cl.dat [PyData.int n, .int most]) = [some .srcR, some (.dat (.int n)), some (.dat (.int most)), none, none, none] from rfl]
  unfold T__law_drawn_word
  rw [gSeq_s, gIfS_s, gTest_s, gBin_s]
  refine ⟨_, rfl, rfl, _, rfl, ?_⟩
  by_cases h1 : n = 1
  · rw [if_pos (by subst h1; rfl)]
    exact ⟨by simp, q [] (fun k h => by cases h) (Nat.zero_le _)⟩
  · rw [if_neg (by simp [PyData.eqv]; omega)]
    show T__law_drawn_word_1 _ [some .srcR, some (.dat (.int n)), some (.dat (.int most)), none, none, none]
    unfold T__law_drawn_word_1
    rw [gSeq_s, gIfS_s, gTest_s, gBin_s]
    refine ⟨rfl, rfl, 2, rfl, by decide, fun r r0 r1 => ⟨rfl, _, rfl, ?_⟩⟩
    by_cases hr : PyData.eqv (.int r) (.int 0) = true
    · rw [if_pos hr]
      rw [gRet_s, gU_s]
      unfold gLc
      rw [giR1_s]
      refine ⟨rfl, _, rfl, rfl, _, rfl, by omega, fun l l0 l1 => ⟨l, rfl, by omega, by omega, rfl, by rw [rngD_len]; omega, fun i acc ρ => ∃ ws : List Nat, acc = ws.map (fun k : Nat => PyData.int k) ∧ ws.length = i ∧ WordOk n ws ∧ ρ = [some .srcR, some (.dat (.int n)), some (.dat (.int most)), none, none, none], ⟨[], rfl, rfl, (fun k h => by cases h), rfl⟩, ?_, ?_⟩⟩
      · rintro i d acc ρ2 hd - ⟨ws, rfl, hl, hw, rfl⟩
        rw [gdName_s]
        refine ⟨rfl, _, rfl, rfl, _, rfl, by omega, fun k k0 k1 => ?_⟩
        obtain ⟨j, rfl⟩ := Int.eq_ofNat_of_zero_le k0
        refine ⟨ws ++ [j], by simp, by simp [hl], fun x hx => ?_, rfl⟩
        rcases List.mem_append.mp hx with hx | hx
        · exact hw x hx
        · rw [List.mem_singleton.mp hx]; omega
      · rintro acc ρ2 ⟨ws, rfl, hl, hw, rfl⟩
        exact q ws hw (by rw [hl, rngD_len]; omega)
    · rw [if_neg hr]
      show T__law_drawn_word_2 _ [some .srcR, some (.dat (.int n)), some (.dat (.int most)), none, none, none]
      unfold T__law_drawn_word_2
      rw [gSeq_s, gSet_s]
      refine ⟨rfl, rfl, _, rfl, rfl, n, rfl, by omega, fun ns hp => ⟨rfl, ns, n, rfl, hn, hp, fun ws hw => ?_⟩⟩
      refine ⟨_, rfl, _, rfl, ?_⟩
      show T__law_drawn_word_3 _ [some .srcR, some (.dat (.int n)), some (.dat (.int most)), some (.dat (.tuple (cutD (ws.map fun k : Nat => PyData.int k) none (some ((most : Int) - 2))))), none, none]
      rw [show ((most : Int) - 2) = ((most - 2 : Nat) : Int) by omega, cut_to, ← List.map_take]
      have ow : WordOk n (ws.take (most - 2)) := fun j hj => by
        have := ups_ok hw.1 j (List.mem_of_mem_take hj)
        rwa [upTo_len] at this
      have lw : (ws.take (most - 2)).length ≤ most - 2 := List.length_take_le ..
      generalize ws.take (most - 2) = u at *
      unfold T__law_drawn_word_3
      rw [gSeq_s]
      unfold gFor
      rw [giR1_s]
      refine ⟨rfl, rfl, 3, rfl, by decide, fun l l0 l1 => ⟨l, rfl, by omega, by omega, ?_⟩⟩
      obtain ⟨m, rfl⟩ := Int.eq_ofNat_of_zero_le l0
      rw [Int.toNat_natCast, rngD_map]
      refine ⟨fun i ρ => ∃ (v : List Nat) (o1 o2 : Option Cl), WordOk n v ∧ v.length ≤ most - 2 + i ∧ ρ = [some .srcR, some (.dat (.int n)), some (.dat (.int most)), some (.dat (tupN v)), o1, o2], ⟨u, none, none, ow, lw, rfl⟩, ?_, ?_⟩
      · rintro i d ρ2 hd ⟨v, o1, o2, hv, lv, rfl⟩
        unfold T__law_drawn_wordb3
        rw [gdName_s, gSeq_s, gSet_s]
        have hi : i < m := by
          have := (List.getElem?_eq_some_iff.mp hd).1
          simpa using this
        have ll : (v.map fun k : Nat => PyData.int k).length = v.length := List.length_map ..
        refine ⟨rfl, _, rfl, rfl, _, rfl, by rw [ll]; omega, fun k k0 k1 => ?_⟩
        rw [ll] at k1
        obtain ⟨j, rfl⟩ := Int.eq_ofNat_of_zero_le k0
        show T__law_drawn_wordb3_1 _ [some .srcR, some (.dat (.int n)), some (.dat (.int most)), some (.dat (tupN v)), some (.dat d), some (.dat (.int j))]
        unfold T__law_drawn_wordb3_1
        rw [gSet_s]
        refine ⟨_, rfl, _, rfl, _, rfl, ?_⟩
        refine ⟨rfl, _, rfl, rfl, _, rfl, by omega, fun z z0 z1 => ⟨by simp, ?_⟩⟩
        obtain ⟨x, rfl⟩ := Int.eq_ofNat_of_zero_le z0
        show addD (.tuple (cutD (v.map fun k : Nat => PyData.int k) none (some (j : Int)))) (.tuple [.int x]) _
        rw [cut_to]
        refine ⟨by simp; omega, _, rfl, _, rfl, _, rfl, ?_⟩
        simp only [gNo_s, tupN]
        rw [cut_from0]
        refine ⟨by simp; omega, v.take j ++ [x] ++ v.drop j, some (.dat d), some (.dat (.int j)), fun y hy => ?_, ?_, ?_⟩
        · rcases List.mem_append.mp hy with hy | hy
          · rcases List.mem_append.mp hy with hy | hy
            · exact hv y (List.mem_of_mem_take hy)
            · rw [List.mem_singleton.mp hy]; omega
          · exact hv y (List.mem_of_mem_drop hy)
        · simp; omega
        · simp [tupN, List.map_take, List.map_drop]
      · rintro ρ2 ⟨v, o1, o2, hv, lv, rfl⟩
        rw [List.length_map, List.length_range] at lv
        exact ⟨_, rfl, q v hv (by omega)⟩

def optN : Option (List Nat) → D
  | none => .none
  | some w => tupN w
abbrev sp__law_moved : Spec where
  n := 2
  w := fun as Q => ∃ (ws : List Nat) (name : Str) (i : Nat), as = [tupN ws, .tuple [.str name, .int i]] ∧ ws.length ≤ 50000 ∧ Q (optN (movedOf ws name i))
  len := fun as Q ⟨ws, name, i, h, _⟩ => by rw [h]; rfl
  mono := fun as Q Q' ⟨ws, name, i, h, h1, q⟩ f => ⟨ws, name, i, h, h1, f _ q⟩
def T__law_movedb3_1 : DTS := (gRet (gIf (gTru (gVar 5)) (gBin addD (gBin addD (gSl (gVar 0) gNo (gSome (gVar 3))) (gTup (gCons (gBin ixD (gVar 4) (gC (.int 1))) (gCons (gBin ixD (gVar 4) (gC (.int 0))) (gCons (gBin ixD (gVar 4) (gC (.int 1))) gNil))))) (gSl (gVar 0) (gSome (gBin addD (gVar 3) (gC (.int 3)))) gNo)) (gC .none)))
def T__law_movedb3 : DTS := gSeq (gSet 5 (gAndV (gBin eqD (gBin ixD (gVar 4) (gC (.int 0))) (gBin ixD (gVar 4) (gC (.int 2)))) (gBin eqD (gU absU (gBin subD (gBin ixD (gVar 4) (gC (.int 0))) (gBin ixD (gVar 4) (gC (.int 1))))) (gC (.int 1))))) T__law_movedb3_1
def T__law_moved_5 : DTS := (gRet (gIf (gTest (gBin eqD (gBin ixD (gVar 4) (gC (.int 0))) (gBin ixD (gVar 4) (gC (.int 1))))) (gBin addD (gSl (gVar 0) gNo (gSome (gVar 3))) (gSl (gVar 0) (gSome (gBin addD (gVar 3) (gC (.int 2)))) gNo)) (gC .none)))
def T__law_moved_4 : DTS := gSeq (gIfS (gTest (gBin eqD (gVar 2) (gC (.str "far")))) (gRet (gIf (gTest (gBin gtD (gU absU (gBin subD (gBin ixD (gVar 4) (gC (.int 0))) (gBin ixD (gVar 4) (gC (.int 1))))) (gC (.int 1)))) (gBin addD (gBin addD (gSl (gVar 0) gNo (gSome (gVar 3))) (gRevT (gVar 4))) (gSl (gVar 0) (gSome (gBin addD (gVar 3) (gC (.int 2)))) gNo)) (gC .none))) gNext) T__law_moved_5
def T__law_moved_3 : DTS := gSeq (gIfS (gTest (gBin eqD (gVar 2) (gC (.str "three")))) T__law_movedb3 gNext) T__law_moved_4
def T__law_moved_2 : DTS := gSeq (gIfS (gTest (gBin ltD (gU lenU (gVar 4)) (gIf (gTest (gBin eqD (gVar 2) (gC (.str "three")))) (gC (.int 3)) (gC (.int 2))))) (gRet (gC .none)) gNext) T__law_moved_3
def T__law_moved_1 : DTS := gSeq (gSet 4 (gSl (gVar 0) (gSome (gVar 3)) (gSome (gBin addD (gVar 3) (gIf (gTest (gBin eqD (gVar 2) (gC (.str "three")))) (gC (.int 3)) (gC (.int 2))))))) T__law_moved_2
def T__law_moved : DTS := gSeq (gAsg (gVar 1) (gdTup (gdCons (gdName 2) (gdCons (gdName 3) gdNil)) 2)) T__law_moved_1
abbrev N__law_moved : List Str := ["word", "move", "name", "i", "some", "is_one"]
theorem cut_word {ws : List Nat} {i k : Nat} : cutD (ws.map fun k : Nat => PyData.int k) (some (i : Int)) (some ((i : Int) + (k : Nat))) = ((ws.drop i).take k).map fun k : Nat => PyData.int k := by
  rw [cut_mid, List.map_take, List.map_drop]
theorem ev_three {ρ : Rho} {i : Nat} {name : Str} (h : lk ρ i = some (.dat (.str name))) (a b : Int) : Ev (gIf (gTest (gBin eqD (gVar i) (gC (.str "three")))) (gC (.int a)) (gC (.int b))) ρ (.int (if name = "three" then a else b)) := by
  refine ev_if (evt_test (ev_bin (ev_var h) ev_c op_eqS)) (fun c => ?_) (fun c => ?_)
  · rw [if_pos (of_decide_eq_true c)]; exact ev_c
  · rw [if_neg (of_decide_eq_false c)]; exact ev_c
theorem w__law_moved (as : List D) (Q : D → Prop) (h : sp__law_moved.w as Q) : T__law_moved { nx := fun _ => Q .none, rt := fun d _ => Q d } (startR N__law_moved (as.map .dat)) := by
  obtain ⟨ws, name, i, rfl, hl, q⟩ := h
  unfold T__law_moved
  rw [show startR N__law_moved (List.map Cl.dat [tupN ws, .tuple [.str name, .int i]]) = [some (.dat (tupN ws)), some (.dat (.tuple [.str name, .int i])), none, none, none, none] from rfl]
  apply st_seq
  refine st_asg (ev_var rfl) (evg_tup (evgs_cons evg_name (evgs_cons evg_name evgs_nil)) rfl) ?_
  walk_at "nx"
  show T__law_moved_1 _ _
  unfold T__law_moved_1
  apply st_seq
  have fromI : ∀ {ρ : Rho} (j : Nat) {b : DTE}, lk ρ 0 = some (.dat (tupN ws)) → Ev b ρ (.int ((i : Int) + (j : Nat))) → Ev (gSl (gVar 0) (gSome b) gNo) ρ (tupN (ws.drop (i + j))) := fun j _ h0 hb => ev_to (ev_sl (ev_var h0) (evo_some hb) evo_no Cut.t) (by rw [show ((i : Int) + (j : Nat)) = ((i + j : Nat) : Int) by omega, cut_from0, ← List.map_drop]; rfl)
  have toI : ∀ {ρ : Rho}, lk ρ 0 = some (.dat (tupN ws)) → lk ρ 3 = some (.dat (.int i)) → Ev (gSl (gVar 0) gNo (gSome (gVar 3))) ρ (tupN (ws.take i)) := fun h0 h3 => ev_to (ev_sl (ev_var h0) evo_no (evo_some (ev_var h3)) Cut.t) (by rw [cut_to, ← List.map_take]; rfl)
  have addN : ∀ (u v : List Nat), u.length + v.length ≤ 100000 → Op2 addD (tupN u) (tupN v) (tupN (u ++ v)) := fun u v h P z => by
    refine op_addT (by rw [List.length_map, List.length_map]; exact h) P ?_
    rw [← List.map_append]
    exact z
  have absI : ∀ a b : Nat, (if ((a : Int) - b) < 0 then -((a : Int) - b) else ((a : Int) - b)) = ((if a < b then b - a else a - b : Nat) : Int) := fun a b => by split <;> split <;> omega
  have lt1 : (ws.take i).length ≤ ws.length := by rw [List.length_take]; omega
  by_cases h3 : name = "three"
  · subst h3
    refine st_set (d := tupN ((ws.drop i).take 3)) (ev_to (ev_sl (ev_var rfl) (evo_some (ev_var rfl)) (evo_some (ev_bin (ev_var rfl) (ev_three rfl 3 2) op_add)) Cut.t) ?_) ?_
    · rw [if_pos rfl]
      exact congrArg PyData.tuple (cut_word (k := 3))
    walk_at "nx"
    show T__law_moved_2 _ _
    unfold T__law_moved_2
    apply st_seq
    unfold movedOf at q
    rw [if_pos rfl] at q
    refine st_if (evt_test (ev_bin (ev_u (ev_var rfl) u_lenTm) (ev_three rfl 3 2) op_lt)) (fun c => ?_) (fun c => ?_)
    · have c := of_decide_eq_true c
      rw [if_pos rfl] at c
      refine st_ret ev_c ?_
      split at q
      · rename_i a b d e
        rw [e] at c
        simp at c
      · exact q
    · have c := of_decide_eq_false c
      rw [if_pos rfl] at c
      obtain ⟨a, b, d, e⟩ : ∃ a b d, (ws.drop i).take 3 = [a, b, d] := by
        have hle := List.length_take_le 3 (ws.drop i)
        match h : (ws.drop i).take 3 with
        | [a, b, d] => exact ⟨a, b, d, rfl⟩
        | [] => rw [h] at c; simp at c
        | [_] => rw [h] at c; simp at c
        | [_, _] => rw [h] at c; simp at c
        | _ :: _ :: _ :: _ :: _ => rw [h] at hle; simp at hle
      rw [e] at q ⊢
      dsimp only at q
      show T__law_moved_3 _ _
      unfold T__law_moved_3
      apply st_seq
      refine st_ifT (evt_to (evt_test (ev_bin (ev_var rfl) ev_c op_eqS)) (by simp)) ?_
      unfold T__law_movedb3
      apply st_seq
      have two : ∀ {ρ : Rho}, lk ρ 4 = some (.dat (tupN [a, b, d])) → Ev (gBin ixD (gVar 4) (gC (.int 0))) ρ (.int a) ∧ Ev (gBin ixD (gVar 4) (gC (.int 1))) ρ (.int b) ∧ Ev (gBin ixD (gVar 4) (gC (.int 2))) ρ (.int d) := fun h => ⟨ev_bin (ev_var h) ev_c (op_ixT rfl), ev_bin (ev_var h) ev_c (op_ixT rfl), ev_bin (ev_var h) ev_c (op_ixT rfl)⟩
      refine st_set (d := .bool (decide (a = d ∧ (a + 1 = b ∨ b + 1 = a)))) (ev_to (ev_andV (ev_bin (two rfl).1 (two rfl).2.2 op_eqI) (fun _ => ev_bin (ev_u (ev_bin (two rfl).1 (two rfl).2.1 op_sub) u_abs) ev_c op_eqI)) ?_) ?_
      · rw [absI]
        congr 1
        rw [← Bool.decide_and]
        refine decide_eq_decide.mpr ?_
        constructor
        · rintro ⟨h1, h2⟩
          refine ⟨by omega, ?_⟩
          split at h2 <;> omega
        · rintro ⟨h1, h2⟩
          refine ⟨by omega, ?_⟩
          split <;> omega
      walk_at "nx"
      show T__law_movedb3_1 _ _
      unfold T__law_movedb3_1
      by_cases hc : a = d ∧ (a + 1 = b ∨ b + 1 = a)
      · rw [if_pos hc] at q
        rw [decide_eq_true hc]
        refine st_ret (ev_ifT (evt_tru (p := true) (ev_var rfl) rfl) (ev_bin (ev_bin (toI rfl rfl) (ev_to (d := tupN [b, a, b]) (ev_tup (eva_cons (two rfl).2.1 (eva_cons (two rfl).1 (eva_cons (two rfl).2.1 eva_nil))) (by simp)) rfl) (addN (ws.take i) [b, a, b] (by simp; omega))) (fromI 3 rfl (ev_bin (ev_var rfl) ev_c op_add)) (addN _ _ (by simp; omega)))) ?_
        exact q
      · rw [if_neg hc] at q
        rw [decide_eq_false hc]
        exact st_ret (ev_ifF (evt_tru (p := false) (ev_var rfl) rfl) ev_c) q
  · refine st_set (d := tupN ((ws.drop i).take 2)) (ev_to (ev_sl (ev_var rfl) (evo_some (ev_var rfl)) (evo_some (ev_bin (ev_var rfl) (ev_three rfl 3 2) op_add)) Cut.t) ?_) ?_
    · rw [if_neg h3]
      exact congrArg PyData.tuple (cut_word (k := 2))
    walk_at "nx"
    show T__law_moved_2 _ _
    unfold T__law_moved_2
    apply st_seq
    unfold movedOf at q
    rw [if_neg h3] at q
    refine st_if (evt_test (ev_bin (ev_u (ev_var rfl) u_lenTm) (ev_three rfl 3 2) op_lt)) (fun c => ?_) (fun c => ?_)
    · have c := of_decide_eq_true c
      rw [if_neg h3] at c
      refine st_ret ev_c ?_
      split at q
      · rename_i a b e
        rw [e] at c
        simp at c
      · exact q
    · have c := of_decide_eq_false c
      rw [if_neg h3] at c
      obtain ⟨a, b, e⟩ : ∃ a b, (ws.drop i).take 2 = [a, b] := by
        have hle := List.length_take_le 2 (ws.drop i)
        match h : (ws.drop i).take 2 with
        | [a, b] => exact ⟨a, b, rfl⟩
        | [] => rw [h] at c; simp at c
        | [_] => rw [h] at c; simp at c
        | _ :: _ :: _ :: _ => rw [h] at hle; simp at hle
      rw [e] at q ⊢
      dsimp only at q
      show T__law_moved_3 _ _
      unfold T__law_moved_3
      apply st_seq
      refine st_ifF (evt_to (evt_test (ev_bin (ev_var rfl) ev_c op_eqS)) (by simpa using h3)) ?_
      have two : ∀ {ρ : Rho}, lk ρ 4 = some (.dat (tupN [a, b])) → Ev (gBin ixD (gVar 4) (gC (.int 0))) ρ (.int a) ∧ Ev (gBin ixD (gVar 4) (gC (.int 1))) ρ (.int b) := fun h => ⟨ev_bin (ev_var h) ev_c (op_ixT rfl), ev_bin (ev_var h) ev_c (op_ixT rfl)⟩
      show T__law_moved_4 _ _
      unfold T__law_moved_4
      apply st_seq
      refine st_if (evt_test (ev_bin (ev_var rfl) ev_c op_eqS)) (fun cf => ?_) (fun cf => ?_)
      · rw [if_pos (of_decide_eq_true cf)] at q
        by_cases hf : Far a b
        · rw [if_pos hf] at q
          refine st_ret (ev_ifT (evt_to (evt_test (ev_bin (ev_u (ev_bin (two rfl).1 (two rfl).2 op_sub) u_abs) ev_c op_gt)) ?_) (ev_bin (ev_bin (toI rfl rfl) (ev_to (d := tupN [b, a]) (ev_revT (ev_var rfl)) rfl) (addN (ws.take i) [b, a] (by simp; omega))) (fromI 2 rfl (ev_bin (ev_var rfl) ev_c op_add)) (addN _ _ (by simp; omega)))) q
          rw [absI]
          refine decide_eq_true ?_
          unfold Far at hf
          split <;> omega
        · rw [if_neg hf] at q
          refine st_ret (ev_ifF (evt_to (evt_test (ev_bin (ev_u (ev_bin (two rfl).1 (two rfl).2 op_sub) u_abs) ev_c op_gt)) ?_) ev_c) q
          rw [absI]
          refine decide_eq_false ?_
          unfold Far at hf
          split <;> omega
      · rw [if_neg (of_decide_eq_false cf)] at q
        show T__law_moved_5 _ _
        unfold T__law_moved_5
        by_cases hc : a = b
        · rw [if_pos hc] at q
          exact st_ret (ev_ifT (evt_to (evt_test (ev_bin (two rfl).1 (two rfl).2 op_eqI)) (decide_eq_true (by omega))) (ev_bin (toI rfl rfl) (fromI 2 rfl (ev_bin (ev_var rfl) ev_c op_add)) (addN _ _ (by simp; omega)))) q
        · rw [if_neg hc] at q
          exact st_ret (ev_ifF (evt_to (evt_test (ev_bin (two rfl).1 (two rfl).2 op_eqI)) (decide_eq_false (by omega))) ev_c) q
theorem ev__law_moved {l : DTA} {ρ : Rho} {ws : List Nat} {name : Str} {i : Nat} (h : EvA l ρ [tupN ws, .tuple [.str name, .int i]]) (hl : ws.length ≤ 50000) : Ev (gCall sp__law_moved l) ρ (optN (movedOf ws name i)) := ev_call h fun Q q => ⟨ws, name, i, rfl, hl, q⟩

abbrev sp__law_is_move : Spec where
  n := 2
  w := fun as Q => ∃ (d : D) (ws : List Str), as = [d, .tuple (ws.map .str)] ∧ Q (.bool (isMv ws d))
  len := fun as Q ⟨d, ws, h, _⟩ => by rw [h]; rfl
  mono := fun as Q Q' ⟨d, ws, h, q⟩ f => ⟨d, ws, h, f _ q⟩
def T__law_is_move_1 : DTS := (gRet (gAndV (gCall sp__law_number (gCons (gBin ixD (gVar 0) (gC (.int 1))) gNil)) (gBin geD (gBin ixD (gVar 0) (gC (.int 1))) (gC (.int 0)))))
def T__law_is_move : DTS := gSeq (gIfS (gOr (gNot (gTest (gIs "tuple" (gVar 0)))) (gOr (gTest (gBin neD (gU lenU (gVar 0)) (gC (.int 2)))) (gOr (gNot (gTest (gIs "str" (gBin ixD (gVar 0) (gC (.int 0)))))) (gTest (gBin ninD (gBin ixD (gVar 0) (gC (.int 0))) (gVar 1)))))) (gRet (gC (.bool false))) gNext) T__law_is_move_1
abbrev N__law_is_move : List Str := ["value", "words"]
theorem w__law_is_move (as : List D) (Q : D → Prop) (h : sp__law_is_move.w as Q) : T__law_is_move { nx := fun _ => Q .none, rt := fun d _ => Q d } (startR N__law_is_move (as.map .dat)) := by
  obtain ⟨d, ws, rfl, q⟩ := h
  unfold T__law_is_move
  rw [show startR N__law_is_move (List.map Cl.dat [d, .tuple (ws.map .str)]) = [some (.dat d), some (.dat (.tuple (ws.map .str)))] from rfl]
  apply st_seq
  by_cases ht : ∃ ds, d = .tuple ds
  rotate_left
  · have e1 : isT "tuple" d = false := isT_tup_no ht
    refine st_ifT (fun P z => evt_not (evt_test (ev_is (ev_var rfl))) _ ?_) ?_
    · rw [e1]; exact z
    · refine st_ret ev_c ?_
      have : isMv ws d = false := by
        unfold isMv
        split
        · rename_i s i; exact absurd ⟨_, rfl⟩ ht
        · rfl
      rw [this] at q
      exact q
  obtain ⟨ds, rfl⟩ := ht
  have h0 : ∀ {ρ : Rho}, lk ρ 0 = some (.dat (.tuple ds)) → EvT (gNot (gTest (gIs "tuple" (gVar 0)))) ρ false := fun h => evt_to (evt_not (evt_test (ev_is (ev_var h)))) (by simp)
  by_cases hl : ds.length = 2
  rotate_left
  · refine st_ifT (evt_to (evt_orF (h0 rfl) (evt_or (q := true) (evt_test (ev_bin (ev_u (ev_var rfl) u_lenT) ev_c op_neI)) fun c => by simp at c; omega)) (by simp)) ?_
    refine st_ret ev_c ?_
    have : isMv ws (.tuple ds) = false := by
      unfold isMv
      split
      · rename_i s i e; cases e; simp at hl
      · rfl
    rw [this] at q
    exact q
  match ds, hl with
  | [x, y], _ =>
    have hx : ∀ {ρ : Rho}, lk ρ 0 = some (.dat (.tuple [x, y])) → Ev (gBin ixD (gVar 0) (gC (.int 0))) ρ x := fun h => ev_bin (ev_var h) ev_c (op_ixT rfl)
    have hy : ∀ {ρ : Rho}, lk ρ 0 = some (.dat (.tuple [x, y])) → Ev (gBin ixD (gVar 0) (gC (.int 1))) ρ y := fun h => ev_bin (ev_var h) ev_c (op_ixT rfl)
    have h1 : ∀ {ρ : Rho}, lk ρ 0 = some (.dat (.tuple [x, y])) → EvT (gTest (gBin neD (gU lenU (gVar 0)) (gC (.int 2)))) ρ false := fun h => evt_to (evt_test (ev_bin (ev_u (ev_var h) u_lenT) ev_c op_neI)) (by simp)
    by_cases hs : ∃ s, x = .str s
    · obtain ⟨s, rfl⟩ := hs
      refine st_if (p := !decide (s ∈ ws)) (evt_orF (h0 rfl) (evt_orF (h1 rfl) (evt_orF (evt_to (evt_not (evt_test (ev_is (hx rfl)))) (by simp)) (evt_test (ev_bin (hx rfl) (ev_var rfl) op_ninS))))) (fun c => ?_) (fun c => ?_)
      · have c : s ∉ ws := by simpa using c
        refine st_ret ev_c ?_
        have : isMv ws (.tuple [.str s, y]) = false := by
          unfold isMv
          split
          · rename_i s' i e
            simp at e
            rw [e.1] at c
            simp [c]
          · rfl
        rw [this] at q
        exact q
      · have c : s ∈ ws := by simpa using c
        show T__law_is_move_1 _ _
        unfold T__law_is_move_1
        by_cases hi : ∃ i, y = .int i
        · obtain ⟨i, rfl⟩ := hi
          exact st_ret (ev_to (ev_andV (ev__law_number (eva_cons (hy rfl) eva_nil)) fun _ => ev_bin (hy rfl) ev_c op_ge) (by simp [isInt, isMv, c])) q
        · have e1 : isInt y = false := isInt_no hi
          refine st_ret (ev_to (ev_andV (q := false) (ev__law_number (eva_cons (hy rfl) eva_nil)) fun c => by rw [e1] at c; cases c) ?_) q
          rw [e1]
          have : isMv ws (.tuple [.str s, y]) = false := by
            unfold isMv
            split
            · rename_i i e
              exact absurd ⟨_, by simp at e; exact e.2⟩ hi
            · rfl
          rw [this]
          simp
    · have e1 : isT "str" x = false := isT_str_no hs
      refine st_ifT (evt_orF (h0 rfl) (evt_orF (h1 rfl) (evt_to (evt_or (q := true) (evt_not (evt_test (ev_is (hx rfl)))) fun c => by rw [e1] at c; cases c) (by simp)))) ?_
      refine st_ret ev_c ?_
      have : isMv ws (.tuple [x, y]) = false := by
        unfold isMv
        split
        · rename_i s i e
          exact absurd ⟨s, by simp at e; exact e.1⟩ hs
        · rfl
      rw [this] at q
      exact q
theorem ev__law_is_move {l : DTA} {ρ : Rho} {d : D} {ws : List Str} (h : EvA l ρ [d, .tuple (ws.map .str)]) : Ev (gCall sp__law_is_move l) ρ (.bool (isMv ws d)) := ev_call h fun Q q => ⟨d, ws, rfl, q⟩

abbrev sp__law_moves_fault : Spec where
  n := 3
  w := fun as Q => ∃ (w : List Nat) (d : D) (ws : List Str), as = [tupN w, d, .tuple (ws.map .str)] ∧ w.length ≤ 50000 ∧ (∀ ds, d = .tuple ds → ds.length ≤ 100000) ∧ Q (.tuple [(faultM ws w d).1, tupN (faultM ws w d).2])
  len := fun as Q ⟨w, d, ws, h, _⟩ => by rw [h]; rfl
  mono := fun as Q Q' ⟨w, d, ws, h, h1, h2, q⟩ f => ⟨w, d, ws, h, h1, h2, f _ q⟩
def T__law_moves_faultb1_2 : DTS := (gSet 0 (gVar 5))
def T__law_moves_faultb1_1 : DTS := gSeq (gIfS (gTest (gIsN false (gVar 5))) (gRet (gTup (gCons (gTup (gCons (gC (.str "move")) (gCons (gVar 3) gNil))) (gCons (gVar 0) gNil)))) gNext) T__law_moves_faultb1_2
def T__law_moves_faultb1 : DTS := gSeq (gSet 5 (gCall sp__law_moved (gCons (gVar 0) (gCons (gVar 4) gNil)))) T__law_moves_faultb1_1
def T__law_moves_fault_2 : DTS := (gRet (gTup (gCons (gC .none) (gCons (gVar 0) gNil))))
def T__law_moves_fault_1 : DTS := gSeq (gFor (giEnum (gVar 1)) (gdTup (gdCons (gdName 3) (gdCons (gdName 4) gdNil)) 2) T__law_moves_faultb1) T__law_moves_fault_2
def T__law_moves_fault : DTS := gSeq (gIfS (gOr (gNot (gTest (gIs "tuple" (gVar 1)))) (gTest (gBin neD (gLc (giSeq (gVar 1)) (gdName 4) (gNot (gTest (gCall sp__law_is_move (gCons (gVar 4) (gCons (gVar 2) gNil))))) (gC (.int 1)) [4]) (gLst gNil)))) (gRet (gTup (gCons (gTup (gCons (gC (.str "form")) gNil)) (gCons (gVar 0) gNil)))) gNext) T__law_moves_fault_1
abbrev N__law_moves_fault : List Str := ["word", "value", "words", "k", "move", "late"]
theorem shaped_lstI' (ns : List Int) : SeqAt.shaped (lstI ns) = true := (shaped_list (ds := ns.map .int) (k := 0) (fun d hd => by obtain ⟨x, _, rfl⟩ := List.mem_map.mp hd; exact ⟨rfl, by simp [PyData.depth]⟩) (by decide)).1
theorem eqv_lstI : ∀ a b : List Int, PyData.eqv (lstI a) (lstI b) = decide (a = b) := fun a b => by
  have h := eqv_tupI a b
  unfold tupI at h
  unfold lstI
  simp only [PyData.eqv] at h ⊢
  exact h
theorem op_neLI {a b : List Int} : Op2 neD (lstI a) (lstI b) (.bool (!decide (a = b))) := fun P q => op_ne (eqOk_of (shaped_lstI' _) (shaped_lstI' _)) P (by rw [eqv_lstI]; exact q)
theorem w__law_moves_fault (as : List D) (Q : D → Prop) (h : sp__law_moves_fault.w as Q) : T__law_moves_fault { nx := fun _ => Q .none, rt := fun d _ => Q d } (startR N__law_moves_fault (as.map .dat)) := by
  obtain ⟨w, d, ws, rfl, hl, hd, q⟩ := h
  unfold T__law_moves_fault
  rw [show startR N__law_moves_fault (List.map Cl.dat [tupN w, d, .tuple (ws.map .str)]) = [some (.dat (tupN w)), some (.dat d), some (.dat (.tuple (ws.map .str))), none, none, none] from rfl]
  apply st_seq
  by_cases ht : ∃ ds, d = .tuple ds
  · obtain ⟨ds, rfl⟩ := ht
    have lds := hd ds rfl
    have ones : ∀ {ρ : Rho}, lk ρ 1 = some (.dat (.tuple ds)) → lk ρ 2 = some (.dat (.tuple (ws.map .str))) → ρ = [some (.dat (tupN w)), some (.dat (.tuple ds)), some (.dat (.tuple (ws.map .str))), none, none, none] → Ev (gLc (giSeq (gVar 1)) (gdName 4) (gNot (gTest (gCall sp__law_is_move (gCons (gVar 4) (gCons (gVar 2) gNil))))) (gC (.int 1)) [4]) ρ (lstI (List.replicate (ds.filter fun x => !isMv ws x).length 1)) := fun h1 h2 e => by
      subst e
      exact ev_lcFN ds id (fun _ => .int 1) (fun x => !isMv ws x) (evi_to (evi_seq (ev_var rfl) Items.t) (List.map_id ds).symm) (fun x hx => evt_not (evt_test (ev__law_is_move (eva_cons (ev_var rfl) (eva_cons (ev_var rfl) eva_nil))))) (fun x hx _ => ev_c) (by rw [List.map_const']; simp) lds
    refine st_if (p := !ds.all (isMv ws)) (evt_to (evt_orF (evt_to (evt_not (evt_test (ev_is (ev_var rfl)))) (by simp)) (evt_test (ev_bin (ones rfl rfl rfl) (ev_to (d := lstI []) (ev_lst eva_nil (by simp)) rfl) op_neLI))) ?_) (fun c => ?_) (fun c => ?_)
    · congr 1
      cases h : ds.all (isMv ws) with
      | true =>
        rw [List.all_eq_true] at h
        rw [show (ds.filter fun x => !isMv ws x) = [] from List.filter_eq_nil_iff.mpr fun x hx => by simp [h x hx]]
        rfl
      | false =>
        refine decide_eq_false fun z => ?_
        rw [List.replicate_eq_nil_iff, List.length_eq_zero_iff, List.filter_eq_nil_iff] at z
        rw [List.all_eq_false] at h
        obtain ⟨x, hx, hx2⟩ := h
        exact z x hx (by simpa using hx2)
    · have c : ¬ ds.all (isMv ws) = true := by simpa using c
      refine st_ret (ev_tup (eva_cons (ev_tup (eva_cons ev_c eva_nil) (by simp)) (eva_cons (ev_var rfl) eva_nil)) (by simp)) ?_
      unfold faultM at q
      dsimp only at q
      rw [if_neg c] at q
      exact q
    · have c : ds.all (isMv ws) = true := by simpa using c
      unfold faultM at q
      dsimp only at q
      rw [if_pos c] at q
      have eds : ds = (ds.map mvOf).map mvD := by
        rw [List.map_map]
        conv => lhs; rw [← List.map_id ds]
        exact List.map_congr_left fun x hx => (isMv_eq (List.all_eq_true.mp c x hx)).1
      have lms : (ds.map mvOf).length ≤ 100000 := by rw [List.length_map]; exact lds
      generalize ds.map mvOf = ms at *
      subst eds
      show T__law_moves_fault_1 _ _
      unfold T__law_moves_fault_1
      apply st_seq
      refine st_for ms.zipIdx (fun p => PyData.tuple [.int (p.2 : Nat), mvD p.1]) (fun i ρ => ∃ (v : List Nat) (o3 o4 o5 : Option Cl), ρ = [some (.dat (tupN v)), some (.dat (.tuple (ms.map mvD))), some (.dat (.tuple (ws.map .str))), o3, o4, o5] ∧ v.length ≤ 50000 ∧ runM w 0 ms = runM v i (ms.drop i))
        (evi_to (evi_enum (ev_var rfl) Items.t) (enum_mvs ms)) ⟨w, none, none, none, rfl, hl, rfl⟩ (fun i x ρ2 hx hJ => ?_) (fun ρ2 hJ => ?_)
      · obtain ⟨v, o3, o4, o5, rfl, lv, hr⟩ := hJ
        have hx2 := List.getElem?_eq_some_iff.mp hx
        obtain ⟨hi, hx3⟩ := hx2
        rw [List.length_zipIdx] at hi
        rw [List.getElem_zipIdx] at hx3
        simp only [Nat.zero_add] at hx3
        subst hx3
        rw [List.drop_eq_getElem_cons hi] at hr
        generalize ms[i] = m at *
        refine evg_tup (evgs_cons evg_name (evgs_cons evg_name evgs_nil)) rfl _ ?_
        walk_at "nx"
        unfold T__law_moves_faultb1
        apply st_seq
        refine st_set (ev__law_moved (ws := v) (name := m.1) (i := m.2) (eva_cons (ev_var rfl) (eva_cons (ev_var rfl) eva_nil)) lv) ?_
        walk_at "nx"
        show T__law_moves_faultb1_1 _ _
        unfold T__law_moves_faultb1_1
        apply st_seq
        cases e : movedOf v m.1 m.2 with
        | none =>
          refine st_ifT (evt_to (evt_test (ev_isN (ev_var rfl))) rfl) ?_
          refine st_ret (ev_tup (eva_cons (ev_tup (eva_cons ev_c (eva_cons (ev_var rfl) eva_nil)) (by simp)) (eva_cons (ev_var rfl) eva_nil)) (by simp)) ?_
          have e2 : runM v i (m :: ms.drop (i + 1)) = (.tuple [.str "move", .int (i : Nat)], v) := by
            show (match movedOf v m.1 m.2 with | none => _ | some w' => runM w' (i + 1) _) = _
            rw [e]
          rw [hr, e2] at q
          exact q
        | some v' =>
          refine st_ifF (evt_to (evt_test (ev_notN (ev_var rfl) (by simp [optN, tupN]))) rfl) ?_
          show T__law_moves_faultb1_2 _ _
          unfold T__law_moves_faultb1_2
          refine st_set (ev_var rfl) ?_
          walk_at "nx"
          refine ⟨v', _, _, _, rfl, Nat.le_trans (moved_len e) lv, ?_⟩
          rw [hr]
          show (match movedOf v m.1 m.2 with | none => _ | some w' => runM w' (i + 1) _) = _
          rw [e]
      · obtain ⟨v, o3, o4, o5, rfl, lv, hr⟩ := hJ
        rw [List.length_zipIdx, List.drop_length] at hr
        show T__law_moves_fault_2 _ _
        unfold T__law_moves_fault_2
        refine st_ret (ev_tup (eva_cons ev_c (eva_cons (ev_var rfl) eva_nil)) (by simp)) ?_
        rw [hr] at q
        exact q
  · have e1 : isT "tuple" d = false := isT_tup_no ht
    have e2 : faultM ws w d = (formD, w) := by
      unfold faultM
      split
      · rename_i ds; exact absurd ⟨ds, rfl⟩ ht
      · rfl
    refine st_ifT (fun P z => evt_not (evt_test (ev_is (ev_var rfl))) _ ?_) ?_
    · rw [e1]; exact z
    · refine st_ret (ev_tup (eva_cons (ev_tup (eva_cons ev_c eva_nil) (by simp)) (eva_cons (ev_var rfl) eva_nil)) (by simp)) ?_
      rw [e2] at q
      exact q
theorem ev__law_moves_fault {l : DTA} {ρ : Rho} {w : List Nat} {d : D} {ws : List Str} (h : EvA l ρ [tupN w, d, .tuple (ws.map .str)]) (h1 : w.length ≤ 50000) (h2 : ∀ ds, d = .tuple ds → ds.length ≤ 100000) : Ev (gCall sp__law_moves_fault l) ρ (.tuple [(faultM ws w d).1, tupN (faultM ws w d).2]) := ev_call h fun Q q => ⟨w, d, ws, rfl, h1, h2, q⟩

/-! ## things with something otherwise -/
theorem wA_app : ∀ a b : List D, PyData.weightAll (a ++ b) = PyData.weightAll a + PyData.weightAll b
  | [], b => by simp [PyData.weightAll]
  | x :: a, b => by simp only [List.cons_append, PyData.weightAll, wA_app a b]; omega
theorem wA_one (x : D) : PyData.weightAll [x] = x.weight + 1 := by simp [PyData.weightAll]
theorem wA_sub {a b : List D} (h : a.Sublist b) : PyData.weightAll a ≤ PyData.weightAll b := by
  induction h with
  | slnil => exact Nat.le_refl _
  | cons x _ ih => simp only [PyData.weightAll]; omega
  | cons_cons x _ ih => simp only [PyData.weightAll]; omega
theorem wA_rev : ∀ a : List D, PyData.weightAll a.reverse = PyData.weightAll a
  | [] => rfl
  | x :: a => by rw [List.reverse_cons, wA_app, wA_one, wA_rev a]; simp only [PyData.weightAll]; omega
theorem wA_mem : ∀ {a : List D} {x : D}, x ∈ a → x.weight + 1 ≤ PyData.weightAll a
  | y :: a, x, h => by
    simp only [PyData.weightAll]
    rcases List.mem_cons.mp h with rfl | h
    · omega
    · have := wA_mem h; omega
theorem wA_le {a : List D} {c : Nat} (h : ∀ x ∈ a, x.weight ≤ c) : PyData.weightAll a ≤ a.length * (c + 1) := by
  induction a with
  | nil => exact Nat.zero_le _
  | cons x r ih =>
    have h1 := ih fun y hy => h y (List.mem_cons_of_mem _ hy)
    have h2 := h x List.mem_cons_self
    simp only [PyData.weightAll, List.length_cons, Nat.succ_mul]
    omega
theorem dA_le {k : Nat} : ∀ {a : List D}, PyData.depthAll a ≤ k ↔ ∀ x ∈ a, x.depth ≤ k
  | [] => by simp [PyData.depthAll]
  | x :: a => by
    have := dA_le (k := k) (a := a)
    simp only [PyData.depthAll, List.mem_cons, forall_eq_or_imp, ← this]
    omega
mutual
theorem okE_up {b c : Nat} (h : b ≤ c) : ∀ d : D, okE b d = true → okE c d = true
  | .none, _ => rfl
  | .bool _, _ => rfl
  | .int i, q => by simp only [okE, decide_eq_true_eq] at q ⊢; omega
  | .str x, q => q
  | .list xs, q => by
    simp only [okE, Bool.and_eq_true, decide_eq_true_eq] at q ⊢
    exact ⟨by omega, okEA_up h xs q.2⟩
  | .tuple xs, q => by
    simp only [okE, Bool.and_eq_true, decide_eq_true_eq] at q ⊢
    exact ⟨by omega, okEA_up h xs q.2⟩
  | .dict kvs, q => q
theorem okEA_up {b c : Nat} (h : b ≤ c) : ∀ ds : List D, okEA b ds = true → okEA c ds = true
  | [], _ => rfl
  | d :: ds, q => by
    simp only [okEA, Bool.and_eq_true] at q ⊢
    exact ⟨okE_up h d q.1, okEA_up h ds q.2⟩
end
structure Bd (b n e k : Nat) (d : D) : Prop where
  ok : okE b d = true
  w : d.weight ≤ n
  dp : d.depth ≤ k
  el : ∀ ds, d = .tuple ds ∨ d = .list ds → ∀ x ∈ ds, x.weight ≤ e
section
variable {b n e k b' n' e' k' : Nat} {d : D} {ds : List D}
theorem Bd.mono (h : Bd b n e k d) (h0 : b ≤ b') (h1 : n ≤ n') (h2 : e ≤ e') (h3 : k ≤ k') : Bd b' n' e' k' d := ⟨okE_up h0 d h.ok, Nat.le_trans h.w h1, Nat.le_trans h.dp h3, fun ds hd x hx => Nat.le_trans (h.el ds hd x hx) h2⟩
theorem Bd.okE (h : Bd b n e k d) : OkE b n k d := ⟨h.ok, h.w, h.dp⟩
structure BdA (b n e k : Nat) (ds : List D) : Prop where
  ok : ∀ x ∈ ds, Gw.okE b x = true
  ln : ds.length ≤ b
  w : PyData.weightAll ds ≤ n
  dp : ∀ x ∈ ds, x.depth ≤ k
  el : ∀ x ∈ ds, x.weight ≤ e
theorem BdA.tup (h : BdA b n e k ds) : Bd b n e (k + 1) (.tuple ds) :=
  ⟨by simp only [Gw.okE, Bool.and_eq_true, decide_eq_true_eq]; exact ⟨h.ln, (okEA_all ds).mpr h.ok⟩, by simp only [PyData.weight]; exact h.w, by simp only [PyData.depth]; have := dA_le.mpr h.dp; omega, fun ds' hd => by
    rcases hd with hd | hd <;> cases hd
    exact h.el⟩
theorem BdA.lst (h : BdA b n e k ds) : Bd b n e (k + 1) (.list ds) :=
  ⟨by simp only [Gw.okE, Bool.and_eq_true, decide_eq_true_eq]; exact ⟨h.ln, (okEA_all ds).mpr h.ok⟩, by simp only [PyData.weight]; exact h.w, by simp only [PyData.depth]; have := dA_le.mpr h.dp; omega, fun ds' hd => by
    rcases hd with hd | hd <;> cases hd
    exact h.el⟩
theorem Bd.tupA (h : Bd b n e k (.tuple ds)) : BdA b n e (k - 1) ds ∧ 1 ≤ k := by
  have h1 := h.ok
  have h2 := h.w
  have h3 := h.dp
  simp only [Gw.okE, Bool.and_eq_true, decide_eq_true_eq] at h1
  simp only [PyData.weight] at h2
  simp only [PyData.depth] at h3
  exact ⟨⟨(okEA_all ds).mp h1.2, h1.1, h2, dA_le.mp (by omega), h.el ds (.inl rfl)⟩, by omega⟩
theorem BdA.sub {es : List D} (h : BdA b n e k ds) (s : es.Sublist ds) : BdA b n e k es := ⟨fun x hx => h.ok x (s.subset hx), Nat.le_trans s.length_le h.ln, Nat.le_trans (wA_sub s) h.w, fun x hx => h.dp x (s.subset hx), fun x hx => h.el x (s.subset hx)⟩
theorem BdA.rev (h : BdA b n e k ds) : BdA b n e k ds.reverse := ⟨fun x hx => h.ok x (List.mem_reverse.mp hx), by rw [List.length_reverse]; exact h.ln, by rw [wA_rev]; exact h.w, fun x hx => h.dp x (List.mem_reverse.mp hx), fun x hx => h.el x (List.mem_reverse.mp hx)⟩
theorem BdA.mono (h : BdA b n e k ds) (h0 : b ≤ b') (h1 : n ≤ n') (h2 : e ≤ e') (h3 : k ≤ k') : BdA b' n' e' k' ds :=
  ⟨fun x hx => okE_up h0 x (h.ok x hx), Nat.le_trans h.ln h0, Nat.le_trans h.w h1, fun x hx => Nat.le_trans (h.dp x hx) h3, fun x hx => Nat.le_trans (h.el x hx) h2⟩
theorem BdA.mem (h : BdA b n e k ds) {x : D} (hx : x ∈ ds) : Bd b x.weight e k x := ⟨h.ok x hx, Nat.le_refl _, h.dp x hx, fun es he y hy => by
  have h1 := h.el x hx
  have h2 := wA_mem hy
  rcases he with rfl | rfl
  · simp only [PyData.weight] at h1; omega
  · simp only [PyData.weight] at h1; omega⟩
theorem cut_sub (ds : List D) (lo hi : Option Int) : (cutD ds lo hi).Sublist ds := (List.take_sublist _ _).trans (List.drop_sublist _ _)
/-- a thing put in the place of another one -/
theorem BdA.put (h : BdA b n e k ds) {i : Nat} {x y : D} (hx : ds[i]? = some x) (hy : Bd (b + 2) (x.weight + e + 100) (2 * e + 100) (k + 1) y) : BdA (b + 2) (n + e + 100) (2 * e + 100) (k + 1) (ds.take i ++ [y] ++ ds.drop (i + 1)) := by
  have hm := List.mem_of_getElem? hx
  have hi := (List.getElem?_eq_some_iff.mp hx).1
  have e1 : ds = ds.take i ++ [x] ++ ds.drop (i + 1) := by
    conv => lhs; rw [← List.take_append_drop (i + 1) ds, List.take_add_one, hx]
    rfl
  have w1 : PyData.weightAll ds = PyData.weightAll (ds.take i) + (x.weight + 1) + PyData.weightAll (ds.drop (i + 1)) := by
    conv => lhs; rw [e1]
    rw [wA_app, wA_app, wA_one]
  have l1 : ds.length = (ds.take i).length + 1 + (ds.drop (i + 1)).length := by
    conv => lhs; rw [e1]
    simp only [List.length_append, List.length_cons, List.length_nil]
  have xw := h.el x hm
  have al : ∀ z ∈ ds.take i ++ [y] ++ ds.drop (i + 1), z ∈ ds ∨ z = y := fun z hz => by
    rcases List.mem_append.mp hz with hz | hz
    · rcases List.mem_append.mp hz with hz | hz
      · exact .inl (List.mem_of_mem_take hz)
      · exact .inr (List.mem_singleton.mp hz)
    · exact .inl (List.mem_of_mem_drop hz)
  refine ⟨fun z hz => ?_, ?_, ?_, fun z hz => ?_, fun z hz => ?_⟩
  · rcases al z hz with hz | rfl
    · exact okE_up (by omega) z (h.ok z hz)
    · exact hy.ok
  · have := h.ln
    simp only [List.length_append, List.length_cons, List.length_nil]
    omega
  · rw [wA_app, wA_app, wA_one]
    have := h.w
    have := hy.w
    omega
  · rcases al z hz with hz | rfl
    · have := h.dp z hz; omega
    · exact hy.dp
  · rcases al z hz with hz | rfl
    · have := h.el z hz; omega
    · have := hy.w; omega
theorem bd_int {i : Int} (h : i.natAbs ≤ b) (hb : b < 2 ^ 40) : Bd b 60 e k (.int i) := by
  refine ⟨by simp [Gw.okE, h], ?_, by simp [PyData.depth], fun ds hd => by rcases hd with hd | hd <;> cases hd⟩
  simp only [PyData.weight]
  split
  · omega
  · rename_i h0
    have h0' : i.natAbs ≠ 0 := by simpa using h0
    have := (Nat.log2_lt h0').mpr (Nat.lt_of_le_of_lt h hb)
    omega
end

abbrev spr__law_bent (m : Nat) : Spec where
  n := 1
  w := fun as Q => ∃ (d : D) (b n e k : Nat), as = [d] ∧ Bd b n e k d ∧ k < m ∧ 99 ≤ b ∧ b ≤ 90000 ∧ ∀ d', Bd (b + 2) (n + e + 100) (2 * e + 100) (k + 1) d' → Q d'
  len := fun as Q ⟨d, b, n, e, k, h, _⟩ => by rw [h]; rfl
  mono := fun as Q Q' ⟨d, b, n, e, k, h, h1, h2, h3, h4, q⟩ f => ⟨d, b, n, e, k, h, h1, h2, h3, h4, fun d' hd => f _ (q d' hd)⟩
abbrev sp__law_bent : Spec := spr__law_bent 8
theorem z__law_bent (ds : List D) (Q : D → Prop) : ¬ (spr__law_bent 0).w ds Q := fun ⟨_, _, _, _, _, _, _, h, _⟩ => by omega
def T__law_bentb2_2 (m : Nat) : DTS := (gRet (gCallS sp__law_of 0 (gCons (gVar 3) gNil)))
def T__law_bentb2_1 (m : Nat) : DTS := gSeq (gIfS (gTest (gIs "tuple" (gVar 1))) (gSet 3 (gBin catD (gVar 3) (gLst (gCons (gSl (gVar 1) (gSome (gC (.int 1))) gNo) (gCons (gSl (gVar 1) gNo (gSome (gNeg (gC (.int 1))))) (gCons (gBin addD (gVar 1) (gSl (gVar 1) gNo (gSome (gC (.int 1))))) (gCons (gU lstU (gVar 1)) (gCons (gRevT (gVar 1)) (gCons (gBin addD (gVar 1) (gTup (gCons (gC (.int 0)) gNil))) gNil))))))))) gNext) (T__law_bentb2_2 m)
def T__law_bentb2 (m : Nat) : DTS := gSeq (gSet 3 (gLst (gCons (gCallS sp__law_of 0 (gCons (gVar 2) gNil)) gNil))) (T__law_bentb2_1 m)
def T__law_bent_6 (m : Nat) : DTS := (gRet (gBin addD (gBin addD (gSl (gVar 1) gNo (gSome (gVar 4))) (gTup (gCons (gCallS (spr__law_bent m) 0 (gCons (gBin ixD (gVar 1) (gVar 4)) gNil)) gNil))) (gSl (gVar 1) (gSome (gBin addD (gVar 4) (gC (.int 1)))) gNo)))
def T__law_bent_5 (m : Nat) : DTS := gSeq (gIfS (gTest (gBin eqD (gVar 5) (gC (.int 1)))) (gRet (gBin addD (gSl (gVar 1) gNo (gSome (gVar 4))) (gSl (gVar 1) (gSome (gBin addD (gVar 4) (gC (.int 1)))) gNo))) gNext) (T__law_bent_6 m)
def T__law_bent_4 (m : Nat) : DTS := gSeq (gIfS (gAnd (gTest (gBin eqD (gVar 5) (gC (.int 0)))) (gTest (gCall sp__law_number (gCons (gBin ixD (gVar 1) (gVar 4)) gNil)))) (gRet (gBin addD (gBin addD (gSl (gVar 1) gNo (gSome (gVar 4))) (gTup (gCons (gBin addD (gBin ixD (gVar 1) (gVar 4)) (gCallS sp__law_of 0 (gCons (gLst (gCons (gC (.int 1)) (gCons (gNeg (gC (.int 1))) (gCons (gC (.int 2)) gNil)))) gNil))) gNil))) (gSl (gVar 1) (gSome (gBin addD (gVar 4) (gC (.int 1)))) gNo))) gNext) (T__law_bent_5 m)
def T__law_bent_3 (m : Nat) : DTS := gSeq (gPar2 4 5 (gcDat (gCallS sp__law_pick 0 (gCons (gU lenU (gVar 1)) gNil)) (gcDat (gCallS sp__law_pick 0 (gCons (gC (.int 6)) gNil)) gcNil))) (T__law_bent_4 m)
def T__law_bent_2 (m : Nat) : DTS := gSeq (gIfS (gOr (gNot (gTest (gIs "tuple" (gVar 1)))) (gOr (gTest (gBin eq0D (gVar 1) (gTup gNil))) (gTest (gBin eqD (gCallS sp__law_pick 0 (gCons (gC (.int 4)) gNil)) (gC (.int 0)))))) (T__law_bentb2 m) gNext) (T__law_bent_3 m)
def T__law_bent_1 (m : Nat) : DTS := gSeq (gSet 2 (gBin catD (gVar 2) (gLst (gCons (gTup (gCons (gC (.str "far")) (gCons (gC (.int 0)) gNil))) (gCons (gTup (gCons (gC (.str "three")) (gCons (gC (.int 0)) gNil))) (gCons (gTup (gCons (gC (.str "away")) (gCons (gC (.int 1)) gNil))) (gCons (gLst gNil) (gCons gDic0 (gCons (gTup (gCons (gC (.str "far")) (gCons (gNeg (gC (.int 1))) gNil))) (gCons (gTup (gCons (gC (.int 0)) (gCons (gC (.int 1)) (gCons (gC (.int 0)) (gCons (gC (.int 1)) gNil))))) gNil)))))))))) (T__law_bent_2 m)
def T__law_bent (m : Nat) : DTS := gSeq (gSet 2 (gLst (gCons (gC .none) (gCons (gC (.int 0)) (gCons (gC (.int 1)) (gCons (gC (.int 2)) (gCons (gC (.bool true)) (gCons (gNeg (gC (.int 1))) (gCons (gC (.int 99)) (gCons (gC (.str "a")) (gCons (gC (.str "far")) (gCons (gC (.str "three")) (gCons (gC (.str "away")) (gCons (gC (.str "shortest")) (gCons (gC (.str "longer")) (gCons (gC (.str "none")) (gCons (gC (.str "place")) (gCons (gC (.str "thing")) (gCons (gTup gNil) (gCons (gTup (gCons (gC (.int 0)) gNil)) gNil)))))))))))))))))))) (T__law_bent_1 m)
abbrev N__law_bent : List Str := ["source", "value", "odd", "some", "k", "way"]
def odd1 : List D := [.none, .int 0, .int 1, .int 2, .bool true, .int (-1), .int 99, .str "a", .str "far", .str "three", .str "away", .str "shortest", .str "longer", .str "none", .str "place", .str "thing", .tuple [], .tuple [.int 0]]
def odd2 : List D := [.tuple [.str "far", .int 0], .tuple [.str "three", .int 0], .tuple [.str "away", .int 1], .list [], .dict [], .tuple [.str "far", .int (-1)], .tuple [.int 0, .int 1, .int 0, .int 1]]
def elW : D → Bool
  | .tuple ds => ds.all fun x => decide (x.weight ≤ 90)
  | .list ds => ds.all fun x => decide (x.weight ≤ 90)
  | _ => true
theorem odd_ok : ((odd1 ++ odd2).all fun d => okE 99 d && decide (d.weight ≤ 90) && decide (d.depth ≤ 1) && elW d) = true := by decide +kernel
theorem odd_bd {d : D} (h : d ∈ odd1 ++ odd2) {b n e k : Nat} (hb : 99 ≤ b) : Bd (b + 2) (n + e + 100) (2 * e + 100) (k + 1) d := by
  have q := List.all_eq_true.mp odd_ok d h
  simp only [Bool.and_eq_true, decide_eq_true_eq] at q
  refine ⟨okE_up (by omega) d q.1.1.1, by omega, by omega, fun ds hd x hx => ?_⟩
  have h2 := q.2
  rcases hd with rfl | rfl
  · have := of_decide_eq_true (List.all_eq_true.mp h2 x hx); omega
  · have := of_decide_eq_true (List.all_eq_true.mp h2 x hx); omega
theorem evs_pick {ρ : Rho} {i : Nat} {a : DTE} {n : Nat} (h0 : lk ρ i = some .srcR) (ha : Ev a ρ (.int n)) (h1 : 0 < n) (h2 : n < 2 ^ 30) : EvS (gCallS sp__law_pick i (gCons a gNil)) ρ (fun d => ∃ r : Nat, r < n ∧ d = .int r) :=
  evs_callS h0 (evsa_of (eva_cons ha eva_nil)) fun ds e Q q => ⟨n, e, by omega, fun r r0 r1 => by
    obtain ⟨m, rfl⟩ := Int.eq_ofNat_of_zero_le r0
    exact q _ ⟨m, by omega, rfl⟩⟩
theorem evs_pickOf {ρ : Rho} {i : Nat} {a : DTE} {ds : List D} (h0 : lk ρ i = some .srcR) (ha : Ev a ρ (.list ds)) (h1 : 0 < ds.length) (h2 : ds.length < 2 ^ 29) : EvS (gCallS sp__law_of i (gCons a gNil)) ρ (· ∈ ds) :=
  evs_callS h0 (evsa_of (eva_cons ha eva_nil)) fun as e Q q => ⟨ds, .inl e, h1, h2, q⟩
theorem evs_bent_r {m : Nat} {ρ : Rho} {i : Nat} {a : DTE} {d : D} {b n e k : Nat} (h0 : lk ρ i = some .srcR) (ha : Ev a ρ d) (h : Bd b n e k d) (h1 : k < m) (h2 : 99 ≤ b) (h3 : b ≤ 90000) : EvS (gCallS (spr__law_bent m) i (gCons a gNil)) ρ (Bd (b + 2) (n + e + 100) (2 * e + 100) (k + 1)) :=
  evs_callS h0 (evsa_of (eva_cons ha eva_nil)) fun as ea Q q => ⟨d, b, n, e, k, ea, h, h1, h2, h3, q⟩
theorem w__law_bent (m : Nat) (as : List D) (Q : D → Prop) (h : (spr__law_bent (m + 1)).w as Q) : T__law_bent m { nx := fun _ => Q .none, rt := fun d _ => Q d } (startR N__law_bent (.srcR :: as.map .dat)) := by
  obtain ⟨d, b, n, e, k, rfl, bd, hk, hb, hb2, q⟩ := h
  unfold T__law_bent
  rw [show startR N__law_bent (.srcR :: List.map Cl.dat [d]) = [some .srcR, some (.dat d), none, none, none, none] from rfl]
  apply st_seq
  refine st_set (d := .list odd1) (ev_to (d := .list odd1) (by walk_at "evs" <;> decide) rfl) ?_
  walk_at "nx"
  show T__law_bent_1 m _ _
  unfold T__law_bent_1
  apply st_seq
  refine st_set (d := .list (odd1 ++ odd2)) (ev_bin (ev_var rfl) (ev_to (d := .list odd2) (by walk_at "evs" <;> decide) rfl) (op_cat (by decide))) ?_
  walk_at "nx"
  show T__law_bent_2 m _ _
  unfold T__law_bent_2
  apply st_seq
  -- something else
  have other : ∀ G : DEnds, (∀ d' ρ, Bd (b + 2) (n + e + 100) (2 * e + 100) (k + 1) d' → G.rt d' ρ) → T__law_bentb2 m G [some .srcR, some (.dat d), some (.dat (.list (odd1 ++ odd2))), none, none, none] := by
    intro G hG
    unfold T__law_bentb2
    apply st_seq
    refine sts_set (S := fun x => ∃ y, x = .list [y] ∧ y ∈ odd1 ++ odd2) (evs_lst (evsa_one (evs_pickOf rfl (ev_var rfl) (by decide) (by decide))) fun ds ⟨y, e1, hy⟩ => ⟨by rw [e1]; simp, y, by rw [e1], hy⟩) ?_
    rintro _ ⟨y, rfl, hy⟩
    walk_at "nx"
    show T__law_bentb2_1 m _ _
    unfold T__law_bentb2_1
    apply st_seq
    have fin : ∀ {some : List D} , (0 < some.length ∧ some.length < 100) → (∀ x ∈ some, Bd (b + 2) (n + e + 100) (2 * e + 100) (k + 1) x) → T__law_bentb2_2 m G [Option.some .srcR, Option.some (.dat d), Option.some (.dat (.list (odd1 ++ odd2))), Option.some (.dat (.list some)), none, none] := by
      intro some hl hs
      unfold T__law_bentb2_2
      exact sts_ret (evs_pickOf rfl (ev_var rfl) hl.1 (by omega)) fun d' hd => hG d' _ (hs d' hd)
    have oy := odd_bd (n := n) (e := e) (k := k) hy hb
    by_cases ht : ∃ ds, d = .tuple ds
    · obtain ⟨ds, rfl⟩ := ht
      obtain ⟨A, k1⟩ := bd.tupA
      obtain ⟨k', rfl⟩ : ∃ k', k = k' + 1 := ⟨k - 1, by omega⟩
      have ln := A.ln
      have c1 : cutD ds none (some 1) = ds.take 1 := cut_to (k := 1)
      refine st_ifT (evt_to (evt_test (ev_is (ev_var rfl))) (by simp)) ?_
      refine st_set (d := .list [y, .tuple (cutD ds (some 1) none), .tuple (cutD ds none (some (-1))), .tuple (ds ++ cutD ds none (some 1)), .list ds, .tuple ds.reverse, .tuple (ds ++ [.int 0])]) ?_ ?_
      · refine ev_bin (ev_var rfl) (ev_lst (eva_cons (ev_sl (ev_var rfl) (evo_some ev_c) evo_no Cut.t) (eva_cons (ev_sl (ev_var rfl) evo_no (evo_some (ev_neg ev_c)) Cut.t) (eva_cons (ev_bin (ev_var rfl) (ev_sl (ev_var rfl) evo_no (evo_some ev_c) Cut.t) (op_addT ?_)) (eva_cons (ev_u (ev_var rfl) u_lstT) (eva_cons (ev_revT (ev_var rfl)) (eva_cons (ev_bin (ev_var rfl) (ev_tup (eva_cons ev_c eva_nil) (by simp)) (op_addT ?_)) eva_nil)))))) (by simp)) (op_cat (by simp))
        · rw [c1]
          have := List.length_take_le 1 ds
          omega
        · simp
          omega
      walk_at "nx"
      refine fin (by simp) fun x hx => ?_
      simp only [List.mem_cons, List.not_mem_nil, or_false] at hx
      rcases hx with rfl | rfl | rfl | rfl | rfl | rfl | rfl
      · exact oy
      · exact ((A.sub (cut_sub ds _ _)).tup).mono (by omega) (by omega) (by omega) (by omega)
      · exact ((A.sub (cut_sub ds _ _)).tup).mono (by omega) (by omega) (by omega) (by omega)
      · have t1 : (ds.take 1).Sublist ds := List.take_sublist _ _
        rw [c1]
        refine (BdA.tup (k := k') ⟨fun z hz => ?_, ?_, ?_, fun z hz => ?_, fun z hz => ?_⟩ : Bd (b + 2) (n + e + 100) (2 * e + 100) (k' + 1) _).mono (Nat.le_refl _) (Nat.le_refl _) (Nat.le_refl _) (by omega)
        · rcases List.mem_append.mp hz with hz | hz
          · exact okE_up (by omega) z (A.ok z hz)
          · exact okE_up (by omega) z (A.ok z (t1.subset hz))
        · have := List.length_take_le 1 ds
          rw [List.length_append]
          omega
        · rw [wA_app]
          have h1 := A.w
          have h2 : PyData.weightAll (ds.take 1) ≤ 1 * (e + 1) := Nat.le_trans (wA_le fun x hx => A.el x (t1.subset hx)) (Nat.mul_le_mul_right _ (List.length_take_le 1 ds))
          omega
        · rcases List.mem_append.mp hz with hz | hz
          · exact A.dp z hz
          · exact A.dp z (t1.subset hz)
        · have : z ∈ ds := by
            rcases List.mem_append.mp hz with hz | hz
            · exact hz
            · exact t1.subset hz
          have := A.el z this
          omega
      · exact A.lst.mono (by omega) (by omega) (by omega) (by omega)
      · exact A.rev.tup.mono (by omega) (by omega) (by omega) (by omega)
      · refine (BdA.tup (k := k') ⟨fun z hz => ?_, ?_, ?_, fun z hz => ?_, fun z hz => ?_⟩ : Bd (b + 2) (n + e + 100) (2 * e + 100) (k' + 1) _).mono (Nat.le_refl _) (Nat.le_refl _) (Nat.le_refl _) (by omega)
        · rcases List.mem_append.mp hz with hz | hz
          · exact okE_up (by omega) z (A.ok z hz)
          · rw [List.mem_singleton.mp hz]; simp [Gw.okE]
        · rw [List.length_append]
          simp
          omega
        · rw [wA_app, wA_one]
          have h1 := A.w
          simp only [PyData.weight]
          simp
          omega
        · rcases List.mem_append.mp hz with hz | hz
          · exact A.dp z hz
          · rw [List.mem_singleton.mp hz]; simp [PyData.depth]
        · rcases List.mem_append.mp hz with hz | hz
          · have := A.el z hz; omega
          · rw [List.mem_singleton.mp hz]; simp [PyData.weight]
    · refine st_ifF (fun P z => evt_test (ev_is (ev_var rfl)) _ ?_) ?_
      · rw [isT_tup_no ht]; exact z
      · exact fin (by simp) fun x hx => by rw [List.mem_singleton.mp hx]; exact oy
  by_cases ht : ∃ ds, d = .tuple ds
  rotate_left
  · refine st_ifT (fun P z => evt_or (q := true) (evt_not (evt_test (ev_is (ev_var rfl)))) (fun c => by rw [isT_tup_no ht] at c; cases c) _ ?_) ?_
    · rw [isT_tup_no ht]; exact z
    · exact other _ fun d' _ hd => q d' hd
  obtain ⟨ds, rfl⟩ := ht
  by_cases hn : ds = []
  · subst hn
    refine st_ifT (evt_orF (evt_to (evt_not (evt_test (ev_is (ev_var rfl)))) (by simp)) (evt_to (evt_or (q := true) (evt_test (ev_bin (ev_var rfl) (ev_tup eva_nil (by simp)) op_eq0T)) fun c => by simp at c) (by simp))) ?_
    exact other _ fun d' _ hd => q d' hd
  obtain ⟨A, k1⟩ := bd.tupA
  obtain ⟨k', rfl⟩ : ∃ k', k = k' + 1 := ⟨k - 1, by omega⟩
  have ln := A.ln
  have hpos : 0 < ds.length := List.length_pos_iff.mpr hn
  -- the draw
  have tst : ∀ P : Bool → Rho → Prop, (∀ p, P p [some .srcR, some (.dat (.tuple ds)), some (.dat (.list (odd1 ++ odd2))), none, none, none]) → gOr (gNot (gTest (gIs "tuple" (gVar 1)))) (gOr (gTest (gBin eq0D (gVar 1) (gTup gNil))) (gTest (gBin eqD (gCallS sp__law_pick 0 (gCons (gC (.int 4)) gNil)) (gC (.int 0))))) [some .srcR, some (.dat (.tuple ds)), some (.dat (.list (odd1 ++ odd2))), none, none, none] P := by
    intro P hP
    have e1 : ds.isEmpty = false := by cases ds with
      | nil => exact absurd rfl hn
      | cons _ _ => rfl
    refine evt_not (evt_test (ev_is (ev_var rfl))) _ ?_
    rw [isT_tuple]
    refine evt_test (ev_bin (ev_var rfl) (ev_tup eva_nil (by simp)) op_eq0T) _ ?_
    rw [e1]
    refine evs_bin (T := fun _ y => y = .int 0) (evs_pick rfl ev_c (by decide) (by decide)) (fun _ _ => evs_of ev_c) (U := fun d => ∃ p, d = .bool p) (fun x y hx hy => ?_) _ fun d hd => ?_
    · obtain ⟨r, _, rfl⟩ := hx
      subst hy
      exact ⟨_, op_eqI, _, rfl⟩
    · obtain ⟨p, rfl⟩ := hd
      exact ⟨p, rfl, hP p⟩
  refine tst _ fun p => ?_
  cases p with
  | true => exact other _ fun d' _ hd => q d' hd
  | false =>
    show T__law_bent_3 m _ _
    unfold T__law_bent_3
    apply st_seq
    refine sts_par2 (evs_pick (n := ds.length) rfl (ev_u (ev_var rfl) u_lenT) hpos (by omega)) (evs_pick (n := 6) rfl ev_c (by decide) (by decide)) ?_
    rintro _ _ ⟨i, hi, rfl⟩ ⟨way, _, rfl⟩
    walk_at "nx"
    obtain ⟨x, hx⟩ : ∃ x, ds[i]? = some x := ⟨_, List.getElem?_eq_getElem hi⟩
    have hm := List.mem_of_getElem? hx
    have bx := A.mem hm
    show T__law_bent_4 m _ _
    unfold T__law_bent_4
    apply st_seq
    have hix : ∀ {ρ : Rho}, lk ρ 1 = some (.dat (.tuple ds)) → lk ρ 4 = some (.dat (.int i)) → Ev (gBin ixD (gVar 1) (gVar 4)) ρ x := fun h1 h4 => ev_bin (ev_var h1) (ev_var h4) (op_ixT (atI_nat hx))
    have hto : ∀ {ρ : Rho}, lk ρ 1 = some (.dat (.tuple ds)) → lk ρ 4 = some (.dat (.int i)) → Ev (gSl (gVar 1) gNo (gSome (gVar 4))) ρ (.tuple (ds.take i)) := fun h1 h4 => ev_to (ev_sl (ev_var h1) evo_no (evo_some (ev_var h4)) Cut.t) (by rw [cut_to])
    have hfrom : ∀ {ρ : Rho}, lk ρ 1 = some (.dat (.tuple ds)) → lk ρ 4 = some (.dat (.int i)) → Ev (gSl (gVar 1) (gSome (gBin addD (gVar 4) (gC (.int 1)))) gNo) ρ (.tuple (ds.drop (i + 1))) := fun h1 h4 => ev_to (ev_sl (ev_var h1) (evo_some (ev_bin (ev_var h4) ev_c op_add)) evo_no Cut.t) (by rw [show ((i : Int) + 1) = ((i + 1 : Nat) : Int) by omega, cut_from0])
    have tl : (ds.take i).length + (ds.drop (i + 1)).length + 1 = ds.length := by rw [List.length_take, List.length_drop]; omega
    -- with another thing there
    have put : ∀ {g : DTE} {ρ : Rho}, lk ρ 1 = some (.dat (.tuple ds)) → lk ρ 4 = some (.dat (.int i)) → EvS g ρ (Bd (b + 2) (x.weight + e + 100) (2 * e + 100) (k' + 1)) → EvS (gBin addD (gBin addD (gSl (gVar 1) gNo (gSome (gVar 4))) (gTup (gCons g gNil))) (gSl (gVar 1) (gSome (gBin addD (gVar 4) (gC (.int 1)))) gNo)) ρ (Bd (b + 2) (n + e + 100) (2 * e + 100) (k' + 1 + 1)) := by
      intro g ρ h1 h4 hg
      refine evs_bin (S := fun z => ∃ y, z = .tuple (ds.take i ++ [y]) ∧ Bd (b + 2) (x.weight + e + 100) (2 * e + 100) (k' + 1) y) (T := fun _ z => z = .tuple (ds.drop (i + 1))) ?_ (fun _ _ => evs_of (hfrom h1 h4)) fun z w hz hw => ?_
      · refine evs_bin (S := (· = .tuple (ds.take i))) (T := fun _ z => ∃ y, z = .tuple [y] ∧ Bd (b + 2) (x.weight + e + 100) (2 * e + 100) (k' + 1) y) (evs_of (hto h1 h4)) (fun _ _ => evs_tup (evsa_one hg) fun as ⟨y, e1, hy⟩ => ⟨by rw [e1]; simp, y, by rw [e1], hy⟩) fun z w hz hw => ?_
        obtain ⟨y, rfl, hy⟩ := hw
        subst hz
        exact ⟨_, op_addT (by simp only [List.length_cons, List.length_nil]; omega), y, rfl, hy⟩
      · obtain ⟨y, rfl, hy⟩ := hz
        subst hw
        exact ⟨_, op_addT (by simp only [List.length_append, List.length_cons, List.length_nil]; omega), (A.put hx hy).tup⟩
    by_cases hnum : way = 0 ∧ ∃ j, x = .int j
    · obtain ⟨rfl, j, rfl⟩ := hnum
      refine st_ifT (evt_andT (evt_to (evt_test (ev_bin (ev_var rfl) ev_c op_eqI)) (by simp)) (evt_to (evt_test (ev__law_number (eva_cons (hix rfl rfl) eva_nil))) rfl)) ?_
      refine sts_ret (put rfl rfl ?_) fun d' hd => q d' hd
      refine evs_bin (S := (· = .int j)) (T := fun _ z => z ∈ [PyData.int 1, .int (-1), .int 2]) (evs_of (hix rfl rfl)) (fun _ _ => evs_pickOf rfl (ev_lst (eva_cons ev_c (eva_cons (ev_neg ev_c) (eva_cons ev_c eva_nil))) (by simp)) (by simp) (by simp)) fun z w hz hw => ?_
      subst hz
      have bj : j.natAbs ≤ b := by
        have := bx.ok
        simpa [Gw.okE] using this
      have fin : ∀ t : Int, t.natAbs ≤ 2 → ∃ d, Op2 addD (.int j) (.int t) d ∧ Bd (b + 2) ((PyData.int j).weight + e + 100) (2 * e + 100) (k' + 1) d := fun t ht => ⟨_, op_add, (bd_int (b := b + 2) (by omega) (by omega)).mono (Nat.le_refl _) (by omega) (Nat.le_refl _) (Nat.le_refl _)⟩
      simp only [List.mem_cons, List.not_mem_nil, or_false] at hw
      rcases hw with rfl | rfl | rfl
      · exact fin 1 (by decide)
      · exact fin (-1) (by decide)
      · exact fin 2 (by decide)
    · refine st_ifF (fun P z => ?_) ?_
      · refine evt_and (p := decide ((way : Int) = 0)) (q := false) (evt_test (ev_bin (ev_var rfl) ev_c op_eqI)) (fun c => evt_to (evt_test (ev__law_number (eva_cons (hix rfl rfl) eva_nil))) ?_) _ ?_
        · refine isInt_no fun hj => hnum ⟨?_, hj⟩
          have := of_decide_eq_true c
          omega
        · rw [Bool.and_false]; exact z
      show T__law_bent_5 m _ _
      unfold T__law_bent_5
      apply st_seq
      refine st_if (evt_test (ev_bin (ev_var rfl) ev_c op_eqI)) (fun c => ?_) (fun c => ?_)
      · refine st_ret (ev_bin (hto rfl rfl) (hfrom rfl rfl) (op_addT (by omega))) (q _ ?_)
        have s : (ds.take i ++ ds.drop (i + 1)).Sublist ds := by
          conv => rhs; rw [← List.take_append_drop i ds]
          refine List.Sublist.append (List.Sublist.refl _) ?_
          rw [← List.drop_drop]
          exact List.drop_sublist _ _
        exact (A.sub s).tup.mono (by omega) (by omega) (by omega) (by omega)
      · show T__law_bent_6 m _ _
        unfold T__law_bent_6
        exact sts_ret (put rfl rfl (evs_bent_r rfl (hix rfl rfl) bx (by omega) hb hb2)) fun d' hd => q d' hd
theorem evs_bent {ρ : Rho} {i : Nat} {a : DTE} {d : D} {b n e k : Nat} (h0 : lk ρ i = some .srcR) (ha : Ev a ρ d) (h : Bd b n e k d) (h1 : k < 8) (h2 : 99 ≤ b) (h3 : b ≤ 90000) : EvS (gCallS sp__law_bent i (gCons a gNil)) ρ (Bd (b + 2) (n + e + 100) (2 * e + 100) (k + 1)) := evs_bent_r h0 ha h h1 h2 h3

abbrev sp__law_fault : Spec where
  n := 3
  w := fun as Q => ∃ (n : Nat) (w : List Nat) (d : D), as = [.int n, tupN w, d] ∧ n ≤ 200 ∧ WordOk n w ∧ w.length ≤ 50000 ∧ (∀ ds, d = .tuple ds → ds.length ≤ 100000) ∧ Q (judgeS n w d)
  len := fun as Q ⟨n, a, d, h, _⟩ => by rw [h]; rfl
  mono := fun as Q Q' ⟨n, a, d, h, h1, h2, h3, h4, q⟩ f => ⟨n, a, d, h, h1, h2, h3, h4, f _ q⟩
def T__law_fault_2 : DTS := (gRet (gIf (gTest (gBin eqD (gU lenU (gCall sp__law_lot (gCons (gCall sp__law_led (gCons (gTRg (gRg1 (gVar 0))) (gCons (gVar 4) gNil))) gNil))) (gU lenU (gVar 4)))) (gC .none) (gTup (gCons (gC (.str "longer")) gNil))))
def T__law_fault_1 : DTS := gSeq (gIfS (gTest (gIsN true (gVar 3))) (gRet (gVar 3)) gNext) T__law_fault_2
def T__law_fault : DTS := gSeq (gAsg (gCall sp__law_moves_fault (gCons (gVar 1) (gCons (gVar 2) (gCons (gTup (gCons (gC (.str "far")) (gCons (gC (.str "three")) (gCons (gC (.str "away")) gNil)))) gNil)))) (gdTup (gdCons (gdName 3) (gdCons (gdName 4) gdNil)) 2)) T__law_fault_1
abbrev N__law_fault : List Str := ["n", "word", "value", "fault", "last"]
theorem lotD_len (ns : List Int) : (pairsD ns).length = (pairsOf ns).length := by
  unfold pairsD
  rw [(sorD_perm _).length_eq, List.length_map]
theorem w__law_fault (as : List D) (Q : D → Prop) (h : sp__law_fault.w as Q) : T__law_fault { nx := fun _ => Q .none, rt := fun d _ => Q d } (startR N__law_fault (as.map .dat)) := by
  obtain ⟨n, w, d, rfl, hn, hw, hl, hd, q⟩ := h
  unfold T__law_fault
  rw [show startR N__law_fault (List.map Cl.dat [.int n, tupN w, d]) = [some (.dat (.int n)), some (.dat (tupN w)), some (.dat d), none, none] from rfl]
  apply st_seq
  refine st_asg (ev__law_moves_fault (w := w) (d := d) (ws := ["far", "three", "away"]) (eva_cons (ev_var rfl) (eva_cons (ev_var rfl) (eva_cons (ev_to (ev_tup (eva_cons ev_c (eva_cons ev_c (eva_cons ev_c eva_nil))) (by simp)) rfl) eva_nil))) hl hd) (evg_tup (evgs_cons evg_name (evgs_cons evg_name evgs_nil)) rfl) ?_
  walk_at "nx"
  show T__law_fault_1 _ _
  unfold T__law_fault_1
  apply st_seq
  unfold judgeS at q
  have hw2 := faultM_word (ws := ["far", "three", "away"]) (d := d) hw
  generalize faultM ["far", "three", "away"] w d = r at *
  by_cases hr : r.1 = .none
  · rw [hr] at q ⊢
    refine st_ifF (evt_to (evt_test (ev_isN (ev_var rfl))) rfl) ?_
    show T__law_fault_2 _ _
    unfold T__law_fault_2
    dsimp only at q
    have ll : (ledM (upTo n) r.2).length = n := by rw [led_len (by rw [upTo_len]; exact hw2), upTo_len]
    refine st_ret (ev_if (p := isShort n r.2) (d := if isShort n r.2 = true then .none else .tuple [.str "longer"]) (evt_to (evt_test (ev_bin (ev_u (ev__law_lot (ns := ledM (upTo n) r.2) (eva_cons (ev__law_led (eva_cons (ev_range0 (ev_var rfl) (by omega)) (eva_cons (ev_var rfl) eva_nil)) (by rw [upTo_len]; omega) (by rw [upTo_len]; exact hw2)) eva_nil) (by omega)) u_lenL) (ev_u (ev_var rfl) u_lenTm) op_eqI)) ?_) (fun c => ?_) (fun c => ?_)) q
    · rw [lotD_len]
      exact decide_eq_decide.mpr (by omega)
    · rw [if_pos c]; exact ev_c
    · rw [if_neg (by rw [c]; simp)]; exact ev_tup (eva_cons ev_c eva_nil) (by simp)
  · refine st_ifT (evt_test (ev_notN (ev_var rfl) hr)) ?_
    refine st_ret (ev_var rfl) ?_
    split at q
    · rename_i e; exact absurd e hr
    · exact q
theorem ev__law_fault {l : DTA} {ρ : Rho} {n : Nat} {w : List Nat} {d : D} (h : EvA l ρ [.int n, tupN w, d]) (hn : n ≤ 200) (hw : WordOk n w) (h1 : w.length ≤ 50000) (h2 : ∀ ds, d = .tuple ds → ds.length ≤ 100000) : Ev (gCall sp__law_fault l) ρ (judgeS n w d) := ev_call h fun Q q => ⟨n, w, d, rfl, hn, hw, h1, h2, q⟩

/-! ## what the laws compare, odd things among them -/
abbrev OkayE (d : D) : Prop := (∃ n k, OkR n k d ∧ n ≤ 2 ^ 20 ∧ k ≤ 60) ∨ (∃ b n k, OkE b n k d ∧ b < 10 ^ 12 ∧ n ≤ 2 ^ 20 ∧ k ≤ 60)
theorem okayR {d : D} (h : Okay d) : OkayE d := .inl h
theorem okayB {b n e k : Nat} {d : D} (h : Bd b n e k d) (hb : b < 10 ^ 12) (hn : n ≤ 2 ^ 20) (hk : k ≤ 60) : OkayE d := .inr ⟨b, n, k, h.okE, hb, hn, hk⟩
theorem u_reprX {x : D} (h : OkayE x) : Op1 reprEU x (.str x.shown) := fun P q => ⟨h, q⟩
theorem evt_neReprE {a b : DTE} {ρ : Rho} (x : D) (ok : OkayE x) (ha : Ev a ρ x) (hb : Ev b ρ x) : EvT (gTest (gBin neD (gU reprEU a) (gU reprEU b))) ρ false :=
  evt_to (evt_test (ev_bin (ev_u ha (u_reprX ok)) (ev_u hb (u_reprX ok)) op_neS)) (by simp)
theorem evt_neKeptE {a b : DTE} {ρ : Rho} (x : D) (ok : OkayE x) (ha : Ev a ρ x) (hb : Ev b ρ (.str x.shown)) : EvT (gTest (gBin neD (gU reprEU a) b)) ρ false :=
  evt_to (evt_test (ev_bin (ev_u ha (u_reprX ok)) hb op_neS)) (by simp)
theorem ev_eqReprE {a b : DTE} {ρ : Rho} (x : D) (ok : OkayE x) (ha : Ev a ρ x) (hb : Ev b ρ x) : Ev (gBin eqD (gU reprEU a) (gU reprEU b)) ρ (.bool true) :=
  ev_to (ev_bin (ev_u ha (u_reprX ok)) (ev_u hb (u_reprX ok)) op_eqS) (by simp)
theorem bd_str {s : Str} {b e k : Nat} {n : Nat} (h : PyData.strOk s = true) (hn : s.cps.size ≤ n) : Bd b n e k (.str s) := ⟨h, hn, by simp [PyData.depth], fun ds hd => by rcases hd with hd | hd <;> cases hd⟩
theorem bda_nil {b n e k : Nat} : BdA b n e k [] := ⟨(fun x hx => by cases hx), Nat.zero_le _, Nat.zero_le _, (fun x hx => by cases hx), (fun x hx => by cases hx)⟩
theorem bda_cons {b n m e k : Nat} {d : D} {ds : List D} (h : Bd b n e k d) (hn : n ≤ e) (t : BdA b m e k ds) (hl : ds.length + 1 ≤ b) : BdA b (n + 1 + m) e k (d :: ds) :=
  ⟨fun x hx => (List.mem_cons.mp hx).elim (fun e => e ▸ h.ok) (t.ok x), hl, by simp only [PyData.weightAll]; have := h.w; have := t.w; omega, fun x hx => (List.mem_cons.mp hx).elim (fun e => e ▸ h.dp) (t.dp x), fun x hx => (List.mem_cons.mp hx).elim (fun e => e ▸ Nat.le_trans h.w hn) (t.el x)⟩
theorem bda_all {b c e k L : Nat} {ds : List D} (h : ∀ x ∈ ds, Bd b c e k x) (hc : c ≤ e) (hl : ds.length ≤ b) (hL : ds.length ≤ L) : BdA b (L * (c + 1)) e k ds :=
  ⟨fun x hx => (h x hx).ok, hl, Nat.le_trans (wA_le fun x hx => (h x hx).w) (Nat.mul_le_mul_right _ hL), fun x hx => (h x hx).dp, fun x hx => Nat.le_trans (h x hx).w hc⟩
theorem bd_smallN {k b e j : Nat} (h : k < 32) (hb : 32 ≤ b) : Bd b 5 e j (.int (k : Int)) := by
  refine ⟨by simp [Gw.okE]; omega, ?_, by simp [PyData.depth], fun ds hd => by rcases hd with hd | hd <;> cases hd⟩
  simp only [PyData.weight]
  split
  · omega
  · rename_i h0
    have h0' : k ≠ 0 := by simpa using h0
    have := (Nat.log2_lt h0').mpr (show k < 2 ^ 5 from h)
    show k.log2 + 1 ≤ 5
    omega
theorem fault_okay {n : Nat} {d : D} (h : Fault n d) (hn : n ≤ 10 ^ 6) : OkayE d := by
  rcases h with rfl | rfl | rfl | rfl | ⟨k, hk, rfl⟩
  · exact okayR ⟨40, 0, okNone, by decide, by decide⟩
  · exact okayR ⟨_, _, okTup (okCons (okStr (by decide +kernel) (by decide +kernel)) (okNil (k := 0))), by decide, by decide⟩
  · exact okayR ⟨_, _, okTup (okCons (okStr (by decide +kernel) (by decide +kernel)) (okNil (k := 0))), by decide, by decide⟩
  · exact okayR ⟨_, _, okTup (okCons (okStr (by decide +kernel) (by decide +kernel)) (okNil (k := 0))), by decide, by decide⟩
  · exact okayR ⟨_, _, okTup (okCons (okStr (by decide +kernel) (by decide +kernel)) (okCons (okInt (by omega)) (okNil (k := 0)))), by decide, by decide⟩
theorem pairs_half : ∀ ns : List Int, 2 * (pairsOf ns).length + ns.length ≤ ns.length * ns.length
  | [] => by simp [pairsOf]
  | x :: r => by
    have h := pairs_half r
    have h2 : (lessOf x r).length ≤ r.length := List.length_filter_le _ _
    have e : (pairsOf (x :: r)).length = (lessOf x r).length + (pairsOf r).length := by simp [pairsOf]
    rw [e, List.length_cons]
    have e2 : (r.length + 1) * (r.length + 1) = r.length * r.length + 2 * r.length + 1 := by
      rw [Nat.add_mul, Nat.mul_add]
      omega
    omega
theorem way_half {n : Nat} {row : List Int} {w : List Nat} (h : IsWay n row w) (hl : row.length = n) : 2 * w.length + n ≤ n * n := by
  have h1 := (way_pairs h).length_eq
  rw [wpairs_len] at h1
  have h2 := pairs_half row
  rw [hl] at h2
  omega
theorem okay_word {w : List Nat} {m : Nat} (h : ∀ k ∈ w, k < 1000) (hl : w.length ≤ m) (hm : m ≤ 10000) : OkayE (tupN w) := okayR (okay_of (okN h hl) (by omega) (by decide))

/-- what is judged -/
def Told (d : D) : Prop := Bd 60010 800000 1000 6 d
theorem Told.ok {d : D} (h : Told d) : OkayE d := okayB h (by decide) (by decide) (by decide)
theorem Told.len {d : D} (h : Told d) : ∀ ds, d = .tuple ds → ds.length ≤ 100000 := fun ds e => by
  subst e
  have := h.tupA.1.ln
  omega
theorem bd_mv {m : Mv} {b : Nat} (h : m.1 = "far" ∨ m.1 = "three" ∨ m.1 = "away") (h2 : m.2 < 32) (hb : 60000 ≤ b) : Bd b 12 12 1 (mvD m) := by
  have hs : PyData.strOk m.1 = true ∧ m.1.cps.size ≤ 5 := by rcases h with h | h | h <;> (rw [h]; exact ⟨by decide +kernel, by decide +kernel⟩)
  exact (BdA.tup (b := b) (e := 12) (k := 0) (bda_cons (bd_str hs.1 hs.2) (by decide) (bda_cons (m := 0) (bd_smallN h2 (by omega)) (by decide) bda_nil (by simp; omega)) (by simp; omega))).mono (Nat.le_refl _) (by decide) (by decide) (by decide)
theorem bd_mvs {ms : List Mv} {L : Nat} (h : ∀ m ∈ ms, (m.1 = "far" ∨ m.1 = "three" ∨ m.1 = "away") ∧ m.2 < 32) (hl : ms.length ≤ L) (hL : L ≤ 60000) : Bd 60000 (L * 13) 12 2 (mvsT ms) :=
  BdA.tup (bda_all (c := 12) (k := 1) (fun x hx => by
    obtain ⟨m, hm, rfl⟩ := List.mem_map.mp hx
    exact (bd_mv (h m hm).1 (h m hm).2 (by decide)).mono (Nat.le_refl _) (by decide) (Nat.le_refl _) (Nat.le_refl _)) (by decide) (by rw [List.length_map]; omega) (by rw [List.length_map]; exact hl))
theorem mvs_cut {ms : List Mv} (lo hi : Option Int) : (PyData.tuple (cutD (ms.map mvD) lo hi)) = mvsT ((cutD (ms.map mvD) lo hi).map mvOf) := by
  unfold mvsT
  congr 1
  rw [List.map_map]
  conv => lhs; rw [← List.map_id (cutD (ms.map mvD) lo hi)]
  refine List.map_congr_left fun x hx => ?_
  obtain ⟨m, _, rfl⟩ := List.mem_map.mp ((cut_sub _ _ _).subset hx)
  show mvD m = mvD (mvOf (mvD m))
  rw [(isMv_mk (ws := [m.1]) (m := m) (by simp)).2]
/-- one thing more at the end -/
theorem bd_more {b n e k c : Nat} {ds : List D} {x : D} (A : BdA b n e k ds) (hx : Bd (b + 1) c e k x) (hc : c ≤ e) : Bd (b + 1) (n + c + 1) e (k + 1) (.tuple (ds ++ [x])) := by
  refine BdA.tup ⟨fun z hz => ?_, ?_, ?_, fun z hz => ?_, fun z hz => ?_⟩
  · rcases List.mem_append.mp hz with hz | hz
    · exact okE_up (by omega) z (A.ok z hz)
    · rw [List.mem_singleton.mp hz]; exact hx.ok
  · have := A.ln
    rw [List.length_append]; simp; omega
  · rw [wA_app, wA_one]
    have h1 := A.w
    have h2 := hx.w
    omega
  · rcases List.mem_append.mp hz with hz | hz
    · exact A.dp z hz
    · rw [List.mem_singleton.mp hz]; exact hx.dp
  · rcases List.mem_append.mp hz with hz | hz
    · exact A.el z hz
    · rw [List.mem_singleton.mp hz]; have := hx.w; omega
theorem ev_oneMv {ρ : Rho} (s : Str) (g : DTE) (i : Nat) (h : Ev g ρ (.int i)) : Ev (gTup (gCons (gTup (gCons (gC (.str s)) (gCons g gNil))) gNil)) ρ (mvsT [(s, i)]) := ev_tup (eva_cons (ev_tup (eva_cons ev_c (eva_cons h eva_nil)) (by simp)) eva_nil) (by simp)
/-- some bent ones of a list -/
theorem evs_bents {ρ : Rho} {i j v k : Nat} {own : List D} {b n e d : Nat} (h0 : ∀ x, lk ((wipeR ρ [v]).set v (some (.dat x))) i = some .srcR) (h1 : ∀ x, lk ((wipeR ρ [v]).set v (some (.dat x))) j = some (.dat (.list own))) (hown : ∀ x ∈ own, Bd b n e d x) (hl : 0 < own.length ∧ own.length < 100) (hk : k ≤ 100) (hd : d < 8) (hb : 99 ≤ b) (hb2 : b ≤ 90000) (no : noOwn ρ [v] = true := by rfl) :
    EvS (gLc (giR1 (gC (.int k))) (gdName v) gYes (gCallS sp__law_bent i (gCons (gCallS sp__law_of i (gCons (gVar j) gNil)) gNil)) [v]) ρ (fun y => ∃ vs : List D, y = .list vs ∧ vs.length = k ∧ ∀ x ∈ vs, Bd (b + 2) (n + e + 100) (2 * e + 100) (d + 1) x) := by
  refine EvS.imp (evs_lcN (S := Bd (b + 2) (n + e + 100) (2 * e + 100) (d + 1)) (List.range k) (fun k : Nat => PyData.int k) (evi_rng k ev_c (by omega) (.inl rfl)) (fun x hx => ?_) (by simp; omega) no (by simp)) fun y ⟨ds, e1, e2, e3⟩ => ⟨ds, e1, by simpa using e2, e3⟩
  intro Q q
  refine ⟨h0 _, ?_⟩
  rw [gCons_s]
  refine evs_pickOf (ds := own) (h0 _) (ev_var (h1 _)) (by omega) (by omega) _ fun y hy => ?_
  exact ⟨h0 _, y, b, n, e, d, rfl, hown y hy, hd, hb, hb2, fun d' hd' => q d' hd'⟩
/-- bent twice -/
theorem evs_bent2 {ρ : Rho} {i : Nat} {a : DTE} {x : D} {b n e d : Nat} (h0 : lk ρ i = some .srcR) (ha : Ev a ρ x) (hx : Bd b n e d x) (hd : d < 7) (hb : 99 ≤ b) (hb2 : b ≤ 80000) :
    EvS (gCallS sp__law_bent i (gCons (gCallS sp__law_bent i (gCons a gNil)) gNil)) ρ (Bd (b + 2 + 2) (n + e + 100 + (2 * e + 100) + 100) (2 * (2 * e + 100) + 100) (d + 1 + 1)) := by
  intro Q q
  refine ⟨h0, ?_⟩
  rw [gCons_s]
  refine evs_bent h0 ha hx (by omega) hb (by omega) _ fun y hy => ?_
  exact ⟨h0, y, _, _, _, _, rfl, hy, by omega, by omega, by omega, fun d' hd' => q d' hd'⟩

def T_lawb0b6_1 : DTS := (gIfS (gOr (gTest (gBin neD (gU reprEU (gCall sp_judge_shortening_row (gCons (gVar 3) (gCons (gVar 4) (gCons (gVar 9) gNil))))) (gU reprEU (gCall sp__law_fault (gCons (gVar 3) (gCons (gVar 4) (gCons (gVar 9) gNil))))))) (gTest (gBin neD (gU reprEU (gVar 9)) (gVar 10)))) (gRet (gC (.bool false))) gNext)
def T_lawb0b6 : DTS := gSeq (gSet 10 (gU reprEU (gVar 9))) T_lawb0b6_1
def T_lawb0_7 : DTS := (gIfS (gTest (gBin neD (gU reprEU (gVar 4)) (gVar 5))) (gRet (gC (.bool false))) gNext)
def T_lawb0_6 : DTS := gSeq (gFor (giSeq (gBin catD (gVar 8) (gLst (gCons (gCallS sp__law_bent 1 (gCons (gCallS sp__law_bent 1 (gCons (gVar 6) gNil)) gNil)) gNil)))) (gdName 9) T_lawb0b6) T_lawb0_7
def T_lawb0_5 : DTS := gSeq (gSet 8 (gBin catD (gBin catD (gVar 7) (gLc (giR1 (gC (.int 7))) (gdName 11) gYes (gCallS sp__law_bent 1 (gCons (gCallS sp__law_of 1 (gCons (gVar 7) gNil)) gNil)) [11])) (gLst (gCons (gC .none) (gCons (gTup (gCons (gTup (gCons (gC (.str "far")) (gCons (gU lenU (gVar 4)) gNil))) gNil)) (gCons (gTup (gCons (gTup (gCons (gC (.str "away")) gNil)) gNil)) gNil)))))) T_lawb0_6
def T_lawb0_4 : DTS := gSeq (gSet 7 (gLst (gCons (gVar 6) (gCons (gSl (gVar 6) gNo (gSome (gNeg (gC (.int 1))))) (gCons (gSl (gVar 6) (gSome (gC (.int 1))) gNo) (gCons (gBin addD (gVar 6) (gTup (gCons (gTup (gCons (gC (.str "away")) (gCons (gC (.int 0)) gNil))) gNil))) (gCons (gTup (gCons (gTup (gCons (gC (.str "away")) (gCons (gC (.int 0)) gNil))) gNil)) (gCons (gTup (gCons (gTup (gCons (gC (.str "three")) (gCons (gC (.int 0)) gNil))) gNil)) (gCons (gTup gNil) gNil))))))))) T_lawb0_5
def T_lawb0_3 : DTS := gSeq (gIfS (gOr (gTest (gIsN true (gCall sp__law_fault (gCons (gVar 3) (gCons (gVar 4) (gCons (gVar 6) gNil)))))) (gTest (gBin neD (gU reprEU (gCall sp_shortening_row (gCons (gVar 3) (gCons (gVar 4) gNil)))) (gU reprEU (gVar 6))))) (gRet (gC (.bool false))) gNext) T_lawb0_4
def T_lawb0_2 : DTS := gSeq (gPar2 5 6 (gcDat (gU reprEU (gVar 4)) (gcDat (gCall sp_shortening_row (gCons (gVar 3) (gCons (gVar 4) gNil))) gcNil))) T_lawb0_3
def T_lawb0_1 : DTS := gSeq (gSet 4 (gCallS sp__law_drawn_word 1 (gCons (gVar 3) (gCons (gBin ixD (gLst (gCons (gC (.int 12)) (gCons (gC (.int 16)) (gCons (gC (.int 30)) (gCons (gC (.int 20)) gNil))))) (gVar 2)) gNil)))) T_lawb0_2
def T_lawb0 : DTS := gSeq (gSet 3 (gBin addD (gC (.int 1)) (gCallS sp__law_pick 1 (gCons (gBin ixD (gLst (gCons (gC (.int 3)) (gCons (gC (.int 5)) (gCons (gC (.int 12)) (gCons (gC (.int 7)) gNil))))) (gVar 2)) gNil)))) T_lawb0_1
def T_law_1 : DTS := (gRet (gBin eqD (gU reprEU (gLst (gCons (gCall sp_shortening_row (gCons (gC (.int 1)) (gCons (gTup gNil) gNil))) (gCons (gCall sp_judge_shortening_row (gCons (gC (.int 3)) (gCons (gTup (gCons (gC (.int 0)) (gCons (gC (.int 0)) gNil))) (gCons (gTup (gCons (gTup (gCons (gC (.str "away")) (gCons (gC (.int 0)) gNil))) gNil)) gNil)))) gNil)))) (gU reprEU (gLst (gCons (gTup gNil) (gCons (gC .none) gNil))))))
def T_law : DTS := gSeq (gFor (giR1 (gC (.int 4))) (gdName 2) T_lawb0) T_law_1
abbrev N_law : List Str := ["script", "source", "lap", "n", "word", "kept", "told", "own", "values", "value", "shown", "turn"]
def Turn (d0 : D) (ρ : Rho) : Prop := ∃ o2 o3 o4 o5 o6 o7 o8 o9 o10 : Option Cl, ρ = [some (.dat d0), some .srcR, o2, o3, o4, o5, o6, o7, o8, o9, o10, none]
section
variable {d0 : D} {G : DEnds} (hnx : ∀ ρ, Turn d0 ρ → G.nx ρ)
include hnx
theorem turn2 {n : Nat} {w : List Nat} {o2 o5 o6 o7 o8 o9 o10 : Option Cl} (hn : n ≤ 12) (hw : WordOk n w) (hl : w.length ≤ 30) :
    T_lawb0_2 G [some (.dat d0), some .srcR, o2, some (.dat (.int n)), some (.dat (tupN w)), o5, o6, o7, o8, o9, o10, none] := by
  have okK : OkayE (tupN w) := okayR (okay_of (okN (m := 32) (fun k hk => by have := hw k hk; omega) (by omega)) (by decide) (by decide))
  have R := shrow_ok hw (Nat.le_refl _) hl
  have big : ssum 30 ≤ 57000 := by decide
  have sz : (shrow w.length n w).length ≤ 57320 := Nat.le_trans R.size (Nat.le_trans (ssum_mono hl) (Nat.le_trans big (by decide)))
  obtain ⟨w', go, hs⟩ := R.go
  have nm := R.nm
  have none1 : judgeS n w (mvsT (shrow w.length n w)) = .none := judgeS_none go hs fun m hm => (nm m hm).1
  have eM : ∀ {ρ : Rho}, lk ρ 3 = some (.dat (.int n)) → lk ρ 4 = some (.dat (tupN w)) → Ev (gCall sp_shortening_row (gCons (gVar 3) (gCons (gVar 4) gNil))) ρ (mvsT (shrow w.length n w)) := fun h3 h4 => ev_shortening_row (eva_cons (ev_var h3) (eva_cons (ev_var h4) eva_nil)) (by omega) hw hl
  have bdT : Bd 60000 745160 12 2 (mvsT (shrow w.length n w)) := (bd_mvs (L := 57320) (fun m hm => ⟨(nm m hm).1, by have := (nm m hm).2; omega⟩) sz (by decide)).mono (Nat.le_refl _) (by decide) (Nat.le_refl _) (Nat.le_refl _)
  generalize shrow w.length n w = told at *
  have okT : OkayE (mvsT told) := okayB bdT (by decide) (by decide) (by decide)
  have lT : ∀ ds, mvsT told = .tuple ds → ds.length ≤ 100000 := fun ds e => by cases e; rw [List.length_map]; omega
  unfold T_lawb0_2
  apply st_seq
  refine st_par2 (evc_dat (ev_u (ev_var rfl) (u_reprX okK)) (evc_dat (eM rfl rfl) evc_nil)) ?_
  walk_at "nx"
  show T_lawb0_3 _ _
  unfold T_lawb0_3
  apply st_seq
  refine st_ifF (evt_orF (evt_to (evt_test (ev_isN (ev_to (ev__law_fault (n := n) (w := w) (d := mvsT told) (eva_cons (ev_var rfl) (eva_cons (ev_var rfl) (eva_cons (ev_var rfl) eva_nil))) (by omega) hw (by omega) lT) none1))) rfl) (evt_neReprE _ okT (eM rfl rfl) (ev_var rfl))) ?_
  show T_lawb0_4 _ _
  unfold T_lawb0_4
  apply st_seq
  refine st_set (d := .list [mvsT told, .tuple (cutD (told.map mvD) none (some (-1))), .tuple (cutD (told.map mvD) (some 1) none), .tuple (told.map mvD ++ [mvD (("away" : Str), 0)]), mvsT [(("away" : Str), 0)], mvsT [(("three" : Str), 0)], mvsT []])
    (ev_lst (eva_cons (ev_var rfl) (eva_cons (ev_sl (ev_var rfl) evo_no (evo_some (ev_neg ev_c)) Cut.t) (eva_cons (ev_sl (ev_var rfl) (evo_some ev_c) evo_no Cut.t) (eva_cons (ev_bin (ev_var rfl) (ev_oneMv "away" _ 0 ev_c) (op_addT (by rw [List.length_map]; simp; omega))) (eva_cons (ev_oneMv "away" _ 0 ev_c) (eva_cons (ev_oneMv "three" _ 0 ev_c) (eva_cons (ev_tup eva_nil (by simp)) eva_nil))))))) (by simp)) ?_
  walk_at "nx"
  generalize hown : ([mvsT told, .tuple (cutD (told.map mvD) none (some (-1))), .tuple (cutD (told.map mvD) (some 1) none), .tuple (told.map mvD ++ [mvD (("away" : Str), 0)]), mvsT [(("away" : Str), 0)], mvsT [(("three" : Str), 0)], mvsT []] : List D) = own
  have A := bdT.tupA.1
  have small : ∀ {ms : List Mv}, (∀ m ∈ ms, (m.1 = "far" ∨ m.1 = "three" ∨ m.1 = "away") ∧ m.2 < 32) → ms.length ≤ 5 → Bd 60001 745180 13 2 (mvsT ms) := fun h hl => (bd_mvs (L := 5) h hl (by decide)).mono (by decide) (by decide) (by decide) (by decide)
  have ownB : ∀ x ∈ own, Bd 60001 745180 13 2 x := by
    intro x hx
    rw [← hown] at hx
    simp only [List.mem_cons, List.not_mem_nil, or_false] at hx
    rcases hx with rfl | rfl | rfl | rfl | rfl | rfl | rfl
    · exact bdT.mono (by decide) (by decide) (by decide) (by decide)
    · exact (A.sub (cut_sub _ _ _)).tup.mono (by decide) (by decide) (by decide) (by decide)
    · exact (A.sub (cut_sub _ _ _)).tup.mono (by decide) (by decide) (by decide) (by decide)
    · exact (bd_more A (bd_mv (m := (("away" : Str), 0)) (.inr (.inr rfl)) (by decide) (by decide)) (Nat.le_refl _)).mono (by decide) (by decide) (by decide) (by decide)
    · exact small (by simp) (by simp)
    · exact small (by simp) (by simp)
    · exact small (by simp) (by simp)
  have ownL : own.length = 7 := by rw [← hown]; rfl
  show T_lawb0_5 _ _
  unfold T_lawb0_5
  apply st_seq
  have told1 : ∀ {x}, Bd 60001 745180 13 2 x → Told x := fun h => h.mono (by decide) (by decide) (by decide) (by decide)
  refine sts_set (S := fun x => ∃ vs : List D, x = .list vs ∧ vs.length ≤ 100 ∧ ∀ v ∈ vs, Told v) ?_ ?_
  · refine evs_bin (S := fun x => ∃ vs : List D, x = .list vs ∧ vs.length ≤ 50 ∧ ∀ v ∈ vs, Told v) (T := fun _ y => y = .list [.none, mvsT [(("far" : Str), w.length)], .tuple [.tuple [.str "away"]]]) ?_ (fun _ _ => evs_of (ev_lst (eva_cons ev_c (eva_cons (ev_oneMv "far" _ w.length (ev_u (ev_var rfl) u_lenTm)) (eva_cons (ev_tup (eva_cons (ev_tup (eva_cons ev_c eva_nil) (by simp)) eva_nil) (by simp)) eva_nil))) (by simp))) fun x y hx hy => ?_
    · refine evs_bin (S := (· = .list own)) (T := fun _ y => ∃ vs : List D, y = .list vs ∧ vs.length = 7 ∧ ∀ v ∈ vs, Bd (60001 + 2) (745180 + 13 + 100) (2 * 13 + 100) (2 + 1) v) (evs_of (ev_var rfl)) (fun _ _ => evs_bents (fun _ => rfl) (fun _ => rfl) ownB (by omega) (by decide) (by decide) (by decide) (by decide)) fun x y hx hy => ?_
      obtain ⟨vs, rfl, h1, h2⟩ := hy
      subst hx
      refine ⟨_, op_cat (by omega), own ++ vs, rfl, by rw [List.length_append]; omega, fun v hv => ?_⟩
      rcases List.mem_append.mp hv with hv | hv
      · exact told1 (ownB v hv)
      · exact (h2 v hv).mono (by decide) (by decide) (by decide) (by decide)
    · obtain ⟨vs, rfl, h1, h2⟩ := hx
      subst hy
      refine ⟨_, op_cat (by simp; omega), _, rfl, by rw [List.length_append]; simp; omega, fun v hv => ?_⟩
      rcases List.mem_append.mp hv with hv | hv
      · exact h2 v hv
      · simp only [List.mem_cons, List.not_mem_nil, or_false] at hv
        rcases hv with rfl | rfl | rfl
        · exact ⟨rfl, by decide +kernel, by decide +kernel, fun ds hd => by rcases hd with hd | hd <;> cases hd⟩
        · exact told1 (small (by simp; omega) (by simp))
        · exact (BdA.tup (bda_cons ((BdA.tup (bda_cons (bd_str (n := 4) (e := 12) (k := 0) (by decide +kernel) (by decide +kernel)) (by decide) (bda_nil (n := 0)) (by simp))).mono (n' := 12) (Nat.le_refl _) (by decide) (Nat.le_refl _) (Nat.le_refl _)) (Nat.le_refl _) (bda_nil (n := 0)) (by simp))).mono (Nat.le_refl _) (by decide) (by decide) (by decide)
  rintro _ ⟨vals, rfl, lv, hvals⟩
  walk_at "nx"
  show T_lawb0_6 _ _
  unfold T_lawb0_6
  apply st_seq
  have walk : ∀ vs : List D, vs.length ≤ 200 → (∀ v ∈ vs, Told v) → ∀ {gi : DTI}, (∀ P : List D → Rho → Prop, P vs [some (.dat d0), some .srcR, o2, some (.dat (.int n)), some (.dat (tupN w)), some (.dat (.str (tupN w).shown)), some (.dat (mvsT told)), some (.dat (.list own)), some (.dat (.list vals)), o9, o10, none] →
      gi [some (.dat d0), some .srcR, o2, some (.dat (.int n)), some (.dat (tupN w)), some (.dat (.str (tupN w).shown)), some (.dat (mvsT told)), some (.dat (.list own)), some (.dat (.list vals)), o9, o10, none] P) →
      gFor gi (gdName 9) T_lawb0b6 { nx := T_lawb0_7 G, rt := G.rt, bk := G.bk, ct := G.ct } [some (.dat d0), some .srcR, o2, some (.dat (.int n)), some (.dat (tupN w)), some (.dat (.str (tupN w).shown)), some (.dat (mvsT told)), some (.dat (.list own)), some (.dat (.list vals)), o9, o10, none] := by
    intro vs hlv hvs gi hgi
    refine st_for vs id (fun i ρ => ∃ o9 o10 : Option Cl, ρ = [some (.dat d0), some .srcR, o2, some (.dat (.int n)), some (.dat (tupN w)), some (.dat (.str (tupN w).shown)), some (.dat (mvsT told)), some (.dat (.list own)), some (.dat (.list vals)), o9, o10, none])
      (fun P h => hgi P (by rw [List.map_id] at h; exact h)) ⟨_, _, rfl⟩ (fun i x ρ2 hx hJ => ?_) (fun ρ2 hJ => ?_)
    · obtain ⟨o9, o10, rfl⟩ := hJ
      have tx := hvs x (List.mem_of_getElem? hx)
      show gdName 9 x _ _
      rw [gdName_s]
      walk_at "nx"
      unfold T_lawb0b6
      apply st_seq
      refine st_set (ev_u (ev_var rfl) (u_reprX tx.ok)) ?_
      walk_at "nx"
      show T_lawb0b6_1 _ _
      unfold T_lawb0b6_1
      refine st_ifF (evt_orF (evt_neReprE (judgeS n w x) (fault_okay (judgeS_ok (m := 100000) tx.len) (by decide)) (ev_judge_shortening_row (n := n) (w := w) (d := x) (eva_cons (ev_var rfl) (eva_cons (ev_var rfl) (eva_cons (ev_var rfl) eva_nil))) (by omega) hw (by omega) tx.len)
        (ev__law_fault (n := n) (w := w) (d := x) (eva_cons (ev_var rfl) (eva_cons (ev_var rfl) (eva_cons (ev_var rfl) eva_nil))) (by omega) hw (by omega) tx.len)) (evt_neKeptE x tx.ok (ev_var rfl) (ev_var rfl))) ?_
      exact ⟨_, _, rfl⟩
    · obtain ⟨o9, o10, rfl⟩ := hJ
      show T_lawb0_7 _ _
      unfold T_lawb0_7
      refine st_ifF (evt_neKeptE _ okK (ev_var rfl) (ev_var rfl)) ?_
      exact hnx _ ⟨_, _, _, _, _, _, _, _, _, rfl⟩
  have more : EvS (gBin catD (gVar 8) (gLst (gCons (gCallS sp__law_bent 1 (gCons (gCallS sp__law_bent 1 (gCons (gVar 6) gNil)) gNil)) gNil))) [some (.dat d0), some .srcR, o2, some (.dat (.int n)), some (.dat (tupN w)), some (.dat (.str (tupN w).shown)), some (.dat (mvsT told)), some (.dat (.list own)), some (.dat (.list vals)), o9, o10, none]
      (fun x => ∃ vs : List D, x = .list vs ∧ vs.length ≤ 200 ∧ ∀ v ∈ vs, Told v) := by
    refine evs_bin (S := (· = .list vals)) (T := fun _ y => ∃ v, y = .list [v] ∧ Told v) (evs_of (ev_var rfl)) (fun _ _ => evs_lst (evsa_one (S := Told) ((evs_bent2 rfl (ev_var rfl) bdT (by decide) (by decide) (by decide)).imp fun x hx => hx.mono (by decide) (by decide) (by decide) (by decide))) fun ds ⟨v, e1, h⟩ => ⟨by rw [e1]; simp, v, by rw [e1], h⟩) fun x y hx hy => ?_
    obtain ⟨v, rfl, h⟩ := hy
    subst hx
    refine ⟨_, op_cat (by simp; omega), vals ++ [v], rfl, by rw [List.length_append]; simp; omega, fun z hz => ?_⟩
    rcases List.mem_append.mp hz with hz | hz
    · exact hvals z hz
    · rw [List.mem_singleton.mp hz]; exact h
  unfold gFor giSeq
  refine more _ fun x hx => ?_
  obtain ⟨vs, rfl, l1, h1⟩ := hx
  exact walk vs l1 h1 (gi := fun ρ P => P vs ρ) (fun P h => h)
theorem turn0 {i : Nat} (hi : i < 4) {ρ : Rho} (h : Turn d0 (ρ.set 2 none)) : T_lawb0 G ((ρ.set 2 none).set 2 (some (.dat (.int i)))) := by
  obtain ⟨o2, o3, o4, o5, o6, o7, o8, o9, o10, e⟩ := h
  rw [e]
  have at4 : ∃ m c : Nat, atI [PyData.int 3, .int 5, .int 12, .int 7] (i : Int) = some (.int (m : Int)) ∧ atI [PyData.int 12, .int 16, .int 30, .int 20] (i : Int) = some (.int (c : Int)) ∧ 1 ≤ m ∧ m ≤ 12 ∧ 2 ≤ c ∧ c ≤ 30 := by
    match i, hi with
    | 0, _ => exact ⟨3, 12, rfl, rfl, by decide, by decide, by decide, by decide⟩
    | 1, _ => exact ⟨5, 16, rfl, rfl, by decide, by decide, by decide, by decide⟩
    | 2, _ => exact ⟨12, 30, rfl, rfl, by decide, by decide, by decide, by decide⟩
    | 3, _ => exact ⟨7, 20, rfl, rfl, by decide, by decide, by decide, by decide⟩
  obtain ⟨m, c, hm, hc, m1, m2, c1, c2⟩ := at4
  walk_at "nx"
  unfold T_lawb0
  apply st_seq
  refine sts_set (S := fun d => ∃ n : Nat, 1 ≤ n ∧ n ≤ 12 ∧ d = .int n) (evs_bin (S := (· = .int 1)) (T := fun _ d => ∃ r : Nat, r < m ∧ d = .int r) (evs_of ev_c) (fun _ _ => evs_pick rfl (ev_bin (ev_lst (eva_cons ev_c (eva_cons ev_c (eva_cons ev_c (eva_cons ev_c eva_nil)))) (by simp)) (ev_var rfl) (op_ixL hm)) (by omega) (by omega)) fun x y hx hy => ?_) ?_
  · obtain ⟨r, hr, rfl⟩ := hy
    subst hx
    exact ⟨_, op_add, 1 + r, by omega, by omega, by congr 1⟩
  rintro _ ⟨n, n1, n2, rfl⟩
  walk_at "nx"
  show T_lawb0_1 _ _
  unfold T_lawb0_1
  apply st_seq
  refine sts_set (S := fun d => ∃ w : List Nat, WordOk n w ∧ w.length ≤ c ∧ d = tupN w) (evs_callS rfl (evsa_of (eva_cons (ev_var rfl) (eva_cons (ev_bin (ev_lst (eva_cons ev_c (eva_cons ev_c (eva_cons ev_c (eva_cons ev_c eva_nil)))) (by simp)) (ev_var rfl) (op_ixL hc)) eva_nil))) fun ds e Q q => ⟨n, c, e, n1, by omega, c1, by omega, fun ws h1 h2 => q _ ⟨ws, h1, h2, rfl⟩⟩) ?_
  rintro _ ⟨w, hw, hl, rfl⟩
  walk_at "nx"
  exact turn2 hnx n2 hw (by omega)
end
theorem w_law (d0 : D) : T_law { nx := fun _ => False, rt := fun d _ => d = .bool true } ((startR N_law [.dat d0]).set 1 (some .srcR)) := by
  unfold T_law
  apply st_seq
  refine st_for (List.range 4) (fun k : Nat => PyData.int k) (fun i ρ => Turn d0 (ρ.set 2 none)) ?_ ?_ (fun i k ρ2 hk hJ => ?_) (fun ρ2 hJ => ?_)
  · exact evi_rng 4 ev_c (by decide) (.inl rfl)
  · exact ⟨_, _, _, _, _, _, _, _, _, rfl⟩
  · have hi : k < 4 := List.mem_range.mp (List.mem_of_getElem? hk)
    rw [gdName_s, show ρ2.set 2 (some (Cl.dat (PyData.int k))) = (ρ2.set 2 none).set 2 (some (Cl.dat (PyData.int k))) by rw [List.set_set]]
    refine turn0 (d0 := d0) (fun ρ h => ?_) hi hJ
    obtain ⟨o2, o3, o4, o5, o6, o7, o8, o9, o10, e⟩ := h
    show Turn d0 (ρ.set 2 none)
    rw [e]
    exact ⟨_, _, _, _, _, _, _, _, _, rfl⟩
  · show T_law_1 _ _
    unfold T_law_1
    have e1 : judgeS 3 [0, 0] (mvsT [(("away" : Str), 0)]) = .none := judgeS_none (w' := []) (by decide) (by decide) (by simp)
    have e2 : mvsT (shrow ([] : List Nat).length 1 []) = .tuple [] := rfl
    have zz : Ev (gTup (gCons (gC (.int 0)) (gCons (gC (.int 0)) gNil))) ρ2 (tupN [0, 0]) := ev_tup (eva_cons ev_c (eva_cons ev_c eva_nil)) (by simp)
    refine st_ret (d := .bool true) (ev_eqReprE (.list [.tuple [], .none]) ?_ ?_ ?_) rfl
    · exact okayR ⟨_, _, okLst (okCons (okTup (okNil (k := 0))) (okCons okNone (okNil (k := 0)))), by decide, by decide⟩
    · exact ev_lst (eva_cons (ev_to (ev_shortening_row (n := 1) (w := []) (eva_cons ev_c (eva_cons (ev_tup eva_nil (by simp)) eva_nil)) (by decide) (by simp [WordOk]) (by decide)) e2) (eva_cons (ev_to (ev_judge_shortening_row (n := 3) (w := [0, 0]) (d := mvsT [(("away" : Str), 0)]) (eva_cons ev_c (eva_cons zz (eva_cons (ev_oneMv "away" _ 0 ev_c) eva_nil))) (by decide) (by simp [WordOk]) (by decide) (fun ds e => by cases e; simp)) e1) eva_nil)) (by simp)
    · exact ev_lst (eva_cons (ev_tup eva_nil (by simp)) (eva_cons ev_c eva_nil)) (by simp)

def topS (i : Nat) : Stmt := PySem.Challenge.pw_goodwebs_k74_whole_words_shortened.main.body.getD i (.Pass ⟨0, 0, 0, 0⟩)
abbrev s_plain : Stmt := topS 1
theorem sc_plain : FnScope N_plain ["n"] (defScope s_plain) := ⟨rfl, rfl, rfl, by decide +kernel, rfl, by decide +kernel, by decide +kernel⟩
abbrev s_exchanged : Stmt := topS 2
theorem sc_exchanged : FnScope N_exchanged ["row", "i", "j"] (defScope s_exchanged) := ⟨rfl, rfl, rfl, by decide +kernel, rfl, by decide +kernel, by decide +kernel⟩
abbrev s_swapped : Stmt := topS 3
theorem sc_swapped : FnScope N_swapped ["row", "k"] (defScope s_swapped) := ⟨rfl, rfl, rfl, by decide +kernel, rfl, by decide +kernel, by decide +kernel⟩
abbrev s_led : Stmt := topS 4
theorem sc_led : FnScope N_led ["row", "word"] (defScope s_led) := ⟨rfl, rfl, rfl, by decide +kernel, rfl, by decide +kernel, by decide +kernel⟩
abbrev s_row_of : Stmt := topS 5
theorem sc_row_of : FnScope N_row_of ["n", "word"] (defScope s_row_of) := ⟨rfl, rfl, rfl, by decide +kernel, rfl, by decide +kernel, by decide +kernel⟩
abbrev s_row_length : Stmt := topS 6
theorem sc_row_length : FnScope N_row_length ["row"] (defScope s_row_length) := ⟨rfl, rfl, rfl, by decide +kernel, rfl, by decide +kernel, by decide +kernel⟩
abbrev s_code_of : Stmt := topS 7
theorem sc_code_of : FnScope N_code_of ["row"] (defScope s_code_of) := ⟨rfl, rfl, rfl, by decide +kernel, rfl, by decide +kernel, by decide +kernel⟩
abbrev s_is_shortest : Stmt := topS 9
theorem sc_is_shortest : FnScope N_is_shortest ["n", "word"] (defScope s_is_shortest) := ⟨rfl, rfl, rfl, by decide +kernel, rfl, by decide +kernel, by decide +kernel⟩
abbrev s_is_integer : Stmt := topS 10
theorem sc_is_integer : FnScope N_is_integer ["value"] (defScope s_is_integer) := ⟨rfl, rfl, rfl, by decide +kernel, rfl, by decide +kernel, by decide +kernel⟩
abbrev s_is_worded : Stmt := topS 11
theorem sc_is_worded : FnScope N_is_worded ["value", "words", "many"] (defScope s_is_worded) := ⟨rfl, rfl, rfl, by decide +kernel, rfl, by decide +kernel, by decide +kernel⟩
abbrev s_moved_or_none : Stmt := topS 14
theorem sc_moved_or_none : FnScope N_moved_or_none ["word", "move"] (defScope s_moved_or_none) := ⟨rfl, rfl, rfl, by decide +kernel, rfl, by decide +kernel, by decide +kernel⟩
abbrev s_with_last : Stmt := topS 15
theorem sc_with_last : FnScope N_with_last ["row_way", "k"] (defScope s_with_last) := ⟨rfl, rfl, rfl, by decide +kernel, rfl, by decide +kernel, by decide +kernel⟩
abbrev s_is_move : Stmt := topS 16
theorem sc_is_move : FnScope N_is_move ["value", "words"] (defScope s_is_move) := ⟨rfl, rfl, rfl, by decide +kernel, rfl, by decide +kernel, by decide +kernel⟩
abbrev s_row_fault : Stmt := topS 17
theorem sc_row_fault : FnScope N_row_fault ["word", "value", "words"] (defScope s_row_fault) := ⟨rfl, rfl, rfl, by decide +kernel, rfl, by decide +kernel, by decide +kernel⟩
abbrev s_shortening_row : Stmt := topS 18
theorem sc_shortening_row : FnScope N_shortening_row ["n", "word"] (defScope s_shortening_row) := ⟨rfl, rfl, rfl, by decide +kernel, rfl, by decide +kernel, by decide +kernel⟩
abbrev s_judge_shortening_row : Stmt := topS 19
theorem sc_judge_shortening_row : FnScope N_judge_shortening_row ["n", "word", "value"] (defScope s_judge_shortening_row) := ⟨rfl, rfl, rfl, by decide +kernel, rfl, by decide +kernel, by decide +kernel⟩
abbrev s__law_source : Stmt := topS 21
theorem sc__law_source : FnScope N__law_source ["script"] (defScope s__law_source) := ⟨rfl, rfl, rfl, by decide +kernel, rfl, by decide +kernel, by decide +kernel⟩
abbrev s__law_pick : Stmt := topS 22
theorem sc__law_pick : FnScope N__law_pick ["source", "many"] (defScope s__law_pick) := ⟨rfl, rfl, rfl, by decide +kernel, rfl, by decide +kernel, by decide +kernel⟩
abbrev s__law_of : Stmt := topS 23
theorem sc__law_of : FnScope N__law_of ["source", "some"] (defScope s__law_of) := ⟨rfl, rfl, rfl, by decide +kernel, rfl, by decide +kernel, by decide +kernel⟩
abbrev s__law_mixed : Stmt := topS 24
theorem sc__law_mixed : FnScope N__law_mixed ["source", "things"] (defScope s__law_mixed) := ⟨rfl, rfl, rfl, by decide +kernel, rfl, by decide +kernel, by decide +kernel⟩
abbrev s__law_row : Stmt := topS 25
theorem sc__law_row : FnScope N__law_row ["source", "n"] (defScope s__law_row) := ⟨rfl, rfl, rfl, by decide +kernel, rfl, by decide +kernel, by decide +kernel⟩
abbrev s__law_swapped : Stmt := topS 26
theorem sc__law_swapped : FnScope N__law_swapped ["row", "k"] (defScope s__law_swapped) := ⟨rfl, rfl, rfl, by decide +kernel, rfl, by decide +kernel, by decide +kernel⟩
abbrev s__law_led : Stmt := topS 27
theorem sc__law_led : FnScope N__law_led ["row", "word"] (defScope s__law_led) := ⟨rfl, rfl, rfl, by decide +kernel, rfl, by decide +kernel, by decide +kernel⟩
abbrev s__law_drops : Stmt := topS 28
theorem sc__law_drops : FnScope N__law_drops ["row"] (defScope s__law_drops) := ⟨rfl, rfl, rfl, by decide +kernel, rfl, by decide +kernel, by decide +kernel⟩
abbrev s__law_lot : Stmt := topS 29
theorem sc__law_lot : FnScope N__law_lot ["row"] (defScope s__law_lot) := ⟨rfl, rfl, rfl, by decide +kernel, rfl, by decide +kernel, by decide +kernel⟩
abbrev s__law_number : Stmt := topS 30
theorem sc__law_number : FnScope N__law_number ["value"] (defScope s__law_number) := ⟨rfl, rfl, rfl, by decide +kernel, rfl, by decide +kernel, by decide +kernel⟩
abbrev s__law_way : Stmt := topS 31
theorem sc__law_way : FnScope N__law_way ["source", "row"] (defScope s__law_way) := ⟨rfl, rfl, rfl, by decide +kernel, rfl, by decide +kernel, by decide +kernel⟩
abbrev s__law_drawn_word : Stmt := topS 32
theorem sc__law_drawn_word : FnScope N__law_drawn_word ["source", "n", "most"] (defScope s__law_drawn_word) := ⟨rfl, rfl, rfl, by decide +kernel, rfl, by decide +kernel, by decide +kernel⟩
abbrev s__law_moved : Stmt := topS 33
theorem sc__law_moved : FnScope N__law_moved ["word", "move"] (defScope s__law_moved) := ⟨rfl, rfl, rfl, by decide +kernel, rfl, by decide +kernel, by decide +kernel⟩
abbrev s__law_is_move : Stmt := topS 34
theorem sc__law_is_move : FnScope N__law_is_move ["value", "words"] (defScope s__law_is_move) := ⟨rfl, rfl, rfl, by decide +kernel, rfl, by decide +kernel, by decide +kernel⟩
abbrev s__law_moves_fault : Stmt := topS 35
theorem sc__law_moves_fault : FnScope N__law_moves_fault ["word", "value", "words"] (defScope s__law_moves_fault) := ⟨rfl, rfl, rfl, by decide +kernel, rfl, by decide +kernel, by decide +kernel⟩
abbrev s__law_bent : Stmt := topS 36
theorem sc__law_bent : FnScope N__law_bent ["source", "value"] (defScope s__law_bent) := ⟨rfl, rfl, rfl, by decide +kernel, rfl, by decide +kernel, by decide +kernel⟩
abbrev s__law_fault : Stmt := topS 37
theorem sc__law_fault : FnScope N__law_fault ["n", "word", "value"] (defScope s__law_fault) := ⟨rfl, rfl, rfl, by decide +kernel, rfl, by decide +kernel, by decide +kernel⟩
abbrev s_law : Stmt := topS 38
theorem sc_law : FnScope N_law ["script"] (defScope s_law) := ⟨rfl, rfl, rfl, by decide +kernel, rfl, by decide +kernel, by decide +kernel⟩
section
variable {P : Program} {wo : World} {K : PySem.W.Frag} {mg : Str → Option Value} {base : Heap}
variable (m_abs : mg "abs" = none) (m_all : mg "all" = none) (m_bool : mg "bool" = none) (m_enumerate : mg "enumerate" = none) (m_int : mg "int" = none) (m_isinstance : mg "isinstance" = none) (m_len : mg "len" = none) (m_list : mg "list" = none) (m_max : mg "max" = none) (m_range : mg "range" = none) (m_repr : mg "repr" = none) (m_sorted : mg "sorted" = none) (m_str : mg "str" = none) (m_sum : mg "sum" = none) (m_tuple : mg "tuple" = none)
variable (hc_WORDS : ∃ a, mg "WORDS" = some (.ref a) ∧ KTup K a ((["far", "three"] : List Str).map V.str))
variable (hsm : SM base)
include m_abs m_all m_bool m_enumerate m_int m_isinstance m_len m_list m_max m_range m_repr m_sorted m_str m_sum m_tuple hc_WORDS hsm
theorem ok_plain (d : DefAt K mg "plain" s_plain ["n"]) (k : Nat) : CalG P wo K mg base (k + 1) "plain" ["n"] (spP K sp_plain) :=
  have nd := sc_plain.nd
  calP (T := T_plain) (sp := sp_plain) d sc_plain rfl (fun f cdv A outer s H E hr => (done1 (dret (dtupRg rfl (by rfl) m_tuple (drg1 (by rfl) m_range (dvar 0)))))) w_plain
theorem ok_exchanged (d : DefAt K mg "exchanged" s_exchanged ["row", "i", "j"]) (k : Nat) : CalG P wo K mg base (k + 1) "exchanged" ["row", "i", "j"] (spP K sp_exchanged) :=
  have nd := sc_exchanged.nd
  calP (T := T_exchanged) (sp := sp_exchanged) d sc_exchanged rfl (fun f cdv A outer s H E hr => (dcons (dsetO 3 nd (dcallTyF clst (by rfl) m_list rfl (DE.q (dvar 0))))
      (dcons (dasg (dtup (dacons (dixO 3 ixSeq (DE.q (dvar 2))) (dacons (dixO 3 ixSeq (DE.q (dvar 1))) danil))) (dgtup rfl (dgcons (dgsub 3 (dvar 1)) (dgcons (dgsub 3 (dvar 2)) dgnil))))
      (done1 (dret (dcallTy ctup (by rfl) m_tuple rfl (down 3))))))) w_exchanged
theorem ok_swapped (d : DefAt K mg "swapped" s_swapped ["row", "k"]) (c_exchanged : ∀ k, CalG P wo K mg base (k + 1) "exchanged" ["row", "i", "j"] (spP K sp_exchanged)) (k : Nat) : CalG P wo K mg base (k + 2) "swapped" ["row", "k"] (spP K sp_swapped) :=
  have nd := sc_swapped.nd
  calP (T := T_swapped) (sp := sp_swapped) d sc_swapped rfl (fun f cdv A outer s H E hr => (done1 (dret (dcallC (c_exchanged k) hr (dacons (dvar 0) (dacons (dvar 1) (dacons (dbin oadd (dvar 1) (DE.q dint)) danil))))))) w_swapped
theorem ok_led (d : DefAt K mg "led" s_led ["row", "word"]) (c_swapped : ∀ k, CalG P wo K mg base (k + 2) "swapped" ["row", "k"] (spP K sp_swapped)) (k : Nat) : CalG P wo K mg base (k + 3) "led" ["row", "word"] (spP K sp_led) :=
  have nd := sc_led.nd
  calP (T := T_led) (sp := sp_led) d sc_led rfl (fun f cdv A outer s H E hr => (dcons (dfor PassesOwn.never rfl (diseq (dvar 1)) (dgname 2 nd) (done1 (dset 0 nd (dcallC (c_swapped k) hr (dacons (dvar 0) (dacons (dvar 2) danil))))))
      (done1 (dret (dvar 0))))) w_led
theorem ok_row_of (d : DefAt K mg "row_of" s_row_of ["n", "word"]) (c_led : ∀ k, CalG P wo K mg base (k + 3) "led" ["row", "word"] (spP K sp_led)) (c_plain : ∀ k, CalG P wo K mg base (k + 1) "plain" ["n"] (spP K sp_plain)) (k : Nat) : CalG P wo K mg base (k + 4) "row_of" ["n", "word"] (spP K sp_row_of) :=
  have nd := sc_row_of.nd
  calP (T := T_row_of) (sp := sp_row_of) d sc_row_of rfl (fun f cdv A outer s H E hr => (done1 (dret (dcallC (c_led k) hr (dacons (dcallC (c_plain (k + 2)) hr (dacons (dvar 0) danil)) (dacons (dvar 1) danil)))))) w_row_of
theorem ok_code_of (d : DefAt K mg "code_of" s_code_of ["row"]) (k : Nat) : CalG P wo K mg base (k + 1) "code_of" ["row"] (spP K sp_code_of) :=
  have nd := sc_code_of.nd
  calP (T := T_code_of) (sp := sp_code_of) d sc_code_of rfl (fun f cdv A outer s H E hr => (done1 (dret (dcallTy ctup (by rfl) m_tuple rfl (DF.q (dlc (own := [("k", 2), ("ahead", 3)]) rfl nd (dienum (by rfl) m_enumerate (dvar 0)) (by dsimp only [cxOf, Cx.blk, Cx.nox, Cx.wish, compEnvC, envOfC, relabel_eq]; exact blkOk_by (by decide +kernel)) (fun _ _ _ _ _ => (dgtup rfl (dgcons (dgname 2 nd) (dgcons (dgname 3 nd) dgnil)))) (fun _ _ _ _ _ => dtsnil) (fun _ _ _ _ _ => (dcallB clen (by rfl) m_len rfl (DF.q (dlc (own := [("late", 1)]) rfl nd (diseq (dsl (dvar 0) (dsome (dbin oadd (dvar 2) (DE.q dint))) dno)) (by dsimp only [cxOf, Cx.blk, Cx.nox, Cx.wish, compEnvC, envOfC, relabel_eq]; exact blkOk_by (by decide +kernel)) (fun _ _ _ _ _ => (dgname 1 nd)) (fun _ _ _ _ _ => (dtsone (dtcmp olt (dvar 1) (DE.q (dvar 3)) rfl))) (fun _ _ _ _ _ => (dvar 1)))))))))))) w_code_of
theorem ok_row_length (d : DefAt K mg "row_length" s_row_length ["row"]) (c_code_of : ∀ k, CalG P wo K mg base (k + 1) "code_of" ["row"] (spP K sp_code_of)) (k : Nat) : CalG P wo K mg base (k + 2) "row_length" ["row"] (spP K sp_row_length) :=
  have nd := sc_row_length.nd
  calP (T := T_row_length) (sp := sp_row_length) d sc_row_length rfl (fun f cdv A outer s H E hr => (done1 (dret (dcallB (csum rfl) (by rfl) m_sum rfl (DE.q (dcallC (c_code_of k) hr (dacons (dvar 0) danil))))))) w_row_length
theorem ok_is_shortest (d : DefAt K mg "is_shortest" s_is_shortest ["n", "word"]) (c_row_length : ∀ k, CalG P wo K mg base (k + 2) "row_length" ["row"] (spP K sp_row_length)) (c_row_of : ∀ k, CalG P wo K mg base (k + 4) "row_of" ["n", "word"] (spP K sp_row_of)) (k : Nat) : CalG P wo K mg base (k + 5) "is_shortest" ["n", "word"] (spP K sp_is_shortest) :=
  have nd := sc_is_shortest.nd
  calP (T := T_is_shortest) (sp := sp_is_shortest) d sc_is_shortest rfl (fun f cdv A outer s H E hr => (done1 (dret (dcmp (oeq (huOf hr)) (dcallC (c_row_length (k + 2)) hr (dacons (dcallC (c_row_of k) hr (dacons (dvar 0) (dacons (dvar 1) danil))) danil)) (DE.q (dcallB clen (by rfl) m_len rfl (DE.q (dvar 1)))) rfl)))) w_is_shortest
theorem ok_is_integer (d : DefAt K mg "is_integer" s_is_integer ["value"]) (k : Nat) : CalG P wo K mg base (k + 1) "is_integer" ["value"] (spP K sp_is_integer) :=
  have nd := sc_is_integer.nd
  calP (T := T_is_integer) (sp := sp_is_integer) d sc_is_integer rfl (fun f cdv A outer s H E hr => (done1 (dret (deand (disi "int" (by rfl) m_isinstance (by rfl) m_int (DE.q (dvar 0))) (deone (denot (disi "bool" (by rfl) m_isinstance (by rfl) m_bool (DE.q (dvar 0))))))))) w_is_integer
theorem ok_is_worded (d : DefAt K mg "is_worded" s_is_worded ["value", "words", "many"]) (k : Nat) : CalG P wo K mg base (k + 1) "is_worded" ["value", "words", "many"] (spP K sp_is_worded) :=
  have nd := sc_is_worded.nd
  calP (T := T_is_worded) (sp := sp_is_worded) d sc_is_worded rfl (fun f cdv A outer s H E hr => (done1 (dret (deand (disi "tuple" (by rfl) m_isinstance (by rfl) m_tuple (DE.q (dvar 0))) (deand (dcmp (oeq (huOf hr)) (dcallB clen (by rfl) m_len rfl (DE.q (dvar 0))) (DE.q (dvar 2)) rfl) (deand (disi "str" (by rfl) m_isinstance (by rfl) m_str (DE.q (dix ixSeq (dvar 0) (DE.q dint)))) (deone (dcmp (oin (huOf1 hr)) (dix ixSeq (dvar 0) (DE.q dint)) (DE.q (dvar 1)) rfl)))))))) w_is_worded
theorem ok_moved_or_none (d : DefAt K mg "moved_or_none" s_moved_or_none ["word", "move"]) (k : Nat) : CalG P wo K mg base (k + 1) "moved_or_none" ["word", "move"] (spP K sp_moved_or_none) :=
  have nd := sc_moved_or_none.nd
  calP (T := T_moved_or_none) (sp := sp_moved_or_none) d sc_moved_or_none rfl (fun f cdv A outer s H E hr => (dcons (dasg (dvar 1) (dgtup rfl (dgcons (dgname 2 nd) (dgcons (dgname 3 nd) dgnil))))
      (dcons (dif (dtcmp (oeq (huOf hr)) (dvar 2) (DE.q dstr) rfl) (dcons (dset 4 nd (dsl (dvar 0) (dsome (dvar 3)) (dsome (dbin oadd (dvar 3) (DE.q dint)))))
      (dcons (dif (dwpt (dor (dtcmp olt (dcallB clen (by rfl) m_len rfl (DE.q (dvar 4))) (DE.q dint) rfl) (dor (dtcmp (one (huOf hr)) (dix ixSeq (dvar 4) (DE.q dint)) (DE.q (dix ixSeq (dvar 4) (DE.q dint))) rfl) (dor1 (dtcmp (one (huOf hr)) (dcallB cabs (by rfl) m_abs rfl (DE.q (dbin osub (dix ixSeq (dvar 4) (DE.q dint)) (DE.q (dix ixSeq (dvar 4) (DE.q dint)))))) (DE.q dint) rfl))))) (done1 (dret dnon)) dnil)
      (done1 (dret (dbin oadd (dbin oadd (dsl (dvar 0) dno (dsome (dvar 3))) (DE.q (dtup (dacons (dix ixSeq (dvar 4) (DE.q dint)) (dacons (dix ixSeq (dvar 4) (DE.q dint)) (dacons (dix ixSeq (dvar 4) (DE.q dint)) danil)))))) (DE.q (dsl (dvar 0) (dsome (dbin oadd (dvar 3) (DE.q dint))) dno))))))) dnil)
      (dcons (dset 4 nd (dsl (dvar 0) (dsome (dvar 3)) (dsome (dbin oadd (dvar 3) (DE.q dint)))))
      (dcons (dif (dtcmp olt (dcallB clen (by rfl) m_len rfl (DE.q (dvar 4))) (DE.q dint) rfl) (done1 (dret dnon)) dnil)
      (dcons (dif (dtcmp (oeq (huOf hr)) (dvar 2) (DE.q dstr) rfl) (done1 (dret (dif_ (dtcmp ogt (dcallB cabs (by rfl) m_abs rfl (DE.q (dbin osub (dix ixSeq (dvar 4) (DE.q dint)) (DE.q (dix ixSeq (dvar 4) (DE.q dint)))))) (DE.q dint) rfl) (dbin oadd (dbin oadd (dsl (dvar 0) dno (dsome (dvar 3))) (DE.q (drevT (dvar 4)))) (DE.q (dsl (dvar 0) (dsome (dbin oadd (dvar 3) (DE.q dint))) dno))) dnon))) dnil)
      (done1 (dret (dif_ (dtcmp (oeq (huOf hr)) (dix ixSeq (dvar 4) (DE.q dint)) (DE.q (dix ixSeq (dvar 4) (DE.q dint))) rfl) (dbin oadd (dsl (dvar 0) dno (dsome (dvar 3))) (DE.q (dsl (dvar 0) (dsome (dbin oadd (dvar 3) (DE.q dint))) dno))) dnon))))))))) w_moved_or_none
theorem ok_with_last_r (d : DefAt K mg "with_last" s_with_last ["row_way", "k"]) (k : Nat) : ∀ m, CalG P wo K mg base (k + 0 + m) "with_last" ["row_way", "k"] (spP K (spr_with_last m))
  | 0 => calZ d z_with_last
  | m + 1 =>
    have ih := ok_with_last_r d k m
    have nd := sc_with_last.nd
    calP (T := T_with_last m) (sp := spr_with_last (m + 1)) d sc_with_last rfl (fun f cdv A outer s H E hr => (dcons (dpar2 2 3 rfl nd (dcdat (DF.de (dlst danil)) (dcdat (dvar 0) dcnil)) rfl)
      (dcons (dset 4 nd (dbin osub (dcallB clen (by rfl) m_len rfl (DE.q (dvar 3))) (DE.q dint)))
      (dcons (dif (dtcmp (oeq (huOf hr)) (dix ixSeq (dvar 3) (DE.q (dvar 4))) (DE.q (dvar 1)) rfl) (done1 (dret (dtup (dacons (dvar 2) (dacons (dvar 3) danil))))) dnil)
      (dcons (dset 5 nd (dix ixSeq (dvar 3) (DE.q (dvar 4))))
      (dcons (dif (dtcmp ogt (dcallB cabs (by rfl) m_abs rfl (DE.q (dbin osub (dvar 5) (DE.q (dvar 1))))) (DE.q dint) rfl) (dcons (dasg (dcallC (ih) hr (dacons (dsl (dvar 3) dno (dsome (dvar 4))) (dacons (dvar 1) danil))) (dgtup rfl (dgcons (dgname 6 nd) (dgcons (dgname 7 nd) dgnil))))
      (done1 (dret (dtup (dacons (DF.de (dbinF catF (dvar 6) (DF.q (dlst (dacons (dtup (dacons dstr (dacons (dbin osub (dvar 4) (DE.q dint)) danil))) danil))))) (dacons (dbin oadd (dsl (dvar 7) dno (dsome (dbin osub (dvar 4) (DE.q dint)))) (DE.q (dtup (dacons (dvar 5) (dacons (dvar 1) danil))))) danil)))))) dnil)
      (dcons (dasg (dcallC (ih) hr (dacons (dsl (dvar 3) dno (dsome (dvar 4))) (dacons (dvar 1) danil))) (dgtup rfl (dgcons (dgname 6 nd) (dgcons (dgname 7 nd) dgnil))))
      (dcons (dasg (dcallC (ih) hr (dacons (dsl (dvar 7) dno (dsome (dbin osub (dvar 4) (DE.q dint)))) (dacons (dvar 5) danil))) (dgtup rfl (dgcons (dgname 8 nd) (dgcons (dgname 9 nd) dgnil))))
      (done1 (dret (dtup (dacons (DF.de (dbinF catF (dbin oadd (dvar 6) (DE.q (dvar 8))) (DF.q (dlst (dacons (dtup (dacons dstr (dacons (dbin osub (dvar 4) (DE.q dint)) danil))) danil))))) (dacons (dbin oadd (dsl (dvar 9) dno (dsome (dbin osub (dvar 4) (DE.q dint)))) (DE.q (dtup (dacons (dvar 1) (dacons (dvar 5) (dacons (dvar 1) danil)))))) danil))))))))))))) (w_with_last m)
theorem ok_with_last (d : DefAt K mg "with_last" s_with_last ["row_way", "k"]) (k : Nat) : CalG P wo K mg base (k + 33) "with_last" ["row_way", "k"] (spP K sp_with_last) :=
  (ok_with_last_r m_abs m_all m_bool m_enumerate m_int m_isinstance m_len m_list m_max m_range m_repr m_sorted m_str m_sum m_tuple hc_WORDS hsm d k 32).mono (by omega)
theorem ok_is_move (d : DefAt K mg "is_move" s_is_move ["value", "words"]) (c_is_worded : ∀ k, CalG P wo K mg base (k + 1) "is_worded" ["value", "words", "many"] (spP K sp_is_worded)) (c_is_integer : ∀ k, CalG P wo K mg base (k + 1) "is_integer" ["value"] (spP K sp_is_integer)) (k : Nat) : CalG P wo K mg base (k + 2) "is_move" ["value", "words"] (spP K sp_is_move) :=
  have nd := sc_is_move.nd
  calP (T := T_is_move) (sp := sp_is_move) d sc_is_move rfl (fun f cdv A outer s H E hr => (done1 (dret (deand (dcallC (c_is_worded k) hr (dacons (dvar 0) (dacons (dvar 1) (dacons dint danil)))) (deand (dcallC (c_is_integer k) hr (dacons (dix ixSeq (dvar 0) (DE.q dint)) danil)) (deone (dcmp oge (dix ixSeq (dvar 0) (DE.q dint)) (DE.q dint) rfl))))))) w_is_move
theorem ok_row_fault (d : DefAt K mg "row_fault" s_row_fault ["word", "value", "words"]) (c_is_move : ∀ k, CalG P wo K mg base (k + 2) "is_move" ["value", "words"] (spP K sp_is_move)) (c_moved_or_none : ∀ k, CalG P wo K mg base (k + 1) "moved_or_none" ["word", "move"] (spP K sp_moved_or_none)) (k : Nat) : CalG P wo K mg base (k + 3) "row_fault" ["word", "value", "words"] (spP K sp_row_fault) :=
  have nd := sc_row_fault.nd
  calP (T := T_row_fault) (sp := sp_row_fault) d sc_row_fault rfl (fun f cdv A outer s H E hr => (dcons (dif (dwpt (dor (dnot (dtval (disi "tuple" (by rfl) m_isinstance (by rfl) m_tuple (DE.q (dvar 1))))) (dor1 (dnot (dtval (dcallB (cAll rfl) (by rfl) m_all rfl (DF.q (dlc (own := [("move", 4)]) rfl nd (diseq (dvar 1)) (by dsimp only [cxOf, Cx.blk, Cx.nox, Cx.wish, compEnvC, envOfC, relabel_eq]; exact blkOk_by (by decide +kernel)) (fun _ _ _ _ _ => (dgname 4 nd)) (fun _ _ _ _ _ => dtsnil) (fun _ _ _ _ _ => (dcallC (c_is_move k) hr (dacons (dvar 4) (dacons (dvar 2) danil)))))))))))) (done1 (dret (dtup (dacons (dtup (dacons dstr danil)) (dacons (dvar 0) danil))))) dnil)
      (dcons (dfor PassesOwn.never rfl (dienum (by rfl) m_enumerate (dvar 1)) (dgtup rfl (dgcons (dgname 3 nd) (dgcons (dgname 4 nd) dgnil))) (dcons (dset 5 nd (dcallC (c_moved_or_none (k + 1)) hr (dacons (dvar 0) (dacons (dvar 4) danil))))
      (dcons (dif (dtisN (dvar 5)) (done1 (dret (dtup (dacons (dtup (dacons dstr (dacons (dvar 3) danil))) (dacons (dvar 0) danil))))) dnil)
      (done1 (dset 0 nd (dvar 5))))))
      (done1 (dret (dtup (dacons dnon (dacons (dvar 0) danil)))))))) w_row_fault
theorem ok_shortening_row (d : DefAt K mg "shortening_row" s_shortening_row ["n", "word"]) (c_is_shortest : ∀ k, CalG P wo K mg base (k + 5) "is_shortest" ["n", "word"] (spP K sp_is_shortest)) (c_with_last : ∀ k, CalG P wo K mg base (k + 33) "with_last" ["row_way", "k"] (spP K sp_with_last)) (k : Nat) : CalG P wo K mg base (k + 34) "shortening_row" ["n", "word"] (spP K sp_shortening_row) :=
  have nd := sc_shortening_row.nd
  calP (T := T_shortening_row) (sp := sp_shortening_row) d sc_shortening_row rfl (fun f cdv A outer s H E hr => (dcons (dsetO 2 nd (dlst danil))
      (dcons (dwhile PassesOwn.never (dnot (dtval (dcallC (c_is_shortest (k + 28)) hr (dacons (dvar 0) (dacons (dvar 1) danil))))) (dcons (dset 3 nd (dix ixSeq (DF.de (dlc (own := [("k", 5)]) rfl nd (dir1 (by rfl) m_range (dbin oadd (dcallB clen (by rfl) m_len rfl (DE.q (dvar 1))) (DE.q dint))) (by dsimp only [cxOf, Cx.blk, Cx.nox, Cx.wish, compEnvC, envOfC, relabel_eq]; exact blkOk_by (by decide +kernel)) (fun _ _ _ _ _ => (dgname 5 nd)) (fun _ _ _ _ _ => (dtsone (dnot (dtval (dcallC (c_is_shortest (k + 28)) hr (dacons (dvar 0) (dacons (dsl (dvar 1) dno (dsome (dvar 5))) danil))))))) (fun _ _ _ _ _ => (dvar 5)))) (DE.q dint)))
      (dcons (dpar2 4 5 rfl nd (dcdat (dsl (dvar 1) dno (dsome (dbin osub (dvar 3) (DE.q dint)))) (dcdat (dix ixSeq (dvar 1) (DE.q (dbin osub (dvar 3) (DE.q dint)))) dcnil)) rfl)
      (dcons (dasg (dcallC (c_with_last k) hr (dacons (dvar 4) (dacons (dvar 5) danil))) (dgtup rfl (dgcons (dgname 6 nd) (dgcons (dgname 7 nd) dgnil))))
      (dcons (dext 2 nd (DF.de (dlst (dastar (dvar 6) (dacons (dtup (dacons dstr (dacons (dbin osub (dvar 3) (DE.q dint)) danil))) danil)))))
      (done1 (dset 1 nd (dbin oadd (dsl (dvar 7) dno (dsome (dbin osub (dvar 3) (DE.q dint)))) (DE.q (dsl (dvar 1) (dsome (dvar 3)) dno))))))))))
      (done1 (dret (dcallTy ctup (by rfl) m_tuple rfl (down 2))))))) w_shortening_row
theorem ok_judge_shortening_row (d : DefAt K mg "judge_shortening_row" s_judge_shortening_row ["n", "word", "value"]) (c_row_fault : ∀ k, CalG P wo K mg base (k + 3) "row_fault" ["word", "value", "words"] (spP K sp_row_fault)) (c_is_shortest : ∀ k, CalG P wo K mg base (k + 5) "is_shortest" ["n", "word"] (spP K sp_is_shortest)) (k : Nat) : CalG P wo K mg base (k + 6) "judge_shortening_row" ["n", "word", "value"] (spP K sp_judge_shortening_row) :=
  have nd := sc_judge_shortening_row.nd
  calP (T := T_judge_shortening_row) (sp := sp_judge_shortening_row) d sc_judge_shortening_row rfl (fun f cdv A outer s H E hr => (dcons (dasg (dcallC (c_row_fault (k + 2)) hr (dacons (dvar 1) (dacons (dvar 2) (dacons (dtup (dastar (dglobS (by rfl) hc_WORDS) (dacons dstr danil))) danil)))) (dgtup rfl (dgcons (dgname 3 nd) (dgcons (dgname 4 nd) dgnil))))
      (dcons (dif (dtnotN (dvar 3)) (done1 (dret (dvar 3))) dnil)
      (done1 (dret (dif_ (dtval (dcallC (c_is_shortest k) hr (dacons (dvar 0) (dacons (dvar 4) danil)))) dnon (dtup (dacons dstr danil)))))))) w_judge_shortening_row
theorem ok__law_source (d : DefAt K mg "_law_source" s__law_source ["script"]) (k : Nat) : CalG P wo K mg base (k + 1) "_law_source" ["script"] (spN K) :=
  have nd := sc__law_source.nd
  calN (T1 := T1__law_source) (T2 := T2__law_source) (g0 := g0__law_source) (j := 1) d sc__law_source (fun f cdv A outer s H E hr => ⟨_, _, _, _, _, _, _, _, _, _, _, _, _, _, _, _, _, _, rfl, (dset 1 nd dint), (dfor PassesOwn.never rfl (diseq (dvar 0)) (dgname 2 nd) (done1 (dset 1 nd (dbin omod (dcallTy cint (by rfl) m_int rfl (DE.q (dbin oadd (dbin oadd (dbin omul (dvar 1) (DE.q dint)) (DE.q (dbin omul (dvar 2) (DE.q dint)))) (DE.q dint)))) (DE.q dint))))), (drevF (DF.q (dlc (own := [("cell", 2)]) rfl nd (diseq (dvar 0)) (by dsimp only [cxOf, Cx.blk, Cx.nox, Cx.wish, compEnvC, envOfC, relabel_eq]; exact blkOk_by (by decide +kernel)) (fun _ _ _ _ _ => (dgname 2 nd)) (fun _ _ _ _ _ => dtsnil) (fun _ _ _ _ _ => (dcallB cabs (by rfl) m_abs rfl (DE.q (dvar 2))))))), pe_var rfl (by first | exact Or.inl rfl | exact Or.inr (Or.inl rfl)) (by decide) (by decide)⟩) w__law_source
theorem ok__law_pick (d : DefAt K mg "_law_pick" s__law_pick ["source", "many"]) (k : Nat) : CalG P wo K mg base (k + 1) "_law_pick" ["source", "many"] (spS K sp__law_pick) :=
  have nd := sc__law_pick.nd
  calS (T := T__law_pick) (sp := sp__law_pick) d sc__law_pick rfl (fun f cdv A outer s H E hr => (dcons (dsrcRun (huOf hr) PassesOwn.never (by rfl) m_len rfl rfl (by first | exact Or.inl rfl | exact Or.inr (Or.inl rfl)) (by first | exact Or.inl rfl | exact Or.inr (Or.inl rfl)) rfl rfl rfl rfl rfl rfl)
      (dcons (dset 2 nd (dsrc 0 (huOf hr) srcL))
      (dcons (dif (dwpt (dor (dtcmp olt (dvar 1) (DE.q dint) rfl) (dor1 (dtcmp ogt (dvar 2) (DE.q dint) rfl)))) (dcons (dsrcPut 0 (huOf hr) fldL (dbin ofdiv (dvar 2) (DE.q (dcallBA (cmax2 rfl) (by rfl) m_max rfl (dacons dint (dacons (dvar 1) danil))))))
      (done1 (dret (dbin omod (dcallTy cint (by rfl) m_int rfl (DE.q (dvar 2))) (DE.q (dcallBA (cmax2 rfl) (by rfl) m_max rfl (dacons dint (dacons (dvar 1) danil)))))))) dnil)
      (dcons (dsrcPut 0 (huOf hr) fldT (dbin oadd (dsrc 0 (huOf hr) srcT) (DE.q dint)))
      (dcons (dset 3 nd (dbin omod (dcallTy cint (by rfl) m_int rfl (DE.q (dbin oadd (dsrc 0 (huOf hr) srcM) (DE.q (dbin omul (dsrc 0 (huOf hr) srcT) (DE.q dint)))))) (DE.q dint)))
      (dcons (dset 3 nd (dbin omod (dcallTy cint (by rfl) m_int rfl (DE.q (dbin oadd (dbin omul (dvar 3) (DE.q (dvar 3))) (DE.q (dbin omul (dsrc 0 (huOf hr) srcT) (DE.q dint)))))) (DE.q dint)))
      (dcons (dsrcPut 0 (huOf hr) fldM (dvar 3))
      (done1 (dret (dbin omod (dcallTy cint (by rfl) m_int rfl (DE.q (dbin ofdiv (dvar 3) (DE.q dint)))) (DE.q (dvar 1))))))))))))) w__law_pick
theorem ok__law_of (d : DefAt K mg "_law_of" s__law_of ["source", "some"]) (c__law_pick : ∀ k, CalG P wo K mg base (k + 1) "_law_pick" ["source", "many"] (spS K sp__law_pick)) (k : Nat) : CalG P wo K mg base (k + 2) "_law_of" ["source", "some"] (spS K sp__law_of) :=
  have nd := sc__law_of.nd
  calS (T := T__law_of) (sp := sp__law_of) d sc__law_of rfl (fun f cdv A outer s H E hr => (done1 (dret (dix ixSeq (dvar 1) (DE.q (dcallSC 0 (c__law_pick k) hr (dacons (dcallB clen (by rfl) m_len rfl (DE.q (dvar 1))) danil))))))) w__law_of
theorem ok__law_mixed (d : DefAt K mg "_law_mixed" s__law_mixed ["source", "things"]) (c__law_pick : ∀ k, CalG P wo K mg base (k + 1) "_law_pick" ["source", "many"] (spS K sp__law_pick)) (k : Nat) : CalG P wo K mg base (k + 2) "_law_mixed" ["source", "things"] (spS K sp__law_mixed) :=
  have nd := sc__law_mixed.nd
  calS (T := T__law_mixed) (sp := sp__law_mixed) d sc__law_mixed rfl (fun f cdv A outer s H E hr => (dcons (dsetO 2 nd (dcallTyF clst (by rfl) m_list rfl (DE.q (dvar 1))))
      (done1 (dret (DF.de (dlc (own := [("lap", 3)]) rfl nd (dir1 (by rfl) m_range (dcallB clen (by rfl) m_len rfl (down 2))) (by dsimp only [cxOf, Cx.blk, Cx.nox, Cx.wish, compEnvC, envOfC, relabel_eq]; exact blkOk_by (by decide +kernel)) (fun _ _ _ _ _ => (dgname 3 nd)) (fun _ _ _ _ _ => dtsnil) (fun _ _ _ _ _ => (dpopAt 2 (dcallSC 0 (c__law_pick k) hr (dacons (dcallB clen (by rfl) m_len rfl (down 2)) danil)))))))))) w__law_mixed
theorem ok__law_row (d : DefAt K mg "_law_row" s__law_row ["source", "n"]) (c__law_pick : ∀ k, CalG P wo K mg base (k + 1) "_law_pick" ["source", "many"] (spS K sp__law_pick)) (c__law_mixed : ∀ k, CalG P wo K mg base (k + 2) "_law_mixed" ["source", "things"] (spS K sp__law_mixed)) (k : Nat) : CalG P wo K mg base (k + 3) "_law_row" ["source", "n"] (spS K sp__law_row) :=
  have nd := sc__law_row.nd
  calS (T := T__law_row) (sp := sp__law_row) d sc__law_row rfl (fun f cdv A outer s H E hr => (dcons (dpar2 2 3 rfl nd (dcdat (dcallSC 0 (c__law_pick (k + 1)) hr (dacons dint danil)) (dcown (dlstRg rfl (by rfl) m_list (drg1 (by rfl) m_range (dvar 1))) dcnil)) rfl)
      (dcons (dif (dtcmp olt (dvar 2) (DE.q dint) rfl) (done1 (dfz 3 (dret (dcallTy ctup (by rfl) m_tuple rfl (DE.q (dcallSC 0 (c__law_mixed k) hr (dacons (dvar 3) danil))))))) dnil)
      (dcons (dsetIfN 3 nd (dtcmp (oeq (huOf hr)) (dvar 2) (DE.q dint) rfl) (drevF (down 3)))
      (dcons (dfor PassesOwn.never rfl (dir1 (by rfl) m_range (dcallSC 0 (c__law_pick (k + 1)) hr (dacons (dbin oadd (dvar 1) (DE.q dint)) danil))) (dgname 4 nd) (dcons (dset 5 nd (dcallSC 0 (c__law_pick (k + 1)) hr (dacons (dcallBA (cmax2 rfl) (by rfl) m_max rfl (dacons dint (dacons (dbin osub (dvar 1) (DE.q dint)) danil))) danil)))
      (done1 (dcut 3 (dsome (dvar 5)) (dsome (dbin oadd (dvar 5) (DE.q dint))) (drevF (DF.q (dslO 3 (dsome (dvar 5)) (dsome (dbin oadd (dvar 5) (DE.q dint))))))))))
      (done1 (dret (dcallTy ctup (by rfl) m_tuple rfl (down 3))))))))) w__law_row
theorem ok__law_swapped (d : DefAt K mg "_law_swapped" s__law_swapped ["row", "k"]) (k : Nat) : CalG P wo K mg base (k + 1) "_law_swapped" ["row", "k"] (spP K sp__law_swapped) :=
  have nd := sc__law_swapped.nd
  calP (T := T__law_swapped) (sp := sp__law_swapped) d sc__law_swapped rfl (fun f cdv A outer s H E hr => (done1 (dret (dbin oadd (dbin oadd (dsl (dvar 0) dno (dsome (dvar 1))) (DE.q (dtup (dacons (dix ixSeq (dvar 0) (DE.q (dbin oadd (dvar 1) (DE.q dint)))) (dacons (dix ixSeq (dvar 0) (DE.q (dvar 1))) danil))))) (DE.q (dsl (dvar 0) (dsome (dbin oadd (dvar 1) (DE.q dint))) dno)))))) w__law_swapped
theorem ok__law_led (d : DefAt K mg "_law_led" s__law_led ["row", "word"]) (c__law_swapped : ∀ k, CalG P wo K mg base (k + 1) "_law_swapped" ["row", "k"] (spP K sp__law_swapped)) (k : Nat) : CalG P wo K mg base (k + 2) "_law_led" ["row", "word"] (spP K sp__law_led) :=
  have nd := sc__law_led.nd
  calP (T := T__law_led) (sp := sp__law_led) d sc__law_led rfl (fun f cdv A outer s H E hr => (dcons (dfor PassesOwn.never rfl (diseq (dvar 1)) (dgname 2 nd) (done1 (dset 0 nd (dcallC (c__law_swapped k) hr (dacons (dvar 0) (dacons (dvar 2) danil))))))
      (done1 (dret (dvar 0))))) w__law_led
theorem ok__law_drops (d : DefAt K mg "_law_drops" s__law_drops ["row"]) (k : Nat) : CalG P wo K mg base (k + 1) "_law_drops" ["row"] (spP K sp__law_drops) :=
  have nd := sc__law_drops.nd
  calP (T := T__law_drops) (sp := sp__law_drops) d sc__law_drops rfl (fun f cdv A outer s H E hr => (done1 (dret (DF.de (dlc (own := [("k", 1)]) rfl nd (dir1 (by rfl) m_range (dbin osub (dcallB clen (by rfl) m_len rfl (DE.q (dvar 0))) (DE.q dint))) (by dsimp only [cxOf, Cx.blk, Cx.nox, Cx.wish, compEnvC, envOfC, relabel_eq]; exact blkOk_by (by decide +kernel)) (fun _ _ _ _ _ => (dgname 1 nd)) (fun _ _ _ _ _ => (dtsone (dtcmp ogt (dix ixSeq (dvar 0) (DE.q (dvar 1))) (DE.q (dix ixSeq (dvar 0) (DE.q (dbin oadd (dvar 1) (DE.q dint))))) rfl))) (fun _ _ _ _ _ => (dvar 1))))))) w__law_drops
theorem ok__law_lot (d : DefAt K mg "_law_lot" s__law_lot ["row"]) (k : Nat) : CalG P wo K mg base (k + 1) "_law_lot" ["row"] (spP K sp__law_lot) :=
  have nd := sc__law_lot.nd
  calP (T := T__law_lot) (sp := sp__law_lot) d sc__law_lot rfl (fun f cdv A outer s H E hr => (dcons (dset 1 nd (DF.de (dlst danil)))
      (dcons (dfor PassesOwn.never rfl (dienum (by rfl) m_enumerate (dvar 0)) (dgtup rfl (dgcons (dgname 2 nd) (dgcons (dgname 3 nd) dgnil))) (done1 (dset 1 nd (DF.de (dbinF catF (dvar 1) (DF.q (dlc (own := [("late", 4)]) rfl nd (diseq (dsl (dvar 0) (dsome (dbin oadd (dvar 2) (DE.q dint))) dno)) (by dsimp only [cxOf, Cx.blk, Cx.nox, Cx.wish, compEnvC, envOfC, relabel_eq]; exact blkOk_by (by decide +kernel)) (fun _ _ _ _ _ => (dgname 4 nd)) (fun _ _ _ _ _ => (dtsone (dtcmp olt (dvar 4) (DE.q (dvar 3)) rfl))) (fun _ _ _ _ _ => (dtup (dacons (dvar 4) (dacons (dvar 3) danil)))))))))))
      (done1 (dret (DF.de (dcallBF (csor (huOf hr)) (by rfl) m_sorted rfl (DE.q (dvar 1))))))))) w__law_lot
theorem ok__law_number (d : DefAt K mg "_law_number" s__law_number ["value"]) (k : Nat) : CalG P wo K mg base (k + 1) "_law_number" ["value"] (spP K sp__law_number) :=
  have nd := sc__law_number.nd
  calP (T := T__law_number) (sp := sp__law_number) d sc__law_number rfl (fun f cdv A outer s H E hr => (done1 (dret (deand (disi "int" (by rfl) m_isinstance (by rfl) m_int (DE.q (dvar 0))) (deone (denot (disi "bool" (by rfl) m_isinstance (by rfl) m_bool (DE.q (dvar 0))))))))) w__law_number
theorem ok__law_way (d : DefAt K mg "_law_way" s__law_way ["source", "row"]) (c__law_drops : ∀ k, CalG P wo K mg base (k + 1) "_law_drops" ["row"] (spP K sp__law_drops)) (c__law_of : ∀ k, CalG P wo K mg base (k + 2) "_law_of" ["source", "some"] (spS K sp__law_of)) (c__law_swapped : ∀ k, CalG P wo K mg base (k + 1) "_law_swapped" ["row", "k"] (spP K sp__law_swapped)) (k : Nat) : CalG P wo K mg base (k + 3) "_law_way" ["source", "row"] (spS K sp__law_way) :=
  have nd := sc__law_way.nd
  calS (T := T__law_way) (sp := sp__law_way) d sc__law_way rfl (fun f cdv A outer s H E hr => (dcons (dsetO 2 nd (dlst danil))
      (dcons (dwhile PassesOwn.never (dtcmp (one (huOf hr)) (dcallC (c__law_drops (k + 1)) hr (dacons (dvar 1) danil)) (DF.q (dlst danil)) rfl) (dcons (dapp 2 (dcallSC 0 (c__law_of k) hr (dacons (dcallC (c__law_drops (k + 1)) hr (dacons (dvar 1) danil)) danil)))
      (done1 (dset 1 nd (dcallC (c__law_swapped (k + 1)) hr (dacons (dvar 1) (dacons (dixO 2 ixSeq (DE.q (dneg dint))) danil)))))))
      (done1 (dret (dcallTy ctup (by rfl) m_tuple rfl (DF.q (drevF (down 2))))))))) w__law_way
theorem ok__law_drawn_word (d : DefAt K mg "_law_drawn_word" s__law_drawn_word ["source", "n", "most"]) (c__law_pick : ∀ k, CalG P wo K mg base (k + 1) "_law_pick" ["source", "many"] (spS K sp__law_pick)) (c__law_way : ∀ k, CalG P wo K mg base (k + 3) "_law_way" ["source", "row"] (spS K sp__law_way)) (c__law_row : ∀ k, CalG P wo K mg base (k + 3) "_law_row" ["source", "n"] (spS K sp__law_row)) (k : Nat) : CalG P wo K mg base (k + 4) "_law_drawn_word" ["source", "n", "most"] (spS K sp__law_drawn_word) :=
  have nd := sc__law_drawn_word.nd
  calS (T := T__law_drawn_word) (sp := sp__law_drawn_word) d sc__law_drawn_word rfl (fun f cdv A outer s H E hr => (dcons (dif (dtcmp (oeq (huOf hr)) (dvar 1) (DE.q dint) rfl) (done1 (dret (dtup danil))) dnil)
      (dcons (dif (dtcmp (oeq (huOf hr)) (dcallSC 0 (c__law_pick (k + 2)) hr (dacons dint danil)) (DE.q dint) rfl) (done1 (dret (dcallTy ctup (by rfl) m_tuple rfl (DF.q (dlc (own := [("k", 5)]) rfl nd (dir1 (by rfl) m_range (dcallSC 0 (c__law_pick (k + 2)) hr (dacons (dbin oadd (dvar 2) (DE.q dint)) danil))) (by dsimp only [cxOf, Cx.blk, Cx.nox, Cx.wish, compEnvC, envOfC, relabel_eq]; exact blkOk_by (by decide +kernel)) (fun _ _ _ _ _ => (dgname 5 nd)) (fun _ _ _ _ _ => dtsnil) (fun _ _ _ _ _ => (dcallSC 0 (c__law_pick (k + 2)) hr (dacons (dbin osub (dvar 1) (DE.q dint)) danil)))))))) dnil)
      (dcons (dset 3 nd (dsl (dcallSC 0 (c__law_way k) hr (dacons (dcallSC 0 (c__law_row k) hr (dacons (dvar 1) danil)) danil)) dno (dsome (dbin osub (dvar 2) (DE.q dint)))))
      (dcons (dfor PassesOwn.never rfl (dir1 (by rfl) m_range (dcallSC 0 (c__law_pick (k + 2)) hr (dacons dint danil))) (dgname 4 nd) (dcons (dset 5 nd (dcallSC 0 (c__law_pick (k + 2)) hr (dacons (dbin oadd (dcallB clen (by rfl) m_len rfl (DE.q (dvar 3))) (DE.q dint)) danil)))
      (done1 (dset 3 nd (dbin oadd (dbin oadd (dsl (dvar 3) dno (dsome (dvar 5))) (DE.q (dtup (dacons (dcallSC 0 (c__law_pick (k + 2)) hr (dacons (dbin osub (dvar 1) (DE.q dint)) danil)) danil)))) (DE.q (dsl (dvar 3) (dsome (dvar 5)) dno)))))))
      (done1 (dret (dvar 3)))))))) w__law_drawn_word
theorem ok__law_moved (d : DefAt K mg "_law_moved" s__law_moved ["word", "move"]) (k : Nat) : CalG P wo K mg base (k + 1) "_law_moved" ["word", "move"] (spP K sp__law_moved) :=
  have nd := sc__law_moved.nd
  calP (T := T__law_moved) (sp := sp__law_moved) d sc__law_moved rfl (fun f cdv A outer s H E hr => (dcons (dasg (dvar 1) (dgtup rfl (dgcons (dgname 2 nd) (dgcons (dgname 3 nd) dgnil))))
      (dcons (dset 4 nd (dsl (dvar 0) (dsome (dvar 3)) (dsome (dbin oadd (dvar 3) (DE.q (dif_ (dtcmp (oeq (huOf hr)) (dvar 2) (DE.q dstr) rfl) dint dint))))))
      (dcons (dif (dtcmp olt (dcallB clen (by rfl) m_len rfl (DE.q (dvar 4))) (DE.q (dif_ (dtcmp (oeq (huOf hr)) (dvar 2) (DE.q dstr) rfl) dint dint)) rfl) (done1 (dret dnon)) dnil)
      (dcons (dif (dtcmp (oeq (huOf hr)) (dvar 2) (DE.q dstr) rfl) (dcons (dset 5 nd (deand (dcmp (oeq (huOf hr)) (dix ixSeq (dvar 4) (DE.q dint)) (DE.q (dix ixSeq (dvar 4) (DE.q dint))) rfl) (deone (dcmp (oeq (huOf hr)) (dcallB cabs (by rfl) m_abs rfl (DE.q (dbin osub (dix ixSeq (dvar 4) (DE.q dint)) (DE.q (dix ixSeq (dvar 4) (DE.q dint)))))) (DE.q dint) rfl))))
      (done1 (dret (dif_ (dttru (DE.q (dvar 5))) (dbin oadd (dbin oadd (dsl (dvar 0) dno (dsome (dvar 3))) (DE.q (dtup (dacons (dix ixSeq (dvar 4) (DE.q dint)) (dacons (dix ixSeq (dvar 4) (DE.q dint)) (dacons (dix ixSeq (dvar 4) (DE.q dint)) danil)))))) (DE.q (dsl (dvar 0) (dsome (dbin oadd (dvar 3) (DE.q dint))) dno))) dnon)))) dnil)
      (dcons (dif (dtcmp (oeq (huOf hr)) (dvar 2) (DE.q dstr) rfl) (done1 (dret (dif_ (dtcmp ogt (dcallB cabs (by rfl) m_abs rfl (DE.q (dbin osub (dix ixSeq (dvar 4) (DE.q dint)) (DE.q (dix ixSeq (dvar 4) (DE.q dint)))))) (DE.q dint) rfl) (dbin oadd (dbin oadd (dsl (dvar 0) dno (dsome (dvar 3))) (DE.q (drevT (dvar 4)))) (DE.q (dsl (dvar 0) (dsome (dbin oadd (dvar 3) (DE.q dint))) dno))) dnon))) dnil)
      (done1 (dret (dif_ (dtcmp (oeq (huOf hr)) (dix ixSeq (dvar 4) (DE.q dint)) (DE.q (dix ixSeq (dvar 4) (DE.q dint))) rfl) (dbin oadd (dsl (dvar 0) dno (dsome (dvar 3))) (DE.q (dsl (dvar 0) (dsome (dbin oadd (dvar 3) (DE.q dint))) dno))) dnon))))))))) w__law_moved
theorem ok__law_is_move (d : DefAt K mg "_law_is_move" s__law_is_move ["value", "words"]) (c__law_number : ∀ k, CalG P wo K mg base (k + 1) "_law_number" ["value"] (spP K sp__law_number)) (k : Nat) : CalG P wo K mg base (k + 2) "_law_is_move" ["value", "words"] (spP K sp__law_is_move) :=
  have nd := sc__law_is_move.nd
  calP (T := T__law_is_move) (sp := sp__law_is_move) d sc__law_is_move rfl (fun f cdv A outer s H E hr => (dcons (dif (dwpt (dor (dnot (dtval (disi "tuple" (by rfl) m_isinstance (by rfl) m_tuple (DE.q (dvar 0))))) (dor (dtcmp (one (huOf hr)) (dcallB clen (by rfl) m_len rfl (DE.q (dvar 0))) (DE.q dint) rfl) (dor (dnot (dtval (disi "str" (by rfl) m_isinstance (by rfl) m_str (DE.q (dix ixSeq (dvar 0) (DE.q dint)))))) (dor1 (dtcmp (onin (huOf1 hr)) (dix ixSeq (dvar 0) (DE.q dint)) (DE.q (dvar 1)) rfl)))))) (done1 (dret dbl)) dnil)
      (done1 (dret (deand (dcallC (c__law_number k) hr (dacons (dix ixSeq (dvar 0) (DE.q dint)) danil)) (deone (dcmp oge (dix ixSeq (dvar 0) (DE.q dint)) (DE.q dint) rfl))))))) w__law_is_move
theorem ok__law_moves_fault (d : DefAt K mg "_law_moves_fault" s__law_moves_fault ["word", "value", "words"]) (c__law_is_move : ∀ k, CalG P wo K mg base (k + 2) "_law_is_move" ["value", "words"] (spP K sp__law_is_move)) (c__law_moved : ∀ k, CalG P wo K mg base (k + 1) "_law_moved" ["word", "move"] (spP K sp__law_moved)) (k : Nat) : CalG P wo K mg base (k + 3) "_law_moves_fault" ["word", "value", "words"] (spP K sp__law_moves_fault) :=
  have nd := sc__law_moves_fault.nd
  calP (T := T__law_moves_fault) (sp := sp__law_moves_fault) d sc__law_moves_fault rfl (fun f cdv A outer s H E hr => (dcons (dif (dwpt (dor (dnot (dtval (disi "tuple" (by rfl) m_isinstance (by rfl) m_tuple (DE.q (dvar 1))))) (dor1 (dtcmp (one (huOf hr)) (DF.de (dlc (own := [("move", 4)]) rfl nd (diseq (dvar 1)) (by dsimp only [cxOf, Cx.blk, Cx.nox, Cx.wish, compEnvC, envOfC, relabel_eq]; exact blkOk_by (by decide +kernel)) (fun _ _ _ _ _ => (dgname 4 nd)) (fun _ _ _ _ _ => (dtsone (dnot (dtval (dcallC (c__law_is_move k) hr (dacons (dvar 4) (dacons (dvar 2) danil))))))) (fun _ _ _ _ _ => dint))) (DF.q (dlst danil)) rfl)))) (done1 (dret (dtup (dacons (dtup (dacons dstr danil)) (dacons (dvar 0) danil))))) dnil)
      (dcons (dfor PassesOwn.never rfl (dienum (by rfl) m_enumerate (dvar 1)) (dgtup rfl (dgcons (dgname 3 nd) (dgcons (dgname 4 nd) dgnil))) (dcons (dset 5 nd (dcallC (c__law_moved (k + 1)) hr (dacons (dvar 0) (dacons (dvar 4) danil))))
      (dcons (dif (dtisN (dvar 5)) (done1 (dret (dtup (dacons (dtup (dacons dstr (dacons (dvar 3) danil))) (dacons (dvar 0) danil))))) dnil)
      (done1 (dset 0 nd (dvar 5))))))
      (done1 (dret (dtup (dacons dnon (dacons (dvar 0) danil)))))))) w__law_moves_fault
theorem ok__law_bent_r (d : DefAt K mg "_law_bent" s__law_bent ["source", "value"]) (c__law_pick : ∀ k, CalG P wo K mg base (k + 1) "_law_pick" ["source", "many"] (spS K sp__law_pick)) (c__law_of : ∀ k, CalG P wo K mg base (k + 2) "_law_of" ["source", "some"] (spS K sp__law_of)) (c__law_number : ∀ k, CalG P wo K mg base (k + 1) "_law_number" ["value"] (spP K sp__law_number)) (k : Nat) : ∀ m, CalG P wo K mg base (k + 2 + m) "_law_bent" ["source", "value"] (spS K (spr__law_bent m))
  | 0 => calZS d z__law_bent
  | m + 1 =>
    have ih := ok__law_bent_r d c__law_pick c__law_of c__law_number k m
    have nd := sc__law_bent.nd
    calS (T := T__law_bent m) (sp := spr__law_bent (m + 1)) d sc__law_bent rfl (fun f cdv A outer s H E hr => (dcons (dset 2 nd (DF.de (dlst (dacons dnon (dacons dint (dacons dint (dacons dint (dacons dbl (dacons (dneg dint) (dacons dint (dacons dstr (dacons dstr (dacons dstr (dacons dstr (dacons dstr (dacons dstr (dacons dstr (dacons dstr (dacons dstr (dacons (dtup danil) (dacons (dtup (dacons dint danil)) danil)))))))))))))))))))))
      (dcons (dset 2 nd (DF.de (dbinF catF (dvar 2) (DF.q (dlst (dacons (dtup (dacons dstr (dacons dint danil))) (dacons (dtup (dacons dstr (dacons dint danil))) (dacons (dtup (dacons dstr (dacons dint danil))) (dacons (DF.de (dlst danil)) (dacons (DF.de ddic0) (dacons (dtup (dacons dstr (dacons (dneg dint) danil))) (dacons (dtup (dacons dint (dacons dint (dacons dint (dacons dint danil))))) danil))))))))))))
      (dcons (dif (dwpt (dor (dnot (dtval (disi "tuple" (by rfl) m_isinstance (by rfl) m_tuple (DE.q (dvar 1))))) (dor (dtcmp (oeq0 (huOf hr)) (dvar 1) (DE.q (dtup danil)) rfl) (dor1 (dtcmp (oeq (huOf hr)) (dcallSC 0 ((c__law_pick k).mono (show k + 1 ≤ k + 2 + m by omega)) hr (dacons dint danil)) (DE.q dint) rfl))))) (dcons (dset 3 nd (DF.de (dlst (dacons (dcallSC 0 ((c__law_of k).mono (show k + 2 ≤ k + 2 + m by omega)) hr (dacons (dvar 2) danil)) danil))))
      (dcons (dif (dtval (disi "tuple" (by rfl) m_isinstance (by rfl) m_tuple (DE.q (dvar 1)))) (done1 (dset 3 nd (DF.de (dbinF catF (dvar 3) (DF.q (dlst (dacons (dsl (dvar 1) (dsome dint) dno) (dacons (dsl (dvar 1) dno (dsome (dneg dint))) (dacons (dbin oadd (dvar 1) (DE.q (dsl (dvar 1) dno (dsome dint)))) (dacons (DF.de (dcallTyF clst (by rfl) m_list rfl (DE.q (dvar 1)))) (dacons (drevT (dvar 1)) (dacons (dbin oadd (dvar 1) (DE.q (dtup (dacons dint danil)))) danil)))))))))))) dnil)
      (done1 (dret (dcallSC 0 ((c__law_of k).mono (show k + 2 ≤ k + 2 + m by omega)) hr (dacons (dvar 3) danil)))))) dnil)
      (dcons (dpar2 4 5 rfl nd (dcdat (dcallSC 0 ((c__law_pick k).mono (show k + 1 ≤ k + 2 + m by omega)) hr (dacons (dcallB clen (by rfl) m_len rfl (DE.q (dvar 1))) danil)) (dcdat (dcallSC 0 ((c__law_pick k).mono (show k + 1 ≤ k + 2 + m by omega)) hr (dacons dint danil)) dcnil)) rfl)
      (dcons (dif (dwpt (dand (dtcmp (oeq (huOf hr)) (dvar 5) (DE.q dint) rfl) (dand1 (dtval (dcallC ((c__law_number k).mono (show k + 1 ≤ k + 2 + m by omega)) hr (dacons (dix ixSeq (dvar 1) (DE.q (dvar 4))) danil)))))) (done1 (dret (dbin oadd (dbin oadd (dsl (dvar 1) dno (dsome (dvar 4))) (DE.q (dtup (dacons (dbin oadd (dix ixSeq (dvar 1) (DE.q (dvar 4))) (DE.q (dcallSC 0 ((c__law_of k).mono (show k + 2 ≤ k + 2 + m by omega)) hr (dacons (DF.de (dlst (dacons dint (dacons (dneg dint) (dacons dint danil))))) danil)))) danil)))) (DE.q (dsl (dvar 1) (dsome (dbin oadd (dvar 4) (DE.q dint))) dno))))) dnil)
      (dcons (dif (dtcmp (oeq (huOf hr)) (dvar 5) (DE.q dint) rfl) (done1 (dret (dbin oadd (dsl (dvar 1) dno (dsome (dvar 4))) (DE.q (dsl (dvar 1) (dsome (dbin oadd (dvar 4) (DE.q dint))) dno))))) dnil)
      (done1 (dret (dbin oadd (dbin oadd (dsl (dvar 1) dno (dsome (dvar 4))) (DE.q (dtup (dacons (dcallSC 0 (ih) hr (dacons (dix ixSeq (dvar 1) (DE.q (dvar 4))) danil)) danil)))) (DE.q (dsl (dvar 1) (dsome (dbin oadd (dvar 4) (DE.q dint))) dno)))))))))))) (w__law_bent m)
theorem ok__law_bent (d : DefAt K mg "_law_bent" s__law_bent ["source", "value"]) (c__law_pick : ∀ k, CalG P wo K mg base (k + 1) "_law_pick" ["source", "many"] (spS K sp__law_pick)) (c__law_of : ∀ k, CalG P wo K mg base (k + 2) "_law_of" ["source", "some"] (spS K sp__law_of)) (c__law_number : ∀ k, CalG P wo K mg base (k + 1) "_law_number" ["value"] (spP K sp__law_number)) (k : Nat) : CalG P wo K mg base (k + 11) "_law_bent" ["source", "value"] (spS K sp__law_bent) :=
  (ok__law_bent_r m_abs m_all m_bool m_enumerate m_int m_isinstance m_len m_list m_max m_range m_repr m_sorted m_str m_sum m_tuple hc_WORDS hsm d c__law_pick c__law_of c__law_number k 8).mono (by omega)
theorem ok__law_fault (d : DefAt K mg "_law_fault" s__law_fault ["n", "word", "value"]) (c__law_moves_fault : ∀ k, CalG P wo K mg base (k + 3) "_law_moves_fault" ["word", "value", "words"] (spP K sp__law_moves_fault)) (c__law_lot : ∀ k, CalG P wo K mg base (k + 1) "_law_lot" ["row"] (spP K sp__law_lot)) (c__law_led : ∀ k, CalG P wo K mg base (k + 2) "_law_led" ["row", "word"] (spP K sp__law_led)) (k : Nat) : CalG P wo K mg base (k + 4) "_law_fault" ["n", "word", "value"] (spP K sp__law_fault) :=
  have nd := sc__law_fault.nd
  calP (T := T__law_fault) (sp := sp__law_fault) d sc__law_fault rfl (fun f cdv A outer s H E hr => (dcons (dasg (dcallC (c__law_moves_fault k) hr (dacons (dvar 1) (dacons (dvar 2) (dacons (dtup (dacons dstr (dacons dstr (dacons dstr danil)))) danil)))) (dgtup rfl (dgcons (dgname 3 nd) (dgcons (dgname 4 nd) dgnil))))
      (dcons (dif (dtnotN (dvar 3)) (done1 (dret (dvar 3))) dnil)
      (done1 (dret (dif_ (dtcmp (oeq (huOf hr)) (dcallB clen (by rfl) m_len rfl (DE.q (dcallC (c__law_lot (k + 2)) hr (dacons (dcallC (c__law_led (k + 1)) hr (dacons (dtupRg rfl (by rfl) m_tuple (drg1 (by rfl) m_range (dvar 0))) (dacons (dvar 4) danil))) danil)))) (DE.q (dcallB clen (by rfl) m_len rfl (DE.q (dvar 4)))) rfl) dnon (dtup (dacons dstr danil)))))))) w__law_fault
theorem ok_law (d : DefAt K mg "law" s_law ["script"]) (c__law_source : ∀ k, CalG P wo K mg base (k + 1) "_law_source" ["script"] (spN K)) (c__law_pick : ∀ k, CalG P wo K mg base (k + 1) "_law_pick" ["source", "many"] (spS K sp__law_pick)) (c__law_drawn_word : ∀ k, CalG P wo K mg base (k + 4) "_law_drawn_word" ["source", "n", "most"] (spS K sp__law_drawn_word)) (c_shortening_row : ∀ k, CalG P wo K mg base (k + 34) "shortening_row" ["n", "word"] (spP K sp_shortening_row)) (c__law_fault : ∀ k, CalG P wo K mg base (k + 4) "_law_fault" ["n", "word", "value"] (spP K sp__law_fault)) (c__law_bent : ∀ k, CalG P wo K mg base (k + 11) "_law_bent" ["source", "value"] (spS K sp__law_bent)) (c__law_of : ∀ k, CalG P wo K mg base (k + 2) "_law_of" ["source", "some"] (spS K sp__law_of)) (c_judge_shortening_row : ∀ k, CalG P wo K mg base (k + 6) "judge_shortening_row" ["n", "word", "value"] (spP K sp_judge_shortening_row)) (k : Nat) : CalG P wo K mg base (k + 35) "law" ["script"] (spLaw K) :=
  have nd := sc_law.nd
  calL (T := T_law) 1 d sc_law (by decide) (by decide) (by decide) (fun f cdv A outer s H E hr => ⟨_, _, rfl, dnewC 1 (c__law_source (k + 33)) hr nd, (dcons (dfor PassesOwn.never rfl (dir1 (by rfl) m_range dint) (dgname 2 nd) (dcons (dset 3 nd (dbin oadd dint (DE.q (dcallSC 1 (c__law_pick (k + 33)) hr (dacons (dix ixSeq (DF.de (dlst (dacons dint (dacons dint (dacons dint (dacons dint danil)))))) (DE.q (dvar 2))) danil)))))
      (dcons (dset 4 nd (dcallSC 1 (c__law_drawn_word (k + 30)) hr (dacons (dvar 3) (dacons (dix ixSeq (DF.de (dlst (dacons dint (dacons dint (dacons dint (dacons dint danil)))))) (DE.q (dvar 2))) danil))))
      (dcons (dpar2 5 6 rfl nd (dcdat (dcallB (creprE hr hsm) (by rfl) m_repr rfl (DE.q (dvar 4))) (dcdat (dcallC (c_shortening_row k) hr (dacons (dvar 3) (dacons (dvar 4) danil))) dcnil)) rfl)
      (dcons (dif (dwpt (dor (dtnotN (dcallC (c__law_fault (k + 30)) hr (dacons (dvar 3) (dacons (dvar 4) (dacons (dvar 6) danil))))) (dor1 (dtcmp (one (huOf hr)) (dcallB (creprE hr hsm) (by rfl) m_repr rfl (DE.q (dcallC (c_shortening_row k) hr (dacons (dvar 3) (dacons (dvar 4) danil))))) (DE.q (dcallB (creprE hr hsm) (by rfl) m_repr rfl (DE.q (dvar 6)))) rfl)))) (done1 (dret dbl)) dnil)
      (dcons (dset 7 nd (DF.de (dlst (dacons (dvar 6) (dacons (dsl (dvar 6) dno (dsome (dneg dint))) (dacons (dsl (dvar 6) (dsome dint) dno) (dacons (dbin oadd (dvar 6) (DE.q (dtup (dacons (dtup (dacons dstr (dacons dint danil))) danil)))) (dacons (dtup (dacons (dtup (dacons dstr (dacons dint danil))) danil)) (dacons (dtup (dacons (dtup (dacons dstr (dacons dint danil))) danil)) (dacons (dtup danil) danil))))))))))
      (dcons (dset 8 nd (DF.de (dbinF catF (DF.de (dbinF catF (dvar 7) (DF.q (dlc (own := [("turn", 11)]) rfl nd (dir1 (by rfl) m_range dint) (by dsimp only [cxOf, Cx.blk, Cx.nox, Cx.wish, compEnvC, envOfC, relabel_eq]; exact blkOk_by (by decide +kernel)) (fun _ _ _ _ _ => (dgname 11 nd)) (fun _ _ _ _ _ => dtsnil) (fun _ _ _ _ _ => (dcallSC 1 (c__law_bent (k + 23)) hr (dacons (dcallSC 1 (c__law_of (k + 32)) hr (dacons (dvar 7) danil)) danil))))))) (DF.q (dlst (dacons dnon (dacons (dtup (dacons (dtup (dacons dstr (dacons (dcallB clen (by rfl) m_len rfl (DE.q (dvar 4))) danil))) danil)) (dacons (dtup (dacons (dtup (dacons dstr danil)) danil)) danil))))))))
      (dcons (dfor PassesOwn.never rfl (diseq (DF.de (dbinF catF (dvar 8) (DF.q (dlst (dacons (dcallSC 1 (c__law_bent (k + 23)) hr (dacons (dcallSC 1 (c__law_bent (k + 23)) hr (dacons (dvar 6) danil)) danil)) danil)))))) (dgname 9 nd) (dcons (dset 10 nd (dcallB (creprE hr hsm) (by rfl) m_repr rfl (DE.q (dvar 9))))
      (done1 (dif (dwpt (dor (dtcmp (one (huOf hr)) (dcallB (creprE hr hsm) (by rfl) m_repr rfl (DE.q (dcallC (c_judge_shortening_row (k + 28)) hr (dacons (dvar 3) (dacons (dvar 4) (dacons (dvar 9) danil)))))) (DE.q (dcallB (creprE hr hsm) (by rfl) m_repr rfl (DE.q (dcallC (c__law_fault (k + 30)) hr (dacons (dvar 3) (dacons (dvar 4) (dacons (dvar 9) danil))))))) rfl) (dor1 (dtcmp (one (huOf hr)) (dcallB (creprE hr hsm) (by rfl) m_repr rfl (DE.q (dvar 9))) (DE.q (dvar 10)) rfl)))) (done1 (dret dbl)) dnil))))
      (done1 (dif (dtcmp (one (huOf hr)) (dcallB (creprE hr hsm) (by rfl) m_repr rfl (DE.q (dvar 4))) (DE.q (dvar 5)) rfl) (done1 (dret dbl)) dnil))))))))))
      (done1 (dret (dcmp (oeq (huOf hr)) (dcallB (creprE hr hsm) (by rfl) m_repr rfl (DF.q (dlst (dacons (dcallC (c_shortening_row k) hr (dacons dint (dacons (dtup danil) danil))) (dacons (dcallC (c_judge_shortening_row (k + 28)) hr (dacons dint (dacons (dtup (dacons dint (dacons dint danil))) (dacons (dtup (dacons (dtup (dacons dstr (dacons dint danil))) danil)) danil)))) danil))))) (DE.q (dcallB (creprE hr hsm) (by rfl) m_repr rfl (DF.q (dlst (dacons (dtup danil) (dacons dnon danil)))))) rfl))))⟩) w_law
end
theorem all_mk {l : PySem.W.OpenLaw} {w : World} {K : PySem.W.Frag} {h : Heap} {mg : Str → Option Value} {fa : Addr} (X : K.In h) (G : h.Ns mainGlobals mg) (hfa : mg "law" = some (.ref fa))
    {f0 : Addr} {od0 an0 : Option Addr} {sl0 : Array (Option Value)} {oc0 kV0 dc0 pm0 cd0 ct0 : Value}
    (a0 : PySem.W.nsIn K mainGlobals "plain" = some (some (.ref f0))) (l0 : K.lookup f0 = some ⟨oc0, od0, .func (PySem.W.fnOf "plain" "plain" (defArgs s_plain) (defBody s_plain) (defScope s_plain) .none kV0 dc0 pm0 an0 cd0 ct0), sl0⟩) (q0 : PySem.W.codeIn K cd0 "plain" = true) (k0 : PySem.W.keepIn K (.ref f0) = true)
    {f1 : Addr} {od1 an1 : Option Addr} {sl1 : Array (Option Value)} {oc1 kV1 dc1 pm1 cd1 ct1 : Value}
    (a1 : PySem.W.nsIn K mainGlobals "exchanged" = some (some (.ref f1))) (l1 : K.lookup f1 = some ⟨oc1, od1, .func (PySem.W.fnOf "exchanged" "exchanged" (defArgs s_exchanged) (defBody s_exchanged) (defScope s_exchanged) .none kV1 dc1 pm1 an1 cd1 ct1), sl1⟩) (q1 : PySem.W.codeIn K cd1 "exchanged" = true) (k1 : PySem.W.keepIn K (.ref f1) = true)
    {f2 : Addr} {od2 an2 : Option Addr} {sl2 : Array (Option Value)} {oc2 kV2 dc2 pm2 cd2 ct2 : Value}
    (a2 : PySem.W.nsIn K mainGlobals "swapped" = some (some (.ref f2))) (l2 : K.lookup f2 = some ⟨oc2, od2, .func (PySem.W.fnOf "swapped" "swapped" (defArgs s_swapped) (defBody s_swapped) (defScope s_swapped) .none kV2 dc2 pm2 an2 cd2 ct2), sl2⟩) (q2 : PySem.W.codeIn K cd2 "swapped" = true) (k2 : PySem.W.keepIn K (.ref f2) = true)
    {f3 : Addr} {od3 an3 : Option Addr} {sl3 : Array (Option Value)} {oc3 kV3 dc3 pm3 cd3 ct3 : Value}
    (a3 : PySem.W.nsIn K mainGlobals "led" = some (some (.ref f3))) (l3 : K.lookup f3 = some ⟨oc3, od3, .func (PySem.W.fnOf "led" "led" (defArgs s_led) (defBody s_led) (defScope s_led) .none kV3 dc3 pm3 an3 cd3 ct3), sl3⟩) (q3 : PySem.W.codeIn K cd3 "led" = true) (k3 : PySem.W.keepIn K (.ref f3) = true)
    {f4 : Addr} {od4 an4 : Option Addr} {sl4 : Array (Option Value)} {oc4 kV4 dc4 pm4 cd4 ct4 : Value}
    (a4 : PySem.W.nsIn K mainGlobals "row_of" = some (some (.ref f4))) (l4 : K.lookup f4 = some ⟨oc4, od4, .func (PySem.W.fnOf "row_of" "row_of" (defArgs s_row_of) (defBody s_row_of) (defScope s_row_of) .none kV4 dc4 pm4 an4 cd4 ct4), sl4⟩) (q4 : PySem.W.codeIn K cd4 "row_of" = true) (k4 : PySem.W.keepIn K (.ref f4) = true)
    {f5 : Addr} {od5 an5 : Option Addr} {sl5 : Array (Option Value)} {oc5 kV5 dc5 pm5 cd5 ct5 : Value}
    (a5 : PySem.W.nsIn K mainGlobals "row_length" = some (some (.ref f5))) (l5 : K.lookup f5 = some ⟨oc5, od5, .func (PySem.W.fnOf "row_length" "row_length" (defArgs s_row_length) (defBody s_row_length) (defScope s_row_length) .none kV5 dc5 pm5 an5 cd5 ct5), sl5⟩) (q5 : PySem.W.codeIn K cd5 "row_length" = true) (k5 : PySem.W.keepIn K (.ref f5) = true)
    {f6 : Addr} {od6 an6 : Option Addr} {sl6 : Array (Option Value)} {oc6 kV6 dc6 pm6 cd6 ct6 : Value}
    (a6 : PySem.W.nsIn K mainGlobals "code_of" = some (some (.ref f6))) (l6 : K.lookup f6 = some ⟨oc6, od6, .func (PySem.W.fnOf "code_of" "code_of" (defArgs s_code_of) (defBody s_code_of) (defScope s_code_of) .none kV6 dc6 pm6 an6 cd6 ct6), sl6⟩) (q6 : PySem.W.codeIn K cd6 "code_of" = true) (k6 : PySem.W.keepIn K (.ref f6) = true)
    {f7 : Addr} {od7 an7 : Option Addr} {sl7 : Array (Option Value)} {oc7 kV7 dc7 pm7 cd7 ct7 : Value}
    (a7 : PySem.W.nsIn K mainGlobals "is_shortest" = some (some (.ref f7))) (l7 : K.lookup f7 = some ⟨oc7, od7, .func (PySem.W.fnOf "is_shortest" "is_shortest" (defArgs s_is_shortest) (defBody s_is_shortest) (defScope s_is_shortest) .none kV7 dc7 pm7 an7 cd7 ct7), sl7⟩) (q7 : PySem.W.codeIn K cd7 "is_shortest" = true) (k7 : PySem.W.keepIn K (.ref f7) = true)
    {f8 : Addr} {od8 an8 : Option Addr} {sl8 : Array (Option Value)} {oc8 kV8 dc8 pm8 cd8 ct8 : Value}
    (a8 : PySem.W.nsIn K mainGlobals "is_integer" = some (some (.ref f8))) (l8 : K.lookup f8 = some ⟨oc8, od8, .func (PySem.W.fnOf "is_integer" "is_integer" (defArgs s_is_integer) (defBody s_is_integer) (defScope s_is_integer) .none kV8 dc8 pm8 an8 cd8 ct8), sl8⟩) (q8 : PySem.W.codeIn K cd8 "is_integer" = true) (k8 : PySem.W.keepIn K (.ref f8) = true)
    {f9 : Addr} {od9 an9 : Option Addr} {sl9 : Array (Option Value)} {oc9 kV9 dc9 pm9 cd9 ct9 : Value}
    (a9 : PySem.W.nsIn K mainGlobals "is_worded" = some (some (.ref f9))) (l9 : K.lookup f9 = some ⟨oc9, od9, .func (PySem.W.fnOf "is_worded" "is_worded" (defArgs s_is_worded) (defBody s_is_worded) (defScope s_is_worded) .none kV9 dc9 pm9 an9 cd9 ct9), sl9⟩) (q9 : PySem.W.codeIn K cd9 "is_worded" = true) (k9 : PySem.W.keepIn K (.ref f9) = true)
    {f10 : Addr} {od10 an10 : Option Addr} {sl10 : Array (Option Value)} {oc10 kV10 dc10 pm10 cd10 ct10 : Value}
    (a10 : PySem.W.nsIn K mainGlobals "moved_or_none" = some (some (.ref f10))) (l10 : K.lookup f10 = some ⟨oc10, od10, .func (PySem.W.fnOf "moved_or_none" "moved_or_none" (defArgs s_moved_or_none) (defBody s_moved_or_none) (defScope s_moved_or_none) .none kV10 dc10 pm10 an10 cd10 ct10), sl10⟩) (q10 : PySem.W.codeIn K cd10 "moved_or_none" = true) (k10 : PySem.W.keepIn K (.ref f10) = true)
    {f11 : Addr} {od11 an11 : Option Addr} {sl11 : Array (Option Value)} {oc11 kV11 dc11 pm11 cd11 ct11 : Value}
    (a11 : PySem.W.nsIn K mainGlobals "with_last" = some (some (.ref f11))) (l11 : K.lookup f11 = some ⟨oc11, od11, .func (PySem.W.fnOf "with_last" "with_last" (defArgs s_with_last) (defBody s_with_last) (defScope s_with_last) .none kV11 dc11 pm11 an11 cd11 ct11), sl11⟩) (q11 : PySem.W.codeIn K cd11 "with_last" = true) (k11 : PySem.W.keepIn K (.ref f11) = true)
    {f12 : Addr} {od12 an12 : Option Addr} {sl12 : Array (Option Value)} {oc12 kV12 dc12 pm12 cd12 ct12 : Value}
    (a12 : PySem.W.nsIn K mainGlobals "is_move" = some (some (.ref f12))) (l12 : K.lookup f12 = some ⟨oc12, od12, .func (PySem.W.fnOf "is_move" "is_move" (defArgs s_is_move) (defBody s_is_move) (defScope s_is_move) .none kV12 dc12 pm12 an12 cd12 ct12), sl12⟩) (q12 : PySem.W.codeIn K cd12 "is_move" = true) (k12 : PySem.W.keepIn K (.ref f12) = true)
    {f13 : Addr} {od13 an13 : Option Addr} {sl13 : Array (Option Value)} {oc13 kV13 dc13 pm13 cd13 ct13 : Value}
    (a13 : PySem.W.nsIn K mainGlobals "row_fault" = some (some (.ref f13))) (l13 : K.lookup f13 = some ⟨oc13, od13, .func (PySem.W.fnOf "row_fault" "row_fault" (defArgs s_row_fault) (defBody s_row_fault) (defScope s_row_fault) .none kV13 dc13 pm13 an13 cd13 ct13), sl13⟩) (q13 : PySem.W.codeIn K cd13 "row_fault" = true) (k13 : PySem.W.keepIn K (.ref f13) = true)
    {f14 : Addr} {od14 an14 : Option Addr} {sl14 : Array (Option Value)} {oc14 kV14 dc14 pm14 cd14 ct14 : Value}
    (a14 : PySem.W.nsIn K mainGlobals "shortening_row" = some (some (.ref f14))) (l14 : K.lookup f14 = some ⟨oc14, od14, .func (PySem.W.fnOf "shortening_row" "shortening_row" (defArgs s_shortening_row) (defBody s_shortening_row) (defScope s_shortening_row) .none kV14 dc14 pm14 an14 cd14 ct14), sl14⟩) (q14 : PySem.W.codeIn K cd14 "shortening_row" = true) (k14 : PySem.W.keepIn K (.ref f14) = true)
    {f15 : Addr} {od15 an15 : Option Addr} {sl15 : Array (Option Value)} {oc15 kV15 dc15 pm15 cd15 ct15 : Value}
    (a15 : PySem.W.nsIn K mainGlobals "judge_shortening_row" = some (some (.ref f15))) (l15 : K.lookup f15 = some ⟨oc15, od15, .func (PySem.W.fnOf "judge_shortening_row" "judge_shortening_row" (defArgs s_judge_shortening_row) (defBody s_judge_shortening_row) (defScope s_judge_shortening_row) .none kV15 dc15 pm15 an15 cd15 ct15), sl15⟩) (q15 : PySem.W.codeIn K cd15 "judge_shortening_row" = true) (k15 : PySem.W.keepIn K (.ref f15) = true)
    {f16 : Addr} {od16 an16 : Option Addr} {sl16 : Array (Option Value)} {oc16 kV16 dc16 pm16 cd16 ct16 : Value}
    (a16 : PySem.W.nsIn K mainGlobals "_law_source" = some (some (.ref f16))) (l16 : K.lookup f16 = some ⟨oc16, od16, .func (PySem.W.fnOf "_law_source" "_law_source" (defArgs s__law_source) (defBody s__law_source) (defScope s__law_source) .none kV16 dc16 pm16 an16 cd16 ct16), sl16⟩) (q16 : PySem.W.codeIn K cd16 "_law_source" = true) (k16 : PySem.W.keepIn K (.ref f16) = true)
    {f17 : Addr} {od17 an17 : Option Addr} {sl17 : Array (Option Value)} {oc17 kV17 dc17 pm17 cd17 ct17 : Value}
    (a17 : PySem.W.nsIn K mainGlobals "_law_pick" = some (some (.ref f17))) (l17 : K.lookup f17 = some ⟨oc17, od17, .func (PySem.W.fnOf "_law_pick" "_law_pick" (defArgs s__law_pick) (defBody s__law_pick) (defScope s__law_pick) .none kV17 dc17 pm17 an17 cd17 ct17), sl17⟩) (q17 : PySem.W.codeIn K cd17 "_law_pick" = true) (k17 : PySem.W.keepIn K (.ref f17) = true)
    {f18 : Addr} {od18 an18 : Option Addr} {sl18 : Array (Option Value)} {oc18 kV18 dc18 pm18 cd18 ct18 : Value}
    (a18 : PySem.W.nsIn K mainGlobals "_law_of" = some (some (.ref f18))) (l18 : K.lookup f18 = some ⟨oc18, od18, .func (PySem.W.fnOf "_law_of" "_law_of" (defArgs s__law_of) (defBody s__law_of) (defScope s__law_of) .none kV18 dc18 pm18 an18 cd18 ct18), sl18⟩) (q18 : PySem.W.codeIn K cd18 "_law_of" = true) (k18 : PySem.W.keepIn K (.ref f18) = true)
    {f19 : Addr} {od19 an19 : Option Addr} {sl19 : Array (Option Value)} {oc19 kV19 dc19 pm19 cd19 ct19 : Value}
    (a19 : PySem.W.nsIn K mainGlobals "_law_mixed" = some (some (.ref f19))) (l19 : K.lookup f19 = some ⟨oc19, od19, .func (PySem.W.fnOf "_law_mixed" "_law_mixed" (defArgs s__law_mixed) (defBody s__law_mixed) (defScope s__law_mixed) .none kV19 dc19 pm19 an19 cd19 ct19), sl19⟩) (q19 : PySem.W.codeIn K cd19 "_law_mixed" = true) (k19 : PySem.W.keepIn K (.ref f19) = true)
    {f20 : Addr} {od20 an20 : Option Addr} {sl20 : Array (Option Value)} {oc20 kV20 dc20 pm20 cd20 ct20 : Value}
    (a20 : PySem.W.nsIn K mainGlobals "_law_row" = some (some (.ref f20))) (l20 : K.lookup f20 = some ⟨oc20, od20, .func (PySem.W.fnOf "_law_row" "_law_row" (defArgs s__law_row) (defBody s__law_row) (defScope s__law_row) .none kV20 dc20 pm20 an20 cd20 ct20), sl20⟩) (q20 : PySem.W.codeIn K cd20 "_law_row" = true) (k20 : PySem.W.keepIn K (.ref f20) = true)
    {f21 : Addr} {od21 an21 : Option Addr} {sl21 : Array (Option Value)} {oc21 kV21 dc21 pm21 cd21 ct21 : Value}
    (a21 : PySem.W.nsIn K mainGlobals "_law_swapped" = some (some (.ref f21))) (l21 : K.lookup f21 = some ⟨oc21, od21, .func (PySem.W.fnOf "_law_swapped" "_law_swapped" (defArgs s__law_swapped) (defBody s__law_swapped) (defScope s__law_swapped) .none kV21 dc21 pm21 an21 cd21 ct21), sl21⟩) (q21 : PySem.W.codeIn K cd21 "_law_swapped" = true) (k21 : PySem.W.keepIn K (.ref f21) = true)
    {f22 : Addr} {od22 an22 : Option Addr} {sl22 : Array (Option Value)} {oc22 kV22 dc22 pm22 cd22 ct22 : Value}
    (a22 : PySem.W.nsIn K mainGlobals "_law_led" = some (some (.ref f22))) (l22 : K.lookup f22 = some ⟨oc22, od22, .func (PySem.W.fnOf "_law_led" "_law_led" (defArgs s__law_led) (defBody s__law_led) (defScope s__law_led) .none kV22 dc22 pm22 an22 cd22 ct22), sl22⟩) (q22 : PySem.W.codeIn K cd22 "_law_led" = true) (k22 : PySem.W.keepIn K (.ref f22) = true)
    {f23 : Addr} {od23 an23 : Option Addr} {sl23 : Array (Option Value)} {oc23 kV23 dc23 pm23 cd23 ct23 : Value}
    (a23 : PySem.W.nsIn K mainGlobals "_law_drops" = some (some (.ref f23))) (l23 : K.lookup f23 = some ⟨oc23, od23, .func (PySem.W.fnOf "_law_drops" "_law_drops" (defArgs s__law_drops) (defBody s__law_drops) (defScope s__law_drops) .none kV23 dc23 pm23 an23 cd23 ct23), sl23⟩) (q23 : PySem.W.codeIn K cd23 "_law_drops" = true) (k23 : PySem.W.keepIn K (.ref f23) = true)
    {f24 : Addr} {od24 an24 : Option Addr} {sl24 : Array (Option Value)} {oc24 kV24 dc24 pm24 cd24 ct24 : Value}
    (a24 : PySem.W.nsIn K mainGlobals "_law_lot" = some (some (.ref f24))) (l24 : K.lookup f24 = some ⟨oc24, od24, .func (PySem.W.fnOf "_law_lot" "_law_lot" (defArgs s__law_lot) (defBody s__law_lot) (defScope s__law_lot) .none kV24 dc24 pm24 an24 cd24 ct24), sl24⟩) (q24 : PySem.W.codeIn K cd24 "_law_lot" = true) (k24 : PySem.W.keepIn K (.ref f24) = true)
    {f25 : Addr} {od25 an25 : Option Addr} {sl25 : Array (Option Value)} {oc25 kV25 dc25 pm25 cd25 ct25 : Value}
    (a25 : PySem.W.nsIn K mainGlobals "_law_number" = some (some (.ref f25))) (l25 : K.lookup f25 = some ⟨oc25, od25, .func (PySem.W.fnOf "_law_number" "_law_number" (defArgs s__law_number) (defBody s__law_number) (defScope s__law_number) .none kV25 dc25 pm25 an25 cd25 ct25), sl25⟩) (q25 : PySem.W.codeIn K cd25 "_law_number" = true) (k25 : PySem.W.keepIn K (.ref f25) = true)
    {f26 : Addr} {od26 an26 : Option Addr} {sl26 : Array (Option Value)} {oc26 kV26 dc26 pm26 cd26 ct26 : Value}
    (a26 : PySem.W.nsIn K mainGlobals "_law_way" = some (some (.ref f26))) (l26 : K.lookup f26 = some ⟨oc26, od26, .func (PySem.W.fnOf "_law_way" "_law_way" (defArgs s__law_way) (defBody s__law_way) (defScope s__law_way) .none kV26 dc26 pm26 an26 cd26 ct26), sl26⟩) (q26 : PySem.W.codeIn K cd26 "_law_way" = true) (k26 : PySem.W.keepIn K (.ref f26) = true)
    {f27 : Addr} {od27 an27 : Option Addr} {sl27 : Array (Option Value)} {oc27 kV27 dc27 pm27 cd27 ct27 : Value}
    (a27 : PySem.W.nsIn K mainGlobals "_law_drawn_word" = some (some (.ref f27))) (l27 : K.lookup f27 = some ⟨oc27, od27, .func (PySem.W.fnOf "_law_drawn_word" "_law_drawn_word" (defArgs s__law_drawn_word) (defBody s__law_drawn_word) (defScope s__law_drawn_word) .none kV27 dc27 pm27 an27 cd27 ct27), sl27⟩) (q27 : PySem.W.codeIn K cd27 "_law_drawn_word" = true) (k27 : PySem.W.keepIn K (.ref f27) = true)
    {f28 : Addr} {od28 an28 : Option Addr} {sl28 : Array (Option Value)} {oc28 kV28 dc28 pm28 cd28 ct28 : Value}
    (a28 : PySem.W.nsIn K mainGlobals "_law_moved" = some (some (.ref f28))) (l28 : K.lookup f28 = some ⟨oc28, od28, .func (PySem.W.fnOf "_law_moved" "_law_moved" (defArgs s__law_moved) (defBody s__law_moved) (defScope s__law_moved) .none kV28 dc28 pm28 an28 cd28 ct28), sl28⟩) (q28 : PySem.W.codeIn K cd28 "_law_moved" = true) (k28 : PySem.W.keepIn K (.ref f28) = true)
    {f29 : Addr} {od29 an29 : Option Addr} {sl29 : Array (Option Value)} {oc29 kV29 dc29 pm29 cd29 ct29 : Value}
    (a29 : PySem.W.nsIn K mainGlobals "_law_is_move" = some (some (.ref f29))) (l29 : K.lookup f29 = some ⟨oc29, od29, .func (PySem.W.fnOf "_law_is_move" "_law_is_move" (defArgs s__law_is_move) (defBody s__law_is_move) (defScope s__law_is_move) .none kV29 dc29 pm29 an29 cd29 ct29), sl29⟩) (q29 : PySem.W.codeIn K cd29 "_law_is_move" = true) (k29 : PySem.W.keepIn K (.ref f29) = true)
    {f30 : Addr} {od30 an30 : Option Addr} {sl30 : Array (Option Value)} {oc30 kV30 dc30 pm30 cd30 ct30 : Value}
    (a30 : PySem.W.nsIn K mainGlobals "_law_moves_fault" = some (some (.ref f30))) (l30 : K.lookup f30 = some ⟨oc30, od30, .func (PySem.W.fnOf "_law_moves_fault" "_law_moves_fault" (defArgs s__law_moves_fault) (defBody s__law_moves_fault) (defScope s__law_moves_fault) .none kV30 dc30 pm30 an30 cd30 ct30), sl30⟩) (q30 : PySem.W.codeIn K cd30 "_law_moves_fault" = true) (k30 : PySem.W.keepIn K (.ref f30) = true)
    {f31 : Addr} {od31 an31 : Option Addr} {sl31 : Array (Option Value)} {oc31 kV31 dc31 pm31 cd31 ct31 : Value}
    (a31 : PySem.W.nsIn K mainGlobals "_law_bent" = some (some (.ref f31))) (l31 : K.lookup f31 = some ⟨oc31, od31, .func (PySem.W.fnOf "_law_bent" "_law_bent" (defArgs s__law_bent) (defBody s__law_bent) (defScope s__law_bent) .none kV31 dc31 pm31 an31 cd31 ct31), sl31⟩) (q31 : PySem.W.codeIn K cd31 "_law_bent" = true) (k31 : PySem.W.keepIn K (.ref f31) = true)
    {f32 : Addr} {od32 an32 : Option Addr} {sl32 : Array (Option Value)} {oc32 kV32 dc32 pm32 cd32 ct32 : Value}
    (a32 : PySem.W.nsIn K mainGlobals "_law_fault" = some (some (.ref f32))) (l32 : K.lookup f32 = some ⟨oc32, od32, .func (PySem.W.fnOf "_law_fault" "_law_fault" (defArgs s__law_fault) (defBody s__law_fault) (defScope s__law_fault) .none kV32 dc32 pm32 an32 cd32 ct32), sl32⟩) (q32 : PySem.W.codeIn K cd32 "_law_fault" = true) (k32 : PySem.W.keepIn K (.ref f32) = true)
    {f33 : Addr} {od33 an33 : Option Addr} {sl33 : Array (Option Value)} {oc33 kV33 dc33 pm33 cd33 ct33 : Value}
    (a33 : PySem.W.nsIn K mainGlobals "law" = some (some (.ref f33))) (l33 : K.lookup f33 = some ⟨oc33, od33, .func (PySem.W.fnOf "law" "law" (defArgs s_law) (defBody s_law) (defScope s_law) .none kV33 dc33 pm33 an33 cd33 ct33), sl33⟩) (q33 : PySem.W.codeIn K cd33 "law" = true) (k33 : PySem.W.keepIn K (.ref f33) = true)
    (z_abs : PySem.W.nsIn K mainGlobals "abs" = some none)
    (z_all : PySem.W.nsIn K mainGlobals "all" = some none)
    (z_bool : PySem.W.nsIn K mainGlobals "bool" = some none)
    (z_enumerate : PySem.W.nsIn K mainGlobals "enumerate" = some none)
    (z_int : PySem.W.nsIn K mainGlobals "int" = some none)
    (z_isinstance : PySem.W.nsIn K mainGlobals "isinstance" = some none)
    (z_len : PySem.W.nsIn K mainGlobals "len" = some none)
    (z_list : PySem.W.nsIn K mainGlobals "list" = some none)
    (z_max : PySem.W.nsIn K mainGlobals "max" = some none)
    (z_range : PySem.W.nsIn K mainGlobals "range" = some none)
    (z_repr : PySem.W.nsIn K mainGlobals "repr" = some none)
    (z_sorted : PySem.W.nsIn K mainGlobals "sorted" = some none)
    (z_str : PySem.W.nsIn K mainGlobals "str" = some none)
    (z_sum : PySem.W.nsIn K mainGlobals "sum" = some none)
    (z_tuple : PySem.W.nsIn K mainGlobals "tuple" = some none)
    {a_WORDS : Addr} {n_WORDS : Nat} {sl_WORDS : Array (Option Value)} {tWORDS_0 tWORDS_1 : Tok} (u_WORDS : PySem.W.nsIn K mainGlobals "WORDS" = some (some (.ref a_WORDS))) (v_WORDS : K.lookup a_WORDS = some ⟨.type "tuple", none, .seq #[.str "far" tWORDS_0, .str "three" tWORDS_1] n_WORDS, sl_WORDS⟩)
    : ∃ fd : FuncData, (∀ (s : Shared) (v : Value), BindsTo s fd ⟨[v], []⟩ [("script", v)]) ∧ ∀ base : Heap, K.In base → base.Ns mainGlobals mg → SM base → FnG l.prog w K mg base CX0 35 fa fd ["script"] (spLaw K) := by
  have e := hfa.symm.trans (PySem.W.mg_of X G a33)
  cases e
  have d0 : DefAt K mg "plain" s_plain ["n"] := ⟨_, _, fun_mk l0 q0 k0, PySem.W.mg_of X G a0, fun us hl => match us, hl with | [_], _ => rfl⟩
  have d1 : DefAt K mg "exchanged" s_exchanged ["row", "i", "j"] := ⟨_, _, fun_mk l1 q1 k1, PySem.W.mg_of X G a1, fun us hl => match us, hl with | [_, _, _], _ => rfl⟩
  have d2 : DefAt K mg "swapped" s_swapped ["row", "k"] := ⟨_, _, fun_mk l2 q2 k2, PySem.W.mg_of X G a2, fun us hl => match us, hl with | [_, _], _ => rfl⟩
  have d3 : DefAt K mg "led" s_led ["row", "word"] := ⟨_, _, fun_mk l3 q3 k3, PySem.W.mg_of X G a3, fun us hl => match us, hl with | [_, _], _ => rfl⟩
  have d4 : DefAt K mg "row_of" s_row_of ["n", "word"] := ⟨_, _, fun_mk l4 q4 k4, PySem.W.mg_of X G a4, fun us hl => match us, hl with | [_, _], _ => rfl⟩
  have d5 : DefAt K mg "row_length" s_row_length ["row"] := ⟨_, _, fun_mk l5 q5 k5, PySem.W.mg_of X G a5, fun us hl => match us, hl with | [_], _ => rfl⟩
  have d6 : DefAt K mg "code_of" s_code_of ["row"] := ⟨_, _, fun_mk l6 q6 k6, PySem.W.mg_of X G a6, fun us hl => match us, hl with | [_], _ => rfl⟩
  have d7 : DefAt K mg "is_shortest" s_is_shortest ["n", "word"] := ⟨_, _, fun_mk l7 q7 k7, PySem.W.mg_of X G a7, fun us hl => match us, hl with | [_, _], _ => rfl⟩
  have d8 : DefAt K mg "is_integer" s_is_integer ["value"] := ⟨_, _, fun_mk l8 q8 k8, PySem.W.mg_of X G a8, fun us hl => match us, hl with | [_], _ => rfl⟩
  have d9 : DefAt K mg "is_worded" s_is_worded ["value", "words", "many"] := ⟨_, _, fun_mk l9 q9 k9, PySem.W.mg_of X G a9, fun us hl => match us, hl with | [_, _, _], _ => rfl⟩
  have d10 : DefAt K mg "moved_or_none" s_moved_or_none ["word", "move"] := ⟨_, _, fun_mk l10 q10 k10, PySem.W.mg_of X G a10, fun us hl => match us, hl with | [_, _], _ => rfl⟩
  have d11 : DefAt K mg "with_last" s_with_last ["row_way", "k"] := ⟨_, _, fun_mk l11 q11 k11, PySem.W.mg_of X G a11, fun us hl => match us, hl with | [_, _], _ => rfl⟩
  have d12 : DefAt K mg "is_move" s_is_move ["value", "words"] := ⟨_, _, fun_mk l12 q12 k12, PySem.W.mg_of X G a12, fun us hl => match us, hl with | [_, _], _ => rfl⟩
  have d13 : DefAt K mg "row_fault" s_row_fault ["word", "value", "words"] := ⟨_, _, fun_mk l13 q13 k13, PySem.W.mg_of X G a13, fun us hl => match us, hl with | [_, _, _], _ => rfl⟩
  have d14 : DefAt K mg "shortening_row" s_shortening_row ["n", "word"] := ⟨_, _, fun_mk l14 q14 k14, PySem.W.mg_of X G a14, fun us hl => match us, hl with | [_, _], _ => rfl⟩
  have d15 : DefAt K mg "judge_shortening_row" s_judge_shortening_row ["n", "word", "value"] := ⟨_, _, fun_mk l15 q15 k15, PySem.W.mg_of X G a15, fun us hl => match us, hl with | [_, _, _], _ => rfl⟩
  have d16 : DefAt K mg "_law_source" s__law_source ["script"] := ⟨_, _, fun_mk l16 q16 k16, PySem.W.mg_of X G a16, fun us hl => match us, hl with | [_], _ => rfl⟩
  have d17 : DefAt K mg "_law_pick" s__law_pick ["source", "many"] := ⟨_, _, fun_mk l17 q17 k17, PySem.W.mg_of X G a17, fun us hl => match us, hl with | [_, _], _ => rfl⟩
  have d18 : DefAt K mg "_law_of" s__law_of ["source", "some"] := ⟨_, _, fun_mk l18 q18 k18, PySem.W.mg_of X G a18, fun us hl => match us, hl with | [_, _], _ => rfl⟩
  have d19 : DefAt K mg "_law_mixed" s__law_mixed ["source", "things"] := ⟨_, _, fun_mk l19 q19 k19, PySem.W.mg_of X G a19, fun us hl => match us, hl with | [_, _], _ => rfl⟩
  have d20 : DefAt K mg "_law_row" s__law_row ["source", "n"] := ⟨_, _, fun_mk l20 q20 k20, PySem.W.mg_of X G a20, fun us hl => match us, hl with | [_, _], _ => rfl⟩
  have d21 : DefAt K mg "_law_swapped" s__law_swapped ["row", "k"] := ⟨_, _, fun_mk l21 q21 k21, PySem.W.mg_of X G a21, fun us hl => match us, hl with | [_, _], _ => rfl⟩
  have d22 : DefAt K mg "_law_led" s__law_led ["row", "word"] := ⟨_, _, fun_mk l22 q22 k22, PySem.W.mg_of X G a22, fun us hl => match us, hl with | [_, _], _ => rfl⟩
  have d23 : DefAt K mg "_law_drops" s__law_drops ["row"] := ⟨_, _, fun_mk l23 q23 k23, PySem.W.mg_of X G a23, fun us hl => match us, hl with | [_], _ => rfl⟩
  have d24 : DefAt K mg "_law_lot" s__law_lot ["row"] := ⟨_, _, fun_mk l24 q24 k24, PySem.W.mg_of X G a24, fun us hl => match us, hl with | [_], _ => rfl⟩
  have d25 : DefAt K mg "_law_number" s__law_number ["value"] := ⟨_, _, fun_mk l25 q25 k25, PySem.W.mg_of X G a25, fun us hl => match us, hl with | [_], _ => rfl⟩
  have d26 : DefAt K mg "_law_way" s__law_way ["source", "row"] := ⟨_, _, fun_mk l26 q26 k26, PySem.W.mg_of X G a26, fun us hl => match us, hl with | [_, _], _ => rfl⟩
  have d27 : DefAt K mg "_law_drawn_word" s__law_drawn_word ["source", "n", "most"] := ⟨_, _, fun_mk l27 q27 k27, PySem.W.mg_of X G a27, fun us hl => match us, hl with | [_, _, _], _ => rfl⟩
  have d28 : DefAt K mg "_law_moved" s__law_moved ["word", "move"] := ⟨_, _, fun_mk l28 q28 k28, PySem.W.mg_of X G a28, fun us hl => match us, hl with | [_, _], _ => rfl⟩
  have d29 : DefAt K mg "_law_is_move" s__law_is_move ["value", "words"] := ⟨_, _, fun_mk l29 q29 k29, PySem.W.mg_of X G a29, fun us hl => match us, hl with | [_, _], _ => rfl⟩
  have d30 : DefAt K mg "_law_moves_fault" s__law_moves_fault ["word", "value", "words"] := ⟨_, _, fun_mk l30 q30 k30, PySem.W.mg_of X G a30, fun us hl => match us, hl with | [_, _, _], _ => rfl⟩
  have d31 : DefAt K mg "_law_bent" s__law_bent ["source", "value"] := ⟨_, _, fun_mk l31 q31 k31, PySem.W.mg_of X G a31, fun us hl => match us, hl with | [_, _], _ => rfl⟩
  have d32 : DefAt K mg "_law_fault" s__law_fault ["n", "word", "value"] := ⟨_, _, fun_mk l32 q32 k32, PySem.W.mg_of X G a32, fun us hl => match us, hl with | [_, _, _], _ => rfl⟩
  have d33 : DefAt K mg "law" s_law ["script"] := ⟨_, _, fun_mk l33 q33 k33, PySem.W.mg_of X G a33, fun us hl => match us, hl with | [_], _ => rfl⟩
  have m_abs := PySem.W.mg_none_of X G z_abs
  have m_all := PySem.W.mg_none_of X G z_all
  have m_bool := PySem.W.mg_none_of X G z_bool
  have m_enumerate := PySem.W.mg_none_of X G z_enumerate
  have m_int := PySem.W.mg_none_of X G z_int
  have m_isinstance := PySem.W.mg_none_of X G z_isinstance
  have m_len := PySem.W.mg_none_of X G z_len
  have m_list := PySem.W.mg_none_of X G z_list
  have m_max := PySem.W.mg_none_of X G z_max
  have m_range := PySem.W.mg_none_of X G z_range
  have m_repr := PySem.W.mg_none_of X G z_repr
  have m_sorted := PySem.W.mg_none_of X G z_sorted
  have m_str := PySem.W.mg_none_of X G z_str
  have m_sum := PySem.W.mg_none_of X G z_sum
  have m_tuple := PySem.W.mg_none_of X G z_tuple
  have hc_WORDS : ∃ a, mg "WORDS" = some (.ref a) ∧ KTup K a ((["far", "three"] : List Str).map V.str) := ⟨_, PySem.W.mg_of X G u_WORDS, _, _, _, v_WORDS, rfl, rfl, rfl, (show 2 ≤ sizeLine by decide), (.cons ⟨_, rfl⟩ (.cons ⟨_, rfl⟩ .nil))⟩
  refine ⟨PySem.W.fnOf "law" "law" (defArgs s_law) (defBody s_law) (defScope s_law) .none kV33 dc33 pm33 an33 cd33 ct33, fun s v => .of_eq rfl, fun base _ _ hsm => ?_⟩
  have C__law_source := ok__law_source (P := l.prog) (wo := w) (base := base) m_abs m_all m_bool m_enumerate m_int m_isinstance m_len m_list m_max m_range m_repr m_sorted m_str m_sum m_tuple hc_WORDS hsm d16
  have C__law_pick := ok__law_pick (P := l.prog) (wo := w) (base := base) m_abs m_all m_bool m_enumerate m_int m_isinstance m_len m_list m_max m_range m_repr m_sorted m_str m_sum m_tuple hc_WORDS hsm d17
  have C__law_drops := ok__law_drops (P := l.prog) (wo := w) (base := base) m_abs m_all m_bool m_enumerate m_int m_isinstance m_len m_list m_max m_range m_repr m_sorted m_str m_sum m_tuple hc_WORDS hsm d23
  have C__law_of := ok__law_of (P := l.prog) (wo := w) (base := base) m_abs m_all m_bool m_enumerate m_int m_isinstance m_len m_list m_max m_range m_repr m_sorted m_str m_sum m_tuple hc_WORDS hsm d18 C__law_pick
  have C__law_swapped := ok__law_swapped (P := l.prog) (wo := w) (base := base) m_abs m_all m_bool m_enumerate m_int m_isinstance m_len m_list m_max m_range m_repr m_sorted m_str m_sum m_tuple hc_WORDS hsm d21
  have C__law_way := ok__law_way (P := l.prog) (wo := w) (base := base) m_abs m_all m_bool m_enumerate m_int m_isinstance m_len m_list m_max m_range m_repr m_sorted m_str m_sum m_tuple hc_WORDS hsm d26 C__law_drops C__law_of C__law_swapped
  have C__law_mixed := ok__law_mixed (P := l.prog) (wo := w) (base := base) m_abs m_all m_bool m_enumerate m_int m_isinstance m_len m_list m_max m_range m_repr m_sorted m_str m_sum m_tuple hc_WORDS hsm d19 C__law_pick
  have C__law_row := ok__law_row (P := l.prog) (wo := w) (base := base) m_abs m_all m_bool m_enumerate m_int m_isinstance m_len m_list m_max m_range m_repr m_sorted m_str m_sum m_tuple hc_WORDS hsm d20 C__law_pick C__law_mixed
  have C__law_drawn_word := ok__law_drawn_word (P := l.prog) (wo := w) (base := base) m_abs m_all m_bool m_enumerate m_int m_isinstance m_len m_list m_max m_range m_repr m_sorted m_str m_sum m_tuple hc_WORDS hsm d27 C__law_pick C__law_way C__law_row
  have C_code_of := ok_code_of (P := l.prog) (wo := w) (base := base) m_abs m_all m_bool m_enumerate m_int m_isinstance m_len m_list m_max m_range m_repr m_sorted m_str m_sum m_tuple hc_WORDS hsm d6
  have C_row_length := ok_row_length (P := l.prog) (wo := w) (base := base) m_abs m_all m_bool m_enumerate m_int m_isinstance m_len m_list m_max m_range m_repr m_sorted m_str m_sum m_tuple hc_WORDS hsm d5 C_code_of
  have C_exchanged := ok_exchanged (P := l.prog) (wo := w) (base := base) m_abs m_all m_bool m_enumerate m_int m_isinstance m_len m_list m_max m_range m_repr m_sorted m_str m_sum m_tuple hc_WORDS hsm d1
  have C_swapped := ok_swapped (P := l.prog) (wo := w) (base := base) m_abs m_all m_bool m_enumerate m_int m_isinstance m_len m_list m_max m_range m_repr m_sorted m_str m_sum m_tuple hc_WORDS hsm d2 C_exchanged
  have C_led := ok_led (P := l.prog) (wo := w) (base := base) m_abs m_all m_bool m_enumerate m_int m_isinstance m_len m_list m_max m_range m_repr m_sorted m_str m_sum m_tuple hc_WORDS hsm d3 C_swapped
  have C_plain := ok_plain (P := l.prog) (wo := w) (base := base) m_abs m_all m_bool m_enumerate m_int m_isinstance m_len m_list m_max m_range m_repr m_sorted m_str m_sum m_tuple hc_WORDS hsm d0
  have C_row_of := ok_row_of (P := l.prog) (wo := w) (base := base) m_abs m_all m_bool m_enumerate m_int m_isinstance m_len m_list m_max m_range m_repr m_sorted m_str m_sum m_tuple hc_WORDS hsm d4 C_led C_plain
  have C_is_shortest := ok_is_shortest (P := l.prog) (wo := w) (base := base) m_abs m_all m_bool m_enumerate m_int m_isinstance m_len m_list m_max m_range m_repr m_sorted m_str m_sum m_tuple hc_WORDS hsm d7 C_row_length C_row_of
  have C_with_last := ok_with_last (P := l.prog) (wo := w) (base := base) m_abs m_all m_bool m_enumerate m_int m_isinstance m_len m_list m_max m_range m_repr m_sorted m_str m_sum m_tuple hc_WORDS hsm d11
  have C_shortening_row := ok_shortening_row (P := l.prog) (wo := w) (base := base) m_abs m_all m_bool m_enumerate m_int m_isinstance m_len m_list m_max m_range m_repr m_sorted m_str m_sum m_tuple hc_WORDS hsm d14 C_is_shortest C_with_last
  have C__law_number := ok__law_number (P := l.prog) (wo := w) (base := base) m_abs m_all m_bool m_enumerate m_int m_isinstance m_len m_list m_max m_range m_repr m_sorted m_str m_sum m_tuple hc_WORDS hsm d25
  have C__law_is_move := ok__law_is_move (P := l.prog) (wo := w) (base := base) m_abs m_all m_bool m_enumerate m_int m_isinstance m_len m_list m_max m_range m_repr m_sorted m_str m_sum m_tuple hc_WORDS hsm d29 C__law_number
  have C__law_moved := ok__law_moved (P := l.prog) (wo := w) (base := base) m_abs m_all m_bool m_enumerate m_int m_isinstance m_len m_list m_max m_range m_repr m_sorted m_str m_sum m_tuple hc_WORDS hsm d28
  have C__law_moves_fault := ok__law_moves_fault (P := l.prog) (wo := w) (base := base) m_abs m_all m_bool m_enumerate m_int m_isinstance m_len m_list m_max m_range m_repr m_sorted m_str m_sum m_tuple hc_WORDS hsm d30 C__law_is_move C__law_moved
  have C__law_lot := ok__law_lot (P := l.prog) (wo := w) (base := base) m_abs m_all m_bool m_enumerate m_int m_isinstance m_len m_list m_max m_range m_repr m_sorted m_str m_sum m_tuple hc_WORDS hsm d24
  have C__law_led := ok__law_led (P := l.prog) (wo := w) (base := base) m_abs m_all m_bool m_enumerate m_int m_isinstance m_len m_list m_max m_range m_repr m_sorted m_str m_sum m_tuple hc_WORDS hsm d22 C__law_swapped
  have C__law_fault := ok__law_fault (P := l.prog) (wo := w) (base := base) m_abs m_all m_bool m_enumerate m_int m_isinstance m_len m_list m_max m_range m_repr m_sorted m_str m_sum m_tuple hc_WORDS hsm d32 C__law_moves_fault C__law_lot C__law_led
  have C__law_bent := ok__law_bent (P := l.prog) (wo := w) (base := base) m_abs m_all m_bool m_enumerate m_int m_isinstance m_len m_list m_max m_range m_repr m_sorted m_str m_sum m_tuple hc_WORDS hsm d31 C__law_pick C__law_of C__law_number
  have C_is_worded := ok_is_worded (P := l.prog) (wo := w) (base := base) m_abs m_all m_bool m_enumerate m_int m_isinstance m_len m_list m_max m_range m_repr m_sorted m_str m_sum m_tuple hc_WORDS hsm d9
  have C_is_integer := ok_is_integer (P := l.prog) (wo := w) (base := base) m_abs m_all m_bool m_enumerate m_int m_isinstance m_len m_list m_max m_range m_repr m_sorted m_str m_sum m_tuple hc_WORDS hsm d8
  have C_is_move := ok_is_move (P := l.prog) (wo := w) (base := base) m_abs m_all m_bool m_enumerate m_int m_isinstance m_len m_list m_max m_range m_repr m_sorted m_str m_sum m_tuple hc_WORDS hsm d12 C_is_worded C_is_integer
  have C_moved_or_none := ok_moved_or_none (P := l.prog) (wo := w) (base := base) m_abs m_all m_bool m_enumerate m_int m_isinstance m_len m_list m_max m_range m_repr m_sorted m_str m_sum m_tuple hc_WORDS hsm d10
  have C_row_fault := ok_row_fault (P := l.prog) (wo := w) (base := base) m_abs m_all m_bool m_enumerate m_int m_isinstance m_len m_list m_max m_range m_repr m_sorted m_str m_sum m_tuple hc_WORDS hsm d13 C_is_move C_moved_or_none
  have C_judge_shortening_row := ok_judge_shortening_row (P := l.prog) (wo := w) (base := base) m_abs m_all m_bool m_enumerate m_int m_isinstance m_len m_list m_max m_range m_repr m_sorted m_str m_sum m_tuple hc_WORDS hsm d15 C_row_fault C_is_shortest
  have C_law := ok_law (P := l.prog) (wo := w) (base := base) m_abs m_all m_bool m_enumerate m_int m_isinstance m_len m_list m_max m_range m_repr m_sorted m_str m_sum m_tuple hc_WORDS hsm d33 C__law_source C__law_pick C__law_drawn_word C_shortening_row C__law_fault C__law_bent C__law_of C_judge_shortening_row
  exact lawFd (PySem.W.mg_of X G a33) l33 (C_law 0)
end Gw
open PySem PySem.W PyProof.Rows
set_option maxHeartbeats 0 in
theorem PySem.Challenge.cw_goodwebs_k74_whole_words_shortened_holds : PySem.Challenge.rw_goodwebs_k74_whole_words_shortened.Holds := by
  w_on; o_law; k_head; (case hw => w_witness2)
  k_fill
  refine Gw.walk_ofG (l := PySem.Challenge.rw_goodwebs_k74_whole_words_shortened) (n := 63) (k := 35) (x := "script") (sp := fun K => Gw.spLaw K) rfl (by decide) rfl ⟨rfl, by decide, by decide⟩ (by first | k_qdec | decide +kernel) (fun w h Y => PySem.W.kIn_of Y) ?F (fun _ _ a ns hl hS => Gw.spLaw_of hl hS)
  case F =>
    intro w mg fa h KX G hmg
    refine' Gw.all_mk KX G hmg ?a0 ?l0 ?q0 ?k0 ?a1 ?l1 ?q1 ?k1 ?a2 ?l2 ?q2 ?k2 ?a3 ?l3 ?q3 ?k3 ?a4 ?l4 ?q4 ?k4 ?a5 ?l5 ?q5 ?k5 ?a6 ?l6 ?q6 ?k6 ?a7 ?l7 ?q7 ?k7 ?a8 ?l8 ?q8 ?k8 ?a9 ?l9 ?q9 ?k9 ?a10 ?l10 ?q10 ?k10 ?a11 ?l11 ?q11 ?k11 ?a12 ?l12 ?q12 ?k12 ?a13 ?l13 ?q13 ?k13 ?a14 ?l14 ?q14 ?k14 ?a15 ?l15 ?q15 ?k15 ?a16 ?l16 ?q16 ?k16 ?a17 ?l17 ?q17 ?k17 ?a18 ?l18 ?q18 ?k18 ?a19 ?l19 ?q19 ?k19 ?a20 ?l20 ?q20 ?k20 ?a21 ?l21 ?q21 ?k21 ?a22 ?l22 ?q22 ?k22 ?a23 ?l23 ?q23 ?k23 ?a24 ?l24 ?q24 ?k24 ?a25 ?l25 ?q25 ?k25 ?a26 ?l26 ?q26 ?k26 ?a27 ?l27 ?q27 ?k27 ?a28 ?l28 ?q28 ?k28 ?a29 ?l29 ?q29 ?k29 ?a30 ?l30 ?q30 ?k30 ?a31 ?l31 ?q31 ?k31 ?a32 ?l32 ?q32 ?k32 ?a33 ?l33 ?q33 ?k33 ?z_abs ?z_all ?z_bool ?z_enumerate ?z_int ?z_isinstance ?z_len ?z_list ?z_max ?z_range ?z_repr ?z_sorted ?z_str ?z_sum ?z_tuple ?u_WORDS ?v_WORDS
    (case a0 => k_is); (case l0 => k_is); (case q0 => k_is); (case k0 => k_is); (case a1 => k_is); (case l1 => k_is); (case q1 => k_is); (case k1 => k_is); (case a2 => k_is); (case l2 => k_is); (case q2 => k_is); (case k2 => k_is); (case a3 => k_is); (case l3 => k_is); (case q3 => k_is); (case k3 => k_is); (case a4 => k_is); (case l4 => k_is); (case q4 => k_is); (case k4 => k_is); (case a5 => k_is); (case l5 => k_is); (case q5 => k_is); (case k5 => k_is); (case a6 => k_is); (case l6 => k_is); (case q6 => k_is); (case k6 => k_is); (case a7 => k_is); (case l7 => k_is); (case q7 => k_is); (case k7 => k_is); (case a8 => k_is); (case l8 => k_is); (case q8 => k_is); (case k8 => k_is); (case a9 => k_is); (case l9 => k_is); (case q9 => k_is); (case k9 => k_is); (case a10 => k_is); (case l10 => k_is); (case q10 => k_is); (case k10 => k_is); (case a11 => k_is); (case l11 => k_is); (case q11 => k_is); (case k11 => k_is); (case a12 => k_is); (case l12 => k_is); (case q12 => k_is); (case k12 => k_is); (case a13 => k_is); (case l13 => k_is); (case q13 => k_is); (case k13 => k_is); (case a14 => k_is); (case l14 => k_is); (case q14 => k_is); (case k14 => k_is); (case a15 => k_is); (case l15 => k_is); (case q15 => k_is); (case k15 => k_is); (case a16 => k_is); (case l16 => k_is); (case q16 => k_is); (case k16 => k_is); (case a17 => k_is); (case l17 => k_is); (case q17 => k_is); (case k17 => k_is); (case a18 => k_is); (case l18 => k_is); (case q18 => k_is); (case k18 => k_is); (case a19 => k_is); (case l19 => k_is); (case q19 => k_is); (case k19 => k_is); (case a20 => k_is); (case l20 => k_is); (case q20 => k_is); (case k20 => k_is); (case a21 => k_is); (case l21 => k_is); (case q21 => k_is); (case k21 => k_is); (case a22 => k_is); (case l22 => k_is); (case q22 => k_is); (case k22 => k_is); (case a23 => k_is); (case l23 => k_is); (case q23 => k_is); (case k23 => k_is); (case a24 => k_is); (case l24 => k_is); (case q24 => k_is); (case k24 => k_is); (case a25 => k_is); (case l25 => k_is); (case q25 => k_is); (case k25 => k_is); (case a26 => k_is); (case l26 => k_is); (case q26 => k_is); (case k26 => k_is); (case a27 => k_is); (case l27 => k_is); (case q27 => k_is); (case k27 => k_is); (case a28 => k_is); (case l28 => k_is); (case q28 => k_is); (case k28 => k_is); (case a29 => k_is); (case l29 => k_is); (case q29 => k_is); (case k29 => k_is); (case a30 => k_is); (case l30 => k_is); (case q30 => k_is); (case k30 => k_is); (case a31 => k_is); (case l31 => k_is); (case q31 => k_is); (case k31 => k_is); (case a32 => k_is); (case l32 => k_is); (case q32 => k_is); (case k32 => k_is); (case a33 => k_is); (case l33 => k_is); (case q33 => k_is); (case k33 => k_is); (case z_abs => k_is); (case z_all => k_is); (case z_bool => k_is); (case z_enumerate => k_is); (case z_int => k_is); (case z_isinstance => k_is); (case z_len => k_is); (case z_list => k_is); (case z_max => k_is); (case z_range => k_is); (case z_repr => k_is); (case z_sorted => k_is); (case z_str => k_is); (case z_sum => k_is); (case z_tuple => k_is); (case u_WORDS => k_is); (case v_WORDS => k_is)
