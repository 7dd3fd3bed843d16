import PyProof.Rows.All
import Wide.All
import OpenK.AllK
import Wide.FinOn
import HandS.ForMost
import HandS.ForExc
import HandS.Conv
import HandS.Style
import HandS.Zip
import HandS.Flow
import HandS.TupAny
import HandS.TupMul
import HandS.Deep
import HandS.SortRule
import HandS.SortInts
import KE.GoesEnum
import KE.GoesMore
import KE.SortData
import HandS.Dict
import HandS.Strs
import PySem.Challenge.RW_goodwebs_k83_whole_places_left_out
set_option Elab.async false
set_option linter.all false
set_option maxRecDepth 100000
set_option maxHeartbeats 4000000
namespace Gw
open PySem PySem.Spec PyProof.Rows L2

/-! ### defs called where no repr is running -/
structure RoomG (k : Nat) (A : Around) : Prop where
  room : Room k A
  gd : A.guards = some []
theorem RoomG.mono {j k : Nat} {A : Around} (r : RoomG k A) (h : j ≤ k) : RoomG j A := ⟨r.room.mono h, r.gd⟩
theorem RoomG.deeper {k : Nat} {A : Around} (r : RoomG (k + 1) A) (env : Env) : RoomG k (A.deeper env) := ⟨r.room.deeper env, r.gd⟩

structure FnG (P : Program) (w : World) (K : PySem.W.Frag) (mg : Str → Option Value) (base : Heap) (CX : CXT) (k : Nat) (f : Addr) (fd : FuncData) (ps : List Str) (sp : Sp) : Prop where
  len : ∀ vs H Q E, sp vs H Q E → vs.length = ps.length
  run : ∀ (A : Around) (outer : List Env) (s : Shared) (H : Hp) (args : Args) (us : List Value) (vs : List V) (Q : VK) (E : XK),
    RoomG k A → Env0 P w K mg base A outer s H → BindsTo s fd args (ps.zip us) → Vals vs us → sp vs H Q E →
    codeAny (model P w) A (.call (.ref f) args) (CR CX outer P w H s Q E) s

section
variable {P : Program} {w : World} {K : PySem.W.Frag} {mg : Str → Option Value} {base : Heap} {CX : CXT} {k : Nat} {f : Addr} {fd : FuncData} {ps : List Str} {sp : Sp}
theorem FnG.mono {j : Nat} (F : FnG P w K mg base CX j f fd ps sp) (h : j ≤ k) : FnG P w K mg base CX k f fd ps sp :=
  ⟨F.len, fun A outer s H args us vs Q E hr => F.run A outer s H args us vs Q E (hr.mono h)⟩
theorem FnG.imp {sp' : Sp} (F : FnG P w K mg base CX k f fd ps sp) (h : ∀ vs H Q E, sp' vs H Q E → sp vs H Q E) : FnG P w K mg base CX k f fd ps sp' :=
  ⟨fun vs H Q E q => F.len vs H Q E (h _ _ _ _ q), fun A outer s H args us vs Q E hr he hb hv hs => F.run A outer s H args us vs Q E hr he hb hv (h _ _ _ _ hs)⟩

/-- a def of the text, by its body -/
theorem fnG_of {name qual : Str} {params : Arguments} {body : List Stmt} {scope : Scope} {dV kV doc pm cdv ct oc : Value} {an od : Option Addr} {osl : Array (Option Value)} {N : List Str}
    (lk : K.lookup f = some ⟨oc, od, .func (PySem.W.fnOf name qual params body scope dV kV doc pm an cdv ct), osl⟩) (hcd : PySem.W.codeIn K cdv qual = true) (S : FnScope N ps scope)
    (len : ∀ vs H Q E, sp vs H Q E → vs.length = ps.length)
    (hbody : ∀ (A : Around) (outer : List Env) (s : Shared) (H : Hp) (vs : List V) (Q : VK) (E : XK), RoomG k (A.deeper (envOfC qual scope s.heap.objs.size f cdv)) → sp vs H Q E →
      ∃ t, PSs (cxOf CX P w K mg base N qual scope f cdv A outer s H E) body t ∧ t { nx := fun _ H' => Q .non H', rt := Q } (start N vs) H) :
    FnG P w K mg base CX (k + 1) f (PySem.W.fnOf name qual params body scope dV kV doc pm an cdv ct) ps sp := by
  constructor
  · exact len
  intro A outer s H args us vs Q E hr e0 hb r hsp
  have eqlen := len _ _ _ _ hsp
  have kin : K.In s.heap := e0.mod.kin.keeps fun b o e => (e0.bs b o e).1
  have nlim : s.heap.NoLimit := e0.mod.nolimit.keeps fun b o e => (e0.bs b o e).1
  have kinds : ∀ y ∈ ps.zip us, scope.names.lookup y.1 = some .local ∨ (scope.names.lookup y.1 = some .cell ∧ ((cellsFrom (s.heap.objs.size + 1) scope.names []).lookup y.1).isSome = true) := by
    rintro ⟨n, v⟩ hy
    cases S.par n (List.of_mem_zip hy).1 with
    | inl q => exact .inl q
    | inr q => exact .inr ⟨q, PySem.W.cellsFrom_some _ _ _ (.inl q)⟩
  refine codeAny_call_function hr.room.depth (kin _ _ lk) rfl S.co S.gen rfl (PySem.W.codeRec_of kin hcd) (hb _ _ _ _ ?_)
  refine wpAny_newFunctionEnv_cells S.kind kinds ?_
  intro env he s1 x
  subst he
  refine ⟨nlim.keeps x.toInCall.keep, codeAny_func ?_⟩
  obtain ⟨t, pt, ht⟩ := hbody A outer s H vs Q E (hr.deeper _) hsp
  have I := inv_start (CX := CX) (E := E) S hr.room.hd e0 eqlen r x
  refine wpAny_mono (pt.run [] s1 (start N vs) H _ I ht) ?_ fun e s' hs => hs
  intro fl s' hs
  have fin : ∀ {σ' : L2.St} {H' : Hp} {v : V} {u : Value}, Inv (cxOf CX P w K mg base N qual scope f cdv A outer s H E) [] σ' H' s' → RelV v u → Q v H' → CE outer P w H s Q u s' := by
    intro σ' H' v u J rv q
    exact ⟨v, H', J.os, J.bare, J.base, J.hok, rv, q⟩
  match fl, hs with
  | .ret u, ⟨v, σ', H', J, rv, q⟩ => exact fin J rv q
  | .next, ⟨σ', H', J, q⟩ => exact fin (v := V.non) (u := Value.none) J rfl q
  | .brk, ⟨_, _, _, q⟩ => exact q.elim
  | .cont, ⟨_, _, _, q⟩ => exact q.elim
end

section
variable {X : Cx} {CX : CXT} {k : Nat} {f : Addr} {fd : FuncData} {ps : List Str} {sp : Sp} {dvs : List V} {ds : List Value} {E : XK} {x : Str} {p pos : Pos} {e : Expr} {es : List Expr} {t : TA}
theorem runG {pins : List (Addr × Obj)} {σ : L2.St} {H : Hp} {s : Shared} {Q : VK} {us : List Value} {vs : List V} (F : FnG X.prog X.w X.K X.mg X.base CX k f fd ps sp) (hr : RoomG k X.A) (hb : Binds X.K fd ps ds) (hd : Vals dvs ds) (hx : Passes CX X E)
    (I : Inv X pins σ H s) (r : Vals vs us) (h : sp (vs ++ dvs) H Q E) : wpAny (model X.prog X.w) X.A (call (.ref f) us) (EP X pins σ Q) X.xe s := by
  have r2 := r.append hd
  have hl : (us ++ ds).length = ps.length := r2.length ▸ F.len _ _ _ _ h
  refine wpAny_call (codeAny_mono (F.run X.A X.stack s H ⟨us, []⟩ (us ++ ds) (vs ++ dvs) Q E hr I.env0 (hb s us I.kIn hl) r2 h) ?_)
  intro r' s' hq
  match r', hq with
  | .error e, hq => exact hx pins σ H s e s' I hq
  | .ok (.ret u), hq => exact I.after hq
  | .ok .next, hq => exact hq.elim
  | .ok .brk, hq => exact hq.elim
  | .ok .cont, hq => exact hq.elim
theorem pe_callG (F : FnG X.prog X.w X.K X.mg X.base CX k f fd ps sp) (hr : RoomG k X.A) (hg : Gl X x) (hm : X.mg x = some (.ref f)) (hk : PySem.W.keepIn X.K (.ref f) = true) (hb : Binds X.K fd ps ds) (hd : Vals dvs ds) (hx : Passes CX X E)
    (ha : PA X (e :: es) t) (hdb : (x == ("__debug__" : Str)) = false := by decide) (he : starEach (e :: es) X.env = (false, eval e X.env) :: starEach es X.env := by rfl) (hpl : (backTo pos (starEach es X.env)).any (·.1) = false := by rfl) :
    PE X (.Call (.Name x p) (e :: es) [] pos) (tCall sp dvs E t) := by
  constructor
  intro pins s σ H Q I h
  refine wpAny_Call_Name_kw (ld_glob I hg hm ?_ hdb)
  refine PySem.W.callWith_K (h₀ := X.base) I.ok.mod.kin hk (thn (ha.run pos pins s σ H _ I h) ?_) he hpl
  rintro us s1 ⟨vs, H1, I1, r, q⟩
  exact ⟨I1.kIn, runG F hr hb hd hx I1 r q⟩
theorem pe_callG0 (F : FnG X.prog X.w X.K X.mg X.base CX k f fd ps sp) (hr : RoomG k X.A) (hg : Gl X x) (hm : X.mg x = some (.ref f)) (hk : PySem.W.keepIn X.K (.ref f) = true) (hb : Binds X.K fd ps ds) (hd : Vals dvs ds) (hx : Passes CX X E)
    (hdb : (x == ("__debug__" : Str)) = false := by decide) : PE X (.Call (.Name x p) [] [] pos) (tCall sp dvs E tNil) := by
  constructor
  intro pins s σ H Q I h
  refine wpAny_Call_Name_kw (ld_glob I hg hm ?_ hdb)
  exact PySem.W.callWith_K0 I.kIn hk (runG (us := []) F hr hb hd hx I .nil h)
end

/-! ### the law's own call -/
section
variable {P : Program} {w : World} {K : PySem.W.Frag} {mg mb : Str → Option Value} {k : Nat} {fa a : Addr} {fd : FuncData} {x : Str} {sp : Sp} {s1 : Shared} {vs : List Value} {ns : List Int}
/-- from an abstract heap that tracks the script at most -/
theorem callG_core (KX : K.In s1.heap) (hns : s1.heap.Ns mainGlobals mg) (hb : s1.heap.Ns builtinsNs mb) (hbb : ∀ x : Str, x ≠ "__name__" → mb x = bootBuiltins x) (hlim : s1.heap.NoLimit) (hg : s1.gens = #[])
    (ha : s1.heap.get? a = some { cls := .type "list", data := .seq vs.toArray }) (hr : RoomG k callerA)
    (F : ∀ base : Heap, K.In base → base.Ns mainGlobals mg → FnG P w K mg base CX0 k fa fd [x] sp) (hbind : ∀ (s : Shared) (u : Value), BindsTo s fd ⟨[u], []⟩ [(x, u)])
    (H : Hp) (hsp : sp [.ref a] H (fun v _ => v = .bl true) fun _ _ _ => False) (ok : HOk P w H s1.heap)
    (hA : ∀ b, H b = none ∨ (b = a ∧ K.lookup a = none ∧ ∃ o xs, H b = some (.frz o (.lst xs)))) :
    codeAny (model P w) callerA (.call (.ref fa) ⟨[.ref a], []⟩) (fun r s' => r = .ok (.ret (.bool true)) ∧ OldK s1.heap s'.heap ∧ s'.os = s1.os ∧ AllBare s'.gens) s1 := by
  have nodict : ∀ {b : Addr} {o : Obj} {es : Array DictEntry} {ep : Nat}, s1.heap.get? b = some o → o.data = .dict es ep → H b = none := by
    intro b o es ep e d
    rcases hA b with z | ⟨rfl, _⟩
    · exact z
    · rw [ha] at e; cases e; cases (show Data.seq vs.toArray _ = Data.dict es ep from d)
  have nsH : ∀ {b : Addr} {m : Str → Option Value}, s1.heap.Ns b m → (hidT s1.heap H).Ns b m := by
    rintro b m ⟨o, es, ep, e, d, r⟩
    exact ⟨o, es, ep, hidT_get e (nodict e d), d, r⟩
  have kH : K.In (hidT s1.heap H) := by
    intro b o e
    refine hidT_get (KX b o e) ?_
    rcases hA b with z | ⟨rfl, z, _⟩
    · exact z
    · rw [z] at e; cases e
  have md : Mod K mg (hidT s1.heap H) := by
    obtain ⟨mc, h1, h2⟩ := hlim
    exact ⟨kH, nsH hns, ⟨mb, nsH hb, hbb⟩, ⟨mc, nsH h1, h2⟩⟩
  have env0 : Env0 P w K mg (hidT s1.heap H) callerA [] s1 H :=
    { frames := rfl, mod := md, bs := fun b o e => of_hidT e, bsz := Nat.le_of_eq (hidT_size _ _), funs := trivial, frf := fun b hb => absurd (show b ∈ ([] : List Addr) from hb) (by simp), hok := ok, bare := .of_eq hg }
  refine codeAny_mono ((F _ kH (nsH hns)).run callerA [] s1 H ⟨[.ref a], []⟩ [.ref a] [.ref a] _ _ hr env0 (hbind s1 (.ref a)) (.cons rfl .nil) hsp) ?_
  intro r s' h
  match r, h with
  | .error e, h => exact h.elim
  | .ok .next, h => exact h.elim
  | .ok .brk, h => exact h.elim
  | .ok .cont, h => exact h.elim
  | .ok (.ret u), ⟨v, H', os, bare, un, hok', rv, q⟩ =>
    obtain rfl : v = .bl true := q
    obtain rfl : u = Value.bool true := rv
    refine ⟨rfl, OldK.of_keep ?_, os, bare⟩
    intro b o e
    rcases hA b with z | ⟨_, _, ob, xs, z⟩
    · exact un.keep b o e z (by intro y; exact absurd (show b ∈ ([] : List Addr) from y) (by simp)) (by simp)
    · obtain ⟨e1, _⟩ := ok b _ z
      obtain ⟨e2, _⟩ := hok' b _ (un.frzs b ob _ z)
      rw [e] at e1; cases e1
      exact e2
/-- how the law's own list stands -/
def LawArg (K : PySem.W.Frag) (H : Hp) (a : Addr) (xs : List V) : Prop := (∃ o, H a = some (.frz o (.lst xs))) ∨ ∃ (its : Array Value) (n : Nat), K.lookup a = some (seqObj "list" its n) ∧ its.size ≤ sizeLine ∧ Vals xs its.toList
theorem law_callG (KX : K.In s1.heap) (hns : s1.heap.Ns mainGlobals mg) (hb : s1.heap.Ns builtinsNs mb) (hbb : ∀ x : Str, x ≠ "__name__" → mb x = bootBuiltins x) (hlim : s1.heap.NoLimit) (hg : s1.gens = #[])
    (ha : s1.heap.get? a = some { cls := .type "list", data := .seq vs.toArray }) (hi : IntsAre vs ns) (hl : ns.length ≤ sizeLine) (hr : RoomG k callerA)
    (F : ∀ base : Heap, K.In base → base.Ns mainGlobals mg → FnG P w K mg base CX0 k fa fd [x] sp) (hbind : ∀ (s : Shared) (u : Value), BindsTo s fd ⟨[u], []⟩ [(x, u)])
    (hsp : ∀ H : Hp, LawArg K H a (ns.map V.int) → sp [.ref a] H (fun v _ => v = .bl true) fun _ _ _ => False) :
    codeAny (model P w) callerA (.call (.ref fa) ⟨[.ref a], []⟩) (fun r s' => r = .ok (.ret (.bool true)) ∧ OldK s1.heap s'.heap ∧ s'.os = s1.os ∧ AllBare s'.gens) s1 := by
  have rv := vals_ints hi
  have lv := hi.length
  by_cases hk : K.lookup a = none
  · have sq : LawArg K (fun b => if b = a then some (.frz { cls := .type "list", data := .seq vs.toArray } (.lst (ns.map V.int))) else none) a (ns.map V.int) := .inl ⟨_, if_pos rfl⟩
    refine callG_core KX hns hb hbb hlim hg ha hr F hbind _ (hsp _ sq) ?_ ?_
    · intro b u z
      by_cases hb : b = a
      · subst hb
        have z' := (if_pos rfl).symm.trans z
        cases z'
        exact ⟨ha, by rw [List.length_map]; exact hl, vs, _, rv, ha⟩
      · have z' := (if_neg hb).symm.trans z
        cases z'
    · intro b
      by_cases hb : b = a
      · exact .inr ⟨hb, hk, _, _, if_pos hb⟩
      · exact .inl (if_neg hb)
  · obtain ⟨o, hk⟩ := Option.ne_none_iff_exists'.mp hk
    have e := KX a o hk
    rw [ha] at e
    cases e
    refine callG_core KX hns hb hbb hlim hg ha hr F hbind (fun _ => none) (hsp _ (.inr ⟨vs.toArray, 0, hk, ?_, by simpa using rv⟩)) ?_ fun _ => .inl rfl
    · rw [List.size_toArray, lv]; exact hl
    · intro b u z
      cases (show (none : Option HO) = some u from z)
end

theorem walk_ofG {l : PySem.W.OpenLaw} {n k : Nat} {q : Program} {loose : List Str} {XP : (Str → Option Value) → Heap → Prop} {YP : World → Heap → Prop} {d : DefRec} {K : Params → PySem.W.Frag} {sp : PySem.W.Frag → Sp} {x : Str}
    (hn : l.most = some n) (hn2 : n ≤ sizeLine) (hdf : d.params.defaults = []) (hr : Room k callerA)
    (hY : ∀ (w : World) (h : Heap), YP w h → (K w.params).In h)
    (F : ∀ (w : World) (mg : Str → Option Value) (fa : Addr) (h : Heap), (K w.params).In h → h.Ns mainGlobals mg → mg d.name = some (.ref fa) →
      ∃ fd : FuncData, (∀ (s : Shared) (u : Value), BindsTo s fd ⟨[u], []⟩ [(x, u)]) ∧
        ∀ base : Heap, (K w.params).In base → base.Ns mainGlobals mg → FnG l.prog w (K w.params) mg base CX0 k fa fd [x] (sp (K w.params)))
    (hsp : ∀ (K : PySem.W.Frag) (H : Hp) (a : Addr) (ns : List Int), ns.length ≤ n → LawArg K H a (ns.map V.int) → sp K [.ref a] H (fun v _ => v = .bl true) fun _ _ _ => False) :
    PySem.W.WalkO q loose XP YP l.row.toRowW d [] (fun f vs => PySem.call f vs) := by
  refine Att.attach_call hn hdf ?_
  intro w s0 s1 mg mb fa o pm cd doc a vs ns G Y ho hd hcd hmg hobj hints hlen hg
  have KX := hY w _ Y
  obtain ⟨fd, hb, hF⟩ := F w mg fa _ KX G.T.g hmg
  exact law_callG KX G.T.g G.T.b G.T.builtins G.T.nolimit hg hobj hints (Nat.le_trans hlen hn2) ⟨hr, rfl⟩ hF hb fun H hS => hsp _ H a ns hlen hS

/-! ### tuples that are known to the last: frozen from the start -/
section
variable {X : Cx} {es : List Expr} {t : TA} {pos : Pos}
def tTupX (t : TA) : TE := fun σ H Q => t σ H fun xs H1 => xs.length ≤ sizeLine ∧ ∀ (p : Addr) (o : Obj), H1 p = none → o.dict = none → Q (.ref p) (upd H1 p (.frz o (.tup xs)))
theorem pe_tupX {x1} (h : PA X es t) : PE X (.Tuple es x1 pos) (tTupX t) :=
  ⟨fun pins s σ H Q I hq => wpAny_Tuple_spliced (thn (h.run pos pins s σ H _ I hq) fun us s1 ⟨xs, H1, I1, r, z, q⟩ => ⟨by rw [← r.length]; exact z,
    ⟨.ref s1.heap.objs.size, upd H1 s1.heap.objs.size (.frz { cls := .type "tuple", data := .seq us.toArray } (.tup xs)), I1.laid (t' := s1.toks) (fun b u e => Heap.get?_push_of_some _ e) (Nat.le_refl _) ⟨Heap.get?_push_size _ rfl, z, us, r, ⟨_, Heap.get?_push_size _ rfl, rfl, _, rfl⟩⟩, rfl, q _ _ (I1.hok.fresh (Nat.le_refl _)) rfl⟩⟩)⟩
theorem call_tupX : CallR X (.type "tuple") (fun xs H Q => ∃ p ys, xs = [.ref p] ∧ ((SqL X.K H p ys ∧ ∀ (l : Addr) (o : Obj), H l = none → o.dict = none → Q (.ref l) (upd H l (.frz o (.tup ys)))) ∨ (SqT X.K H p ys ∧ Q (.ref p) H))) := by
  rintro pins s σ H xs us Q I r ⟨p, ys, rfl, h⟩
  obtain rfl := Vals.ref1 r
  rcases h with ⟨hq, q⟩ | ⟨hq, q⟩
  · obtain ⟨is, rv, pl, hz⟩ := I.list hq
    have lv := rv.length
    exact call_tuple_list pl.isList (fun h' kp => ⟨.ref h'.objs.size, upd H h'.objs.size (.frz { cls := .type "tuple", data := .seq is.toArray } (.tup ys)),
      (show Inv X pins σ H { s with heap := h' } from I.kept (t' := s.toks) kp).laid (t' := s.toks) (fun b o e => Heap.get?_push_of_some _ e) (Nat.le_refl _) ⟨Heap.get?_push_size _ rfl, hz, is, rv, IsTup.new _ _⟩, rfl,
      q _ _ ((show Inv X pins σ H { s with heap := h' } from I.kept (t' := s.toks) kp).hok.fresh (Nat.le_refl _)) rfl⟩) (by rw [List.size_toArray]; omega)
  · obtain ⟨is, rv, pl, hz⟩ := I.tuple hq
    exact call_tuple_same pl ⟨.ref p, H, I, rfl, q⟩
/-- t + u: one of them where the other is empty -/
def rTT (K : PySem.W.Frag) : R2 := fun x y H Q => ∃ a b xs ys, x = .ref a ∧ y = .ref b ∧ SqT K H a xs ∧ SqT K H b ys ∧ xs.length + ys.length ≤ sizeLine ∧
  (xs = [] → Q (.ref b) H) ∧ (xs ≠ [] → ys = [] → Q (.ref a) H) ∧ (xs ≠ [] → ys ≠ [] → ∀ (p : Addr) (o : Obj), H p = none → o.dict = none → Q (.ref p) (upd H p (.frz o (.tup (xs ++ ys)))))
theorem op_TT : OpR X (binaryOp .Add) (rTT X.K) := by
  rintro pins s σ H x y v u Q I rx ry ⟨a, b, xs, ys, rfl, rfl, ha, hb, hz, q0, q1, q2⟩
  cases rx
  cases ry
  obtain ⟨is, r1, p1, _⟩ := I.tuple ha
  obtain ⟨js, r2, p2, _⟩ := I.tuple hb
  by_cases hx : xs = []
  · subst hx
    cases r1
    exact cat_tup0 p1 p2 ⟨.ref b, H, I, rfl, q0 rfl⟩
  · refine HT.cat_tup p1 p2 (fun z => hx (r1.nil_iff.mp z)) (fun z => ⟨.ref a, H, I, rfl, q1 hx (r2.nil_iff.mp z)⟩) (fun z => ⟨.ref s.heap.objs.size, upd H s.heap.objs.size (.frz { cls := .type "tuple", data := .seq (is ++ js).toArray } (.tup (xs ++ ys))), I.laid (t' := s.toks) (fun b ob q => Heap.get?_push_of_some _ q) (Nat.le_refl _) ?_, rfl, q2 hx (fun w => z (r2.nil_iff.mpr w)) _ _ (I.hok.fresh (Nat.le_refl _)) rfl⟩) (by rw [← r1.length, ← r2.length]; exact hz)
    exact ⟨Heap.get?_push_size _ rfl, by rw [List.length_append]; exact hz, _, r1.append r2, IsTup.new _ _⟩
/-- t[lo:hi]: t itself where that is all of it -/
def rTS (K : PySem.W.Frag) : V → Option Int → Option Int → Hp → VK → Prop := fun x lo hi H Q => ∃ a xs, x = .ref a ∧ SqT K H a xs ∧
  (HT.sIx xs.length 0 lo = 0 ∧ HT.sIx xs.length xs.length hi = xs.length → Q (.ref a) H) ∧ (¬ (HT.sIx xs.length 0 lo = 0 ∧ HT.sIx xs.length xs.length hi = xs.length) → ∀ (p : Addr) (o : Obj), H p = none → o.dict = none → Q (.ref p) (upd H p (.frz o (.tup (cutV xs lo hi)))))
theorem sl_TS : SlR X (rTS X.K) := by
  rintro pins s σ H x v vl vu lo hi sl Q I rx hs pl pu ⟨a, xs, rfl, hx, q1, q2⟩
  cases rx
  obtain ⟨is, r, ht, hz⟩ := I.tuple hx
  have el : is.toArray.size = xs.length := by rw [List.size_toArray]; exact r.length.symm
  by_cases hw : HT.sIx xs.length 0 lo = 0 ∧ HT.sIx xs.length xs.length hi = xs.length
  · exact ⟨"tuple", _, PyProof.Rows.slot_tuple_getitem.lookup, ht.typeIs, getItem_tuple_whole ht hs pl pu (by rw [el]; exact hw) ⟨.ref a, H, I, rfl, q1 hw⟩⟩
  · refine ⟨"tuple", _, PyProof.Rows.slot_tuple_getitem.lookup, ht.typeIs, HT.getItem_tuple_cut ht hs pl pu (by rw [el]; exact hw) ?_ (by rw [el]; exact hz)⟩
    rw [el]
    refine ⟨.ref s.heap.objs.size, upd H s.heap.objs.size (.frz _ (.tup (cutV xs lo hi))), I.laid (t' := s.toks) (fun b ob q => Heap.get?_push_of_some _ q) (Nat.le_refl _) ⟨Heap.get?_push_size _ rfl, ?_⟩, rfl, q2 hw _ _ (I.hok.fresh (Nat.le_refl _)) rfl⟩
    exact ⟨Nat.le_trans (cutV_length xs lo hi) hz, _, (r.drop (HT.sIx xs.length 0 lo)).take (HT.sIx xs.length xs.length hi - HT.sIx xs.length 0 lo), IsTup.new _ _⟩
def tTRg (te : L2.St → Hp → (Int → Int → Hp → Prop) → Prop) : TE := fun σ H Q => te σ H fun a b H1 => RgOk a b ∧ ∀ (q : Addr) (o : Obj), H1 q = none → o.dict = none → Q (.ref q) (upd H1 q (.frz o (.tup (rgV a b))))
theorem pe_TRg {e : Expr} {te : L2.St → Hp → (Int → Int → Hp → Prop) → Prop} {p : Pos} (hc : X.calm = true) (hg : Gl X "tuple") (hm : X.mg "tuple" = none) (he : PRg X e te) (na : starEach [e] X.env = (false, eval e X.env) :: starEach [] X.env := by rfl) : PE X (.Call (.Name "tuple" p) [e] [] pos) (tTRg te) := by
  refine ⟨fun pins s σ H Q I h => Call_ (ld_blt I hg hm boot_tuple (PyProof.Rows.callWith_type1 (args_cons (thn (he pins s σ H _ I h) fun x s1 ⟨r, a, b, t, u, v, H1, ex, hr, I1, ok, q⟩ => args_nil ?_) na) na))⟩
  subst ex
  obtain ⟨b1, b2, b3, b4, b5⟩ := ok
  refine call_tuple_range (n := (b - a).toNat) (I1.ok.hd hc) hr (small_one b1 b2 b3 b4) (rangeSize_nat a b) b5 fun h' tk acc hk hi => ?_
  have J : Inv X pins σ H1 { s1 with heap := h', toks := tk } := I1.kept hk
  refine ⟨.ref h'.objs.size, upd H1 h'.objs.size (.frz _ (.tup (rgV a b))), J.laid (t' := tk) (fun c o e => Heap.get?_push_of_some _ e) (Nat.le_refl _) ⟨Heap.get?_push_size _ rfl, ?_, acc.toList, vals_rg hi, ?_⟩, rfl, q _ _ (J.hok.fresh (Nat.le_refl _)) rfl⟩
  · rw [rgV_length, sizeLine_eq]; omega
  · rw [Array.toArray_toList]; exact IsTup.new _ _
end
end Gw
namespace Gw
open PySem PySem.Spec PyProof.Rows L2

/-! ## data and the heap -/
abbrev D := PyData
abbrev Vol := Addr → Prop
abbrev VStore := L2.St
def Ext (H H' : Hp) : Prop := ∀ a o, H a = some o → H' a = some o
theorem Ext.refl (H : Hp) : Ext H H := fun _ _ h => h
theorem Ext.trans {H H1 H2 : Hp} (a : Ext H H1) (b : Ext H1 H2) : Ext H H2 := fun c o h => b c o (a c o h)
theorem Ext.new {H : Hp} {p : Addr} {o : HO} (h : H p = none) : Ext H (upd H p o) := fun a u e => by
  rw [upd_ne (ne_of_none e h)]; exact e
theorem Ext.free {H H' : Hp} {p : Addr} (e : Ext H H') (h : H' p = none) : H p = none := by
  cases q : H p with
  | none => rfl
  | some o => rw [e p o q] at h; cases h
def keyD1 : Key → D
  | .inl i => .int i
  | .inr x => .str x
def keyD (k : List Key) : D := .tuple (k.map keyD1)
/-- a tuple of the written part -/
def KTup (K : PySem.W.Frag) (a : Addr) (xs : List V) : Prop :=
  ∃ (o : Obj) (its : Array Value) (n : Nat), K.lookup a = some o ∧ o.cls = .type "tuple" ∧ o.dict = none ∧ o.data = .seq its n ∧ its.size ≤ sizeLine ∧ Vals xs its.toList
/-- a tuple that is read: nothing of it is unknown -/
def TupX (K : PySem.W.Frag) (S : Vol) (H : Hp) (a : Addr) (xs : List V) : Prop := ((∃ o, H a = some (.frz o (.tup xs)) ∧ o.dict = none) ∧ ¬ S a) ∨ KTup K a xs
theorem TupX.sq {K : PySem.W.Frag} {S : Vol} {H : Hp} {a : Addr} {xs : List V} (h : TupX K S H a xs) : SqT K H a xs := by
  rcases h with ⟨⟨o, h, _⟩, _⟩ | ⟨o, its, n, h1, h2, _, h3⟩
  · exact .inl (.inr ⟨o, h⟩)
  · exact .inr ⟨o, its, n, h1, h2, h3⟩
theorem TupX.mv {K : PySem.W.Frag} {S S' : Vol} {H H' : Hp} {a : Addr} {xs : List V} (h : TupX K S H a xs) (f : ∀ a o, H a = some o → ¬ S a → H' a = some o) (g : ∀ a, S' a → S a ∨ H a = none) : TupX K S' H' a xs :=
  h.imp (fun ⟨⟨o, h, d⟩, n⟩ => ⟨⟨o, f _ _ h n, d⟩, fun s => (g _ s).elim n fun z => by rw [h] at z; cases z⟩) id
theorem TupX.new {K : PySem.W.Frag} {S : Vol} {H : Hp} {a : Addr} {xs : List V} {o : Obj} (d : o.dict = none) (n : ¬ S a) : TupX K S (upd H a (.frz o (.tup xs))) a xs := .inl ⟨⟨o, upd_same, d⟩, n⟩

/-- a list that is read: tracked, frozen, or an object of the module -/
def LstX (K : PySem.W.Frag) (S : Vol) (H : Hp) (a : Addr) (xs : List V) : Prop :=
  ((H a = some (.lst xs) ∨ ∃ o, H a = some (.frz o (.lst xs))) ∧ ¬ S a) ∨ ∃ (its : Array Value) (n : Nat), K.lookup a = some (seqObj "list" its n) ∧ its.size ≤ sizeLine ∧ Vals xs its.toList
theorem LstX.sq {K : PySem.W.Frag} {S : Vol} {H : Hp} {a : Addr} {xs : List V} (h : LstX K S H a xs) : SqL K H a xs := by
  rcases h with ⟨h, _⟩ | ⟨its, n, h1, h2, h3⟩
  · exact .inl h
  · exact .inr ⟨_, its, n, h1, rfl, rfl, rfl, h2, h3⟩
theorem LstX.mv {K : PySem.W.Frag} {S S' : Vol} {H H' : Hp} {a : Addr} {xs : List V} (h : LstX K S H a xs) (f : ∀ a o, H a = some o → ¬ S a → H' a = some o) (g : ∀ a, S' a → S a ∨ H a = none) : LstX K S' H' a xs :=
  h.imp (fun ⟨h, n⟩ => ⟨h.imp (fun e => f _ _ e n) fun ⟨o, e⟩ => ⟨o, f _ _ e n⟩, fun s => (g _ s).elim n fun z => by
    rcases h with h | ⟨o, h⟩ <;> (rw [h] at z; cases z)⟩) id
/-- .. wherever it stands -/
def Lx (K : PySem.W.Frag) (H : Hp) (a : Addr) (xs : List V) : Prop := Rd H a (.lst xs) ∨ ∃ (its : Array Value) (n : Nat), K.lookup a = some (seqObj "list" its n) ∧ its.size ≤ sizeLine ∧ Vals xs its.toList
theorem LstX.lx {K : PySem.W.Frag} {S : Vol} {H : Hp} {a : Addr} {xs : List V} (h : LstX K S H a xs) : Lx K H a xs := h.imp (fun h => h.1) id
theorem lxAt {X : Cx} {pins : List (Addr × Obj)} {σ : L2.St} {H : Hp} {s : Shared} {a : Addr} {xs : List V} (I : Inv X pins σ H s) (h : Lx X.K H a xs) : xs.length ≤ sizeLine ∧ ∃ (its : List Value) (n : Nat), Vals xs its ∧ xs.length = its.length ∧ s.heap.get? a = some { cls := .type "list", data := .seq its.toArray n } := by
  rcases h with h | ⟨its, n, h1, h2, h3⟩
  · obtain ⟨z, its, n, r, e⟩ := h.ok I.hok
    exact ⟨z, its, n, r, r.length, e⟩
  · have e := I.kIn a _ h1
    refine ⟨by rw [h3.length, Array.length_toList]; exact h2, its.toList, n, h3, h3.length, ?_⟩
    rw [e, Array.toArray_toList]
theorem LstX.of {K : PySem.W.Frag} {S : Vol} {H : Hp} {a : Addr} {xs : List V} (h : H a = some (.lst xs)) (n : ¬ S a) : LstX K S H a xs := .inl ⟨.inl h, n⟩
mutual
/-- v stands for d; the objects at S may change, d hangs on none of them -/
inductive Rp (K : PySem.W.Frag) (S : Vol) (H : Hp) : V → D → Prop
  | non : Rp K S H .non .none
  | bl (b : Bool) : Rp K S H (.bl b) (.bool b)
  | int (i : Int) : Rp K S H (.int i) (.int i)
  | str (x : Str) : Rp K S H (.str x) (.str x)
  | lst {a : Addr} {xs : List V} {ds : List D} : LstX K S H a xs → RpA K S H xs ds → Rp K S H (.ref a) (.list ds)
  | tup {a : Addr} {xs : List V} {ds : List D} : TupX K S H a xs → RpA K S H xs ds → Rp K S H (.ref a) (.tuple ds)
  | dK {a : Addr} {kk : List (Key × V)} {ds : List D} : H a = some (.dK kk) → ¬ S a → RpA K S H (kk.map Prod.snd) ds → Rp K S H (.ref a) (.dict ((kk.map fun p => keyD1 p.1).zip ds))
  | dT {a : Addr} {kk : List (List Key × V)} {ds : List D} : H a = some (.dT kk) → ¬ S a → RpA K S H (kk.map Prod.snd) ds → Rp K S H (.ref a) (.dict ((kk.map fun p => keyD p.1).zip ds))
inductive RpA (K : PySem.W.Frag) (S : Vol) (H : Hp) : List V → List D → Prop
  | nil : RpA K S H [] []
  | cons {v : V} {d : D} {vs : List V} {ds : List D} : Rp K S H v d → RpA K S H vs ds → RpA K S H (v :: vs) (d :: ds)
end

section
variable {K : PySem.W.Frag} {S S' : Vol} {H H' : Hp} {v : V} {d : D} {xs ys : List V} {ds es : List D} {a p : Addr}
mutual
theorem Rp.mv (f : ∀ a o, H a = some o → ¬ S a → H' a = some o) (g : ∀ a, S' a → S a ∨ H a = none) : ∀ {v d}, Rp K S H v d → Rp K S' H' v d
  | _, _, .non => .non
  | _, _, .bl b => .bl b
  | _, _, .int i => .int i
  | _, _, .str x => .str x
  | _, _, .lst h r => .lst (h.mv f g) (RpA.mv f g r)
  | _, _, .tup h r => .tup (h.mv f g) (RpA.mv f g r)
  | _, _, .dK h n r => .dK (f _ _ h n) (fun s => (g _ s).elim n fun z => by rw [h] at z; cases z) (RpA.mv f g r)
  | _, _, .dT h n r => .dT (f _ _ h n) (fun s => (g _ s).elim n fun z => by rw [h] at z; cases z) (RpA.mv f g r)
theorem RpA.mv (f : ∀ a o, H a = some o → ¬ S a → H' a = some o) (g : ∀ a, S' a → S a ∨ H a = none) : ∀ {vs ds}, RpA K S H vs ds → RpA K S' H' vs ds
  | _, _, .nil => .nil
  | _, _, .cons r t => .cons (Rp.mv f g r) (RpA.mv f g t)
end
theorem Rp.ext (e : Ext H H') (r : Rp K S H v d) : Rp K S H' v d := r.mv (fun a o h _ => e a o h) fun _ s => .inl s
theorem RpA.ext (e : Ext H H') (r : RpA K S H xs ds) : RpA K S H' xs ds := r.mv (fun a o h _ => e a o h) fun _ s => .inl s
theorem Rp.wr {o : HO} (s : S p) (r : Rp K S H v d) : Rp K S (upd H p o) v d := r.mv (fun a o h n => by rw [upd_ne (show a ≠ p from fun e => n (by rw [e]; exact s))]; exact h) fun _ s => .inl s
theorem RpA.wr {o : HO} (s : S p) (r : RpA K S H xs ds) : RpA K S (upd H p o) xs ds := r.mv (fun a o h n => by rw [upd_ne (show a ≠ p from fun e => n (by rw [e]; exact s))]; exact h) fun _ s => .inl s
theorem Rp.anti (h : ∀ a, S' a → S a) (r : Rp K S H v d) : Rp K S' H v d := r.mv (fun _ _ e _ => e) fun a s => .inl (h a s)
theorem RpA.anti (h : ∀ a, S' a → S a) (r : RpA K S H xs ds) : RpA K S' H xs ds := r.mv (fun _ _ e _ => e) fun a s => .inl (h a s)
theorem RpA.len : ∀ {xs ds}, RpA K S H xs ds → xs.length = ds.length
  | _, _, .nil => rfl
  | _, _, .cons _ t => congrArg (· + 1) (RpA.len t)
theorem RpA.get : ∀ {xs ds} {i : Nat} {d : D}, RpA K S H xs ds → ds[i]? = some d → ∃ x, xs[i]? = some x ∧ Rp K S H x d
  | _, _, 0, _, .cons r _, e => by cases e; exact ⟨_, rfl, r⟩
  | _, _, i + 1, d, .cons _ t, e => by
    obtain ⟨x, h, r⟩ := RpA.get (i := i) (d := d) t (by simpa using e)
    exact ⟨x, by simpa using h, r⟩
theorem RpA.getV : ∀ {xs ds} {i : Nat} {x : V}, RpA K S H xs ds → xs[i]? = some x → ∃ d, ds[i]? = some d ∧ Rp K S H x d
  | _, _, 0, _, .cons r _, e => by cases e; exact ⟨_, rfl, r⟩
  | _, _, i + 1, d, .cons _ t, e => by
    obtain ⟨x, h, r⟩ := RpA.getV (i := i) (x := d) t (by simpa using e)
    exact ⟨x, by simpa using h, r⟩
theorem RpA.of_get : ∀ {xs : List V} {ds : List D}, xs.length = ds.length → (∀ (i : Nat) x d, xs[i]? = some x → ds[i]? = some d → Rp K S H x d) → RpA K S H xs ds
  | [], [], _, _ => .nil
  | x :: xs, d :: ds, hl, h => .cons (h 0 x d rfl rfl) (RpA.of_get (by simpa using hl) fun i x d e1 e2 => h (i + 1) x d (by simpa using e1) (by simpa using e2))
theorem RpA.app : ∀ {xs ys ds es}, RpA K S H xs ds → RpA K S H ys es → RpA K S H (xs ++ ys) (ds ++ es)
  | _, _, _, _, .nil, s => s
  | _, _, _, _, .cons r t, s => .cons r (RpA.app t s)
theorem RpA.one (r : Rp K S H v d) : RpA K S H [v] [d] := .cons r .nil
theorem RpA.set (r : Rp K S H v d) : ∀ {xs ds} (i : Nat), RpA K S H xs ds → RpA K S H (xs.set i v) (ds.set i d)
  | _, _, _, .nil => .nil
  | _, _, 0, .cons _ t => .cons r t
  | _, _, i + 1, .cons q t => .cons q (RpA.set r i t)
theorem RpA.erase : ∀ {xs ds} (i : Nat), RpA K S H xs ds → RpA K S H (xs.eraseIdx i) (ds.eraseIdx i)
  | _, _, _, .nil => .nil
  | _, _, 0, .cons _ t => t
  | _, _, i + 1, .cons q t => .cons q (RpA.erase i t)
theorem RpA.take : ∀ {xs ds} (n : Nat), RpA K S H xs ds → RpA K S H (xs.take n) (ds.take n)
  | _, _, 0, _ => .nil
  | _, _, _ + 1, .nil => .nil
  | _, _, n + 1, .cons r t => .cons r (RpA.take n t)
theorem RpA.drop : ∀ {xs ds} (n : Nat), RpA K S H xs ds → RpA K S H (xs.drop n) (ds.drop n)
  | _, _, 0, r => r
  | _, _, _ + 1, .nil => .nil
  | _, _, n + 1, .cons r t => RpA.drop n t
theorem RpA.rev : ∀ {xs ds}, RpA K S H xs ds → RpA K S H xs.reverse ds.reverse
  | _, _, .nil => .nil
  | _, _, .cons r t => by rw [List.reverse_cons, List.reverse_cons]; exact (RpA.rev t).app (.one r)
theorem RpA.ints : ∀ {xs : List V} {ns : List Int}, RpA K S H xs (ns.map PyData.int) → xs = ns.map V.int
  | [], [], _ => rfl
  | _ :: _, n :: ns, .cons r t => by
    cases r
    rw [List.map_cons, RpA.ints t]
theorem RpA.ofInts (ns : List Int) : RpA K S H (ns.map V.int) (ns.map PyData.int) := by
  induction ns with
  | nil => exact .nil
  | cons n r ih => exact .cons (.int n) ih
theorem RpA.bools : ∀ {xs : List V} {ns : List Bool}, RpA K S H xs (ns.map PyData.bool) → xs = ns.map V.bl
  | [], [], _ => rfl
  | _ :: _, n :: ns, .cons r t => by
    cases r
    rw [List.map_cons, RpA.bools t]
theorem RpA.isInt : ∀ {xs : List V} {ds : List D}, RpA K S H xs ds → ∀ {ns : List Int}, ds = ns.map PyData.int → xs = ns.map V.int := fun r _ e => by subst e; exact r.ints

/-- an object that may be read as d, wherever it stands -/
inductive Ob (K : PySem.W.Frag) (S : Vol) (H : Hp) (p : Addr) : D → Prop
  | lst {xs : List V} {ds : List D} : H p = some (.lst xs) → RpA K S H xs ds → Ob K S H p (.list ds)
  | dK {kk : List (Key × V)} {ds : List D} : H p = some (.dK kk) → RpA K S H (kk.map Prod.snd) ds → Ob K S H p (.dict ((kk.map fun p => keyD1 p.1).zip ds))
  | dT {kk : List (List Key × V)} {ds : List D} : H p = some (.dT kk) → RpA K S H (kk.map Prod.snd) ds → Ob K S H p (.dict ((kk.map fun p => keyD p.1).zip ds))
theorem Ob.mv (o : Ob K S H p d) (h : ∀ u, H p = some u → H' p = some u) (f : ∀ a o, H a = some o → ¬ S a → H' a = some o) (g : ∀ a, S' a → S a ∨ H a = none) : Ob K S' H' p d := by
  cases o with
  | lst e r => exact .lst (h _ e) (r.mv f g)
  | dK e r => exact .dK (h _ e) (r.mv f g)
  | dT e r => exact .dT (h _ e) (r.mv f g)
theorem Ob.ext (e : Ext H H') (o : Ob K S H p d) : Ob K S H' p d := o.mv (fun u h => e p u h) (fun a o h _ => e a o h) fun _ s => .inl s
theorem Ob.anti (h : ∀ a, S' a → S a) (o : Ob K S H p d) : Ob K S' H p d := o.mv (fun _ h => h) (fun _ _ h _ => h) fun a s => .inl (h a s)
theorem Ob.there (o : Ob K S H p d) : ∃ u, H p = some u := by
  cases o with
  | lst e _ => exact ⟨_, e⟩
  | dK e _ => exact ⟨_, e⟩
  | dT e _ => exact ⟨_, e⟩
theorem Ob.rp (o : Ob K S H p d) (n : ¬ S p) : Rp K S H (.ref p) d := by
  cases o with
  | lst e r => exact .lst (.of e n) r
  | dK e r => exact .dK e n r
  | dT e r => exact .dT e n r
theorem Ob.mut (o : Ob K S H p d) : Mut (H p) := by
  cases o with
  | lst e _ => rw [e]; trivial
  | dK e _ => rw [e]; trivial
  | dT e _ => rw [e]; trivial
/-- what a reader asks: data, or an object that is being built -/
def Rq (K : PySem.W.Frag) (S : Vol) (H : Hp) (v : V) (d : D) : Prop := Rp K S H v d ∨ ∃ p, v = .ref p ∧ Ob K S H p d
theorem Rq.lx (h : Rq K S H v (.list ds)) : ∃ p xs, v = .ref p ∧ Lx K H p xs ∧ RpA K S H xs ds := by
  rcases h with h | ⟨p, rfl, h⟩
  · cases h with
    | lst e r => exact ⟨_, _, rfl, e.lx, r⟩
  · cases h with
    | lst e r => exact ⟨_, _, rfl, .inl (.inl e), r⟩
theorem Rq.sql (h : Rq K S H v (.list ds)) : ∃ p xs, v = .ref p ∧ SqL K H p xs ∧ RpA K S H xs ds := by
  rcases h with h | ⟨p, rfl, h⟩
  · cases h with
    | lst e r => exact ⟨_, _, rfl, e.sq, r⟩
  · cases h with
    | lst e r => exact ⟨_, _, rfl, .of e, r⟩
theorem Rq.sqt (h : Rq K S H v (.tuple ds)) : ∃ p xs, v = .ref p ∧ SqT K H p xs ∧ RpA K S H xs ds := by
  rcases h with h | ⟨p, rfl, h⟩
  · cases h with
    | tup e r => exact ⟨_, _, rfl, e.sq, r⟩
  · cases h
theorem Rq.int {i : Int} (h : Rq K S H v (.int i)) : v = .int i := by
  rcases h with h | ⟨p, rfl, h⟩
  · cases h; rfl
  · cases h
theorem Rq.bl {b : Bool} (h : Rq K S H v (.bool b)) : v = .bl b := by
  rcases h with h | ⟨p, rfl, h⟩
  · cases h; rfl
  · cases h
theorem Rq.str {x : Str} (h : Rq K S H v (.str x)) : v = .str x := by
  rcases h with h | ⟨p, rfl, h⟩
  · cases h; rfl
  · cases h
theorem Rq.non (h : Rq K S H v .none) : v = .non := by
  rcases h with h | ⟨p, rfl, h⟩
  · cases h; rfl
  · cases h

/-! ## stores -/
/-- what a slot holds: data; an object of the def's own that it changes; the source -/
inductive Cl where
  | dat (d : D)
  | own (d : D)
  | srcR
abbrev Rho := List (Option Cl)
structure Ctx where
  H0 : Hp
  S0 : Vol
  sa : Option (Addr × Addr)
  vs : List (V × D)
  pr : Vol
def Ctx.M (C : Ctx) (x : Addr) : Prop := ∃ a c, C.sa = some (a, c) ∧ (x = a ∨ x = c)
/-- the law's source: its dict at a, its cells at c -/
def SrcOk (H : Hp) (a c : Addr) : Prop := ∃ (cells : List Int) (left mixed turn : Int),
  H a = some (.dK [(.inr "cells", .ref c), (.inr "left", .int left), (.inr "mixed", .int mixed), (.inr "turn", .int turn)]) ∧ H c = some (.lst (cells.map V.int)) ∧
  (∀ x ∈ cells, 0 ≤ x) ∧ cells.length ≤ 63 ∧ 0 ≤ left ∧ 0 ≤ mixed ∧ mixed < 2 ^ 31 ∧ 0 ≤ turn
def EntOk (K : PySem.W.Frag) (C : Ctx) (S : Vol) (H : Hp) (v : V) : Cl → Prop
  | .dat d => Rp K S H v d
  | .own d => ∃ p, v = .ref p ∧ S p ∧ C.H0 p = none ∧ ¬ C.M p ∧ ¬ C.pr p ∧ Ob K S H p d
  | .srcR => ∃ a c, C.sa = some (a, c) ∧ v = .ref a
structure RS (K : PySem.W.Frag) (C : Ctx) (S : Vol) (σ : VStore) (H : Hp) (ρ : Rho) : Prop where
  len : σ.length = ρ.length
  fr : ∀ a o, C.H0 a = some o → ¬ C.M a → H a = some o
  al : ∀ a, S a → ∃ o, H a = some o
  pa : ∀ a, C.pr a → ∃ o, H a = some o
  a0 : ∀ a, C.S0 a → S a ∧ ∃ o, C.H0 a = some o
  ent : ∀ (i : Nat) c, ρ[i]? = some (some c) → ∃ v, σ[i]? = some (some v) ∧ EntOk K C S H v c
  dst : ∀ (i j : Nat) o o' p, i ≠ j → ρ[i]? = some (some (.own o)) → ρ[j]? = some (some (.own o')) → σ[i]? = some (some (.ref p)) → σ[j]? = some (some (.ref p)) → False
  vok : ∀ q ∈ C.vs, Rp K S H q.1 q.2
  src : ∀ a c, C.sa = some (a, c) → a ≠ c ∧ S a ∧ S c ∧ ¬ C.pr a ∧ ¬ C.pr c ∧ SrcOk H a c
/-- what an expression leaves as it is -/
def Fr (C : Ctx) (S : Vol) (H H' : Hp) : Prop := ∀ a o, H a = some o → (¬ S a ∨ C.pr a) → H' a = some o
variable {C : Ctx} {σ : VStore} {ρ ρ' : Rho} {H1 H2 : Hp} {i j : Nat} {u : HO}
theorem Fr.refl : Fr C S H H := fun _ _ h _ => h
theorem Fr.of (e : Ext H H') : Fr C S H H' := fun a o h _ => e a o h
theorem Fr.trans (x : Fr C S H H1) (y : Fr C S H1 H2) : Fr C S H H2 := fun a o h n => y a o (x a o h n) n
theorem Fr.rp (x : Fr C S H H') (r : Rp K S H v d) : Rp K S H' v d := r.mv (fun a o h n => x a o h (.inl n)) fun _ s => .inl s
theorem Fr.rpa (x : Fr C S H H') (r : RpA K S H xs ds) : RpA K S H' xs ds := r.mv (fun a o h n => x a o h (.inl n)) fun _ s => .inl s
theorem SrcOk.mv {a c : Addr} (s : SrcOk H a c) (h1 : ∀ u, H a = some u → H' a = some u) (h2 : ∀ u, H c = some u → H' c = some u) : SrcOk H' a c := by
  obtain ⟨cells, left, mixed, turn, e1, e2, r⟩ := s
  exact ⟨cells, left, mixed, turn, h1 _ e1, h2 _ e2, r⟩
theorem EntOk.mv {c : Cl} (x : EntOk K C S H v c) (f : ∀ a o, H a = some o → ¬ S a → H' a = some o) (g : ∀ a, S' a → S a ∨ H a = none) (s : ∀ a, S a → S' a)
    (h : ∀ p o, v = .ref p → c = .own o → ∀ u, H p = some u → H' p = some u) : EntOk K C S' H' v c := by
  cases c with
  | dat d => exact Rp.mv f g x
  | own d =>
    obtain ⟨p, rfl, h1, h2, h3, h4, o⟩ := x
    exact ⟨p, rfl, s _ h1, h2, h3, h4, o.mv (h p d rfl rfl) f g⟩
  | srcR => exact x
/-- pure growth, S growing by what was free -/
theorem RS.mv (R : RS K C S σ H ρ) (e : Ext H H') (s : ∀ a, S a → S' a) (g : ∀ a, S' a → S a ∨ (H a = none ∧ ∃ o, H' a = some o)) : RS K C S' σ H' ρ where
  len := R.len
  fr := fun a o h m => e a o (R.fr a o h m)
  al := fun a h => (g a h).elim (fun z => let ⟨o, q⟩ := R.al a z; ⟨o, e a o q⟩) fun z => z.2
  pa := fun a h => let ⟨o, q⟩ := R.pa a h; ⟨o, e a o q⟩
  a0 := fun a h => ⟨s _ (R.a0 a h).1, (R.a0 a h).2⟩
  ent := fun i c h => by
    obtain ⟨v, h1, h2⟩ := R.ent i c h
    exact ⟨v, h1, h2.mv (fun a o h _ => e a o h) (fun a h => (g a h).imp id And.left) s fun p o _ _ u h => e p u h⟩
  dst := R.dst
  vok := fun q h => (R.vok q h).mv (fun a o h _ => e a o h) fun a h => (g a h).imp id And.left
  src := fun a c h => by
    obtain ⟨h1, h2, h3, h4, h5, h6⟩ := R.src a c h
    exact ⟨h1, s _ h2, s _ h3, h4, h5, h6.mv (fun u q => e a u q) fun u q => e c u q⟩
theorem RS.ext (R : RS K C S σ H ρ) (e : Ext H H') : RS K C S σ H' ρ := R.mv e (fun _ h => h) fun _ h => .inl h
/-- what is free is no part of what is known -/
theorem RS.notS (R : RS K C S σ H ρ) (h : H p = none) : ¬ S p := fun s => by
  obtain ⟨o, e⟩ := R.al p s
  rw [h] at e; cases e
theorem RS.notP (R : RS K C S σ H ρ) (h : H p = none) : ¬ C.pr p := fun s => by
  obtain ⟨o, e⟩ := R.pa p s
  rw [h] at e; cases e
theorem RS.mS (R : RS K C S σ H ρ) (h : C.M p) : S p ∧ ¬ C.pr p := by
  obtain ⟨a, c, e, z⟩ := h
  obtain ⟨_, h2, h3, h4, h5, _⟩ := R.src a c e
  rcases z with rfl | rfl
  · exact ⟨h2, h4⟩
  · exact ⟨h3, h5⟩
theorem RS.free0 (R : RS K C S σ H ρ) (h : H p = none) : C.H0 p = none ∧ ¬ C.M p := by
  have m : ¬ C.M p := fun m => R.notS h (R.mS m).1
  refine ⟨?_, m⟩
  cases q : C.H0 p with
  | none => rfl
  | some o =>
    have := R.fr p o q m
    rw [h] at this; cases this
/-- a slot gets a new cell -/
theorem RS.setS (R : RS K C S σ H ρ) {c : Cl} (x : EntOk K C S H v c) (h : ∀ o p, c = .own o → v = .ref p → ∀ (j : Nat) o', j ≠ i → ρ[j]? = some (some (.own o')) → σ[j]? ≠ some (some (.ref p))) :
    RS K C S (σ.set i (some v)) H (ρ.set i (some c)) where
  len := by rw [List.length_set, List.length_set]; exact R.len
  fr := R.fr
  al := R.al
  pa := R.pa
  a0 := R.a0
  ent := fun j c' e => by
    by_cases hj : i = j
    · subst hj
      by_cases hl : i < ρ.length
      · rw [List.getElem?_set_self hl] at e
        cases e
        exact ⟨v, by rw [List.getElem?_set_self (by rw [R.len]; exact hl)], x⟩
      · rw [List.getElem?_eq_none (by rw [List.length_set]; omega)] at e; cases e
    · rw [List.getElem?_set_ne hj] at e ⊢
      exact R.ent j c' e
  dst := fun j k o o' p hjk e1 e2 e3 e4 => by
    by_cases hj : i = j
    · subst hj
      have hk : i ≠ k := hjk
      by_cases hl : i < ρ.length
      · rw [List.getElem?_set_self hl] at e1
        cases e1
        rw [List.getElem?_set_self (by rw [R.len]; exact hl)] at e3
        cases e3
        rw [List.getElem?_set_ne hk] at e2 e4
        exact h o p rfl rfl k o' (Ne.symm hk) e2 e4
      · rw [List.getElem?_eq_none (by rw [List.length_set]; omega)] at e1; cases e1
    · rw [List.getElem?_set_ne hj] at e1 e3
      by_cases hk : i = k
      · subst hk
        by_cases hl : i < ρ.length
        · rw [List.getElem?_set_self hl] at e2
          cases e2
          rw [List.getElem?_set_self (by rw [R.len]; exact hl)] at e4
          cases e4
          exact h o' p rfl rfl j o hjk e1 e3
        · rw [List.getElem?_eq_none (by rw [List.length_set]; omega)] at e2; cases e2
      · rw [List.getElem?_set_ne hk] at e2 e4
        exact R.dst j k o o' p hjk e1 e2 e3 e4
  vok := R.vok
  src := R.src
theorem RS.setD (R : RS K C S σ H ρ) (x : Rp K S H v d) : RS K C S (σ.set i (some v)) H (ρ.set i (some (.dat d))) := R.setS (c := .dat d) x fun _ _ z => nomatch z
/-- forgetting -/
theorem RS.weak {σ' : VStore} (R : RS K C S σ H ρ) (hl : σ'.length = ρ'.length) (h : ∀ (i : Nat) c, ρ'[i]? = some (some c) → ρ[i]? = some (some c) ∧ σ'[i]? = σ[i]?) : RS K C S σ' H ρ' where
  len := hl
  fr := R.fr
  al := R.al
  pa := R.pa
  a0 := R.a0
  ent := fun i c e => by
    obtain ⟨e1, e2⟩ := h i c e
    rw [e2]
    exact R.ent i c e1
  dst := fun i j o o' p hij e1 e2 e3 e4 => by
    obtain ⟨f1, g1⟩ := h i _ e1
    obtain ⟨f2, g2⟩ := h j _ e2
    rw [g1] at e3
    rw [g2] at e4
    exact R.dst i j o o' p hij f1 f2 e3 e4
  vok := R.vok
  src := R.src
/-- the object of a slot is changed -/
theorem RS.write (R : RS K C S σ H ρ) (e1 : ρ[i]? = some (some (.own d))) (e2 : σ[i]? = some (some (.ref p))) {d' : D} (o : Ob K S (upd H p u) p d') : RS K C S σ (upd H p u) (ρ.set i (some (.own d'))) := by
  obtain ⟨v, e3, q, e4, sp, n0, nm, np, ob⟩ := R.ent i _ e1
  rw [e2] at e3; cases e3; cases e4
  have hl : i < ρ.length := (List.getElem?_eq_some_iff.mp e1).1
  have keep : ∀ a o, a ≠ p → H a = some o → upd H p u a = some o := fun a o n e => by rw [upd_ne n]; exact e
  refine ⟨by rw [List.length_set]; exact R.len, fun a o h m => keep a o (fun z => by rw [z, n0] at h; cases h) (R.fr a o h m), fun a h => ?_, fun a h => ?_, R.a0, fun j c e => ?_, fun j k o o' q hjk f1 f2 f3 f4 => ?_, fun q h => (R.vok q h).wr sp, fun a c h => ?_⟩
  · by_cases z : a = p
    · rw [z]; exact ⟨_, upd_same⟩
    · obtain ⟨o, h⟩ := R.al a h
      exact ⟨o, keep a o z h⟩
  · by_cases z : a = p
    · rw [z]; exact ⟨_, upd_same⟩
    · obtain ⟨o, h⟩ := R.pa a h
      exact ⟨o, keep a o z h⟩
  · by_cases hj : i = j
    · subst hj
      rw [List.getElem?_set_self hl] at e
      cases e
      exact ⟨_, e2, p, rfl, sp, n0, nm, np, o⟩
    · rw [List.getElem?_set_ne hj] at e
      obtain ⟨v, h1, h2⟩ := R.ent j c e
      refine ⟨v, h1, h2.mv (fun a o h n => keep a o (fun z => n (z ▸ sp)) h) (fun _ s => .inl s) (fun _ s => s) fun q o' hv hc w hw => keep q w (fun z => ?_) hw⟩
      subst z hv hc
      exact R.dst i j _ _ _ hj e1 e e2 h1
  · have back : ∀ (k : Nat) o, (ρ.set i (some (.own d')))[k]? = some (some (.own o)) → ∃ o', ρ[k]? = some (some (.own o')) := fun k o h => by
      by_cases hk : i = k
      · subst hk; exact ⟨_, e1⟩
      · rw [List.getElem?_set_ne hk] at h; exact ⟨_, h⟩
    obtain ⟨_, g1⟩ := back j _ f1
    obtain ⟨_, g2⟩ := back k _ f2
    exact R.dst j k _ _ q hjk g1 g2 f3 f4
  · obtain ⟨h1, h2, h3, h4, h5, h6⟩ := R.src a c h
    exact ⟨h1, h2, h3, h4, h5, h6.mv (fun w hw => keep a w (fun z => nm (z ▸ ⟨a, c, h, .inl rfl⟩)) hw) fun w hw => keep c w (fun z => nm (z ▸ ⟨a, c, h, .inr rfl⟩)) hw⟩
theorem RS.writeFr (R : RS K C S σ H ρ) (e1 : ρ[i]? = some (some (.own d))) (e2 : σ[i]? = some (some (.ref p))) : Fr C S H (upd H p u) := fun a o h n => by
  obtain ⟨v, e3, q, e4, sp, n0, nm, np, ob⟩ := R.ent i _ e1
  rw [e2] at e3; cases e3; cases e4
  rw [upd_ne (show a ≠ p from fun z => n.elim (fun z' => z' (by rw [z]; exact sp)) fun z' => np (by rw [← z]; exact z'))]
  exact h
theorem RS.own (R : RS K C S σ H ρ) (e1 : ρ[i]? = some (some (.own d))) : ∃ p, σ[i]? = some (some (.ref p)) ∧ S p ∧ Ob K S H p d := by
  obtain ⟨v, e3, q, e4, sp, n0, nm, np, ob⟩ := R.ent i _ e1
  subst e4
  exact ⟨q, e3, sp, ob⟩
/-- an object of the def's own is given free: it is data from now on -/
theorem RS.freeze (R : RS K C S σ H ρ) (e1 : ρ[i]? = some (some (.own d))) : ∃ S', (∀ a, S' a → S a) ∧ (∀ a, C.S0 a → S' a) ∧ RS K C S' σ H (ρ.set i (some (.dat d))) := by
  obtain ⟨v, e3, p, rfl, sp, n0, nm, np, ob⟩ := R.ent i _ e1
  have hl : i < ρ.length := (List.getElem?_eq_some_iff.mp e1).1
  have sub : ∀ a, (S a ∧ a ≠ p) → S a := fun a h => h.1
  refine ⟨fun a => S a ∧ a ≠ p, sub, fun a h => ⟨(R.a0 a h).1, fun z => by obtain ⟨o, e⟩ := (R.a0 a h).2; rw [z, n0] at e; cases e⟩, by rw [List.length_set]; exact R.len, R.fr, fun a h => R.al a h.1, R.pa, fun a h => ⟨⟨(R.a0 a h).1, fun z => by obtain ⟨o, e⟩ := (R.a0 a h).2; rw [z, n0] at e; cases e⟩, (R.a0 a h).2⟩, fun j c e => ?_, fun j k o o' q hjk f1 f2 f3 f4 => ?_, fun q h => (R.vok q h).anti sub, fun a c h => ?_⟩
  · by_cases hj : i = j
    · subst hj
      rw [List.getElem?_set_self hl] at e
      cases e
      exact ⟨_, e3, (ob.anti sub).rp fun z => z.2 rfl⟩
    · rw [List.getElem?_set_ne hj] at e
      obtain ⟨v, h1, h2⟩ := R.ent j c e
      refine ⟨v, h1, ?_⟩
      cases c with
      | dat d' => exact Rp.anti sub h2
      | own d' =>
        obtain ⟨q, rfl, s1, s2, s3, s4, s5⟩ := h2
        exact ⟨q, rfl, ⟨s1, fun z => R.dst i j _ _ _ hj e1 e e3 (z ▸ h1)⟩, s2, s3, s4, s5.anti sub⟩
      | srcR => exact h2
  · have back : ∀ (k : Nat) o, (ρ.set i (some (.dat d)))[k]? = some (some (.own o)) → i ≠ k ∧ ρ[k]? = some (some (.own o)) := fun k o h => by
      by_cases hk : i = k
      · subst hk; rw [List.getElem?_set_self hl] at h; cases h
      · rw [List.getElem?_set_ne hk] at h; exact ⟨hk, h⟩
    exact R.dst j k _ _ q hjk (back j _ f1).2 (back k _ f2).2 f3 f4
  · obtain ⟨h1, h2, h3, h4⟩ := R.src a c h
    exact ⟨h1, ⟨h2, fun z => nm (z ▸ ⟨a, c, h, .inl rfl⟩)⟩, ⟨h3, fun z => nm (z ▸ ⟨a, c, h, .inr rfl⟩)⟩, h4⟩
/-- another context about the same -/
theorem RS.ctx {C' : Ctx} (R : RS K C S σ H ρ) (h0 : C'.H0 = C.H0) (h1 : C'.S0 = C.S0) (h2 : C'.sa = C.sa) (h3 : ∀ q ∈ C'.vs, Rp K S H q.1 q.2)
    (h4 : ∀ (i : Nat) o p, ρ[i]? = some (some (.own o)) → σ[i]? = some (some (.ref p)) → ¬ C.pr p → ¬ C'.pr p) (h5 : ∀ p, C.M p → ¬ C.pr p → ¬ C'.pr p) (h6 : ∀ a, C'.pr a → ∃ o, H a = some o) : RS K C' S σ H ρ := by
  have hM : ∀ a, C'.M a ↔ C.M a := fun a => by unfold Ctx.M; rw [h2]
  refine ⟨R.len, fun a o h m => R.fr a o (h0 ▸ h) fun z => m ((hM a).mpr z), R.al, h6, fun a h => by rw [h1] at h; rw [h0]; exact R.a0 a h, fun i c e => ?_, R.dst, h3, fun a c h => ?_⟩
  · obtain ⟨v, e1, e2⟩ := R.ent i c e
    refine ⟨v, e1, ?_⟩
    cases c with
    | dat d => exact e2
    | own d =>
      obtain ⟨p, rfl, s1, s2, s3, s4, s5⟩ := e2
      exact ⟨p, rfl, s1, by rw [h0]; exact s2, fun z => s3 ((hM p).mp z), h4 i d p e e1 s4, s5⟩
    | srcR =>
      obtain ⟨a, c, z1, z2⟩ := e2
      exact ⟨a, c, by rw [h2]; exact z1, z2⟩
  · rw [h2] at h
    obtain ⟨z1, z2, z3, z4, z5, z6⟩ := R.src a c h
    exact ⟨z1, z2, z3, h5 a ⟨a, c, h, .inl rfl⟩ z4, h5 c ⟨a, c, h, .inr rfl⟩ z5, z6⟩
/-- data is kept in mind; an object is guarded -/
abbrev Ctx.pin (C : Ctx) (l : List (V × D)) : Ctx := { C with vs := l ++ C.vs }
abbrev Ctx.prot (C : Ctx) (p : Addr) : Ctx := { C with pr := fun a => C.pr a ∨ a = p }
theorem RS.pin {l : List (V × D)} (R : RS K C S σ H ρ) (h : ∀ q ∈ l, Rp K S H q.1 q.2) : RS K (C.pin l) S σ H ρ :=
  R.ctx rfl rfl rfl (fun q hq => (List.mem_append.mp hq).elim (h q) (R.vok q)) (fun _ _ _ _ _ z => z) (fun _ _ z => z) R.pa
theorem RS.unpin {l : List (V × D)} (R : RS K (C.pin l) S σ H ρ) : RS K C S σ H ρ ∧ ∀ q ∈ l, Rp K S H q.1 q.2 :=
  ⟨R.ctx rfl rfl rfl (fun q hq => R.vok q (List.mem_append_right _ hq)) (fun _ _ _ _ _ z => z) (fun _ _ z => z) R.pa, fun q hq => R.vok q (List.mem_append_left _ hq)⟩
theorem RS.prot (R : RS K C S σ H ρ) (h : ∀ (i : Nat) o, ρ[i]? = some (some (.own o)) → σ[i]? ≠ some (some (.ref p))) (m : ¬ C.M p) (hp : ∃ o, H p = some o) : RS K (C.prot p) S σ H ρ :=
  R.ctx rfl rfl rfl R.vok (fun i o q e1 e2 n z => z.elim n fun z => h i o e1 (z ▸ e2)) (fun q hq n z => z.elim n fun z => m (z ▸ hq)) fun a h => h.elim (R.pa a) fun z => by rw [z]; exact hp
theorem RS.unprot (R : RS K (C.prot p) S σ H ρ) : RS K C S σ H ρ :=
  R.ctx rfl rfl rfl R.vok (fun i o q e1 e2 n z => n (.inl z)) (fun q hq n z => n (.inl z)) fun a h => R.pa a (.inl h)
/-- a new object: nobody knows it -/
theorem RS.new (R : RS K C S σ H ρ) (hp : H p = none) : RS K C (fun a => S a ∨ a = p) σ (upd H p u) ρ :=
  R.mv (.new hp) (fun _ h => .inl h) fun a h => h.imp id fun z => by rw [z]; exact ⟨hp, _, upd_same⟩
theorem RS.apart (R : RS K C S σ H ρ) (hp : ¬ S p) : ∀ (i : Nat) o, ρ[i]? = some (some (.own o)) → σ[i]? ≠ some (some (.ref p)) := fun i o e z => by
  obtain ⟨q, e2, s, _⟩ := R.own e
  rw [e2] at z; cases z
  exact hp s
/-- fewer objects are the def's own to change -/
theorem RS.less (R : RS K C S σ H ρ) (h : ∀ a, S' a → S a) (h0 : ∀ a, C.S0 a → S' a) (hs : ∀ a, C.M a → S' a) (ho : ∀ (i : Nat) o p, ρ[i]? = some (some (.own o)) → σ[i]? = some (some (.ref p)) → S' p) : RS K C S' σ H ρ := by
  refine ⟨R.len, R.fr, fun a z => R.al a (h a z), R.pa, fun a z => ⟨h0 a z, (R.a0 a z).2⟩, fun i c e => ?_, R.dst, fun q z => (R.vok q z).anti h, fun a c z => ?_⟩
  · obtain ⟨v, e1, e2⟩ := R.ent i c e
    refine ⟨v, e1, ?_⟩
    cases c with
    | dat d => exact Rp.anti h e2
    | own d =>
      obtain ⟨p, rfl, s1, s2, s3, s4, s5⟩ := e2
      exact ⟨p, rfl, ho i d p e e1, s2, s3, s4, s5.anti h⟩
    | srcR => exact e2
  · obtain ⟨z1, z2, z3, z4, z5, z6⟩ := R.src a c z
    exact ⟨z1, hs a ⟨a, c, z, .inl rfl⟩, hs c ⟨a, c, z, .inr rfl⟩, z4, z5, z6⟩
end
end Gw
namespace Gw
open PySem PySem.Spec PyProof.Rows L2

/-! ## readings over data -/
abbrev DTE := Rho → (D → Rho → Prop) → Prop
abbrev DTT := Rho → (Bool → Rho → Prop) → Prop
abbrev DTA := Rho → (List D → Rho → Prop) → Prop
abbrev DOp := D → D → (D → Prop) → Prop
structure DEnds where
  nx : Rho → Prop
  rt : D → Rho → Prop
  bk : Rho → Prop := fun _ => False
  ct : Rho → Prop := fun _ => False
abbrev DTS := DEnds → Rho → Prop

def SimE (K : PySem.W.Frag) (t : TE) (g : DTE) : Prop := ∀ (C : Ctx) (S : Vol) (σ : VStore) (H : Hp) (ρ : Rho) (Q : D → Rho → Prop) (k : VK), RS K C S σ H ρ → g ρ Q →
  (∀ v H' d ρ', Fr C S H H' → RS K C S σ H' ρ' → Rp K S H' v d → Q d ρ' → k v H') → t σ H k
def SimQ (K : PySem.W.Frag) (t : TE) (g : DTE) : Prop := ∀ (C : Ctx) (S : Vol) (σ : VStore) (H : Hp) (ρ : Rho) (Q : D → Rho → Prop) (k : VK), RS K C S σ H ρ → g ρ Q →
  (∀ v H' d ρ', Fr C S H H' → RS K C S σ H' ρ' → Rq K S H' v d → Q d ρ' → k v H') → t σ H k
/-- a new object -/
def SimF (K : PySem.W.Frag) (t : TE) (g : DTE) : Prop := ∀ (C : Ctx) (S : Vol) (σ : VStore) (H : Hp) (ρ : Rho) (Q : D → Rho → Prop) (k : VK), RS K C S σ H ρ → g ρ Q →
  (∀ p H' d ρ', Fr C S H H' → RS K C S σ H' ρ' → RS K C (fun a => S a ∨ a = p) σ H' ρ' → H p = none → Ob K (fun a => S a ∨ a = p) H' p d → Q d ρ' → k (.ref p) H') → t σ H k
def SimT (K : PySem.W.Frag) (t : TT) (g : DTT) : Prop := ∀ (C : Ctx) (S : Vol) (σ : VStore) (H : Hp) (ρ : Rho) (Q : Bool → Rho → Prop) (k : Bool → Hp → Prop), RS K C S σ H ρ → g ρ Q →
  (∀ b H' ρ', Fr C S H H' → RS K C S σ H' ρ' → Q b ρ' → k b H') → t σ H k
def SimA (K : PySem.W.Frag) (t : TA) (g : DTA) : Prop := ∀ (C : Ctx) (S : Vol) (σ : VStore) (H : Hp) (ρ : Rho) (Q : List D → Rho → Prop) (k : List V → Hp → Prop), RS K C S σ H ρ → g ρ Q →
  (∀ vs H' ds ρ', Fr C S H H' → RS K C S σ H' ρ' → RpA K S H' vs ds → Q ds ρ' → k vs H') → t σ H k
def SimS (K : PySem.W.Frag) (t : TS) (T : DTS) : Prop := ∀ (C : Ctx) (S : Vol) (σ : VStore) (H : Hp) (ρ : Rho) (E : Ends) (G : DEnds), RS K C S σ H ρ → T G ρ →
  (∀ S' σ' H' ρ', RS K C S' σ' H' ρ' → G.nx ρ' → E.nx σ' H') → (∀ S' σ' H' ρ' v d, RS K C S' σ' H' ρ' → Rp K S' H' v d → G.rt d ρ' → E.rt v H') →
  (∀ S' σ' H' ρ', RS K C S' σ' H' ρ' → G.bk ρ' → E.bk σ' H') → (∀ S' σ' H' ρ', RS K C S' σ' H' ρ' → G.ct ρ' → E.ct σ' H') → t E σ H

structure DE (X : Cx) (e : Expr) (g : DTE) : Prop where
  ex : ∃ t, PE X e t ∧ SimE X.K t g
structure DQ (X : Cx) (e : Expr) (g : DTE) : Prop where
  ex : ∃ t, PE X e t ∧ SimQ X.K t g
structure DF (X : Cx) (e : Expr) (g : DTE) : Prop where
  ex : ∃ t, PE X e t ∧ SimF X.K t g
structure DT (X : Cx) (e : Expr) (g : DTT) : Prop where
  ex : ∃ t, PT X e t ∧ SimT X.K t g
structure DW (X : Cx) (e : Expr) (g : DTT) : Prop where
  ex : ∃ t, PW X e t ∧ SimT X.K t g
structure DA (X : Cx) (es : List Expr) (g : DTA) : Prop where
  ex : ∃ t, PA X es t ∧ SimA X.K t g
structure DS (X : Cx) (st : Stmt) (T : DTS) : Prop where
  ex : ∃ t, PS X st t ∧ SimS X.K t T
structure DSs (X : Cx) (st : List Stmt) (T : DTS) : Prop where
  ex : ∃ t, PSs X st t ∧ SimS X.K t T


section
variable {X : Cx} {a b c : Expr} {g ga gb gc : DTE} {pos : Pos} {K : PySem.W.Frag}
theorem DE.q (h : DE X a g) : DQ X a g := let ⟨t, p, s⟩ := h.ex; ⟨t, p, fun C S σ H ρ Q k R q f => s C S σ H ρ Q k R q fun v H' d ρ' f1 f2 f3 f4 => f v H' d ρ' f1 f2 (.inl f3) f4⟩
theorem obSub {S : Vol} {H H' : Hp} {p : Addr} {d : D} {C : Ctx} {σ : VStore} {ρ : Rho} (R : RS K C S σ H ρ) (h : H p = none) (o : Ob K (fun a => S a ∨ a = p) H' p d) : Rp K S H' (.ref p) d := (o.anti fun _ h => .inl h).rp (R.notS h)
theorem DF.de (h : DF X a g) : DE X a g := let ⟨t, p, s⟩ := h.ex; ⟨t, p, fun C S σ H ρ Q k R q f => s C S σ H ρ Q k R q fun p H' d ρ' f1 f2 _ f3 f4 f5 => f _ H' d ρ' f1 f2 (obSub R f3 f4) f5⟩
theorem DF.q (h : DF X a g) : DQ X a g := h.de.q
/-- .. by the state where it was made -/
theorem newOb {S : Vol} {H1 : Hp} {σ : VStore} {C : Ctx} {ρ : Rho} {p : Addr} {u : HO} (R : RS K C S σ H1 ρ) (hp : H1 p = none) : RS K C S σ (upd H1 p u) ρ ∧ RS K C (fun a => S a ∨ a = p) σ (upd H1 p u) ρ := ⟨R.ext (.new hp), R.new hp⟩
theorem RpA.newp {S : Vol} {H1 : Hp} {p : Addr} {u : HO} {xs : List V} {ds : List D} (r : RpA K S H1 xs ds) (hp : H1 p = none) : RpA K (fun a => S a ∨ a = p) (upd H1 p u) xs ds :=
  r.mv (fun a o h _ => Ext.new hp a o h) fun a h => h.imp id fun z => by rw [z]; exact hp

/-! ### names and constants -/
/-- the i-th cell -/
def lk : Rho → Nat → Option Cl
  | [], _ => none
  | c :: _, 0 => c
  | _ :: r, i + 1 => lk r i
theorem lk_get : ∀ {ρ : Rho} {i : Nat} {c : Cl}, lk ρ i = some c → ρ[i]? = some (some c)
  | [], _, _, h => by simp [lk] at h
  | _ :: _, 0, _, h => by simpa [lk] using h
  | _ :: r, i + 1, c, h => by
    have := lk_get (ρ := r) (i := i) (c := c) (by simpa [lk] using h)
    simpa using this
theorem get_lk : ∀ {ρ : Rho} {i : Nat} {c : Cl}, ρ[i]? = some (some c) → lk ρ i = some c
  | [], _, _, h => by simp at h
  | _ :: _, 0, _, h => by simpa [lk] using h
  | _ :: r, i + 1, c, h => by
    have := get_lk (ρ := r) (i := i) (c := c) (by simpa using h)
    simpa [lk] using this
def gVar (i : Nat) : DTE := fun ρ Q => ∃ d, lk ρ i = some (.dat d) ∧ Q d ρ
def gOwn (i : Nat) : DTE := fun ρ Q => ∃ d, lk ρ i = some (.own d) ∧ Q d ρ
def gC (d : D) : DTE := fun ρ Q => Q d ρ
theorem simVar (i : Nat) : SimE K (tVar i) (gVar i) := fun C S σ H ρ Q k R q f => by
  obtain ⟨d, e, q⟩ := q
  obtain ⟨v, e1, r⟩ := R.ent i _ (lk_get e)
  exact ⟨v, e1, f v H d ρ .refl R r q⟩
theorem simOwn (i : Nat) : SimQ K (tVar i) (gOwn i) := fun C S σ H ρ Q k R q f => by
  obtain ⟨d, e, q⟩ := q
  obtain ⟨p, e1, _, o⟩ := R.own (lk_get e)
  exact ⟨_, e1, f _ H d ρ .refl R (.inr ⟨p, rfl, o⟩) q⟩
theorem dvar (i : Nat) {x : Str} (hN : X.N[i]? = some x := by rfl) (hv : Vis X.env.scope x := by first | exact Or.inl rfl | exact Or.inr (Or.inl rfl) | exact Or.inr (Or.inr rfl)) (hd : (x == ("__debug__" : Str)) = false := by decide)
    (hcd : (x == ("__classdict__" : Str)) = false := by decide) : DE X (.Name x pos) (gVar i) := ⟨_, pe_var hN hv hd hcd, simVar i⟩
theorem down (i : Nat) {x : Str} (hN : X.N[i]? = some x := by rfl) (hv : Vis X.env.scope x := by first | exact Or.inl rfl | exact Or.inr (Or.inl rfl) | exact Or.inr (Or.inr rfl)) (hd : (x == ("__debug__" : Str)) = false := by decide)
    (hcd : (x == ("__classdict__" : Str)) = false := by decide) : DQ X (.Name x pos) (gOwn i) := ⟨_, pe_var hN hv hd hcd, simOwn i⟩
theorem simC {v : V} {d : D} (r : ∀ S H, Rp K S H v d) : SimE K (tC v) (gC d) := fun C S σ H ρ Q k R q f => f v H d ρ .refl R (r S H) q
theorem dint {i : Int} {j} : DE X (.Constant (.int i) j pos) (gC (.int i)) := ⟨_, pe_int, simC fun _ _ => .int i⟩
theorem dbl {i : Bool} {j} : DE X (.Constant (.bool i) j pos) (gC (.bool i)) := ⟨_, pe_bl, simC fun _ _ => .bl i⟩
theorem dnon {j} : DE X (.Constant .none j pos) (gC .none) := ⟨_, pe_non, simC fun _ _ => .non⟩
theorem dstr {i : Str} {j} : DE X (.Constant (.str i) j pos) (gC (.str i)) := ⟨_, pe_str, simC fun _ _ => .str i⟩
theorem dglobI {x : Str} {i : Int} {t : Tok} (hg : Gl X x) (hm : X.mg x = some (.int i t)) (hd : (x == ("__debug__" : Str)) = false := by decide) : DE X (.Name x pos) (gC (.int i)) := ⟨_, pe_glob (v := .int i) hg hm ⟨_, rfl⟩ hd, simC fun _ _ => .int i⟩

/-! ### operations on values -/
def OpD (X : Cx) (f : Value → Value → Sem Value) (g : DOp) : Prop := ∃ r : R2, OpR X f r ∧ ∀ (S : Vol) (H : Hp) (x y : V) (dx dy : D) (Q : D → Prop) (k : VK), (∀ p, H p = none → ¬ S p) → Rq X.K S H x dx → Rq X.K S H y dy → g dx dy Q →
  (∀ z H' d, Ext H H' → Rp X.K S H' z d → Q d → k z H') → r x y H k
/-- .. that make a new object -/
def OpF (X : Cx) (f : Value → Value → Sem Value) (g : DOp) : Prop := ∃ r : R2, OpR X f r ∧ ∀ (S : Vol) (H : Hp) (x y : V) (dx dy : D) (Q : D → Prop) (k : VK), Rq X.K S H x dx → Rq X.K S H y dy → g dx dy Q →
  (∀ p xs ds, H p = none → RpA X.K S H xs ds → Q (.list ds) → k (.ref p) (upd H p (.lst xs))) → r x y H k
theorem OpF.d {f : Value → Value → Sem Value} {g : DOp} (h : OpF X f g) : OpD X f g := by
  obtain ⟨r, h1, h2⟩ := h
  refine ⟨r, h1, fun S H x y dx dy Q k n hx hy hg hk => h2 S H x y dx dy Q k hx hy hg fun p xs ds hp hr q => hk _ _ _ (.new hp) (.lst (.of upd_same (n p hp)) (hr.ext (.new hp))) q⟩
theorem OpR.orr {f : Value → Value → Sem Value} {r r' : R2} (h : OpR X f r) (h' : OpR X f r') : OpR X f (fun x y H Q => r x y H Q ∨ r' x y H Q) :=
  fun pins s σ H x y v u Q I rx ry q => q.elim (h pins s σ H x y v u Q I rx ry) (h' pins s σ H x y v u Q I rx ry)
theorem OpD.orr {f : Value → Value → Sem Value} {g g' g2 : DOp} (h : OpD X f g) (h' : OpD X f g') (hg : ∀ x y Q, g2 x y Q → g x y Q ∨ g' x y Q) : OpD X f g2 := by
  obtain ⟨r, h1, h2⟩ := h
  obtain ⟨r', h1', h2'⟩ := h'
  refine ⟨_, OpR.orr h1 h1', fun S H x y dx dy Q k n hx hy q hk => ?_⟩
  rcases hg _ _ _ q with q | q
  · exact .inl (h2 S H x y dx dy Q k n hx hy q hk)
  · exact .inr (h2' S H x y dx dy Q k n hx hy q hk)
def gBin (f : DOp) (ga gb : DTE) : DTE := fun ρ Q => ga ρ fun x ρ1 => gb ρ1 fun y ρ2 => f x y fun d => Q d ρ2
/-- the left one an own object: looked at when the right one is there -/
def gBinO (f : DOp) (i : Nat) (gb : DTE) : DTE := fun ρ Q => (∃ x, lk ρ i = some (.own x)) ∧ gb ρ fun y ρ2 => ∃ x, lk ρ2 i = some (.own x) ∧ f x y fun d => Q d ρ2
section
variable {f : Value → Value → Sem Value} {fo : DOp} {ta tb : TE}
theorem simBin {r : R2} (hr : ∀ (S : Vol) (H : Hp) (x y : V) (dx dy : D) (Q : D → Prop) (k : VK), (∀ p, H p = none → ¬ S p) → Rq K S H x dx → Rq K S H y dy → fo dx dy Q → (∀ z H' d, Ext H H' → Rp K S H' z d → Q d → k z H') → r x y H k)
    (ha : SimE K ta ga) (hb : SimQ K tb gb) : SimE K (tOp r ta tb) (gBin fo ga gb) := fun C S σ H ρ Q k R q f =>
  ha C S σ H ρ _ _ R q fun v H1 d1 ρ1 f1 R1 r1 q1 => hb C S σ H1 ρ1 _ _ R1 q1 fun u H2 d2 ρ2 f2 R2 r2 q2 =>
    hr S H2 v u d1 d2 _ _ (fun p hp => R2.notS hp) (.inl (f2.rp r1)) r2 q2 fun z H3 d e3 r3 q3 => f z H3 d ρ2 ((f1.trans f2).trans (.of e3)) (R2.ext e3) r3 q3
theorem simBinO {r : R2} {i : Nat} (hr : ∀ (S : Vol) (H : Hp) (x y : V) (dx dy : D) (Q : D → Prop) (k : VK), (∀ p, H p = none → ¬ S p) → Rq K S H x dx → Rq K S H y dy → fo dx dy Q → (∀ z H' d, Ext H H' → Rp K S H' z d → Q d → k z H') → r x y H k)
    (hb : SimQ K tb gb) : SimE K (tOp r (tVar i) tb) (gBinO fo i gb) := fun C S σ H ρ Q k R q f => by
  obtain ⟨⟨x0, e0⟩, q⟩ := q
  obtain ⟨p0, e, _, _⟩ := R.own (lk_get e0)
  refine ⟨_, e, hb C S σ H ρ _ _ R q fun u H2 d2 ρ2 f2 R2 r2 q2 => ?_⟩
  obtain ⟨x, e2, q2⟩ := q2
  obtain ⟨p, e3, _, o⟩ := R2.own (lk_get e2)
  rw [e] at e3; cases e3
  exact hr S H2 _ u x d2 _ _ (fun p hp => R2.notS hp) (.inr ⟨p0, rfl, o⟩) r2 q2 fun z H3 d e3 r3 q3 => f z H3 d ρ2 (f2.trans (.of e3)) (R2.ext e3) r3 q3
theorem simBinF {r : R2} (hr : ∀ (S : Vol) (H : Hp) (x y : V) (dx dy : D) (Q : D → Prop) (k : VK), Rq K S H x dx → Rq K S H y dy → fo dx dy Q → (∀ p xs ds, H p = none → RpA K S H xs ds → Q (.list ds) → k (.ref p) (upd H p (.lst xs))) → r x y H k)
    (ha : SimE K ta ga) (hb : SimQ K tb gb) : SimF K (tOp r ta tb) (gBin fo ga gb) := fun C S σ H ρ Q k R q f =>
  ha C S σ H ρ _ _ R q fun v H1 d1 ρ1 f1 R1 r1 q1 => hb C S σ H1 ρ1 _ _ R1 q1 fun u H2 d2 ρ2 f2 R2 r2 q2 =>
    hr S H2 v u d1 d2 _ _ (.inl (f2.rp r1)) r2 q2 fun p xs ds hp rx q3 => by
      have h0 : H p = none := by
        cases h : H p with
        | none => rfl
        | some o =>
          by_cases s : S p
          · obtain ⟨o', h'⟩ := R2.al p s
            rw [hp] at h'; cases h'
          · have := (f1.trans f2) p o h (.inl s)
            rw [hp] at this; cases this
      exact f p _ _ ρ2 ((f1.trans f2).trans (.of (.new hp))) (newOb R2 hp).1 (newOb R2 hp).2 h0 (.lst upd_same (RpA.newp rx hp)) q3
end
theorem dbin {op : Operator} {fo : DOp} (ho : OpD X (binaryOp op) fo) (ha : DE X a ga) (hb : DQ X b gb) : DE X (.BinOp a op b pos) (gBin fo ga gb) := by
  obtain ⟨r, h1, h2⟩ := ho
  obtain ⟨ta, pa, sa⟩ := ha.ex
  obtain ⟨tb, pb, sb⟩ := hb.ex
  exact ⟨_, pe_op h1 pa pb, simBin h2 sa sb⟩
theorem dbinF {op : Operator} {fo : DOp} (ho : OpF X (binaryOp op) fo) (ha : DE X a ga) (hb : DQ X b gb) : DF X (.BinOp a op b pos) (gBin fo ga gb) := by
  obtain ⟨r, h1, h2⟩ := ho
  obtain ⟨ta, pa, sa⟩ := ha.ex
  obtain ⟨tb, pb, sb⟩ := hb.ex
  exact ⟨_, pe_op h1 pa pb, simBinF h2 sa sb⟩
theorem dcmp {op : CmpOp} {fo : DOp} (ho : OpD X (compareOp op) fo) (ha : DE X a ga) (hb : DQ X b gb) (hm : behindInMarks op b = false) : DE X (.Compare a [op] [b] pos) (gBin fo ga gb) := by
  obtain ⟨r, h1, h2⟩ := ho
  obtain ⟨ta, pa, sa⟩ := ha.ex
  obtain ⟨tb, pb, sb⟩ := hb.ex
  exact ⟨_, pe_cmpR h1 pa pb hm, simBin h2 sa sb⟩
theorem dcmpO {op : CmpOp} {fo : DOp} (i : Nat) {x : Str} {p : Pos} (ho : OpD X (compareOp op) fo) (hb : DQ X b gb) (hm : behindInMarks op b = false) (hN : X.N[i]? = some x := by rfl) (hv : Vis X.env.scope x := by first | exact Or.inl rfl | exact Or.inr (Or.inl rfl) | exact Or.inr (Or.inr rfl)) (hd : (x == ("__debug__" : Str)) = false := by decide)
    (hcd : (x == ("__classdict__" : Str)) = false := by decide) : DE X (.Compare (.Name x p) [op] [b] pos) (gBinO fo i gb) := by
  obtain ⟨r, h1, h2⟩ := ho
  obtain ⟨tb, pb, sb⟩ := hb.ex
  exact ⟨_, pe_cmpR h1 (pe_var hN hv hd hcd) pb hm, simBinO h2 sb⟩

/-! ### tests -/
def gTest (g : DTE) : DTT := fun ρ Q => g ρ fun d ρ' => ∃ b, d = .bool b ∧ Q b ρ'
theorem simTest {t : TE} (h : SimE K t g) : SimT K (tTest t) (gTest g) := fun C S σ H ρ Q k R q f =>
  h C S σ H ρ _ _ R q fun v H' d ρ' f1 R1 r1 q1 => by
    obtain ⟨b, rfl, q1⟩ := q1
    cases r1
    exact ⟨b, rfl, f b H' ρ' f1 R1 q1⟩
theorem dtcmp {op : CmpOp} {fo : DOp} (ho : OpD X (compareOp op) fo) (ha : DE X a ga) (hb : DQ X b gb) (hm : behindInMarks op b = false) : DT X (.Compare a [op] [b] pos) (gTest (gBin fo ga gb)) := by
  obtain ⟨r, h1, h2⟩ := ho
  obtain ⟨ta, pa, sa⟩ := ha.ex
  obtain ⟨tb, pb, sb⟩ := hb.ex
  exact ⟨_, pt_cmpR h1 pa pb hm, simTest (simBin h2 sa sb)⟩
theorem dtcmpO {op : CmpOp} {fo : DOp} (i : Nat) {x : Str} {p : Pos} (ho : OpD X (compareOp op) fo) (hb : DQ X b gb) (hm : behindInMarks op b = false) (hN : X.N[i]? = some x := by rfl) (hv : Vis X.env.scope x := by first | exact Or.inl rfl | exact Or.inr (Or.inl rfl) | exact Or.inr (Or.inr rfl)) (hd : (x == ("__debug__" : Str)) = false := by decide)
    (hcd : (x == ("__classdict__" : Str)) = false := by decide) : DT X (.Compare (.Name x p) [op] [b] pos) (gTest (gBinO fo i gb)) := by
  obtain ⟨r, h1, h2⟩ := ho
  obtain ⟨tb, pb, sb⟩ := hb.ex
  exact ⟨_, pt_cmpR h1 (pe_var hN hv hd hcd) pb hm, simTest (simBinO h2 sb)⟩
theorem dtval (h : DE X a g) (he : ∀ whole, isTrue a X.env whole = (do let v ← whole; standAt a.pos; holding [v] (truthy v)) := by intro _; rfl) : DT X a (gTest g) := by
  obtain ⟨t, p, s⟩ := h.ex
  exact ⟨_, pt_val p he, simTest s⟩
/-- is None -/
def gIsN (neg : Bool) (g : DTE) : DTE := fun ρ Q => g ρ fun d ρ' => Q (.bool (match d with | .none => !neg | _ => neg)) ρ'
theorem Rp.nonIff {S : Vol} {H : Hp} {v : V} {d : D} (r : Rp K S H v d) : decide (v = .non) = (match d with | .none => true | _ => false) := by
  cases r <;> rfl
theorem disN {j pos'} (ha : DE X a ga) : DE X (.Compare a [.Is] [.Constant .none j pos'] pos) (gIsN false ga) := by
  obtain ⟨t, p, s⟩ := ha.ex
  refine ⟨_, pe_cmp (pc_isN p), fun C S σ H ρ Q k R q f => s C S σ H ρ _ _ R q fun v H' d ρ' f1 R1 r1 q1 => f _ H' _ ρ' f1 R1 (.bl _) ?_⟩
  rw [r1.nonIff]
  cases d <;> exact q1
theorem dnotN {j pos'} (ha : DE X a ga) : DE X (.Compare a [.IsNot] [.Constant .none j pos'] pos) (gIsN true ga) := by
  obtain ⟨t, p, s⟩ := ha.ex
  refine ⟨_, pe_cmp (pc_notN p), fun C S σ H ρ Q k R q f => s C S σ H ρ _ _ R q fun v H' d ρ' f1 R1 r1 q1 => f _ H' _ ρ' f1 R1 (.bl _) ?_⟩
  rw [r1.nonIff]
  cases d <;> exact q1
theorem dtisN {j pos'} (ha : DE X a ga) : DT X (.Compare a [.Is] [.Constant .none j pos'] pos) (gTest (gIsN false ga)) := by
  obtain ⟨t, p, s⟩ := ha.ex
  refine ⟨_, pt_cmp (pc_isN p), fun C S σ H ρ Q k R q f => s C S σ H ρ _ _ R q fun v H' d ρ' f1 R1 r1 q1 => ?_⟩
  obtain ⟨b, e, q1⟩ := q1
  refine ⟨b, ?_, f _ H' ρ' f1 R1 q1⟩
  rw [r1.nonIff]
  cases d <;> (cases e; rfl)
theorem dtnotN {j pos'} (ha : DE X a ga) : DT X (.Compare a [.IsNot] [.Constant .none j pos'] pos) (gTest (gIsN true ga)) := by
  obtain ⟨t, p, s⟩ := ha.ex
  refine ⟨_, pt_cmp (pc_notN p), fun C S σ H ρ Q k R q f => s C S σ H ρ _ _ R q fun v H' d ρ' f1 R1 r1 q1 => ?_⟩
  obtain ⟨b, e, q1⟩ := q1
  refine ⟨b, ?_, f _ H' ρ' f1 R1 q1⟩
  rw [r1.nonIff]
  cases d <;> (cases e; rfl)
/-- truth -/
def truD : D → Option Bool
  | .none => some false
  | .bool b => some b
  | .int i => some (i != 0)
  | .list ds => some (!ds.isEmpty)
  | .tuple ds => some (!ds.isEmpty)
  | _ => none
def gTru (g : DTE) : DTT := fun ρ Q => g ρ fun d ρ' => ∃ b, truD d = some b ∧ Q b ρ'
theorem empty_iff {S : Vol} {H : Hp} {xs : List V} {ds : List D} (r : RpA K S H xs ds) : xs.isEmpty = ds.isEmpty := by
  cases r <;> rfl
theorem truV_of {S : Vol} {H : Hp} {v : V} {d : D} {b : Bool} (r : Rq K S H v d) (e : truD d = some b) : TruV K v H b := by
  cases d with
  | none => cases r.non; cases e; rfl
  | bool x => cases r.bl; cases e; rfl
  | int x => cases r.int; cases e; rfl
  | str x => cases e
  | dict x => cases e
  | list ds =>
    obtain ⟨p, xs, rfl, h, r⟩ := r.sql
    cases e
    exact .inl ⟨xs, h, by rw [empty_iff r]⟩
  | tuple ds =>
    obtain ⟨p, xs, rfl, h, r⟩ := r.sqt
    cases e
    exact .inr (.inl ⟨xs, h, by rw [empty_iff r]⟩)
theorem dttru (h : DQ X a g) (he : ∀ whole, isTrue a X.env whole = (do let v ← whole; standAt a.pos; holding [v] (truthy v)) := by intro _; rfl) : DT X a (gTru g) := by
  obtain ⟨t, p, s⟩ := h.ex
  refine ⟨_, pt_truth p he, fun C S σ H ρ Q k R q f => s C S σ H ρ _ _ R q fun v H' d ρ' f1 R1 r1 q1 => ?_⟩
  obtain ⟨b, e, q1⟩ := q1
  exact ⟨b, truV_of r1 e, f b H' ρ' f1 R1 q1⟩
variable {s t u : DTT} {rest : List Expr}
def gAnd (s t : DTT) : DTT := fun ρ Q => s ρ fun c ρ' => if c = true then t ρ' Q else Q false ρ'
def gOr (s t : DTT) : DTT := fun ρ Q => s ρ fun c ρ' => if c = true then Q true ρ' else t ρ' Q
def gNot (s : DTT) : DTT := fun ρ Q => s ρ fun c ρ' => Q (!c) ρ'
theorem dwpt (h : DW X a s) : DT X a s := let ⟨t, p, q⟩ := h.ex; ⟨t, p.pt, q⟩
theorem dand1 (h : DT X a s) : DW X (.BoolOp .And [a] pos) s := let ⟨t, p, q⟩ := h.ex; ⟨t, pw_and1 p, q⟩
theorem dor1 (h : DT X a s) : DW X (.BoolOp .Or [a] pos) s := let ⟨t, p, q⟩ := h.ex; ⟨t, pw_or1 p, q⟩
theorem dand (ha : DT X a s) (hb : DW X (.BoolOp .And (b :: rest) pos) t) : DW X (.BoolOp .And (a :: b :: rest) pos) (gAnd s t) := by
  obtain ⟨_, p1, q1⟩ := ha.ex
  obtain ⟨_, p2, q2⟩ := hb.ex
  refine ⟨_, pw_and p1 p2, fun C S σ H ρ Q k R q f => q1 C S σ H ρ _ _ R q fun b H' ρ' f1 R1 h => ?_⟩
  cases b with
  | true => rw [if_pos rfl] at h ⊢; exact q2 C S σ H' ρ' _ _ R1 h fun b H2 ρ2 f2 R2 q => f b H2 ρ2 (f1.trans f2) R2 q
  | false => rw [if_neg Bool.false_ne_true] at h ⊢; exact f false H' ρ' f1 R1 h
theorem dor (ha : DT X a s) (hb : DW X (.BoolOp .Or (b :: rest) pos) t) : DW X (.BoolOp .Or (a :: b :: rest) pos) (gOr s t) := by
  obtain ⟨_, p1, q1⟩ := ha.ex
  obtain ⟨_, p2, q2⟩ := hb.ex
  refine ⟨_, pw_or p1 p2, fun C S σ H ρ Q k R q f => q1 C S σ H ρ _ _ R q fun b H' ρ' f1 R1 h => ?_⟩
  cases b with
  | true => rw [if_pos rfl] at h ⊢; exact f true H' ρ' f1 R1 h
  | false => rw [if_neg Bool.false_ne_true] at h ⊢; exact q2 C S σ H' ρ' _ _ R1 h fun b H2 ρ2 f2 R2 q => f b H2 ρ2 (f1.trans f2) R2 q
theorem dnot (ha : DT X a s) : DT X (.UnaryOp .Not a pos) (gNot s) := by
  obtain ⟨_, p1, q1⟩ := ha.ex
  exact ⟨_, pt_not p1, fun C S σ H ρ Q k R q f => q1 C S σ H ρ _ _ R q fun b H' ρ' f1 R1 h => f _ H' ρ' f1 R1 h⟩
/-- the same as values (bools) -/
def gAndV (ga gb : DTE) : DTE := fun ρ Q => ga ρ fun d ρ' => ∃ c, d = .bool c ∧ if c = true then gb ρ' Q else Q (.bool false) ρ'
def gOrV (ga gb : DTE) : DTE := fun ρ Q => ga ρ fun d ρ' => ∃ c, d = .bool c ∧ if c = true then Q (.bool true) ρ' else gb ρ' Q
def gNotV (ga : DTE) : DTE := fun ρ Q => ga ρ fun d ρ' => ∃ c, d = .bool c ∧ Q (.bool (!c)) ρ'
theorem deone {op} (h : DE X a g) : DE X (.BoolOp op [a] pos) g := let ⟨t, p, q⟩ := h.ex; ⟨t, pe_one p, q⟩
theorem deand (ha : DE X a ga) (hb : DE X (.BoolOp .And (b :: rest) pos) gb) : DE X (.BoolOp .And (a :: b :: rest) pos) (gAndV ga gb) := by
  obtain ⟨_, p1, q1⟩ := ha.ex
  obtain ⟨_, p2, q2⟩ := hb.ex
  refine ⟨_, pe_and p1 p2, fun C S σ H ρ Q k R q f => q1 C S σ H ρ _ _ R q fun v H' d ρ' f1 R1 r1 h => ?_⟩
  obtain ⟨c, rfl, h⟩ := h
  cases r1
  refine ⟨c, rfl, ?_⟩
  cases c with
  | true => rw [if_pos rfl] at h ⊢; exact q2 C S σ H' ρ' _ _ R1 h fun v H2 d ρ2 f2 R2 r2 q => f v H2 d ρ2 (f1.trans f2) R2 r2 q
  | false => rw [if_neg Bool.false_ne_true] at h ⊢; exact f _ H' _ ρ' f1 R1 (.bl _) h
theorem deor (ha : DE X a ga) (hb : DE X (.BoolOp .Or (b :: rest) pos) gb) : DE X (.BoolOp .Or (a :: b :: rest) pos) (gOrV ga gb) := by
  obtain ⟨_, p1, q1⟩ := ha.ex
  obtain ⟨_, p2, q2⟩ := hb.ex
  refine ⟨_, pe_or p1 p2, fun C S σ H ρ Q k R q f => q1 C S σ H ρ _ _ R q fun v H' d ρ' f1 R1 r1 h => ?_⟩
  obtain ⟨c, rfl, h⟩ := h
  cases r1
  refine ⟨c, rfl, ?_⟩
  cases c with
  | true => rw [if_pos rfl] at h ⊢; exact f _ H' _ ρ' f1 R1 (.bl _) h
  | false => rw [if_neg Bool.false_ne_true] at h ⊢; exact q2 C S σ H' ρ' _ _ R1 h fun v H2 d ρ2 f2 R2 r2 q => f v H2 d ρ2 (f1.trans f2) R2 r2 q
theorem denot (ha : DE X a ga) : DE X (.UnaryOp .Not a pos) (gNotV ga) := by
  obtain ⟨_, p1, q1⟩ := ha.ex
  refine ⟨_, pe_not p1, fun C S σ H ρ Q k R q f => q1 C S σ H ρ _ _ R q fun v H' d ρ' f1 R1 r1 h => ?_⟩
  obtain ⟨c, rfl, h⟩ := h
  cases r1
  exact ⟨c, rfl, f _ H' _ ρ' f1 R1 (.bl _) h⟩
def gIf (s : DTT) (ga gb : DTE) : DTE := fun ρ Q => s ρ fun c ρ' => if c = true then ga ρ' Q else gb ρ' Q
theorem dif_ {c : Expr} (hc : DT X c s) (ha : DE X a ga) (hb : DE X b gb) : DE X (.IfExp c a b pos) (gIf s ga gb) := by
  obtain ⟨_, p1, q1⟩ := hc.ex
  obtain ⟨_, p2, q2⟩ := ha.ex
  obtain ⟨_, p3, q3⟩ := hb.ex
  refine ⟨_, pe_ifExp p1 p2 p3, fun C S σ H ρ Q k R q f => q1 C S σ H ρ _ _ R q fun c H' ρ' f1 R1 h => ?_⟩
  cases c with
  | true => rw [if_pos rfl] at h ⊢; exact q2 C S σ H' ρ' _ _ R1 h fun v H2 d ρ2 f2 R2 r2 q => f v H2 d ρ2 (f1.trans f2) R2 r2 q
  | false => rw [if_neg Bool.false_ne_true] at h ⊢; exact q3 C S σ H' ρ' _ _ R1 h fun v H2 d ρ2 f2 R2 r2 q => f v H2 d ρ2 (f1.trans f2) R2 r2 q
theorem difF {c : Expr} (hc : DT X c s) (ha : DF X a ga) (hb : DF X b gb) : DF X (.IfExp c a b pos) (gIf s ga gb) := by
  obtain ⟨_, p1, q1⟩ := hc.ex
  obtain ⟨_, p2, q2⟩ := ha.ex
  obtain ⟨_, p3, q3⟩ := hb.ex
  have back : ∀ {C : Ctx} {S : Vol} {σ : VStore} {ρ ρ' : Rho} {H H' : Hp} {p : Addr}, Fr C S H H' → RS X.K C S σ H' ρ' → H' p = none → H p = none := fun {C S σ ρ ρ' H H' p} f R h => by
    cases e : H p with
    | none => rfl
    | some o => have := f p o e (.inl (R.notS h)); rw [h] at this; cases this
  refine ⟨_, pe_ifExp p1 p2 p3, fun C S σ H ρ Q k R q f => q1 C S σ H ρ _ _ R q fun c H' ρ' f1 R1 h => ?_⟩
  cases c with
  | true => rw [if_pos rfl] at h ⊢; exact q2 C S σ H' ρ' _ _ R1 h fun p H2 d ρ2 f2 R2 R3 hp r2 q => f p H2 d ρ2 (f1.trans f2) R2 R3 (back (ρ := ρ) f1 R1 hp) r2 q
  | false => rw [if_neg Bool.false_ne_true] at h ⊢; exact q3 C S σ H' ρ' _ _ R1 h fun p H2 d ρ2 f2 R2 R3 hp r2 q => f p H2 d ρ2 (f1.trans f2) R2 R3 (back (ρ := ρ) f1 R1 hp) r2 q

/-! ### lists of expressions, displays -/
variable {es : List Expr} {l : DTA}
def gNil : DTA := fun ρ Q => Q [] ρ
def gCons (g : DTE) (l : DTA) : DTA := fun ρ Q => g ρ fun d ρ1 => l ρ1 fun ds ρ2 => Q (d :: ds) ρ2
theorem danil : DA X [] gNil := ⟨_, pa_nil, fun C S σ H ρ Q k R q f => f [] H [] ρ .refl R .nil q⟩
theorem dacons (ha : DE X a g) (hr : DA X es l) (hs : starEach (a :: es) X.env = (false, eval a X.env) :: starEach es X.env := by rfl) : DA X (a :: es) (gCons g l) := by
  obtain ⟨_, p1, q1⟩ := ha.ex
  obtain ⟨_, p2, q2⟩ := hr.ex
  exact ⟨_, pa_cons p1 p2 hs, fun C S σ H ρ Q k R q f => q1 C S σ H ρ _ _ R q fun v H1 d ρ1 f1 R1 r1 h => q2 C S σ H1 ρ1 _ _ R1 h fun vs H2 ds ρ2 f2 R2 r2 h2 => f _ H2 _ ρ2 (f1.trans f2) R2 (.cons (f2.rp r1) r2) h2⟩
def gTup (l : DTA) : DTE := fun ρ Q => l ρ fun ds ρ' => ds.length ≤ 100000 ∧ Q (.tuple ds) ρ'
def gLst (l : DTA) : DTE := fun ρ Q => l ρ fun ds ρ' => ds.length ≤ 100000 ∧ Q (.list ds) ρ'
theorem szOf {n : Nat} (h : n ≤ 100000) : n ≤ sizeLine := Nat.le_trans h (by decide)
theorem dtup {x1} (h : DA X es l) : DE X (.Tuple es x1 pos) (gTup l) := by
  obtain ⟨_, p, s⟩ := h.ex
  refine ⟨_, pe_tupX p, fun C S σ H ρ Q k R q f => s C S σ H ρ _ _ R q fun vs H' ds ρ' f1 R1 r1 h => ⟨by rw [r1.len]; exact szOf h.1, fun q o hq ho => ?_⟩⟩
  exact f _ _ _ ρ' (f1.trans (.of (.new hq))) (R1.ext (.new hq)) (.tup (.new ho (R1.notS hq)) (r1.ext (.new hq))) h.2
theorem freshAt {C : Ctx} {S : Vol} {σ : VStore} {ρ' : Rho} {H H' : Hp} {p : Addr} (f : Fr C S H H') (R : RS K C S σ H' ρ') (h : H' p = none) : H p = none := by
  cases e : H p with
  | none => rfl
  | some o => have := f p o e (.inl (R.notS h)); rw [h] at this; cases this
theorem dlst (h : DA X es l) : DF X (.List es pos) (gLst l) := by
  obtain ⟨_, p, s⟩ := h.ex
  refine ⟨_, pe_lst p, fun C S σ H ρ Q k R q f => s C S σ H ρ _ _ R q fun vs H' ds ρ' f1 R1 r1 h => ⟨by rw [r1.len]; exact szOf h.1, fun q hq => ?_⟩⟩
  exact f q _ _ ρ' (f1.trans (.of (.new hq))) (newOb R1 hq).1 (newOb R1 hq).2 (freshAt f1 R1 hq) (.lst upd_same (RpA.newp r1 hq)) h.2
end
end Gw
namespace Gw
open PySem PySem.Spec PyProof.Rows L2

/-! ## the operations -/
section
variable {X : Cx} {K : PySem.W.Frag} {S : Vol} {H : Hp}
def notDict : D → Bool
  | .dict _ => false
  | _ => true
mutual
theorem Rp.dp : ∀ {v d}, Rp K S H v d → d.canLay0 = true → Dp K H v d
  | _, _, .non, _ => .non
  | _, _, .bl b, _ => .bl b
  | _, _, .int i, _ => .int i
  | _, _, .str x, _ => .str x
  | _, _, .lst h r, c => .lst h.sq (RpA.dp r (by simpa [PyData.canLay0] using c))
  | _, _, .tup h r, c => .tup h.sq (RpA.dp r (by simpa [PyData.canLay0] using c))
  | _, _, .dK h n r, c => by simp [PyData.canLay0] at c
  | _, _, .dT h n r, c => by simp [PyData.canLay0] at c
theorem RpA.dp : ∀ {vs ds}, RpA K S H vs ds → PyData.canLayAll0 ds = true → DpAll K H vs ds
  | _, _, .nil, _ => .nil
  | _, _, .cons r t, c => by
    simp only [PyData.canLayAll0, Bool.and_eq_true] at c
    exact .cons (Rp.dp r c.1) (RpA.dp t c.2)
end
theorem Rq.dp {v : V} {d : D} (r : Rq K S H v d) (c : d.canLay0 = true) : Dp K H v d := by
  rcases r with r | ⟨p, rfl, o⟩
  · exact r.dp c
  · cases o with
    | lst h r => exact .lst (.of h) (r.dp (by simpa [PyData.canLay0] using c))
    | dK h r => simp [PyData.canLay0] at c
    | dT h r => simp [PyData.canLay0] at c
theorem shp_lay {d : D} (h : SeqAt.shaped d = true) : d.canLay0 = true := SeqAt.canLay_of_shaped h

def addD : DOp := fun x y Q => match x, y with
  | .int i, .int j => Q (.int (i + j))
  | .tuple a, .tuple b => a.length + b.length ≤ 100000 ∧ Q (.tuple (a ++ b))
  | .list a, .list b => a.length + b.length ≤ 100000 ∧ Q (.list (a ++ b))
  | _, _ => False
/-! lists wherever they stand -/
def rCatX (K : PySem.W.Frag) : R2 := fun x y H Q => ∃ l b xs zs, x = .ref l ∧ y = .ref b ∧ Lx K H l xs ∧ Lx K H b zs ∧ xs.length + zs.length ≤ sizeLine ∧ ∀ p, H p = none → Q (.ref p) (upd H p (.lst (xs ++ zs)))
theorem op_catX : OpR X (binaryOp .Add) (rCatX X.K) := by
  rintro pins s σ H x y v u Q I rx ry ⟨l, b, xs, zs, rfl, rfl, hl, hb, hz, q⟩
  cases rx
  cases ry
  obtain ⟨_, is, _, r1, e1, o1⟩ := lxAt I hl
  obtain ⟨_, js, _, r2, e2, o2⟩ := lxAt I hb
  refine PySem.P.add_list o1 o2 ?_ (by simp only [List.size_toArray]; omega)
  rw [show is.toArray ++ js.toArray = (is ++ js).toArray by simp]
  exact ⟨.ref _, _, I.lnew (t' := s.toks) (r1.append r2) (by simp only [List.length_append]; omega), rfl, q _ I.fresh⟩
def rRepX (K : PySem.W.Frag) : R2 := fun x y H Q => ∃ l k xs, x = .ref l ∧ y = .int k ∧ Lx K H l xs ∧ -(2 ^ 63) ≤ k ∧ k < 2 ^ 63 ∧ xs.length * k.toNat ≤ sizeLine ∧ ∀ p, H p = none → Q (.ref p) (upd H p (.lst (List.replicate k.toNat xs).flatten))
theorem op_repX : OpR X (binaryOp .Mult) (rRepX X.K) := by
  rintro pins s σ H x y v u Q I rx ry ⟨l, k, xs, rfl, rfl, hl, k1, k2, hz, q⟩
  cases rx
  obtain ⟨t, rfl⟩ := ry
  obtain ⟨_, is, n, r, el, o⟩ := lxAt I hl
  have z1 : is.toArray.size * k.toNat ≤ sizeLine := by simpa [← el] using hz
  have z2 : ¬ is.toArray.size * k.toNat > (2 ^ 63 - 1) / 8 := by
    have w : (sizeLine : Nat) ≤ (2 ^ 63 - 1) / 8 := by decide
    omega
  have z3 : ¬ (!Builtin.List.listFitsIndex k) = true := by simp [fitsIndex_both k1 k2]
  have z4 : ¬ Builtin.List.listTooLong (is.toArray.size * k.toNat) = true := by rw [notLongL z1]; decide
  have z5 : List.foldl (fun a b => a ++ b) #[] (List.replicate (if is.toArray.isEmpty = true then 0 else k.toNat) is.toArray) = (List.replicate k.toNat is).flatten.toArray := by
    have f (m : Nat) : List.foldl (fun a b => a ++ b) #[] (List.replicate m is.toArray) = (List.replicate m is).flatten.toArray := by simpa using foldl_rep is m []
    rw [f]
    cases is with
    | nil => simp
    | cons a b => simp
  refine wpAny_binaryOp_repeat_ref (T := "list") (U := "int") (by decide) ⟨_, o, rfl⟩ (fun w => typeIs_int w k t) noFill_list_mul PySem.F.fills_int_mul PySem.F.slot_int_rmul repeat_list PySem.F.slot_int_index.lookup
    (call_meets PySem.F.slot_int_rmul (typeIs_int s k t) PySem.F.entry_int_rmul (PySem.F.args_int_rmul_2 _ _) (int___rmul___int_list k t l is.toArray n) ⟨o, rfl, ⟨_, o, rfl⟩, ?_⟩)
  refine call_meets PySem.F.slot_list_mul ⟨_, o, rfl⟩ PySem.F.entry_list_mul (PySem.F.args_list_mul_2 _ _) (AutoListH.list___mul___list_int_3 l is.toArray n k t z3 z2 z4) ⟨o, ?_⟩
  rw [z5]
  exact ⟨.ref _, _, I.lnew (t' := s.toks) (r.rep k.toNat) (by simpa [PyProof.Rows.lm_len_rep_flat, Nat.mul_comm] using hz), rfl, q _ I.fresh⟩
def catD : DOp := fun x y Q => match x, y with | .list a, .list b => a.length + b.length ≤ 100000 ∧ Q (.list (a ++ b)) | _, _ => False
theorem catF : OpF X (binaryOp .Add) catD := by
  refine ⟨_, op_catX, fun S H x y dx dy Q k hx hy q hk => ?_⟩
  cases dx <;> cases dy <;> first | exact q.elim | skip
  obtain ⟨p, xs, rfl, h, r⟩ := hx.lx
  obtain ⟨p', xs', rfl, h', r'⟩ := hy.lx
  exact ⟨p, p', xs, xs', rfl, rfl, h, h', by rw [r.len, r'.len]; exact szOf q.1, fun n hn => hk n _ _ hn (r.app r') q.2⟩
theorem catT : OpD X (binaryOp .Add) (fun x y Q => match x, y with | .tuple a, .tuple b => a.length + b.length ≤ 100000 ∧ Q (.tuple (a ++ b)) | _, _ => False) := by
  refine ⟨_, op_TT, fun S H x y dx dy Q k n hx hy q hk => ?_⟩
  cases dx <;> cases dy <;> first | exact q.elim | skip
  have kx := hx.sqt
  have ky := hy.sqt
  obtain ⟨p, xs, rfl, h, r⟩ := kx
  obtain ⟨p', xs', rfl, h', r'⟩ := ky
  have tx : ∀ {v : V} {l : List D}, Rq X.K S H v (.tuple l) → Rp X.K S H v (.tuple l) := fun {v l} h => h.elim id fun ⟨_, _, o⟩ => by cases o
  refine ⟨p, p', xs, xs', rfl, rfl, h, h', by rw [r.len, r'.len]; exact szOf q.1, fun e => ?_, fun _ e => ?_, fun _ _ z o hz ho => ?_⟩
  · subst e
    cases r
    exact hk _ H _ (.refl H) (tx hy) (by simpa using q.2)
  · subst e
    cases r'
    exact hk _ H _ (.refl H) (tx hx) (by simpa using q.2)
  · exact hk _ _ _ (.new hz) (.tup (.new ho (n z hz)) ((r.app r').ext (.new hz))) q.2
theorem opI {f : Value → Value → Sem Value} {g : Int → Int → V} {gd : Int → Int → D} {G : DOp} (h : OpR X f (rI0 g)) (hg : ∀ i j S H, Rp X.K S H (g i j) (gd i j))
    (hG : ∀ x y Q, G x y Q → ∃ i j, x = .int i ∧ y = .int j ∧ Q (gd i j)) : OpD X f G := by
  refine ⟨_, h, fun S H x y dx dy Q k n hx hy q hk => ?_⟩
  obtain ⟨i, j, e1, e2, q'⟩ := hG _ _ _ q
  subst e1 e2
  cases hx.int
  cases hy.int
  exact ⟨i, j, rfl, rfl, hk _ H _ (.refl H) (hg i j S H) q'⟩
theorem opIC {f : Value → Value → Sem Value} {C : Int → Int → Prop} {g : Int → Int → V} {gd : Int → Int → D} {G : DOp} (h : OpR X f (rI C g)) (hg : ∀ i j S H, Rp X.K S H (g i j) (gd i j))
    (hG : ∀ x y Q, G x y Q → ∃ i j, x = .int i ∧ y = .int j ∧ C i j ∧ Q (gd i j)) : OpD X f G := by
  refine ⟨_, h, fun S H x y dx dy Q k n hx hy q hk => ?_⟩
  obtain ⟨i, j, e1, e2, c, q'⟩ := hG _ _ _ q
  subst e1 e2
  cases hx.int
  cases hy.int
  exact ⟨i, j, rfl, rfl, c, hk _ H _ (.refl H) (hg i j S H) q'⟩
theorem oadd : OpD X (binaryOp .Add) addD := by
  refine OpD.orr (opI (G := fun x y Q => match x, y with | .int i, .int j => Q (.int (i + j)) | _, _ => False) op_add (fun i j S H => .int _) ?_) (OpD.orr catT catF.d (g2 := fun x y Q => match x, y with
    | .tuple a, .tuple b => a.length + b.length ≤ 100000 ∧ Q (.tuple (a ++ b)) | .list a, .list b => a.length + b.length ≤ 100000 ∧ Q (.list (a ++ b)) | _, _ => False) ?_) ?_
  · intro x y Q h
    cases x <;> cases y <;> first | exact h.elim | exact ⟨_, _, rfl, rfl, h⟩
  · intro x y Q h
    cases x <;> cases y <;> first | exact h.elim | exact .inl h | exact .inr h
  · intro x y Q h
    cases x <;> cases y <;> first | exact h.elim | exact .inl h | exact .inr h
def subD : DOp := fun x y Q => match x, y with
  | .int i, .int j => Q (.int (i - j))
  | _, _ => False
theorem osub : OpD X (binaryOp .Sub) subD := opI op_sub (fun i j S H => .int _) fun x y Q h => by cases x <;> cases y <;> first | exact h.elim | exact ⟨_, _, rfl, rfl, h⟩
/-- ints; a list so many times -/
def mulI : DOp := fun x y Q => match x, y with
  | .int i, .int j => ((-(2 ^ 64) < i ∧ i < 2 ^ 64) ∨ (-(2 ^ 64) < j ∧ j < 2 ^ 64)) ∧ Q (.int (i * j))
  | _, _ => False
theorem omul : OpD X (binaryOp .Mult) mulI := opIC op_mul (fun i j S H => .int _) fun x y Q h => by cases x <;> cases y <;> first | exact h.elim | exact ⟨_, _, rfl, rfl, h⟩
def repD : DOp := fun x y Q => match x, y with
  | .list a, .int j => j < 2 ^ 20 ∧ -(2 ^ 20) < j ∧ a.length * j.toNat ≤ 100000 ∧ Q (.list (List.replicate j.toNat a).flatten)
  | _, _ => False
theorem RpA.rep {xs : List V} {ds : List D} (r : RpA K S H xs ds) : ∀ n : Nat, RpA K S H (List.replicate n xs).flatten (List.replicate n ds).flatten
  | 0 => .nil
  | n + 1 => by
    rw [List.replicate_succ, List.replicate_succ, List.flatten_cons, List.flatten_cons]
    exact r.app (RpA.rep r n)
theorem orepF : OpF X (binaryOp .Mult) repD := by
  refine ⟨_, op_repX, fun S H x y dx dy Q k hx hy q hk => ?_⟩
  cases dx <;> cases dy <;> first | exact q.elim | skip
  obtain ⟨p, xs, rfl, h, r⟩ := hx.lx
  cases hy.int
  obtain ⟨q1, q2, q3, q4⟩ := q
  exact ⟨p, _, xs, rfl, rfl, h, by omega, by omega, by rw [r.len]; exact szOf q3, fun z hz => hk z _ _ hz (r.rep _) q4⟩
def fdivD : DOp := fun x y Q => match x, y with
  | .int i, .int j => (0 < j ∧ j < 1073741824) ∧ Q (.int (i / j))
  | _, _ => False
theorem ofdiv : OpD X (binaryOp .FloorDiv) fdivD := opIC op_fdiv (fun i j S H => .int _) fun x y Q h => by cases x <;> cases y <;> first | exact h.elim | exact ⟨_, _, rfl, rfl, h⟩
def modD : DOp := fun x y Q => match x, y with
  | .int i, .int j => 0 < j ∧ Q (.int (i % j))
  | _, _ => False
theorem omod : OpD X (binaryOp .Mod) modD := opIC op_mod (fun i j S H => .int _) fun x y Q h => by cases x <;> cases y <;> first | exact h.elim | exact ⟨_, _, rfl, rfl, h⟩
def ltD : DOp := fun x y Q => match x, y with
  | .int i, .int j => Q (.bool (decide (i < j)))
  | _, _ => False
def leD : DOp := fun x y Q => match x, y with
  | .int i, .int j => Q (.bool (decide (i ≤ j)))
  | _, _ => False
def gtD : DOp := fun x y Q => match x, y with
  | .int i, .int j => Q (.bool (decide (j < i)))
  | _, _ => False
def geD : DOp := fun x y Q => match x, y with
  | .int i, .int j => Q (.bool (decide (j ≤ i)))
  | _, _ => False
theorem olt : OpD X (compareOp .Lt) ltD := opI op_lt (fun i j S H => .bl _) fun x y Q h => by cases x <;> cases y <;> first | exact h.elim | exact ⟨_, _, rfl, rfl, h⟩
theorem ole : OpD X (compareOp .LtE) leD := opI op_le (fun i j S H => .bl _) fun x y Q h => by cases x <;> cases y <;> first | exact h.elim | exact ⟨_, _, rfl, rfl, h⟩
theorem ogt : OpD X (compareOp .Gt) gtD := opI op_gt (fun i j S H => .bl _) fun x y Q h => by cases x <;> cases y <;> first | exact h.elim | exact ⟨_, _, rfl, rfl, h⟩
theorem oge : OpD X (compareOp .GtE) geD := opI op_ge (fun i j S H => .bl _) fun x y Q h => by cases x <;> cases y <;> first | exact h.elim | exact ⟨_, _, rfl, rfl, h⟩
/-- == of data without dicts; of texts -/
def eqOk (x y : D) : Bool := match x, y with
  | .str _, .str _ => true
  | _, _ => SeqAt.shaped x && SeqAt.shaped y
def eqD : DOp := fun x y Q => eqOk x y = true ∧ Q (.bool (PyData.eqv x y))
def neD : DOp := fun x y Q => eqOk x y = true ∧ Q (.bool (!PyData.eqv x y))
theorem eqOk_cases {x y : D} (h : eqOk x y = true) : (∃ a b, x = .str a ∧ y = .str b) ∨ (SeqAt.shaped x = true ∧ SeqAt.shaped y = true) := by
  unfold eqOk at h
  split at h
  · exact .inl ⟨_, _, rfl, rfl⟩
  · exact .inr (Bool.and_eq_true_iff.mp h)
theorem eqv_str (a b : Str) : decide (V.str a = V.str b) = PyData.eqv (.str a) (.str b) := by rw [dec_str]; simp [PyData.eqv]
theorem oeq (hu : X.A.units + 64 < cLine) : OpD X (compareOp .Eq) eqD := ⟨_, OpR.orr op_eq (op_eqD hu), fun S H x y dx dy Q k n hx hy q hk => by
  rcases eqOk_cases q.1 with ⟨a, b, rfl, rfl⟩ | ⟨h1, h2⟩
  · cases hx.str
    cases hy.str
    exact .inl ⟨rfl, by rw [eqv_str]; exact hk _ H _ (.refl H) (.bl _) q.2⟩
  · exact .inr ⟨dx, dy, hx.dp (shp_lay h1), hy.dp (shp_lay h2), h1, h2, hk _ H _ (.refl H) (.bl _) q.2⟩⟩
theorem one (hu : X.A.units + 64 < cLine) : OpD X (compareOp .NotEq) neD := ⟨_, OpR.orr op_ne (op_neD hu), fun S H x y dx dy Q k n hx hy q hk => by
  rcases eqOk_cases q.1 with ⟨a, b, rfl, rfl⟩ | ⟨h1, h2⟩
  · cases hx.str
    cases hy.str
    exact .inl ⟨rfl, by rw [eqv_str]; exact hk _ H _ (.refl H) (.bl _) q.2⟩
  · exact .inr ⟨dx, dy, hx.dp (shp_lay h1), hy.dp (shp_lay h2), h1, h2, hk _ H _ (.refl H) (.bl _) q.2⟩⟩
/-- in: a list of anything; a tuple of flat things -/
def flatD : D → Bool
  | .none => true
  | .bool _ => true
  | .int _ => true
  | .str _ => true
  | _ => false
theorem flat_of {v : V} {d : D} (r : Rp K S H v d) (h : flatD d = true) : flatV v = true := by
  cases r <;> first | rfl | cases h
theorem flat_all : ∀ {vs : List V} {ds : List D}, RpA K S H vs ds → ds.all flatD = true → vs.all flatV = true
  | _, _, .nil, _ => rfl
  | _, _, .cons r t, h => by
    rw [List.all_cons, Bool.and_eq_true] at h ⊢
    exact ⟨flat_of r h.1, flat_all t h.2⟩
theorem eqV_flat {v w : V} {d e : D} (r : Rp K S H v d) (r' : Rp K S H w e) (h : flatD d = true) (h' : flatD e = true) : eqV v w = PyData.eqv d e := by
  cases r <;> first | (cases h; done) | skip
  all_goals (cases r' <;> first | (cases h'; done) | simp [eqV, PyData.eqv])
theorem inV_flat {v : V} {d : D} (r : Rp K S H v d) (h : flatD d = true) : ∀ {vs : List V} {ds : List D}, RpA K S H vs ds → ds.all flatD = true → inV v vs = ds.any fun z => PyData.eqv z d
  | _, _, .nil, _ => rfl
  | _, _, .cons r' t, hf => by
    rw [List.all_cons, Bool.and_eq_true] at hf
    have ih := inV_flat r h t hf.2
    unfold inV at ih ⊢
    rw [List.any_cons, List.any_cons, ih, eqV_flat r' r hf.1 h]
def inD : DOp := fun x y Q => match y with
  | .list ds => SeqAt.shaped x = true ∧ SeqAt.shaped (.list ds) = true ∧ Q (.bool (ds.any fun z => PyData.eqv z x))
  | .tuple ds => flatD x = true ∧ ds.all flatD = true ∧ Q (.bool (ds.any fun z => PyData.eqv z x))
  | _ => False
def ninD : DOp := fun x y Q => match y with
  | .list ds => SeqAt.shaped x = true ∧ SeqAt.shaped (.list ds) = true ∧ Q (.bool (!ds.any fun z => PyData.eqv z x))
  | .tuple ds => flatD x = true ∧ ds.all flatD = true ∧ Q (.bool (!ds.any fun z => PyData.eqv z x))
  | _ => False
theorem rq_flat {x : V} {d : D} (hx : Rq K S H x d) (h : flatD d = true) : Rp K S H x d := by
  rcases hx with hx | ⟨p, rfl, o⟩
  · exact hx
  · cases o <;> cases h
theorem oin (hu : X.A.units + 65 < cLine) : OpD X (compareOp .In) inD := by
  refine ⟨_, OpR.orr (op_inD hu) op_in_seq, fun S H x y dx dy Q k n hx hy q hk => ?_⟩
  cases dy <;> first | exact q.elim | skip
  · exact .inl ⟨dx, _, hx.dp (shp_lay q.1), hy.dp (shp_lay q.2.1), q.1, q.2.1, hk _ H _ (.refl H) (.bl _) q.2.2⟩
  · obtain ⟨p, xs, rfl, h, r⟩ := hy.sqt
    have fx := rq_flat hx q.1
    refine .inr ⟨p, xs, rfl, .inr h, flat_of fx q.1, flat_all r q.2.1, ?_⟩
    rw [if_neg Bool.false_ne_true, inV_flat fx q.1 r q.2.1]
    exact hk _ H _ (.refl H) (.bl _) q.2.2
theorem onin (hu : X.A.units + 65 < cLine) : OpD X (compareOp .NotIn) ninD := by
  refine ⟨_, OpR.orr (op_notInD hu) op_notIn_seq, fun S H x y dx dy Q k n hx hy q hk => ?_⟩
  cases dy <;> first | exact q.elim | skip
  · exact .inl ⟨dx, _, hx.dp (shp_lay q.1), hy.dp (shp_lay q.2.1), q.1, q.2.1, hk _ H _ (.refl H) (.bl _) q.2.2⟩
  · obtain ⟨p, xs, rfl, h, r⟩ := hy.sqt
    have fx := rq_flat hx q.1
    refine .inr ⟨p, xs, rfl, .inr h, flat_of fx q.1, flat_all r q.2.1, ?_⟩
    rw [if_pos rfl, inV_flat fx q.1 r q.2.1]
    exact hk _ H _ (.refl H) (.bl _) q.2.2
/-- -n -/
def gNeg (g : DTE) : DTE := fun ρ Q => g ρ fun d ρ' => ∃ i, d = .int i ∧ Q (.int (-i)) ρ'
theorem dneg {a : Expr} {g : DTE} {pos : Pos} (h : DE X a g) : DE X (.UnaryOp .USub a pos) (gNeg g) := by
  obtain ⟨t, p, s⟩ := h.ex
  refine ⟨_, pe_un un_neg p, fun C S σ H ρ Q k R q f => s C S σ H ρ _ _ R q fun v H' d ρ' f1 R1 r1 h => ?_⟩
  obtain ⟨i, rfl, h⟩ := h
  cases r1
  exact ⟨i, rfl, f _ H' _ ρ' f1 R1 (.int _) h⟩

/-! ### subscripts -/
/-- o[i]: a list, a tuple -/
def ixD : DOp := fun x y Q => match x, y with
  | .list ds, .int i => ∃ d, atI ds i = some d ∧ Q d
  | .tuple ds, .int i => ∃ d, atI ds i = some d ∧ Q d
  | _, _ => False
theorem RpA.atI {xs : List V} {ds : List D} {i : Int} {d : D} (r : RpA K S H xs ds) (h : atI ds i = some d) : ∃ v, L2.atI xs i = some v ∧ Rp K S H v d := by
  unfold L2.atI at h ⊢
  rw [r.len]
  cases e : ixN ds.length i with
  | none => rw [e] at h; cases h
  | some j =>
    rw [e] at h
    obtain ⟨v, h1, h2⟩ := r.get (show ds[j]? = some d from h)
    exact ⟨v, h1, h2⟩
def IxD (X : Cx) (g : DOp) : Prop := ∃ r : R2, IxR X r ∧ ∀ (S : Vol) (H : Hp) (x y : V) (dx dy : D) (Q : D → Prop) (k : VK), (∀ p, H p = none → ¬ S p) → Rq X.K S H x dx → Rq X.K S H y dy → g dx dy Q →
  (∀ z H' d, Ext H H' → Rp X.K S H' z d → Q d → k z H') → r x y H k
theorem ixSeq : IxD X ixD := by
  refine ⟨_, ix_seq, fun S H x y dx dy Q k n hx hy q hk => ?_⟩
  cases dx <;> cases dy <;> first | exact q.elim | skip
  · obtain ⟨p, xs, rfl, h, r⟩ := hx.sql
    cases hy.int
    obtain ⟨d, e, q⟩ := q
    obtain ⟨v, e', r'⟩ := r.atI e
    exact .inl ⟨p, xs, _, v, rfl, rfl, h, e', hk _ H _ (.refl H) r' q⟩
  · obtain ⟨p, xs, rfl, h, r⟩ := hx.sqt
    cases hy.int
    obtain ⟨d, e, q⟩ := q
    obtain ⟨v, e', r'⟩ := r.atI e
    exact .inr (.inl ⟨p, xs, _, v, rfl, rfl, h, e', hk _ H _ (.refl H) r' q⟩)
variable {a b : Expr} {ga gb : DTE} {pos : Pos}
theorem dix {fo : DOp} (ho : IxD X fo) (ha : DE X a ga) (hb : DQ X b gb) (hs : PlainIx b := by intro _ _; rfl) : DE X (.Subscript a b pos) (gBin fo ga gb) := by
  obtain ⟨r, h1, h2⟩ := ho
  obtain ⟨_, pa, sa⟩ := ha.ex
  obtain ⟨_, pb, sb⟩ := hb.ex
  exact ⟨_, pe_ix h1 pa pb hs, simBin h2 sa sb⟩
theorem dixO {fo : DOp} (i : Nat) {x : Str} {p : Pos} (ho : IxD X fo) (hb : DQ X b gb) (hs : PlainIx b := by intro _ _; rfl) (hN : X.N[i]? = some x := by rfl) (hv : Vis X.env.scope x := by first | exact Or.inl rfl | exact Or.inr (Or.inl rfl) | exact Or.inr (Or.inr rfl)) (hd : (x == ("__debug__" : Str)) = false := by decide)
    (hcd : (x == ("__classdict__" : Str)) = false := by decide) : DE X (.Subscript (.Name x p) b pos) (gBinO fo i gb) := by
  obtain ⟨r, h1, h2⟩ := ho
  obtain ⟨_, pb, sb⟩ := hb.ex
  exact ⟨_, pe_ix h1 (pe_var hN hv hd hcd) pb hs, simBinO h2 sb⟩

/-! ### slices -/
abbrev DTO := Rho → (Option Int → Rho → Prop) → Prop
def SimO (K : PySem.W.Frag) (t : TO) (g : DTO) : Prop := ∀ (C : Ctx) (S : Vol) (σ : VStore) (H : Hp) (ρ : Rho) (Q : Option Int → Rho → Prop) (k : Option Int → Hp → Prop), RS K C S σ H ρ → g ρ Q →
  (∀ o H' ρ', Fr C S H H' → RS K C S σ H' ρ' → Q o ρ' → k o H') → t σ H k
structure DO (X : Cx) (e : Option Expr) (g : DTO) : Prop where
  ex : ∃ t, PO X e t ∧ SimO X.K t g
def gNo : DTO := fun ρ Q => Q none ρ
def gSome (g : DTE) : DTO := fun ρ Q => g ρ fun d ρ' => ∃ i, d = .int i ∧ Q (some i) ρ'
theorem dno : DO X none gNo := ⟨_, po_none, fun C S σ H ρ Q k R q f => f none H ρ .refl R q⟩
theorem dsome (h : DE X a ga) : DO X (some a) (gSome ga) := by
  obtain ⟨t, p, s⟩ := h.ex
  refine ⟨_, po_some p, fun C S σ H ρ Q k R q f => s C S σ H ρ _ _ R q fun v H' d ρ' f1 R1 r1 h => ?_⟩
  obtain ⟨i, rfl, h⟩ := h
  cases r1
  exact ⟨i, rfl, f _ H' ρ' f1 R1 h⟩
def cutD (ds : List D) (lo hi : Option Int) : List D := (ds.drop (HT.sIx ds.length 0 lo)).take (HT.sIx ds.length ds.length hi - HT.sIx ds.length 0 lo)
theorem RpA.cut {xs : List V} {ds : List D} (r : RpA K S H xs ds) (lo hi : Option Int) : RpA K S H (cutV xs lo hi) (cutD ds lo hi) := by
  unfold cutV cutD
  rw [r.len]
  exact (r.drop _).take _
theorem cutD_whole {ds : List D} {lo hi : Option Int} (h : HT.sIx ds.length 0 lo = 0 ∧ HT.sIx ds.length ds.length hi = ds.length) : cutD ds lo hi = ds := by
  unfold cutD
  rw [h.1, h.2]
  simp
def gSl (g : DTE) (l h : DTO) : DTE := fun ρ Q => g ρ fun d ρ1 => l ρ1 fun lo ρ2 => h ρ2 fun hi ρ3 => match d with
  | .tuple ds => Q (.tuple (cutD ds lo hi)) ρ3
  | .list ds => Q (.list (cutD ds lo hi)) ρ3
  | _ => False
variable {el eh : Option Expr} {gl gh : DTO} {p2 : Pos}
theorem dsl (ha : DE X a ga) (hl : DO X el gl) (hh : DO X eh gh) : DE X (.Subscript a (.Slice el eh none p2) pos) (gSl ga gl gh) := by
  obtain ⟨_, p, s⟩ := ha.ex
  obtain ⟨_, pl, sl⟩ := hl.ex
  obtain ⟨_, ph, sh⟩ := hh.ex
  refine ⟨_, pe_slice (SlR.or sl_TS sl_list) p pl ph, fun C S σ H ρ Q k R q f => s C S σ H ρ _ _ R q fun v H1 d ρ1 f1 R1 r1 h => sl C S σ H1 ρ1 _ _ R1 h fun lo H2 ρ2 f2 R2 h => sh C S σ H2 ρ2 _ _ R2 h fun hi H3 ρ3 f3 R3 h => ?_⟩
  have r3 := f3.rp (f2.rp r1)
  cases d <;> first | exact h.elim | skip
  · cases r3 with
    | lst e r =>
      exact .inr ⟨_, _, rfl, e.sq, fun z hz => f _ _ _ ρ3 (((f1.trans f2).trans f3).trans (.of (.new hz))) (R3.ext (.new hz)) (.lst (.of upd_same (R3.notS hz)) ((r.cut lo hi).ext (.new hz))) h⟩
  · have r4 := r3
    cases r3 with
    | tup e r =>
      refine .inl ⟨_, _, rfl, e.sq, fun w => ?_, fun w z o hz ho => ?_⟩
      · rw [r.len] at w
        have h2 : Q (.tuple (cutD _ lo hi)) ρ3 := h
        rw [cutD_whole w] at h2
        exact f _ H3 _ ρ3 ((f1.trans f2).trans f3) R3 r4 h2
      · exact f _ _ _ ρ3 (((f1.trans f2).trans f3).trans (.of (.new hz))) (R3.ext (.new hz)) (.tup (.new ho (R3.notS hz)) ((r.cut lo hi).ext (.new hz))) h
end
end Gw
namespace Gw
open PySem PySem.Spec PyProof.Rows L2

/-! ## small data: what may be shown and compared -/
structure OkR (n k : Nat) (d : D) : Prop where
  lay : d.canLay0 = true
  sh : d.intsShort 13 = true
  sw : d.showable = true
  w : d.weight ≤ n
  dp : d.depth ≤ k
theorem OkR.mono {n k n' k' : Nat} {d : D} (h : OkR n k d) (h1 : n ≤ n') (h2 : k ≤ k') : OkR n' k' d := ⟨h.lay, h.sh, h.sw, Nat.le_trans h.w h1, Nat.le_trans h.dp h2⟩
theorem OkR.shaped {n k : Nat} {d : D} (h : OkR n k d) (hk : k ≤ 64) : SeqAt.shaped d = true := by
  have := h.dp
  unfold SeqAt.shaped
  rw [Bool.and_eq_true, decide_eq_true_eq]
  exact ⟨h.lay, by omega⟩
theorem okInt {i : Int} (h : i.natAbs < 10 ^ 12) : OkR 40 0 (.int i) := by
  refine ⟨rfl, ?_, ?_, ?_, Nat.le_refl _⟩
  · show decide _ = true
    exact decide_eq_true (PyData.shown_int_le h)
  · show decide _ = true
    refine decide_eq_true ?_
    have h1 : i.natAbs < 2 ^ 40 := Nat.lt_trans h (by decide)
    by_cases h0 : i.natAbs = 0
    · rw [h0]; decide
    · have := (Nat.log2_lt h0).mpr h1
      omega
  · show (if (i == 0) = true then 0 else i.natAbs.log2 + 1) ≤ 40
    split
    · omega
    · rename_i h0
      have h0' : i.natAbs ≠ 0 := by simpa using h0
      have h1 : i.natAbs < 2 ^ 40 := Nat.lt_trans h (by decide)
      have := (Nat.log2_lt h0').mpr h1
      omega
theorem okBool (b : Bool) : OkR 40 0 (.bool b) := ⟨rfl, rfl, rfl, by show PyData.weight (.bool b) ≤ 40; simp [PyData.weight], Nat.le_refl _⟩
theorem okNone : OkR 40 0 .none := ⟨rfl, rfl, rfl, by simp [PyData.weight], Nat.le_refl _⟩
theorem okStr {x : Str} (h1 : PyData.strOk x = true) (h2 : x.cps.size ≤ 40) : OkR 40 0 (.str x) := ⟨h1, rfl, rfl, h2, Nat.le_refl _⟩
/-- a list of items -/
structure OkA (n k : Nat) (ds : List D) : Prop where
  lay : PyData.canLayAll0 ds = true
  sh : PyData.intsShortAll 13 ds = true
  sw : PyData.showableAll ds = true
  w : PyData.weightAll ds ≤ n
  dp : PyData.depthAll ds ≤ k
theorem okNil {k : Nat} : OkA 0 k [] := ⟨rfl, rfl, rfl, Nat.le_refl _, Nat.zero_le _⟩
theorem okCons {n k n' k' : Nat} {d : D} {ds : List D} (h : OkR n k d) (t : OkA n' k' ds) : OkA (n + 1 + n') (max k k') (d :: ds) := by
  have h1 := h.w
  have h2 := t.w
  have h3 := h.dp
  have h4 := t.dp
  refine ⟨?_, ?_, ?_, ?_, ?_⟩
  · simp only [PyData.canLayAll0, h.lay, t.lay, Bool.and_self]
  · simp only [PyData.intsShortAll, h.sh, t.sh, Bool.and_self]
  · simp only [PyData.showableAll, h.sw, t.sw, Bool.and_self]
  · simp only [PyData.weightAll]; omega
  · simp only [PyData.depthAll]; omega
theorem okAll {n k : Nat} : ∀ {ds : List D}, (∀ d ∈ ds, OkR n k d) → OkA (ds.length * (n + 1)) k ds
  | [], _ => by simpa using okNil
  | d :: ds, h => by
    have t := okCons (h d List.mem_cons_self) (okAll (ds := ds) fun e he => h e (List.mem_cons_of_mem _ he))
    refine ⟨t.lay, t.sh, t.sw, Nat.le_trans t.w ?_, Nat.le_trans t.dp (by omega)⟩
    rw [List.length_cons, Nat.add_mul, Nat.one_mul]
    omega
theorem okTup {n k : Nat} {ds : List D} (h : OkA n k ds) : OkR n (k + 1) (.tuple ds) :=
  ⟨h.lay, h.sh, h.sw, h.w, Nat.succ_le_succ h.dp⟩
theorem okLst {n k : Nat} {ds : List D} (h : OkA n k ds) : OkR n (k + 1) (.list ds) :=
  ⟨h.lay, h.sh, h.sw, h.w, Nat.succ_le_succ h.dp⟩
theorem okTupAll {n k m : Nat} {ds : List D} (h : ∀ d ∈ ds, OkR n k d) (hl : ds.length ≤ m) : OkR (m * (n + 1)) (k + 1) (.tuple ds) := (okTup (okAll h)).mono (Nat.mul_le_mul_right _ hl) (Nat.le_refl _)
theorem okLstAll {n k m : Nat} {ds : List D} (h : ∀ d ∈ ds, OkR n k d) (hl : ds.length ≤ m) : OkR (m * (n + 1)) (k + 1) (.list ds) := (okLst (okAll h)).mono (Nat.mul_le_mul_right _ hl) (Nat.le_refl _)
theorem okTupMap {α : Type} {f : α → D} {xs : List α} {n k m : Nat} (h : ∀ x ∈ xs, OkR n k (f x)) (hl : xs.length ≤ m) : OkR (m * (n + 1)) (k + 1) (.tuple (xs.map f)) :=
  okTupAll (fun d hd => by obtain ⟨x, hx, rfl⟩ := List.mem_map.mp hd; exact h x hx) (by rw [List.length_map]; exact hl)
theorem okLstMap {α : Type} {f : α → D} {xs : List α} {n k m : Nat} (h : ∀ x ∈ xs, OkR n k (f x)) (hl : xs.length ≤ m) : OkR (m * (n + 1)) (k + 1) (.list (xs.map f)) :=
  okLstAll (fun d hd => by obtain ⟨x, hx, rfl⟩ := List.mem_map.mp hd; exact h x hx) (by rw [List.length_map]; exact hl)
mutual
theorem lay_noDict : ∀ d : D, d.canLay0 = true → d.hasDict = false
  | .none, _ => rfl
  | .bool _, _ => rfl
  | .int _, _ => rfl
  | .str _, _ => rfl
  | .list xs, h => by
    simp only [PyData.hasDict]
    exact lay_noDictA xs (by simpa only [PyData.canLay0] using h)
  | .tuple xs, h => by
    simp only [PyData.hasDict]
    exact lay_noDictA xs (by simpa only [PyData.canLay0] using h)
  | .dict _, h => by simp [PyData.canLay0] at h
theorem lay_noDictA : ∀ ds : List D, PyData.canLayAll0 ds = true → PyData.hasDictAll ds = false
  | [], _ => rfl
  | d :: ds, h => by
    simp only [PyData.canLayAll0, Bool.and_eq_true] at h
    simp only [PyData.hasDictAll, lay_noDict d h.1, lay_noDictA ds h.2, Bool.or_self]
end
theorem OkR.fits {n k : Nat} {d : D} (h : OkR n k d) (hn : n ≤ 2 ^ 20) : d.shown.length ≤ sizeLine :=
  PyData.shown_fits (B := 13) (by decide) (by decide) (PyData.leavesShort_of_canLay0 13 d h.lay h.sh) (Nat.le_trans h.w hn)

/-! ## calls of built-ins -/
section
variable {X : Cx} {K : PySem.W.Frag} {S : Vol} {H : Hp}
abbrev DU := D → (D → Prop) → Prop
def CallU (X : Cx) (f : Value) (g : DU) : Prop := ∃ r : List V → Hp → VK → Prop, CallR X f r ∧ ∀ (S : Vol) (H : Hp) (x : V) (d : D) (Q : D → Prop) (k : VK), (∀ p, H p = none → ¬ S p) → Rq X.K S H x d → g d Q →
  (∀ z H' d', Ext H H' → Rp X.K S H' z d' → Q d' → k z H') → r [x] H k
/-- .. that make a new list -/
def CallUF (X : Cx) (f : Value) (g : DU) : Prop := ∃ r : List V → Hp → VK → Prop, CallR X f r ∧ ∀ (S : Vol) (H : Hp) (x : V) (d : D) (Q : D → Prop) (k : VK), Rq X.K S H x d → g d Q →
  (∀ p xs ds, H p = none → RpA X.K S H xs ds → Q (.list ds) → k (.ref p) (upd H p (.lst xs))) → r [x] H k
def CallA (X : Cx) (f : Value) (g : List D → (D → Prop) → Prop) : Prop := ∃ r : List V → Hp → VK → Prop, CallR X f r ∧ ∀ (S : Vol) (H : Hp) (xs : List V) (ds : List D) (Q : D → Prop) (k : VK), (∀ p, H p = none → ¬ S p) → RpA X.K S H xs ds → g ds Q →
  (∀ z H' d', Ext H H' → Rp X.K S H' z d' → Q d' → k z H') → r xs H k
def gU (f : DU) (g : DTE) : DTE := fun ρ Q => g ρ fun d ρ' => f d fun d' => Q d' ρ'
def gA (f : List D → (D → Prop) → Prop) (l : DTA) : DTE := fun ρ Q => l ρ fun ds ρ' => f ds fun d' => Q d' ρ'
variable {x : Str} {p pos : Pos} {a : Expr} {es : List Expr} {g : DTE} {l : DTA} {id T : String} {f : DU}
theorem simU {r : List V → Hp → VK → Prop} {t : TE} (hr : ∀ (S : Vol) (H : Hp) (x : V) (d : D) (Q : D → Prop) (k : VK), (∀ p, H p = none → ¬ S p) → Rq K S H x d → f d Q → (∀ z H' d', Ext H H' → Rp K S H' z d' → Q d' → k z H') → r [x] H k)
    (ht : SimQ K t g) : SimE K (tCB r (tCons t tNil)) (gU f g) := fun C S σ H ρ Q k R q fk => ht C S σ H ρ _ _ R q fun v H1 d ρ1 f1 R1 r1 h =>
  hr S H1 v d _ _ (fun p hp => R1.notS hp) r1 h fun z H2 d' e2 r2 q2 => fk z H2 d' ρ1 (f1.trans (.of e2)) (R1.ext e2) r2 q2
theorem simUF {r : List V → Hp → VK → Prop} {t : TE} (hr : ∀ (S : Vol) (H : Hp) (x : V) (d : D) (Q : D → Prop) (k : VK), Rq K S H x d → f d Q → (∀ p xs ds, H p = none → RpA K S H xs ds → Q (.list ds) → k (.ref p) (upd H p (.lst xs))) → r [x] H k)
    (ht : SimQ K t g) : SimF K (tCB r (tCons t tNil)) (gU f g) := fun C S σ H ρ Q k R q fk => ht C S σ H ρ _ _ R q fun v H1 d ρ1 f1 R1 r1 h =>
  hr S H1 v d _ _ r1 h fun p xs ds hp r2 q2 => fk p _ _ ρ1 (f1.trans (.of (.new hp))) (newOb R1 hp).1 (newOb R1 hp).2 (freshAt f1 R1 hp) (.lst upd_same (RpA.newp r2 hp)) q2
theorem dcallB (hc : CallU X (.builtin id) f) (hg : Gl X x) (hm : X.mg x = none) (hv : bootBuiltins x = some (.builtin id)) (ha : DQ X a g) (hn : x ≠ "__name__" := by decide) (hdb : (x == ("__debug__" : Str)) = false := by decide)
    (he : starEach [a] X.env = (false, eval a X.env) :: starEach [] X.env := by rfl) (hpl : (backTo pos (starEach [] X.env)).any (·.1) = false := by rfl) : DE X (.Call (.Name x p) [a] [] pos) (gU f g) := by
  obtain ⟨r, h1, h2⟩ := hc
  obtain ⟨t, q, s⟩ := ha.ex
  exact ⟨_, pe_callB h1 hg hm hv (pa_cons q pa_nil he) hn hdb he hpl, simU h2 s⟩
theorem dcallTy (hc : CallU X (.type T) f) (hg : Gl X x) (hm : X.mg x = none) (hv : bootBuiltins x = some (.type T)) (ha : DQ X a g) (hn : x ≠ "__name__" := by decide) (hdb : (x == ("__debug__" : Str)) = false := by decide)
    (he : starEach [a] X.env = (false, eval a X.env) :: starEach [] X.env := by rfl) (hpl : (backTo pos (starEach [] X.env)).any (·.1) = false := by rfl) : DE X (.Call (.Name x p) [a] [] pos) (gU f g) := by
  obtain ⟨r, h1, h2⟩ := hc
  obtain ⟨t, q, s⟩ := ha.ex
  exact ⟨_, pe_callTy h1 hg hm hv (pa_cons q pa_nil he) hn hdb he hpl, simU h2 s⟩
theorem dcallBF (hc : CallUF X (.builtin id) f) (hg : Gl X x) (hm : X.mg x = none) (hv : bootBuiltins x = some (.builtin id)) (ha : DQ X a g) (hn : x ≠ "__name__" := by decide) (hdb : (x == ("__debug__" : Str)) = false := by decide)
    (he : starEach [a] X.env = (false, eval a X.env) :: starEach [] X.env := by rfl) (hpl : (backTo pos (starEach [] X.env)).any (·.1) = false := by rfl) : DF X (.Call (.Name x p) [a] [] pos) (gU f g) := by
  obtain ⟨r, h1, h2⟩ := hc
  obtain ⟨t, q, s⟩ := ha.ex
  exact ⟨_, pe_callB h1 hg hm hv (pa_cons q pa_nil he) hn hdb he hpl, simUF h2 s⟩
theorem dcallTyF (hc : CallUF X (.type T) f) (hg : Gl X x) (hm : X.mg x = none) (hv : bootBuiltins x = some (.type T)) (ha : DQ X a g) (hn : x ≠ "__name__" := by decide) (hdb : (x == ("__debug__" : Str)) = false := by decide)
    (he : starEach [a] X.env = (false, eval a X.env) :: starEach [] X.env := by rfl) (hpl : (backTo pos (starEach [] X.env)).any (·.1) = false := by rfl) : DF X (.Call (.Name x p) [a] [] pos) (gU f g) := by
  obtain ⟨r, h1, h2⟩ := hc
  obtain ⟨t, q, s⟩ := ha.ex
  exact ⟨_, pe_callTy h1 hg hm hv (pa_cons q pa_nil he) hn hdb he hpl, simUF h2 s⟩
theorem dcallBA {f : List D → (D → Prop) → Prop} {e : Expr} (hc : CallA X (.builtin id) f) (hg : Gl X x) (hm : X.mg x = none) (hv : bootBuiltins x = some (.builtin id)) (ha : DA X (e :: es) l) (hn : x ≠ "__name__" := by decide) (hdb : (x == ("__debug__" : Str)) = false := by decide)
    (he : starEach (e :: es) X.env = (false, eval e X.env) :: starEach es X.env := by rfl) (hpl : (backTo pos (starEach es X.env)).any (·.1) = false := by rfl) : DE X (.Call (.Name x p) (e :: es) [] pos) (gA f l) := by
  obtain ⟨r, h1, h2⟩ := hc
  obtain ⟨t, q, s⟩ := ha.ex
  exact ⟨_, pe_callB h1 hg hm hv q hn hdb he hpl, fun C S σ H ρ Q k R q fk => s C S σ H ρ _ _ R q fun vs H1 ds ρ1 f1 R1 r1 h =>
    h2 S H1 vs ds _ _ (fun p hp => R1.notS hp) r1 h fun z H2 d' e2 r2 q2 => fk z H2 d' ρ1 (f1.trans (.of e2)) (R1.ext e2) r2 q2⟩

/-! ### which they are -/
def lenU : DU := fun d Q => match d with
  | .list ds => Q (.int ds.length)
  | .tuple ds => Q (.int ds.length)
  | _ => False
theorem clen : CallU X (.builtin "len") lenU := by
  refine ⟨_, call_len_seq, fun S H x d Q k n hx q hk => ?_⟩
  cases d <;> first | exact q.elim | skip
  · obtain ⟨p, xs, rfl, h, r⟩ := hx.sql
    exact ⟨p, xs, rfl, .inl h, by rw [r.len]; exact hk _ H _ (.refl H) (.int _) q⟩
  · obtain ⟨p, xs, rfl, h, r⟩ := hx.sqt
    exact ⟨p, xs, rfl, .inr h, by rw [r.len]; exact hk _ H _ (.refl H) (.int _) q⟩
theorem rq_tup {v : V} {l : List D} (h : Rq K S H v (.tuple l)) : Rp K S H v (.tuple l) := h.elim id fun ⟨_, _, o⟩ => by cases o
def tupU : DU := fun d Q => match d with
  | .list ds => Q (.tuple ds)
  | .tuple ds => Q (.tuple ds)
  | _ => False
theorem ctup : CallU X (.type "tuple") tupU := by
  refine ⟨_, call_tupX, fun S H x d Q k n hx q hk => ?_⟩
  cases d <;> first | exact q.elim | skip
  · obtain ⟨p, xs, rfl, h, r⟩ := hx.sql
    exact ⟨p, xs, rfl, .inl ⟨h, fun z o hz ho => hk _ _ _ (.new hz) (.tup (.new ho (n z hz)) (r.ext (.new hz))) q⟩⟩
  · have hx' := rq_tup hx
    obtain ⟨p, xs, rfl, h, r⟩ := hx.sqt
    exact ⟨p, xs, rfl, .inr ⟨h, hk _ H _ (.refl H) hx' q⟩⟩
def lstU : DU := fun d Q => match d with
  | .list ds => Q (.list ds)
  | .tuple ds => Q (.list ds)
  | _ => False
theorem clst : CallUF X (.type "list") lstU := by
  refine ⟨_, call_list_of, fun S H x d Q k hx q hk => ?_⟩
  cases d <;> first | exact q.elim | skip
  · obtain ⟨p, xs, rfl, h, r⟩ := hx.sql
    exact ⟨p, xs, rfl, .inl h, fun z hz => hk z xs _ hz r q⟩
  · obtain ⟨p, xs, rfl, h, r⟩ := hx.sqt
    exact ⟨p, xs, rfl, .inr h, fun z hz => hk z xs _ hz r q⟩
def intU : DU := fun d Q => match d with
  | .int i => Q (.int i)
  | .bool b => Q (.int (if b then 1 else 0))
  | _ => False
theorem cint : CallU X (.type "int") intU := by
  refine ⟨_, call_int1, fun S H x d Q k n hx q hk => ?_⟩
  cases d <;> first | exact q.elim | skip
  · cases hx.bl
    exact .inr ⟨_, rfl, hk _ H _ (.refl H) (.int _) q⟩
  · cases hx.int
    exact .inl ⟨_, rfl, hk _ H _ (.refl H) (.int _) q⟩
def absU : DU := fun d Q => match d with
  | .int i => Q (.int (if i < 0 then -i else i))
  | _ => False
theorem cabs : CallU X (.builtin "abs") absU := by
  refine ⟨_, call_abs, fun S H x d Q k n hx q hk => ?_⟩
  cases d <;> first | exact q.elim | skip
  cases hx.int
  exact ⟨_, rfl, hk _ H _ (.refl H) (.int _) q⟩
def max2A : List D → (D → Prop) → Prop := fun ds Q => match ds with
  | [.int i, .int j] => Q (.int (if j > i then j else i))
  | _ => False
def min2A : List D → (D → Prop) → Prop := fun ds Q => match ds with
  | [.int i, .int j] => Q (.int (if j < i then j else i))
  | _ => False
theorem twoInts {ds : List D} {P : Int → Int → Prop} (h : (match ds with | [.int i, .int j] => P i j | _ => False)) : ∃ i j, ds = [.int i, .int j] ∧ P i j := by
  match ds, h with
  | [.int i, .int j], h => exact ⟨i, j, rfl, h⟩
theorem cmax2 (hc : X.calm = true) : CallA X (.builtin "max") max2A := by
  refine ⟨_, call_max2 hc, fun S H xs ds Q k n hx q hk => ?_⟩
  obtain ⟨i, j, rfl, q⟩ := twoInts (P := fun i j => Q (.int (if j > i then j else i))) q
  have e : xs = [V.int i, V.int j] := RpA.ints (ns := [i, j]) hx
  exact ⟨i, j, e, hk _ H _ (.refl H) (.int _) q⟩
theorem cmin2 (hc : X.calm = true) : CallA X (.builtin "min") min2A := by
  refine ⟨_, call_min2 hc, fun S H xs ds Q k n hx q hk => ?_⟩
  obtain ⟨i, j, rfl, q⟩ := twoInts (P := fun i j => Q (.int (if j < i then j else i))) q
  have e : xs = [V.int i, V.int j] := RpA.ints (ns := [i, j]) hx
  exact ⟨i, j, e, hk _ H _ (.refl H) (.int _) q⟩
/-- sum of ints, a list or a tuple -/
theorem preSum_get (ns : List Int) : ∀ n, n ≤ ns.length → preSum (fun i => ns.getD i 0) n = (ns.take n).sum
  | 0, _ => by simp [preSum]
  | n + 1, h => by
    rw [preSum, preSum_get ns n (by omega), List.take_add_one, List.sum_append]
    have : ns[n]? = some ns[n] := List.getElem?_eq_getElem (by omega)
    simp [List.getD, this]
theorem cr_sumT (hc : X.calm = true) : CallR X (.builtin "sum") (fun vs H Q => ∃ (a : Addr) (ns : List Int), vs = [V.ref a] ∧ SqT X.K H a (ns.map V.int) ∧ Q (.int ns.sum) H) := by
  intro pins s σ H vs us Q I r h
  obtain ⟨a, ns, rfl, hs, q⟩ := h
  obtain ⟨its, rv, ht, hz⟩ := I.tuple hs
  rw [Vals.ref1 r]
  have ht' : s.heap.IsTuple a its.toArray := ht
  have hlt : a < s.heap.objs.size := by obtain ⟨_, e, _⟩ := ht; exact Heap.lt_size e
  have hl : its.length = ns.length := by have := rv.length; simpa using this.symm
  refine call_sum_walkG (wpAny_pyIter_tuple ht' ?_)
  refine ⟨_, _, _, _, _, _, fun i => ns.getD i 0, rfl, Walks.tuple (A := X.A.in1) (I.ok.hd hc) _ a (Nat.ne_of_lt hlt) its.toArray, ⟨⟨_, Heap.get?_push_size _ rfl, rfl, rfl⟩, ht'.push _⟩, fun b hb => ?_, fun i v hv => ?_, fun h' tk t' hk => ?_⟩
  · have hb' : b = s.heap.objs.size ∨ b = a := by simpa using hb
    show b < (s.heap.push _).objs.size
    rw [Heap.size_push]
    rcases hb' with rfl | rfl
    · exact Nat.lt_succ_self _
    · exact Nat.lt_succ_of_lt hlt
  · have hi : its[i]? = some v := by simpa using hv
    obtain ⟨h1, h2⟩ := List.getElem?_eq_some_iff.mp hi
    have e1 : (ns.map V.int)[i]? = some (.int ns[i]) := by
      rw [List.getElem?_map, List.getElem?_eq_getElem (hl ▸ h1)]; rfl
    obtain ⟨u, hu, ru⟩ := rv.get e1
    rw [hi] at hu
    cases hu
    obtain ⟨t, rfl⟩ := ru
    refine ⟨t, ?_⟩
    show Value.int ns[i] t = Value.int (ns.getD i 0) t
    have hi2 : i < ns.length := hl ▸ h1
    simp [List.getD, List.getElem?_eq_getElem hi2]
  · have e : preSum (fun i => ns.getD i 0) its.toArray.size = ns.sum := by
      rw [show its.toArray.size = ns.length by simpa using hl, preSum_get ns _ (Nat.le_refl _), List.take_length]
    rw [e]
    refine ⟨.int ns.sum, H, I.kept fun b o e => hk b o (fun hm => ?_) (Heap.get?_push_of_some _ e), ⟨_, rfl⟩, q⟩
    have : b = s.heap.objs.size := by simpa using hm
    rw [this] at e
    exact absurd (Heap.lt_size e) (Nat.lt_irrefl _)
def sumU : DU := fun d Q => ∃ ns : List Int, (d = .list (ns.map PyData.int) ∨ d = .tuple (ns.map PyData.int)) ∧ Q (.int ns.sum)
theorem CallR.orr {f : Value} {r r' : List V → Hp → VK → Prop} (h : CallR X f r) (h' : CallR X f r') : CallR X f (fun x H Q => r x H Q ∨ r' x H Q) :=
  fun pins s σ H xs us Q I rx q => q.elim (h pins s σ H xs us Q I rx) (h' pins s σ H xs us Q I rx)
theorem csum (hc : X.calm = true) : CallU X (.builtin "sum") sumU := by
  refine ⟨_, CallR.orr (cr_sum hc) (cr_sumT hc), fun S H x d Q k n hx q hk => ?_⟩
  obtain ⟨ns, h, q⟩ := q
  rcases h with rfl | rfl
  · obtain ⟨p, xs, rfl, h, r⟩ := hx.sql
    rw [r.ints] at h
    exact .inl ⟨p, ns, rfl, h, hk _ H _ (.refl H) (.int _) q⟩
  · obtain ⟨p, xs, rfl, h, r⟩ := hx.sqt
    rw [r.ints] at h
    exact .inr ⟨p, ns, rfl, h, hk _ H _ (.refl H) (.int _) q⟩
/-- repr -/
def reprU : DU := fun d Q => (∃ n k, OkR n k d ∧ n ≤ 2 ^ 20 ∧ k ≤ 60) ∧ Q (.str d.shown)
theorem call_reprD {k : Nat} (hr : RoomG k X.A) : CallR X (.builtin "repr") (fun xs H Q => ∃ v d n k, xs = [v] ∧ Dp X.K H v d ∧ OkR n k d ∧ n ≤ 2 ^ 20 ∧ k ≤ 60 ∧ Q (.str d.shown) H) := by
  intro pins s σ H xs us Q I r h
  obtain ⟨v, d, n, k', rfl, hd, ok, hn, hk, q⟩ := h
  cases r with
  | cons rx rt =>
  cases rt
  have hf := ok.fits hn
  obtain ⟨as, rd⟩ := Dp.reads I d v _ hd rx
  cases hd with
  | non => cases rx; exact PySem.P.repr_of_none ⟨.str _, H, I.tok _, ⟨_, rfl⟩, q⟩
  | bl b => cases rx; exact PySem.P.repr_of_bool ⟨.str _, H, I.tok _, ⟨_, rfl⟩, q⟩
  | int i =>
    obtain ⟨t, rfl⟩ := rx
    exact PySem.P.repr_of_int (by have := ok.sw; simpa [PyData.showable] using this) ⟨.str _, H, I.tok _, ⟨_, rfl⟩, q⟩
  | str z =>
    obtain ⟨t, rfl⟩ := rx
    exact PySem.P.repr_of_str ⟨.str _, H, I.tok _, ⟨_, rfl⟩, q⟩ hf
  | lst h1 h2 =>
    cases rx
    have hu := hr.room.units
    have hdp := ok.dp
    exact repr_of_reads' rd ok.sw (PyData.noDict_hsm (lay_noDict _ ok.lay)) hr.gd (by omega) (fun _ _ e => e) (fun h' u tk hk => ⟨.str _, H, I.kept hk, ⟨_, rfl⟩, q⟩) hf
  | tup h1 h2 =>
    cases rx
    have hu := hr.room.units
    have hdp := ok.dp
    exact repr_of_reads' rd ok.sw (PyData.noDict_hsm (lay_noDict _ ok.lay)) hr.gd (by omega) (fun _ _ e => e) (fun h' u tk hk => ⟨.str _, H, I.kept hk, ⟨_, rfl⟩, q⟩) hf
theorem crepr {k : Nat} (hr : RoomG k X.A) : CallU X (.builtin "repr") reprU := by
  refine ⟨_, call_reprD hr, fun S H x d Q k n hx q hk => ?_⟩
  obtain ⟨⟨m, k', ok, h1, h2⟩, q⟩ := q
  exact ⟨x, d, m, k', rfl, hx.dp ok.lay, ok, h1, h2, hk _ H _ (.refl H) (.str _) q⟩
end
end Gw
namespace Gw
open PySem PySem.Spec PyProof.Rows L2
open Sem (wp)

/-! ## what is walked -/
/-! ### enumerate of a tuple -/
theorem meets_enum1 {v : Value} {o : Obj} {G : Heap → Prop} (B : Begins v o G) :
    Meets (Builtin.«enumerate.__new__» ⟨[.type "enumerate", v], []⟩) (fun _ R s => G s.heap ∧
      R (.ok (.ret (.ref (s.heap.push o).objs.size))) { s with heap := (s.heap.push o).push { cls := .type "enumerate", data := .fields #[.none, .bool false, .ref s.heap.objs.size, rawInt 0, .none, .none] } }) := by
  refine Meets.of_wp fun prog w A R s h => ?_
  obtain ⟨hp, g, d, tk, os⟩ := s
  obtain ⟨h1, h⟩ := h
  have hsub := sub_enumerate
  have hit : ∀ {A' : Around} {E : Value → Shared → Prop} {Q : Value → Shared → Prop}, Q (.ref hp.objs.size) ⟨hp.push o, g, d, tk, os⟩ → wpAny (model prog w) A' (pyIter v) Q E ⟨hp, g, d, tk, os⟩ :=
    fun q => B.iter prog w _ _ ⟨hp, g, d, tk, os⟩ _ h1 q
  wp_walk using hit
  refine wpAny_stack_any fun st => wpAny_pure ?_
  split
  · rename_i c _ _ _ _ _
    cases (c == Value.type "enumerate") <;> (wp_walk using hit) <;> exact ⟨_, rfl, h⟩
  · wp_walk using hit
    exact ⟨_, rfl, h⟩
section
variable {prog : Program} {w : World} {A : Around} {E : Value → Shared → Prop} {s : Shared}
theorem call_enum_tuple {t : Addr} {items : Array Value} {Q : Value → Shared → Prop} (ht : s.heap.IsTuple t items)
    (h : ∀ h', IsEnum h' (s.heap.objs.size + 1) s.heap.objs.size 0 .none → h'.IsTupleIter s.heap.objs.size t 0 →
      (∀ b o, s.heap.get? b = some o → h'.get? b = some o) → Q (.ref (s.heap.objs.size + 1)) { s with heap := h' }) :
    wpAny (model prog w) A (call (.type "enumerate") [.ref t]) Q E s := by
  refine callType_new F.called_enumerate (by decide) (F.typeCall_enumerate_1 _) (F.newCall_enumerate_1 _) (fun obj => F.args_object_init_2 obj _) F.entry_enumerate_new
    (meets_enum1 (begins_tuple t items)) ⟨ht, ?_⟩
  have z1 : (s.heap.push { cls := .type "tuple_iterator", data := .fields #[.ref t, .int 0 0] }).objs.size = s.heap.objs.size + 1 := Heap.size_push ..
  show _ ∧ _
  rw [z1]
  have he := Heap.get?_push_size (s.heap.push { cls := .type "tuple_iterator", data := .fields #[.ref t, .int 0 0] })
    (o := { cls := .type "enumerate", data := .fields #[.none, .bool false, .ref s.heap.objs.size, rawInt 0, .none, .none] }) rfl
  rw [z1] at he
  exact ⟨⟨_, he, rfl⟩, h _ he ⟨_, Heap.get?_push_of_some _ (Heap.get?_push_size _ rfl), rfl, rfl⟩ fun b o x => Heap.get?_push_of_some _ (Heap.get?_push_of_some _ x)⟩
end
def IteT (K : PySem.W.Frag) (a : Addr) : It :=
  ⟨fun i H => ∃ (xs : List V) (x : V), SqT K H a xs ∧ xs[i]? = some x, fun i H v H' => ∃ T x o, v = .ref T ∧ H T = none ∧ o.dict = none ∧ H' = upd H T (.frz o (.tup [.int (i : Nat), x])) ∧ ∀ xs, SqT K H a xs → xs[i]? = some x, fun i H => ∃ xs : List V, SqT K H a xs ∧ xs.length ≤ i⟩
theorem turn_enumT {P : Program} {w : World} {K : PySem.W.Frag} {elts : List Expr} {kk : Nat} {tpos : Pos} (a e it : Addr) :
    Turn P w K (.Tuple elts kk tpos) (IteT K a) [e, it] e (fun i h => (∃ old, IsEnum h e it ((i : Nat) : Int) old) ∧ h.IsTupleIter it a i ∧ e ≠ it ∧ a ≠ it ∧ a ≠ e) where
  mem := by simp
  obj := by
    rintro i h ⟨⟨old, he⟩, ⟨o, ho, hc, hd⟩, _⟩ b hb
    have e' : b = e ∨ b = it := by simpa using hb
    rcases e' with rfl | rfl
    · exact ⟨_, he, fun v q => nomatch q⟩
    · exact ⟨o, ho, fun v q => by rw [hd] at q; cases q⟩
  keep := by
    rintro i h h' ⟨⟨old, he⟩, hi, hne⟩ k
    exact ⟨⟨old, k e (by simp) _ he⟩, hi.at fun o q => k it (by simp) o q, hne⟩
  item := by
    intro X hP hw hK hc i pins s σ H E I hf st hg
    subst hP hw hK
    obtain ⟨⟨old, he⟩, hit, hne, n1, n2⟩ := st
    obtain ⟨xs, x, hq, hx⟩ := hg
    obtain ⟨its, rv, p, hz⟩ := I.tuple hq
    have p' : s.heap.IsTuple a its.toArray := p
    obtain ⟨u, hu, ru⟩ := rv.get hx
    have lel : e < s.heap.objs.size := Heap.lt_size he
    have lil : it < s.heap.objs.size := by obtain ⟨_, q, _⟩ := hit; exact Heap.lt_size q
    have hlt : i < its.toArray.size := by
      obtain ⟨h1, _⟩ := List.getElem?_eq_some_iff.mp hu
      simpa using h1
    have hef : e ∉ [it, a] := by
      intro z
      have : e = it ∨ e = a := by simpa using z
      rcases this with z | z
      · exact hne z
      · exact n2 z.symm
    refine wpAny_pyNext_enum_itemD (Draws.tuple (A := X.A.in1) (I.ok.hd hc) it a n1 its.toArray) he ⟨hit, p'⟩ hlt hne hef ?_
    intro y h' tk hy ho hst hT hsz hk
    have ey : y = u := by
      rw [List.getElem?_toArray, hu] at hy
      exact (Option.some.inj hy).symm
    subst ey
    refine ⟨_, rfl, wpAny_letOwnedTupleGo_enum (s := { s with heap := h', toks := tk + 1 }) ho fun h'' he' sb => ?_⟩
    have hT2 : h''.get? s.heap.objs.size = some { cls := .type "tuple", data := .seq #[.int i tk, y] } := (sb.2 _ (Nat.ne_of_gt lel)).trans hT
    have new : ObjOk X.prog X.w (upd H s.heap.objs.size (.frz { cls := .type "tuple", data := .seq #[.int i tk, y] } (.tup [.int (i : Nat), x]))) h'' s.heap.objs.size (.frz { cls := .type "tuple", data := .seq #[.int i tk, y] } (.tup [.int (i : Nat), x])) :=
      ⟨hT2, by show 2 ≤ sizeLine; decide, [.int i tk, y], .cons ⟨_, rfl⟩ (.cons ru .nil), ⟨_, hT2, rfl, _, rfl⟩⟩
    have I1 : Inv X pins σ (upd H s.heap.objs.size (.frz { cls := .type "tuple", data := .seq #[.int i tk, y] } (.tup [.int (i : Nat), x]))) { s with heap := h'', toks := tk + 1 } :=
      I.turnedNew (ch := [e, it]) (fun b ob hb q => (sb.2 b (fun z => hb (by simp [z]))).trans (hk b ob (fun z => hb (by simp [z])) (fun z => hb (by simp [z])) q)) hf (Nat.le_refl _) new
    refine ⟨.ref s.heap.objs.size, _, I1, rfl, ⟨_, x, _, rfl, I.hok.fresh (Nat.le_refl _), rfl, rfl, fun ys hy => by rw [I.tuple_inj hy hq]; exact hx⟩, ⟨⟨y, ?_⟩, hst.1.at fun o q => (sb.2 it (Ne.symm hne)).trans q, hne, n1, n2⟩, fun b hb => ?_⟩
    · have e1 : ((i + 1 : Nat) : Int) = (i : Int) + 1 := by omega
      rw [e1]; exact he'
    · have hb' : b < s.heap.objs.size := by
        have e' : b = e ∨ b = it := by simpa using hb
        rcases e' with z | z
        · rw [z]; exact lel
        · rw [z]; exact lil
      rw [upd_ne (Nat.ne_of_lt hb')]
      exact (hf b hb).1
  done := by
    intro X hP hw hK hc i pins s σ H E I hf st hg
    subst hP hw hK
    obtain ⟨⟨old, he⟩, hit, hne, n1, n2⟩ := st
    obtain ⟨xs, hq, hx⟩ := hg
    obtain ⟨its, rv, p, hz⟩ := I.tuple hq
    have p' : s.heap.IsTuple a its.toArray := p
    obtain ⟨f0, f1, f2, f3, f4, f5⟩ := hf it (by simp)
    have hl := rv.length
    have hT : s.TypeIs (.ref e) "enumerate" := ⟨_, he, rfl⟩
    unfold pyNext
    refine wpAny_bind (wpAny_attempt (wpAny_callSpecial?_slot (name := Str.ofString "__next__") hT F.slot_enumerate_next
      (wpAny_call_entry F.slot_enumerate_next hT F.entry_enumerate_next ?_ (F.args_enumerate_next_1 _))))
    show wpAny _ _ (field (.ref e) 2 >>= _) _ _ _
    refine wpAny_bind (wpAny_field he rfl (x := .ref it) rfl ?_)
    refine wpAny_bind (wpAny_nextOf_tuple_end (I.ok.hd hc) hit p' (by simp; omega) fun h' x he' hx' => ?_)
    obtain ⟨o, ho, hc'⟩ := hx'
    refine wpAny_bind (wpAny_isInstance (T := "StopIteration") (b := true) ⟨o, ho, hc'⟩ isSubtype_stop ?_)
    exact wpAny_pure ⟨rfl, I.turned (t' := s.toks) (fun b ob hb q => he' b ob hb q) f0 f1 f3 f4 f5⟩
  self := by
    rintro A i s Q E ⟨⟨_, he⟩, _⟩ h
    exact wpAny_pyIter_enum he h
def IteL (K : PySem.W.Frag) (a : Addr) : It :=
  ⟨fun i H => ∃ (xs : List V) (x : V), SqL K H a xs ∧ xs[i]? = some x, fun i H v H' => ∃ T x o, v = .ref T ∧ H T = none ∧ o.dict = none ∧ H' = upd H T (.frz o (.tup [.int (i : Nat), x])) ∧ ∀ xs, SqL K H a xs → xs[i]? = some x, fun i H => ∃ xs : List V, SqL K H a xs ∧ xs.length ≤ i⟩
theorem turn_enumLX {P : Program} {w : World} {K : PySem.W.Frag} {elts : List Expr} {kk : Nat} {tpos : Pos} (a e it : Addr) :
    Turn P w K (.Tuple elts kk tpos) (IteL K a) [e, it] e (fun i h => (∃ old, IsEnum h e it ((i : Nat) : Int) old) ∧ h.IsListIter it a i ∧ e ≠ it ∧ a ≠ it ∧ a ≠ e) where
  mem := by simp
  obj := by
    rintro i h ⟨⟨old, he⟩, ⟨o, ho, hc, hd⟩, _⟩ b hb
    have e' : b = e ∨ b = it := by simpa using hb
    rcases e' with rfl | rfl
    · exact ⟨_, he, fun v q => nomatch q⟩
    · exact ⟨o, ho, fun v q => by rw [hd] at q; cases q⟩
  keep := by
    rintro i h h' ⟨⟨old, he⟩, hi, hne⟩ k
    exact ⟨⟨old, k e (by simp) _ he⟩, hi.at fun o q => k it (by simp) o q, hne⟩
  item := by
    intro X hP hw hK hc i pins s σ H E I hf st hg
    subst hP hw hK
    obtain ⟨⟨old, he⟩, hit, hne, n1, n2⟩ := st
    obtain ⟨xs, x, hq, hx⟩ := hg
    obtain ⟨its, rv, p, hz⟩ := I.list hq
    have p' : s.heap.IsList a its.toArray := p.isList
    obtain ⟨u, hu, ru⟩ := rv.get hx
    have lel : e < s.heap.objs.size := Heap.lt_size he
    have lil : it < s.heap.objs.size := by obtain ⟨_, q, _⟩ := hit; exact Heap.lt_size q
    have hlt : i < its.toArray.size := by
      obtain ⟨h1, _⟩ := List.getElem?_eq_some_iff.mp hu
      simpa using h1
    have hef : e ∉ [it, a] := by
      intro z
      have : e = it ∨ e = a := by simpa using z
      rcases this with z | z
      · exact hne z
      · exact n2 z.symm
    refine wpAny_pyNext_enum_itemD (Draws.list (A := X.A.in1) (I.ok.hd hc) it a n1 its.toArray) he ⟨hit, p'⟩ hlt hne hef ?_
    intro y h' tk hy ho hst hT hsz hk
    have ey : y = u := by
      rw [List.getElem?_toArray, hu] at hy
      exact (Option.some.inj hy).symm
    subst ey
    refine ⟨_, rfl, wpAny_letOwnedTupleGo_enum (s := { s with heap := h', toks := tk + 1 }) ho fun h'' he' sb => ?_⟩
    have hT2 : h''.get? s.heap.objs.size = some { cls := .type "tuple", data := .seq #[.int i tk, y] } := (sb.2 _ (Nat.ne_of_gt lel)).trans hT
    have new : ObjOk X.prog X.w (upd H s.heap.objs.size (.frz { cls := .type "tuple", data := .seq #[.int i tk, y] } (.tup [.int (i : Nat), x]))) h'' s.heap.objs.size (.frz { cls := .type "tuple", data := .seq #[.int i tk, y] } (.tup [.int (i : Nat), x])) :=
      ⟨hT2, by show 2 ≤ sizeLine; decide, [.int i tk, y], .cons ⟨_, rfl⟩ (.cons ru .nil), ⟨_, hT2, rfl, _, rfl⟩⟩
    have I1 : Inv X pins σ (upd H s.heap.objs.size (.frz { cls := .type "tuple", data := .seq #[.int i tk, y] } (.tup [.int (i : Nat), x]))) { s with heap := h'', toks := tk + 1 } :=
      I.turnedNew (ch := [e, it]) (fun b ob hb q => (sb.2 b (fun z => hb (by simp [z]))).trans (hk b ob (fun z => hb (by simp [z])) (fun z => hb (by simp [z])) q)) hf (Nat.le_refl _) new
    refine ⟨.ref s.heap.objs.size, _, I1, rfl, ⟨_, x, _, rfl, I.hok.fresh (Nat.le_refl _), rfl, rfl, fun ys hy => by rw [I.list_inj hy hq]; exact hx⟩, ⟨⟨y, ?_⟩, hst.1.at fun o q => (sb.2 it (Ne.symm hne)).trans q, hne, n1, n2⟩, fun b hb => ?_⟩
    · have e1 : ((i + 1 : Nat) : Int) = (i : Int) + 1 := by omega
      rw [e1]; exact he'
    · have hb' : b < s.heap.objs.size := by
        have e' : b = e ∨ b = it := by simpa using hb
        rcases e' with z | z
        · rw [z]; exact lel
        · rw [z]; exact lil
      rw [upd_ne (Nat.ne_of_lt hb')]
      exact (hf b hb).1
  done := by
    intro X hP hw hK hc i pins s σ H E I hf st hg
    subst hP hw hK
    obtain ⟨⟨old, he⟩, hit, hne, n1, n2⟩ := st
    obtain ⟨xs, hq, hx⟩ := hg
    obtain ⟨its, rv, p, hz⟩ := I.list hq
    obtain ⟨f0, f1, f2, f3, f4, f5⟩ := hf it (by simp)
    exact wpAny_pyNext_enum_end (I.ok.hd hc) he hit p.isList (by have := rv.length; simp; omega) fun h' eb => ⟨rfl, I.turned (t' := s.toks) (fun b o hb q => eb b o hb q) f0 f1 f3 f4 f5⟩
  self := by
    rintro A i s Q E ⟨⟨_, he⟩, _⟩ h
    exact wpAny_pyIter_enum he h
end Gw
namespace Gw
open PySem PySem.Spec PyProof.Rows L2

section
variable {X : Cx} {K : PySem.W.Frag} {tg : Expr}
/-! ### a list or a tuple; enumerate of one -/
def iSeq (K : PySem.W.Frag) (tl : TE) : TI := fun σ H R => tl σ H fun x H1 => ∃ a, x = .ref a ∧ (((∃ xs, SqL K H1 a xs) ∧ R (Itl K a) H1) ∨ ((∃ xs, SqT K H1 a xs) ∧ R (Itt K a) H1))
theorem pi_seq {l : Expr} {tl : TE} (hl : PE X l tl) : PI X tg l (iSeq X.K tl) := by
  constructor
  intro pins s σ H R I h
  refine thn (hl.run pins s σ H _ I h) ?_
  rintro v s1 ⟨x, H1, I1, r1, a, rfl, q⟩
  cases r1
  have fp : ∀ b ∈ [s1.heap.objs.size], FpOk X pins H1 b := by
    intro b hb
    obtain rfl : b = s1.heap.objs.size := by simpa using hb
    exact I1.fpOk (Nat.le_refl _) (I1.hok.fresh (Nat.le_refl _))
  rcases q with ⟨⟨xs, hq⟩, q⟩ | ⟨⟨xs, hq⟩, q⟩
  · obtain ⟨its, rv, p, _⟩ := I1.list hq
    exact wpAny_pyIter_list p.isList ⟨_, [s1.heap.objs.size], _, _, H1, rfl, I1.kept (t' := s1.toks) fun b o e => Heap.get?_push_of_some _ e, turn_list a _, ⟨_, Heap.get?_push_size _ rfl, rfl, rfl⟩, fp, q⟩
  · obtain ⟨its, rv, p, _⟩ := I1.tuple hq
    exact wpAny_pyIter_tuple (show s1.heap.IsTuple a its.toArray from p) ⟨_, [s1.heap.objs.size], _, _, H1, rfl, I1.kept (t' := s1.toks) fun b o e => Heap.get?_push_of_some _ e, turn_tuple a _, ⟨_, Heap.get?_push_size _ rfl, rfl, rfl⟩, fp, q⟩
def iEnumA (K : PySem.W.Frag) (ta : TA) : TI := fun σ H R => ta σ H fun vs H1 => ∃ a xs, vs = [.ref a] ∧ ((SqL K H1 a xs ∧ R (IteL K a) H1) ∨ (SqT K H1 a xs ∧ R (IteT K a) H1))
theorem pi_enumA {e : Expr} {ta : TA} {p pos tpos : Pos} {elts : List Expr} {kk : Nat} (hg : Gl X "enumerate") (hm : X.mg "enumerate" = none) (ha : PA X [e] ta) (hs : starEach [e] X.env = [(false, eval e X.env)] := by rfl) :
    PI X (.Tuple elts kk tpos) (.Call (.Name "enumerate" p) [e] [] pos) (iEnumA X.K ta) := by
  constructor
  intro pins s σ H R I h
  refine Call_ (ld_blt I hg hm boot_enumerate (PyProof.Rows.callWith_type1 (thn (ha.run pos pins s σ H _ I h) ?_) hs rfl))
  rintro us s1 ⟨vs, H1, I1, r1, a, xs, rfl, q⟩
  rw [Vals.ref1 r1]
  have fp : ∀ b ∈ [s1.heap.objs.size + 1, s1.heap.objs.size], FpOk X pins H1 b := by
    intro b hb
    have hle : s1.heap.objs.size ≤ b := by
      have e' : b = s1.heap.objs.size + 1 ∨ b = s1.heap.objs.size := by simpa using hb
      rcases e' with z | z
      · rw [z]; exact Nat.le_add_right _ _
      · rw [z]; exact Nat.le_refl _
    exact I1.fpOk hle (I1.hok.fresh hle)
  rcases q with ⟨hq, q⟩ | ⟨hq, q⟩
  · obtain ⟨its, rv, p', _⟩ := I1.list hq
    have hlt : a < s1.heap.objs.size := by obtain ⟨_, e, _⟩ := p'.isList; exact Heap.lt_size e
    exact call_enumerate_list p'.isList fun h' he hit hsz hk => wpAny_pyIter_enum he ⟨_, _, _, _, H1, rfl, I1.kept (t' := s1.toks) hk, turn_enumLX a (s1.heap.objs.size + 1) s1.heap.objs.size, ⟨⟨.none, he⟩, hit, Nat.succ_ne_self _, Nat.ne_of_lt hlt, Nat.ne_of_lt (Nat.lt_succ_of_lt hlt)⟩, fp, q⟩
  · obtain ⟨its, rv, p', _⟩ := I1.tuple hq
    have hlt : a < s1.heap.objs.size := by obtain ⟨_, e, _⟩ := p'; exact Heap.lt_size e
    exact call_enum_tuple (show s1.heap.IsTuple a its.toArray from p') fun h' he hit hk => wpAny_pyIter_enum he ⟨_, _, _, _, H1, rfl, I1.kept (t' := s1.toks) hk, turn_enumT a (s1.heap.objs.size + 1) s1.heap.objs.size,
      ⟨⟨.none, he⟩, hit, Nat.succ_ne_self _, Nat.ne_of_lt hlt, Nat.ne_of_lt (Nat.lt_succ_of_lt hlt)⟩, fp, q⟩

/-! ### what is walked, as data -/
structure Wk (K : PySem.W.Frag) (J : It) (ds : List D) (vs : List (V × D)) : Prop where
  go : ∀ (S : Vol) (H : Hp) (i : Nat), (∀ q ∈ vs, Rp K S H q.1 q.2) → i < ds.length → J.go i H
  yl : ∀ (S : Vol) (H : Hp) (i : Nat) (x : V) (H' : Hp) (d : D), (∀ p, H p = none → ¬ S p) → (∀ q ∈ vs, Rp K S H q.1 q.2) → ds[i]? = some d → J.yld i H x H' → Ext H H' ∧ Rp K S H' x d
  st : ∀ (S : Vol) (H : Hp), (∀ q ∈ vs, Rp K S H q.1 q.2) → J.stop ds.length H
abbrev DTI := Rho → (List D → Rho → Prop) → Prop
def SimI (K : PySem.W.Frag) (t : TI) (g : DTI) : Prop := ∀ (C : Ctx) (S : Vol) (σ : VStore) (H : Hp) (ρ : Rho) (Q : List D → Rho → Prop) (R : It → Hp → Prop), RS K C S σ H ρ → g ρ Q →
  (∀ J H' ds ρ' vs, Fr C S H H' → RS K C S σ H' ρ' → (∀ q ∈ vs, Rp K S H' q.1 q.2) → Wk K J ds vs → Q ds ρ' → R J H') → t σ H R
structure DI (X : Cx) (tg e : Expr) (g : DTI) : Prop where
  ex : ∃ t, PI X tg e t ∧ SimI X.K t g
theorem wk_list {a : Addr} {ds : List D} : Wk K (Itl K a) ds [(V.ref a, .list ds)] where
  go := fun S H i h hi => by
    have h := h _ List.mem_cons_self
    cases h with
    | lst e r => exact ⟨_, _, e.sq, List.getElem?_eq_getElem (by rw [r.len]; exact hi)⟩
  yl := fun S H i x H' d _ h hd y => by
    have h := h _ List.mem_cons_self
    obtain ⟨rfl, y⟩ := y
    cases h with
    | lst e r =>
      obtain ⟨x', h1, h2⟩ := r.get hd
      have := y _ e.sq
      rw [h1] at this
      cases this
      exact ⟨.refl _, h2⟩
  st := fun S H h => by
    have h := h _ List.mem_cons_self
    cases h with
    | lst e r => exact ⟨_, e.sq, Nat.le_of_eq r.len⟩
theorem wk_tup {a : Addr} {ds : List D} : Wk K (Itt K a) ds [(V.ref a, .tuple ds)] where
  go := fun S H i h hi => by
    have h := h _ List.mem_cons_self
    cases h with
    | tup e r => exact ⟨_, _, e.sq, List.getElem?_eq_getElem (by rw [r.len]; exact hi)⟩
  yl := fun S H i x H' d _ h hd y => by
    have h := h _ List.mem_cons_self
    obtain ⟨rfl, y⟩ := y
    cases h with
    | tup e r =>
      obtain ⟨x', h1, h2⟩ := r.get hd
      have := y _ (e.sq)
      rw [h1] at this
      cases this
      exact ⟨.refl _, h2⟩
  st := fun S H h => by
    have h := h _ List.mem_cons_self
    cases h with
    | tup e r => exact ⟨_, e.sq, Nat.le_of_eq r.len⟩
/-- 0, 1, .. beside the items -/
def enumD (ds : List D) : List D := (List.range ds.length).zipWith (fun (i : Nat) d => .tuple [.int i, d]) ds
theorem enumD_len (ds : List D) : (enumD ds).length = ds.length := by simp [enumD]
theorem enumD_get {ds : List D} {i : Nat} {d : D} (h : (enumD ds)[i]? = some d) : ∃ e, ds[i]? = some e ∧ d = .tuple [.int i, e] := by
  unfold enumD at h
  rw [List.getElem?_zipWith] at h
  have hi : i < ds.length := by
    by_cases hi : i < ds.length
    · exact hi
    · rw [List.getElem?_eq_none (l := ds) (by omega)] at h
      cases e : (List.range ds.length)[i]? <;> simp [e] at h
  rw [List.getElem?_range hi, List.getElem?_eq_getElem hi] at h
  refine ⟨_, List.getElem?_eq_getElem hi, ?_⟩
  simpa using h.symm
theorem newPair {S : Vol} {H : Hp} {T : Addr} {i : Int} {x : V} {d : D} (n : ∀ p, H p = none → ¬ S p) (h : H T = none) {o : Obj} (ho : o.dict = none) (r : Rp K S H x d) : Rp K S (upd H T (.frz o (.tup [.int i, x]))) (.ref T) (.tuple [.int i, d]) :=
  .tup (.new ho (n T h)) (.cons (.int i) (.cons (r.ext (.new h)) .nil))
theorem wk_enumL {a : Addr} {ds : List D} : Wk K (IteL K a) (enumD ds) [(V.ref a, .list ds)] where
  go := fun S H i h hi => by
    rw [enumD_len] at hi
    have h := h _ List.mem_cons_self
    cases h with
    | lst e r => exact ⟨_, _, e.sq, List.getElem?_eq_getElem (by rw [r.len]; exact hi)⟩
  yl := fun S H i x H' d nf h hd y => by
    have h := h _ List.mem_cons_self
    obtain ⟨T, z, o, rfl, hT, ho, rfl, y⟩ := y
    obtain ⟨d', hd', rfl⟩ := enumD_get hd
    cases h with
    | lst e r =>
      obtain ⟨x', h1, h2⟩ := r.get hd'
      have := y _ e.sq
      rw [h1] at this
      cases this
      exact ⟨.new hT, newPair nf hT ho h2⟩
  st := fun S H h => by
    have h := h _ List.mem_cons_self
    cases h with
    | lst e r => exact ⟨_, e.sq, by rw [enumD_len]; exact Nat.le_of_eq r.len⟩
theorem wk_enumT {a : Addr} {ds : List D} : Wk K (IteT K a) (enumD ds) [(V.ref a, .tuple ds)] where
  go := fun S H i h hi => by
    rw [enumD_len] at hi
    have h := h _ List.mem_cons_self
    cases h with
    | tup e r => exact ⟨_, _, e.sq, List.getElem?_eq_getElem (by rw [r.len]; exact hi)⟩
  yl := fun S H i x H' d nf h hd y => by
    have h := h _ List.mem_cons_self
    obtain ⟨T, z, o, rfl, hT, ho, rfl, y⟩ := y
    obtain ⟨d', hd', rfl⟩ := enumD_get hd
    cases h with
    | tup e r =>
      obtain ⟨x', h1, h2⟩ := r.get hd'
      have := y _ (e.sq)
      rw [h1] at this
      cases this
      exact ⟨.new hT, newPair nf hT ho h2⟩
  st := fun S H h => by
    have h := h _ List.mem_cons_self
    cases h with
    | tup e r => exact ⟨_, e.sq, by rw [enumD_len]; exact Nat.le_of_eq r.len⟩
/-- lo, lo + 1, .. -/
def rngD (lo : Int) (n : Nat) : List D := (List.range n).map fun (i : Nat) => .int (lo + i)
theorem rngD_len (lo : Int) (n : Nat) : (rngD lo n).length = n := by simp [rngD]
theorem rngD_get {lo : Int} {n i : Nat} {d : D} (h : (rngD lo n)[i]? = some d) : i < n ∧ d = .int (lo + i) := by
  unfold rngD at h
  rw [List.getElem?_map] at h
  by_cases hi : i < n
  · rw [List.getElem?_range hi] at h
    exact ⟨hi, by simpa using h.symm⟩
  · rw [List.getElem?_eq_none (by simpa using hi)] at h; cases h
theorem wk_rng {lo : Int} {n : Nat} : Wk K (Itr lo n) (rngD lo n) [] where
  go := fun S H i _ hi => by rw [rngD_len] at hi; exact hi
  yl := fun S H i x H' d _ _ hd y => by
    obtain ⟨rfl, rfl⟩ := y
    obtain ⟨_, rfl⟩ := rngD_get hd
    exact ⟨.refl _, .int _⟩
  st := fun S H _ => by rw [rngD_len]; exact Nat.le_refl _
variable {e a b c : Expr} {ga gb gc : DTE} {p pos tpos : Pos} {elts : List Expr} {kk : Nat}
def giSeq (g : DTE) : DTI := fun ρ Q => g ρ fun d ρ' => match d with | .list ds => Q ds ρ' | .tuple ds => Q ds ρ' | _ => False
theorem diseq {e : Expr} (h : DE X e ga) : DI X tg e (giSeq ga) := by
  obtain ⟨t, p, s⟩ := h.ex
  refine ⟨_, pi_seq p, fun C S σ H ρ Q R RS q f => s C S σ H ρ _ _ RS q fun v H' d ρ' f1 R1 r1 h => ?_⟩
  cases d <;> first | exact h.elim | skip
  · have r2 := r1
    cases r1 with
    | lst e r => exact ⟨_, rfl, .inl ⟨⟨_, e.sq⟩, f _ H' _ ρ' [(_, _)] f1 R1 (fun q hq => by rw [List.mem_singleton.mp hq]; exact r2) wk_list h⟩⟩
  · have r2 := r1
    cases r1 with
    | tup e r => exact ⟨_, rfl, .inr ⟨⟨_, e.sq⟩, f _ H' _ ρ' [(_, _)] f1 R1 (fun q hq => by rw [List.mem_singleton.mp hq]; exact r2) wk_tup h⟩⟩
def giEnum (g : DTE) : DTI := fun ρ Q => g ρ fun d ρ' => match d with | .list ds => Q (enumD ds) ρ' | .tuple ds => Q (enumD ds) ρ' | _ => False
theorem dienum {e : Expr} (hg : Gl X "enumerate") (hm : X.mg "enumerate" = none) (h : DE X e ga) (he : starEach [e] X.env = (false, eval e X.env) :: starEach [] X.env := by rfl) (hs : starEach [e] X.env = [(false, eval e X.env)] := by rfl) : DI X (.Tuple elts kk tpos) (.Call (.Name "enumerate" p) [e] [] pos) (giEnum ga) := by
  obtain ⟨t, p, s⟩ := h.ex
  refine ⟨_, pi_enumA hg hm (pa_cons p pa_nil he) hs, fun C S σ H ρ Q R RS q f => s C S σ H ρ _ _ RS q fun v H' d ρ' f1 R1 r1 h => ?_⟩
  cases d <;> first | exact h.elim | skip
  · have r2 := r1
    cases r1 with
    | lst e r => exact ⟨_, _, rfl, .inl ⟨e.sq, f _ H' _ ρ' [(_, _)] f1 R1 (fun q hq => by rw [List.mem_singleton.mp hq]; exact r2) wk_enumL h⟩⟩
  · have r2 := r1
    cases r1 with
    | tup e r => exact ⟨_, _, rfl, .inr ⟨e.sq, f _ H' _ ρ' [(_, _)] f1 R1 (fun q hq => by rw [List.mem_singleton.mp hq]; exact r2) wk_enumT h⟩⟩
def giR1 (g : DTE) : DTI := fun ρ Q => g ρ fun d ρ' => ∃ j, d = .int j ∧ j ≤ 100000 ∧ -100000 ≤ j ∧ Q (rngD 0 j.toNat) ρ'
theorem dir1 (hg : Gl X "range") (hm : X.mg "range" = none) (h : DE X a ga) (he : starEach [a] X.env = (false, eval a X.env) :: starEach [] X.env := by rfl) (hs : starEach [a] X.env = [(false, eval a X.env)] := by rfl) : DI X tg (.Call (.Name "range" p) [a] [] pos) (giR1 ga) := by
  obtain ⟨t, p, s⟩ := h.ex
  refine ⟨_, pi_range1 hg hm (pa_cons p pa_nil he) hs, fun C S σ H ρ Q R RS q f => s C S σ H ρ _ _ RS q fun v H' d ρ' f1 R1 r1 h => ?_⟩
  obtain ⟨j, rfl, h1, h2, h⟩ := h
  cases r1
  exact ⟨j, rfl, by omega, by omega, f _ H' _ ρ' [] f1 R1 (fun q hq => by simp at hq) wk_rng h⟩
def giR2 (g g2 : DTE) : DTI := fun ρ Q => g ρ fun d ρ1 => g2 ρ1 fun d2 ρ' => ∃ i j, d = .int i ∧ d2 = .int j ∧ (j ≤ 100000 ∧ -100000 ≤ j ∧ i ≤ 100000 ∧ -100000 ≤ i) ∧ Q (rngD i (j - i).toNat) ρ'
theorem dir2 (hg : Gl X "range") (hm : X.mg "range" = none) (h : DE X a ga) (h2 : DE X b gb) (he : starEach [a, b] X.env = (false, eval a X.env) :: starEach [b] X.env := by rfl) (he2 : starEach [b] X.env = (false, eval b X.env) :: starEach [] X.env := by rfl)
    (hs : starEach [a, b] X.env = [(false, eval a X.env), (false, eval b X.env)] := by rfl) (hs2 : starEach [b] X.env = [(false, eval b X.env)] := by rfl) : DI X tg (.Call (.Name "range" p) [a, b] [] pos) (giR2 ga gb) := by
  obtain ⟨t, p, s⟩ := h.ex
  obtain ⟨t2, p2, s2⟩ := h2.ex
  refine ⟨_, pi_range2 hg hm (pa_cons p (pa_cons p2 pa_nil he2) he) hs hs2, fun C S σ H ρ Q R RS q f => s C S σ H ρ _ _ RS q fun v H1 d ρ1 f1 R1 r1 h => s2 C S σ H1 ρ1 _ _ R1 h fun v2 H2 d2 ρ2 f2 R2 r2 h => ?_⟩
  obtain ⟨i, j, rfl, rfl, hb, h⟩ := h
  cases r1
  cases r2
  exact ⟨i, j, rfl, ⟨by omega, by omega, by omega, by omega⟩, f _ H2 _ ρ2 [] (f1.trans f2) R2 (fun q hq => by simp at hq) wk_rng h⟩
/-! ### list(range ..), tuple(range ..) -/
def SimRg (K : PySem.W.Frag) (t : L2.St → Hp → (Int → Int → Hp → Prop) → Prop) (g : Rho → (Int → Int → Rho → Prop) → Prop) : Prop := ∀ (C : Ctx) (S : Vol) (σ : VStore) (H : Hp) (ρ : Rho) (Q : Int → Int → Rho → Prop) (k : Int → Int → Hp → Prop), RS K C S σ H ρ → g ρ Q →
  (∀ i j H' ρ', Fr C S H H' → RS K C S σ H' ρ' → Q i j ρ' → k i j H') → t σ H k
structure DRg (X : Cx) (e : Expr) (g : Rho → (Int → Int → Rho → Prop) → Prop) : Prop where
  ex : ∃ t, PRg X e t ∧ SimRg X.K t g
def gRg1 (g : DTE) : Rho → (Int → Int → Rho → Prop) → Prop := fun ρ Q => g ρ fun d ρ' => ∃ j, d = .int j ∧ Q 0 j ρ'
def gRg2 (g g2 : DTE) : Rho → (Int → Int → Rho → Prop) → Prop := fun ρ Q => g ρ fun d ρ1 => g2 ρ1 fun d2 ρ' => ∃ i j, d = .int i ∧ d2 = .int j ∧ Q i j ρ'
theorem drg1 (hg : Gl X "range") (hm : X.mg "range" = none) (h : DE X a ga) (na : starEach [a] X.env = (false, eval a X.env) :: starEach [] X.env := by rfl) : DRg X (.Call (.Name "range" p) [a] [] pos) (gRg1 ga) := by
  obtain ⟨t, p, s⟩ := h.ex
  refine ⟨_, prg_1 hg hm p na, fun C S σ H ρ Q k R q f => s C S σ H ρ _ _ R q fun v H' d ρ' f1 R1 r1 h => ?_⟩
  obtain ⟨j, rfl, h⟩ := h
  cases r1
  exact ⟨j, rfl, f 0 j H' ρ' f1 R1 h⟩
def rngB (i j : Int) : Prop := i ≤ 100000 ∧ -100000 ≤ i ∧ j ≤ 100000 ∧ -100000 ≤ j
theorem RpA.rg {S : Vol} {H : Hp} (i j : Int) : RpA K S H (rgV i j) (rngD i (j - i).toNat) := by
  refine .of_get (by rw [rgV_length, rngD_len]) fun m x d h1 h2 => ?_
  obtain ⟨hm, rfl⟩ := rngD_get h2
  unfold rgV at h1
  rw [List.getElem?_map, List.getElem?_range hm] at h1
  cases h1
  exact .int _
def gLRg (g : Rho → (Int → Int → Rho → Prop) → Prop) : DTE := fun ρ Q => g ρ fun i j ρ' => rngB i j ∧ Q (.list (rngD i (j - i).toNat)) ρ'
def gTRg (g : Rho → (Int → Int → Rho → Prop) → Prop) : DTE := fun ρ Q => g ρ fun i j ρ' => rngB i j ∧ Q (.tuple (rngD i (j - i).toNat)) ρ'
theorem rgOk {i j : Int} (h : rngB i j) : RgOk i j := by
  obtain ⟨h1, h2, h3, h4⟩ := h
  exact ⟨by omega, by omega, by omega, by omega, by omega⟩
theorem dlstRg {gr : Rho → (Int → Int → Rho → Prop) → Prop} {e : Expr} (hc : X.calm = true) (hg : Gl X "list") (hm : X.mg "list" = none) (h : DRg X e gr) (na : starEach [e] X.env = (false, eval e X.env) :: starEach [] X.env := by rfl) : DF X (.Call (.Name "list" p) [e] [] pos) (gLRg gr) := by
  obtain ⟨t, p, s⟩ := h.ex
  exact ⟨_, pe_listRg hc hg hm p na, fun C S σ H ρ Q k R q f => s C S σ H ρ _ _ R q fun i j H' ρ' f1 R1 h => ⟨rgOk h.1, fun z hz => f z _ _ ρ' (f1.trans (.of (.new hz))) (newOb R1 hz).1 (newOb R1 hz).2 (freshAt f1 R1 hz) (.lst upd_same (RpA.newp (.rg i j) hz)) h.2⟩⟩
theorem dtupRg {gr : Rho → (Int → Int → Rho → Prop) → Prop} {e : Expr} (hc : X.calm = true) (hg : Gl X "tuple") (hm : X.mg "tuple" = none) (h : DRg X e gr) (na : starEach [e] X.env = (false, eval e X.env) :: starEach [] X.env := by rfl) : DE X (.Call (.Name "tuple" p) [e] [] pos) (gTRg gr) := by
  obtain ⟨t, p, s⟩ := h.ex
  exact ⟨_, pe_TRg hc hg hm p na, fun C S σ H ρ Q k R q f => s C S σ H ρ _ _ R q fun i j H' ρ' f1 R1 h => ⟨rgOk h.1, fun z o hz ho => f _ _ _ ρ' (f1.trans (.of (.new hz))) (R1.ext (.new hz)) (.tup (.new ho (R1.notS hz)) (.rg i j)) h.2⟩⟩
end
end Gw
namespace Gw
open PySem PySem.Spec PyProof.Rows L2

/-! ## one reading for all contexts -/
def tE (K : PySem.W.Frag) (g : DTE) : TE := fun σ H k => ∃ (C : Ctx) (S : Vol) (ρ : Rho) (Q : D → Rho → Prop), RS K C S σ H ρ ∧ g ρ Q ∧ ∀ v H' d ρ', Fr C S H H' → RS K C S σ H' ρ' → Rp K S H' v d → Q d ρ' → k v H'
def tT (K : PySem.W.Frag) (g : DTT) : TT := fun σ H k => ∃ (C : Ctx) (S : Vol) (ρ : Rho) (Q : Bool → Rho → Prop), RS K C S σ H ρ ∧ g ρ Q ∧ ∀ b H' ρ', Fr C S H H' → RS K C S σ H' ρ' → Q b ρ' → k b H'
section
variable {X : Cx} {K : PySem.W.Frag} {e a b c : Expr} {es : List Expr} {g ga gb : DTE} {pos p : Pos}
theorem PE.weak {t t' : TE} (h : PE X a t) (w : ∀ σ H Q, t' σ H Q → t σ H Q) : PE X a t' := ⟨fun pins s σ H Q I q => h.run pins s σ H Q I (w σ H Q q)⟩
theorem PT.weak {t t' : TT} (h : PT X a t) (w : ∀ σ H Q, t' σ H Q → t σ H Q) : PT X a t' := ⟨fun pins s σ H Q I q => h.run pins s σ H Q I (w σ H Q q)⟩
theorem DE.can (h : DE X a g) : PE X a (tE X.K g) := by
  obtain ⟨t, p, s⟩ := h.ex
  refine PE.weak p fun σ H Q q => ?_
  obtain ⟨C, S, ρ, Q', R, q, f⟩ := q
  exact s C S σ H ρ Q' Q R q f
theorem DT.can {g : DTT} (h : DT X a g) : PT X a (tT X.K g) := by
  obtain ⟨t, p, s⟩ := h.ex
  refine PT.weak p fun σ H Q q => ?_
  obtain ⟨C, S, ρ, Q', R, q, f⟩ := q
  exact s C S σ H ρ Q' Q R q f

/-! ## slots forgotten, and taken again -/
def wipeR (ρ : Rho) : List Nat → Rho
  | [] => ρ
  | v :: vs => (wipeR ρ vs).set v none
def mergeR (ρ1 ρ2 : Rho) : List Nat → Rho
  | [] => ρ2
  | v :: vs => (mergeR ρ1 ρ2 vs).set v (lk ρ1 v)
def noOwn (ρ : Rho) (vs : List Nat) : Bool := vs.all fun i => match lk ρ i with | some (.own _) => false | _ => true
theorem wipeR_len (ρ : Rho) : ∀ vs : List Nat, (wipeR ρ vs).length = ρ.length
  | [] => rfl
  | v :: vs => by unfold wipeR; rw [List.length_set, wipeR_len ρ vs]
theorem mergeR_len (ρ1 ρ2 : Rho) : ∀ vs : List Nat, (mergeR ρ1 ρ2 vs).length = ρ2.length
  | [] => rfl
  | v :: vs => by unfold mergeR; rw [List.length_set, mergeR_len ρ1 ρ2 vs]
theorem wipe_get (σ : VStore) (i : Nat) : ∀ vs : List Nat, (wipe σ vs)[i]? = if i ∈ vs then (if i < σ.length then some none else none) else σ[i]?
  | [] => by simp [wipe]
  | v :: vs => by
    unfold wipe
    by_cases hv : v = i
    · subst hv
      rw [List.getElem?_set]
      simp [wipe_length]
    · rw [List.getElem?_set_ne hv, wipe_get σ i vs]
      have : i ∈ v :: vs ↔ i ∈ vs := by simp [Ne.symm hv]
      simp only [this]
theorem wipeR_get (ρ : Rho) (i : Nat) : ∀ vs : List Nat, (wipeR ρ vs)[i]? = if i ∈ vs then (if i < ρ.length then some none else none) else ρ[i]?
  | [] => by simp [wipeR]
  | v :: vs => by
    unfold wipeR
    by_cases hv : v = i
    · subst hv
      rw [List.getElem?_set]
      simp [wipeR_len]
    · rw [List.getElem?_set_ne hv, wipeR_get ρ i vs]
      have : i ∈ v :: vs ↔ i ∈ vs := by simp [Ne.symm hv]
      simp only [this]
theorem mergeR_get (ρ1 ρ2 : Rho) (i : Nat) : ∀ vs : List Nat, (mergeR ρ1 ρ2 vs)[i]? = if i ∈ vs then (if i < ρ2.length then some (lk ρ1 i) else none) else ρ2[i]?
  | [] => by simp [mergeR]
  | v :: vs => by
    unfold mergeR
    by_cases hv : v = i
    · subst hv
      rw [List.getElem?_set]
      simp [mergeR_len]
    · rw [List.getElem?_set_ne hv, mergeR_get ρ1 ρ2 i vs]
      have : i ∈ v :: vs ↔ i ∈ vs := by simp [Ne.symm hv]
      simp only [this]
theorem lk_join : ∀ (ρ : Rho) (i : Nat), i < ρ.length → ρ[i]? = some (lk ρ i)
  | [], i, h => by simp at h
  | c :: r, 0, _ => by simp [lk]
  | c :: r, i + 1, h => by
    have := lk_join r i (by simpa using h)
    simpa [lk] using this
theorem merge_wipe (ρ : Rho) (vs : List Nat) : mergeR ρ (wipeR ρ vs) vs = ρ := by
  refine List.ext_getElem? fun i => ?_
  rw [mergeR_get, wipeR_len, wipeR_get]
  by_cases hi : i ∈ vs
  · rw [if_pos hi]
    by_cases hl : i < ρ.length
    · rw [if_pos hl, lk_join ρ i hl]
    · rw [if_neg hl, List.getElem?_eq_none (by omega)]
  · rw [if_neg hi, if_neg hi]
theorem wipe_set {σ : VStore} {i : Nat} {x : Option V} {vs : List Nat} (h : i ∈ vs) : wipe (σ.set i x) vs = wipe σ vs := by
  refine List.ext_getElem? fun j => ?_
  rw [wipe_get, wipe_get, List.length_set]
  by_cases hj : j ∈ vs
  · rw [if_pos hj, if_pos hj]
  · rw [if_neg hj, if_neg hj, List.getElem?_set_ne (show i ≠ j from fun e => hj (by rw [← e]; exact h))]
theorem wipeR_set {σ : Rho} {i : Nat} {x : Option Cl} {vs : List Nat} (h : i ∈ vs) : wipeR (σ.set i x) vs = wipeR σ vs := by
  refine List.ext_getElem? fun j => ?_
  rw [wipeR_get, wipeR_get, List.length_set]
  by_cases hj : j ∈ vs
  · rw [if_pos hj, if_pos hj]
  · rw [if_neg hj, if_neg hj, List.getElem?_set_ne (show i ≠ j from fun e => hj (by rw [← e]; exact h))]
theorem RS.wipe {C : Ctx} {S : Vol} {σ : VStore} {H : Hp} {ρ : Rho} (R : RS K C S σ H ρ) (vs : List Nat) : RS K C S (L2.wipe σ vs) H (wipeR ρ vs) :=
  R.weak (by rw [wipe_length, wipeR_len, R.len]) fun i c h => by
    rw [wipeR_get] at h
    by_cases hi : i ∈ vs
    · rw [if_pos hi] at h
      split at h <;> cases h
    · rw [if_neg hi] at h
      exact ⟨h, by rw [wipe_get, if_neg hi]⟩
/-- behind a comprehension's block -/
theorem RS.merge {C : Ctx} {S : Vol} {σ : VStore} {H H1 : Hp} {ρ1 ρ2 : Rho} {vs : List Nat} (R1 : RS K C S σ H1 ρ1) (f : ∀ a o, H1 a = some o → ¬ S a → H a = some o) (no : noOwn ρ1 vs = true) (R : RS K C S (L2.wipe σ vs) H ρ2) : RS K C S σ H (mergeR ρ1 ρ2 vs) where
  len := by rw [mergeR_len, ← R.len, wipe_length]
  fr := R.fr
  al := R.al
  pa := R.pa
  a0 := R.a0
  ent := fun i c h => by
    rw [mergeR_get] at h
    by_cases hi : i ∈ vs
    · rw [if_pos hi] at h
      split at h
      · have h' := lk_get (Option.some.inj h)
        obtain ⟨v, e, x⟩ := R1.ent i c h'
        refine ⟨v, e, ?_⟩
        cases c with
        | dat d => exact Rp.mv f (fun _ s => .inl s) x
        | own d =>
          have := List.all_eq_true.mp no i hi
          rw [Option.some.inj h] at this
          cases this
        | srcR => exact x
      · cases h
    · rw [if_neg hi] at h
      obtain ⟨v, e, x⟩ := R.ent i c h
      rw [wipe_get, if_neg hi] at e
      exact ⟨v, e, x⟩
  dst := fun i j o o' p hij h1 h2 e1 e2 => by
    have key : ∀ (k : Nat) u, (mergeR ρ1 ρ2 vs)[k]? = some (some (.own u)) → k ∉ vs ∧ ρ2[k]? = some (some (.own u)) := fun k u h => by
      rw [mergeR_get] at h
      by_cases hk : k ∈ vs
      · rw [if_pos hk] at h
        split at h
        · have := List.all_eq_true.mp no k hk
          rw [Option.some.inj h] at this
          cases this
        · cases h
      · rw [if_neg hk] at h
        exact ⟨hk, h⟩
    obtain ⟨n1, k1⟩ := key i _ h1
    obtain ⟨n2, k2⟩ := key j _ h2
    exact R.dst i j o o' p hij k1 k2 (by rw [wipe_get, if_neg n1]; exact e1) (by rw [wipe_get, if_neg n2]; exact e2)
  vok := R.vok
  src := R.src

/-! ## targets -/
abbrev DTG := D → Rho → (Rho → Prop) → Prop
def SimG (K : PySem.W.Frag) (g : TG) (gd : DTG) (is : List Nat) (w : Bool) : Prop := ∀ (C : Ctx) (S : Vol) (σ : VStore) (H : Hp) (ρ : Rho) (v : V) (d : D) (Q : Rho → Prop) (k : L2.St → Hp → Prop), RS K C S σ H ρ → Rp K S H v d → gd d ρ Q →
  (∀ σ' H' ρ', Fr C S H H' → RS K C S σ' H' ρ' → (w = true → ∀ vs : List Nat, (∀ i ∈ is, i ∈ vs) → L2.wipe σ' vs = L2.wipe σ vs ∧ wipeR ρ' vs = wipeR ρ vs) → Q ρ' → k σ' H') → g v σ H k
structure DG (X : Cx) (tg : Expr) (gd : DTG) (is : List Nat) (w : Bool) : Prop where
  ex : ∃ g, PG X tg g ∧ SimG X.K g gd is w
def tG (K : PySem.W.Frag) (gd : DTG) (is : List Nat) (w : Bool) : TG := fun v σ H k => ∃ (C : Ctx) (S : Vol) (ρ : Rho) (d : D) (Q : Rho → Prop), RS K C S σ H ρ ∧ Rp K S H v d ∧ gd d ρ Q ∧
  ∀ σ' H' ρ', Fr C S H H' → RS K C S σ' H' ρ' → (w = true → ∀ vs : List Nat, (∀ i ∈ is, i ∈ vs) → L2.wipe σ' vs = L2.wipe σ vs ∧ wipeR ρ' vs = wipeR ρ vs) → Q ρ' → k σ' H'
theorem DG.can {tg : Expr} {gd : DTG} {is : List Nat} {w : Bool} (h : DG X tg gd is w) : PG X tg (tG X.K gd is w) := by
  obtain ⟨t, p, s⟩ := h.ex
  refine ⟨fun pins st σ H v u Q I r q => p.run pins st σ H v u Q I r ?_⟩
  obtain ⟨C, S, ρ, d, Q', R, rv, q, f⟩ := q
  exact s C S σ H ρ v d Q' Q R rv q f
def gdName (i : Nat) : DTG := fun d ρ Q => Q (ρ.set i (some (.dat d)))
theorem dgname (i : Nat) {x : Str} (hN : X.N.Nodup) (hi : X.N[i]? = some x := by rfl) (hx : Loc X.env.scope x := by first | exact Or.inl rfl | exact Or.inr rfl) (hf : X.fn x = true ∨ X.env.scope.names.lookup x = some .local := by first | exact .inl rfl | exact .inr rfl | assumption) : DG X (.Name x pos) (gdName i) [i] true :=
  ⟨_, pg_name hN hi hx hf, fun C S σ H ρ v d Q k R r q f => f _ H _ .refl (R.setD r) (fun _ vs h => ⟨wipe_set (h i (by simp)), wipeR_set (h i (by simp))⟩) q⟩
abbrev DTGs := List D → Rho → (Rho → Prop) → Prop
def SimGs (K : PySem.W.Frag) (g : TGs) (gd : DTGs) (is : List Nat) (w : Bool) : Prop := ∀ (C : Ctx) (S : Vol) (σ : VStore) (H : Hp) (ρ : Rho) (vs : List V) (ds : List D) (Q : Rho → Prop) (k : L2.St → Hp → Prop), RS K C S σ H ρ → RpA K S H vs ds → gd ds ρ Q →
  (∀ σ' H' ρ', Fr C S H H' → RS K C S σ' H' ρ' → (w = true → ∀ vs : List Nat, (∀ i ∈ is, i ∈ vs) → L2.wipe σ' vs = L2.wipe σ vs ∧ wipeR ρ' vs = wipeR ρ vs) → Q ρ' → k σ' H') → g vs σ H k
structure DGs (X : Cx) (ts : List Expr) (gd : DTGs) (is : List Nat) (w : Bool) : Prop where
  ex : ∃ g, PGs X ts g ∧ SimGs X.K g gd is w
def gdNil : DTGs := fun ds ρ Q => ds = [] ∧ Q ρ
def gdCons (g : DTG) (l : DTGs) : DTGs := fun ds ρ Q => match ds with | d :: r => g d ρ fun ρ' => l r ρ' Q | [] => False
theorem dgnil : DGs X [] gdNil [] true := ⟨_, pgs_nil, fun C S σ H ρ vs ds Q k R r q f => by
  obtain ⟨rfl, q⟩ := q
  cases r
  exact ⟨rfl, f σ H ρ .refl R (fun _ vs _ => ⟨rfl, rfl⟩) q⟩⟩
theorem dgcons {t : Expr} {ts : List Expr} {g : DTG} {l : DTGs} {is js : List Nat} {w1 w2 : Bool} (h1 : DG X t g is w1) (h2 : DGs X ts l js w2) (hs : (assignEach (t :: ts) X.env).map (·.2) = assign t X.env :: (assignEach ts X.env).map (·.2) := by rfl) : DGs X (t :: ts) (gdCons g l) (is ++ js) (w1 && w2) := by
  obtain ⟨_, p1, s1⟩ := h1.ex
  obtain ⟨_, p2, s2⟩ := h2.ex
  refine ⟨_, pgs_cons p1 p2 hs, fun C S σ H ρ vs ds Q k R r q f => ?_⟩
  cases r with
  | nil => exact q.elim
  | cons r rr =>
    refine ⟨_, _, rfl, s1 C S σ H ρ _ _ _ _ R r q fun σ1 H1 ρ1 f1 R1 w1' q1 => s2 C S σ1 H1 ρ1 _ _ _ _ R1 (f1.rpa rr) q1 fun σ2 H2 ρ2 f2 R2 w2' q2 => f σ2 H2 ρ2 (f1.trans f2) R2 (fun hw vs h => ?_) q2⟩
    rw [Bool.and_eq_true] at hw
    obtain ⟨a1, a2⟩ := w1' hw.1 vs fun i hi => h i (List.mem_append_left _ hi)
    obtain ⟨b1, b2⟩ := w2' hw.2 vs fun i hi => h i (List.mem_append_right _ hi)
    exact ⟨b1.trans a1, b2.trans a2⟩
def gdTup (l : DTGs) (n : Nat) : DTG := fun d ρ Q => match d with | .tuple ds => ds.length = n ∧ l ds ρ Q | _ => False
theorem dgtup {ts : List Expr} {kk : Nat} {l : DTGs} {is : List Nat} {n : Nat} {w : Bool} (hc : X.calm = true) (h : DGs X ts l is w) (hn : (assignEach ts X.env).length = n := by rfl) (hst : (assignEach ts X.env).findIdx? (·.1) = none := by rfl) : DG X (.Tuple ts kk pos) (gdTup l n) is w := by
  obtain ⟨_, p, s⟩ := h.ex
  refine ⟨_, pg_tup hc p hn hst, fun C S σ H ρ v d Q k R r q f => ?_⟩
  cases d <;> first | exact q.elim | skip
  cases r with
  | tup e r => exact ⟨_, _, rfl, e.sq, by rw [r.len]; exact q.1, s C S σ H ρ _ _ _ _ R r q.2 f⟩

theorem unF {A B : Prop} (h : if false = true then A else B) : B := by
  rw [if_neg Bool.false_ne_true] at h; exact h
theorem unT {A B : Prop} (h : if true = true then A else B) : A := by
  rw [if_pos rfl] at h; exact h
/-! ## comprehensions -/
def gYes : DTT := fun ρ Q => Q true ρ
def gLc (gi : DTI) (gd : DTG) (gt : DTT) (ge : DTE) (vs : List Nat) : DTE := fun ρ Q => gi ρ fun ds ρ1 => noOwn ρ1 vs = true ∧ ds.length ≤ 100000 ∧ ∃ Iv : Nat → List D → Rho → Prop, Iv 0 [] (wipeR ρ1 vs) ∧
  (∀ i d acc ρ2, ds[i]? = some d → acc.length ≤ i → Iv i acc ρ2 → gd d ρ2 fun ρ3 => gt ρ3 fun b ρ4 => if b = true then ge ρ4 fun y ρ5 => Iv (i + 1) (acc ++ [y]) (wipeR ρ5 vs) else Iv (i + 1) acc (wipeR ρ4 vs)) ∧
  ∀ acc ρ2, Iv ds.length acc ρ2 → Q (.list acc) (mergeR ρ1 ρ2 vs)
/-- nothing but the comprehension's own names is stored -/
theorem gLc_pure {gi : DTI} {gd : DTG} {gt : DTT} {ge : DTE} {vs : List Nat} {ρ : Rho} {Q : D → Rho → Prop} (f : D → Option D)
    (h : gi ρ fun ds ρ1 => noOwn ρ1 vs = true ∧ ds.length ≤ 100000 ∧ (∀ d ∈ ds, gd d (wipeR ρ1 vs) fun ρ3 => gt ρ3 fun b ρ4 => if b = true then ge ρ4 fun y ρ5 => f d = some y ∧ wipeR ρ5 vs = wipeR ρ1 vs else f d = none ∧ wipeR ρ4 vs = wipeR ρ1 vs) ∧ Q (.list (ds.filterMap f)) ρ1)
    (mi : ∀ ρ (P P' : List D → Rho → Prop), gi ρ P → (∀ ds ρ, P ds ρ → P' ds ρ) → gi ρ P') (md : ∀ d ρ (P P' : Rho → Prop), gd d ρ P → (∀ ρ, P ρ → P' ρ) → gd d ρ P') (mt : ∀ ρ (P P' : Bool → Rho → Prop), gt ρ P → (∀ b ρ, P b ρ → P' b ρ) → gt ρ P')
    (me : ∀ ρ (P P' : D → Rho → Prop), ge ρ P → (∀ d ρ, P d ρ → P' d ρ) → ge ρ P') : gLc gi gd gt ge vs ρ Q := by
  refine mi _ _ _ h fun ds ρ1 ⟨h1, h2, h3, h4⟩ => ⟨h1, h2, fun i acc ρ2 => acc = (ds.take i).filterMap f ∧ ρ2 = wipeR ρ1 vs, ⟨rfl, rfl⟩, fun i d acc ρ2 hd _ hI => ?_, fun acc ρ2 hI => ?_⟩
  · obtain ⟨rfl, rfl⟩ := hI
    have hm : d ∈ ds := List.mem_of_getElem? hd
    have et : ds.take (i + 1) = ds.take i ++ [d] := by rw [List.take_add_one, hd]; rfl
    refine md _ _ _ _ (h3 d hm) fun ρ3 q => mt _ _ _ q fun b ρ4 q => ?_
    cases b with
    | true =>
      rw [if_pos rfl] at q ⊢
      exact me _ _ _ q fun y ρ5 q => ⟨by rw [et, List.filterMap_append]; simp [q.1], q.2⟩
    | false =>
      rw [if_neg Bool.false_ne_true] at q ⊢
      exact ⟨by rw [et, List.filterMap_append]; simp [q.1], q.2⟩
  · obtain ⟨rfl, rfl⟩ := hI
    rw [List.take_length, merge_wipe]
    exact h4
theorem simLc {wi : TI} {gi : DTI} {gd : DTG} {is : List Nat} {gt : DTT} {ge : DTE} {vs : List Nat} (si : SimI K wi gi) (hsub : ∀ i ∈ is, i ∈ vs) : SimF K (tLc wi (tG K gd is true) (tT K gt) (tE K ge) vs) (gLc gi gd gt ge vs) := by
  intro C S σ H ρ Q k R q f
  refine si C S σ H ρ _ _ R q fun J H1 ds ρ1 vs' f1 R1 hv W ⟨no, hlen, Iv, h0, hstep, hend⟩ => ?_
  intro D hD
  have nS : ¬ S D := R1.notS hD
  obtain ⟨z0, zM⟩ := R1.free0 hD
  -- the context in the block
  have Rb : RS K ((C.pin vs').prot D) (fun a => S a ∨ a = D) (L2.wipe σ vs) (upd H1 D (.lst [])) (wipeR ρ1 vs) :=
    ((((R1.pin hv).new hD).prot (R1.apart nS) zM ⟨_, upd_same⟩).wipe vs)
  have small : ∀ {n : Nat}, n < ds.length → n < sizeLine := fun h => Nat.lt_of_lt_of_le (Nat.lt_of_lt_of_le h hlen) (by decide)
  have toC : ∀ {Ha Hb : Hp}, Fr C S H1 Ha → Fr ((C.pin vs').prot D) (fun a => S a ∨ a = D) Ha Hb → Fr C S H1 Hb := fun {Ha Hb} x y a o h n => y a o (x a o h n) (n.elim (fun n => .inl fun z => z.elim n fun z => by rw [z, hD] at h; cases h) fun n => .inr (.inl n))
  have frD : ∀ {Ha Hb : Hp} {o : HO}, Fr ((C.pin vs').prot D) (fun a => S a ∨ a = D) Ha Hb → Ha D = some o → Hb D = some o := fun y h => y D _ h (.inr (.inr rfl))
  refine ⟨fun i m H2 => m = ds.length - i ∧ i ≤ ds.length ∧ ∃ acc dacc ρ2, H2 D = some (.lst acc) ∧ RpA K (fun a => S a ∨ a = D) H2 acc dacc ∧ dacc.length ≤ i ∧ RS K ((C.pin vs').prot D) (fun a => S a ∨ a = D) (L2.wipe σ vs) H2 ρ2 ∧ Fr C S H1 H2 ∧ Iv i dacc ρ2,
    ⟨ds.length, by omega, Nat.zero_le _, [], [], _, upd_same, .nil, Nat.le_refl _, Rb, .of (.new hD), h0⟩, ?_⟩
  rintro i m H2 ⟨rfl, hi, acc, dacc, ρ2, eD, ra, la, R2, fr, hI⟩
  have hv2 : ∀ q ∈ vs', Rp K (fun a => S a ∨ a = D) H2 q.1 q.2 := fun q hq => R2.vok q (List.mem_append_left _ hq)
  by_cases hlt : i < ds.length
  · refine .inr ⟨W.go _ H2 i hv2 hlt, fun H' => i + 1 ≤ ds.length ∧ ∃ acc dacc ρ2, H' D = some (.lst acc) ∧ RpA K (fun a => S a ∨ a = D) H' acc dacc ∧ dacc.length ≤ i + 1 ∧ RS K ((C.pin vs').prot D) (fun a => S a ∨ a = D) (L2.wipe σ vs) H' ρ2 ∧ Fr C S H1 H' ∧ Iv (i + 1) dacc ρ2,
      fun H' n => ⟨ds.length - (i + 1), by omega, rfl, n⟩, fun x H3 hy => ?_⟩
    have hd : ds[i]? = some ds[i] := List.getElem?_eq_getElem hlt
    obtain ⟨e3, r3⟩ := W.yl _ H2 i x H3 _ (fun p hp => R2.notS hp) hv2 hd hy
    have R3 := R2.ext e3
    refine ⟨_, _, ρ2, _, _, R3, r3, hstep i _ dacc ρ2 hd la hI, fun σ4 H4 ρ4 f4 R4 w4 q4 => ⟨(w4 rfl vs hsub).1.trans (by
      refine List.ext_getElem? fun j => ?_
      rw [wipe_get, wipe_length, wipe_get]
      by_cases hj : j ∈ vs
      · rw [if_pos hj, if_pos hj]
      · rw [if_neg hj]), ?_⟩⟩
    refine ⟨_, _, ρ4, _, R4, q4, fun b H5 ρ5 f5 R5 q5 => ?_⟩
    have fr5 : Fr C S H1 H5 := toC (toC (toC fr (.of e3)) f4) f5
    have eD5 : H5 D = some (.lst acc) := frD f5 (frD f4 (e3 D _ eD))
    have wp : ∀ {H6 : Hp} {ρ6 : Rho}, RS K ((C.pin vs').prot D) (fun a => S a ∨ a = D) σ4 H6 ρ6 → RS K ((C.pin vs').prot D) (fun a => S a ∨ a = D) (L2.wipe σ vs) H6 (wipeR ρ6 vs) := fun {H6 ρ6} R6 => by
      have := R6.wipe vs
      rw [(w4 rfl vs hsub).1] at this
      have e : L2.wipe (L2.wipe σ vs) vs = L2.wipe σ vs := by
        refine List.ext_getElem? fun j => ?_
        rw [wipe_get, wipe_length, wipe_get]
        by_cases hj : j ∈ vs
        · rw [if_pos hj, if_pos hj]
        · rw [if_neg hj]
      rw [e] at this
      exact this
    cases b with
    | false =>
      replace q5 := unF q5
      refine iteF ?_
      exact ⟨hlt, acc, dacc, _, eD5, f5.rpa (f4.rpa (ra.ext e3)), Nat.le_succ_of_le la, wp R5, fr5, q5⟩
    | true =>
      replace q5 := unT q5
      refine iteT ?_
      refine ⟨_, _, ρ5, _, R5, q5, fun y H6 dy ρ6 f6 R6 r6 q6 => ?_⟩
      have eD6 : H6 D = some (.lst acc) := frD f6 eD5
      have ra6 : RpA K (fun a => S a ∨ a = D) H6 acc dacc := f6.rpa (f5.rpa (f4.rpa (ra.ext e3)))
      have sD : (fun a => S a ∨ a = D) D := .inr rfl
      refine ⟨acc, eD6, small (by rw [ra6.len]; omega), hlt, acc ++ [y], dacc ++ [dy], _, upd_same, (ra6.wr sD).app (.one (r6.wr sD)), by rw [List.length_append]; simp; omega, ?_, ?_, q6⟩
      · -- the store holds: nobody knows D
        have R7 := wp R6
        have nk : ∀ a o, a ≠ D → H6 a = some o → upd H6 D (.lst (acc ++ [y])) a = some o := fun a o n e => by rw [upd_ne n]; exact e
        refine ⟨R7.len, fun a o h m => nk a o (fun z => by rw [z] at h; rw [z0] at h; cases h) (R7.fr a o h m), fun a h => ?_, fun a h => ?_, R7.a0, fun j c e => ?_, R7.dst, fun q h => (R7.vok q h).wr sD, fun a c h => ?_⟩
        · by_cases z : a = D
          · rw [z]; exact ⟨_, upd_same⟩
          · obtain ⟨o, h⟩ := R7.al a h
            exact ⟨o, nk a o z h⟩
        · by_cases z : a = D
          · rw [z]; exact ⟨_, upd_same⟩
          · obtain ⟨o, h⟩ := R7.pa a h
            exact ⟨o, nk a o z h⟩
        · obtain ⟨v, h1, h2⟩ := R7.ent j c e
          refine ⟨v, h1, h2.mv (fun a o h n => nk a o (fun z => n (.inr z)) h) (fun _ s => .inl s) (fun _ s => s) fun p o hv hc u hu => nk p u (fun z => ?_) hu⟩
          subst hv hc
          obtain ⟨p', e', _, _, _, np, _⟩ := h2
          cases e'
          exact np (.inr z)
        · obtain ⟨z1, z2, z3, z4, z5, z6⟩ := R7.src a c h
          exact ⟨z1, z2, z3, z4, z5, z6.mv (fun u hu => nk a u (fun z => z4 (.inr z)) hu) fun u hu => nk c u (fun z => z5 (.inr z)) hu⟩
      · have fr6 := toC fr5 f6
        exact fun a o h n => by
          rw [upd_ne (show a ≠ D from fun z => by rw [z, hD] at h; cases h)]
          exact fr6 a o h n
  · have e : i = ds.length := by omega
    subst e
    refine .inl ⟨W.st _ H2 hv2, ?_⟩
    have R3 : RS K C (fun a => S a ∨ a = D) (L2.wipe σ vs) H2 ρ2 := R2.unprot.unpin.1
    have own3 : ∀ (i : Nat) o p, ρ2[i]? = some (some (.own o)) → (L2.wipe σ vs)[i]? = some (some (.ref p)) → S p := fun i o p h1 h2 => by
      obtain ⟨v, e1, p', rfl, s1, _, _, np, _⟩ := R2.ent i _ h1
      rw [h2] at e1
      cases e1
      exact s1.elim id fun z => absurd (show ((C.pin vs').prot D).pr p from .inr z) np
    have R4 : RS K C S (L2.wipe σ vs) H2 ρ2 := R3.less (fun a h => .inl h) (fun a h => (R1.a0 a h).1) (fun a h => (R1.mS h).1) own3
    refine f D H2 _ _ (f1.trans fr) (R1.merge (fun a o h n => fr a o h (.inl n)) no R4) ?_ (freshAt f1 R1 hD) (.lst eD ra) (hend dacc ρ2 hI)
    refine (R1.new (u := .lst []) hD).merge (fun a o h n => ?_) no R3
    have nz : a ≠ D := fun z => n (.inr z)
    rw [upd_ne nz] at h
    exact fr a o h (.inl fun s => n (.inl s))
end
end Gw
namespace Gw
open PySem PySem.Spec PyProof.Rows L2

section
variable {X : Cx} {K : PySem.W.Frag} {a b c : Expr} {es : List Expr} {g ga gb : DTE} {l : DTA} {pos p : Pos}
/-! ## comprehensions, as rules -/
structure DTs (X : Cx) (ifs : List Expr) (g : DTT) : Prop where
  can : PTs X ifs (tT X.K g)
theorem dtsnil : DTs X [] gYes := ⟨⟨fun pins s σ H Q I q => by
  obtain ⟨C, S, ρ, Q', R, q, f⟩ := q
  exact pts_nil.run pins s σ H Q I (f true H ρ .refl R q)⟩⟩
theorem dtsone {c : Expr} {g : DTT} (h : DT X c g) : DTs X [c] g := ⟨pts_one h.can⟩
theorem simE_can (g : DTE) : SimE K (tE K g) g := fun C S σ H ρ Q k R q f => ⟨C, S, ρ, Q, R, q, f⟩
theorem dlc {elt tg iter : Expr} {ifs : List Expr} {scope : Scope} {own : List (Str × Nat)} {gi : DTI} {gd : DTG} {is : List Nat} {gt : DTT} {ge : DTE} (hc : X.calm = true) (hN : X.N.Nodup) (hi : DI X tg iter gi) (ok : BlkOk X.N X.env.scope scope own)
    (hg : ∀ (s : Shared) (H : Hp) (C : Addr) (cl : List (Str × Addr)) (fp : List Addr), DG (X.blk s H scope (compEnvC scope cl C X.env) fp) tg gd is true)
    (ht : ∀ (s : Shared) (H : Hp) (C : Addr) (cl : List (Str × Addr)) (fp : List Addr), DTs (X.blk s H scope (compEnvC scope cl C X.env) fp) ifs gt)
    (he : ∀ (s : Shared) (H : Hp) (C : Addr) (cl : List (Str × Addr)) (fp : List Addr), DE (X.blk s H scope (compEnvC scope cl C X.env) fp) elt ge)
    (hsub : ∀ i ∈ is, i ∈ own.map (·.2) := by decide) (hs : ∀ x, foldedSetIterable iter X.env x = pure x := by intro _; rfl) :
    DF X (.ListComp elt [⟨tg, iter, ifs, 0⟩] scope pos) (gLc gi gd gt ge (own.map (·.2))) := by
  obtain ⟨wi, pi, si⟩ := hi.ex
  exact ⟨_, pe_lc hc hN pi ok (fun s H C cl fp => (hg s H C cl fp).can) (fun s H C cl fp => (ht s H C cl fp).can) (fun s H C cl fp => (he s H C cl fp).can) hs, simLc si hsub⟩

/-! ## statements -/
def gSet (i : Nat) (g : DTE) : DTS := fun G ρ => g ρ fun d ρ1 => G.nx (ρ1.set i (some (.dat d)))
def gSetO (i : Nat) (g : DTE) : DTS := fun G ρ => g ρ fun d ρ1 => G.nx (ρ1.set i (some (.own d)))
theorem simSet {t : TE} (i : Nat) (h : SimE K t g) : SimS K (tAsg t (gName i)) (gSet i g) := fun C S σ H ρ E G R q n r b c => h C S σ H ρ _ _ R q fun v H' d ρ' f1 R1 r1 q1 => n S _ H' _ (R1.setD r1) q1
theorem simSetO {t : TE} (i : Nat) (h : SimF K t g) : SimS K (tAsg t (gName i)) (gSetO i g) := fun C S σ H ρ E G R q n r b c => h C S σ H ρ _ _ R q fun p H' d ρ' f1 R1 R2 hp o q1 => by
  have nS := R.notS hp
  obtain ⟨h0, hM⟩ := R.free0 hp
  exact n _ _ H' _ (R2.setS (c := .own d) ⟨p, rfl, .inr rfl, h0, hM, R.notP hp, o⟩ fun o' p' e1 e2 j o2 _ h1 h2 => by
      cases e1
      cases e2
      exact R1.apart nS j o2 h1 h2) q1
theorem dset (i : Nat) {x : Str} {pos' : Pos} (hN : X.N.Nodup) (h : DE X a g) (hi : X.N[i]? = some x := by rfl) (hx : Loc X.env.scope x := by first | exact Or.inl rfl | exact Or.inr rfl) (hs : swapsWith a (some (.Name x pos')) pos.line X.env = pure false := by rfl) (hf : X.fn x = true ∨ X.env.scope.names.lookup x = some .local := by first | exact .inl rfl | exact .inr rfl | assumption) : DS X (.Assign [.Name x pos'] a pos) (gSet i g) := by
  obtain ⟨t, p, s⟩ := h.ex
  exact ⟨_, ps_set hN hi hx p hs hf, simSet i s⟩
theorem dsetO (i : Nat) {x : Str} {pos' : Pos} (hN : X.N.Nodup) (h : DF X a g) (hi : X.N[i]? = some x := by rfl) (hx : Loc X.env.scope x := by first | exact Or.inl rfl | exact Or.inr rfl) (hs : swapsWith a (some (.Name x pos')) pos.line X.env = pure false := by rfl) (hf : X.fn x = true ∨ X.env.scope.names.lookup x = some .local := by first | exact .inl rfl | exact .inr rfl | assumption) : DS X (.Assign [.Name x pos'] a pos) (gSetO i g) := by
  obtain ⟨t, p, s⟩ := h.ex
  exact ⟨_, ps_set hN hi hx p hs hf, simSetO i s⟩
/-- name = [..] on one line, the name a local of the def -/
theorem dsetLcO (i : Nat) {y : Str} {py spos : Pos} {elt tg iter : Expr} {ifs : List Expr} {scope : Scope} {own : List (Str × Nat)} {gi : DTI} {gd : DTG} {is : List Nat} {gt : DTT} {ge : DTE} (hc : X.calm = true) (hN : X.N.Nodup)
    (hsw : swapsWith (.ListComp elt [⟨tg, iter, ifs, 0⟩] scope pos) (some (.Name y py)) spos.line X.env = pure true) (hi : DI X tg iter gi) (ok : BlkOk X.N X.env.scope scope own)
    (hg : ∀ (s : Shared) (H : Hp) (C : Addr) (cl : List (Str × Addr)) (fp : List Addr), DG (X.blk s H scope (compEnvC scope cl C X.env) fp) tg gd is true)
    (ht : ∀ (s : Shared) (H : Hp) (C : Addr) (cl : List (Str × Addr)) (fp : List Addr), DTs (X.blk s H scope (compEnvC scope cl C X.env) fp) ifs gt)
    (he : ∀ (s : Shared) (H : Hp) (C : Addr) (cl : List (Str × Addr)) (fp : List Addr), DE (X.blk s H scope (compEnvC scope cl C X.env) fp) elt ge)
    (hy : X.N[i]? = some y := by rfl) (hyl : X.env.scope.names.lookup y = some .local := by rfl)
    (hsub : ∀ i ∈ is, i ∈ own.map (·.2) := by decide) (hs : ∀ x, foldedSetIterable iter X.env x = pure x := by intro _; rfl) :
    DS X (.Assign [.Name y py] (.ListComp elt [⟨tg, iter, ifs, 0⟩] scope pos) spos) (gSetO i (gLc gi gd gt ge (own.map (·.2)))) := by
  obtain ⟨wi, pi, si⟩ := hi.ex
  exact ⟨_, ps_setLc hc hN hy hyl hsw pi ok (fun s H C cl fp => (hg s H C cl fp).can) (fun s H C cl fp => (ht s H C cl fp).can) (fun s H C cl fp => (he s H C cl fp).can) hs, simSetO i (simLc si hsub)⟩
theorem gSetO_dat {t : TE} (i : Nat) (h : SimF K t g) : SimS K (tAsg t (gName i)) (gSet i g) := simSet i (fun C S σ H ρ Q k R q f => h C S σ H ρ Q k R q fun p H' d ρ' f1 f2 _ f3 f4 f5 => f _ H' d ρ' f1 f2 (obSub R f3 f4) f5)
theorem dsetLc (i : Nat) {y : Str} {py spos : Pos} {elt tg iter : Expr} {ifs : List Expr} {scope : Scope} {own : List (Str × Nat)} {gi : DTI} {gd : DTG} {is : List Nat} {gt : DTT} {ge : DTE} (hc : X.calm = true) (hN : X.N.Nodup)
    (hsw : swapsWith (.ListComp elt [⟨tg, iter, ifs, 0⟩] scope pos) (some (.Name y py)) spos.line X.env = pure true) (hi : DI X tg iter gi) (ok : BlkOk X.N X.env.scope scope own)
    (hg : ∀ (s : Shared) (H : Hp) (C : Addr) (cl : List (Str × Addr)) (fp : List Addr), DG (X.blk s H scope (compEnvC scope cl C X.env) fp) tg gd is true)
    (ht : ∀ (s : Shared) (H : Hp) (C : Addr) (cl : List (Str × Addr)) (fp : List Addr), DTs (X.blk s H scope (compEnvC scope cl C X.env) fp) ifs gt)
    (he : ∀ (s : Shared) (H : Hp) (C : Addr) (cl : List (Str × Addr)) (fp : List Addr), DE (X.blk s H scope (compEnvC scope cl C X.env) fp) elt ge)
    (hy : X.N[i]? = some y := by rfl) (hyl : X.env.scope.names.lookup y = some .local := by rfl)
    (hsub : ∀ i ∈ is, i ∈ own.map (·.2) := by decide) (hs : ∀ x, foldedSetIterable iter X.env x = pure x := by intro _; rfl) :
    DS X (.Assign [.Name y py] (.ListComp elt [⟨tg, iter, ifs, 0⟩] scope pos) spos) (gSet i (gLc gi gd gt ge (own.map (·.2)))) := by
  obtain ⟨wi, pi, si⟩ := hi.ex
  exact ⟨_, ps_setLc hc hN hy hyl hsw pi ok (fun s H C cl fp => (hg s H C cl fp).can) (fun s H C cl fp => (ht s H C cl fp).can) (fun s H C cl fp => (he s H C cl fp).can) hs, gSetO_dat i (simLc si hsub)⟩

/-! ### any target -/
def gAsg (g : DTE) (gd : DTG) : DTS := fun G ρ => g ρ fun d ρ1 => gd d ρ1 G.nx
theorem dasg {tg : Expr} {gd : DTG} {is : List Nat} {w : Bool} (h : DE X a g) (hg : DG X tg gd is w) (hs : swapsWithSole [tg] a pos.line X.env = pure false := by rfl) (hw : swappedStores [tg] a X.env = pure none := by rfl)
    (h1 : (assignEach [tg] X.env).map (·.2) = [assign tg X.env] := by rfl) : DS X (.Assign [tg] a pos) (gAsg g gd) := by
  obtain ⟨t, p, s⟩ := h.ex
  obtain ⟨tg', pg, sg⟩ := hg.ex
  exact ⟨_, ps_asg p pg hs hw h1, fun C S σ H ρ E G R q n r b c => s C S σ H ρ _ _ R q fun v H' d ρ' f1 R1 r1 q1 => sg C S σ H' ρ' _ _ _ _ R1 r1 q1 fun σ2 H2 ρ2 f2 R2 _ q2 => n S σ2 H2 ρ2 R2 q2⟩
/-- own[k] = .. -/
def gdSub (i : Nat) (gk : DTE) : DTG := fun d ρ Q => (∃ ds, lk ρ i = some (.own (.list ds))) ∧ gk ρ fun kd ρ1 => ∃ k j ds, kd = .int k ∧ lk ρ1 i = some (.own (.list ds)) ∧ ixN ds.length k = some j ∧ Q (ρ1.set i (some (.own (.list (ds.set j d)))))
theorem RS.ownL {C : Ctx} {S : Vol} {σ : VStore} {H : Hp} {ρ : Rho} {i : Nat} {ds : List D} (R : RS K C S σ H ρ) (h : lk ρ i = some (.own (.list ds))) : ∃ p xs, σ[i]? = some (some (.ref p)) ∧ S p ∧ H p = some (.lst xs) ∧ RpA K S H xs ds := by
  obtain ⟨p, e, s, o⟩ := R.own (lk_get h)
  cases o with
  | lst e2 r => exact ⟨p, _, e, s, e2, r⟩
theorem dgsub (i : Nat) {x : Str} {px : Pos} {k : Expr} {gk : DTE} (hk : DE X k gk) (hN : X.N[i]? = some x := by rfl) (hv : Vis X.env.scope x := by first | exact Or.inl rfl | exact Or.inr (Or.inl rfl) | exact Or.inr (Or.inr rfl))
    (hd : (x == ("__debug__" : Str)) = false := by decide) (hcd : (x == ("__classdict__" : Str)) = false := by decide)
    (ha : ∀ v, assign (.Subscript (.Name x px) k pos) X.env v = (do
      let ov ← holding [v] (eval (.Name x px) X.env)
      let iv ← holding [v, ov] (eval k X.env)
      standAt pos
      holding [v, ov, iv] (setItem ov iv v)
      release [v, ov, iv] []) := by intro _; rfl) : DG X (.Subscript (.Name x px) k pos) (gdSub i gk) [] false := by
  obtain ⟨t, p, s⟩ := hk.ex
  refine ⟨_, pg_sub (pe_var hN hv hd hcd) p set_list ha, fun C S σ H ρ v d Q k R rv q f => ?_⟩
  obtain ⟨⟨ds0, e0⟩, q⟩ := q
  obtain ⟨p0, xs0, f0, _, _, _⟩ := R.ownL e0
  refine ⟨_, f0, s C S σ H ρ _ _ R q fun w H1 kd ρ1 f1 R1 r1 q1 => ?_⟩
  obtain ⟨kk, j, ds, rfl, e1, hj, q1⟩ := q1
  obtain ⟨p1, xs, g1, sp, e2, r2⟩ := R1.ownL e1
  rw [f0] at g1
  cases g1
  cases r1
  refine ⟨p0, xs, kk, j, rfl, rfl, e2, by rw [r2.len]; exact hj, ?_⟩
  refine f σ _ _ (f1.trans (R1.writeFr (lk_get e1) f0)) (R1.write (lk_get e1) f0 (.lst upd_same ((r2.wr sp).set ((f1.rp rv).wr sp) j))) (fun z => nomatch z) q1
end
end Gw
namespace Gw
open PySem PySem.Spec PyProof.Rows L2

section
variable {X : Cx} {K : PySem.W.Frag} {a b c : Expr} {es : List Expr} {g ga gb : DTE} {l : DTA} {pos p : Pos}
/-! ## several names at once -/
abbrev DTC := Rho → (List Cl → Rho → Prop) → Prop
def SimC (K : PySem.W.Frag) (t : TA) (g : DTC) : Prop := ∀ (C : Ctx) (S : Vol) (σ : VStore) (H : Hp) (ρ : Rho) (Q : List Cl → Rho → Prop) (k : List V → Hp → Prop), RS K C S σ H ρ → g ρ Q →
  (∀ vs S' H' cls ρ', (∀ a, S a → S' a) → (∀ a, S' a → S a ∨ H a = none) → Fr C S H H' → RS K C S' σ H' ρ' → vs.length = cls.length → (∀ (i : Nat) v c, vs[i]? = some v → cls[i]? = some c → EntOk K C S' H' v c) →
    (∀ (i j : Nat) o o' q, i ≠ j → cls[i]? = some (.own o) → cls[j]? = some (.own o') → vs[i]? = some (.ref q) → vs[j]? = some (.ref q) → False) →
    (∀ (i : Nat) o q, cls[i]? = some (.own o) → vs[i]? = some (.ref q) → ∀ (j : Nat) o', ρ'[j]? = some (some (.own o')) → σ[j]? ≠ some (some (.ref q))) → Q cls ρ' → k vs H') → t σ H k
structure DC (X : Cx) (es : List Expr) (g : DTC) : Prop where
  ex : ∃ t, PA X es t ∧ SimC X.K t g
def gcNil : DTC := fun ρ Q => Q [] ρ
def gcDat (g : DTE) (l : DTC) : DTC := fun ρ Q => g ρ fun d ρ1 => l ρ1 fun cs ρ2 => Q (.dat d :: cs) ρ2
def gcOwn (g : DTE) (l : DTC) : DTC := fun ρ Q => g ρ fun d ρ1 => l ρ1 fun cs ρ2 => Q (.own d :: cs) ρ2
theorem dcnil : DC X [] gcNil := ⟨_, pa_nil, fun C S σ H ρ Q k R q f => f [] S H [] ρ (fun _ h => h) (fun _ h => .inl h) .refl R rfl (fun i v c h => by simp at h) (fun i j o o' q _ h => by simp at h) (fun i o q h => by simp at h) q⟩
theorem dcdat {l : DTC} (ha : DE X a g) (hr : DC X es l) (hs : starEach (a :: es) X.env = (false, eval a X.env) :: starEach es X.env := by rfl) : DC X (a :: es) (gcDat g l) := by
  obtain ⟨_, p1, q1⟩ := ha.ex
  obtain ⟨_, p2, q2⟩ := hr.ex
  refine ⟨_, pa_cons p1 p2 hs, fun C S σ H ρ Q k R q f => q1 C S σ H ρ _ _ R q fun v H1 d ρ1 f1 R1 r1 h => q2 C S σ H1 ρ1 _ _ R1 h fun vs S2 H2 cs ρ2 sg sn f2 R2 hl he hd hp h2 => ?_⟩
  refine f (v :: vs) S2 H2 (.dat d :: cs) ρ2 sg (fun a h => (sn a h).imp id fun z => freshAt f1 R1 z) (f1.trans f2) R2 (by simp [hl]) (fun i v' c h1 h2 => ?_) (fun i j o o' q hij h1 h2 h3 h4 => ?_) (fun i o q h1 h2 => ?_) h2
  · cases i with
    | zero =>
      cases h1
      cases h2
      exact Rp.mv (fun a o h n => f2 a o h (.inl n)) sn r1
    | succ i => exact he i v' c (by simpa using h1) (by simpa using h2)
  · cases i with
    | zero => cases h1
    | succ i =>
      cases j with
      | zero => cases h2
      | succ j => exact hd i j o o' q (fun z => hij (congrArg (· + 1) z)) (by simpa using h1) (by simpa using h2) (by simpa using h3) (by simpa using h4)
  · cases i with
    | zero => cases h1
    | succ i => exact hp i o q (by simpa using h1) (by simpa using h2)
theorem dcown {l : DTC} (ha : DF X a g) (hr : DC X es l) (hs : starEach (a :: es) X.env = (false, eval a X.env) :: starEach es X.env := by rfl) : DC X (a :: es) (gcOwn g l) := by
  obtain ⟨_, p1, q1⟩ := ha.ex
  obtain ⟨_, p2, q2⟩ := hr.ex
  refine ⟨_, pa_cons p1 p2 hs, fun C S σ H ρ Q k R q f => q1 C S σ H ρ _ _ R q fun z H1 d ρ1 f1 R1 R1' hz o1 h => ?_⟩
  have nS := R.notS hz
  obtain ⟨z0, zM⟩ := R.free0 hz
  have nP := R.notP hz
  have Rp1 : RS X.K (C.prot z) (fun a => S a ∨ a = z) σ H1 ρ1 := R1'.prot (R1.apart nS) zM o1.there
  refine q2 (C.prot z) _ σ H1 ρ1 _ _ Rp1 h fun vs S2 H2 cs ρ2 sg sn f2 R2 hl he hd hp h2 => ?_
  have keep : ∀ u, H1 z = some u → H2 z = some u := fun u e => f2 z u e (.inr (.inr rfl))
  have neq : ∀ (i : Nat) o q, cs[i]? = some (.own o) → vs[i]? = some (.ref q) → q ≠ z := fun i o q h1 h2 e => by
    obtain ⟨p', e', _, _, _, np, _⟩ := he i _ _ h2 h1
    cases e'
    exact np (.inr e)
  have he' : ∀ (i : Nat) v c, vs[i]? = some v → cs[i]? = some c → EntOk X.K C S2 H2 v c := fun i v c h1 h2 => by
    have := he i v c h1 h2
    cases c with
    | dat d => exact this
    | own d =>
      obtain ⟨p', e', s1, s2, s3, s4, s5⟩ := this
      exact ⟨p', e', s1, s2, s3, fun z => s4 (.inl z), s5⟩
    | srcR => exact this
  refine f (.ref z :: vs) S2 H2 (.own d :: cs) ρ2 (fun a h => sg a (.inl h)) (fun a h => (sn a h).elim (fun z' => z'.imp id fun e => by rw [e]; exact hz) fun z' => .inr (freshAt f1 R1 z')) ?_ R2.unprot (by simp [hl]) (fun i v' c h1 h2 => ?_) (fun i j o o' q hij h1 h2 h3 h4 => ?_) (fun i o q h1 h2 j o2 h3 h4 => ?_) h2
  · exact fun a o h n => f2 a o (f1 a o h n) (n.elim (fun n => .inl fun s => s.elim n fun e => by rw [e, hz] at h; cases h) fun n => .inr (.inl n))
  · cases i with
    | zero =>
      cases h1
      cases h2
      exact ⟨z, rfl, sg z (.inr rfl), z0, zM, nP, o1.mv keep (fun a o h n => f2 a o h (.inl n)) sn⟩
    | succ i => exact he' i v' c (by simpa using h1) (by simpa using h2)
  · cases i with
    | zero =>
      cases h3
      cases j with
      | zero => exact hij rfl
      | succ j => exact neq j o' _ (by simpa using h2) (by simpa using h4) rfl
    | succ i =>
      cases j with
      | zero =>
        cases h4
        exact neq i o _ (by simpa using h1) (by simpa using h3) rfl
      | succ j => exact hd i j o o' q (fun z => hij (congrArg (· + 1) z)) (by simpa using h1) (by simpa using h2) (by simpa using h3) (by simpa using h4)
  · cases i with
    | zero =>
      cases h2
      obtain ⟨v, e1, p', rfl, _, _, _, np, _⟩ := R2.ent j _ h3
      rw [h4] at e1
      cases e1
      exact np (.inr rfl)
    | succ i => exact hp i o q (by simpa using h1) (by simpa using h2) j o2 h3 h4
def gPar2 (i j : Nat) (l : DTC) : DTS := fun G ρ => l ρ fun cs ρ1 => match cs with | [u, v] => G.nx ((ρ1.set i (some u)).set j (some v)) | _ => False
def gPar3 (i j k : Nat) (l : DTC) : DTS := fun G ρ => l ρ fun cs ρ1 => match cs with | [u, v, w] => G.nx (((ρ1.set i (some u)).set j (some v)).set k (some w)) | _ => False
theorem len2 {α : Type} {xs : List α} (h : xs.length = 2) : ∃ a b, xs = [a, b] := by
  match xs, h with
  | [a, b], _ => exact ⟨a, b, rfl⟩
theorem len3 {α : Type} {xs : List α} (h : xs.length = 3) : ∃ a b c, xs = [a, b, c] := by
  match xs, h with
  | [a, b, c], _ => exact ⟨a, b, c, rfl⟩
theorem dpar2 (i j : Nat) {x y : Str} {px py pt : Pos} {kt k2 pt2} {l : DTC} (hc : X.calm = true) (hN : X.N.Nodup) (ha : DC X [a, b] l) (hw : swappedStores [.Tuple [.Name x px, .Name y py] kt pt] (.Tuple [a, b] k2 pt2) X.env = pure (some [x, y]))
    (hi : X.N[i]? = some x := by rfl) (hj : X.N[j]? = some y := by rfl) (hij : i ≠ j := by decide) (hx : X.env.scope.names.lookup x = some .local := by rfl) (hy : X.env.scope.names.lookup y = some .local := by rfl)
    (hs : swapsWithSole [.Tuple [.Name x px, .Name y py] kt pt] (.Tuple [a, b] k2 pt2) pos.line X.env = pure false := by rfl) :
    DS X (.Assign [.Tuple [.Name x px, .Name y py] kt pt] (.Tuple [a, b] k2 pt2) pos) (gPar2 i j l) := by
  obtain ⟨t, p, s⟩ := ha.ex
  refine ⟨_, ps_par hc hN hi hj hij hx hy p hw hs, fun C S σ H ρ E G R q n r b c => s C S σ H ρ _ _ R q fun vs S' H' cls ρ' sg sn f1 R1 hl he hd hp q1 => ?_⟩
  match cls, q1, hl, he, hd, hp with
  | [u, w], q1, hl, he, hd, hp =>
    obtain ⟨v1, v2, rfl⟩ := len2 hl
    refine ⟨v1, v2, rfl, n S' _ H' _ (RS.setS (RS.setS R1 (he 0 v1 u rfl rfl) ?_) (he 1 v2 w rfl rfl) ?_) q1⟩
    · intro o q e1 e2 k o' _ h1 h2
      subst e1 e2
      exact hp 0 o q rfl rfl k o' h1 h2
    · intro o q e1 e2 k o' hk h1 h2
      subst e1 e2
      by_cases hki : i = k
      · subst hki
        have hlt : i < ρ'.length := by
          obtain ⟨h, _⟩ := List.getElem?_eq_some_iff.mp h1
          simpa using h
        rw [List.getElem?_set_self hlt] at h1
        rw [List.getElem?_set_self (by rw [R1.len]; exact hlt)] at h2
        cases h1
        cases h2
        exact hd 0 1 o' o q (by decide) rfl rfl rfl rfl
      · rw [List.getElem?_set_ne hki] at h1 h2
        exact hp 1 o q rfl rfl k o' h1 h2
theorem dpar3 (i j k : Nat) {x y z : Str} {px py pz pt : Pos} {kt k2 pt2} {l : DTC} (hc : X.calm = true) (hN : X.N.Nodup) (ha : DC X [a, b, c] l) (hw : swappedStores [.Tuple [.Name x px, .Name y py, .Name z pz] kt pt] (.Tuple [a, b, c] k2 pt2) X.env = pure (some [x, y, z]))
    (hi : X.N[i]? = some x := by rfl) (hj : X.N[j]? = some y := by rfl) (hk : X.N[k]? = some z := by rfl) (hij : i ≠ j := by decide) (hik : i ≠ k := by decide) (hjk : j ≠ k := by decide) (hx : X.env.scope.names.lookup x = some .local := by rfl) (hy : X.env.scope.names.lookup y = some .local := by rfl) (hz : X.env.scope.names.lookup z = some .local := by rfl)
    (hs : swapsWithSole [.Tuple [.Name x px, .Name y py, .Name z pz] kt pt] (.Tuple [a, b, c] k2 pt2) pos.line X.env = pure false := by rfl) :
    DS X (.Assign [.Tuple [.Name x px, .Name y py, .Name z pz] kt pt] (.Tuple [a, b, c] k2 pt2) pos) (gPar3 i j k l) := by
  obtain ⟨t, p, s⟩ := ha.ex
  refine ⟨_, ps_par3 hc hN hi hj hk hij hik hjk hx hy hz p hw hs, fun C S σ H ρ E G R q n r b c => s C S σ H ρ _ _ R q fun vs S' H' cls ρ' sg sn f1 R1 hl he hd hp q1 => ?_⟩
  match cls, q1, hl, he, hd, hp with
  | [u, w, m], q1, hl, he, hd, hp =>
    obtain ⟨v1, v2, v3, rfl⟩ := len3 hl
    have R2 : RS X.K C S' (σ.set i (some v1)) H' (ρ'.set i (some u)) := RS.setS R1 (he 0 v1 u rfl rfl) (by
      intro o q e1 e2 k o' _ h1 h2
      subst e1 e2
      exact hp 0 o q rfl rfl k o' h1 h2)
    have atset : ∀ {τ : VStore} {ν : Rho} {i : Nat} {v : V} {cl : Cl} {o : D} {q : Addr}, τ.length = ν.length → (ν.set i (some cl))[i]? = some (some (.own o)) → (τ.set i (some v))[i]? = some (some (.ref q)) → cl = .own o ∧ v = .ref q := fun {τ ν i v cl o q} hl h1 h2 => by
      have hlt : i < ν.length := by
        obtain ⟨h, _⟩ := List.getElem?_eq_some_iff.mp h1
        simpa using h
      rw [List.getElem?_set_self hlt] at h1
      rw [List.getElem?_set_self (by rw [hl]; exact hlt)] at h2
      cases h1
      cases h2
      exact ⟨rfl, rfl⟩
    have R3 : RS X.K C S' ((σ.set i (some v1)).set j (some v2)) H' ((ρ'.set i (some u)).set j (some w)) := RS.setS R2 (he 1 v2 w rfl rfl) (by
      intro o q e1 e2 k' o' hk' h1 h2
      subst e1 e2
      by_cases hki : i = k'
      · subst hki
        obtain ⟨e3, e4⟩ := atset R1.len h1 h2
        subst e3 e4
        exact hd 0 1 o' o q (by decide) rfl rfl rfl rfl
      · rw [List.getElem?_set_ne hki] at h1 h2
        exact hp 1 o q rfl rfl k' o' h1 h2)
    refine ⟨v1, v2, v3, rfl, n S' _ H' _ (RS.setS R3 (he 2 v3 m rfl rfl) ?_) q1⟩
    intro o q e1 e2 k' o' hk' h1 h2
    subst e1 e2
    by_cases hkj : j = k'
    · subst hkj
      obtain ⟨e3, e4⟩ := atset R2.len h1 h2
      subst e3 e4
      exact hd 1 2 o' o q (by decide) rfl rfl rfl rfl
    · rw [List.getElem?_set_ne hkj] at h1 h2
      by_cases hki : i = k'
      · subst hki
        obtain ⟨e3, e4⟩ := atset R1.len h1 h2
        subst e3 e4
        exact hd 0 2 o' o q (by decide) rfl rfl rfl rfl
      · rw [List.getElem?_set_ne hki] at h1 h2
        exact hp 2 o q rfl rfl k' o' h1 h2

/-! ## an own list's methods -/
theorem visName (i : Nat) {x : Str} (hN : X.N[i]? = some x) (hv : Vis X.env.scope x) (hd : (x == ("__debug__" : Str)) = false) (hcd : (x == ("__classdict__" : Str)) = false) : PE X (.Name x pos) (tVar i) := pe_var hN hv hd hcd
theorem tyList {C : Ctx} {S : Vol} {σ : VStore} {H : Hp} {ρ : Rho} {i : Nat} {ds : List D} (R : RS K C S σ H ρ) (h : lk ρ i = some (.own (.list ds))) : ∃ q, σ[i]? = some (some (.ref q)) ∧ tyV K "list" (.ref q) H := by
  obtain ⟨q, xs, e, _, h2, _⟩ := R.ownL h
  exact ⟨q, e, .inl ⟨rfl, xs, .of h2⟩⟩
/-- x.append(e) -/
def gApp (i : Nat) (g : DTE) : DTS := fun G ρ => (∃ ds, lk ρ i = some (.own (.list ds))) ∧ g ρ fun d ρ1 => ∃ ds, lk ρ1 i = some (.own (.list ds)) ∧ ds.length < 100000 ∧ G.nx (ρ1.set i (some (.own (.list (ds ++ [d])))))
theorem szLt {n : Nat} (h : n < 100000) : n < sizeLine := Nat.lt_of_lt_of_le h (by decide)
theorem dapp (i : Nat) {x : Str} {px apos cpos : Pos} {e : Expr} {g : DTE} (he : DE X e g) (hN : X.N[i]? = some x := by rfl) (hv : Vis X.env.scope x := by first | exact Or.inl rfl | exact Or.inr (Or.inl rfl) | exact Or.inr (Or.inr rfl))
    (hd : (x == ("__debug__" : Str)) = false := by decide) (hcd : (x == ("__classdict__" : Str)) = false := by decide) (hst : starEach [e] X.env = (false, eval e X.env) :: starEach [] X.env := by rfl)
    (hbase : attributeBase (.Name x px) "append" X.env (eval (.Name x px) X.env) = eval (.Name x px) X.env := by rfl)
    (hfew : ((backTo cpos (starEach [e] X.env)).all (fun x => !x.1) && (backToKw cpos (keywordEach [] X.env)).all (fun x => x.1.isSome)
      && decide ([e].length + ([] : List Keyword).length + (if ([] : List Keyword).isEmpty then 0 else 1) < 30)) = true := by rfl)
    (hline : (apos.endLine == cpos.line) = true := by rfl) (hplain : (backTo cpos (starEach [] X.env)).any (·.1) = false := by rfl)
    (hs : swapsWith (.Call (.Attribute (.Name x px) "append" apos) [e] [] cpos) none pos.line X.env = pure false := by rfl) : DS X (.Expr (.Call (.Attribute (.Name x px) "append" apos) [e] [] cpos) pos) (gApp i g) := by
  obtain ⟨t, q, s⟩ := he.ex
  refine ⟨_, ps_expr (pe_bm PySem.F.plainAttrs_list PySem.F.slot_list_append PySem.F.type_list_append mt_append (visName i hN hv hd hcd) (pa_cons q pa_nil hst) hbase hfew hline hst hplain) hs, fun C S σ H ρ E G R q n r b c => ?_⟩
  obtain ⟨⟨ds0, h0⟩, q⟩ := q
  obtain ⟨z, e0, ty⟩ := tyList R h0
  refine ⟨_, e0, ty, s C S σ H ρ _ _ R q fun v H1 d ρ1 f1 R1 r1 q1 => ?_⟩
  obtain ⟨ds, h1, hl, q1⟩ := q1
  obtain ⟨z', xs, e1, sz, e2, ra⟩ := R1.ownL h1
  rw [e0] at e1
  cases e1
  refine ⟨z, xs, v, rfl, rfl, e2, by rw [ra.len]; exact szLt hl, n S σ _ _ (R1.write (lk_get h1) e0 (.lst upd_same ((ra.wr sz).app (.one (r1.wr sz))))) q1⟩
/-- x.pop() -/
def gPop (i : Nat) : DTE := fun ρ Q => ∃ ds d, lk ρ i = some (.own (.list (ds ++ [d]))) ∧ Q d (ρ.set i (some (.own (.list ds))))
theorem dpop (i : Nat) {x : Str} {px apos cpos : Pos} (hN : X.N[i]? = some x := by rfl) (hv : Vis X.env.scope x := by first | exact Or.inl rfl | exact Or.inr (Or.inl rfl) | exact Or.inr (Or.inr rfl))
    (hd : (x == ("__debug__" : Str)) = false := by decide) (hcd : (x == ("__classdict__" : Str)) = false := by decide)
    (hbase : attributeBase (.Name x px) "pop" X.env (eval (.Name x px) X.env) = eval (.Name x px) X.env := by rfl)
    (hline : (apos.endLine == cpos.line) = true := by rfl) : DE X (.Call (.Attribute (.Name x px) "pop" apos) [] [] cpos) (gPop i) := by
  refine ⟨_, pe_bm0 PySem.F.plainAttrs_list PySem.F.slot_list_pop PySem.F.type_list_pop mt_pop (visName i hN hv hd hcd) hbase hline, fun C S σ H ρ Q k R q f => ?_⟩
  obtain ⟨ds, d, h0, q⟩ := q
  obtain ⟨z, e0, ty⟩ := tyList R h0
  obtain ⟨z', xs, e1, sz, e2, ra⟩ := R.ownL h0
  rw [e0] at e1
  cases e1
  have hl := ra.len
  rw [List.length_append, List.length_singleton] at hl
  have hd : (ds ++ [d])[xs.length - 1]? = some d := by
    rw [hl]; simp
  obtain ⟨v, hv, rv⟩ := ra.get hd
  have rt : RpA X.K S H xs.dropLast ds := by
    have := ra.take ds.length
    rw [List.take_left', List.dropLast_eq_take, hl] at *
    · simpa using this
    · rfl
  refine ⟨_, e0, ty, z, xs, v, rfl, rfl, e2, hv, ?_⟩
  exact f v _ d _ (R.writeFr (lk_get h0) e0) (R.write (lk_get h0) e0 (.lst upd_same (rt.wr sz))) (rv.wr sz) q
/-- x += ys, ys wherever it stands -/
def rExtX (K : PySem.W.Frag) : R2 := fun x y H Q => ∃ l b xs zs, x = .ref l ∧ y = .ref b ∧ H l = some (.lst xs) ∧ Lx K H b zs ∧ xs.length + zs.length ≤ sizeLine ∧ Q (.ref l) (upd H l (.lst (xs ++ zs)))
theorem iop_extX {X : Cx} : OpR X (inplaceOp .Add) (rExtX X.K) := by
  rintro pins s σ H x y v u Q I rx ry ⟨l, b, xs, zs, rfl, rfl, hl, hb, hz, q⟩
  cases rx
  cases ry
  obtain ⟨_, is, n, r1, e1, o1⟩ := I.lstM hl
  obtain ⟨_, js, m, r2, e2, o2⟩ := lxAt I hb
  have z1 : is.toArray.size + js.toArray.size ≤ sizeLine := by simp only [List.size_toArray]; omega
  have z2 : ¬ (!is.toArray.isEmpty && Builtin.List.listTooLong (is.toArray.size + js.toArray.size)) = true := by rw [notLongL z1]; simp
  refine iadd_road ⟨_, o1, rfl⟩ ⟨_, o2, rfl⟩ (call_meets PySem.F.slot_list_iadd ⟨_, o1, rfl⟩ PySem.F.entry_list_iadd (PySem.F.args_list_iadd_2 _ _) (AutoSeq1.list___iadd___list_list_0 l is.toArray n b js.toArray m z2 (by omega) (by omega)) ⟨o1, o2, ?_⟩)
  exact ⟨.ref l, _, I.lset (its' := is ++ js) (t' := s.toks) hl o1 (by simp) (r1.append r2) (by simp only [List.length_append]; omega), rfl, q⟩
/-- x.pop(k) -/
def gPopAt (i : Nat) (g : DTE) : DTE := fun ρ Q => (∃ ds, lk ρ i = some (.own (.list ds))) ∧ g ρ fun kd ρ1 => ∃ ds k d, kd = .int (k : Nat) ∧ lk ρ1 i = some (.own (.list ds)) ∧ k < 100000 ∧ ds[k]? = some d ∧ Q d (ρ1.set i (some (.own (.list (ds.eraseIdx k)))))
theorem seqIx {k n : Nat} (h : k < n) : seqIndex? (k : Int) n = some k := by
  unfold seqIndex?
  simp
  omega
theorem dpopAt (i : Nat) {x : Str} {px apos cpos : Pos} {e : Expr} {g : DTE} (he : DE X e g) (hN : X.N[i]? = some x := by rfl) (hv : Vis X.env.scope x := by first | exact Or.inl rfl | exact Or.inr (Or.inl rfl) | exact Or.inr (Or.inr rfl))
    (hd : (x == ("__debug__" : Str)) = false := by decide) (hcd : (x == ("__classdict__" : Str)) = false := by decide) (hst : starEach [e] X.env = (false, eval e X.env) :: starEach [] X.env := by rfl)
    (hbase : attributeBase (.Name x px) "pop" X.env (eval (.Name x px) X.env) = eval (.Name x px) X.env := by rfl)
    (hfew : ((backTo cpos (starEach [e] X.env)).all (fun x => !x.1) && (backToKw cpos (keywordEach [] X.env)).all (fun x => x.1.isSome)
      && decide ([e].length + ([] : List Keyword).length + (if ([] : List Keyword).isEmpty then 0 else 1) < 30)) = true := by rfl)
    (hline : (apos.endLine == cpos.line) = true := by rfl) (hplain : (backTo cpos (starEach [] X.env)).any (·.1) = false := by rfl) : DE X (.Call (.Attribute (.Name x px) "pop" apos) [e] [] cpos) (gPopAt i g) := by
  obtain ⟨t, q, s⟩ := he.ex
  refine ⟨_, pe_bm PySem.F.plainAttrs_list PySem.F.slot_list_pop PySem.F.type_list_pop mt_popAt (visName i hN hv hd hcd) (pa_cons q pa_nil hst) hbase hfew hline hst hplain, fun C S σ H ρ Q k R q f => ?_⟩
  obtain ⟨⟨ds0, h0⟩, q⟩ := q
  obtain ⟨z, e0, ty⟩ := tyList R h0
  refine ⟨_, e0, ty, s C S σ H ρ _ _ R q fun v H1 kd ρ1 f1 R1 r1 q1 => ?_⟩
  obtain ⟨ds, kk, d, rfl, h1, hk, hdk, q1⟩ := q1
  obtain ⟨z', xs, e1, sz, e2, ra⟩ := R1.ownL h1
  rw [e0] at e1
  cases e1
  cases r1
  obtain ⟨w, hw, rw'⟩ := ra.get hdk
  have hkl : kk < xs.length := (List.getElem?_eq_some_iff.mp hw).1
  refine ⟨z, xs, _, kk, w, rfl, rfl, e2, by omega, by omega, seqIx hkl, hw, ?_⟩
  exact f w _ d _ (f1.trans (R1.writeFr (lk_get h1) e0)) (R1.write (lk_get h1) e0 (.lst upd_same ((ra.wr sz).erase kk))) (rw'.wr sz) q1
/-- x += ys, two lists -/
def gExt (i : Nat) (g : DTE) : DTS := fun G ρ => (∃ ds, lk ρ i = some (.own (.list ds))) ∧ g ρ fun d ρ1 => ∃ ds es, d = .list es ∧ lk ρ1 i = some (.own (.list ds)) ∧ ds.length + es.length ≤ 100000 ∧ G.nx (ρ1.set i (some (.own (.list (ds ++ es)))))
theorem dext (i : Nat) {x : Str} {pos' : Pos} {e : Expr} {g : DTE} (hNd : X.N.Nodup) (he : DE X e g) (hN : X.N[i]? = some x := by rfl) (hx : Loc X.env.scope x := by first | exact Or.inl rfl | exact Or.inr rfl) (hf : X.fn x = true ∨ X.env.scope.names.lookup x = some .local := by first | exact .inl rfl | exact .inr rfl | assumption) :
    DS X (.AugAssign (.Name x pos') .Add e pos) (gExt i g) := by
  obtain ⟨t, q, s⟩ := he.ex
  refine ⟨_, ps_aug hNd hN hx q (ti := rExtX X.K) iop_extX hf, fun C S σ H ρ E G R q n r b c => ?_⟩
  obtain ⟨⟨ds0, h0⟩, q⟩ := q
  obtain ⟨z, xs0, e0, _, _, _⟩ := R.ownL h0
  refine ⟨_, e0, s C S σ H ρ _ _ R q fun v H1 d ρ1 f1 R1 r1 q1 => ?_⟩
  obtain ⟨ds, es, rfl, h1, hl, q1⟩ := q1
  obtain ⟨z', xs, e1, sz, e2, ra⟩ := R1.ownL h1
  rw [e0] at e1
  cases e1
  cases r1 with
  | lst eb rb =>
    refine ⟨z, _, xs, _, rfl, rfl, e2, eb.lx, by rw [ra.len, rb.len]; exact szOf hl, ?_⟩
    have R2 := R1.write (lk_get h1) e0 (u := .lst (xs ++ _)) (.lst upd_same ((ra.wr sz).app (rb.wr sz)))
    refine n S _ _ _ ?_ q1
    have hlt := (List.getElem?_eq_some_iff.mp e0).1
    have es : σ.set i (some (.ref z)) = σ := by
      refine List.ext_getElem? fun j => ?_
      by_cases hj : i = j
      · subst hj; rw [List.getElem?_set_self hlt, e0]
      · rw [List.getElem?_set_ne hj]
    rw [es]
    exact R2
end
end Gw
namespace Gw
open PySem PySem.Spec PyProof.Rows L2

section
variable {X : Cx} {K : PySem.W.Frag} {a b c : Expr} {es : List Expr} {g ga gb : DTE} {l : DTA} {pos p : Pos} {st : Stmt} {sts : List Stmt} {T U : DTS}
/-! ## control flow -/
def gNext : DTS := fun G ρ => G.nx ρ
def gSeq (T U : DTS) : DTS := fun G ρ => T { G with nx := U G } ρ
def gRet (g : DTE) : DTS := fun G ρ => g ρ fun d ρ1 => G.rt d ρ1
def gRetO (i : Nat) : DTS := fun G ρ => ∃ d, lk ρ i = some (.own d) ∧ G.rt d (ρ.set i (some (.dat d)))
def gIfS (c : DTT) (T U : DTS) : DTS := fun G ρ => c ρ fun b ρ1 => if b = true then T G ρ1 else U G ρ1
def gDrop (g : DTE) : DTS := fun G ρ => g ρ fun _ ρ1 => G.nx ρ1
theorem dnil : DSs X [] gNext := ⟨_, pss_nil, fun C S σ H ρ E G R q n r b c => n S σ H ρ R q⟩
theorem dcons (h : DS X st T) (h2 : DSs X sts U) : DSs X (st :: sts) (gSeq T U) := by
  obtain ⟨_, p1, s1⟩ := h.ex
  obtain ⟨_, p2, s2⟩ := h2.ex
  exact ⟨_, pss_cons p1 p2, fun C S σ H ρ E G R q n r b c => s1 C S σ H ρ _ { G with nx := U G } R q (fun S' σ' H' ρ' R' q' => s2 C S' σ' H' ρ' E G R' q' n r b c) r b c⟩
theorem done1 (h : DS X st T) : DSs X [st] T := by
  obtain ⟨_, p1, s1⟩ := h.ex
  exact ⟨_, pss_one p1, s1⟩
theorem dret (h : DE X a g) : DS X (.Return (some a) pos) (gRet g) := by
  obtain ⟨_, p1, s1⟩ := h.ex
  exact ⟨_, ps_ret p1, fun C S σ H ρ E G R q n r b c => s1 C S σ H ρ _ _ R q fun v H' d ρ' f1 R1 r1 q1 => r S σ H' ρ' v d R1 r1 q1⟩
theorem dretO (i : Nat) {x : Str} {px : Pos} (hN : X.N[i]? = some x := by rfl) (hv : Vis X.env.scope x := by first | exact Or.inl rfl | exact Or.inr (Or.inl rfl) | exact Or.inr (Or.inr rfl))
    (hd : (x == ("__debug__" : Str)) = false := by decide) (hcd : (x == ("__classdict__" : Str)) = false := by decide) : DS X (.Return (some (.Name x px)) pos) (gRetO i) := by
  refine ⟨_, ps_ret (pe_var hN hv hd hcd), fun C S σ H ρ E G R q n r b c => ?_⟩
  obtain ⟨d, h0, q⟩ := q
  obtain ⟨z, e0, _, _⟩ := R.own (lk_get h0)
  obtain ⟨S', h1, h2, R'⟩ := R.freeze (lk_get h0)
  obtain ⟨v, e1, rv⟩ := R'.ent i (.dat d) (by
    rw [List.getElem?_set_self (List.getElem?_eq_some_iff.mp (lk_get h0)).1])
  rw [e0] at e1
  cases e1
  exact ⟨_, e0, r S' σ H _ _ d R' rv q⟩
theorem dretN : DS X (.Return none pos) (fun G ρ => G.rt .none ρ) := ⟨_, ps_retN, fun C S σ H ρ E G R q n r b c => r S σ H ρ .non .none R .non q⟩
theorem dif {t : Expr} {tc : DTT} {A B : List Stmt} (hc : DT X t tc) (ha : DSs X A T) (hb : DSs X B U) : DS X (.If t A B pos) (gIfS tc T U) := by
  obtain ⟨_, p1, s1⟩ := hc.ex
  obtain ⟨_, p2, s2⟩ := ha.ex
  obtain ⟨_, p3, s3⟩ := hb.ex
  refine ⟨_, ps_if p1 p2 p3, fun C S σ H ρ E G R q n r b c => s1 C S σ H ρ _ _ R q fun d H' ρ' f1 R1 q1 => ?_⟩
  cases d with
  | true => exact iteT (s2 C S σ H' ρ' E G R1 (unT q1) n r b c)
  | false => exact iteF (s3 C S σ H' ρ' E G R1 (unF q1) n r b c)
theorem ddrop (h : DE X a g) (hs : swapsWith a none pos.line X.env = pure false := by rfl) : DS X (.Expr a pos) (gDrop g) := by
  obtain ⟨_, p1, s1⟩ := h.ex
  exact ⟨_, ps_expr p1 hs, fun C S σ H ρ E G R q n r b c => s1 C S σ H ρ _ _ R q fun v H' d ρ' f1 R1 r1 q1 => n S σ H' ρ' R1 q1⟩
theorem dpass : DS X (.Pass pos) gNext := ⟨_, ps_pass, fun C S σ H ρ E G R q n r b c => n S σ H ρ R q⟩
theorem dbreak : DS X (.Break pos) (fun G ρ => G.bk ρ) := ⟨_, ps_break, fun C S σ H ρ E G R q n r b c => b S σ H ρ R q⟩
theorem dcontinue : DS X (.Continue pos) (fun G ρ => G.ct ρ) := ⟨_, ps_continue, fun C S σ H ρ E G R q n r b c => c S σ H ρ R q⟩
/-- an own object is data from here on -/
def fz (i : Nat) (ρ : Rho) : Rho := match lk ρ i with
  | some (.own d) => ρ.set i (some (.dat d))
  | _ => ρ
def gFz (i : Nat) (T : DTS) : DTS := fun G ρ => T G (fz i ρ)
theorem dfz (i : Nat) (h : DS X st T) : DS X st (gFz i T) := by
  obtain ⟨_, p1, s1⟩ := h.ex
  refine ⟨_, p1, fun C S σ H ρ E G R q n r b c => ?_⟩
  unfold gFz fz at q
  cases e : lk ρ i with
  | none => rw [e] at q; exact s1 C S σ H ρ E G R q n r b c
  | some cl =>
    cases cl with
    | own d =>
      rw [e] at q
      obtain ⟨S', h1, h2, R'⟩ := R.freeze (lk_get e)
      exact s1 C S' σ H _ E G R' q n r b c
    | dat d => rw [e] at q; exact s1 C S σ H ρ E G R q n r b c
    | srcR => rw [e] at q; exact s1 C S σ H ρ E G R q n r b c
/-- for -/
def gFor (gi : DTI) (gd : DTG) (T : DTS) : DTS := fun G ρ => gi ρ fun ds ρ1 => ∃ J : Nat → Rho → Prop, J 0 ρ1 ∧ (∀ i d ρ2, ds[i]? = some d → J i ρ2 → gd d ρ2 fun ρ3 => T { G with nx := J (i + 1), ct := J (i + 1), bk := G.nx } ρ3) ∧ ∀ ρ2, J ds.length ρ2 → G.nx ρ2
theorem dfor {tg iter : Expr} {body : List Stmt} {gi : DTI} {gd : DTG} {is : List Nat} {w : Bool} (hp : PassesOwn (model X.prog X.w) X.A X.env X.xe) (hc : X.calm = true) (hi : DI X tg iter gi) (hg : DG X tg gd is w) (hb : DSs X body T)
    (hs : ∀ x, foldedSetIterable iter X.env x = pure x := by intro _; rfl) : DS X (.For tg iter body [] pos) (gFor gi gd T) := by
  obtain ⟨wi, pi, si⟩ := hi.ex
  obtain ⟨tg', pg, sg⟩ := hg.ex
  obtain ⟨tb, pb, sb⟩ := hb.ex
  refine ⟨_, ps_for hp hc pi pg pb hs, fun C S σ H ρ E G R q n r b c => si C S σ H ρ _ _ R q fun J H1 ds ρ1 vs f1 R1 hv W ⟨Iv, h0, hstep, hend⟩ => ?_⟩
  refine ⟨fun i m σ2 H2 => m = ds.length - i ∧ i ≤ ds.length ∧ ∃ S2 ρ2, RS X.K (C.pin vs) S2 σ2 H2 ρ2 ∧ Iv i ρ2, ⟨ds.length, by omega, Nat.zero_le _, S, ρ1, R1.pin hv, h0⟩, ?_⟩
  rintro i m σ2 H2 ⟨rfl, hi, S2, ρ2, R2, hI⟩
  have hv2 := R2.unpin.2
  by_cases hlt : i < ds.length
  · refine .inr ⟨W.go S2 H2 i hv2 hlt, fun σ' H' => i + 1 ≤ ds.length ∧ ∃ S2 ρ2, RS X.K (C.pin vs) S2 σ' H' ρ2 ∧ Iv (i + 1) ρ2, fun σ' H' h => ⟨ds.length - (i + 1), by omega, rfl, h⟩, fun x H3 hy => ?_⟩
    have hd : ds[i]? = some ds[i] := List.getElem?_eq_getElem hlt
    obtain ⟨e3, r3⟩ := W.yl S2 H2 i x H3 _ (fun p hp => R2.notS hp) hv2 hd hy
    refine sg (C.pin vs) S2 σ2 H3 ρ2 x _ _ _ (R2.ext e3) r3 (hstep i _ ρ2 hd hI) fun σ4 H4 ρ4 f4 R4 _ q4 => ?_
    exact sb (C.pin vs) S2 σ4 H4 ρ4 _ { G with nx := Iv (i + 1), ct := Iv (i + 1), bk := G.nx } R4 q4 (fun S' σ' H' ρ' R' q' => ⟨hlt, S', ρ', R', q'⟩) (fun S' σ' H' ρ' v d R' rv q' => r S' σ' H' ρ' v d R'.unpin.1 rv q')
      (fun S' σ' H' ρ' R' q' => n S' σ' H' ρ' R'.unpin.1 q') (fun S' σ' H' ρ' R' q' => ⟨hlt, S', ρ', R', q'⟩)
  · have e : i = ds.length := by omega
    subst e
    exact .inl ⟨W.st S2 H2 hv2, n S2 σ2 H2 ρ2 R2.unpin.1 (hend ρ2 hI)⟩
/-- while -/
def gWhile (c : DTT) (T : DTS) : DTS := fun G ρ => ∃ J : Nat → Rho → Prop, (∃ m, J m ρ) ∧ ∀ m ρ2, J m ρ2 → c ρ2 fun b ρ3 => if b = true then T { G with nx := fun ρ' => ∃ m', m' < m ∧ J m' ρ', ct := fun ρ' => ∃ m', m' < m ∧ J m' ρ', bk := G.nx } ρ3 else G.nx ρ3
theorem dwhile {t : Expr} {tc : DTT} {body : List Stmt} (hp : PassesOwn (model X.prog X.w) X.A X.env X.xe) (hc : DT X t tc) (hb : DSs X body T) : DS X (.While t body [] pos) (gWhile tc T) := by
  obtain ⟨_, p1, s1⟩ := hc.ex
  obtain ⟨_, p2, s2⟩ := hb.ex
  refine ⟨_, ps_while hp p1 p2, fun C S σ H ρ E G R q n r b c => ?_⟩
  obtain ⟨J, ⟨m0, j0⟩, step⟩ := q
  refine ⟨fun m σ2 H2 => ∃ S2 ρ2, RS X.K C S2 σ2 H2 ρ2 ∧ J m ρ2, ⟨m0, S, ρ, R, j0⟩, ?_⟩
  rintro m σ2 H2 ⟨S2, ρ2, R2, hJ⟩
  refine s1 C S2 σ2 H2 ρ2 _ _ R2 (step m ρ2 hJ) fun d H' ρ' f1 R1 q1 => ?_
  cases d with
  | true =>
    refine iteT ⟨fun σ' H' => ∃ m', m' < m ∧ ∃ S2 ρ2, RS X.K C S2 σ' H' ρ2 ∧ J m' ρ2, fun σ' H' h => h, ?_⟩
    have nn : ∀ (S' : Vol) (σ' : VStore) (H' : Hp) (ρ' : Rho), RS X.K C S' σ' H' ρ' → (∃ m', m' < m ∧ J m' ρ') → ∃ m', m' < m ∧ ∃ S2 ρ2, RS X.K C S2 σ' H' ρ2 ∧ J m' ρ2 := fun S' σ' H' ρ' R' ⟨m', hm, j⟩ => ⟨m', hm, S', ρ', R', j⟩
    exact s2 C S2 σ2 H' ρ' _ { G with nx := fun ρ' => ∃ m', m' < m ∧ J m' ρ', ct := fun ρ' => ∃ m', m' < m ∧ J m' ρ', bk := G.nx } R1 (unT q1) nn r n nn
  | false => exact iteF (n S2 σ2 H' ρ' R1 (unF q1))

/-! ## defs -/
structure Spec where
  n : Nat
  w : List D → (D → Prop) → Prop
  len : ∀ ds Q, w ds Q → ds.length = n
  mono : ∀ ds (Q Q' : D → Prop), w ds Q → (∀ d, Q d → Q' d) → w ds Q'
/-- one answer to each -/
abbrev Spec.det {α : Type} (n : Nat) (enc : α → List D) (pre : α → Prop) (r : α → D) (hl : ∀ x, (enc x).length = n := by intro x; rfl) : Spec where
  n := n
  w := fun ds Q => ∃ x, ds = enc x ∧ pre x ∧ Q (r x)
  len := fun ds Q ⟨x, h, _⟩ => by rw [h, hl]
  mono := fun ds Q Q' ⟨x, h, p, q⟩ f => ⟨x, h, p, f _ q⟩
/-- any of some answers -/
abbrev Spec.any {α : Type} (n : Nat) (enc : α → List D) (pre : α → Prop) (r : α → D → Prop) (hl : ∀ x, (enc x).length = n := by intro x; rfl) : Spec where
  n := n
  w := fun ds Q => ∃ x, ds = enc x ∧ pre x ∧ ∀ d, r x d → Q d
  len := fun ds Q ⟨x, h, _⟩ => by rw [h, hl]
  mono := fun ds Q Q' ⟨x, h, p, q⟩ f => ⟨x, h, p, fun d hd => f _ (q d hd)⟩
def spP (K : PySem.W.Frag) (sp : Spec) : Sp := fun vs H Q _ => ∃ (S : Vol) (ds : List D), (∀ a, S a → ∃ o, H a = some o) ∧ RpA K S H vs ds ∧ sp.w ds fun d => ∀ v H', Ext H H' → Rp K S H' v d → Q v H'
def spS (K : PySem.W.Frag) (sp : Spec) : Sp := fun vs H Q _ => ∃ (S : Vol) (a c : Addr) (ws : List V) (ds : List D), vs = .ref a :: ws ∧ (∀ a, S a → ∃ o, H a = some o) ∧ a ≠ c ∧ S a ∧ S c ∧ SrcOk H a c ∧ RpA K S H ws ds ∧
  sp.w ds fun d => ∀ v H', (∀ b o, H b = some o → b ≠ a → b ≠ c → H' b = some o) → SrcOk H' a c → Rp K S H' v d → Q v H'
def startR (N : List Str) (cs : List Cl) : Rho := cs.map some ++ List.replicate (N.length - cs.length) none
theorem start_get {N : List Str} {vs : List V} {i : Nat} {v : V} (h : vs[i]? = some v) : (start N vs)[i]? = some (some v) := by
  unfold L2.start
  rw [List.getElem?_append_left (by rw [List.length_map]; exact (List.getElem?_eq_some_iff.mp h).1), List.getElem?_map, h]
  rfl
theorem startR_get {N : List Str} {cs : List Cl} {i : Nat} {c : Cl} (h : (startR N cs)[i]? = some (some c)) : cs[i]? = some c := by
  unfold startR at h
  by_cases hi : i < cs.length
  · rw [List.getElem?_append_left (by rw [List.length_map]; exact hi), List.getElem?_map, List.getElem?_eq_getElem hi] at h
    rw [List.getElem?_eq_getElem hi]
    simpa using h
  · rw [List.getElem?_append_right (by simpa using hi), List.getElem?_replicate] at h
    split at h <;> cases h
theorem startR_len {N : List Str} {cs : List Cl} {vs : List V} (h : vs.length = cs.length) : (start N vs).length = (startR N cs).length := by
  unfold L2.start startR
  simp [h]
section
variable {P : Program} {wo : World} {mg : Str → Option Value} {base : Heap} {x qual : Str} {f : Addr} {fd : FuncData} {N ps : List Str} {k : Nat} {sp : Spec}
theorem fnP (F : Fun K x qual st f fd) (sc : FnScope N ps (defScope st)) (hn : sp.n = ps.length)
    (hb : ∀ (cdv : Value) (A : Around) (outer : List Env) (s : Shared) (H : Hp) (E : XK), RoomG k (A.deeper (envOfC qual (defScope st) s.heap.objs.size f cdv)) → DSs (cxOf CX0 P wo K mg base N qual (defScope st) f cdv A outer s H E).nox (defBody st) T)
    (h : ∀ ds Q, sp.w ds Q → T { nx := fun _ => Q .none, rt := fun d _ => Q d } (startR N (ds.map .dat))) : FnG P wo K mg base CX0 (k + 1) f fd ps (spP K sp) := by
  obtain ⟨oc, od, kV, doc, pm, an, cdv, ct, osl, rfl, lk, hcd⟩ := F.ex
  have hlen : ∀ vs H Q E, spP K sp vs H Q E → vs.length = ps.length := fun vs H Q E ⟨S, ds, _, r, w⟩ => by rw [r.len, sp.len ds _ w, hn]
  refine fnG_of lk hcd sc hlen fun A outer s H vs Q E hr hsp => ?_
  obtain ⟨t, pt, s⟩ := (hb cdv A outer s H E hr).ex
  obtain ⟨S, ds, al, ra, w⟩ := hsp
  refine ⟨t, pt.nox, ?_⟩
  have R : RS K { H0 := H, S0 := S, sa := none, vs := [], pr := fun _ => False } S (start N vs) H (startR N (ds.map .dat)) := by
    refine ⟨startR_len (by rw [List.length_map]; exact ra.len), fun a o h _ => h, al, fun a h => h.elim, fun a h => ⟨h, al a h⟩, fun i c e => ?_, fun i j o o' q _ e1 _ _ _ => ?_, fun q h => by simp at h, fun a c h => by cases h⟩
    · have e' := startR_get e
      rw [List.getElem?_map] at e'
      cases hd : ds[i]? with
      | none => rw [hd] at e'; cases e'
      | some d =>
        rw [hd] at e'
        cases e'
        obtain ⟨v, hv, rv⟩ := ra.get hd
        exact ⟨v, start_get hv, rv⟩
    · have e' := startR_get e1
      rw [List.getElem?_map] at e'
      cases hd : ds[i]? <;> (rw [hd] at e'; cases e')
  have ext : ∀ {S' : Vol} {σ' : VStore} {H' : Hp} {ρ' : Rho}, RS K { H0 := H, S0 := S, sa := none, vs := [], pr := fun _ => False } S' σ' H' ρ' → Ext H H' := fun R' a o e => R'.fr a o e fun ⟨_, _, z, _⟩ => by cases z
  refine s _ S _ H _ _ _ R (h ds _ w) (fun S' σ' H' ρ' R' q => q _ H' (ext R') .non) (fun S' σ' H' ρ' v d R' rv q => q v H' (ext R') (rv.anti fun a h => (R'.a0 a h).1)) (fun S' σ' H' ρ' R' q => q.elim) fun S' σ' H' ρ' R' q => q.elim
/-- a def whose first parameter is the source -/
theorem fnS (F : Fun K x qual st f fd) (sc : FnScope N ps (defScope st)) (hn : sp.n + 1 = ps.length)
    (hb : ∀ (cdv : Value) (A : Around) (outer : List Env) (s : Shared) (H : Hp) (E : XK), RoomG k (A.deeper (envOfC qual (defScope st) s.heap.objs.size f cdv)) → DSs (cxOf CX0 P wo K mg base N qual (defScope st) f cdv A outer s H E).nox (defBody st) T)
    (h : ∀ ds Q, sp.w ds Q → T { nx := fun _ => Q .none, rt := fun d _ => Q d } (startR N (.srcR :: ds.map .dat))) : FnG P wo K mg base CX0 (k + 1) f fd ps (spS K sp) := by
  obtain ⟨oc, od, kV, doc, pm, an, cdv, ct, osl, rfl, lk, hcd⟩ := F.ex
  have hlen : ∀ vs H Q E, spS K sp vs H Q E → vs.length = ps.length := fun vs H Q E ⟨S, a, c, ws, ds, e, _, _, _, _, _, r, w⟩ => by rw [e, List.length_cons, r.len, sp.len ds _ w, hn]
  refine fnG_of lk hcd sc hlen fun A outer s H vs Q E hr hsp => ?_
  obtain ⟨t, pt, s⟩ := (hb cdv A outer s H E hr).ex
  obtain ⟨S, a, c, ws, ds, rfl, al, hac, sa, sc', so, ra, w⟩ := hsp
  refine ⟨t, pt.nox, ?_⟩
  have R : RS K { H0 := H, S0 := S, sa := some (a, c), vs := [], pr := fun _ => False } S (start N (.ref a :: ws)) H (startR N (.srcR :: ds.map .dat)) := by
    refine ⟨startR_len (by simp [ra.len]), fun a o h _ => h, al, fun a h => h.elim, fun a h => ⟨h, al a h⟩, fun i cl e => ?_, fun i j o o' q _ e1 _ _ _ => ?_, fun q h => by simp at h, fun a' c' h => ?_⟩
    · have e' := startR_get e
      cases i with
      | zero =>
        cases e'
        exact ⟨.ref a, rfl, a, c, rfl, rfl⟩
      | succ i =>
        rw [List.getElem?_cons_succ, List.getElem?_map] at e'
        cases hd : ds[i]? with
        | none => rw [hd] at e'; cases e'
        | some d =>
          rw [hd] at e'
          cases e'
          obtain ⟨v, hv, rv⟩ := ra.get hd
          exact ⟨v, start_get (by simpa using hv), rv⟩
    · have e' := startR_get e1
      cases i with
      | zero => cases e'
      | succ i =>
        rw [List.getElem?_cons_succ, List.getElem?_map] at e'
        cases hd : ds[i]? <;> (rw [hd] at e'; cases e')
    · cases h
      exact ⟨hac, sa, sc', fun z => z, fun z => z, so⟩
  have ext : ∀ {S' : Vol} {σ' : VStore} {H' : Hp} {ρ' : Rho}, RS K { H0 := H, S0 := S, sa := some (a, c), vs := [], pr := fun _ => False } S' σ' H' ρ' → ∀ b o, H b = some o → b ≠ a → b ≠ c → H' b = some o := fun R' b o e n1 n2 => R'.fr b o e fun ⟨_, _, z, h⟩ => by
    cases z
    exact h.elim n1 n2
  refine s _ S _ H _ _ _ R (h ds _ w) (fun S' σ' H' ρ' R' q => q _ H' (ext R') (R'.src a c rfl).2.2.2.2.2 .non) (fun S' σ' H' ρ' v d R' rv q => q v H' (ext R') (R'.src a c rfl).2.2.2.2.2 (rv.anti fun a h => (R'.a0 a h).1)) (fun S' σ' H' ρ' R' q => q.elim) fun S' σ' H' ρ' R' q => q.elim
end
/-! ## calls -/
def gCall (sp : Spec) (l : DTA) : DTE := fun ρ Q => l ρ fun ds ρ' => sp.w ds fun d => Q d ρ'
def gCallS (sp : Spec) (i : Nat) (l : DTA) : DTE := fun ρ Q => lk ρ i = some .srcR ∧ l ρ fun ds ρ' => lk ρ' i = some .srcR ∧ sp.w ds fun d => Q d ρ'
section
variable {k : Nat} {f : Addr} {fd : FuncData} {ps : List Str} {sp : Spec} {x : Str} {e : Expr}
theorem dcall (F : FnG X.prog X.w X.K X.mg X.base CX0 k f fd ps (spP X.K sp)) (hr : RoomG k X.A) (hm : X.mg x = some (.ref f)) (hk : PySem.W.keepIn X.K (.ref f) = true) (hb : Binds X.K fd ps []) (ha : DA X (e :: es) l)
    (hg : Gl X x := by rfl) (hdb : (x == ("__debug__" : Str)) = false := by decide) (he : starEach (e :: es) X.env = (false, eval e X.env) :: starEach es X.env := by rfl) (hpl : (backTo pos (starEach es X.env)).any (·.1) = false := by rfl) :
    DE X (.Call (.Name x p) (e :: es) [] pos) (gCall sp l) := by
  obtain ⟨t, pa, sa⟩ := ha.ex
  refine ⟨_, pe_callG F hr hg hm hk hb .nil pass0 pa hdb he hpl, fun C S σ H ρ Q k R q fk => sa C S σ H ρ _ _ R q fun vs H1 ds ρ1 f1 R1 r1 h => ?_⟩
  refine ⟨S, ds, R1.al, by rw [List.append_nil]; exact r1, sp.mono ds _ _ h fun d hq v H' e2 rv => fk v H' d ρ1 (f1.trans (.of e2)) (R1.ext e2) rv hq⟩
theorem RS.srcNew {C : Ctx} {S : Vol} {σ : VStore} {H H' : Hp} {ρ : Rho} {a c : Addr} (R : RS K C S σ H ρ) (hs : C.sa = some (a, c)) (e : ∀ b o, H b = some o → b ≠ a → b ≠ c → H' b = some o) (so : SrcOk H' a c) : RS K C S σ H' ρ ∧ Fr C S H H' := by
  obtain ⟨z1, z2, z3, z4, z5, z6⟩ := R.src a c hs
  have mA : C.M a := ⟨a, c, hs, .inl rfl⟩
  have mC : C.M c := ⟨a, c, hs, .inr rfl⟩
  have fr : ∀ b o, H b = some o → ¬ S b → H' b = some o := fun b o h n => e b o h (fun z => n (z ▸ z2)) fun z => n (z ▸ z3)
  have there : ∀ b o, H b = some o → ∃ o', H' b = some o' := fun b o h => by
    by_cases h1 : b = a
    · obtain ⟨_, _, _, _, q, _⟩ := so
      rw [h1]; exact ⟨_, q⟩
    · by_cases h2 : b = c
      · obtain ⟨_, _, _, _, _, q, _⟩ := so
        rw [h2]; exact ⟨_, q⟩
      · exact ⟨o, e b o h h1 h2⟩
  refine ⟨⟨R.len, fun b o h m => e b o (R.fr b o h m) (fun z => m (z ▸ mA)) fun z => m (z ▸ mC), fun b h => let ⟨o, q⟩ := R.al b h; there b o q, fun b h => let ⟨o, q⟩ := R.pa b h; there b o q, R.a0, fun i cl h => ?_, R.dst, fun q h => (R.vok q h).mv fr fun _ s => .inl s, fun a' c' h => ?_⟩, fun b o h n => ?_⟩
  · obtain ⟨v, h1, h2⟩ := R.ent i cl h
    refine ⟨v, h1, h2.mv fr (fun _ s => .inl s) (fun _ s => s) fun p o hv hc u hu => ?_⟩
    subst hv hc
    obtain ⟨p', e', _, _, nm, _⟩ := h2
    cases e'
    exact e p u hu (fun z => nm (z ▸ mA)) fun z => nm (z ▸ mC)
  · rw [hs] at h
    cases h
    exact ⟨z1, z2, z3, z4, z5, so⟩
  · rcases n with n | n
    · exact fr b o h n
    · exact e b o h (fun z => z4 (z ▸ n)) fun z => z5 (z ▸ n)
theorem dcallS (i : Nat) {sx : Str} {psx : Pos} (F : FnG X.prog X.w X.K X.mg X.base CX0 k f fd ps (spS X.K sp)) (hr : RoomG k X.A) (hm : X.mg x = some (.ref f)) (hk : PySem.W.keepIn X.K (.ref f) = true) (hb : Binds X.K fd ps []) (ha : DA X es l)
    (hg : Gl X x := by rfl) (hdb : (x == ("__debug__" : Str)) = false := by decide) (he : starEach (.Name sx psx :: es) X.env = (false, eval (.Name sx psx) X.env) :: starEach es X.env := by rfl) (hpl : (backTo pos (starEach es X.env)).any (·.1) = false := by rfl)
    (hN : X.N[i]? = some sx := by rfl) (hv : Vis X.env.scope sx := by first | exact Or.inl rfl | exact Or.inr (Or.inl rfl) | exact Or.inr (Or.inr rfl)) (hd : (sx == ("__debug__" : Str)) = false := by decide) (hcd : (sx == ("__classdict__" : Str)) = false := by decide) :
    DE X (.Call (.Name x p) (.Name sx psx :: es) [] pos) (gCallS sp i l) := by
  obtain ⟨t, pa, sa⟩ := ha.ex
  refine ⟨_, pe_callG F hr hg hm hk hb .nil pass0 (pa_cons (pe_var hN hv hd hcd) pa he) hdb he hpl, fun C S σ H ρ Q k R q fk => ?_⟩
  obtain ⟨h0, q⟩ := q
  obtain ⟨v, e0, a, c, hs, rfl⟩ := R.ent i _ (lk_get h0)
  refine ⟨_, e0, sa C S σ H ρ _ _ R q fun vs H1 ds ρ1 f1 R1 r1 h => ?_⟩
  obtain ⟨z1, z2, z3, z4, z5, z6⟩ := R1.src a c hs
  refine ⟨S, a, c, vs, ds, by rw [List.append_nil], R1.al, z1, z2, z3, z6, r1, sp.mono ds _ _ h.2 fun d hq v H' e2 so rv => ?_⟩
  obtain ⟨R2, f2⟩ := R1.srcNew hs e2 so
  exact fk v H' d ρ1 (f1.trans f2) R2 rv hq
end
end
end Gw
namespace Gw
open PySem PySem.Spec PyProof.Rows L2

/-! ## sorted -/
section
variable {prog : Program} {w : World} {A : Around} {E : Value → Shared → Prop} {s : Shared}
theorem collectTup {l : Addr} {o : Obj} {n : Nat} {vs : List Value} {Q : List Value → Shared → Prop} (ho : s.heap.get? l = some o) (hc : o.cls = .type "tuple") (hd : o.data = .seq vs.toArray n) (hz : vs.length ≤ sizeLine)
    (h : Q vs { s with heap := (s.heap.push (seqObj "list" #[] 0)).update s.heap.objs.size (Obj.mapSeq (· ++ vs.toArray)) }) : wpAny (model prog w) A (collect (.ref l)) Q E s := by
  unfold collect
  refine wpAny_bind (wpAny_runValue (codeAny_builtin PySem.F.entry_proto_collect ?_))
  rw [Around.under_plainId PySem.F.plain_proto_collect _]
  refine show wpAny _ A.in1 (newList [] >>= fun x => again (.builtin "list.__iadd__" ⟨[x, .ref l], []⟩)) _ _ s from wpAny_bind (wpAny_newObj_type ?_)
  refine wpAny_pure ⟨plainId_quiet PySem.F.plain_list_iadd _, codeAny_builtin PySem.F.entry_list_iadd ?_⟩
  rw [Around.under_plainId PySem.F.plain_list_iadd _]
  have hN : (s.heap.push (seqObj "list" #[] 0)).get? s.heap.objs.size = some (seqObj "list" #[] 0) := Heap.get?_push_size _ rfl
  have hU : ((s.heap.push (seqObj "list" #[] 0)).update s.heap.objs.size (Obj.mapSeq (· ++ vs.toArray))).get? s.heap.objs.size = some (Obj.mapSeq (· ++ vs.toArray) (seqObj "list" #[] 0)) := Heap.get?_update_self _ hN rfl
  have last : wpAny (model prog w) A (match Value.ref s.heap.objs.size with
      | Value.ref a => (load a >>= fun ob => match ob.data with
          | Data.seq xs _ => pure xs.toList
          | _ => unsupported "internal:collect")
      | _ => unsupported "internal:collect") Q E { s with heap := (s.heap.push (seqObj "list" #[] 0)).update s.heap.objs.size (Obj.mapSeq (· ++ vs.toArray)) } := by
    refine show wpAny _ A (load s.heap.objs.size >>= _) _ _ _ from wpAny_bind (wpAny_load hU ?_)
    refine show wpAny _ A (pure ((#[] : Array Value) ++ vs.toArray).toList) Q E _ from wpAny_pure ?_
    have z : ((#[] : Array Value) ++ vs.toArray).toList = vs := by simp
    rw [z]
    exact h
  refine wpAny_mono (wpAny_extend_seq (A := A) (s := { s with heap := s.heap.push (seqObj "list" #[] 0) }) (R := fun r t => r = .ok (.ret (.ref s.heap.objs.size)) ∧ t = { s with heap := (s.heap.push (seqObj "list" #[] 0)).update s.heap.objs.size (Obj.mapSeq (· ++ vs.toArray)) })
    _ l _ 0 (.inr rfl) hN (Heap.get?_push_of_some _ ho) hc hd ⟨rfl, rfl⟩ (by simpa using hz)) (fun f t ht => ?_) fun e t ht => absurd ht.1 (by simp)
  match f, ht with
  | .done f, ⟨e, z⟩ =>
    subst z
    cases e
    exact last
  | .again c, ht => exact ⟨ht.1, codeAny_mono ht.2 fun r t z => by
      obtain ⟨rfl, rfl⟩ := z
      exact last⟩
open PySem.W in
theorem sortedTup {l : Addr} {o : Obj} {n : Nat} {vs : List Value} {κ : PyProof.Rows.KeyKind} {Q : Value → Shared → Prop} (ho : s.heap.get? l = some o) (hc : o.cls = .type "tuple") (hd : o.data = .seq vs.toArray n) (hz : vs.length ≤ sizeLine)
    (S : SortsAt prog w A.in1.in1 { s with heap := sortingHeap (copyHeap s.heap vs) (s.heap.objs.size + 1) vs } κ vs)
    (h : Q (.ref (s.heap.objs.size + 1)) { s with heap := sortedAll s.heap vs (sortVals κ false vs vs).toArray }) : wpAny (model prog w) A (call (.builtin "sorted") [.ref l]) Q E s := by
  refine Calls.call_function_entry kind_sorted plain_sorted entry_sorted (args_sorted1 _) ?_
  unfold Builtin.«sorted»
  refine wpAny_bind (m := checkCount "sorted" 1 1 _) (wpAny_pure (wpAny_bind (collectTup ho hc hd hz (wpAny_bind (wpAny_newList ?_ hz)))))
  have e : ((s.heap.push (seqObj "list" #[] 0)).update s.heap.objs.size (Obj.mapSeq (· ++ vs.toArray))).objs.size = s.heap.objs.size + 1 := by
    rw [Heap.size_update, size_push']
  rw [e]
  refine show wpAny _ _ _ _ _ { s with heap := copyHeap s.heap vs } from wpAny_bind (wpAny_holding (wpAny_call_entry slot_list_sort ⟨_, copyHeap_at s.heap vs, rfl⟩ entry_list_sort ?_ (args_list_sort _)))
  exact list_sort_vals (s := { s with heap := copyHeap s.heap vs }) (copyHeap_at s.heap vs) S hz ⟨_, rfl, wpAny_pure ⟨_, rfl, h⟩⟩
end

/-! ### sorted of data that are alike -/
open PySem.W in
abbrev sorD (ds : List D) : List D := ds.mergeSort (dataLe false (fun d : D => d))
theorem Vals.each : ∀ {bs : List (D × V)} {us : List Value}, Vals (bs.map Prod.snd) us → PySem.W.EachIs (fun u (b : D × V) => RelV b.2 u) us bs
  | [], [], _ => .nil
  | b :: bs, u :: us, h => by
    cases h with
    | cons r t => exact .cons r (Vals.each t)
  | [], u :: us, h => by cases h
  | b :: bs, [], h => by cases h
theorem each_vals : ∀ {bs : List (D × V)} {us : List Value}, PySem.W.EachIs (fun u (b : D × V) => RelV b.2 u) us bs → Vals (bs.map Prod.snd) us
  | _, _, .nil => .nil
  | _, _, .cons r t => .cons r (each_vals t)
theorem each_and {α β : Type} {R R' : α → β → Prop} : ∀ {as : List α} {bs : List β}, PySem.W.EachIs R as bs → (∀ a b, b ∈ bs → R a b → R' a b) → PySem.W.EachIs R' as bs
  | _, _, .nil, _ => .nil
  | _, _, .cons r t, h => .cons (h _ _ List.mem_cons_self r) (each_and t fun a b m => h a b (List.mem_cons_of_mem _ m))
theorem RpA.zipD {K : PySem.W.Frag} {S : Vol} {H : Hp} : ∀ {xs : List V} {ds : List D}, RpA K S H xs ds → (ds.zip xs).map Prod.fst = ds ∧ (ds.zip xs).map Prod.snd = xs ∧ ∀ b ∈ ds.zip xs, Rp K S H b.2 b.1
  | [], [], _ => ⟨rfl, rfl, fun b h => by cases h⟩
  | x :: xs, d :: ds, h => by
    cases h with
    | cons r t =>
      obtain ⟨h1, h2, h3⟩ := RpA.zipD t
      exact ⟨by simp [h1], by simp [h2], fun b m => by
        rcases List.mem_cons.mp m with rfl | m
        · exact r
        · exact h3 b m⟩
  | [], d :: ds, h => by cases h
  | x :: xs, [], h => by cases h
theorem RpA.ofZip {K : PySem.W.Frag} {S : Vol} {H : Hp} : ∀ {bs : List (D × V)}, (∀ b ∈ bs, Rp K S H b.2 b.1) → RpA K S H (bs.map Prod.snd) (bs.map Prod.fst)
  | [], _ => .nil
  | b :: bs, h => .cons (h b List.mem_cons_self) (RpA.ofZip fun c m => h c (List.mem_cons_of_mem _ m))
section
variable {X : Cx}
open PySem.W in
def rSortD (K : PySem.W.Frag) : List V → Hp → VK → Prop := fun xs H Q => ∃ (a : Addr) (bs : List (D × V)), xs = [.ref a] ∧ (SqL K H a (bs.map Prod.snd) ∨ SqT K H a (bs.map Prod.snd)) ∧ (∀ b ∈ bs, Dp K H b.2 b.1) ∧
  AllAlike (bs.map Prod.fst) ∧ Sortable (bs.map Prod.fst) ∧ (∀ b ∈ bs, b.1.depth ≤ 60) ∧ ∀ p, H p = none → Q (.ref p) (upd H p (.lst ((bs.mergeSort (dataLe false Prod.fst)).map Prod.snd)))
open PySem.W in
theorem cr_sortD (hu : X.A.units + 64 < cLine) : CallR X (.builtin "sorted") (rSortD X.K) := by
  intro pins s σ H xs us Q I r h
  obtain ⟨a, bs, rfl, hs, hd, hal, hk, hdp, q⟩ := h
  obtain rfl := Vals.ref1 r
  have each : ∀ its : List Value, Vals (bs.map Prod.snd) its → EachIs (fun v b => ∃ as, Reads (sortingHeap (copyHeap s.heap its) (s.heap.objs.size + 1) its) v b.1 as) its bs := fun its rv =>
    each_and (Vals.each rv) fun u b m ru => by
      obtain ⟨as, rd⟩ := Dp.reads I b.1 b.2 u (hd b m) ru
      exact ⟨as, PyProof.Rows.Reads.keeps (fun _ _ => sorting_copy_old) rd⟩
  have sat : ∀ its : List Value, Vals (bs.map Prod.snd) its → SortsAt X.prog X.w X.A.in1.in1 { s with heap := sortingHeap (copyHeap s.heap its) (s.heap.objs.size + 1) its } (dataKind (sortingHeap (copyHeap s.heap its) (s.heap.objs.size + 1) its) (bs.map Prod.fst)) its := fun its rv =>
    SortsAt.data (s := { s with heap := sortingHeap (copyHeap s.heap its) (s.heap.objs.size + 1) its }) (each_map (R := fun v d => ∃ as, Reads (sortingHeap (copyHeap s.heap its) (s.heap.objs.size + 1) its) v d as) Prod.fst (each its rv)) hal hk fun d hm => by
      obtain ⟨b, hb, rfl⟩ := List.mem_map.mp hm
      have := hdp b hb
      show X.A.units + 1 + 1 + b.1.depth < cLine
      omega
  have fin : ∀ its : List Value, Vals (bs.map Prod.snd) its → its.length ≤ sizeLine → EP X pins σ Q (.ref (s.heap.objs.size + 1)) { s with heap := sortedAll s.heap its (sortVals (dataKind (sortingHeap (copyHeap s.heap its) (s.heap.objs.size + 1) its) (bs.map Prod.fst)) false its its).toArray } := by
    intro its rv hz
    have out := sortVals_data (enc := Prod.fst) (R := fun u (b : D × V) => RelV b.2 u) false (Vals.each rv) (each its rv) hal
    obtain ⟨ep, he⟩ := PyProof.Rows.sortedAll_at s.heap its (sortVals (dataKind (sortingHeap (copyHeap s.heap its) (s.heap.objs.size + 1) its) (bs.map Prod.fst)) false its its).toArray
    have hl : ((bs.mergeSort (dataLe false Prod.fst)).map Prod.snd).length ≤ sizeLine := by
      rw [List.length_map, (List.mergeSort_perm _ _).length_eq]
      have e := rv.length
      rw [List.length_map] at e
      omega
    exact ⟨.ref _, upd H (s.heap.objs.size + 1) (.lst ((bs.mergeSort (dataLe false Prod.fst)).map Prod.snd)), I.laid (t' := s.toks) (fun _ _ => PyProof.Rows.sortedAll_old) (Nat.le_succ _) ⟨hl, _, ep, each_vals out, he⟩, rfl, q _ (I.hok.fresh (Nat.le_succ _))⟩
  rcases hs with hs | hs
  · obtain ⟨its, rv, hl, hz⟩ := I.list hs
    have hz' : its.length ≤ sizeLine := by rw [← rv.length]; exact hz
    exact sorted_vals hl.isList (sat its rv) hz' (fin its rv hz')
  · obtain ⟨its, rv, ht, hz⟩ := I.tuple hs
    have hz' : its.length ≤ sizeLine := by rw [← rv.length]; exact hz
    obtain ⟨o, ho, hc, n, hdt⟩ := ht
    exact sortedTup ho hc hdt hz' (sat its rv) (fin its rv hz')
open PySem.W in
def sorU : DU := fun d Q => ∃ ds : List D, (d = .list ds ∨ d = .tuple ds) ∧ AllAlike ds ∧ Sortable ds ∧ (∀ e ∈ ds, e.depth ≤ 60 ∧ e.canLay0 = true) ∧ Q (.list (sorD ds))
open PySem.W in
theorem csor (hu : X.A.units + 64 < cLine) : CallUF X (.builtin "sorted") sorU := by
  refine ⟨_, cr_sortD hu, fun S H x d Q k hx q hk => ?_⟩
  obtain ⟨ds, hd, hal, hs, hok, q⟩ := q
  have go : ∀ (p : Addr) (xs : List V), x = .ref p → (SqL X.K H p xs ∨ SqT X.K H p xs) → RpA X.K S H xs ds → rSortD X.K [x] H k := by
    intro p xs e h r
    obtain ⟨h1, h2, h3⟩ := RpA.zipD r
    subst e
    refine ⟨p, ds.zip xs, rfl, by rw [h2]; exact h, fun b m => (h3 b m).dp (hok _ (by rw [← h1]; exact List.mem_map.mpr ⟨b, m, rfl⟩)).2, by rw [h1]; exact hal, by rw [h1]; exact hs, fun b m => (hok _ (by rw [← h1]; exact List.mem_map.mpr ⟨b, m, rfl⟩)).1, fun z hz => ?_⟩
    have r' : RpA X.K S H (((ds.zip xs).mergeSort (dataLe false Prod.fst)).map Prod.snd) (sorD ds) := by
      have e : sorD ds = ((ds.zip xs).mergeSort (dataLe false Prod.fst)).map Prod.fst := by
        have m := sort_maps (r := dataLe false Prod.fst) (s := dataLe false (fun d : D => d)) Prod.fst (l := ds.zip xs) (fun _ _ _ _ => rfl)
        rw [m, h1]
      rw [e]
      exact RpA.ofZip fun b m => h3 b ((List.mergeSort_perm _ _).mem_iff.mp m)
    exact hk z _ _ hz r' q
  rcases hd with rfl | rfl
  · obtain ⟨p, xs, e, h, r⟩ := hx.sql
    exact go p xs e (.inl h) r
  · obtain ⟨p, xs, e, h, r⟩ := hx.sqt
    exact go p xs e (.inr h) r
end
/-! ### plain facts -/
open PySem.W in
theorem sorD_perm (ds : List D) : (sorD ds).Perm ds := List.mergeSort_perm _ _
open PySem.W in
theorem dataLe_tot : TotalLe (dataLe false (fun d : D => d)) := sortLe_total (listOrd itemOrd) false fun d : D => keyToks d
/-- where the key tells the data apart, a sorted rearrangement is the one -/
theorem pw_uniq {α : Type} {le : α → α → Bool} : ∀ {l m : List α}, (∀ x ∈ l, ∀ y ∈ l, le x y = true → le y x = true → x = y) → l.Perm m → l.Pairwise (fun a b => le a b = true) → m.Pairwise (fun a b => le a b = true) → l = m
  | [], m, _, h, _, _ => (List.Perm.eq_nil h.symm).symm
  | x :: l, [], _, h, _, _ => absurd h.length_eq (by simp)
  | x :: l, y :: m, as, h, hl, hm => by
    have pl := List.pairwise_cons.mp hl
    have pm := List.pairwise_cons.mp hm
    have e : x = y := by
      rcases List.mem_cons.mp (h.mem_iff.mp List.mem_cons_self) with e | hx
      · exact e
      · have hy := h.mem_iff.mpr (List.mem_cons_self (a := y) (l := m))
        rcases List.mem_cons.mp hy with e | hy'
        · exact e.symm
        · exact as x List.mem_cons_self y hy (pl.1 y hy') (pm.1 x hx)
    subst e
    rw [pw_uniq (fun a ha b hb => as a (List.mem_cons_of_mem _ ha) b (List.mem_cons_of_mem _ hb)) h.cons_inv pl.2 pm.2]
open PySem.W in
theorem sorD_pw (ds : List D) : (sorD ds).Pairwise (fun a b => dataLe false (fun d : D => d) a b = true) := sort_pairwise dataLe_tot ds
open PySem.W in
/-- a rearrangement that is sorted is the sorted one -/
theorem sorD_is {ds es : List D} (as : ∀ x ∈ es, ∀ y ∈ es, dataLe false (fun d : D => d) x y = true → dataLe false (fun d : D => d) y x = true → x = y) (h : es.Perm ds) (hs : es.Pairwise (fun a b => dataLe false (fun d : D => d) a b = true)) : sorD ds = es :=
  (pw_uniq as (h.trans (sorD_perm ds).symm) hs (sorD_pw ds)).symm
open PySem.W in
theorem sorD_perm_eq {ds es : List D} (as : ∀ x ∈ es, ∀ y ∈ es, dataLe false (fun d : D => d) x y = true → dataLe false (fun d : D => d) y x = true → x = y) (h : es.Perm ds) : sorD ds = sorD es :=
  sorD_is (fun x hx y hy => as x ((sorD_perm es).mem_iff.mp hx) y ((sorD_perm es).mem_iff.mp hy)) ((sorD_perm es).trans h) (sorD_pw es)
open PySem.W in
theorem leI (x y : Int) : dataLe false (fun d : D => d) (.int x) (.int y) = decide (x ≤ y) := by
  show (!dataLt (.int y) (.int x)) = _
  rw [dataLt_int]
  by_cases h : y < x <;> simp [h] <;> omega
open PySem.W in
theorem leII (x y x' y' : Int) : dataLe false (fun d : D => d) (.tuple [.int x, .int y]) (.tuple [.int x', .int y']) = decide (x < x' ∨ (x = x' ∧ y ≤ y')) := by
  show (!dataLt (.tuple [.int x', .int y']) (.tuple [.int x, .int y])) = _
  rw [dataLt_ii]
  by_cases h : x' < x ∨ (x' = x ∧ y' < y)
  · have h' : ¬ (x < x' ∨ (x = x' ∧ y ≤ y')) := by omega
    simp [h, h']
  · have h' : x < x' ∨ (x = x' ∧ y ≤ y') := by omega
    simp [h, h']
end Gw
namespace Gw
open PySem PySem.Spec PyProof.Rows L2

/-! ## the source -/
abbrev srcKs (c : Addr) (l m t : Int) : List (L2.Key × V) := [(.inr "cells", .ref c), (.inr "left", .int l), (.inr "mixed", .int m), (.inr "turn", .int t)]
def gSrc (i : Nat) (P : Int → Prop) : DTE := fun ρ Q => lk ρ i = some .srcR ∧ ∀ v, P v → Q (.int v) ρ
def gSrcPut (i : Nat) (P : Int → Prop) (g : DTE) : DTS := fun G ρ => g ρ fun d ρ1 => lk ρ1 i = some .srcR ∧ ∃ v, d = .int v ∧ P v ∧ G.nx ρ1
def gSrcRun (i j : Nat) : DTS := fun G ρ => lk ρ i = some .srcR ∧ (∃ m, lk ρ j = some (.dat (.int m))) ∧ G.nx ρ
section
variable {X : Cx} {pos : Pos}
theorem RS.srcAt {K : PySem.W.Frag} {C : Ctx} {S : Vol} {σ : VStore} {H : Hp} {ρ : Rho} {i : Nat} (R : RS K C S σ H ρ) (h : lk ρ i = some .srcR) : ∃ a c, C.sa = some (a, c) ∧ σ[i]? = some (some (.ref a)) ∧ a ≠ c ∧ SrcOk H a c := by
  obtain ⟨v, e, a, c, hs, rfl⟩ := R.ent i _ (lk_get h)
  obtain ⟨h1, _, _, _, _, h2⟩ := R.src a c hs
  exact ⟨a, c, hs, e, h1, h2⟩
theorem simSrc {K : PySem.W.Frag} (i : Nat) (x : Str) {P : Int → Prop} (hp : ∀ c l m t, 0 ≤ l → 0 ≤ m → m < 2 ^ 31 → 0 ≤ t → ∃ v, valV (srcKs c l m t) (.inr x) = some (.int v) ∧ P v) : SimE K (tDGet (tVar i) (tC (.str x))) (gSrc i P) := fun C S σ H ρ Q k R q f => by
  obtain ⟨h, q⟩ := q
  obtain ⟨a, c, hs, e, hac, cells, l, m, t, e1, e2, b1, b2, b3, b4, b5, b6⟩ := R.srcAt h
  obtain ⟨v, hv, pv⟩ := hp c l m t b3 b4 b5 b6
  refine ⟨_, e, a, .int v, rfl, ?_, f _ H _ ρ .refl R (.int v) (q v pv)⟩
  have g := DGet.k (k := .inr x) e1
  rw [hv] at g
  exact g
theorem dsrc (i : Nat) {y x : Str} {px py : Pos} {jj} {P : Int → Prop} (hu : X.A.units + 64 < cLine) (hp : ∀ c l m t, 0 ≤ l → 0 ≤ m → m < 2 ^ 31 → 0 ≤ t → ∃ v, valV (srcKs c l m t) (.inr x) = some (.int v) ∧ P v)
    (hN : X.N[i]? = some y := by rfl) (hv : Vis X.env.scope y := by first | exact Or.inl rfl | exact Or.inr (Or.inl rfl) | exact Or.inr (Or.inr rfl)) (hd : (y == ("__debug__" : Str)) = false := by decide)
    (hcd : (y == ("__classdict__" : Str)) = false := by decide) : DE X (.Subscript (.Name y px) (.Constant (.str x) jj py) pos) (gSrc i P) :=
  ⟨_, pe_dget (by omega) (pe_var hN hv hd hcd) pe_str (by intro _ _; rfl), simSrc i x hp⟩
theorem srcL (c : Addr) (l m t : Int) (h1 : 0 ≤ l) (_ : 0 ≤ m) (_ : m < 2 ^ 31) (_ : 0 ≤ t) : ∃ v, valV (srcKs c l m t) (.inr "left") = some (.int v) ∧ 0 ≤ v := ⟨l, rfl, h1⟩
theorem srcM (c : Addr) (l m t : Int) (_ : 0 ≤ l) (h1 : 0 ≤ m) (h2 : m < 2 ^ 31) (_ : 0 ≤ t) : ∃ v, valV (srcKs c l m t) (.inr "mixed") = some (.int v) ∧ (0 ≤ v ∧ v < 2 ^ 31) := ⟨m, rfl, h1, h2⟩
theorem srcT (c : Addr) (l m t : Int) (_ : 0 ≤ l) (_ : 0 ≤ m) (_ : m < 2 ^ 31) (h1 : 0 ≤ t) : ∃ v, valV (srcKs c l m t) (.inr "turn") = some (.int v) ∧ 0 ≤ v := ⟨t, rfl, h1⟩
/-- what is stored in it -/
def SrcFld (x : Str) (P : Int → Prop) : Prop := ∀ c l m t v, 0 ≤ l → 0 ≤ m → m < 2 ^ 31 → 0 ≤ t → P v → ∃ l' m' t', putK (srcKs c l m t) (.inr x) (.int v) = srcKs c l' m' t' ∧ 0 ≤ l' ∧ 0 ≤ m' ∧ m' < 2 ^ 31 ∧ 0 ≤ t'
theorem fldL : SrcFld "left" (fun v => 0 ≤ v) := fun c l m t v h1 h2 h3 h4 h => ⟨v, m, t, rfl, h, h2, h3, h4⟩
theorem fldM : SrcFld "mixed" (fun v => 0 ≤ v ∧ v < 2 ^ 31) := fun c l m t v h1 h2 h3 h4 h => ⟨l, v, t, rfl, h1, h.1, h.2, h4⟩
theorem fldT : SrcFld "turn" (fun v => 0 ≤ v) := fun c l m t v h1 h2 h3 h4 h => ⟨l, m, v, rfl, h1, h2, h3, h⟩
theorem dsrcPut (i : Nat) {y x : Str} {px py p' : Pos} {jj} {P : Int → Prop} {e : Expr} {g : DTE} (hu : X.A.units + 64 < cLine) (hp : SrcFld x P) (he : DE X e g)
    (hN : X.N[i]? = some y := by rfl) (hv : Vis X.env.scope y := by first | exact Or.inl rfl | exact Or.inr (Or.inl rfl) | exact Or.inr (Or.inr rfl)) (hd : (y == ("__debug__" : Str)) = false := by decide)
    (hcd : (y == ("__classdict__" : Str)) = false := by decide) (hs : swapsWith e (some (.Subscript (.Name y px) (.Constant (.str x) jj py) p')) pos.line X.env = pure false := by rfl) :
    DS X (.Assign [.Subscript (.Name y px) (.Constant (.str x) jj py) p'] e pos) (gSrcPut i P g) := by
  obtain ⟨t, pt, s⟩ := he.ex
  refine ⟨_, ps_dput (by omega) (pe_var hN hv hd hcd) pe_str pt hs, fun C S σ H ρ E G R q n r b c => s C S σ H ρ _ _ R q fun v H' d ρ' f1 R1 r1 q1 => ?_⟩
  obtain ⟨h, w, rfl, pw, q1⟩ := q1
  cases r1
  obtain ⟨a, cc, hs', e0, hac, cells, l, m, t, e1, e2, b1, b2, b3, b4, b5, b6⟩ := R1.srcAt h
  obtain ⟨l', m', t', ek, z⟩ := hp cc l m t w b3 b4 b5 b6 pw
  refine ⟨_, e0, a, _, rfl, .k (k := .inr x) e1 (by show 4 < sizeLine; rw [sizeLine_eq]; omega), ?_⟩
  have R2 := R1.srcNew (H' := upd H' a (.dK (putK (srcKs cc l m t) (.inr x) (.int w)))) hs' (fun b o hb n1 _ => by rw [upd_ne n1]; exact hb) ⟨cells, l', m', t', by rw [upd_same, ek], by rw [upd_ne (Ne.symm hac)]; exact e2, b1, b2, z.1, z.2.1, z.2.2.1, z.2.2.2⟩
  exact n S σ _ ρ' R2.1 q1
/-- while many > 1 and source['left'] < 2 and len(source['cells']) > 0: source['left'] = source['cells'].pop() -/
theorem dsrcRun {p1 p2 p3 p4 p5 p6 p7 p9 p10 p11 p12 p13 p14 p16 p17 p18 p19 p20 p21 p22 : Pos} {j1 j2 j3 j4 j5 j6 j7} (hu : X.A.units + 64 < cLine) (hp : PassesOwn (model X.prog X.w) X.A X.env X.xe) (hg : Gl X "len") (hm : X.mg "len" = none)
    (hN : X.N[0]? = some ("source" : Str)) (hN1 : X.N[1]? = some ("many" : Str)) (hv : Vis X.env.scope "source") (hv1 : Vis X.env.scope "many")
    (hbase : attributeBase (.Subscript (.Name "source" p17) (.Constant (.str "cells") j7 p18) p19) "pop" X.env (eval (.Subscript (.Name "source" p17) (.Constant (.str "cells") j7 p18) p19) X.env) = eval (.Subscript (.Name "source" p17) (.Constant (.str "cells") j7 p18) p19) X.env)
    (hline : (p20.endLine == p21.line) = true) (hst : starEach [.Subscript (.Name "source" p10) (.Constant (.str "cells") j4 p11) p12] X.env = (false, eval (.Subscript (.Name "source" p10) (.Constant (.str "cells") j4 p11) p12) X.env) :: starEach [] X.env)
    (hpl : (backTo p13 (starEach [] X.env)).any (·.1) = false) (hbm : behindInMarks .Gt (.Constant (.int 0) j5 p14) = false)
    (hs : swapsWith (.Call (.Attribute (.Subscript (.Name "source" p17) (.Constant (.str "cells") j7 p18) p19) "pop" p20) [] [] p21) (some (.Subscript (.Name "source" p16) (.Constant (.str "left") j6 p15) p22)) p1.line X.env = pure false) {pw pb pa pc pd : Pos} :
    DS X (.While (.BoolOp .And [.Compare (.Name "many" p2) [.Gt] [.Constant (.int 1) j1 p3] pa, .Compare (.Subscript (.Name "source" p4) (.Constant (.str "left") j2 p5) p6) [.Lt] [.Constant (.int 2) j3 p7] pc,
        .Compare (.Call (.Name "len" p9) [.Subscript (.Name "source" p10) (.Constant (.str "cells") j4 p11) p12] [] p13) [.Gt] [.Constant (.int 0) j5 p14] pd] pb)
      [.Assign [.Subscript (.Name "source" p16) (.Constant (.str "left") j6 p15) p22] (.Call (.Attribute (.Subscript (.Name "source" p17) (.Constant (.str "cells") j7 p18) p19) "pop" p20) [] [] p21) p1] [] pw) (gSrcRun 0 1) := by
  have nosl : ∀ (x : Str) (j) (p : Pos), NoSl (.Constant (.str x) j p) := by intro _ _ _ _ _; rfl
  have hu1 : X.A.units + 1 < cLine := by omega
  have d1 : (("source" : Str) == ("__debug__" : Str)) = false := by decide
  have d2 : (("source" : Str) == ("__classdict__" : Str)) = false := by decide
  have d3 : (("many" : Str) == ("__debug__" : Str)) = false := by decide
  have d4 : (("many" : Str) == ("__classdict__" : Str)) = false := by decide
  have src : ∀ p : Pos, PE X (.Name "source" p) (tVar 0) := fun p => pe_var hN hv d1 d2
  refine ⟨_, ps_while hp (PW.pt (pw_and (pt_cmp (pc_gt (pe_var hN1 hv1 d3 d4) pe_int)) (pw_and (pt_cmp (pc_lt (pe_dget hu1 (src p4) pe_str (nosl _ _ _)) pe_int)) (pw_and1 (pt_cmp (pc_gt (pe_callB call_len hg hm boot_len (pa_cons (pe_dget hu1 (src p10) pe_str (nosl _ _ _)) pa_nil hst) (by decide) (by decide) hst hpl) pe_int) hbm)))))
    (pss_one (ps_dput hu1 (src p16) pe_str (pe_bm0 PySem.F.plainAttrs_list PySem.F.slot_list_pop PySem.F.type_list_pop mt_pop (pe_dget hu1 (src p17) pe_str (nosl _ _ _)) hbase hline) hs)), fun C S σ H ρ E G R q n r b c => ?_⟩
  obtain ⟨h, ⟨m, hm1⟩, q⟩ := q
  obtain ⟨a, cc, hs', e0, hac, so⟩ := R.srcAt h
  obtain ⟨_, _, e3⟩ := show ∃ _ : Unit, ∃ _ : Unit, σ[1]? = some (some (.int m)) from ⟨(), (), by
    obtain ⟨v, e, r⟩ := R.ent 1 _ (lk_get hm1)
    have r' : Rp X.K S H v (.int m) := r
    cases r'
    exact e⟩
  refine ⟨fun k σ' H' => σ' = σ ∧ RS X.K C S σ H' ρ ∧ ∃ (cells : List Int) (l mx t : Int), H' a = some (.dK (srcKs cc l mx t)) ∧ H' cc = some (.lst (cells.map V.int)) ∧ (∀ x ∈ cells, 0 ≤ x) ∧ cells.length ≤ 63 ∧ 0 ≤ l ∧ 0 ≤ mx ∧ mx < 2 ^ 31 ∧ 0 ≤ t ∧ cells.length = k, ?_, ?_⟩
  · obtain ⟨cells, l, mx, t, e1, e2, b1, b2, b3, b4, b5, b6⟩ := so
    exact ⟨_, rfl, R, cells, l, mx, t, e1, e2, b1, b2, b3, b4, b5, b6, rfl⟩
  · rintro k σ' H' ⟨rfl, R1, cells, l, mx, t, e1, e2, b1, b2, b3, b4, b5, b6, hk⟩
    refine ⟨_, e3, m, 1, rfl, rfl, _, rfl, ?_⟩
    by_cases h1 : decide (1 < m) = true
    · dsimp only
      rw [if_pos h1]
      refine ⟨_, e0, a, _, rfl, .k (k := .inr "left") e1, l, 2, rfl, rfl, _, rfl, ?_⟩
      by_cases h2 : decide (l < 2) = true
      · dsimp only
        rw [if_pos h2]
        refine ⟨_, e0, a, _, rfl, .k (k := .inr "cells") e1, _, _, rfl, .inl ⟨cells.map V.int, .inl (.inl e2), rfl⟩, _, 0, rfl, rfl, _, rfl, ?_⟩
        by_cases h3 : decide ((0 : Int) < ((cells.map V.int).length : Nat)) = true
        · dsimp only
          rw [if_pos h3]
          have hp3 : 0 < cells.length := by
            have := of_decide_eq_true h3
            rw [List.length_map] at this
            omega
          have hne : cells ≠ [] := by intro z; rw [z] at hp3; simp at hp3
          refine ⟨fun σ2 H2 => ∃ m', m' < k ∧ σ2 = σ' ∧ RS X.K C S σ' H2 ρ ∧ ∃ (cells : List Int) (l mx t : Int), H2 a = some (.dK (srcKs cc l mx t)) ∧ H2 cc = some (.lst (cells.map V.int)) ∧ (∀ x ∈ cells, 0 ≤ x) ∧ cells.length ≤ 63 ∧ 0 ≤ l ∧ 0 ≤ mx ∧ mx < 2 ^ 31 ∧ 0 ≤ t ∧ cells.length = m', fun σ2 H2 z => z, ?_⟩
          have hlast : (cells.map V.int)[(cells.map V.int).length - 1]? = some (V.int (cells.getLast hne)) := by
            rw [List.getElem?_map, List.length_map, List.getLast_eq_getElem, List.getElem?_eq_getElem (by omega)]
            rfl
          refine ⟨_, e0, a, _, rfl, .k (k := .inr "cells") e1, .inl ⟨rfl, _, .inl (.inl e2)⟩, cc, _, _, rfl, rfl, e2, hlast, ?_⟩
          have e1' : upd H' cc (.lst (cells.map V.int).dropLast) a = some (.dK (srcKs cc l mx t)) := by rw [upd_ne hac]; exact e1
          refine ⟨_, e0, a, _, rfl, .k (k := .inr "left") e1' (by show 4 < sizeLine; rw [sizeLine_eq]; omega), ?_⟩
          have f1 : upd (upd H' cc (.lst (cells.map V.int).dropLast)) a (.dK (putK (srcKs cc l mx t) (.inr "left") (.int (cells.getLast hne)))) a = some (.dK (srcKs cc (cells.getLast hne) mx t)) := upd_same
          have f2 : upd (upd H' cc (.lst (cells.map V.int).dropLast)) a (.dK (putK (srcKs cc l mx t) (.inr "left") (.int (cells.getLast hne)))) cc = some (.lst (cells.dropLast.map V.int)) := by
            rw [upd_ne (Ne.symm hac), upd_same, List.map_dropLast]
          have c1 : ∀ x ∈ cells.dropLast, 0 ≤ x := fun x hx => b1 x (List.dropLast_subset _ hx)
          have c2 : cells.dropLast.length ≤ 63 := by rw [List.length_dropLast]; omega
          have c3 : 0 ≤ cells.getLast hne := b1 _ (List.getLast_mem hne)
          have R2 := R1.srcNew (H' := upd (upd H' cc (.lst (cells.map V.int).dropLast)) a (.dK (putK (srcKs cc l mx t) (.inr "left") (.int (cells.getLast hne))))) hs' (fun b o hb n1 n2 => by rw [upd_ne n1, upd_ne n2]; exact hb) ⟨_, _, _, _, f1, f2, c1, c2, c3, b4, b5, b6⟩
          exact ⟨cells.length - 1, by omega, rfl, R2.1, _, _, _, _, f1, f2, c1, c2, c3, b4, b5, b6, by rw [List.length_dropLast]⟩
        · dsimp only; rw [if_neg h3]; exact n S σ' H' ρ R1 q
      · dsimp only; rw [if_neg h2]; exact iteF (n S σ' H' ρ R1 q)
    · dsimp only; rw [if_neg h1]; exact iteF (n S σ' H' ρ R1 q)
end
end Gw
namespace Gw
open PySem PySem.Spec PyProof.Rows L2

/-! ## xs[::-1] of a list -/
def gRev (g : DTE) : DTE := fun ρ Q => g ρ fun d ρ' => ∃ ds, d = .list ds ∧ Q (.list ds.reverse) ρ'
theorem RpA.reverse {K : PySem.W.Frag} {S : Vol} {H : Hp} {xs : List V} {ds : List D} (r : RpA K S H xs ds) : RpA K S H xs.reverse ds.reverse := r.rev
theorem drevF {X : Cx} {a : Expr} {g : DTE} {k : Nat} {p1 p2 p3 pos : Pos} (h : DQ X a g) : DF X (.Subscript a (.Slice none none (some (.UnaryOp .USub (.Constant (.int 1) k p1) p2)) p3) pos) (gRev g) := by
  obtain ⟨t, p, s⟩ := h.ex
  refine ⟨_, pe_revL p, fun C S σ H ρ Q kk R q f => s C S σ H ρ _ _ R q fun v H' d ρ' f1 R1 r1 h => ?_⟩
  obtain ⟨ds, rfl, q1⟩ := h
  obtain ⟨b, xs, rfl, hs, ra⟩ := r1.sql
  exact ⟨b, xs, rfl, hs, fun z hz => f z _ _ ρ' (f1.trans (.of (.new hz))) (newOb R1 hz).1 (newOb R1 hz).2 (freshAt f1 R1 hz) (.lst upd_same (RpA.newp ra.reverse hz)) q1⟩

/-! ## _law_source -/
def spN (K : PySem.W.Frag) : Sp := fun vs H Q _ => ∃ (S : Vol) (ns : List Int), ns.length ≤ 63 ∧ RpA K S H vs [.list (ns.map .int)] ∧ (∀ a, S a → ∃ o, H a = some o) ∧ ∀ (H' : Hp) (a c : Addr), Ext H H' → H a = none → H c = none → a ≠ c → SrcOk H' a c → Q (.ref a) H'
def gNew (T1 T2 : DTS) (g0 : DTE) (j : Nat) : Rho → Prop := fun ρ => gSeq T1 T2 { nx := fun ρ => g0 ρ fun d ρ1 => ∃ cells : List Int, d = .list (cells.map .int) ∧ (∀ x ∈ cells, 0 ≤ x) ∧ cells.length ≤ 63 ∧ ∃ m, lk ρ1 j = some (.dat (.int m)) ∧ 0 ≤ m ∧ m < 2 ^ 31, rt := fun _ _ => False } ρ
section
variable {P : Program} {wo : World} {mg : Str → Option Value} {base : Heap} {x qual : Str} {f : Addr} {fd : FuncData} {N : List Str} {k : Nat} {K : PySem.W.Frag} {st : Stmt}
abbrev ctx0 (H : Hp) (S : Vol) : Ctx := { H0 := H, S0 := S, sa := none, vs := [], pr := fun _ => False }
theorem rsStart {S : Vol} {H : Hp} {vs : List V} {ds : List D} (al : ∀ a, S a → ∃ o, H a = some o) (ra : RpA K S H vs ds) : RS K (ctx0 H S) S (start N vs) H (startR N (ds.map .dat)) := by
  refine ⟨startR_len (by rw [List.length_map]; exact ra.len), fun a o h _ => h, al, fun a h => h.elim, fun a h => ⟨h, al a h⟩, fun i c e => ?_, fun i j o o' q _ e1 _ _ _ => ?_, fun q h => by simp at h, fun a c h => by cases h⟩
  all_goals
    have e' := startR_get (by first | exact e | exact e1)
    rw [List.getElem?_map] at e'
    cases hd : ds[i]? with
    | none => rw [hd] at e'; cases e'
    | some d =>
      rw [hd] at e'
      cases e'
      first
        | (obtain ⟨v, hv, rv⟩ := ra.get hd; exact ⟨v, start_get hv, rv⟩)
        | skip
theorem RS.ext0 {S S' : Vol} {σ' : VStore} {H H' : Hp} {ρ' : Rho} (R : RS K (ctx0 H S) S' σ' H' ρ') : Ext H H' := fun a o e => R.fr a o e fun ⟨_, _, z, _⟩ => by cases z
structure NewBody (X : Cx) (body : List Stmt) (T1 T2 : DTS) (g0 : DTE) (j : Nat) : Prop where
  ex : ∃ (s1 s2 : Stmt) (v0 v2 : Expr) (p1 p2 p3 p4 q1 q3 dp rp : Pos) (j1 j2 j3 j4 k1 k3 : Nat), body = [s1, s2, .Return (some (.Dict [some (.Constant (.str "cells") j1 p1), some (.Constant (.str "left") j2 p2), some (.Constant (.str "mixed") j3 p3), some (.Constant (.str "turn") j4 p4)] [v0, .Constant (.int 1) k1 q1, v2, .Constant (.int 0) k3 q3] dp)) rp] ∧
    DS X s1 T1 ∧ DS X s2 T2 ∧ DF X v0 g0 ∧ PE X v2 (tVar j)
theorem fnNew {T1 T2 : DTS} {g0 : DTE} {j : Nat} {sx : Str} (F : Fun K x qual st f fd) (sc : FnScope N [sx] (defScope st))
    (hb : ∀ (cdv : Value) (A : Around) (outer : List Env) (s : Shared) (H : Hp) (E : XK), RoomG k (A.deeper (envOfC qual (defScope st) s.heap.objs.size f cdv)) → NewBody (cxOf CX0 P wo K mg base N qual (defScope st) f cdv A outer s H E).nox (defBody st) T1 T2 g0 j)
    (h : ∀ ns : List Int, ns.length ≤ 63 → gNew T1 T2 g0 j (startR N [.dat (.list (ns.map .int))])) : FnG P wo K mg base CX0 (k + 1) f fd [sx] (spN K) := by
  obtain ⟨oc, od, kV, doc, pm, an, cdv, ct, osl, rfl, lk0, hcd⟩ := F.ex
  have hlen : ∀ vs H Q E, spN K vs H Q E → vs.length = [sx].length := fun vs H Q E ⟨S, ns, _, r, _⟩ => r.len
  refine fnG_of lk0 hcd sc hlen fun A outer s H vs Q E hr hsp => ?_
  obtain ⟨s1, s2, v0, v2, p1, p2, p3, p4, q1, q3, dp, rp, j1, j2, j3, j4, k1, k3, eb, d1, d2, d3, d4⟩ := (hb cdv A outer s H E hr).ex
  obtain ⟨S, ns, hn, ra, al, post⟩ := hsp
  obtain ⟨t1, w1, m1⟩ := d1.ex
  obtain ⟨t2, w2, m2⟩ := d2.ex
  obtain ⟨t0, w0, m0⟩ := d3.ex
  have pd := pe_disp (pos := dp) (pps_cons (pos := dp) (pe_str (x := "cells") (j := j1) (pos := p1)) w0 (pps_cons (pe_str (x := "left") (j := j2) (pos := p2)) (pe_int (i := 1) (j := k1) (pos := q1)) (pps_cons (pe_str (x := "mixed") (j := j3) (pos := p3)) d4 (pps_cons (pe_str (x := "turn") (j := j4) (pos := p4)) (pe_int (i := 0) (j := k3) (pos := q3)) pps_nil)))) rfl rfl (by simp) (by simp)
  rw [eb]
  refine ⟨_, (pss_cons w1 (pss_cons w2 (pss_one (ps_ret pd)))).nox, ?_⟩
  refine m1 _ S _ H _ _ _ (rsStart al ra) (h ns hn) (fun S1 σ1 H1 ρ1 R1 h1 => ?_) (fun _ _ _ _ _ _ _ _ z => z.elim) (fun _ _ _ _ _ z => z.elim) fun _ _ _ _ _ z => z.elim
  refine m2 _ S1 σ1 H1 ρ1 _ _ R1 h1 (fun S2 σ2 H2 ρ2 R2 h2 => ?_) (fun _ _ _ _ _ _ _ _ z => z.elim) (fun _ _ _ _ _ z => z.elim) fun _ _ _ _ _ z => z.elim
  intro p hp
  have Rp' := R2.ext (H' := upd H2 p (.dK [])) (.new hp)
  have pS : ¬ S2 p := R2.notS hp
  refine m0 _ S2 σ2 _ ρ2 _ _ Rp' h2 fun c H3 d ρ3 f3 R3 R3' hc ob q3 => ?_
  obtain ⟨cells, rfl, b1, b2, m, hm, b3, b4⟩ := q3
  have cp : c ≠ p := fun z => by rw [z, upd_same] at hc; cases hc
  have hp3 : H3 p = some (.dK []) := f3 p _ upd_same (.inl pS)
  obtain ⟨v, ev, rv⟩ := R3.ent j _ (lk_get hm)
  have rv' : Rp K S2 H3 v (.int m) := rv
  cases rv'
  refine ⟨_, ev, hp3, [(.inr "cells", .ref c), (.inr "left", .int 1), (.inr "mixed", .int m), (.inr "turn", .int 0)], rfl, by simp, ?_⟩
  cases ob with
  | lst hL rL =>
    rw [rL.ints] at hL
    refine post _ p c (fun a o e => ?_) ?_ ?_ (Ne.symm cp) ⟨cells, 1, m, 0, by rw [upd_same]; rfl, by rw [upd_ne cp]; exact hL, b1, b2, by decide, b3, b4, by decide⟩
    · have n : a ≠ p := fun z => by
        have := R2.ext0 a o e
        rw [z, hp] at this
        cases this
      rw [upd_ne n]
      exact R3.ext0 a o e
    · exact (R2.free0 hp).1
    · exact (Rp'.free0 hc).1
end
/-! ## the law itself -/
def spLaw (K : PySem.W.Frag) : Sp := fun vs H Q _ => ∃ (S : Vol) (ns : List Int), ns.length ≤ 63 ∧ RpA K S H vs [.list (ns.map .int)] ∧ (∀ a, S a → ∃ o, H a = some o) ∧ ∀ H', Q (.bl true) H'
theorem spLaw_of {K : PySem.W.Frag} {H : Hp} {a : Addr} {ns : List Int} (hl : ns.length ≤ 63) (h : LawArg K H a (ns.map V.int)) : spLaw K [.ref a] H (fun v _ => v = .bl true) fun _ _ _ => False := by
  refine ⟨fun _ => False, ns, hl, .cons (.lst ?_ (RpA.ofInts ns)) .nil, fun _ h => h.elim, fun _ => rfl⟩
  exact h.imp (fun h => ⟨.inr h, fun z => z⟩) id
structure SrcStmt (X : Cx) (s1 : Stmt) (i : Nat) : Prop where
  ex : ∃ t, PS X s1 t ∧ ∀ (H : Hp) (S : Vol) (σ : VStore) (ρ : Rho) (E : Ends) (ns : List Int), RS X.K (ctx0 H S) S σ H ρ → lk ρ 0 = some (.dat (.list (ns.map .int))) → ns.length ≤ 63 →
    (∀ (a c : Addr) (H' : Hp), Ext H H' → H a = none → H c = none → a ≠ c → SrcOk H' a c → E.nx (σ.set i (some (.ref a))) H') → t E σ H
theorem dnew {X : Cx} (i : Nat) {f : Addr} {fd : FuncData} {k : Nat} {sp y sx : Str} {p1 p2 p3 pos py : Pos} (F : FnG X.prog X.w X.K X.mg X.base CX0 k f fd [sp] (spN X.K)) (hr : RoomG k X.A) (hm : X.mg "_law_source" = some (.ref f)) (hk : PySem.W.keepIn X.K (.ref f) = true) (hb : Binds X.K fd [sp] [])
    (hN0 : X.N[0]? = some sx) (hv0 : Vis X.env.scope sx) (hd : (sx == ("__debug__" : Str)) = false) (hcd : (sx == ("__classdict__" : Str)) = false) (hg : Gl X "_law_source")
    (he : starEach [.Name sx p2] X.env = (false, eval (.Name sx p2) X.env) :: starEach [] X.env) (hpl : (backTo p3 (starEach [] X.env)).any (·.1) = false)
    (hN : X.N.Nodup) (hi : X.N[i]? = some y) (hx : Loc X.env.scope y) (hs : swapsWith (.Call (.Name "_law_source" p1) [.Name sx p2] [] p3) (some (.Name y py)) pos.line X.env = pure false) (hf : X.fn y = true ∨ X.env.scope.names.lookup y = some .local) :
    SrcStmt X (.Assign [.Name y py] (.Call (.Name "_law_source" p1) [.Name sx p2] [] p3) pos) i := by
  refine ⟨_, ps_set hN hi hx (pe_callG F hr hg hm hk hb .nil pass0 (pa_cons (pe_var hN0 hv0 hd hcd) pa_nil he) (by decide) he hpl) hs hf, fun H S σ ρ E ns R h0 hl h => ?_⟩
  obtain ⟨v, e0, r⟩ := R.ent 0 _ (lk_get h0)
  exact ⟨v, e0, S, ns, hl, .cons r .nil, R.al, fun H' a c e ha hc hac so => h a c H' e ha hc hac so⟩
section
variable {P : Program} {wo : World} {mg : Str → Option Value} {base : Heap} {x qual : Str} {f : Addr} {fd : FuncData} {N : List Str} {k : Nat} {K : PySem.W.Frag} {st : Stmt}
theorem fnLaw {T : DTS} {sx : Str} (i : Nat) (F : Fun K x qual st f fd) (sc : FnScope N [sx] (defScope st)) (hi : i < N.length) (hi0 : 0 < i) (hNl : 1 ≤ N.length)
    (hb : ∀ (cdv : Value) (A : Around) (outer : List Env) (s : Shared) (H : Hp) (E : XK), RoomG k (A.deeper (envOfC qual (defScope st) s.heap.objs.size f cdv)) →
      ∃ s1 rest, defBody st = s1 :: rest ∧ SrcStmt (cxOf CX0 P wo K mg base N qual (defScope st) f cdv A outer s H E).nox s1 i ∧ DSs (cxOf CX0 P wo K mg base N qual (defScope st) f cdv A outer s H E).nox rest T)
    (h : ∀ d0 : D, T { nx := fun _ => False, rt := fun d _ => d = .bool true } ((startR N [.dat d0]).set i (some .srcR))) : FnG P wo K mg base CX0 (k + 1) f fd [sx] (spLaw K) := by
  obtain ⟨oc, od, kV, doc, pm, an, cdv, ct, osl, rfl, lk0, hcd⟩ := F.ex
  have hlen : ∀ vs H Q E, spLaw K vs H Q E → vs.length = [sx].length := fun vs H Q E ⟨S, ns, _, r, _⟩ => r.len
  refine fnG_of lk0 hcd sc hlen fun A outer s H vs Q E hr hsp => ?_
  obtain ⟨s1, rest, eb, ss, d2⟩ := hb cdv A outer s H E hr
  obtain ⟨t1, w1, m1⟩ := ss.ex
  obtain ⟨t2, w2, m2⟩ := d2.ex
  obtain ⟨S, ns, hl, ra, al, post⟩ := hsp
  rw [eb]
  refine ⟨_, (pss_cons w1 w2).nox, ?_⟩
  have R0 := rsStart (N := N) al ra
  refine m1 H S _ _ _ ns R0 rfl hl fun a c H' e ha hc hac so => ?_
  have nM : ∀ (x : Addr) (o : HO), H x = some o → x ≠ a ∧ x ≠ c := fun x o z => ⟨fun w => (by rw [w, ha] at z; cases z), fun w => (by rw [w, hc] at z; cases z)⟩
  have hlR : i < (startR N [Cl.dat (PyData.list (ns.map PyData.int))]).length := by
    unfold startR
    simp only [List.length_append, List.length_map, List.length_replicate, List.length_cons, List.length_nil]
    omega
  have lv := ra.len
  have hlS : i < (L2.start N vs).length := by
    have e2 := startR_len (N := N) (vs := vs) (cs := [Cl.dat (PyData.list (ns.map PyData.int))]) (by simpa using lv)
    rw [e2]; exact hlR
  have R : RS K { H0 := H, S0 := S, sa := some (a, c), vs := [], pr := fun _ => False } (fun x => S x ∨ x = a ∨ x = c) ((L2.start N vs).set i (some (.ref a))) H' ((startR N [.dat (.list (ns.map .int))]).set i (some .srcR)) := by
    refine ⟨by rw [List.length_set, List.length_set]; exact R0.len, fun x o z _ => e x o z, fun x z => ?_, fun x z => z.elim, fun x z => ⟨.inl z, al x z⟩, fun j cl z => ?_, fun j j' o o' p _ z _ _ _ => ?_, fun q z => by simp at z, fun a' c' z => ?_⟩
    · rcases z with z | z | z
      · obtain ⟨o, w⟩ := al x z
        exact ⟨o, e x o w⟩
      · obtain ⟨_, _, _, _, q, _⟩ := so
        rw [z]; exact ⟨_, q⟩
      · obtain ⟨_, _, _, _, _, q, _⟩ := so
        rw [z]; exact ⟨_, q⟩
    · by_cases hj : i = j
      · subst hj
        rw [List.getElem?_set_self hlR] at z
        cases z
        exact ⟨.ref a, List.getElem?_set_self hlS, a, c, rfl, rfl⟩
      · rw [List.getElem?_set_ne hj] at z
        obtain ⟨v, z1, z2⟩ := R0.ent j cl z
        refine ⟨v, by rw [List.getElem?_set_ne hj]; exact z1, ?_⟩
        have e' := startR_get z
        cases j with
        | zero =>
          cases e'
          exact Rp.mv (fun b o w _ => e b o w) (fun b w => w.imp id fun w => w.elim (fun w => by rw [w]; exact ha) fun w => by rw [w]; exact hc) z2
        | succ j => simp at e'
    · by_cases hj : i = j
      · subst hj
        rw [List.getElem?_set_self hlR] at z
        cases z
      · rw [List.getElem?_set_ne hj] at z
        have e' := startR_get z
        cases j with
        | zero => cases e'
        | succ j => simp at e'
    · cases z
      exact ⟨hac, .inr (.inl rfl), .inr (.inr rfl), fun z => z, fun z => z, so⟩
  exact m2 _ _ _ _ _ _ _ R (h _) (fun _ _ _ _ _ z => z.elim) (fun S' σ' H' ρ' v d R' rv q => by
    have q' : d = .bool true := q
    subst q'
    cases rv
    exact post H') (fun _ _ _ _ _ z => z.elim) fun _ _ _ _ _ z => z.elim
end
end Gw
namespace Gw
open PySem PySem.Spec PyProof.Rows L2

def Bnd (fd : FuncData) (ps : List Str) : Prop := ∀ us : List Value, us.length = ps.length → bindArgs fd ⟨us, []⟩ = pure (ps.zip us)
def relS (scope sc : Scope) : Scope := { scope with names := scope.names.map fun (n, k) => if (k == .free && sc.kind == .function && sc.names.lookup n == some .cell) then (n, .cell) else (n, k) }
theorem relabel_eq (scope : Scope) (env : Env) : relabel scope env = relS scope env.scope := rfl
theorem huOf1 {k : Nat} {A : Around} (h : RoomG k A) : A.units + 65 < cLine := by have := h.room.un; omega
theorem huOf {k : Nat} {A : Around} (h : RoomG k A) : A.units + 64 < cLine := by have := h.room.un; omega
/-- a def of the text, where it stands -/
structure DefAt (K : PySem.W.Frag) (mg : Str → Option Value) (x : Str) (st : Stmt) (ps : List Str) : Prop where
  ex : ∃ f fd, Fun K x x st f fd ∧ mg x = some (.ref f) ∧ Bnd fd ps
/-- a def that may be called -/
structure CalG (P : Program) (wo : World) (K : PySem.W.Frag) (mg : Str → Option Value) (base : Heap) (k : Nat) (x : Str) (ps : List Str) (sp : Sp) : Prop where
  ex : ∃ f fd, FnG P wo K mg base CX0 k f fd ps sp ∧ mg x = some (.ref f) ∧ PySem.W.keepIn K (.ref f) = true ∧ Bnd fd ps ∧ ∃ oc od osl, K.lookup f = some ⟨oc, od, .func fd, osl⟩
section
variable {P : Program} {wo : World} {mg : Str → Option Value} {base : Heap} {x : Str} {N ps : List Str} {k : Nat} {K : PySem.W.Frag} {st : Stmt} {sp : Spec} {T : DTS}
theorem CalG.mono {j : Nat} {s : Sp} (h : CalG P wo K mg base j x ps s) (hj : j ≤ k) : CalG P wo K mg base k x ps s := let ⟨f, fd, F, r⟩ := h.ex; ⟨f, fd, F.mono hj, r⟩
theorem calP (d : DefAt K mg x st ps) (sc : FnScope N ps (defScope st)) (hn : sp.n = ps.length)
    (hb : ∀ (f : Addr) (cdv : Value) (A : Around) (outer : List Env) (s : Shared) (H : Hp) (E : XK), RoomG k (A.deeper (envOfC x (defScope st) s.heap.objs.size f cdv)) → DSs (cxOf CX0 P wo K mg base N x (defScope st) f cdv A outer s H E).nox (defBody st) T)
    (h : ∀ ds Q, sp.w ds Q → T { nx := fun _ => Q .none, rt := fun d _ => Q d } (startR N (ds.map .dat))) : CalG P wo K mg base (k + 1) x ps (spP K sp) :=
  let ⟨f, fd, F, hm, hB⟩ := d.ex
  ⟨f, fd, fnP F sc hn (hb f) h, hm, F.kp, hB, let ⟨_, _, _, _, _, _, _, _, _, _, l, _⟩ := F.ex; ⟨_, _, _, l⟩⟩
theorem calS (d : DefAt K mg x st ps) (sc : FnScope N ps (defScope st)) (hn : sp.n + 1 = ps.length)
    (hb : ∀ (f : Addr) (cdv : Value) (A : Around) (outer : List Env) (s : Shared) (H : Hp) (E : XK), RoomG k (A.deeper (envOfC x (defScope st) s.heap.objs.size f cdv)) → DSs (cxOf CX0 P wo K mg base N x (defScope st) f cdv A outer s H E).nox (defBody st) T)
    (h : ∀ ds Q, sp.w ds Q → T { nx := fun _ => Q .none, rt := fun d _ => Q d } (startR N (.srcR :: ds.map .dat))) : CalG P wo K mg base (k + 1) x ps (spS K sp) :=
  let ⟨f, fd, F, hm, hB⟩ := d.ex
  ⟨f, fd, fnS F sc hn (hb f) h, hm, F.kp, hB, let ⟨_, _, _, _, _, _, _, _, _, _, l, _⟩ := F.ex; ⟨_, _, _, l⟩⟩
theorem calN {T1 T2 : DTS} {g0 : DTE} {j : Nat} {sx : Str} (d : DefAt K mg x st [sx]) (sc : FnScope N [sx] (defScope st))
    (hb : ∀ (f : Addr) (cdv : Value) (A : Around) (outer : List Env) (s : Shared) (H : Hp) (E : XK), RoomG k (A.deeper (envOfC x (defScope st) s.heap.objs.size f cdv)) → NewBody (cxOf CX0 P wo K mg base N x (defScope st) f cdv A outer s H E).nox (defBody st) T1 T2 g0 j)
    (h : ∀ ns : List Int, ns.length ≤ 63 → gNew T1 T2 g0 j (startR N [.dat (.list (ns.map .int))])) : CalG P wo K mg base (k + 1) x [sx] (spN K) :=
  let ⟨f, fd, F, hm, hB⟩ := d.ex
  ⟨f, fd, fnNew F sc (hb f) h, hm, F.kp, hB, let ⟨_, _, _, _, _, _, _, _, _, _, l, _⟩ := F.ex; ⟨_, _, _, l⟩⟩
theorem calL {sx : Str} (i : Nat) (d : DefAt K mg x st [sx]) (sc : FnScope N [sx] (defScope st)) (hi : i < N.length) (hi0 : 0 < i) (hNl : 1 ≤ N.length)
    (hb : ∀ (f : Addr) (cdv : Value) (A : Around) (outer : List Env) (s : Shared) (H : Hp) (E : XK), RoomG k (A.deeper (envOfC x (defScope st) s.heap.objs.size f cdv)) →
      ∃ s1 rest, defBody st = s1 :: rest ∧ SrcStmt (cxOf CX0 P wo K mg base N x (defScope st) f cdv A outer s H E).nox s1 i ∧ DSs (cxOf CX0 P wo K mg base N x (defScope st) f cdv A outer s H E).nox rest T)
    (h : ∀ d0 : D, T { nx := fun _ => False, rt := fun d _ => d = .bool true } ((startR N [.dat d0]).set i (some .srcR))) : CalG P wo K mg base (k + 1) x [sx] (spLaw K) :=
  let ⟨f, fd, F, hm, hB⟩ := d.ex
  ⟨f, fd, fnLaw i F sc hi hi0 hNl (hb f) h, hm, F.kp, hB, let ⟨_, _, _, _, _, _, _, _, _, _, l, _⟩ := F.ex; ⟨_, _, _, l⟩⟩
end
section
variable {X : Cx} {k : Nat} {x : Str} {ps : List Str} {sp : Spec} {e : Expr} {es : List Expr} {l : DTA} {pos p : Pos}
theorem dcallC (F : CalG X.prog X.w X.K X.mg X.base k x ps (spP X.K sp)) (hr : RoomG k X.A) (ha : DA X (e :: es) l)
    (hg : Gl X x := by rfl) (hdb : (x == ("__debug__" : Str)) = false := by decide) (he : starEach (e :: es) X.env = (false, eval e X.env) :: starEach es X.env := by rfl) (hpl : (backTo pos (starEach es X.env)).any (·.1) = false := by rfl) :
    DE X (.Call (.Name x p) (e :: es) [] pos) (gCall sp l) :=
  let ⟨_, _, F, hm, hk, hb, _⟩ := F.ex
  dcall F hr hm hk (.all hb) ha hg hdb he hpl
theorem dcallSC (i : Nat) {sx : Str} {psx : Pos} (F : CalG X.prog X.w X.K X.mg X.base k x ps (spS X.K sp)) (hr : RoomG k X.A) (ha : DA X es l)
    (hg : Gl X x := by rfl) (hdb : (x == ("__debug__" : Str)) = false := by decide) (he : starEach (.Name sx psx :: es) X.env = (false, eval (.Name sx psx) X.env) :: starEach es X.env := by rfl) (hpl : (backTo pos (starEach es X.env)).any (·.1) = false := by rfl)
    (hN : X.N[i]? = some sx := by rfl) (hv : Vis X.env.scope sx := by first | exact Or.inl rfl | exact Or.inr (Or.inl rfl) | exact Or.inr (Or.inr rfl)) (hd : (sx == ("__debug__" : Str)) = false := by decide) (hcd : (sx == ("__classdict__" : Str)) = false := by decide) :
    DE X (.Call (.Name x p) (.Name sx psx :: es) [] pos) (gCallS sp i l) :=
  let ⟨_, _, F, hm, hk, hb, _⟩ := F.ex
  dcallS i F hr hm hk (.all hb) ha hg hdb he hpl hN hv hd hcd
theorem dnewC (i : Nat) {sp y sx : Str} {p1 p2 p3 pos py : Pos} (F : CalG X.prog X.w X.K X.mg X.base k "_law_source" [sp] (spN X.K)) (hr : RoomG k X.A) (hN : X.N.Nodup)
    (hN0 : X.N[0]? = some sx := by rfl) (hv0 : Vis X.env.scope sx := by first | exact Or.inl rfl | exact Or.inr (Or.inl rfl) | exact Or.inr (Or.inr rfl)) (hd : (sx == ("__debug__" : Str)) = false := by decide) (hcd : (sx == ("__classdict__" : Str)) = false := by decide) (hg : Gl X "_law_source" := by rfl)
    (he : starEach [.Name sx p2] X.env = (false, eval (.Name sx p2) X.env) :: starEach [] X.env := by rfl) (hpl : (backTo p3 (starEach [] X.env)).any (·.1) = false := by rfl)
    (hi : X.N[i]? = some y := by rfl) (hx : Loc X.env.scope y := by first | exact Or.inl rfl | exact Or.inr rfl) (hs : swapsWith (.Call (.Name "_law_source" p1) [.Name sx p2] [] p3) (some (.Name y py)) pos.line X.env = pure false := by rfl) (hf : X.fn y = true ∨ X.env.scope.names.lookup y = some .local := by first | exact .inl rfl | exact .inr rfl) :
    SrcStmt X (.Assign [.Name y py] (.Call (.Name "_law_source" p1) [.Name sx p2] [] p3) pos) i :=
  let ⟨_, _, F, hm, hk, hb, _⟩ := F.ex
  dnew i F hr hm hk (.all hb) hN0 hv0 hd hcd hg he hpl hN hi hx hs hf
/-- x = a if c else x, x an own object -/
def gSetIf (i : Nat) (c : DTT) (g : DTE) : DTS := fun G ρ => c ρ fun b ρ1 => if b = true then g ρ1 fun d ρ2 => G.nx (ρ2.set i (some (.own d))) else ∃ d, lk ρ1 i = some (.own d) ∧ G.nx ρ1
theorem dsetIf (i : Nat) {c a : Expr} {s : DTT} {g : DTE} {px py pif : Pos} (hN : X.N.Nodup) (hc : DT X c s) (ha : DF X a g) (hi : X.N[i]? = some x := by rfl) (hx : Loc X.env.scope x := by first | exact Or.inl rfl | exact Or.inr rfl)
    (hs : swapsWith (.IfExp c a (.Name x py) pif) (some (.Name x px)) pos.line X.env = pure false := by rfl) (hf : X.fn x = true ∨ X.env.scope.names.lookup x = some .local := by first | exact .inl rfl | exact .inr rfl | assumption)
    (hv : Vis X.env.scope x := by first | exact Or.inl rfl | exact Or.inr (Or.inl rfl) | exact Or.inr (Or.inr rfl)) (hd : (x == ("__debug__" : Str)) = false := by decide) (hcd : (x == ("__classdict__" : Str)) = false := by decide) :
    DS X (.Assign [.Name x px] (.IfExp c a (.Name x py) pif) pos) (gSetIf i s g) := by
  obtain ⟨_, p1, s1⟩ := hc.ex
  obtain ⟨_, p2, s2⟩ := ha.ex
  refine ⟨_, ps_set hN hi hx (pe_ifExp p1 p2 (pe_var hi hv hd hcd)) hs hf, fun C S σ H ρ E G R q n r b cc => s1 C S σ H ρ _ _ R q fun bb H1 ρ1 f1 R1 q1 => ?_⟩
  cases bb with
  | true => exact iteT (simSetO i s2 C S σ H1 ρ1 E { G with nx := G.nx } R1 (unT q1) n r b cc)
  | false =>
    obtain ⟨d, h0, q2⟩ := unF q1
    obtain ⟨z, e0, _, _⟩ := R1.own (lk_get h0)
    refine iteF ⟨_, e0, ?_⟩
    have hlt := (List.getElem?_eq_some_iff.mp e0).1
    have es : σ.set i (some (.ref z)) = σ := by
      refine List.ext_getElem? fun j => ?_
      by_cases hj : i = j
      · subst hj; rw [List.getElem?_set_self hlt, e0]
      · rw [List.getElem?_set_ne hj]
    show E.nx (σ.set i (some (.ref z))) H1
    rw [es]
    exact n S σ H1 ρ1 R1 q2
end
theorem lawFd {P : Program} {wo : World} {K : PySem.W.Frag} {mg : Str → Option Value} {base : Heap} {k : Nat} {x : Str} {ps : List Str} {fa : Addr} {fd : FuncData} {s : Sp} {oc : Value} {od : Option Addr} {osl : Array (Option Value)} (hm : mg x = some (.ref fa)) (l : K.lookup fa = some ⟨oc, od, .func fd, osl⟩) (C : CalG P wo K mg base k x ps s) : FnG P wo K mg base CX0 k fa fd ps s := by
  obtain ⟨f, fd', F, h, _, _, oc', od', osl', l'⟩ := C.ex
  rw [hm] at h
  cases h
  rw [l] at l'
  cases l'
  exact F
end Gw
namespace Gw
open PySem PySem.Spec PyProof.Rows L2

/-! ## reading the readings -/
section
variable {ρ ρ' : Rho} {Q : D → Rho → Prop} {G : DEnds} {i j k : Nat}
@[simp] theorem lk_zero {c : Option Cl} {r : Rho} : lk (c :: r) 0 = c := rfl
@[simp] theorem lk_succ {c : Option Cl} {r : Rho} {n : Nat} : lk (c :: r) (n + 1) = lk r n := rfl
@[simp] theorem gVar_s : gVar i ρ Q = ∃ d, lk ρ i = some (.dat d) ∧ Q d ρ := rfl
@[simp] theorem gOwn_s : gOwn i ρ Q = ∃ d, lk ρ i = some (.own d) ∧ Q d ρ := rfl
@[simp] theorem gC_s {d : D} : gC d ρ Q = Q d ρ := rfl
@[simp] theorem gBin_s {f : DOp} {a b : DTE} : gBin f a b ρ Q = a ρ fun x ρ1 => b ρ1 fun y ρ2 => f x y fun d => Q d ρ2 := rfl
@[simp] theorem gBinO_s {f : DOp} {b : DTE} : gBinO f i b ρ Q = ((∃ x, lk ρ i = some (.own x)) ∧ b ρ fun y ρ2 => ∃ x, lk ρ2 i = some (.own x) ∧ f x y fun d => Q d ρ2) := rfl
@[simp] theorem gTest_s {g : DTE} {P : Bool → Rho → Prop} : gTest g ρ P = g ρ fun d ρ' => ∃ b, d = .bool b ∧ P b ρ' := rfl
@[simp] theorem gTru_s {g : DTE} {P : Bool → Rho → Prop} : gTru g ρ P = g ρ fun d ρ' => ∃ b, truD d = some b ∧ P b ρ' := rfl
@[simp] theorem gAnd_s {s t : DTT} {P : Bool → Rho → Prop} : gAnd s t ρ P = s ρ fun c ρ' => if c = true then t ρ' P else P false ρ' := rfl
@[simp] theorem gOr_s {s t : DTT} {P : Bool → Rho → Prop} : gOr s t ρ P = s ρ fun c ρ' => if c = true then P true ρ' else t ρ' P := rfl
@[simp] theorem gNot_s {s : DTT} {P : Bool → Rho → Prop} : gNot s ρ P = s ρ fun c ρ' => P (!c) ρ' := rfl
@[simp] theorem gYes_s {P : Bool → Rho → Prop} : gYes ρ P = P true ρ := rfl
@[simp] theorem gAndV_s {a b : DTE} : gAndV a b ρ Q = a ρ fun d ρ' => ∃ c, d = .bool c ∧ if c = true then b ρ' Q else Q (.bool false) ρ' := rfl
@[simp] theorem gOrV_s {a b : DTE} : gOrV a b ρ Q = a ρ fun d ρ' => ∃ c, d = .bool c ∧ if c = true then Q (.bool true) ρ' else b ρ' Q := rfl
@[simp] theorem gNotV_s {a : DTE} : gNotV a ρ Q = a ρ fun d ρ' => ∃ c, d = .bool c ∧ Q (.bool (!c)) ρ' := rfl
@[simp] theorem gIsN_s {b : Bool} {a : DTE} : gIsN b a ρ Q = a ρ fun d ρ' => Q (.bool (match d with | .none => !b | _ => b)) ρ' := rfl
@[simp] theorem gIf_s {s : DTT} {a b : DTE} : gIf s a b ρ Q = s ρ fun c ρ' => if c = true then a ρ' Q else b ρ' Q := rfl
@[simp] theorem gNil_s {P : List D → Rho → Prop} : gNil ρ P = P [] ρ := rfl
@[simp] theorem gCons_s {g : DTE} {l : DTA} {P : List D → Rho → Prop} : gCons g l ρ P = g ρ fun d ρ1 => l ρ1 fun ds ρ2 => P (d :: ds) ρ2 := rfl
@[simp] theorem gTup_s {l : DTA} : gTup l ρ Q = l ρ fun ds ρ' => ds.length ≤ 100000 ∧ Q (.tuple ds) ρ' := rfl
@[simp] theorem gLst_s {l : DTA} : gLst l ρ Q = l ρ fun ds ρ' => ds.length ≤ 100000 ∧ Q (.list ds) ρ' := rfl
@[simp] theorem gNeg_s {g : DTE} : gNeg g ρ Q = g ρ fun d ρ' => ∃ i, d = .int i ∧ Q (.int (-i)) ρ' := rfl
@[simp] theorem gNo_s {P : Option Int → Rho → Prop} : gNo ρ P = P none ρ := rfl
@[simp] theorem gSome_s {g : DTE} {P : Option Int → Rho → Prop} : gSome g ρ P = g ρ fun d ρ' => ∃ i, d = .int i ∧ P (some i) ρ' := rfl
@[simp] theorem gSl_s {g : DTE} {l h : DTO} : gSl g l h ρ Q = g ρ fun d ρ1 => l ρ1 fun lo ρ2 => h ρ2 fun hi ρ3 => match d with
  | .tuple ds => Q (.tuple (cutD ds lo hi)) ρ3
  | .list ds => Q (.list (cutD ds lo hi)) ρ3
  | _ => False := rfl
@[simp] theorem gU_s {f : DU} {g : DTE} : gU f g ρ Q = g ρ fun d ρ' => f d fun d' => Q d' ρ' := rfl
@[simp] theorem gA_s {f : List D → (D → Prop) → Prop} {l : DTA} : gA f l ρ Q = l ρ fun ds ρ' => f ds fun d' => Q d' ρ' := rfl
@[simp] theorem gCall_s {sp : Spec} {l : DTA} : gCall sp l ρ Q = l ρ fun ds ρ' => sp.w ds fun d => Q d ρ' := rfl
@[simp] theorem gCallS_s {sp : Spec} {l : DTA} : gCallS sp i l ρ Q = (lk ρ i = some .srcR ∧ l ρ fun ds ρ' => lk ρ' i = some .srcR ∧ sp.w ds fun d => Q d ρ') := rfl
@[simp] theorem gRev_s {g : DTE} : gRev g ρ Q = g ρ fun d ρ' => ∃ ds, d = .list ds ∧ Q (.list ds.reverse) ρ' := rfl
@[simp] theorem gPop_s : gPop i ρ Q = ∃ ds d, lk ρ i = some (.own (.list (ds ++ [d]))) ∧ Q d (ρ.set i (some (.own (.list ds)))) := rfl
@[simp] theorem gPopAt_s {g : DTE} : gPopAt i g ρ Q = ((∃ ds, lk ρ i = some (.own (.list ds))) ∧ g ρ fun kd ρ1 => ∃ ds k d, kd = .int (k : Nat) ∧ lk ρ1 i = some (.own (.list ds)) ∧ k < 100000 ∧ ds[k]? = some d ∧ Q d (ρ1.set i (some (.own (.list (ds.eraseIdx k)))))) := rfl
@[simp] theorem gLRg_s {g : Rho → (Int → Int → Rho → Prop) → Prop} : gLRg g ρ Q = g ρ fun i j ρ' => rngB i j ∧ Q (.list (rngD i (j - i).toNat)) ρ' := rfl
@[simp] theorem gTRg_s {g : Rho → (Int → Int → Rho → Prop) → Prop} : gTRg g ρ Q = g ρ fun i j ρ' => rngB i j ∧ Q (.tuple (rngD i (j - i).toNat)) ρ' := rfl
@[simp] theorem gRg1_s {g : DTE} {P : Int → Int → Rho → Prop} : gRg1 g ρ P = g ρ fun d ρ' => ∃ j, d = .int j ∧ P 0 j ρ' := rfl
@[simp] theorem gRg2_s {g h : DTE} {P : Int → Int → Rho → Prop} : gRg2 g h ρ P = g ρ fun d ρ1 => h ρ1 fun d2 ρ' => ∃ i j, d = .int i ∧ d2 = .int j ∧ P i j ρ' := rfl
@[simp] theorem gSrc_s {P : Int → Prop} : gSrc i P ρ Q = (lk ρ i = some .srcR ∧ ∀ v, P v → Q (.int v) ρ) := rfl
/-! operations -/
section
variable {P : D → Prop} {a b : Int} {ds es : List D}
@[simp] theorem addD_ii : addD (.int a) (.int b) P = P (.int (a + b)) := rfl
@[simp] theorem addD_tt : addD (.tuple ds) (.tuple es) P = (ds.length + es.length ≤ 100000 ∧ P (.tuple (ds ++ es))) := rfl
@[simp] theorem addD_ll : addD (.list ds) (.list es) P = (ds.length + es.length ≤ 100000 ∧ P (.list (ds ++ es))) := rfl
@[simp] theorem catD_ll : catD (.list ds) (.list es) P = (ds.length + es.length ≤ 100000 ∧ P (.list (ds ++ es))) := rfl
@[simp] theorem subD_ii : subD (.int a) (.int b) P = P (.int (a - b)) := rfl
@[simp] theorem mulI_ii : mulI (.int a) (.int b) P = (((-(2 ^ 64) < a ∧ a < 2 ^ 64) ∨ (-(2 ^ 64) < b ∧ b < 2 ^ 64)) ∧ P (.int (a * b))) := rfl
@[simp] theorem repD_li : repD (.list ds) (.int b) P = (b < 2 ^ 20 ∧ -(2 ^ 20) < b ∧ ds.length * b.toNat ≤ 100000 ∧ P (.list (List.replicate b.toNat ds).flatten)) := rfl
@[simp] theorem fdivD_ii : fdivD (.int a) (.int b) P = ((0 < b ∧ b < 1073741824) ∧ P (.int (a / b))) := rfl
@[simp] theorem modD_ii : modD (.int a) (.int b) P = (0 < b ∧ P (.int (a % b))) := rfl
@[simp] theorem ltD_ii : ltD (.int a) (.int b) P = P (.bool (decide (a < b))) := rfl
@[simp] theorem leD_ii : leD (.int a) (.int b) P = P (.bool (decide (a ≤ b))) := rfl
@[simp] theorem gtD_ii : gtD (.int a) (.int b) P = P (.bool (decide (b < a))) := rfl
@[simp] theorem geD_ii : geD (.int a) (.int b) P = P (.bool (decide (b ≤ a))) := rfl
@[simp] theorem eqD_s {x y : D} : eqD x y P = (eqOk x y = true ∧ P (.bool (PyData.eqv x y))) := rfl
@[simp] theorem neD_s {x y : D} : neD x y P = (eqOk x y = true ∧ P (.bool (!PyData.eqv x y))) := rfl
@[simp] theorem eqOk_s {x y : Str} : eqOk (.str x) (.str y) = true := rfl
@[simp] theorem eqOk_i {x y : Int} : eqOk (.int x) (.int y) = true := rfl
theorem eqOk_of {x y : D} (h1 : SeqAt.shaped x = true) (h2 : SeqAt.shaped y = true) : eqOk x y = true := by
  unfold eqOk
  split
  · rfl
  · rw [h1, h2]; rfl
@[simp] theorem inD_l {x : D} : inD x (.list ds) P = (SeqAt.shaped x = true ∧ SeqAt.shaped (.list ds) = true ∧ P (.bool (ds.any fun z => PyData.eqv z x))) := rfl
@[simp] theorem inD_t {x : D} : inD x (.tuple ds) P = (flatD x = true ∧ ds.all flatD = true ∧ P (.bool (ds.any fun z => PyData.eqv z x))) := rfl
@[simp] theorem ninD_l {x : D} : ninD x (.list ds) P = (SeqAt.shaped x = true ∧ SeqAt.shaped (.list ds) = true ∧ P (.bool (!ds.any fun z => PyData.eqv z x))) := rfl
@[simp] theorem ninD_t {x : D} : ninD x (.tuple ds) P = (flatD x = true ∧ ds.all flatD = true ∧ P (.bool (!ds.any fun z => PyData.eqv z x))) := rfl
@[simp] theorem ixD_l : ixD (.list ds) (.int a) P = ∃ d, atI ds a = some d ∧ P d := rfl
@[simp] theorem ixD_t : ixD (.tuple ds) (.int a) P = ∃ d, atI ds a = some d ∧ P d := rfl
@[simp] theorem lenU_l : lenU (.list ds) P = P (.int ds.length) := rfl
@[simp] theorem lenU_t : lenU (.tuple ds) P = P (.int ds.length) := rfl
@[simp] theorem tupU_l : tupU (.list ds) P = P (.tuple ds) := rfl
@[simp] theorem tupU_t : tupU (.tuple ds) P = P (.tuple ds) := rfl
@[simp] theorem lstU_l : lstU (.list ds) P = P (.list ds) := rfl
@[simp] theorem lstU_t : lstU (.tuple ds) P = P (.list ds) := rfl
@[simp] theorem intU_i : intU (.int a) P = P (.int a) := rfl
@[simp] theorem intU_b {c : Bool} : intU (.bool c) P = P (.int (if c then 1 else 0)) := rfl
@[simp] theorem absU_i : absU (.int a) P = P (.int (if a < 0 then -a else a)) := rfl
@[simp] theorem max2_ii : max2A [.int a, .int b] P = P (.int (if b > a then b else a)) := rfl
@[simp] theorem min2_ii : min2A [.int a, .int b] P = P (.int (if b < a then b else a)) := rfl
@[simp] theorem reprU_s {x : D} : reprU x P = ((∃ n k, OkR n k x ∧ n ≤ 2 ^ 20 ∧ k ≤ 60) ∧ P (.str x.shown)) := rfl
theorem sumU_t {ns : List Int} (h : P (.int ns.sum)) : sumU (.tuple (ns.map .int)) P := ⟨ns, .inr rfl, h⟩
theorem sumU_l {ns : List Int} (h : P (.int ns.sum)) : sumU (.list (ns.map .int)) P := ⟨ns, .inl rfl, h⟩
end
/-! statements -/
@[simp] theorem gNext_s : gNext G ρ = G.nx ρ := rfl
@[simp] theorem gSeq_s {T U : DTS} : gSeq T U G ρ = T { nx := U G, rt := G.rt, bk := G.bk, ct := G.ct } ρ := rfl
@[simp] theorem gRet_s {g : DTE} : gRet g G ρ = g ρ fun d ρ1 => G.rt d ρ1 := rfl
@[simp] theorem gRetO_s : gRetO i G ρ = ∃ d, lk ρ i = some (.own d) ∧ G.rt d (ρ.set i (some (.dat d))) := rfl
@[simp] theorem gIfS_s {c : DTT} {T U : DTS} : gIfS c T U G ρ = c ρ fun b ρ1 => if b = true then T G ρ1 else U G ρ1 := rfl
@[simp] theorem gDrop_s {g : DTE} : gDrop g G ρ = g ρ fun _ ρ1 => G.nx ρ1 := rfl
@[simp] theorem gSet_s {g : DTE} : gSet i g G ρ = g ρ fun d ρ1 => G.nx (ρ1.set i (some (.dat d))) := rfl
@[simp] theorem gSetO_s {g : DTE} : gSetO i g G ρ = g ρ fun d ρ1 => G.nx (ρ1.set i (some (.own d))) := rfl
@[simp] theorem gAsg_s {g : DTE} {gd : DTG} : gAsg g gd G ρ = g ρ fun d ρ1 => gd d ρ1 G.nx := rfl
@[simp] theorem gdName_s {d : D} {P : Rho → Prop} : gdName i d ρ P = P (ρ.set i (some (.dat d))) := rfl
@[simp] theorem gdSub_s {gk : DTE} {d : D} {P : Rho → Prop} : gdSub i gk d ρ P = ((∃ ds, lk ρ i = some (.own (.list ds))) ∧ gk ρ fun kd ρ1 => ∃ k j ds, kd = .int k ∧ lk ρ1 i = some (.own (.list ds)) ∧ ixN ds.length k = some j ∧ P (ρ1.set i (some (.own (.list (ds.set j d)))))) := rfl
@[simp] theorem gdNil_s {ds : List D} {P : Rho → Prop} : gdNil ds ρ P = (ds = [] ∧ P ρ) := rfl
@[simp] theorem gdCons_s {g : DTG} {l : DTGs} {d : D} {ds : List D} {P : Rho → Prop} : gdCons g l (d :: ds) ρ P = g d ρ fun ρ' => l ds ρ' P := rfl
@[simp] theorem gdTup_s {l : DTGs} {ds : List D} {P : Rho → Prop} : gdTup l k (.tuple ds) ρ P = (ds.length = k ∧ l ds ρ P) := rfl
@[simp] theorem gPar2_s {l : DTC} : gPar2 i j l G ρ = l ρ fun cs ρ1 => match cs with | [u, v] => G.nx ((ρ1.set i (some u)).set j (some v)) | _ => False := rfl
@[simp] theorem gPar3_s {l : DTC} : gPar3 i j k l G ρ = l ρ fun cs ρ1 => match cs with | [u, v, w] => G.nx (((ρ1.set i (some u)).set j (some v)).set k (some w)) | _ => False := rfl
@[simp] theorem gApp_s {g : DTE} : gApp i g G ρ = ((∃ ds, lk ρ i = some (.own (.list ds))) ∧ g ρ fun d ρ1 => ∃ ds, lk ρ1 i = some (.own (.list ds)) ∧ ds.length < 100000 ∧ G.nx (ρ1.set i (some (.own (.list (ds ++ [d])))))) := rfl
@[simp] theorem gExt_s {g : DTE} : gExt i g G ρ = ((∃ ds, lk ρ i = some (.own (.list ds))) ∧ g ρ fun d ρ1 => ∃ ds es, d = .list es ∧ lk ρ1 i = some (.own (.list ds)) ∧ ds.length + es.length ≤ 100000 ∧ G.nx (ρ1.set i (some (.own (.list (ds ++ es)))))) := rfl
@[simp] theorem gSetIf_s {c : DTT} {g : DTE} : gSetIf i c g G ρ = c ρ fun b ρ1 => if b = true then g ρ1 fun d ρ2 => G.nx (ρ2.set i (some (.own d))) else ∃ d, lk ρ1 i = some (.own d) ∧ G.nx ρ1 := rfl
@[simp] theorem gFz_s {T : DTS} : gFz i T G ρ = T G (fz i ρ) := rfl
@[simp] theorem gSrcPut_s {P : Int → Prop} {g : DTE} : gSrcPut i P g G ρ = g ρ fun d ρ1 => lk ρ1 i = some .srcR ∧ ∃ v, d = .int v ∧ P v ∧ G.nx ρ1 := rfl
@[simp] theorem gSrcRun_s : gSrcRun i j G ρ = (lk ρ i = some .srcR ∧ (∃ m, lk ρ j = some (.dat (.int m))) ∧ G.nx ρ) := rfl
@[simp] theorem gcNil_s {P : List Cl → Rho → Prop} : gcNil ρ P = P [] ρ := rfl
@[simp] theorem gcDat_s {g : DTE} {l : DTC} {P : List Cl → Rho → Prop} : gcDat g l ρ P = g ρ fun d ρ1 => l ρ1 fun cs ρ2 => P (.dat d :: cs) ρ2 := rfl
@[simp] theorem gcOwn_s {g : DTE} {l : DTC} {P : List Cl → Rho → Prop} : gcOwn g l ρ P = g ρ fun d ρ1 => l ρ1 fun cs ρ2 => P (.own d :: cs) ρ2 := rfl
theorem giR1_s {g : DTE} {P : List D → Rho → Prop} : giR1 g ρ P = g ρ fun d ρ' => ∃ j, d = .int j ∧ j ≤ 100000 ∧ -100000 ≤ j ∧ P (rngD 0 j.toNat) ρ' := rfl
theorem giR2_s {g h : DTE} {P : List D → Rho → Prop} : giR2 g h ρ P = g ρ fun d ρ1 => h ρ1 fun d2 ρ' => ∃ i j, d = .int i ∧ d2 = .int j ∧ (j ≤ 100000 ∧ -100000 ≤ j ∧ i ≤ 100000 ∧ -100000 ≤ i) ∧ P (rngD i (j - i).toNat) ρ' := rfl
theorem giSeq_s {g : DTE} {P : List D → Rho → Prop} : giSeq g ρ P = g ρ fun d ρ' => match d with | .list ds => P ds ρ' | .tuple ds => P ds ρ' | _ => False := rfl
theorem giEnum_s {g : DTE} {P : List D → Rho → Prop} : giEnum g ρ P = g ρ fun d ρ' => match d with | .list ds => P (enumD ds) ρ' | .tuple ds => P (enumD ds) ρ' | _ => False := rfl
theorem fz_own {d : D} (h : lk ρ i = some (.own d)) : fz i ρ = ρ.set i (some (.dat d)) := by unfold fz; rw [h]
theorem fz_dat {d : D} (h : lk ρ i = some (.dat d)) : fz i ρ = ρ := by unfold fz; rw [h]
end
/-! comprehensions with nothing but their own names stored -/
/-- the answer of each item (none: left out) -/
theorem lcAt {α : Type} {gi : DTI} {gd : DTG} {gt : DTT} {ge : DTE} {vs : List Nat} {ρ : Rho} {Q : D → Rho → Prop} (xs : List α) (enc : α → D) (f : α → Option D) (ρ1 : Rho)
    (hi : ∀ P : List D → Rho → Prop, P (xs.map enc) ρ1 → gi ρ P) (h1 : noOwn ρ1 vs = true) (h2 : xs.length ≤ 100000)
    (hs : ∀ x ∈ xs, ∀ P : Option D → Rho → Prop, P (f x) (wipeR ρ1 vs) → gd (enc x) (wipeR ρ1 vs) fun ρ3 => gt ρ3 fun b ρ4 => if b = true then ge ρ4 fun y ρ5 => P (some y) (wipeR ρ5 vs) else P none (wipeR ρ4 vs))
    (q : Q (.list (xs.filterMap f)) (mergeR ρ1 (wipeR ρ1 vs) vs)) : gLc gi gd gt ge vs ρ Q := by
  refine hi _ ⟨h1, by simpa using h2, fun i acc ρ2 => acc = (xs.take i).filterMap f ∧ ρ2 = wipeR ρ1 vs, ⟨rfl, rfl⟩, fun i d acc ρ2 hd _ hI => ?_, fun acc ρ2 hI => ?_⟩
  · obtain ⟨rfl, rfl⟩ := hI
    rw [List.getElem?_map] at hd
    obtain ⟨x, hx, rfl⟩ := Option.map_eq_some_iff.mp hd
    have et : xs.take (i + 1) = xs.take i ++ [x] := by rw [List.take_add_one, hx]; rfl
    refine hs x (List.mem_of_getElem? hx) (fun o ρ' => match o with
      | some y => (xs.take i).filterMap f ++ [y] = (xs.take (i + 1)).filterMap f ∧ ρ' = wipeR ρ1 vs
      | none => (xs.take i).filterMap f = (xs.take (i + 1)).filterMap f ∧ ρ' = wipeR ρ1 vs) ?_
    cases e : f x with
    | some y => exact ⟨by rw [et, List.filterMap_append]; simp [e], rfl⟩
    | none => exact ⟨by rw [et, List.filterMap_append]; simp [e], rfl⟩
  · obtain ⟨rfl, rfl⟩ := hI
    rw [List.length_map, List.take_length]
    exact q
/-- .. all are taken -/
theorem lcAll {α : Type} {gi : DTI} {gd : DTG} {ge : DTE} {vs : List Nat} {ρ : Rho} {Q : D → Rho → Prop} (xs : List α) (enc : α → D) (f : α → D) (ρ1 : Rho)
    (hi : ∀ P : List D → Rho → Prop, P (xs.map enc) ρ1 → gi ρ P) (h1 : noOwn ρ1 vs = true) (h2 : xs.length ≤ 100000)
    (hs : ∀ x ∈ xs, ∀ P : D → Rho → Prop, P (f x) (wipeR ρ1 vs) → gd (enc x) (wipeR ρ1 vs) fun ρ3 => ge ρ3 fun y ρ5 => P y (wipeR ρ5 vs))
    (q : Q (.list (xs.map f)) (mergeR ρ1 (wipeR ρ1 vs) vs)) : gLc gi gd gYes ge vs ρ Q := by
  refine lcAt xs enc (fun x => some (f x)) ρ1 hi h1 h2 (fun x hx P hP => ?_) (by rw [show xs.filterMap (fun x => some (f x)) = xs.map f by simp]; exact q)
  exact hs x hx (fun y ρ => P (some y) ρ) hP
/-- with effects: an invariant -/
theorem lcInv {α : Type} {gi : DTI} {gd : DTG} {ge : DTE} {vs : List Nat} {ρ : Rho} {Q : D → Rho → Prop} (xs : List α) (enc : α → D) (ρ1 : Rho) (Iv : Nat → List D → Rho → Prop)
    (hi : ∀ P : List D → Rho → Prop, P (xs.map enc) ρ1 → gi ρ P) (h1 : noOwn ρ1 vs = true) (h2 : xs.length ≤ 100000) (h3 : Iv 0 [] (wipeR ρ1 vs))
    (hs : ∀ i x acc ρ2, xs[i]? = some x → Iv i acc ρ2 → gd (enc x) ρ2 fun ρ3 => ge ρ3 fun y ρ5 => Iv (i + 1) (acc ++ [y]) (wipeR ρ5 vs))
    (q : ∀ acc ρ2, Iv xs.length acc ρ2 → Q (.list acc) (mergeR ρ1 ρ2 vs)) : gLc gi gd gYes ge vs ρ Q := by
  refine hi _ ⟨h1, by simpa using h2, Iv, h3, fun i d acc ρ2 hd _ hI => ?_, fun acc ρ2 hI => ?_⟩
  · rw [List.getElem?_map] at hd
    obtain ⟨x, hx, rfl⟩ := Option.map_eq_some_iff.mp hd
    exact hs i x acc ρ2 hx hI
  · rw [List.length_map] at hI
    exact q acc ρ2 hI
/-- a loop over items -/
theorem forInv {α : Type} {gi : DTI} {gd : DTG} {T : DTS} {G : DEnds} {ρ : Rho} (xs : List α) (enc : α → D) (ρ1 : Rho) (J : Nat → Rho → Prop)
    (hi : ∀ P : List D → Rho → Prop, P (xs.map enc) ρ1 → gi ρ P) (h0 : J 0 ρ1)
    (hs : ∀ i x ρ2, xs[i]? = some x → J i ρ2 → gd (enc x) ρ2 fun ρ3 => T { nx := J (i + 1), rt := G.rt, ct := J (i + 1), bk := G.nx } ρ3) (q : ∀ ρ2, J xs.length ρ2 → G.nx ρ2) : gFor gi gd T G ρ := by
  refine hi _ ⟨J, h0, fun i d ρ2 hd hI => ?_, fun ρ2 hI => q ρ2 (by simpa using hI)⟩
  rw [List.getElem?_map] at hd
  obtain ⟨x, hx, rfl⟩ := Option.map_eq_some_iff.mp hd
  exact hs i x ρ2 hx hI
theorem rngD_map (n : Nat) : rngD 0 n = (List.range n).map fun i : Nat => PyData.int i := by
  unfold rngD
  exact List.map_congr_left fun i _ => by simp
theorem enumD_map {α : Type} (enc : α → D) (xs : List α) : enumD (xs.map enc) = xs.zipIdx.map fun p => PyData.tuple [.int p.2, enc p.1] := by
  unfold enumD
  refine List.ext_getElem? fun i => ?_
  rw [List.getElem?_zipWith, List.getElem?_map, List.getElem?_map, List.getElem?_zipIdx]
  by_cases hi : i < xs.length
  · simp [hi]
  · simp [hi]
end Gw
namespace Gw
open PySem PySem.Spec PyProof.Rows L2
/-! ## xs[a:c] = ys, c past the end too -/
theorem boundsTo {a c m : Nat} (h : a ≤ c) (ha : a ≤ m) : sliceBounds (some (a : Int)) (some (c : Int)) none m = ((a : Int), ((min c m : Nat) : Int), 1) := by
  simp only [sliceBounds, Option.getD_none]
  have e1 : ¬ ((a : Int) < 0) := by omega
  have e2 : ¬ ((c : Int) < 0) := by omega
  simp only [e1, e2, if_false, show (1 : Int) > 0 by decide, if_true]
  refine Prod.ext ?_ (Prod.ext ?_ rfl) <;> (dsimp only; omega)
section
variable {prog : Program} {w : World} {A : Around} {E : Value → Shared → Prop} {s : Shared}
theorem cutIn {l b p : Addr} {is js : Array Value} {n m : Nat} {vl vu : Value} {a c d : Nat} {Q : Unit → Shared → Prop} (ol : s.heap.get? l = some { cls := .type "list", data := .seq is n })
    (ob : s.heap.get? b = some { cls := .type "list", data := .seq js m }) (lb : l ≠ b) (sp : s.heap.IsSliceOf p vl vu .none) (pl : IsPart vl (some (a : Int))) (pu : IsPart vu (some (c : Int)))
    (bd : sliceBounds (some (a : Int)) (some (c : Int)) none is.size = ((a : Int), (d : Int), 1)) (ad : a ≤ d) (ds : d ≤ is.size) (zz : is.size + js.size ≤ sizeLine)
    (h : Q () { s with heap := s.heap.update l (Obj.mapSeq fun v => v.extract 0 a ++ js ++ v.extract d v.size) }) : wpAny (model prog w) A (setItem (.ref l) (.ref p) (.ref b)) Q E s := by
  have il : s.heap.IsList l is := PySem.IsL.isList ol
  have ib : s.heap.IsList b js := PySem.IsL.isList ob
  obtain ⟨po, hp, pc, pd⟩ := id sp
  have pT : s.TypeIs (.ref p) "slice" := ⟨po, hp, pc⟩
  have mx : (max (a : Int) (d : Int)).toNat = d := by omega
  have z2 : ((fun v : Array Value => v.extract 0 a ++ js ++ v.extract d v.size) is).size ≤ sizeLine + 1 := by simp only [Array.size_append, Array.size_extract]; omega
  have sm : Builtin.List.listSameRef (.ref l) (.ref b) = false := beq_eq_false_iff_ne.mpr lb
  unfold setItem
  try with_reducible refine wpAny_holding ?_
  (first | refine wpAny_bind (wpAny_pure ?_) | skip); refine wpAny_bind (wpAny_sequenceKey il.typeIs (by decide) (wpAny_bind (wpAny_callSpecial?_slot (name := Str.ofString "__setitem__") il.typeIs slot_list_setitem (wpAny_call_entry slot_list_setitem il.typeIs entry_list_setitem ?_ (args_list_setitem _ _ _)))))
  refine show wpAny _ _ (Builtin.List.listSubscript? (.ref p) >>= _) _ _ s from wpAny_bind ?_
  unfold Builtin.List.listSubscript?
  refine wpAny_bind (wpAny_specialOf pT slice_no_index ?_); simp only [Option.isNone_none, if_true]
  refine wpAny_pure (show wpAny _ _ (typeOf (.ref p) >>= _) _ _ s from wpAny_bind (wpAny_typeOf pT ?_))
  (first | rw [if_neg (by decide)] | refine PySem.W.KFB.if_not (by decide) ?_); rw [listSliceParts_eq]
  refine wpAny_bind (wpAny_bind (wpAny_field hp pd (x := .none) rfl (wpAny_bind (wpAny_listPart .none ?_)))); rw [if_neg (show ¬ ((rawPart none == rawInt 0) = true) from Bool.false_ne_true)]
  refine wpAny_bind (wpAny_field hp pd (x := vl) rfl (wpAny_bind (wpAny_listPart pl (wpAny_bind (wpAny_field hp pd (x := vu) rfl (wpAny_bind (wpAny_listPart pu (wpAny_pure ?_))))))))
  (first | simp only [sm, Bool.false_eq_true, if_false] | refine PySem.W.KFB.if_not sm ?_ | (dsimp only; rw [if_neg (by rw [sm]; exact Bool.false_ne_true)]))
  refine wpAny_bind (m := Builtin.List.listAllItems (.ref b) "must assign iterable to extended slice") ?_; unfold Builtin.List.listAllItems
  refine wpAny_bind (wpAny_typeOf ib.typeIs ?_); (first | refine PySem.W.KFB.if_so (by decide) ?_ | rw [if_pos (by decide)] | simp only [beq_self_eq_true, Bool.true_or, if_true])
  unfold Builtin.List.listItems; refine wpAny_bind (wpAny_seqItems ob rfl (wpAny_pure (wpAny_bind (wpAny_bind (wpAny_seqItems ol rfl (wpAny_pure ?_))))))
  refine wpAny_bind (wpAny_of_eq ((sliceIndices_raw (some (a : Int)) (some (c : Int)) none is.size (by simp)).trans (congrArg (pure : Int × Int × Int → Sem (Int × Int × Int)) bd)) ?_)
  refine show wpAny _ _ (if ((1 : Int) == 1) = true then _ else _) _ _ s from ?_
  rw [if_pos (by decide)]; refine wpAny_bind (wpAny_rule ?_)
  (first | simp only [notLongL zz, Bool.false_eq_true, if_false] | refine PySem.W.KFB.if_not (notLongL zz) ?_); (first | refine wpAny_bind (wpAny_pure ?_) | skip)
  refine show wpAny _ _ (updateSeq l (fun v => v.extract 0 ((a : Int)).toNat ++ js ++ v.extract (max (a : Int) (d : Int)).toNat v.size) >>= _) _ _ s from ?_
  rw [mx, Int.toNat_natCast]; refine wpAny_bind (wpAny_updateSeq (hz := Nat.le_trans (Nat.le_add_right _ _) zz) (_hz' := z2) ol rfl (wpAny_bind (wpAny_letGo ?_)))
  first | exact wpAny_bind (wpAny_pure (wpAny_pure ⟨.none, rfl, wpAny_pure h⟩)) | exact wpAny_pure ⟨.none, rfl, wpAny_pure h⟩
end

section
variable {X : Cx} {o value : Expr} {lo hi : Option Expr} {to tv : TE} {tl th : TO} {p2 p' pos : Pos}
def tCut (to tv : TE) (tl th : TO) : TS := fun D σ H => tv σ H fun y H1 => to σ H1 fun x H2 => tl σ H2 fun l H3 => th σ H3 fun u H4 => ∃ (p b : Addr) (xs ys : List V) (a c : Nat), x = .ref p ∧ y = .ref b ∧ p ≠ b ∧ H4 p = some (.lst xs) ∧ H4 b = some (.lst ys) ∧ l = some (a : Int) ∧ u = some (c : Int) ∧
  a ≤ c ∧ a ≤ xs.length ∧ xs.length + ys.length ≤ sizeLine ∧ D.nx σ (upd H4 p (.lst (xs.take a ++ ys ++ xs.drop (min c xs.length))))
theorem ps_cut (ho : PE X o to) (hl : PO X lo tl) (hh : PO X hi th) (hv : PE X value tv) (hs : swapsWith value (some (.Subscript o (.Slice lo hi none p2) p')) pos.line X.env = pure false := by rfl) :
    PS X (.Assign [.Subscript o (.Slice lo hi none p2) p'] value pos) (tCut to tv tl th) := by
  refine ⟨fun pins s σ H D I h => ?_⟩
  refine wpAny_Assign_Subscript (thn (hv.run pins s σ H _ I h) fun r s1 ⟨y, H1, I1, ry, q1⟩ => thn (ho.run pins s1 σ H1 _ I1 q1) fun u s2 ⟨x, H2, I2, rx, q2⟩ => ?_) hs
  refine wpAny_Slice (thn (hl.run pins s2 σ H2 _ I2 q2) fun vl s3 ⟨l, H3, I3, pl, q3⟩ => thn (hh.run pins s3 σ H3 _ I3 q3) fun vu s4 ⟨t, H4, I4, pu, q4⟩ => ?_)
  rw [evalPart_none]
  refine wpAny_pure ?_
  have I5 : Inv X pins σ H4 { s4 with heap := s4.heap.push { cls := .type "slice", data := .fields #[vl, vu, .none] } } := I4.kept (t' := s4.toks) fun b ob q => Heap.get?_push_of_some _ q
  obtain ⟨p, b, xs, ys, a, c, rfl, rfl, pb, hp, hb, rfl, rfl, ac, al, zz, q⟩ := q4
  cases ry
  cases rx
  obtain ⟨_, is, n, r1, e1, o1⟩ := I5.lstM hp
  obtain ⟨_, js, m, r2, e2, o2⟩ := I5.lstM hb
  refine cutIn (a := a) (c := c) (d := min c is.length) o1 o2 pb (Heap.IsSliceOf.new ..) pl pu (by rw [List.size_toArray]; exact boundsTo ac (by omega)) (by omega) (by rw [List.size_toArray]; omega) (by rw [List.size_toArray, List.size_toArray]; omega) ?_
  refine ⟨σ, _, I5.lset (its' := is.take a ++ js ++ is.drop (min c is.length)) (t' := s4.toks) hp o1 (splice_eq is js a (min c is.length)) ?_ ?_, q⟩
  · rw [e1]
    exact Vals.append (Vals.append (r1.take _) r2) (r1.drop _)
  · simp only [List.length_append, List.length_take, List.length_drop]
    omega
/-- own[lo:hi] = .. -/
def gCut (i : Nat) (g : DTE) (gl gh : DTO) : DTS := fun G ρ => g ρ fun d ρ1 => (∃ ds, lk ρ1 i = some (.own (.list ds))) ∧ gl ρ1 fun l ρ2 => gh ρ2 fun u ρ3 => ∃ (es ds : List D) (a c : Nat), d = .list es ∧ lk ρ3 i = some (.own (.list ds)) ∧ l = some (a : Int) ∧ u = some (c : Int) ∧
  a ≤ c ∧ a ≤ ds.length ∧ ds.length + es.length ≤ 100000 ∧ G.nx (ρ3.set i (some (.own (.list (ds.take a ++ es ++ ds.drop (min c ds.length))))))
theorem dcut (i : Nat) {x : Str} {px : Pos} {g : DTE} {gl gh : DTO} (hl : DO X lo gl) (hh : DO X hi gh) (hv : DF X value g) (hN : X.N[i]? = some x := by rfl) (hvis : Vis X.env.scope x := by first | exact Or.inl rfl | exact Or.inr (Or.inl rfl) | exact Or.inr (Or.inr rfl))
    (hd : (x == ("__debug__" : Str)) = false := by decide) (hcd : (x == ("__classdict__" : Str)) = false := by decide) (hs : swapsWith value (some (.Subscript (.Name x px) (.Slice lo hi none p2) p')) pos.line X.env = pure false := by rfl) :
    DS X (.Assign [.Subscript (.Name x px) (.Slice lo hi none p2) p'] value pos) (gCut i g gl gh) := by
  obtain ⟨t0, q0, m0⟩ := hv.ex
  obtain ⟨t1, q1, m1⟩ := hl.ex
  obtain ⟨t2, q2, m2⟩ := hh.ex
  refine ⟨_, ps_cut (pe_var hN hvis hd hcd) q1 q2 q0 hs, fun C S σ H ρ E G R q n r b c => ?_⟩
  refine m0 C S σ H ρ _ _ R q fun bb H1 d ρ1 f1 R1 _ hb ob h1 => ?_
  obtain ⟨⟨ds0, h0⟩, h1⟩ := h1
  obtain ⟨z, _, e0, Sz, _, _⟩ := R1.ownL h0
  refine ⟨_, e0, m1 C S σ H1 ρ1 _ _ R1 h1 fun l H2 ρ2 f2 R2 h2 => m2 C S σ H2 ρ2 _ _ R2 h2 fun u H3 ρ3 f3 R3 h3 => ?_⟩
  obtain ⟨es, ds, a, k, rfl, h4, rfl, rfl, ak, ad, zz, q⟩ := h3
  obtain ⟨z', xs, e1, Sz', e2, ra⟩ := R3.ownL h4
  rw [e0] at e1
  cases e1
  have nS := R.notS hb
  have rb : Rp X.K S H1 (.ref bb) (.list es) := obSub R hb ob
  have rb3 := f3.rp (f2.rp rb)
  cases ob with
  | lst eb rl =>
    have eb3 := f3 bb _ (f2 bb _ eb (.inl nS)) (.inl nS)
    have rs : RpA X.K S H3 _ es := f3.rpa (f2.rpa (rl.anti fun a h => .inl h))
    refine ⟨z, bb, xs, _, a, k, rfl, rfl, fun w => nS (w ▸ Sz), e2, eb3, rfl, rfl, ak, by rw [ra.len]; exact ad, by rw [ra.len, rs.len]; exact szOf zz, ?_⟩
    have R4 := R3.write (lk_get h4) e0 (u := .lst (xs.take a ++ _ ++ xs.drop (min k xs.length))) (.lst upd_same ((((ra.wr Sz).take a).app (rs.wr Sz)).app ((ra.wr Sz).drop (min k xs.length))))
    rw [ra.len] at R4 ⊢
    exact n S σ _ _ R4 q
/-- own[lo:hi]: a new list -/
def gSlO (i : Nat) (gl gh : DTO) : DTE := fun ρ Q => (∃ ds, lk ρ i = some (.own (.list ds))) ∧ gl ρ fun l ρ1 => gh ρ1 fun u ρ2 => ∃ ds, lk ρ2 i = some (.own (.list ds)) ∧ Q (.list (cutD ds l u)) ρ2
theorem dslO (i : Nat) {x : Str} {px : Pos} {gl gh : DTO} (hl : DO X lo gl) (hh : DO X hi gh) (hN : X.N[i]? = some x := by rfl) (hvis : Vis X.env.scope x := by first | exact Or.inl rfl | exact Or.inr (Or.inl rfl) | exact Or.inr (Or.inr rfl))
    (hd : (x == ("__debug__" : Str)) = false := by decide) (hcd : (x == ("__classdict__" : Str)) = false := by decide) : DF X (.Subscript (.Name x px) (.Slice lo hi none p2) pos) (gSlO i gl gh) := by
  obtain ⟨t1, q1, m1⟩ := hl.ex
  obtain ⟨t2, q2, m2⟩ := hh.ex
  refine ⟨_, pe_slice sl_list (pe_var hN hvis hd hcd) q1 q2, fun C S σ H ρ Q k R q f => ?_⟩
  obtain ⟨⟨ds0, h0⟩, h1⟩ := q
  obtain ⟨z, _, e0, Sz, _, _⟩ := R.ownL h0
  refine ⟨_, e0, m1 C S σ H ρ _ _ R h1 fun l H2 ρ2 f2 R2 h2 => m2 C S σ H2 ρ2 _ _ R2 h2 fun u H3 ρ3 f3 R3 h3 => ?_⟩
  obtain ⟨ds, h4, q⟩ := h3
  obtain ⟨z', xs, e1, Sz', e2, ra⟩ := R3.ownL h4
  rw [e0] at e1
  cases e1
  exact ⟨z, xs, rfl, .of e2, fun w hw => f w _ _ ρ3 ((f2.trans f3).trans (.of (.new hw))) (newOb R3 hw).1 (newOb R3 hw).2 (freshAt (f2.trans f3) R3 hw) (.lst upd_same (RpA.newp (ra.cut l u) hw)) q⟩
end
/-! ## x.index(y) -/
theorem mt_indexT {X : Cx} (hu : X.A.units + 65 < cLine) : MtR X "tuple.index" (fun x xs H Q => ∃ (a : Addr) (y : V) (d : D) (ds : List D) (j : Nat) (z : D), x = .ref a ∧ xs = [y] ∧ Dp X.K H (.ref a) (.tuple ds) ∧ Dp X.K H y d ∧ SeqAt.shaped (.tuple ds) = true ∧ SeqAt.shaped d = true ∧
    ds[j]? = some z ∧ PyData.eqv z d = true ∧ (∀ (m : Nat) (z' : D), m < j → ds[m]? = some z' → PyData.eqv z' d = false) ∧ Q (.int (j : Nat)) H) := by
  rintro pins s σ H x xs v us Q I rx rxs ⟨a, y, d, ds, j, z, rfl, rfl, hl, hy, sl, sd, hz, hzj, hno, q⟩
  cases rx
  obtain ⟨u, rfl, ru⟩ := vals1 rxs
  obtain ⟨bs, r1⟩ := Dp.reads I d y u hy ru
  have lay : PyData.canLayAll0 ds = true := by
    have := SeqAt.canLay_of_shaped sl
    simpa [PyData.canLay0] using this
  have room : X.A.units + 1 + min (PyData.depthAll ds) d.depth < cLine := room_in_shaped sd hu
  cases hl with
  | tup hs ha =>
    obtain ⟨is, rv, ⟨⟨cls, dd, data, sls⟩, ho, hc, n, hdt⟩, hlen⟩ := I.tuple hs
    simp only at hc hdt
    subst hc hdt
    obtain ⟨as, r4⟩ := Dp.readsAll I ds _ is ha rv
    have e1 : is.length = ds.length := SeqAt.ReadsAll.length ds is as r4
    have e2 : is.map (SeqAt.readOf s.heap) = ds := SeqAt.readsAll_map ds is as lay r4
    have hjd := (List.getElem?_eq_some_iff.mp hz).1
    have hj : j < is.toArray.size := by simp; omega
    have rd : ∀ (m : Nat) (hm : m < is.toArray.size) (z' : D), ds[m]? = some z' → SeqAt.readOf s.heap is.toArray[m] = z' := fun m hm z' hz' => by
      have hml : m < is.length := by simpa using hm
      rw [← e2, List.getElem?_map, List.getElem?_eq_getElem hml] at hz'
      simpa using hz'
    refine call_meets PySem.F.slot_tuple_index ⟨_, ho, rfl⟩ PySem.F.entry_tuple_index (PySem.F.args_tuple_index_2 _ _) (TI.tuple_indexAt a is.toArray n dd sls u (fun w => PyData.eqv (SeqAt.readOf s.heap w) d) j hj ?_ ?_)
      ⟨ho, SeqAt.items_eqAt (vs := is.toArray) (show ReadsAll s.heap is.toArray.toList ds as from r4) r1 lay (SeqAt.canLay_of_shaped sd) room, ⟨.int (j : Nat), H, I.tok _, ⟨_, rfl⟩, q⟩⟩
    · rw [rd j hj z hz]
      exact hzj
    · intro m hm hmj
      rw [rd m hm _ (List.getElem?_eq_getElem (show m < ds.length by omega))]
      exact hno m _ hmj (List.getElem?_eq_getElem (by omega))
/-! methods of a tuple -/
theorem tupX_is {X : Cx} {pins : List (Addr × Obj)} {σ : L2.St} {H : Hp} {s : Shared} {S : Vol} {a : Addr} {xs : List V} (I : Inv X pins σ H s) (h : TupX X.K S H a xs) : s.TypeIs (.ref a) "tuple" ∧ ∀ b, Value.ref a = .ref b → ∃ ob, s.heap.get? b = some ob ∧ ob.dict = none := by
  have z : ∃ ob, s.heap.get? a = some ob ∧ ob.cls = .type "tuple" ∧ ob.dict = none := by
    rcases h with ⟨⟨o, h, d⟩, _⟩ | ⟨o, its, n, h1, h2, h3, _⟩
    · obtain ⟨e, _, is, _, ⟨o', e', c, _⟩⟩ := I.hok a _ h
      rw [e] at e'
      cases e'
      exact ⟨o, e, c, d⟩
    · exact ⟨o, I.kIn a o h1, h2, h3⟩
  obtain ⟨ob, e, c, d⟩ := z
  exact ⟨⟨ob, e, c⟩, fun b eb => by cases eb; exact ⟨ob, e, d⟩⟩
section
variable {X : Cx} {o e : Expr} {es : List Expr} {to : TE} {t : TA} {apos cpos : Pos} {name : Str} {id : String} {r : V → List V → Hp → VK → Prop}
def tMT (K : PySem.W.Frag) (r : V → List V → Hp → VK → Prop) (to : TE) (t : TA) : TE := fun σ H Q => to σ H fun x H1 => (∃ (S : Vol) (a : Addr) (xs : List V), x = .ref a ∧ TupX K S H1 a xs) ∧ t σ H1 fun vs H2 => r x vs H2 Q
theorem pe_mT (slot : Slot "tuple" name id) (hty : typeOf (.builtin id) = pure (.type "method_descriptor")) (hm : MtR X id r) (ho : PE X o to) (ha : PA X (e :: es) t)
    (hbase : attributeBase o name X.env (eval o X.env) = eval o X.env) (hfew : ((backTo cpos (starEach (e :: es) X.env)).all (fun x => !x.1) && (backToKw cpos (keywordEach [] X.env)).all (fun x => x.1.isSome)
      && decide ((e :: es).length + ([] : List Keyword).length + (if ([] : List Keyword).isEmpty then 0 else 1) < 30)) = true) (hline : (apos.endLine == cpos.line) = true)
    (hs : starEach (e :: es) X.env = (false, eval e X.env) :: starEach es X.env) (hpl : (backTo cpos (starEach es X.env)).any (·.1) = false) : PE X (.Call (.Attribute o name apos) (e :: es) [] cpos) (tMT X.K r to t) := by
  refine ⟨fun pins s σ H Q I h => wpAny_Call_method_late hbase hfew hline rfl (thn (ho.run pins s σ H _ I h) fun v s1 ⟨x, H1, I1, r1, ty, q1⟩ => ?_)⟩
  obtain ⟨S, a, xs, rfl, ty⟩ := ty
  cases r1
  obtain ⟨h1, h2⟩ := tupX_is I1 ty
  refine ⟨"tuple", id, PySem.F.plainAttrs_tuple, slot, hty, h1, h2, ?_⟩
  have hA := ha.run cpos pins s1 σ H1 _ I1 q1
  rw [hs] at hA ⊢
  exact Calls.callWith_builtin (by show (false || (backTo cpos (starEach es X.env)).any (·.1)) = false; rw [hpl]; rfl) (Calls.evalArgs_plain (thn hA fun us s2 ⟨vs, H2, I2, r2, q2⟩ => hm pins s2 σ H2 (.ref a) vs (.ref a) us Q I2 (show RelV (.ref a) (.ref a) from rfl) r2 q2))
end
/-- the place of the first equal one -/
def ixGoes (ds : List D) (d : D) (P : Int → Prop) : Prop := SeqAt.shaped (.list ds) = true ∧ SeqAt.shaped d = true ∧ ∃ (j : Nat) (z : D), ds[j]? = some z ∧ PyData.eqv z d = true ∧ (∀ (m : Nat) (z' : D), m < j → ds[m]? = some z' → PyData.eqv z' d = false) ∧ P (j : Nat)
def gIndexT (gr ga : DTE) : DTE := fun ρ Q => gr ρ fun r ρ1 => ∃ ds : List D, r = .tuple ds ∧ ga ρ1 fun d ρ2 => ixGoes ds d fun j => Q (.int j) ρ2
def gIndexL (gr ga : DTE) : DTE := fun ρ Q => gr ρ fun r ρ1 => ∃ ds : List D, r = .list ds ∧ ga ρ1 fun d ρ2 => ixGoes ds d fun j => Q (.int j) ρ2
section
variable {X : Cx} {o e : Expr} {gr ga : DTE} {apos cpos : Pos}
theorem dindexT (hu : X.A.units + 65 < cLine) (ho : DE X o gr) (he : DE X e ga) (hst : starEach [e] X.env = (false, eval e X.env) :: starEach [] X.env := by rfl)
    (hbase : attributeBase o "index" X.env (eval o X.env) = eval o X.env := by rfl) (hfew : ((backTo cpos (starEach [e] X.env)).all (fun x => !x.1) && (backToKw cpos (keywordEach [] X.env)).all (fun x => x.1.isSome)
      && decide ([e].length + ([] : List Keyword).length + (if ([] : List Keyword).isEmpty then 0 else 1) < 30)) = true := by rfl) (hline : (apos.endLine == cpos.line) = true := by rfl)
    (hpl : (backTo cpos (starEach [] X.env)).any (·.1) = false := by rfl) : DE X (.Call (.Attribute o "index" apos) [e] [] cpos) (gIndexT gr ga) := by
  obtain ⟨t1, q1, m1⟩ := ho.ex
  obtain ⟨t2, q2, m2⟩ := he.ex
  refine ⟨_, pe_mT PySem.F.slot_tuple_index PySem.F.type_tuple_index (mt_indexT hu) q1 (pa_cons q2 pa_nil hst) hbase hfew hline hst hpl, fun C S σ H ρ Q k R q f => m1 C S σ H ρ _ _ R q fun v H1 d ρ1 f1 R1 r1 h1 => ?_⟩
  obtain ⟨ds, rfl, h1⟩ := h1
  have r1' := r1
  cases r1 with
  | tup e1 rr =>
    refine ⟨⟨S, _, _, rfl, e1⟩, m2 C S σ H1 ρ1 _ _ R1 h1 fun y H2 d2 ρ2 f2 R2 r2 h2 => ?_⟩
    obtain ⟨s1, s2, j, z, hz, hj, hno, q⟩ := h2
    have s1' : SeqAt.shaped (.tuple ds) = true := s1
    have r3 := (f2.rp r1').dp (SeqAt.canLay_of_shaped s1')
    exact ⟨_, y, d2, ds, j, z, rfl, rfl, r3, r2.dp (SeqAt.canLay_of_shaped s2), s1', s2, hz, hj, hno, f _ H2 _ ρ2 (f1.trans f2) R2 (.int _) q⟩
theorem dindexL (hu : X.A.units + 65 < cLine) (ho' : DE X o gr) (he : DE X e ga) (hst : starEach [e] X.env = (false, eval e X.env) :: starEach [] X.env := by rfl)
    (hbase : attributeBase o "index" X.env (eval o X.env) = eval o X.env := by rfl) (hfew : ((backTo cpos (starEach [e] X.env)).all (fun x => !x.1) && (backToKw cpos (keywordEach [] X.env)).all (fun x => x.1.isSome)
      && decide ([e].length + ([] : List Keyword).length + (if ([] : List Keyword).isEmpty then 0 else 1) < 30)) = true := by rfl) (hline : (apos.endLine == cpos.line) = true := by rfl)
    (hpl : (backTo cpos (starEach [] X.env)).any (·.1) = false := by rfl) : DE X (.Call (.Attribute o "index" apos) [e] [] cpos) (gIndexL gr ga) := by
  obtain ⟨t1, q1, m1⟩ := ho'.ex
  obtain ⟨t2, q2, m2⟩ := he.ex
  refine ⟨_, pe_bm PySem.F.plainAttrs_list PySem.F.slot_list_index PySem.F.type_list_index (mt_indexD hu) q1 (pa_cons q2 pa_nil hst) hbase hfew hline hst hpl, fun C S σ H ρ Q k R q f => m1 C S σ H ρ _ _ R q fun v H1 d ρ1 f1 R1 r1 h1 => ?_⟩
  obtain ⟨ds, rfl, h1⟩ := h1
  have r1' := r1
  cases r1 with
  | lst e1 rr =>
    refine ⟨.inl ⟨rfl, _, e1.sq⟩, m2 C S σ H1 ρ1 _ _ R1 h1 fun y H2 d2 ρ2 f2 R2 r2 h2 => ?_⟩
    obtain ⟨s1, s2, j, z, hz, hj, hno, q⟩ := h2
    have r3 := (f2.rp r1').dp (SeqAt.canLay_of_shaped s1)
    exact ⟨_, y, d2, ds, j, z, rfl, rfl, r3, r2.dp (SeqAt.canLay_of_shaped s2), s1, s2, hz, hj, hno, f _ H2 _ ρ2 (f1.trans f2) R2 (.int _) q⟩
end
/-! ## a < b < c -/
def gChain (f f' : DOp) (ga gb gc : DTE) : DTE := fun ρ Q => ga ρ fun x ρ1 => gb ρ1 fun y ρ2 => f x y fun d => ∃ c, d = .bool c ∧ if c = true then gc ρ2 fun z ρ3 => f' y z fun d' => Q d' ρ3 else Q (.bool false) ρ2
section
variable {X : Cx} {a b c : Expr} {ga gb gc : DTE} {pos : Pos} {op op' : CmpOp} {f f' : DOp}
theorem simChain {K : PySem.W.Frag} {r r' : R2} {ta tb tc : TE} (h1 : ∀ (S : Vol) (H : Hp) (x y : V) (dx dy : D) (Q : D → Prop) (k : VK), (∀ p, H p = none → ¬ S p) → Rq K S H x dx → Rq K S H y dy → f dx dy Q → (∀ z H' d, Ext H H' → Rp K S H' z d → Q d → k z H') → r x y H k)
    (h2 : ∀ (S : Vol) (H : Hp) (x y : V) (dx dy : D) (Q : D → Prop) (k : VK), (∀ p, H p = none → ¬ S p) → Rq K S H x dx → Rq K S H y dy → f' dx dy Q → (∀ z H' d, Ext H H' → Rp K S H' z d → Q d → k z H') → r' x y H k)
    (sa : SimE K ta ga) (sb : SimE K tb gb) (sc : SimE K tc gc) : SimE K (tChain r r' ta tb tc) (gChain f f' ga gb gc) := fun C S σ H ρ Q k R q fk =>
  sa C S σ H ρ _ _ R q fun x H1 dx ρ1 f1 R1 rx q1 => sb C S σ H1 ρ1 _ _ R1 q1 fun y H2 dy ρ2 f2 R2 ry q2 => h1 S H2 x y dx dy _ _ (fun p hp => R2.notS hp) (.inl (f2.rp rx)) (.inl ry) q2 fun z H3 d e3 rz q3 => by
    obtain ⟨c, rfl, q3⟩ := q3
    cases rz
    have R3 := R2.ext e3
    refine ⟨c, rfl, ?_⟩
    cases c with
    | true => exact iteT (sc C S σ H3 ρ2 _ _ R3 (unT q3) fun w H4 dw ρ3 f4 R4 rw' q4 => h2 S H4 y w dy dw _ _ (fun p hp => R4.notS hp) (.inl (f4.rp (ry.ext e3))) (.inl rw') q4 fun z H5 d e5 rz q5 => fk z H5 d ρ3 (((f1.trans f2).trans (.of e3)).trans (f4.trans (.of e5))) (R4.ext e5) rz q5)
    | false => exact iteF (fk (.bl false) H3 _ ρ2 ((f1.trans f2).trans (.of e3)) R3 (.bl false) (unF q3))
theorem dchain (ho : OpD X (compareOp op) f) (ho' : OpD X (compareOp op') f') (ha : DE X a ga) (hb : DE X b gb) (hc : DE X c gc) (hm : lastMarks [op, op'] [b, c] = false := by with_unfolding_all rfl) : DE X (.Compare a [op, op'] [b, c] pos) (gChain f f' ga gb gc) := by
  obtain ⟨r, h1, h2⟩ := ho
  obtain ⟨r', h3, h4⟩ := ho'
  obtain ⟨_, p1, s1⟩ := ha.ex
  obtain ⟨_, p2, s2⟩ := hb.ex
  obtain ⟨_, p3, s3⟩ := hc.ex
  exact ⟨_, pe_chain h1 h3 p1 p2 p3 hm, simChain h2 h4 s1 s2 s3⟩
theorem dtchain (ho : OpD X (compareOp op) f) (ho' : OpD X (compareOp op') f') (ha : DE X a ga) (hb : DE X b gb) (hc : DE X c gc) (hm : lastMarks [op, op'] [b, c] = false := by with_unfolding_all rfl) : DT X (.Compare a [op, op'] [b, c] pos) (gTest (gChain f f' ga gb gc)) := by
  obtain ⟨r, h1, h2⟩ := ho
  obtain ⟨r', h3, h4⟩ := ho'
  obtain ⟨_, p1, s1⟩ := ha.ex
  obtain ⟨_, p2, s2⟩ := hb.ex
  obtain ⟨_, p3, s3⟩ := hc.ex
  exact ⟨_, pt_chain h1 h3 p1 p2 p3 hm, simTest (simChain h2 h4 s1 s2 s3)⟩
end
/-! ## own list times, (..) * n -/
@[simp] theorem gCut_s {i : Nat} {g : DTE} {gl gh : DTO} {G : DEnds} {ρ : Rho} : gCut i g gl gh G ρ = g ρ fun d ρ1 => (∃ ds, lk ρ1 i = some (.own (.list ds))) ∧ gl ρ1 fun l ρ2 => gh ρ2 fun u ρ3 => ∃ (es ds : List D) (a c : Nat), d = .list es ∧ lk ρ3 i = some (.own (.list ds)) ∧ l = some (a : Int) ∧ u = some (c : Int) ∧
  a ≤ c ∧ a ≤ ds.length ∧ ds.length + es.length ≤ 100000 ∧ G.nx (ρ3.set i (some (.own (.list (ds.take a ++ es ++ ds.drop (min c ds.length)))))) := rfl
@[simp] theorem gSlO_s {i : Nat} {gl gh : DTO} {ρ : Rho} {Q : D → Rho → Prop} : gSlO i gl gh ρ Q = ((∃ ds, lk ρ i = some (.own (.list ds))) ∧ gl ρ fun l ρ1 => gh ρ1 fun u ρ2 => ∃ ds, lk ρ2 i = some (.own (.list ds)) ∧ Q (.list (cutD ds l u)) ρ2) := rfl
@[simp] theorem gIndexT_s {gr ga : DTE} {ρ : Rho} {Q : D → Rho → Prop} : gIndexT gr ga ρ Q = gr ρ fun r ρ1 => ∃ ds : List D, r = .tuple ds ∧ ga ρ1 fun d ρ2 => ixGoes ds d fun j => Q (.int j) ρ2 := rfl
@[simp] theorem gIndexL_s {gr ga : DTE} {ρ : Rho} {Q : D → Rho → Prop} : gIndexL gr ga ρ Q = gr ρ fun r ρ1 => ∃ ds : List D, r = .list ds ∧ ga ρ1 fun d ρ2 => ixGoes ds d fun j => Q (.int j) ρ2 := rfl
@[simp] theorem gChain_s {f f' : DOp} {ga gb gc : DTE} {ρ : Rho} {Q : D → Rho → Prop} : gChain f f' ga gb gc ρ Q = ga ρ fun x ρ1 => gb ρ1 fun y ρ2 => f x y fun d => ∃ c, d = .bool c ∧ if c = true then gc ρ2 fun z ρ3 => f' y z fun d' => Q d' ρ3 else Q (.bool false) ρ2 := rfl
/-! ## x = x if c else a -/
def gSetIfN (i : Nat) (c : DTT) (g : DTE) : DTS := fun G ρ => c ρ fun b ρ1 => if b = true then ∃ d, lk ρ1 i = some (.own d) ∧ G.nx ρ1 else g ρ1 fun d ρ2 => G.nx (ρ2.set i (some (.own d)))
theorem dsetIfN {X : Cx} {pos : Pos} {x : Str} (i : Nat) {c a : Expr} {s : DTT} {g : DTE} {px py pif : Pos} (hN : X.N.Nodup) (hc : DT X c s) (ha : DF X a g) (hi : X.N[i]? = some x := by rfl) (hx : Loc X.env.scope x := by first | exact Or.inl rfl | exact Or.inr rfl)
    (hs : swapsWith (.IfExp c (.Name x py) a pif) (some (.Name x px)) pos.line X.env = pure false := by rfl) (hf : X.fn x = true ∨ X.env.scope.names.lookup x = some .local := by first | exact .inl rfl | exact .inr rfl | assumption)
    (hv : Vis X.env.scope x := by first | exact Or.inl rfl | exact Or.inr (Or.inl rfl) | exact Or.inr (Or.inr rfl)) (hd : (x == ("__debug__" : Str)) = false := by decide) (hcd : (x == ("__classdict__" : Str)) = false := by decide) :
    DS X (.Assign [.Name x px] (.IfExp c (.Name x py) a pif) pos) (gSetIfN i s g) := by
  obtain ⟨_, p1, s1⟩ := hc.ex
  obtain ⟨_, p2, s2⟩ := ha.ex
  refine ⟨_, ps_set hN hi hx (pe_ifExp p1 (pe_var hi hv hd hcd) p2) hs hf, fun C S σ H ρ E G R q n r b cc => s1 C S σ H ρ _ _ R q fun bb H1 ρ1 f1 R1 q1 => ?_⟩
  cases bb with
  | false => exact iteF (simSetO i s2 C S σ H1 ρ1 E { G with nx := G.nx } R1 (unF q1) n r b cc)
  | true =>
    obtain ⟨d, h0, q2⟩ := unT q1
    obtain ⟨z, e0, _, _⟩ := R1.own (lk_get h0)
    refine iteT ⟨_, e0, ?_⟩
    have hlt := (List.getElem?_eq_some_iff.mp e0).1
    have es : σ.set i (some (.ref z)) = σ := List.ext_getElem? fun j => by
      by_cases hj : i = j
      · subst hj; rw [List.getElem?_set_self hlt, e0]
      · rw [List.getElem?_set_ne hj]
    show E.nx (σ.set i (some (.ref z))) H1
    rw [es]
    exact n S σ H1 ρ1 R1 q2
@[simp] theorem gSetIfN_s {i : Nat} {c : DTT} {g : DTE} {G : DEnds} {ρ : Rho} : gSetIfN i c g G ρ = c ρ fun b ρ1 => if b = true then ∃ d, lk ρ1 i = some (.own d) ∧ G.nx ρ1 else g ρ1 fun d ρ2 => G.nx (ρ2.set i (some (.own d))) := rfl
theorem gWhile_s {c : DTT} {T : DTS} {G : DEnds} {ρ : Rho} : gWhile c T G ρ = ∃ J : Nat → Rho → Prop, (∃ m, J m ρ) ∧ ∀ m ρ2, J m ρ2 → c ρ2 fun b ρ3 => if b = true then T { G with nx := fun ρ' => ∃ m', m' < m ∧ J m' ρ', ct := fun ρ' => ∃ m', m' < m ∧ J m' ρ', bk := G.nx } ρ3 else G.nx ρ3 := rfl
end Gw
namespace Gw
open PySem PySem.Spec PyProof.Rows L2
/-! ## small facts -/
theorem atI_pos {ds : List D} {r : Int} (h0 : 0 ≤ r) (h1 : r < ds.length) : ∃ d, d ∈ ds ∧ atI ds r = some d := by
  have hn : r.toNat < ds.length := by omega
  refine ⟨ds[r.toNat], List.getElem_mem hn, ?_⟩
  have := atI_nat (xs := ds) (j := r.toNat) (v := ds[r.toNat]) (List.getElem?_eq_getElem hn)
  rwa [Int.toNat_of_nonneg h0] at this
theorem eraseIdx_perm {α : Type} : ∀ {l : List α} {i : Nat} {x : α}, l[i]? = some x → (x :: l.eraseIdx i).Perm l
  | [], _, _, h => by simp at h
  | a :: l, 0, x, h => by
    simp at h
    subst h
    exact .refl _
  | a :: l, i + 1, x, h => by
    have e := eraseIdx_perm (l := l) (i := i) (x := x) (by simpa using h)
    exact (List.Perm.swap a x _).trans (e.cons a)
def tupI (ns : List Int) : D := .tuple (ns.map .int)
def lstI (ns : List Int) : D := .list (ns.map .int)
/-- 0, 1, .. -/
def upTo (n : Nat) : List Int := (List.range n).map fun i : Nat => (i : Int)
theorem upTo_len (n : Nat) : (upTo n).length = n := by simp [upTo]
theorem rngD_upTo (n : Nat) : rngD 0 n = (upTo n).map .int := by
  rw [rngD_map, upTo, List.map_map]; rfl
/-- data that are ints in another order -/
theorem perm_ints {es : List D} {ns : List Int} (h : es.Perm (ns.map .int)) : ∃ ms : List Int, es = ms.map .int ∧ ms.Perm ns := by
  refine ⟨es.map fun d => match d with | .int i => i | _ => 0, ?_, ?_⟩
  · rw [List.map_map]
    conv => lhs; rw [← List.map_id es]
    refine List.map_congr_left fun d hd => ?_
    obtain ⟨i, _, rfl⟩ := List.mem_map.mp (h.mem_iff.mp hd)
    rfl
  · have := h.map fun d : D => match d with | .int i => i | _ => (0 : Int)
    rw [List.map_map] at this
    have e : ns.map ((fun d : D => match d with | .int i => i | _ => (0 : Int)) ∘ PyData.int) = ns := by
      conv => rhs; rw [← List.map_id ns]
      exact List.map_congr_left fun i _ => rfl
    rwa [e] at this
theorem ixN_nat {n k : Nat} (h : k < n) : ixN n (k : Int) = some k := by
  unfold ixN
  split <;> simp <;> omega
theorem swap_perm {α : Type} {l : List α} {i j : Nat} {x y : α} (hi : l[i]? = some x) (hj : l[j]? = some y) (hij : i ≠ j) : ((l.set i y).set j x).Perm l := by
  have li := (List.getElem?_eq_some_iff.mp hi).1
  have lj := (List.getElem?_eq_some_iff.mp hj).1
  classical
  rw [List.perm_iff_count]
  intro a
  rw [List.count_set (by simpa using lj), List.count_set li]
  have e1 : (l.set i y)[j]'(by simpa using lj) = y := by
    rw [List.getElem_set_ne hij]
    exact (List.getElem?_eq_some_iff.mp hj).2
  have e2 : l[i] = x := (List.getElem?_eq_some_iff.mp hi).2
  rw [e1, e2]
  have c1 : l[i] ∈ l := List.getElem_mem li
  have c2 : l[j] ∈ l := List.getElem_mem lj
  rw [e2] at c1
  rw [(List.getElem?_eq_some_iff.mp hj).2] at c2
  by_cases hx : x = a <;> by_cases hy : y = a <;> simp [hx, hy]
  · subst hx hy
    have := List.count_pos_iff.mpr c1
    omega
  · subst hx
    have := List.count_pos_iff.mpr c1
    omega
theorem upTo_rev {n : Nat} {fs : List Int} (h : fs.Perm (upTo n)) : fs.reverse.Perm (upTo n) := (List.reverse_perm _).trans h
theorem atI_int {ns : List Int} {k : Nat} (h : k < ns.length) : atI (ns.map PyData.int) (k : Int) = some (.int (ns.getD k 0)) := by
  refine atI_nat ?_
  rw [List.getElem?_map]
  simp [List.getD, h]
theorem cut_from {ds : List D} {k : Nat} : cutD ds (some ((k : Int) + 1)) none = ds.drop (k + 1) := by
  unfold cutD
  rw [HT.sIx_none, show ((k : Int) + 1) = ((k + 1 : Nat) : Int) by omega, HT.sIx_nat]
  by_cases h : k + 1 ≤ ds.length
  · rw [Nat.min_eq_left h]
    exact List.take_of_length_le (by rw [List.length_drop]; omega)
  · rw [List.drop_eq_nil_of_le (by omega), List.drop_eq_nil_of_le (by omega)]
    simp
theorem filter_some {α β : Type} (p : α → Bool) (f : α → β) (l : List α) : (l.filterMap fun x => if p x = true then some (f x) else none) = (l.filter p).map f := by
  induction l with
  | nil => rfl
  | cons x r ih => by_cases h : p x = true <;> simp [h, ih]
theorem rng_to {j : Int} {n : Nat} (h : j = n ∨ (j < 0 ∧ n = 0)) : rngD 0 j.toNat = (List.range n).map fun k : Nat => PyData.int k := by
  rw [show j.toNat = n by omega, rngD_map]
theorem drop_range {ns : List Int} {i : Nat} : (List.range (ns.length - i)).map (fun t => ns.getD (i + t) 0) = ns.drop i := by
  refine List.ext_getElem? fun t => ?_
  rw [List.getElem?_map, List.getElem?_drop]
  by_cases h : t < ns.length - i
  · simp [List.getElem?_range h, List.getD, show i + t < ns.length by omega]
  · rw [List.getElem?_eq_none (by simp; omega), List.getElem?_eq_none (by omega)]
    rfl
theorem map_erase {α β : Type} (f : α → β) : ∀ (l : List α) (i : Nat), (l.map f).eraseIdx i = (l.eraseIdx i).map f
  | [], _ => rfl
  | _ :: _, 0 => rfl
  | x :: r, i + 1 => by
    show f x :: (r.map f).eraseIdx i = _
    rw [map_erase f r i]
    rfl
theorem upTo_mem {n : Nat} {x : Int} : x ∈ upTo n ↔ 0 ≤ x ∧ x < n := by
  unfold upTo
  simp only [List.mem_map, List.mem_range]
  exact ⟨fun ⟨a, b, c⟩ => by omega, fun ⟨a, b⟩ => ⟨x.toNat, by omega, by omega⟩⟩
theorem cut_to {ds : List D} {k : Nat} : cutD ds none (some (k : Int)) = ds.take k := by
  unfold cutD
  rw [HT.sIx_none, HT.sIx_nat]
  by_cases h : k ≤ ds.length
  · rw [Nat.min_eq_left h]; rfl
  · rw [Nat.min_eq_right (by omega), List.take_of_length_le (l := ds) (by omega)]
    exact List.take_of_length_le (Nat.le_refl _)
theorem cut_from0 {ds : List D} {k : Nat} : cutD ds (some (k : Int)) none = ds.drop k := by
  unfold cutD
  rw [HT.sIx_none, HT.sIx_nat]
  by_cases h : k ≤ ds.length
  · rw [Nat.min_eq_left h]
    exact List.take_of_length_le (by rw [List.length_drop]; exact Nat.le_refl _)
  · rw [List.drop_eq_nil_of_le (by omega), List.drop_eq_nil_of_le (by omega)]
    simp

def T1__law_source : DTS := (gSet 1 (gC (.int 11)))
def T2__law_source : DTS := (gFor (giSeq (gVar 0)) (gdName 2) (gSet 1 (gBin modD (gU intU (gBin addD (gBin addD (gBin mulI (gVar 1) (gC (.int 69069))) (gBin mulI (gVar 2) (gC (.int 31)))) (gC (.int 5)))) (gC (.int 2147483629)))))
def g0__law_source : DTE := (gRev (gLc (giSeq (gVar 0)) (gdName 2) gYes (gU absU (gVar 2)) [2]))
abbrev N__law_source : List Str := ["script", "mixed", "cell"]
theorem giSeq_l {g : DTE} {ρ ρ1 : Rho} {P : List D → Rho → Prop} {ds : List D} (h : ∀ R : D → Rho → Prop, R (.list ds) ρ1 → g ρ R) (q : P ds ρ1) : giSeq g ρ P := h _ q
theorem giSeq_t {g : DTE} {ρ ρ1 : Rho} {P : List D → Rho → Prop} {ds : List D} (h : ∀ R : D → Rho → Prop, R (.tuple ds) ρ1 → g ρ R) (q : P ds ρ1) : giSeq g ρ P := h _ q
theorem w__law_source (ns : List Int) (hl : ns.length ≤ 63) : gNew T1__law_source T2__law_source g0__law_source 1 (startR N__law_source [.dat (.list (ns.map .int))]) := by
  have e0 : startR N__law_source [.dat (.list (ns.map .int))] = [some (.dat (.list (ns.map .int))), none, none] := rfl
  rw [e0]
  unfold gNew T1__law_source
  simp only [gSeq_s, gSet_s, gC_s]
  unfold T2__law_source
  refine forInv ns .int [some (.dat (.list (ns.map .int))), some (.dat (.int 11)), none] (fun _ ρ => ∃ m o, ρ = [some (.dat (.list (ns.map .int))), some (.dat (.int m)), o] ∧ noOwn [o] [0] = true ∧ 0 ≤ m ∧ m < 2 ^ 31) (fun P h => ?_) ⟨11, none, rfl, rfl, by decide, by decide⟩ (fun i x ρ2 hx hJ => ?_) (fun ρ2 hJ => ?_)
  · exact ⟨_, rfl, h⟩
  · obtain ⟨m, o, rfl, mo, m1, m2⟩ := hJ
    simp
    exact ⟨_, _, ⟨rfl, rfl⟩, rfl, by omega, by omega⟩
  · obtain ⟨m, o, rfl, mo, m1, m2⟩ := hJ
    unfold g0__law_source
    simp only [gRev_s]
    refine lcAll ns .int (fun x => PyData.int (if x < 0 then -x else x)) [some (.dat (.list (ns.map .int))), some (.dat (.int m)), o] (fun P h => ?_) ?_ (by omega) (fun x hx P hP => ?_) ?_
    · exact ⟨_, rfl, h⟩
    · exact mo
    · simp [wipeR] at hP ⊢
      exact hP
    · simp [wipeR, mergeR]
      refine ⟨ns.reverse.map fun x => if x < 0 then -x else x, by simp [List.map_reverse, Function.comp_def], fun x hx => ?_, by simpa using hl, m1, m2⟩
      obtain ⟨y, _, rfl⟩ := List.mem_map.mp hx
      split <;> omega

abbrev sp__law_pick : Spec where
  n := 1
  w := fun as Q => ∃ m : Int, as = [.int m] ∧ m < 2 ^ 30 ∧ ∀ r : Int, 0 ≤ r → r < max 1 m → Q (.int r)
  len := fun as Q ⟨m, h, _⟩ => by rw [h]; rfl
  mono := fun as Q Q' ⟨m, h, h1, h2⟩ f => ⟨m, h, h1, fun r a b => f _ (h2 r a b)⟩
def T__law_pickb2_1 : DTS := (gRet (gBin modD (gU intU (gVar 2)) (gA max2A (gCons (gC (.int 1)) (gCons (gVar 1) gNil)))))
def T__law_pickb2 : DTS := gSeq (gSrcPut 0 (fun v => 0 ≤ v) (gBin fdivD (gVar 2) (gA max2A (gCons (gC (.int 1)) (gCons (gVar 1) gNil))))) T__law_pickb2_1
def T__law_pick_7 : DTS := (gRet (gBin modD (gU intU (gBin fdivD (gVar 3) (gC (.int 16)))) (gVar 1)))
def T__law_pick_6 : DTS := gSeq (gSrcPut 0 (fun v => 0 ≤ v ∧ v < 2 ^ 31) (gVar 3)) T__law_pick_7
def T__law_pick_5 : DTS := gSeq (gSet 3 (gBin modD (gU intU (gBin addD (gBin mulI (gVar 3) (gVar 3)) (gBin mulI (gSrc 0 (fun v => 0 ≤ v)) (gC (.int 17))))) (gC (.int 2147483647)))) T__law_pick_6
def T__law_pick_4 : DTS := gSeq (gSet 3 (gBin modD (gU intU (gBin addD (gSrc 0 (fun v => 0 ≤ v ∧ v < 2 ^ 31)) (gBin mulI (gSrc 0 (fun v => 0 ≤ v)) (gC (.int 104729))))) (gC (.int 998244353)))) T__law_pick_5
def T__law_pick_3 : DTS := gSeq (gSrcPut 0 (fun v => 0 ≤ v) (gBin addD (gSrc 0 (fun v => 0 ≤ v)) (gC (.int 1)))) T__law_pick_4
def T__law_pick_2 : DTS := gSeq (gIfS (gOr (gTest (gBin ltD (gVar 1) (gC (.int 2)))) (gTest (gBin gtD (gVar 2) (gC (.int 1))))) T__law_pickb2 gNext) T__law_pick_3
def T__law_pick_1 : DTS := gSeq (gSet 2 (gSrc 0 (fun v => 0 ≤ v))) T__law_pick_2
def T__law_pick : DTS := gSeq (gSrcRun 0 1) T__law_pick_1
abbrev N__law_pick : List Str := ["source", "many", "left", "mixed"]
theorem w__law_pick (ds : List D) (Q : D → Prop) (h : sp__law_pick.w ds Q) : T__law_pick { nx := fun _ => Q .none, rt := fun d _ => Q d } (startR N__law_pick (.srcR :: ds.map .dat)) := by
  obtain ⟨m, rfl, hm, q⟩ := h
  rw [show startR N__law_pick (Cl.srcR :: List.map Cl.dat [PyData.int m]) = [some .srcR, some (.dat (.int m)), none, none] from rfl]
  unfold T__law_pick T__law_pick_1 T__law_pick_2 T__law_pick_3 T__law_pick_4 T__law_pick_5 T__law_pick_6 T__law_pick_7 T__law_pickb2 T__law_pickb2_1
  simp
  intro l l0
  have mx : (if 1 < m then m else 1) = max 1 m := by split <;> omega
  simp only [mx]
  have b1 : 0 < max 1 m := by omega
  have b2 : max 1 m < 1073741824 := by omega
  have fin : ∀ r : Int, Q (.int (r % max 1 m)) := fun r => q _ (Int.emod_nonneg _ (by omega)) (Int.emod_lt_of_pos _ b1)
  have b3 : 0 ≤ l / max 1 m := Int.ediv_nonneg l0 (by omega)
  by_cases h2 : m < 2
  · exact .inr ⟨h2, ⟨b1, b2⟩, b3, b1, fin _⟩
  · refine .inl ⟨by omega, ?_⟩
    by_cases h3 : l ≤ 1
    · have e : max 1 m = m := by omega
      rw [e] at fin
      exact .inl ⟨h3, fun v hv => ⟨by omega, fun v2 _ _ v3 _ => ⟨⟨by omega, by omega⟩, fun v4 _ => ⟨⟨Int.emod_nonneg _ (by decide), by have := Int.emod_lt_of_pos ((v2 + v3 * 104729) % 998244353 * ((v2 + v3 * 104729) % 998244353) + v4 * 17) (show (0 : Int) < 2147483647 by decide); omega⟩, by omega, fin _⟩⟩⟩⟩
    · exact .inr ⟨by omega, ⟨b1, b2⟩, b3, b1, fin _⟩

abbrev sp__law_of : Spec where
  n := 1
  w := fun as Q => ∃ ds : List D, (as = [.list ds] ∨ as = [.tuple ds]) ∧ 0 < ds.length ∧ ds.length < 2 ^ 29 ∧ ∀ d ∈ ds, Q d
  len := fun as Q ⟨ds, h, _⟩ => by rcases h with rfl | rfl <;> rfl
  mono := fun as Q Q' ⟨ds, h, h1, h2, h3⟩ f => ⟨ds, h, h1, h2, fun d hd => f d (h3 d hd)⟩
def T__law_of : DTS := (gRet (gBin ixD (gVar 1) (gCallS sp__law_pick 0 (gCons (gU lenU (gVar 1)) gNil))))
abbrev N__law_of : List Str := ["source", "some"]
theorem w__law_of (as : List D) (Q : D → Prop) (h : sp__law_of.w as Q) : T__law_of { nx := fun _ => Q .none, rt := fun d _ => Q d } (startR N__law_of (.srcR :: as.map .dat)) := by
  obtain ⟨ds, h, h1, h2, q⟩ := h
  rcases h with rfl | rfl
  all_goals
    unfold T__law_of
    simp [startR]
    refine ⟨by omega, fun r r0 r1 => ?_⟩
    obtain ⟨d, hd, e⟩ := atI_pos (ds := ds) r0 (by omega)
    exact ⟨d, e, q d hd⟩

abbrev sp__law_mixed : Spec where
  n := 1
  w := fun as Q => ∃ ds : List D, (as = [.list ds] ∨ as = [.tuple ds]) ∧ ds.length ≤ 1000 ∧ ∀ es : List D, es.Perm ds → Q (.list es)
  len := fun as Q ⟨ds, h, _⟩ => by rcases h with rfl | rfl <;> rfl
  mono := fun as Q Q' ⟨ds, h, h1, h2⟩ f => ⟨ds, h, h1, fun d hd => f _ (h2 d hd)⟩
def T__law_mixed_1 : DTS := (gRet (gLc (giR1 (gU lenU (gOwn 2))) (gdName 3) gYes (gPopAt 2 (gCallS sp__law_pick 0 (gCons (gU lenU (gOwn 2)) gNil))) [3]))
def T__law_mixed : DTS := gSeq (gSetO 2 (gU lstU (gVar 1))) T__law_mixed_1
abbrev N__law_mixed : List Str := ["source", "things", "rest", "lap"]
theorem w__law_mixed (as : List D) (Q : D → Prop) (h : sp__law_mixed.w as Q) : T__law_mixed { nx := fun _ => Q .none, rt := fun d _ => Q d } (startR N__law_mixed (.srcR :: as.map .dat)) := by
  obtain ⟨ds, h, h1, q⟩ := h
  have main : ∀ c : Cl, (gRet (gLc (giR1 (gU lenU (gOwn 2))) (gdName 3) gYes (gPopAt 2 (gCallS sp__law_pick 0 (gCons (gU lenU (gOwn 2)) gNil))) [3])) { nx := fun _ => Q .none, rt := fun d _ => Q d } [some .srcR, some c, some (.own (.list ds)), none] := by
    intro c
    rw [gRet_s]
    refine lcInv (List.range ds.length) (fun i : Nat => PyData.int i) [some .srcR, some c, some (.own (.list ds)), none] (fun i acc ρ => ∃ rest : List D, ρ = [some .srcR, some c, some (.own (.list rest)), none] ∧ rest.length + i = ds.length ∧ (acc ++ rest).Perm ds) (fun P h => ?_) rfl (by simp; omega) ⟨ds, rfl, by omega, .refl _⟩ (fun i x acc ρ2 hx hI => ?_) (fun acc ρ2 hI => ?_)
    · refine ⟨_, rfl, _, rfl, by omega, by omega, ?_⟩
      rw [Int.toNat_natCast, rngD_map]
      exact h
    · obtain ⟨rest, rfl, e, hp⟩ := hI
      have hi : i < ds.length := by
        have := (List.getElem?_eq_some_iff.mp hx).1
        simpa using this
      simp
      refine ⟨by omega, fun r r0 r1 => ?_⟩
      have hr : r.toNat < rest.length := by omega
      refine ⟨rest, r.toNat, (Int.toNat_of_nonneg r0).symm, rfl, by omega, rest[r.toNat], List.getElem?_eq_getElem hr, rest.eraseIdx r.toNat, ?_, ?_, ?_⟩
      · simp [wipeR]
      · rw [List.length_eraseIdx]; simp [hr]; omega
      · exact ((eraseIdx_perm (List.getElem?_eq_getElem hr)).append_left acc).trans hp
    · obtain ⟨rest, rfl, e, hp⟩ := hI
      have e0 : rest = [] := List.eq_nil_of_length_eq_zero (by simpa using e)
      subst e0
      rw [List.append_nil] at hp
      exact q acc hp
  rcases h with rfl | rfl
  all_goals
    unfold T__law_mixed
    rw [gSeq_s, gSetO_s, gU_s, gVar_s]
    exact ⟨_, rfl, main _⟩

abbrev sp__law_row : Spec where
  n := 1
  w := fun as Q => ∃ n : Nat, as = [.int n] ∧ n ≤ 1000 ∧ ∀ ns : List Int, ns.Perm (upTo n) → Q (tupI ns)
  len := fun as Q ⟨n, h, _⟩ => by rw [h]; rfl
  mono := fun as Q Q' ⟨n, h, h1, h2⟩ f => ⟨n, h, h1, fun d hd => f _ (h2 d hd)⟩
def T__law_rowb3_1 : DTS := (gCut 3 (gRev (gSlO 3 (gSome (gVar 5)) (gSome (gBin addD (gVar 5) (gC (.int 2)))))) (gSome (gVar 5)) (gSome (gBin addD (gVar 5) (gC (.int 2)))))
def T__law_rowb3 : DTS := gSeq (gSet 5 (gCallS sp__law_pick 0 (gCons (gA max2A (gCons (gC (.int 1)) (gCons (gBin subD (gVar 1) (gC (.int 1))) gNil))) gNil))) T__law_rowb3_1
def T__law_row_4 : DTS := (gRet (gU tupU (gOwn 3)))
def T__law_row_3 : DTS := gSeq (gFor (giR1 (gCallS sp__law_pick 0 (gCons (gBin addD (gVar 1) (gC (.int 1))) gNil))) (gdName 4) T__law_rowb3) T__law_row_4
def T__law_row_2 : DTS := gSeq (gSetIfN 3 (gTest (gBin eqD (gVar 2) (gC (.int 2)))) (gRev (gOwn 3))) T__law_row_3
def T__law_row_1 : DTS := gSeq (gIfS (gTest (gBin ltD (gVar 2) (gC (.int 2)))) (gFz 3 (gRet (gU tupU (gCallS sp__law_mixed 0 (gCons (gVar 3) gNil))))) gNext) T__law_row_2
def T__law_row : DTS := gSeq (gPar2 2 3 (gcDat (gCallS sp__law_pick 0 (gCons (gC (.int 4)) gNil)) (gcOwn (gLRg (gRg1 (gVar 1))) gcNil))) T__law_row_1
abbrev N__law_row : List Str := ["source", "n", "way", "found", "lap", "k"]
theorem cut_two {ds : List D} {k : Nat} (hk : k ≤ ds.length) : cutD ds (some (k : Int)) (some ((k : Int) + 2)) = (ds.drop k).take (min (k + 2) ds.length - k) := by
  unfold cutD
  rw [show ((k : Int) + 2) = ((k + 2 : Nat) : Int) by omega, HT.sIx_nat, HT.sIx_nat, Nat.min_eq_left hk]
theorem row_loop {Q : D → Prop} {n : Nat} (hn : n ≤ 1000) (q : ∀ ns : List Int, ns.Perm (upTo n) → Q (tupI ns)) (way : Int) (fs : List Int) (hf : fs.Perm (upTo n)) :
    T__law_row_3 { nx := fun _ => Q .none, rt := fun d _ => Q d } [some .srcR, some (.dat (.int n)), some (.dat (.int way)), some (.own (.list (fs.map .int))), none, none] := by
  unfold T__law_row_3
  rw [gSeq_s]
  unfold gFor
  rw [giR1_s]
  simp only [gBin_s, gCallS_s, gCons_s, gC_s, gNil_s, gU_s, gVar_s, lk_zero, lk_succ]
  refine ⟨trivial, _, rfl, trivial, _, rfl, by omega, fun r r0 r1 => ⟨r, rfl, by omega, by omega, ?_⟩⟩
  obtain ⟨l, rfl⟩ := Int.eq_ofNat_of_zero_le r0
  rw [Int.toNat_natCast, rngD_map]
  refine ⟨fun i ρ => ∃ (ms : List Int) (o1 o2 : Option Cl), ms.Perm (upTo n) ∧ ρ = [some .srcR, some (.dat (.int n)), some (.dat (.int way)), some (.own (.list (ms.map .int))), o1, o2], ⟨fs, none, none, hf, rfl⟩, ?_, ?_⟩
  · rintro i d ρ2 hd ⟨ms, o1, o2, hp, rfl⟩
    have lm : ms.length = n := by rw [hp.length_eq, upTo_len]
    unfold T__law_rowb3 T__law_rowb3_1
    rw [gdName_s, gSeq_s, gSet_s]
    refine ⟨rfl, _, rfl, rfl, _, rfl, ?_, fun k k0 k1 => ?_⟩
    · split <;> omega
    obtain ⟨j, rfl⟩ := Int.eq_ofNat_of_zero_le k0
    have hj : j ≤ ms.length := by
      by_cases h : (n : Int) - 1 > 1
      · rw [if_pos h] at k1; omega
      · rw [if_neg h] at k1; omega
    dsimp only
    rw [gCut_s]
    refine ⟨⟨_, rfl⟩, _, rfl, _, rfl, _, rfl, _, rfl, _, rfl, _, rfl, ⟨_, rfl⟩, _, rfl, _, rfl, _, rfl, _, rfl, _, _, j, j + 2, rfl, rfl, rfl, rfl, by omega, by simpa using hj, ?_, ?_⟩
    · rw [cut_two (by simpa using hj)]
      simp
      omega
    · rw [cut_two (by simpa using hj)]
      refine ⟨ms.take j ++ ((ms.drop j).take (min (j + 2) ms.length - j)).reverse ++ ms.drop (min (j + 2) ms.length), some (.dat d), some (.dat (.int j)), ?_, ?_⟩
      · refine List.Perm.trans ?_ hp
        have e : ms = ms.take j ++ (ms.drop j).take (min (j + 2) ms.length - j) ++ ms.drop (min (j + 2) ms.length) := by
          conv => lhs; rw [← List.take_append_drop (min (j + 2) ms.length) ms]
          congr 1
          conv => lhs; rw [← List.take_append_drop j (ms.take (min (j + 2) ms.length))]
          rw [List.take_take, Nat.min_eq_left (by omega), List.drop_take]
        conv => rhs; rw [e]
        exact ((List.reverse_perm _).append_left _).append_right _
      · simp [List.map_take, List.map_drop, List.map_reverse]
  · rintro ρ2 ⟨ms, o1, o2, hp, rfl⟩
    exact ⟨_, rfl, q ms hp⟩
theorem w__law_row (as : List D) (Q : D → Prop) (h : sp__law_row.w as Q) : T__law_row { nx := fun _ => Q .none, rt := fun d _ => Q d } (startR N__law_row (.srcR :: as.map .dat)) := by
  obtain ⟨n, rfl, hn, q⟩ := h
  rw [show startR N__law_row (Cl.srcR :: List.map Cl.dat [PyData.int n]) = [some .srcR, some (.dat (.int n)), none, none, none, none] from rfl]
  unfold T__law_row
  simp only [gSeq_s, gPar2_s, gcDat_s, gcOwn_s, gcNil_s, gCallS_s, gCons_s, gC_s, gNil_s, gLRg_s, gRg1_s, gVar_s, lk_zero, lk_succ]
  refine ⟨trivial, trivial, 4, rfl, by decide, fun way w0 w1 => ⟨_, rfl, _, rfl, by unfold rngB; omega, ?_⟩⟩
  rw [show ((n : Int) - 0).toNat = n by omega, rngD_upTo]
  show T__law_row_1 _ [some .srcR, some (.dat (.int n)), some (.dat (.int way)), some (.own (.list ((upTo n).map .int))), none, none]
  unfold T__law_row_1
  simp only [gSeq_s, gIfS_s, gTest_s, gBin_s, gVar_s, gC_s, lk_zero, lk_succ]
  refine ⟨_, rfl, decide (way < 2), rfl, ?_⟩
  by_cases h2 : way < 2
  · rw [if_pos (by simpa using h2)]
    rw [gFz_s, fz_own rfl]
    simp
    exact ⟨by simpa [upTo_len] using hn, fun es he => by
      obtain ⟨ms, rfl, hm⟩ := perm_ints he
      exact q ms hm⟩
  · rw [if_neg (by simpa using h2)]
    show T__law_row_2 _ _
    unfold T__law_row_2
    simp only [gSeq_s, gSetIfN_s, gTest_s, gBin_s, gVar_s, gC_s, lk_zero, lk_succ, eqD_s]
    refine ⟨_, rfl, rfl, _, rfl, ?_⟩
    by_cases h3 : PyData.eqv (.int way) (.int 2) = true
    · rw [if_pos h3]
      exact ⟨_, rfl, row_loop hn q way _ (.refl _)⟩
    · rw [if_neg h3]
      refine ⟨_, rfl, _, rfl, ?_⟩
      rw [← List.map_reverse]
      exact row_loop hn q way _ (upTo_rev (.refl _))

abbrev sp_plain : Spec where
  n := 1
  w := fun as Q => ∃ n : Nat, as = [.int n] ∧ n ≤ 1000 ∧ Q (tupI (upTo n))
  len := fun as Q ⟨n, h, _⟩ => by rw [h]; rfl
  mono := fun as Q Q' ⟨n, h, h1, q⟩ f => ⟨n, h, h1, f _ q⟩
def T_plain : DTS := (gRet (gTRg (gRg1 (gVar 0))))
abbrev N_plain : List Str := ["n"]
theorem w_plain (as : List D) (Q : D → Prop) (h : sp_plain.w as Q) : T_plain { nx := fun _ => Q .none, rt := fun d _ => Q d } (startR N_plain (as.map .dat)) := by
  obtain ⟨n, rfl, hn, q⟩ := h
  refine ⟨_, rfl, n, rfl, by unfold rngB; omega, ?_⟩
  rw [show ((n : Int) - 0).toNat = n by omega, rngD_upTo]
  exact q

/-! ## rows: what stands out of order -/
def lessOf (a : Int) (r : List Int) : List Int := r.filter fun b => decide (b < a)
def pairsOf : List Int → List (Int × Int)
  | [] => []
  | a :: r => (lessOf a r).map (fun b => (b, a)) ++ pairsOf r
def codeOf : List Int → List Int
  | [] => []
  | a :: r => ((lessOf a r).length : Int) :: codeOf r
def lenOf (ns : List Int) : Int := (codeOf ns).sum
theorem codeOf_len : ∀ ns : List Int, (codeOf ns).length = ns.length
  | [] => rfl
  | a :: r => by simp [codeOf, codeOf_len r]
theorem pairs_len : ∀ ns : List Int, ((pairsOf ns).length : Int) = lenOf ns
  | [] => rfl
  | a :: r => by
    have := pairs_len r
    simp only [pairsOf, lenOf, codeOf, List.length_append, List.length_map, List.sum_cons] at *
    omega
theorem lessOf_perm {a : Int} {r s : List Int} (h : r.Perm s) : (lessOf a r).length = (lessOf a s).length := (h.filter _).length_eq
theorem lessOf_le (a : Int) (r : List Int) : (lessOf a r).length ≤ r.length := List.length_filter_le _ _
theorem lessOf_cons {a b : Int} {r : List Int} : ((lessOf a (b :: r)).length : Int) = (if b < a then 1 else 0) + ((lessOf a r).length : Int) := by
  unfold lessOf
  by_cases h : b < a
  · simp [List.filter_cons, h]; omega
  · simp [List.filter_cons, h]
theorem codeOf_get : ∀ (ns : List Int) (k : Nat) (a : Int), ns[k]? = some a → (codeOf ns)[k]? = some ((lessOf a (ns.drop (k + 1))).length : Int)
  | [], _, _, h => by simp at h
  | x :: r, 0, a, h => by
    simp at h
    subst h
    simp [codeOf]
  | x :: r, k + 1, a, h => by
    simpa [codeOf] using codeOf_get r k a (by simpa using h)
theorem codeOf_map (ns : List Int) : codeOf ns = (List.range ns.length).map fun k => ((lessOf (ns.getD k 0) (ns.drop (k + 1))).length : Int) := by
  refine List.ext_getElem? fun k => ?_
  by_cases hk : k < ns.length
  · rw [codeOf_get ns k ns[k] (List.getElem?_eq_getElem hk), List.getElem?_map, List.getElem?_range hk]
    simp [hk]
  · rw [List.getElem?_eq_none (by rw [codeOf_len]; omega), List.getElem?_eq_none (by simp; omega)]
/-! adjacent places exchanged -/
theorem len_swap {a b : Int} (h : a ≠ b) (post : List Int) : ∀ pre : List Int, lenOf (pre ++ b :: a :: post) = lenOf (pre ++ a :: b :: post) + (if a < b then 1 else -1)
  | [] => by
    simp only [List.nil_append, lenOf, codeOf, List.sum_cons, lessOf_cons]
    by_cases h1 : a < b
    · have h2 : ¬ b < a := by omega
      simp [h1, h2]; omega
    · have h2 : b < a := by omega
      simp [h1, h2]; omega
  | x :: pre => by
    have ih := len_swap h post pre
    have e : (lessOf x (pre ++ b :: a :: post)).length = (lessOf x (pre ++ a :: b :: post)).length := lessOf_perm ((List.Perm.swap a b post).append_left pre)
    simp only [lenOf, List.cons_append, codeOf, List.sum_cons, e] at ih ⊢
    omega
def exch (ns : List Int) (i j : Nat) : List Int := (ns.set i (ns.getD j 0)).set j (ns.getD i 0)
theorem exch_at {ns : List Int} {k : Nat} (h : k + 1 < ns.length) : ns = ns.take k ++ ns.getD k 0 :: ns.getD (k + 1) 0 :: ns.drop (k + 2) ∧ exch ns k (k + 1) = ns.take k ++ ns.getD (k + 1) 0 :: ns.getD k 0 :: ns.drop (k + 2) := by
  have e : ns = ns.take k ++ ns.getD k 0 :: ns.getD (k + 1) 0 :: ns.drop (k + 2) := by
    conv => lhs; rw [← List.take_append_drop k ns]
    rw [List.drop_eq_getElem_cons (by omega), List.drop_eq_getElem_cons h]
    simp [List.getD, show k < ns.length by omega, h]
  refine ⟨e, ?_⟩
  have hl : (ns.take k).length = k := by rw [List.length_take]; omega
  generalize ns.getD k 0 = x at *
  generalize hy : ns.getD (k + 1) 0 = y at *
  unfold exch
  generalize hT : ns.take k = T at *
  generalize ns.drop (k + 2) = U at *
  have hx : ns.getD k 0 = x := by rw [e]; simp [List.getD, List.getElem?_append_right, hl]
  rw [hx, hy]
  rw [e, List.set_append_right _ _ (by omega), List.set_append_right _ _ (by omega)]
  simp [hl]
theorem exch_len {ns : List Int} {k : Nat} (h : k + 1 < ns.length) (d : ns.getD k 0 ≠ ns.getD (k + 1) 0) : lenOf (exch ns k (k + 1)) = lenOf ns + (if ns.getD k 0 < ns.getD (k + 1) 0 then 1 else -1) := by
  obtain ⟨e1, e2⟩ := exch_at h
  rw [e2, len_swap d, ← e1]
/-! codes -/
def decode : List Int → List Int → List Int
  | _, [] => []
  | rest, k :: ks => rest.getD k.toNat 0 :: decode (rest.eraseIdx k.toNat) ks
def CodeOk : Nat → List Int → Prop
  | _, [] => True
  | n, k :: ks => 0 ≤ k ∧ k < n ∧ CodeOk (n - 1) ks
abbrev Up (l : List Int) : Prop := l.Pairwise fun a b => a < b
theorem up_less : ∀ {l : List Int} {k : Nat} {a : Int}, Up l → l[k]? = some a → (lessOf a l).length = k
  | [], _, _, _, h => by simp at h
  | x :: r, 0, a, hu, h => by
    simp at h
    subst h
    have hp := List.pairwise_cons.mp hu
    unfold lessOf
    rw [List.filter_cons_of_neg (by simp)]
    rw [List.filter_eq_nil_iff.mpr (fun b hb => by have := hp.1 b hb; simp; omega)]
    rfl
  | x :: r, k + 1, a, hu, h => by
    have hp := List.pairwise_cons.mp hu
    have hr : r[k]? = some a := by simpa using h
    have := up_less hp.2 hr
    have hx := hp.1 a (List.mem_of_getElem? hr)
    unfold lessOf at *
    rw [List.filter_cons_of_pos (by simpa using hx)]
    simp [this]
theorem up_erase {l : List Int} {k : Nat} (h : Up l) : Up (l.eraseIdx k) := h.sublist (List.eraseIdx_sublist ..)
theorem erase_perm' {l : List Int} {k : Nat} {a : Int} (h : l[k]? = some a) : (a :: l.eraseIdx k).Perm l := by
  induction l generalizing k with
  | nil => simp at h
  | cons x r ih =>
    cases k with
    | zero => simp at h; subst h; exact .refl _
    | succ k => exact (List.Perm.swap x a _).trans ((ih (by simpa using h)).cons x)
theorem less_erase {l : List Int} {k : Nat} {a : Int} (h : l[k]? = some a) : (lessOf a (l.eraseIdx k)).length = (lessOf a l).length := by
  rw [← lessOf_perm (erase_perm' h)]
  unfold lessOf
  rw [List.filter_cons_of_neg (by simp)]
theorem decode_ok : ∀ (code rest : List Int), Up rest → code.length = rest.length → CodeOk rest.length code → (decode rest code).Perm rest ∧ codeOf (decode rest code) = code
  | [], rest, _, hl, _ => by
    have : rest = [] := List.eq_nil_of_length_eq_zero (by simpa using hl.symm)
    subst this
    exact ⟨.refl _, rfl⟩
  | k :: ks, rest, hu, hl, hc => by
    obtain ⟨h0, h1, h2⟩ := hc
    have hk : k.toNat < rest.length := by omega
    have hg : rest[k.toNat]? = some (rest.getD k.toNat 0) := by simp [List.getD, hk]
    have he : (rest.eraseIdx k.toNat).length = rest.length - 1 := by rw [List.length_eraseIdx]; simp [hk]
    obtain ⟨p, c⟩ := decode_ok ks (rest.eraseIdx k.toNat) (up_erase hu) (by simp at hl; omega) (by rw [he]; exact h2)
    refine ⟨(p.cons _).trans (erase_perm' hg), ?_⟩
    show _ :: codeOf _ = _
    rw [c, lessOf_perm p, less_erase hg, up_less hu hg]
    simp; omega
theorem code_back : ∀ (row rest : List Int), Up rest → row.Perm rest → decode rest (codeOf row) = row ∧ CodeOk rest.length (codeOf row)
  | [], rest, _, _ => ⟨rfl, trivial⟩
  | a :: r, rest, hu, hp => by
    have ha : a ∈ rest := hp.mem_iff.mp List.mem_cons_self
    obtain ⟨j, hj⟩ := List.getElem?_of_mem ha
    have e : (lessOf a r).length = j := by
      rw [← up_less hu hj, ← lessOf_perm hp]
      unfold lessOf
      rw [List.filter_cons_of_neg (by simp)]
    have hl := (List.getElem?_eq_some_iff.mp hj).1
    have he : (rest.eraseIdx j).length = rest.length - 1 := by rw [List.length_eraseIdx]; simp [hl]
    have hr : r.Perm (rest.eraseIdx j) := (hp.trans (erase_perm' hj).symm).cons_inv
    obtain ⟨d, c⟩ := code_back r (rest.eraseIdx j) (up_erase hu) hr
    refine ⟨?_, by omega, by rw [e]; omega, by rw [← he]; exact c⟩
    show rest.getD _ 0 :: decode _ _ = _
    rw [e, Int.toNat_natCast, d]
    simp [List.getD, hj]
/-! the other way -/
theorem sum_add {α : Type} (f g : α → Int) : ∀ l : List α, (l.map fun x => f x + g x).sum = (l.map f).sum + (l.map g).sum
  | [] => rfl
  | x :: r => by
    have := sum_add f g r
    simp only [List.map_cons, List.sum_cons] at *
    omega
theorem sum_swap {α β : Type} (f : α → β → Int) : ∀ (l : List α) (m : List β), (l.map fun x => (m.map fun y => f x y).sum).sum = (m.map fun y => (l.map fun x => f x y).sum).sum
  | [], m => by
    induction m with
    | nil => rfl
    | cons y m ih => simpa using ih
  | x :: l, m => by
    rw [List.map_cons, List.sum_cons, sum_swap f l m, ← sum_add]
    rfl
theorem sum_perm {l m : List Int} (h : l.Perm m) : l.sum = m.sum := by
  induction h with
  | nil => rfl
  | cons x _ ih => simp [ih]
  | swap x y l => simp; omega
  | trans _ _ h1 h2 => exact h1.trans h2
/-- how many pairs of places below n are out of order -/
def invs (n : Nat) (f : Nat → Int) : Int := ((List.range n).map fun i => ((List.range n).map fun j => if i < j ∧ f j < f i then (1 : Int) else 0).sum).sum
theorem sum_zero {α : Type} {f : α → Int} : ∀ {l : List α}, (∀ x ∈ l, f x = 0) → (l.map f).sum = 0
  | [], _ => rfl
  | x :: r, h => by
    rw [List.map_cons, List.sum_cons, h x List.mem_cons_self, sum_zero fun y hy => h y (List.mem_cons_of_mem _ hy)]
    rfl
theorem less_sum (a : Int) : ∀ r : List Int, ((lessOf a r).length : Int) = ((List.range r.length).map fun j => if r.getD j 0 < a then (1 : Int) else 0).sum
  | [] => rfl
  | b :: r => by
    rw [lessOf_cons, less_sum a r, List.length_cons, List.range_succ_eq_map, List.map_cons, List.sum_cons, List.map_map]
    congr 1
theorem len_invs : ∀ ns : List Int, lenOf ns = invs ns.length fun i => ns.getD i 0
  | [] => rfl
  | a :: r => by
    have ih := len_invs r
    have e1 : lenOf (a :: r) = ((lessOf a r).length : Int) + lenOf r := rfl
    rw [e1, ih, less_sum]
    unfold invs
    rw [List.length_cons, List.range_succ_eq_map, List.map_cons, List.sum_cons, List.map_map, List.map_cons, List.sum_cons, List.map_map]
    congr 1
    · simp [Function.comp_def]
    · congr 1
      refine List.map_congr_left fun i _ => ?_
      simp only [Function.comp_def, List.map_cons, List.sum_cons, List.map_map]
      simp [Nat.succ_eq_add_one]
/-- bijections that are each other's way back -/
theorem invs_back {n : Nat} {f g : Nat → Nat} (hf : ∀ i, i < n → f i < n) (hg : ∀ i, i < n → g i < n) (fg : ∀ i, i < n → f (g i) = i) (gf : ∀ i, i < n → g (f i) = i) : invs n (fun i => (f i : Int)) = invs n fun i => (g i : Int) := by
  have perm : ((List.range n).map g).Perm (List.range n) := by
    have nd : ((List.range n).map g).Nodup := by
      rw [List.nodup_iff_pairwise_ne] at *
      refine List.pairwise_map.mpr (List.Pairwise.imp_of_mem (fun {x y} hx hy h e => h ?_) List.nodup_range)
      rw [List.mem_range] at hx hy
      rw [← fg x hx, ← fg y hy, e]
    refine (List.perm_ext_iff_of_nodup nd List.nodup_range).mpr fun x => ?_
    rw [List.mem_map]
    simp only [List.mem_range]
    exact ⟨fun ⟨y, hy, e⟩ => e ▸ hg y hy, fun hx => ⟨f x, hf x hx, gf x hx⟩⟩
  have re : ∀ h : Nat → Int, ((List.range n).map h).sum = ((List.range n).map fun y => h (g y)).sum := fun h => by
    have := sum_perm (perm.map h)
    rw [List.map_map] at this
    exact this.symm
  unfold invs
  rw [re]
  have e2 : ((List.range n).map fun y => ((List.range n).map fun j => if g y < j ∧ (f j : Int) < (f (g y) : Int) then (1 : Int) else 0).sum).sum = ((List.range n).map fun y => ((List.range n).map fun x => if g y < g x ∧ x < y then (1 : Int) else 0).sum).sum := by
    congr 1
    refine List.map_congr_left fun y hy => ?_
    rw [re]
    congr 1
    refine List.map_congr_left fun x hx => ?_
    rw [List.mem_range] at hy hx
    rw [fg x hx, fg y hy]
    simp
  rw [e2, sum_swap]
  congr 1
  refine List.map_congr_left fun x _ => ?_
  congr 1
  refine List.map_congr_left fun y _ => ?_
  by_cases h : x < y <;> by_cases h2 : g y < g x <;> simp [h, h2]
def otherOf (ns : List Int) : List Int := (List.range ns.length).map fun v : Nat => ((ns.idxOf (v : Int) : Nat) : Int)
theorem up_upTo (n : Nat) : Up (upTo n) := by
  unfold upTo
  refine List.pairwise_map.mpr (List.pairwise_lt_range.imp fun {a b} h => by omega)
theorem other_len {ns : List Int} {n : Nat} (h : ns.Perm (upTo n)) : lenOf (otherOf ns) = lenOf ns := by
  have hl : ns.length = n := by rw [h.length_eq, upTo_len]
  have nd : ns.Nodup := h.nodup_iff.mpr ((up_upTo n).imp fun {a b} h => by omega)
  have mem : ∀ x : Int, x ∈ ns ↔ ∃ k : Nat, k < n ∧ x = k := fun x => by
    rw [h.mem_iff]
    unfold upTo
    simp only [List.mem_map, List.mem_range]
    exact ⟨fun ⟨a, b, c⟩ => ⟨a, b, c.symm⟩, fun ⟨a, b, c⟩ => ⟨a, b, c.symm⟩⟩
  have fl : ∀ i, i < n → (ns.getD i 0).toNat < n ∧ ((ns.getD i 0).toNat : Int) = ns.getD i 0 := fun i hi => by
    have hm : ns.getD i 0 ∈ ns := by
      rw [show ns.getD i 0 = ns[i]'(by omega) by simp [List.getD, show i < ns.length by omega]]
      exact List.getElem_mem _
    obtain ⟨k, hk, e⟩ := (mem _).mp hm
    omega
  have gl : ∀ v, v < n → ns.idxOf (v : Int) < n := fun v hv => by
    have := List.idxOf_lt_length_iff.mpr ((mem (v : Int)).mpr ⟨v, hv, rfl⟩)
    omega
  have fg : ∀ v, v < n → ns.getD (ns.idxOf (v : Int)) 0 = v := fun v hv => by
    have := gl v hv
    rw [show ns.getD (ns.idxOf (v : Int)) 0 = ns[ns.idxOf (v : Int)]'(by omega) by simp [List.getD, show ns.idxOf (v : Int) < ns.length by omega]]
    exact List.getElem_idxOf (by omega)
  have gf : ∀ i, i < n → ns.idxOf (ns.getD i 0) = i := fun i hi => by
    rw [show ns.getD i 0 = ns[i]'(by omega) by simp [List.getD, show i < ns.length by omega]]
    exact nd.idxOf_getElem i (by omega)
  have e1 : lenOf ns = invs n fun i => (((ns.getD i 0).toNat : Nat) : Int) := by
    rw [len_invs, hl]
    unfold invs
    congr 1
    refine List.map_congr_left fun i hi => ?_
    congr 1
    refine List.map_congr_left fun j hj => ?_
    rw [List.mem_range] at hi hj
    show (if i < j ∧ ns.getD j 0 < ns.getD i 0 then (1 : Int) else 0) = if i < j ∧ (((ns.getD j 0).toNat : Nat) : Int) < (((ns.getD i 0).toNat : Nat) : Int) then 1 else 0
    rw [(fl i hi).2, (fl j hj).2]
  have e2 : lenOf (otherOf ns) = invs n fun v => ((ns.idxOf (v : Int) : Nat) : Int) := by
    have lo : (otherOf ns).length = n := by simp [otherOf, hl]
    rw [len_invs, lo]
    unfold invs
    congr 1
    refine List.map_congr_left fun i hi => ?_
    congr 1
    refine List.map_congr_left fun j hj => ?_
    rw [List.mem_range] at hi hj
    have g : ∀ v, v < n → (otherOf ns).getD v 0 = ((ns.idxOf (v : Int) : Nat) : Int) := fun v hv => by simp [otherOf, List.getD, hl, hv]
    show (if i < j ∧ (otherOf ns).getD j 0 < (otherOf ns).getD i 0 then (1 : Int) else 0) = _
    rw [g i hi, g j hj]
  rw [e1, e2]
  exact (invs_back (f := fun i => (ns.getD i 0).toNat) (g := fun v => ns.idxOf (v : Int)) (fun i hi => (fl i hi).1) gl (fun v hv => by
    show (ns.getD (ns.idxOf (v : Int)) 0).toNat = v
    rw [fg v hv]; rfl) (fun i hi => by
    show ns.idxOf (((ns.getD i 0).toNat : Nat) : Int) = i
    rw [(fl i hi).2]; exact gf i hi)).symm

abbrev sp_exchanged : Spec where
  n := 3
  w := fun as Q => ∃ (ns : List Int) (i j : Nat), as = [tupI ns, .int i, .int j] ∧ i < ns.length ∧ j < ns.length ∧ Q (tupI (exch ns i j))
  len := fun as Q ⟨ns, i, j, h, _⟩ => by rw [h]; rfl
  mono := fun as Q Q' ⟨ns, i, j, h, h1, h2, q⟩ f => ⟨ns, i, j, h, h1, h2, f _ q⟩
def T_exchanged_2 : DTS := (gRet (gU tupU (gOwn 3)))
def T_exchanged_1 : DTS := gSeq (gAsg (gTup (gCons (gBinO ixD 3 (gVar 2)) (gCons (gBinO ixD 3 (gVar 1)) gNil))) (gdTup (gdCons (gdSub 3 (gVar 1)) (gdCons (gdSub 3 (gVar 2)) gdNil)) 2)) T_exchanged_2
def T_exchanged : DTS := gSeq (gSetO 3 (gU lstU (gVar 0))) T_exchanged_1
abbrev N_exchanged : List Str := ["row", "i", "j", "found"]
theorem w_exchanged (as : List D) (Q : D → Prop) (h : sp_exchanged.w as Q) : T_exchanged { nx := fun _ => Q .none, rt := fun d _ => Q d } (startR N_exchanged (as.map .dat)) := by
  obtain ⟨ns, i, j, rfl, hi, hj, q⟩ := h
  unfold T_exchanged T_exchanged_1 T_exchanged_2
  simp [startR, tupI]
  refine ⟨_, atI_int hj, _, atI_int hi, _, ixN_nat hi, _, ixN_nat hj, ?_⟩
  have e : (((ns.map PyData.int).set i (.int (ns.getD j 0))).set j (.int (ns.getD i 0))) = (exch ns i j).map .int := by simp [exch, List.map_set]
  rw [e]
  exact q

abbrev sp_swapped : Spec where
  n := 2
  w := fun as Q => ∃ (ns : List Int) (k : Nat), as = [tupI ns, .int k] ∧ k + 1 < ns.length ∧ Q (tupI (exch ns k (k + 1)))
  len := fun as Q ⟨ns, k, h, _⟩ => by rw [h]; rfl
  mono := fun as Q Q' ⟨ns, k, h, h1, q⟩ f => ⟨ns, k, h, h1, f _ q⟩
def T_swapped : DTS := (gRet (gCall sp_exchanged (gCons (gVar 0) (gCons (gVar 1) (gCons (gBin addD (gVar 1) (gC (.int 1))) gNil)))))
abbrev N_swapped : List Str := ["row", "k"]
theorem w_swapped (as : List D) (Q : D → Prop) (h : sp_swapped.w as Q) : T_swapped { nx := fun _ => Q .none, rt := fun d _ => Q d } (startR N_swapped (as.map .dat)) := by
  obtain ⟨ns, k, rfl, hk, q⟩ := h
  unfold T_swapped
  rw [show startR N_swapped (List.map Cl.dat [tupI ns, PyData.int k]) = [some (.dat (tupI ns)), some (.dat (.int k))] from rfl]
  simp only [gRet_s, gCall_s, gCons_s, gNil_s, gBin_s, gVar_s, gC_s, lk_zero, lk_succ]
  exact ⟨_, rfl, _, rfl, _, rfl, ns, k, k + 1, rfl, by omega, hk, q⟩

/-! ## words: places one after the other -/
def tupN (ws : List Nat) : D := .tuple (ws.map fun k : Nat => .int k)
def WordOk (n : Nat) (ws : List Nat) : Prop := ∀ k ∈ ws, k + 1 < n
def ledM : List Int → List Nat → List Int
  | ns, [] => ns
  | ns, k :: r => ledM (exch ns k (k + 1)) r
theorem exch_perm {ns : List Int} {k : Nat} (h : k + 1 < ns.length) : (exch ns k (k + 1)).Perm ns := by
  unfold exch
  have e1 : ns[k]? = some (ns.getD k 0) := by simp [List.getD, show k < ns.length by omega]
  have e2 : ns[k + 1]? = some (ns.getD (k + 1) 0) := by simp [List.getD, h]
  exact swap_perm e1 e2 (by omega)
theorem exch_length (ns : List Int) (i j : Nat) : (exch ns i j).length = ns.length := by simp [exch]
theorem led_perm : ∀ {ws : List Nat} {ns : List Int}, WordOk ns.length ws → (ledM ns ws).Perm ns
  | [], ns, _ => .refl _
  | k :: r, ns, h => by
    have hk := h k List.mem_cons_self
    exact (led_perm (ns := exch ns k (k + 1)) (fun j hj => by rw [exch_length]; exact h j (List.mem_cons_of_mem _ hj))).trans (exch_perm hk)
theorem led_append : ∀ (u v : List Nat) (ns : List Int), ledM ns (u ++ v) = ledM (ledM ns u) v
  | [], v, ns => rfl
  | k :: r, v, ns => led_append r v _
theorem led_len {ws : List Nat} {ns : List Int} (h : WordOk ns.length ws) : (ledM ns ws).length = ns.length := (led_perm h).length_eq
theorem exch_get {ns : List Int} {k : Nat} (h : k + 1 < ns.length) (i : Nat) : (exch ns k (k + 1)).getD i 0 = if i = k then ns.getD (k + 1) 0 else if i = k + 1 then ns.getD k 0 else ns.getD i 0 := by
  unfold exch
  simp only [List.getD, List.getElem?_set, List.length_set]
  by_cases h1 : k + 1 = i
  · subst h1
    simp [h]
  · by_cases h2 : k = i
    · subst h2
      simp [show k < ns.length by omega]
    · simp [h1, h2, Ne.symm h1, Ne.symm h2]
theorem exch_back {ns : List Int} {k : Nat} (h : k + 1 < ns.length) : exch (exch ns k (k + 1)) k (k + 1) = ns := by
  have e : ∀ (m : List Int) (i : Nat), i < m.length → m[i]? = some (m.getD i 0) := fun m i hi => by simp [List.getD, hi]
  refine List.ext_getElem? fun i => ?_
  by_cases hi : i < ns.length
  · rw [e _ i (by rw [exch_length, exch_length]; exact hi), e _ i hi, exch_get (by rw [exch_length]; exact h), exch_get h, exch_get h, exch_get h]
    by_cases h1 : i = k
    · simp [h1]
    · by_cases h2 : i = k + 1
      · simp [h2]
      · simp [h1, h2]
  · rw [List.getElem?_eq_none (by rw [exch_length, exch_length]; omega), List.getElem?_eq_none (by omega)]
/-- the pairs that are exchanged -/
def wpairs : List Int → List Nat → List (Int × Int)
  | _, [] => []
  | ns, k :: r => (min (ns.getD k 0) (ns.getD (k + 1) 0), max (ns.getD k 0) (ns.getD (k + 1) 0)) :: wpairs (exch ns k (k + 1)) r
theorem wpairs_len : ∀ (ws : List Nat) (ns : List Int), (wpairs ns ws).length = ws.length
  | [], _ => rfl
  | k :: r, ns => by simp [wpairs, wpairs_len r]
/-- every step goes up -/
def Ups : List Int → List Nat → Prop
  | _, [] => True
  | ns, k :: r => k + 1 < ns.length ∧ ns.getD k 0 < ns.getD (k + 1) 0 ∧ Ups (exch ns k (k + 1)) r
theorem ups_ok : ∀ {ws : List Nat} {ns : List Int}, Ups ns ws → WordOk ns.length ws
  | [], _, _ => fun k h => by cases h
  | j :: r, ns, h => fun k hk => by
    rcases List.mem_cons.mp hk with rfl | hk
    · exact h.1
    · have := ups_ok h.2.2 k hk
      rwa [exch_length] at this
/-- a shortest way to the row -/
def IsWay (n : Nat) (row : List Int) (ws : List Nat) : Prop := Ups (upTo n) ws ∧ ledM (upTo n) ws = row
theorem pairs_swap {a b : Int} (h : a < b) (post : List Int) : ∀ pre : List Int, (pairsOf (pre ++ b :: a :: post)).Perm ((a, b) :: pairsOf (pre ++ a :: b :: post))
  | [] => by
    have e1 : lessOf b (a :: post) = a :: lessOf b post := by simp [lessOf, h]
    have e2 : lessOf a (b :: post) = lessOf a post := by
      have : ¬ b < a := by omega
      simp [lessOf, this]
    simp only [List.nil_append, pairsOf, e1, e2, List.map_cons, List.cons_append]
    refine List.Perm.cons _ ?_
    rw [← List.append_assoc, ← List.append_assoc]
    exact (List.perm_append_comm).append_right _
  | x :: pre => by
    have e : (lessOf x (pre ++ b :: a :: post)).Perm (lessOf x (pre ++ a :: b :: post)) := ((List.Perm.swap a b post).append_left pre).filter _
    simp only [List.cons_append, pairsOf]
    exact ((e.map _).append (pairs_swap h post pre)).trans List.perm_middle
theorem pairs_up {ns : List Int} {k : Nat} (h : k + 1 < ns.length) (hu : ns.getD k 0 < ns.getD (k + 1) 0) : (pairsOf (exch ns k (k + 1))).Perm ((ns.getD k 0, ns.getD (k + 1) 0) :: pairsOf ns) := by
  obtain ⟨e1, e2⟩ := exch_at h
  rw [e2]
  conv => rhs; rw [e1]
  have g1 : (ns.take k ++ ns.getD k 0 :: ns.getD (k + 1) 0 :: ns.drop (k + 2)).getD k 0 = ns.getD k 0 := by rw [← e1]
  have g2 : (ns.take k ++ ns.getD k 0 :: ns.getD (k + 1) 0 :: ns.drop (k + 2)).getD (k + 1) 0 = ns.getD (k + 1) 0 := by rw [← e1]
  rw [g1, g2]
  exact pairs_swap hu _ _
theorem ups_pairs : ∀ {ws : List Nat} {ns : List Int}, Ups ns ws → (wpairs ns ws ++ pairsOf ns).Perm (pairsOf (ledM ns ws))
  | [], ns, _ => .refl _
  | k :: r, ns, h => by
    have ih := ups_pairs h.2.2
    have e : (min (ns.getD k 0) (ns.getD (k + 1) 0), max (ns.getD k 0) (ns.getD (k + 1) 0)) = (ns.getD k 0, ns.getD (k + 1) 0) := by
      have := h.2.1
      rw [Int.min_eq_left (by omega), Int.max_eq_right (by omega)]
    show (_ :: (wpairs _ r ++ pairsOf ns)).Perm _
    rw [e]
    exact (List.perm_middle.symm.trans ((pairs_up h.1 h.2.1).symm.append_left _)).trans ih
theorem pairs_none : ∀ {l : List Int}, Up l → pairsOf l = []
  | [], _ => rfl
  | a :: r, h => by
    have hp := List.pairwise_cons.mp h
    have e : lessOf a r = [] := List.filter_eq_nil_iff.mpr fun b hb => by have := hp.1 b hb; simp; omega
    simp [pairsOf, e, pairs_none hp.2]
theorem pairs_upTo (n : Nat) : pairsOf (upTo n) = [] := pairs_none (up_upTo n)
theorem way_pairs {n : Nat} {row : List Int} {ws : List Nat} (h : IsWay n row ws) : (wpairs (upTo n) ws).Perm (pairsOf row) := by
  have := ups_pairs h.1
  rw [pairs_upTo, List.append_nil, h.2] at this
  exact this
theorem pairs_nodup : ∀ {ns : List Int}, ns.Nodup → (pairsOf ns).Nodup
  | [], _ => List.nodup_nil
  | a :: r, h => by
    obtain ⟨h1, h2⟩ := List.nodup_cons.mp h
    refine List.nodup_append.mpr ⟨?_, pairs_nodup h2, fun x hx y hy e => ?_⟩
    · exact List.pairwise_map.mpr ((h2.sublist List.filter_sublist).imp fun {u v} huv e => huv (congrArg Prod.fst e))
    · obtain ⟨b, _, rfl⟩ := List.mem_map.mp hx
      subst e
      have : ∀ (l : List Int) (p : Int × Int), p ∈ pairsOf l → p.2 ∈ l := by
        intro l
        induction l with
        | nil => intro p h; cases h
        | cons c l ih =>
          intro p h
          rcases List.mem_append.mp h with h | h
          · obtain ⟨b, _, rfl⟩ := List.mem_map.mp h
            exact List.mem_cons_self
          · exact List.mem_cons_of_mem _ (ih p h)
      exact h1 (this r _ hy)
theorem row_nodup {ns : List Int} {n : Nat} (h : ns.Perm (upTo n)) : ns.Nodup := h.nodup_iff.mpr ((up_upTo n).imp fun {a b} h => by omega)
theorem led_step {ns : List Int} {ws : List Nat} {i k : Nat} (h : WordOk ns.length ws) (hk : ws[i]? = some k) : k + 1 < (ledM ns (ws.take i)).length ∧ ledM ns (ws.take (i + 1)) = exch (ledM ns (ws.take i)) k (k + 1) := by
  have ok : WordOk ns.length (ws.take i) := fun j hj => h j (List.mem_of_mem_take hj)
  refine ⟨by rw [led_len ok]; exact h k (List.mem_of_getElem? hk), ?_⟩
  rw [List.take_add_one, hk, led_append]
  rfl

abbrev sp_led : Spec where
  n := 2
  w := fun as Q => ∃ (ns : List Int) (ws : List Nat), as = [tupI ns, tupN ws] ∧ WordOk ns.length ws ∧ Q (tupI (ledM ns ws))
  len := fun as Q ⟨ns, ws, h, _⟩ => by rw [h]; rfl
  mono := fun as Q Q' ⟨ns, ws, h, h1, q⟩ f => ⟨ns, ws, h, h1, f _ q⟩
def T_led_1 : DTS := (gRet (gVar 0))
def T_led : DTS := gSeq (gFor (giSeq (gVar 1)) (gdName 2) (gSet 0 (gCall sp_swapped (gCons (gVar 0) (gCons (gVar 2) gNil))))) T_led_1
abbrev N_led : List Str := ["row", "word", "k"]
theorem w_led (as : List D) (Q : D → Prop) (h : sp_led.w as Q) : T_led { nx := fun _ => Q .none, rt := fun d _ => Q d } (startR N_led (as.map .dat)) := by
  obtain ⟨ns, ws, rfl, hw, q⟩ := h
  unfold T_led
  rw [show startR N_led (List.map Cl.dat [tupI ns, tupN ws]) = [some (.dat (tupI ns)), some (.dat (tupN ws)), none] from rfl, gSeq_s]
  refine forInv ws (fun k : Nat => PyData.int k) [some (.dat (tupI ns)), some (.dat (tupN ws)), none] (fun i ρ => ∃ o : Option Cl, ρ = [some (.dat (tupI (ledM ns (ws.take i)))), some (.dat (tupN ws)), o]) (fun P h => ⟨_, rfl, h⟩) ⟨none, rfl⟩ (fun i k ρ2 hk hJ => ?_) (fun ρ2 hJ => ?_)
  · obtain ⟨o, rfl⟩ := hJ
    obtain ⟨h1, h2⟩ := led_step hw hk
    rw [gdName_s, gSet_s]
    exact ⟨_, rfl, _, rfl, _, k, rfl, h1, _, by rw [h2]; rfl⟩
  · obtain ⟨o, rfl⟩ := hJ
    rw [List.take_length]
    exact ⟨_, rfl, q⟩

abbrev sp_row_of : Spec where
  n := 2
  w := fun as Q => ∃ (n : Nat) (ws : List Nat), as = [.int n, tupN ws] ∧ n ≤ 1000 ∧ WordOk n ws ∧ Q (tupI (ledM (upTo n) ws))
  len := fun as Q ⟨ns, ws, h, _⟩ => by rw [h]; rfl
  mono := fun as Q Q' ⟨ns, ws, h, h1, h2, q⟩ f => ⟨ns, ws, h, h1, h2, f _ q⟩
def T_row_of : DTS := (gRet (gCall sp_led (gCons (gCall sp_plain (gCons (gVar 0) gNil)) (gCons (gVar 1) gNil))))
abbrev N_row_of : List Str := ["n", "word"]
theorem w_row_of (as : List D) (Q : D → Prop) (h : sp_row_of.w as Q) : T_row_of { nx := fun _ => Q .none, rt := fun d _ => Q d } (startR N_row_of (as.map .dat)) := by
  obtain ⟨n, ws, rfl, hn, hw, q⟩ := h
  exact ⟨_, rfl, n, rfl, hn, _, rfl, upTo n, ws, rfl, by rw [upTo_len]; exact hw, q⟩

def pD (p : Int × Int) : D := .tuple [.int p.1, .int p.2]
/-- the pairs, sorted -/
def pairsD (ns : List Int) : List D := sorD ((pairsOf ns).map pD)
theorem pairs_bound : ∀ ns : List Int, (pairsOf ns).length ≤ ns.length * ns.length
  | [] => Nat.le_refl _
  | a :: r => by
    have h1 := pairs_bound r
    have h2 := lessOf_le a r
    have h3 : (r.length + 1) * (r.length + 1) = r.length * r.length + r.length + r.length + 1 := by rw [Nat.add_mul, Nat.mul_add]; omega
    simp only [pairsOf, List.length_append, List.length_map, List.length_cons]
    omega
theorem pairs_small {ns : List Int} (h : ns.length ≤ 200) : (pairsOf ns).length ≤ 40000 := Nat.le_trans (pairs_bound ns) (Nat.mul_le_mul h h)
theorem pairs_at {ns : List Int} {i : Nat} {x : Int} (h : ns[i]? = some x) : pairsOf (ns.drop i) = (lessOf x (ns.drop (i + 1))).map (fun b => (b, x)) ++ pairsOf (ns.drop (i + 1)) := by
  have hi := (List.getElem?_eq_some_iff.mp h).1
  rw [List.drop_eq_getElem_cons hi, (List.getElem?_eq_some_iff.mp h).2]
  rfl
theorem sorU_pairs {ps : List (Int × Int)} {P : D → Prop} (h : P (.list (sorD (ps.map pD)))) : sorU (.list (ps.map pD)) P := by
  have m : ∀ d ∈ ps.map pD, ∃ p, d = pD p := fun d hd => by
    obtain ⟨p, _, rfl⟩ := List.mem_map.mp hd
    exact ⟨p, rfl⟩
  refine ⟨_, .inl rfl, fun d hd e he => ?_, .inl fun d hd => ?_, fun d hd => ?_, h⟩
  · obtain ⟨p, rfl⟩ := m d hd
    obtain ⟨q, rfl⟩ := m e he
    simp [pD, PySem.W.alike, PySem.W.alikeAll]
  · obtain ⟨p, rfl⟩ := m d hd
    exact ⟨_, _, rfl⟩
  · obtain ⟨p, rfl⟩ := m d hd
    exact ⟨by simp [pD, PyData.depth, PyData.depthAll], by simp [pD, PyData.canLay0, PyData.canLayAll0]⟩
theorem eqv_pD (p q : Int × Int) : PyData.eqv (pD p) (pD q) = decide (p = q) := by
  have e : PyData.eqv (pD p) (pD q) = (p.1 == q.1 && (p.2 == q.2 && true)) := by simp [pD, PyData.eqv, PyData.eqvAll]
  rw [e]
  obtain ⟨a, b⟩ := p
  obtain ⟨c, d⟩ := q
  by_cases h1 : a = c <;> by_cases h2 : b = d <;> simp [h1, h2]
theorem shaped_pD (p : Int × Int) : SeqAt.shaped (pD p) = true := by simp [pD, SeqAt.shaped, PyData.canLay0, PyData.canLayAll0, PyData.depth, PyData.depthAll]
theorem lay_depth : ∀ {ds : List D} {k : Nat}, (∀ d ∈ ds, d.canLay0 = true ∧ d.depth ≤ k) → PyData.canLayAll0 ds = true ∧ PyData.depthAll ds ≤ k
  | [], k, _ => ⟨rfl, Nat.zero_le _⟩
  | d :: r, k, h => by
    obtain ⟨h1, h2⟩ := h d List.mem_cons_self
    obtain ⟨h3, h4⟩ := lay_depth fun e he => h e (List.mem_cons_of_mem _ he)
    exact ⟨by rw [PyData.canLayAll0, h1, h3]; rfl, by simp only [PyData.depthAll]; omega⟩
theorem shaped_list {ds : List D} {k : Nat} (h : ∀ d ∈ ds, d.canLay0 = true ∧ d.depth ≤ k) (hk : k ≤ 60) : SeqAt.shaped (.list ds) = true ∧ SeqAt.shaped (.tuple ds) = true := by
  obtain ⟨h1, h2⟩ := lay_depth h
  have e1 : (PyData.list ds).depth ≤ 64 := by simp [PyData.depth]; omega
  have e2 : (PyData.tuple ds).depth ≤ 64 := by simp [PyData.depth]; omega
  constructor
  · unfold SeqAt.shaped
    rw [decide_eq_true e1, show (PyData.list ds).canLay0 = true by simpa [PyData.canLay0] using h1]; rfl
  · unfold SeqAt.shaped
    rw [decide_eq_true e2, show (PyData.tuple ds).canLay0 = true by simpa [PyData.canLay0] using h1]; rfl
theorem shaped_pairs (ps : List (Int × Int)) : SeqAt.shaped (.list (ps.map pD)) = true := by
  refine (shaped_list (k := 2) (fun d hd => ?_) (by decide)).1
  obtain ⟨p, _, rfl⟩ := List.mem_map.mp hd
  exact ⟨by simp [pD, PyData.canLay0, PyData.canLayAll0], by simp [pD, PyData.depth, PyData.depthAll]⟩
/-- the first place of a pair -/
theorem ix_pair {ps : List (Int × Int)} {j : Nat} {p : Int × Int} {P : Int → Prop} (h1 : ps[j]? = some p) (h2 : ∀ m : Nat, m < j → ps[m]? ≠ some p) (q : P j) : ixGoes (ps.map pD) (pD p) P := by
  refine ⟨shaped_pairs ps, shaped_pD p, j, pD p, by rw [List.getElem?_map, h1]; rfl, by rw [eqv_pD]; simp, fun m z hm hz => ?_, q⟩
  rw [List.getElem?_map] at hz
  obtain ⟨q', hq, rfl⟩ := Option.map_eq_some_iff.mp hz
  rw [eqv_pD]
  exact decide_eq_false fun e => h2 m hm (e ▸ hq)

abbrev sp_word_pairs : Spec where
  n := 2
  w := fun as Q => ∃ (n : Nat) (ws : List Nat), as = [.int n, tupN ws] ∧ n ≤ 1000 ∧ ws.length < 100000 ∧ WordOk n ws ∧ Q (.tuple ((wpairs (upTo n) ws).map pD))
  len := fun as Q ⟨n, ws, h, _⟩ => by rw [h]; rfl
  mono := fun as Q Q' ⟨n, ws, h, h1, h2, h3, q⟩ f => ⟨n, ws, h, h1, h2, h3, f _ q⟩
def T_word_pairsb1_1 : DTS := (gAsg (gTup (gCons (gBinO ixD 2 (gBin addD (gVar 4) (gC (.int 1)))) (gCons (gBinO ixD 2 (gVar 4)) gNil))) (gdTup (gdCons (gdSub 2 (gVar 4)) (gdCons (gdSub 2 (gBin addD (gVar 4) (gC (.int 1)))) gdNil)) 2))
def T_word_pairsb1 : DTS := gSeq (gApp 3 (gTup (gCons (gA min2A (gCons (gBinO ixD 2 (gVar 4)) (gCons (gBinO ixD 2 (gBin addD (gVar 4) (gC (.int 1)))) gNil))) (gCons (gA max2A (gCons (gBinO ixD 2 (gVar 4)) (gCons (gBinO ixD 2 (gBin addD (gVar 4) (gC (.int 1)))) gNil))) gNil)))) T_word_pairsb1_1
def T_word_pairs_2 : DTS := (gRet (gU tupU (gOwn 3)))
def T_word_pairs_1 : DTS := gSeq (gFor (giSeq (gVar 1)) (gdName 4) T_word_pairsb1) T_word_pairs_2
def T_word_pairs : DTS := gSeq (gPar2 2 3 (gcOwn (gU lstU (gCall sp_plain (gCons (gVar 0) gNil))) (gcOwn (gLst gNil) gcNil))) T_word_pairs_1
abbrev N_word_pairs : List Str := ["n", "word", "row", "found", "k"]
theorem wpairs_step {ns : List Int} {ws : List Nat} {i k : Nat} (hk : ws[i]? = some k) : (wpairs ns ws).take (i + 1) = (wpairs ns ws).take i ++ [(min ((ledM ns (ws.take i)).getD k 0) ((ledM ns (ws.take i)).getD (k + 1) 0), max ((ledM ns (ws.take i)).getD k 0) ((ledM ns (ws.take i)).getD (k + 1) 0))] := by
  induction ws generalizing ns i with
  | nil => simp at hk
  | cons j r ih =>
    cases i with
    | zero =>
      simp at hk
      subst hk
      rfl
    | succ i =>
      have := ih (ns := exch ns j (j + 1)) (i := i) (by simpa using hk)
      simp only [wpairs, List.take_succ_cons, ledM, List.cons_append] at this ⊢
      rw [this]
theorem w_word_pairs (as : List D) (Q : D → Prop) (h : sp_word_pairs.w as Q) : T_word_pairs { nx := fun _ => Q .none, rt := fun d _ => Q d } (startR N_word_pairs (as.map .dat)) := by
  obtain ⟨n, ws, rfl, hn, hl, hw, q⟩ := h
  unfold T_word_pairs
  rw [show startR N_word_pairs (List.map Cl.dat [PyData.int n, tupN ws]) = [some (.dat (.int n)), some (.dat (tupN ws)), none, none, none] from rfl, gSeq_s, gPar2_s]
  refine ⟨_, rfl, n, rfl, hn, by simp, ?_⟩
  show T_word_pairs_1 _ [some (.dat (.int n)), some (.dat (tupN ws)), some (.own (.list ((upTo n).map .int))), some (.own (.list [])), none]
  unfold T_word_pairs_1
  rw [gSeq_s]
  have hw' : WordOk (upTo n).length ws := by rw [upTo_len]; exact hw
  refine forInv ws (fun k : Nat => PyData.int k) [some (.dat (.int n)), some (.dat (tupN ws)), some (.own (.list ((upTo n).map .int))), some (.own (.list [])), none] (fun i ρ => ∃ o : Option Cl, ρ = [some (.dat (.int n)), some (.dat (tupN ws)), some (.own (.list ((ledM (upTo n) (ws.take i)).map .int))), some (.own (.list (((wpairs (upTo n) ws).take i).map pD))), o]) (fun P h => ⟨_, rfl, h⟩) ⟨none, rfl⟩ (fun i k ρ2 hk hJ => ?_) (fun ρ2 hJ => ?_)
  · obtain ⟨o, rfl⟩ := hJ
    obtain ⟨h1, h2⟩ := led_step hw' hk
    have hi := (List.getElem?_eq_some_iff.mp hk).1
    have a1 := atI_int (ns := ledM (upTo n) (ws.take i)) (k := k) (by omega)
    have a2 : atI ((ledM (upTo n) (ws.take i)).map PyData.int) ((k : Int) + 1) = some (.int ((ledM (upTo n) (ws.take i)).getD (k + 1) 0)) := by
      rw [show ((k : Int) + 1) = ((k + 1 : Nat) : Int) by omega]
      exact atI_int h1
    have st := wpairs_step (ns := upTo n) hk
    rw [h2, st]
    generalize ledM (upTo n) (ws.take i) = r at *
    have lp : ((wpairs (upTo n) ws).take i).length ≤ i := List.length_take_le ..
    generalize (wpairs (upTo n) ws).take i = ps at *
    unfold T_word_pairsb1 T_word_pairsb1_1
    simp only [gdName_s, gSeq_s, gApp_s, gTup_s, gCons_s, gNil_s, gA_s, gBinO_s, gBin_s, gVar_s, gC_s, List.set_cons_succ, List.set_cons_zero, lk_zero, lk_succ, addD_ii]
    refine ⟨⟨_, rfl⟩, ⟨_, rfl⟩, _, rfl, _, rfl, _, a1, ⟨_, rfl⟩, _, rfl, _, rfl, _, a2, ?_⟩
    simp only [min2_ii]
    refine ⟨⟨_, rfl⟩, _, rfl, _, rfl, _, a1, ⟨_, rfl⟩, _, rfl, _, rfl, _, a2, ?_⟩
    simp only [max2_ii]
    refine ⟨by simp, _, rfl, by rw [List.length_map]; omega, ?_⟩
    simp only [gAsg_s, gTup_s, gCons_s, gNil_s, gBinO_s, gBin_s, gVar_s, gC_s, lk_zero, lk_succ, addD_ii]
    refine ⟨⟨_, rfl⟩, _, rfl, _, rfl, _, a2, ⟨_, rfl⟩, _, rfl, _, rfl, _, a1, by simp, rfl, ?_⟩
    simp only [gdCons_s, gdNil_s, gdSub_s, gBin_s, gVar_s, gC_s, lk_zero, lk_succ, addD_ii]
    refine ⟨⟨_, rfl⟩, _, rfl, _, _, _, rfl, rfl, by rw [List.length_map]; exact ixN_nat (by omega), ⟨_, rfl⟩, _, rfl, _, _, _, rfl, rfl, by rw [List.length_set, List.length_map, show ((k : Int) + 1) = ((k + 1 : Nat) : Int) by omega]; exact ixN_nat h1, trivial, some (.dat (.int k)), ?_⟩
    have e1 : (if r.getD (k + 1) 0 < r.getD k 0 then r.getD (k + 1) 0 else r.getD k 0) = min (r.getD k 0) (r.getD (k + 1) 0) := by split <;> omega
    have e2 : (if r.getD (k + 1) 0 > r.getD k 0 then r.getD (k + 1) 0 else r.getD k 0) = max (r.getD k 0) (r.getD (k + 1) 0) := by split <;> omega
    rw [e1, e2]
    simp [exch, List.map_set, pD]
  · obtain ⟨o, rfl⟩ := hJ
    unfold T_word_pairs_2
    have e : (wpairs (upTo n) ws).take ws.length = wpairs (upTo n) ws := List.take_of_length_le (by rw [wpairs_len]; exact Nat.le_refl _)
    rw [e]
    exact ⟨_, rfl, q⟩

abbrev sp_without : Spec where
  n := 2
  w := fun as Q => ∃ (ds : List D) (i : Nat), as = [.tuple ds, .int i] ∧ ds.length ≤ 1000 ∧ i ≤ 1000 ∧ Q (.tuple (ds.take i ++ ds.drop (i + 1)))
  len := fun as Q ⟨n, ws, h, _⟩ => by rw [h]; rfl
  mono := fun as Q Q' ⟨n, ws, h, h1, h2, q⟩ f => ⟨n, ws, h, h1, h2, f _ q⟩
def T_without : DTS := (gRet (gBin addD (gSl (gVar 0) gNo (gSome (gVar 1))) (gSl (gVar 0) (gSome (gBin addD (gVar 1) (gC (.int 1)))) gNo)))
abbrev N_without : List Str := ["word", "i"]
theorem w_without (as : List D) (Q : D → Prop) (h : sp_without.w as Q) : T_without { nx := fun _ => Q .none, rt := fun d _ => Q d } (startR N_without (as.map .dat)) := by
  obtain ⟨ds, i, rfl, hl, hi, q⟩ := h
  unfold T_without
  rw [show startR N_without (List.map Cl.dat [PyData.tuple ds, .int i]) = [some (.dat (.tuple ds)), some (.dat (.int i))] from rfl, gRet_s]
  refine ⟨_, rfl, _, rfl, _, rfl, ?_⟩
  refine ⟨_, rfl, _, rfl, _, rfl, ?_⟩
  show addD (.tuple (cutD ds none (some (i : Int)))) (.tuple (cutD ds (some ((i : Int) + 1)) none)) _
  rw [cut_to, cut_from]
  exact ⟨by rw [List.length_take, List.length_drop]; omega, q⟩

abbrev sp_exchange_place : Spec where
  n := 3
  w := fun as Q => ∃ (n : Nat) (ws : List Nat) (k j : Nat), as = [.int n, tupN ws, .int k] ∧ n ≤ 1000 ∧ ws.length < 100000 ∧ WordOk n ws ∧ k + 1 < n ∧ (wpairs (upTo n) ws)[j]? = some ((ledM (upTo n) ws).getD (k + 1) 0, (ledM (upTo n) ws).getD k 0) ∧
    (∀ m : Nat, m < j → (wpairs (upTo n) ws)[m]? ≠ some ((ledM (upTo n) ws).getD (k + 1) 0, (ledM (upTo n) ws).getD k 0)) ∧ Q (.int j)
  len := fun as Q ⟨n, ws, k, j, h, _⟩ => by rw [h]; rfl
  mono := fun as Q Q' ⟨n, ws, k, j, h, h1, h2, h3, h4, h5, h6, q⟩ f => ⟨n, ws, k, j, h, h1, h2, h3, h4, h5, h6, f _ q⟩
def T_exchange_place_1 : DTS := (gRet (gIndexT (gCall sp_word_pairs (gCons (gVar 0) (gCons (gVar 1) gNil))) (gTup (gCons (gBin ixD (gVar 3) (gBin addD (gVar 2) (gC (.int 1)))) (gCons (gBin ixD (gVar 3) (gVar 2)) gNil)))))
def T_exchange_place : DTS := gSeq (gSet 3 (gCall sp_row_of (gCons (gVar 0) (gCons (gVar 1) gNil)))) T_exchange_place_1
abbrev N_exchange_place : List Str := ["n", "way", "k", "row"]
theorem w_exchange_place (as : List D) (Q : D → Prop) (h : sp_exchange_place.w as Q) : T_exchange_place { nx := fun _ => Q .none, rt := fun d _ => Q d } (startR N_exchange_place (as.map .dat)) := by
  obtain ⟨n, ws, k, j, rfl, hn, hl, hw, hk, h1, h2, q⟩ := h
  have ll : (ledM (upTo n) ws).length = n := by rw [led_len (by rw [upTo_len]; exact hw), upTo_len]
  unfold T_exchange_place
  rw [show startR N_exchange_place (List.map Cl.dat [PyData.int n, tupN ws, .int k]) = [some (.dat (.int n)), some (.dat (tupN ws)), some (.dat (.int k)), none] from rfl, gSeq_s, gSet_s]
  refine ⟨_, rfl, _, rfl, n, ws, rfl, hn, hw, ?_⟩
  show T_exchange_place_1 _ [some (.dat (.int n)), some (.dat (tupN ws)), some (.dat (.int k)), some (.dat (tupI (ledM (upTo n) ws)))]
  unfold T_exchange_place_1
  rw [gRet_s, gIndexT_s]
  refine ⟨_, rfl, _, rfl, n, ws, rfl, hn, hl, hw, _, rfl, ?_⟩
  refine ⟨_, rfl, _, rfl, _, by rw [show ((k : Int) + 1) = ((k + 1 : Nat) : Int) by omega]; exact atI_int (by omega), ?_⟩
  refine ⟨_, rfl, _, rfl, _, atI_int (by omega), by simp, ?_⟩
  exact ix_pair h1 h2 q

abbrev sp__law_swapped : Spec where
  n := 2
  w := fun as Q => ∃ (ns : List Int) (k : Nat), as = [tupI ns, .int k] ∧ ns.length ≤ 1000 ∧ k + 1 < ns.length ∧ Q (tupI (exch ns k (k + 1)))
  len := fun as Q ⟨ns, k, h, _⟩ => by rw [h]; rfl
  mono := fun as Q Q' ⟨ns, k, h, h1, h2, q⟩ f => ⟨ns, k, h, h1, h2, f _ q⟩
def T__law_swapped : DTS := (gRet (gBin addD (gBin addD (gSl (gVar 0) gNo (gSome (gVar 1))) (gTup (gCons (gBin ixD (gVar 0) (gBin addD (gVar 1) (gC (.int 1)))) (gCons (gBin ixD (gVar 0) (gVar 1)) gNil)))) (gSl (gVar 0) (gSome (gBin addD (gVar 1) (gC (.int 2)))) gNo)))
abbrev N__law_swapped : List Str := ["row", "k"]
theorem w__law_swapped (as : List D) (Q : D → Prop) (h : sp__law_swapped.w as Q) : T__law_swapped { nx := fun _ => Q .none, rt := fun d _ => Q d } (startR N__law_swapped (as.map .dat)) := by
  obtain ⟨ns, k, rfl, hl, hk, q⟩ := h
  unfold T__law_swapped
  rw [show startR N__law_swapped (List.map Cl.dat [tupI ns, .int k]) = [some (.dat (tupI ns)), some (.dat (.int k))] from rfl, gRet_s]
  refine ⟨_, rfl, _, rfl, _, rfl, ?_⟩
  refine ⟨_, rfl, _, rfl, _, by rw [show ((k : Int) + 1) = ((k + 1 : Nat) : Int) by omega]; exact atI_int hk, ?_⟩
  refine ⟨_, rfl, _, rfl, _, atI_int (by omega), by simp, ?_⟩
  show addD (.tuple (cutD (ns.map .int) none (some (k : Int)))) (.tuple [.int (ns.getD (k + 1) 0), .int (ns.getD k 0)]) _
  rw [cut_to]
  refine ⟨by simp; omega, _, rfl, _, rfl, _, rfl, ?_⟩
  show addD (.tuple ((ns.map .int).take k ++ [.int (ns.getD (k + 1) 0), .int (ns.getD k 0)])) (.tuple (cutD (ns.map .int) (some ((k : Int) + 2)) none)) _
  rw [show ((k : Int) + 2) = ((k + 1 : Nat) : Int) + 1 by omega, cut_from]
  refine ⟨by simp; omega, ?_⟩
  obtain ⟨_, e⟩ := exch_at hk
  have e2 : (ns.map PyData.int).take k ++ [.int (ns.getD (k + 1) 0), .int (ns.getD k 0)] ++ (ns.map PyData.int).drop (k + 1 + 1) = (exch ns k (k + 1)).map .int := by
    rw [e]
    simp [List.map_take, List.map_drop]
  rw [e2]
  exact q

abbrev sp__law_led : Spec where
  n := 2
  w := fun as Q => ∃ (ns : List Int) (ws : List Nat), as = [tupI ns, tupN ws] ∧ ns.length ≤ 1000 ∧ WordOk ns.length ws ∧ Q (tupI (ledM ns ws))
  len := fun as Q ⟨ns, ws, h, _⟩ => by rw [h]; rfl
  mono := fun as Q Q' ⟨ns, ws, h, h1, h2, q⟩ f => ⟨ns, ws, h, h1, h2, f _ q⟩
def T__law_led_1 : DTS := (gRet (gVar 0))
def T__law_led : DTS := gSeq (gFor (giSeq (gVar 1)) (gdName 2) (gSet 0 (gCall sp__law_swapped (gCons (gVar 0) (gCons (gVar 2) gNil))))) T__law_led_1
abbrev N__law_led : List Str := ["row", "word", "k"]
theorem w__law_led (as : List D) (Q : D → Prop) (h : sp__law_led.w as Q) : T__law_led { nx := fun _ => Q .none, rt := fun d _ => Q d } (startR N__law_led (as.map .dat)) := by
  obtain ⟨ns, ws, rfl, hl, hw, q⟩ := h
  unfold T__law_led
  rw [show startR N__law_led (List.map Cl.dat [tupI ns, tupN ws]) = [some (.dat (tupI ns)), some (.dat (tupN ws)), none] from rfl, gSeq_s]
  refine forInv ws (fun k : Nat => PyData.int k) [some (.dat (tupI ns)), some (.dat (tupN ws)), none] (fun i ρ => ∃ o : Option Cl, ρ = [some (.dat (tupI (ledM ns (ws.take i)))), some (.dat (tupN ws)), o]) (fun P h => ⟨_, rfl, h⟩) ⟨none, rfl⟩ (fun i k ρ2 hk hJ => ?_) (fun ρ2 hJ => ?_)
  · obtain ⟨o, rfl⟩ := hJ
    obtain ⟨h1, h2⟩ := led_step hw hk
    have hl2 : (ledM ns (ws.take i)).length ≤ 1000 := by rw [led_len (fun j hj => hw j (List.mem_of_mem_take hj))]; exact hl
    rw [gdName_s, gSet_s]
    exact ⟨_, rfl, _, rfl, _, k, rfl, hl2, h1, _, by rw [h2]; rfl⟩
  · obtain ⟨o, rfl⟩ := hJ
    rw [List.take_length]
    exact ⟨_, rfl, q⟩

def dropsOf (ns : List Int) : List Int := ((List.range (ns.length - 1)).filter fun k => decide (ns.getD (k + 1) 0 < ns.getD k 0)).map fun k : Nat => (k : Int)
/-- [k for k in range(n) if row[k] > row[k + 1]], wherever it stands -/
theorem drops_lc {gi : DTI} {i j : Nat} {ρ : Rho} {Q : D → Rho → Prop} {ns : List Int} (hl : ns.length ≤ 1000) (ρ1 : Rho) (hi : ∀ P : List D → Rho → Prop, P ((List.range (ns.length - 1)).map fun k : Nat => PyData.int k) ρ1 → gi ρ P) (h1 : noOwn ρ1 [j] = true)
    (hr : ∀ d : D, lk ((wipeR ρ1 [j]).set j (some (.dat d))) i = some (.dat (tupI ns))) (hj : ∀ d : D, lk ((wipeR ρ1 [j]).set j (some (.dat d))) j = some (.dat d)) (hw : ∀ d : D, wipeR ((wipeR ρ1 [j]).set j (some (.dat d))) [j] = wipeR ρ1 [j])
    (q : Q (.list ((dropsOf ns).map .int)) (mergeR ρ1 (wipeR ρ1 [j]) [j])) :
    gLc gi (gdName j) (gTest (gBin gtD (gBin ixD (gVar i) (gVar j)) (gBin ixD (gVar i) (gBin addD (gVar j) (gC (.int 1)))))) (gVar j) [j] ρ Q := by
  refine lcAt (List.range (ns.length - 1)) (fun k : Nat => PyData.int k) (fun k => if (fun k => decide (ns.getD (k + 1) 0 < ns.getD k 0)) k = true then some (PyData.int k) else none) ρ1 hi h1 (by simp; omega) (fun k hk P hP => ?_) ?_
  · have hk' : k + 1 < ns.length := by
      have := List.mem_range.mp hk
      omega
    rw [gdName_s]
    simp only [gTest_s, gBin_s, gVar_s, gC_s]
    refine ⟨_, hr _, _, hj _, ?_⟩
    refine ⟨_, atI_int (by omega), _, hr _, _, hj _, ?_⟩
    refine ⟨_, by rw [show ((k : Int) + 1) = ((k + 1 : Nat) : Int) by omega]; exact atI_int hk', ?_⟩
    refine ⟨_, rfl, ?_⟩
    by_cases c : ns.getD (k + 1) 0 < ns.getD k 0
    · rw [if_pos (by simpa using c)]
      dsimp only at hP
      rw [if_pos (by simpa using c)] at hP
      exact ⟨_, hj _, by rw [hw]; exact hP⟩
    · rw [if_neg (by simpa using c)]
      dsimp only at hP
      rw [if_neg (by simpa using c)] at hP
      rw [hw]; exact hP
  · rw [filter_some]
    have e : ((List.range (ns.length - 1)).filter fun k => decide (ns.getD (k + 1) 0 < ns.getD k 0)).map (fun k : Nat => PyData.int k) = (dropsOf ns).map .int := by
      unfold dropsOf
      rw [List.map_map]; rfl
    rw [e]
    exact q

abbrev sp__law_drops : Spec where
  n := 1
  w := fun as Q => ∃ ns : List Int, as = [tupI ns] ∧ ns.length ≤ 1000 ∧ Q (lstI (dropsOf ns))
  len := fun as Q ⟨ns, h, _⟩ => by rw [h]; rfl
  mono := fun as Q Q' ⟨ns, h, h1, q⟩ f => ⟨ns, h, h1, f _ q⟩
def T__law_drops : DTS := (gRet (gLc (giR1 (gBin subD (gU lenU (gVar 0)) (gC (.int 1)))) (gdName 1) (gTest (gBin gtD (gBin ixD (gVar 0) (gVar 1)) (gBin ixD (gVar 0) (gBin addD (gVar 1) (gC (.int 1)))))) (gVar 1) [1]))
abbrev N__law_drops : List Str := ["row", "k"]
theorem w__law_drops (as : List D) (Q : D → Prop) (h : sp__law_drops.w as Q) : T__law_drops { nx := fun _ => Q .none, rt := fun d _ => Q d } (startR N__law_drops (as.map .dat)) := by
  obtain ⟨ns, rfl, hl, q⟩ := h
  unfold T__law_drops
  rw [gRet_s]
  rw [show startR N__law_drops (List.map Cl.dat [tupI ns]) = [some (.dat (tupI ns)), none] from rfl]
  refine drops_lc hl [some (.dat (tupI ns)), none] (fun P h => ?_) rfl (fun d => rfl) (fun d => rfl) (fun d => rfl) q
  have ll : (ns.map PyData.int).length = ns.length := List.length_map ..
  refine ⟨_, rfl, _, rfl, by rw [ll]; omega, by rw [ll]; omega, ?_⟩
  rw [rng_to (n := ns.length - 1) (by rw [ll]; omega)]
  exact h

abbrev sp__law_way : Spec where
  n := 1
  w := fun as Q => ∃ (row : List Int) (n : Nat), as = [tupI row] ∧ n ≤ 200 ∧ row.Perm (upTo n) ∧ ∀ ws : List Nat, IsWay n row ws → Q (tupN ws)
  len := fun as Q ⟨row, n, h, _⟩ => by rw [h]; rfl
  mono := fun as Q Q' ⟨row, n, h, h1, h2, q⟩ f => ⟨row, n, h, h1, h2, fun ws hw => f _ (q ws hw)⟩
def T__law_wayb1_1 : DTS := (gSet 1 (gCall sp__law_swapped (gCons (gVar 1) (gCons (gBinO ixD 2 (gNeg (gC (.int 1)))) gNil))))
def T__law_wayb1 : DTS := gSeq (gApp 2 (gCallS sp__law_of 0 (gCons (gCall sp__law_drops (gCons (gVar 1) gNil)) gNil))) T__law_wayb1_1
def T__law_way_2 : DTS := (gRet (gU tupU (gRev (gOwn 2))))
def T__law_way_1 : DTS := gSeq (gWhile (gTest (gBin neD (gCall sp__law_drops (gCons (gVar 1) gNil)) (gLst gNil))) T__law_wayb1) T__law_way_2
def T__law_way : DTS := gSeq (gSetO 2 (gLst gNil)) T__law_way_1
abbrev N__law_way : List Str := ["source", "row", "found"]
theorem drops_mem {ns : List Int} {x : Int} (h : x ∈ dropsOf ns) : ∃ k : Nat, x = k ∧ k + 1 < ns.length ∧ ns.getD (k + 1) 0 < ns.getD k 0 := by
  unfold dropsOf at h
  obtain ⟨k, hk, rfl⟩ := List.mem_map.mp h
  obtain ⟨h1, h2⟩ := List.mem_filter.mp hk
  have := List.mem_range.mp h1
  exact ⟨k, rfl, by omega, by simpa using h2⟩
theorem drops_len (ns : List Int) : (dropsOf ns).length ≤ ns.length := by
  unfold dropsOf
  rw [List.length_map]
  refine Nat.le_trans (List.length_filter_le _ _) ?_
  rw [List.length_range]; omega
theorem no_drops {ns : List Int} (h : dropsOf ns = []) : ns.Pairwise fun a b => a ≤ b := by
  have adj : ∀ k, k + 1 < ns.length → ns.getD k 0 ≤ ns.getD (k + 1) 0 := fun k hk => by
    apply Classical.byContradiction
    intro c
    have : (k : Int) ∈ dropsOf ns := by
      unfold dropsOf
      exact List.mem_map.mpr ⟨k, List.mem_filter.mpr ⟨List.mem_range.mpr (by omega), decide_eq_true (by omega)⟩, rfl⟩
    rw [h] at this
    cases this
  have far : ∀ d k, k + d < ns.length → ns.getD k 0 ≤ ns.getD (k + d) 0 := fun d => by
    induction d with
    | zero => exact fun k _ => Int.le_refl _
    | succ d ih => exact fun k hk => Int.le_trans (ih k (by omega)) (adj (k + d) (by omega))
  refine List.pairwise_iff_getElem.mpr fun i j hi hj hij => ?_
  have := far (j - i) i (by omega)
  rw [show i + (j - i) = j by omega] at this
  simpa [List.getD, hi, hj] using this
theorem sorted_row {ns : List Int} {n : Nat} (hp : ns.Perm (upTo n)) (h : dropsOf ns = []) : ns = upTo n :=
  pw_uniq (le := fun a b : Int => decide (a ≤ b)) (fun x _ y _ h1 h2 => by have := of_decide_eq_true h1; have := of_decide_eq_true h2; omega) hp ((no_drops h).imp fun h => by simpa using h) ((up_upTo n).imp fun h => by simpa using Int.le_of_lt h)
theorem atI_last {ds : List D} {d : D} : atI (ds ++ [d]) (-1) = some d := L2.atI_last ds d
theorem w__law_way (as : List D) (Q : D → Prop) (h : sp__law_way.w as Q) : T__law_way { nx := fun _ => Q .none, rt := fun d _ => Q d } (startR N__law_way (.srcR :: as.map .dat)) := by
  obtain ⟨row, n, rfl, hn, hp, q⟩ := h
  unfold T__law_way
  rw [show startR N__law_way (Cl.srcR :: List.map Cl.dat [tupI row]) = [some .srcR, some (.dat (tupI row)), none] from rfl, gSeq_s, gSetO_s]
  refine ⟨by simp, ?_⟩
  show T__law_way_1 _ [some .srcR, some (.dat (tupI row)), some (.own (.list []))]
  unfold T__law_way_1
  rw [gSeq_s, gWhile_s]
  have nn : ∀ r : List Int, 0 ≤ lenOf r := fun r => by rw [← pairs_len]; omega
  have l0 : row.length = n := by rw [hp.length_eq, upTo_len]
  refine ⟨fun m ρ => ∃ (r : List Int) (f : List Nat), ρ = [some .srcR, some (.dat (tupI r)), some (.own (.list (f.map fun k : Nat => PyData.int k)))] ∧ r.Perm (upTo n) ∧ Ups r f.reverse ∧ ledM r f.reverse = row ∧ lenOf r = m ∧ f.length + m ≤ 40000, ⟨(lenOf row).toNat, row, [], rfl, hp, trivial, rfl, by have := nn row; omega, ?_⟩, ?_⟩
  · have := pairs_len row
    have := pairs_small (ns := row) (by omega)
    simp
    omega
  · rintro m ρ2 ⟨r, f, rfl, hr, hu, hl, em, hb⟩
    have lr : r.length = n := by rw [hr.length_eq, upTo_len]
    have okd : SeqAt.shaped (lstI (dropsOf r)) = true := by
      refine (shaped_list (k := 0) (fun d hd => ?_) (by decide)).1
      obtain ⟨x, _, rfl⟩ := List.mem_map.mp hd
      exact ⟨rfl, by simp [PyData.depth]⟩
    rw [gTest_s, gBin_s]
    refine ⟨_, rfl, r, rfl, by omega, by simp, eqOk_of okd (by decide), _, rfl, ?_⟩
    by_cases hd : dropsOf r = []
    · rw [hd]
      have e : (!PyData.eqv (lstI []) (.list [])) = false := by simp [lstI, PyData.eqv, PyData.eqvAll]
      rw [e, if_neg Bool.false_ne_true]
      unfold T__law_way_2
      refine ⟨_, rfl, _, rfl, ?_⟩
      rw [← List.map_reverse]
      have er := sorted_row hr hd
      subst er
      exact q f.reverse ⟨hu, hl⟩
    · have e : (!PyData.eqv (lstI (dropsOf r)) (.list [])) = true := by
        cases h : dropsOf r with
        | nil => exact absurd h hd
        | cons x y => simp [lstI, PyData.eqv, PyData.eqvAll]
      rw [e, if_pos rfl]
      unfold T__law_wayb1
      rw [gSeq_s, gApp_s]
      refine ⟨⟨_, rfl⟩, rfl, _, rfl, r, rfl, by omega, rfl, (dropsOf r).map .int, .inl rfl, ?_, ?_, fun d hdm => ?_⟩
      · rw [List.length_map]
        exact List.length_pos_iff.mpr hd
      · have := drops_len r
        rw [List.length_map]; omega
      · obtain ⟨x, hx, rfl⟩ := List.mem_map.mp hdm
        obtain ⟨k, rfl, hk, hlt⟩ := drops_mem hx
        refine ⟨_, rfl, by rw [List.length_map]; omega, ?_⟩
        show T__law_wayb1_1 _ [some .srcR, some (.dat (tupI r)), some (.own (.list ((f.map fun k : Nat => PyData.int k) ++ [.int k])))]
        unfold T__law_wayb1_1
        rw [gSet_s]
        refine ⟨_, rfl, ⟨_, rfl⟩, 1, rfl, _, rfl, _, atI_last, r, k, rfl, by omega, hk, ?_⟩
        have ex := exch_len hk (by omega)
        rw [if_neg (by omega)] at ex
        have n2 := nn (exch r k (k + 1))
        refine ⟨m - 1, by omega, exch r k (k + 1), f ++ [k], by simp, (exch_perm hk).trans hr, ?_, ?_, by omega, by simp; omega⟩
        · rw [List.reverse_append]
          refine ⟨by rw [exch_length]; exact hk, ?_, ?_⟩
          · rw [exch_get hk, exch_get hk]
            simpa using hlt
          · rw [exch_back hk]; exact hu
        · rw [List.reverse_append]
          show ledM (exch (exch r k (k + 1)) k (k + 1)) f.reverse = row
          rw [exch_back hk]; exact hl

abbrev sp__law_drawn_word : Spec where
  n := 2
  w := fun as Q => ∃ n most : Nat, as = [.int n, .int most] ∧ 1 ≤ n ∧ n ≤ 200 ∧ 2 ≤ most ∧ most ≤ 1000 ∧ ∀ ws : List Nat, WordOk n ws → ws.length ≤ most → Q (tupN ws)
  len := fun as Q ⟨n, m, h, _⟩ => by rw [h]; rfl
  mono := fun as Q Q' ⟨n, m, h, h1, h2, h3, h4, q⟩ f => ⟨n, m, h, h1, h2, h3, h4, fun ws a b => f _ (q ws a b)⟩
def T__law_drawn_wordb3_1 : DTS := (gSet 3 (gBin addD (gBin addD (gSl (gVar 3) gNo (gSome (gVar 5))) (gTup (gCons (gCallS sp__law_pick 0 (gCons (gBin subD (gVar 1) (gC (.int 1))) gNil)) gNil))) (gSl (gVar 3) (gSome (gVar 5)) gNo)))
def T__law_drawn_wordb3 : DTS := gSeq (gSet 5 (gCallS sp__law_pick 0 (gCons (gBin addD (gU lenU (gVar 3)) (gC (.int 1))) gNil))) T__law_drawn_wordb3_1
def T__law_drawn_word_4 : DTS := (gRet (gVar 3))
def T__law_drawn_word_3 : DTS := gSeq (gFor (giR1 (gCallS sp__law_pick 0 (gCons (gC (.int 3)) gNil))) (gdName 4) T__law_drawn_wordb3) T__law_drawn_word_4
def T__law_drawn_word_2 : DTS := gSeq (gSet 3 (gSl (gCallS sp__law_way 0 (gCons (gCallS sp__law_row 0 (gCons (gVar 1) gNil)) gNil)) gNo (gSome (gBin subD (gVar 2) (gC (.int 2)))))) T__law_drawn_word_3
def T__law_drawn_word_1 : DTS := gSeq (gIfS (gTest (gBin eqD (gCallS sp__law_pick 0 (gCons (gC (.int 2)) gNil)) (gC (.int 0)))) (gRet (gU tupU (gLc (giR1 (gCallS sp__law_pick 0 (gCons (gBin addD (gVar 2) (gC (.int 1))) gNil))) (gdName 5) gYes (gCallS sp__law_pick 0 (gCons (gBin subD (gVar 1) (gC (.int 1))) gNil)) [5]))) gNext) T__law_drawn_word_2
def T__law_drawn_word : DTS := gSeq (gIfS (gTest (gBin eqD (gVar 1) (gC (.int 1)))) (gRet (gTup gNil)) gNext) T__law_drawn_word_1
abbrev N__law_drawn_word : List Str := ["source", "n", "most", "word", "lap", "k"]
theorem w__law_drawn_word (as : List D) (Q : D → Prop) (h : sp__law_drawn_word.w as Q) : T__law_drawn_word { nx := fun _ => Q .none, rt := fun d _ => Q d } (startR N__law_drawn_word (.srcR :: as.map .dat)) := by
  obtain ⟨n, most, rfl, hn1, hn, hm2, hm, q⟩ := h
  rw [show startR N__law_drawn_word (Cl.srcR :: List.map Cl.dat [PyData.int n, .int most]) = [some .srcR, some (.dat (.int n)), some (.dat (.int most)), none, none, none] from rfl]
  unfold T__law_drawn_word
  rw [gSeq_s, gIfS_s, gTest_s, gBin_s]
  refine ⟨_, rfl, rfl, _, rfl, ?_⟩
  by_cases h1 : n = 1
  · rw [if_pos (by subst h1; rfl)]
    exact ⟨by simp, q [] (fun k h => by cases h) (Nat.zero_le _)⟩
  · rw [if_neg (by simp [PyData.eqv]; omega)]
    show T__law_drawn_word_1 _ [some .srcR, some (.dat (.int n)), some (.dat (.int most)), none, none, none]
    unfold T__law_drawn_word_1
    rw [gSeq_s, gIfS_s, gTest_s, gBin_s]
    refine ⟨rfl, rfl, 2, rfl, by decide, fun r r0 r1 => ⟨rfl, _, rfl, ?_⟩⟩
    by_cases hr : PyData.eqv (.int r) (.int 0) = true
    · rw [if_pos hr]
      rw [gRet_s, gU_s]
      unfold gLc
      rw [giR1_s]
      refine ⟨rfl, _, rfl, rfl, _, rfl, by omega, fun l l0 l1 => ⟨l, rfl, by omega, by omega, rfl, by rw [rngD_len]; omega, fun i acc ρ => ∃ ws : List Nat, acc = ws.map (fun k : Nat => PyData.int k) ∧ ws.length = i ∧ WordOk n ws ∧ ρ = [some .srcR, some (.dat (.int n)), some (.dat (.int most)), none, none, none], ⟨[], rfl, rfl, (fun k h => by cases h), rfl⟩, ?_, ?_⟩⟩
      · rintro i d acc ρ2 hd - ⟨ws, rfl, hl, hw, rfl⟩
        rw [gdName_s]
        refine ⟨rfl, _, rfl, rfl, _, rfl, by omega, fun k k0 k1 => ?_⟩
        obtain ⟨j, rfl⟩ := Int.eq_ofNat_of_zero_le k0
        refine ⟨ws ++ [j], by simp, by simp [hl], fun x hx => ?_, rfl⟩
        rcases List.mem_append.mp hx with hx | hx
        · exact hw x hx
        · rw [List.mem_singleton.mp hx]; omega
      · rintro acc ρ2 ⟨ws, rfl, hl, hw, rfl⟩
        exact q ws hw (by rw [hl, rngD_len]; omega)
    · rw [if_neg hr]
      show T__law_drawn_word_2 _ [some .srcR, some (.dat (.int n)), some (.dat (.int most)), none, none, none]
      unfold T__law_drawn_word_2
      rw [gSeq_s, gSet_s]
      refine ⟨rfl, rfl, _, rfl, rfl, n, rfl, by omega, fun ns hp => ⟨rfl, ns, n, rfl, hn, hp, fun ws hw => ?_⟩⟩
      refine ⟨_, rfl, _, rfl, ?_⟩
      show T__law_drawn_word_3 _ [some .srcR, some (.dat (.int n)), some (.dat (.int most)), some (.dat (.tuple (cutD (ws.map fun k : Nat => PyData.int k) none (some ((most : Int) - 2))))), none, none]
      rw [show ((most : Int) - 2) = ((most - 2 : Nat) : Int) by omega, cut_to, ← List.map_take]
      have ow : WordOk n (ws.take (most - 2)) := fun j hj => by
        have := ups_ok hw.1 j (List.mem_of_mem_take hj)
        rwa [upTo_len] at this
      have lw : (ws.take (most - 2)).length ≤ most - 2 := List.length_take_le ..
      generalize ws.take (most - 2) = u at *
      unfold T__law_drawn_word_3
      rw [gSeq_s]
      unfold gFor
      rw [giR1_s]
      refine ⟨rfl, rfl, 3, rfl, by decide, fun l l0 l1 => ⟨l, rfl, by omega, by omega, ?_⟩⟩
      obtain ⟨m, rfl⟩ := Int.eq_ofNat_of_zero_le l0
      rw [Int.toNat_natCast, rngD_map]
      refine ⟨fun i ρ => ∃ (v : List Nat) (o1 o2 : Option Cl), WordOk n v ∧ v.length ≤ most - 2 + i ∧ ρ = [some .srcR, some (.dat (.int n)), some (.dat (.int most)), some (.dat (tupN v)), o1, o2], ⟨u, none, none, ow, lw, rfl⟩, ?_, ?_⟩
      · rintro i d ρ2 hd ⟨v, o1, o2, hv, lv, rfl⟩
        unfold T__law_drawn_wordb3
        rw [gdName_s, gSeq_s, gSet_s]
        have hi : i < m := by
          have := (List.getElem?_eq_some_iff.mp hd).1
          simpa using this
        have ll : (v.map fun k : Nat => PyData.int k).length = v.length := List.length_map ..
        refine ⟨rfl, _, rfl, rfl, _, rfl, by rw [ll]; omega, fun k k0 k1 => ?_⟩
        rw [ll] at k1
        obtain ⟨j, rfl⟩ := Int.eq_ofNat_of_zero_le k0
        show T__law_drawn_wordb3_1 _ [some .srcR, some (.dat (.int n)), some (.dat (.int most)), some (.dat (tupN v)), some (.dat d), some (.dat (.int j))]
        unfold T__law_drawn_wordb3_1
        rw [gSet_s]
        refine ⟨_, rfl, _, rfl, _, rfl, ?_⟩
        refine ⟨rfl, _, rfl, rfl, _, rfl, by omega, fun z z0 z1 => ⟨by simp, ?_⟩⟩
        obtain ⟨x, rfl⟩ := Int.eq_ofNat_of_zero_le z0
        show addD (.tuple (cutD (v.map fun k : Nat => PyData.int k) none (some (j : Int)))) (.tuple [.int x]) _
        rw [cut_to]
        refine ⟨by simp; omega, _, rfl, _, rfl, _, rfl, ?_⟩
        simp only [gNo_s, tupN]
        rw [cut_from0]
        refine ⟨by simp; omega, v.take j ++ [x] ++ v.drop j, some (.dat d), some (.dat (.int j)), fun y hy => ?_, ?_, ?_⟩
        · rcases List.mem_append.mp hy with hy | hy
          · rcases List.mem_append.mp hy with hy | hy
            · exact hv y (List.mem_of_mem_take hy)
            · rw [List.mem_singleton.mp hy]; omega
          · exact hv y (List.mem_of_mem_drop hy)
        · simp; omega
        · simp [tupN, List.map_take, List.map_drop]
      · rintro ρ2 ⟨v, o1, o2, hv, lv, rfl⟩
        rw [List.length_map, List.length_range] at lv
        exact ⟨_, rfl, q v hv (by omega)⟩

/-! ## what the laws compare -/
abbrev Okay (d : D) : Prop := ∃ n k, OkR n k d ∧ n ≤ 2 ^ 20 ∧ k ≤ 60
theorem okay_of {n k : Nat} {d : D} (h : OkR n k d) (h1 : n ≤ 2 ^ 20) (h2 : k ≤ 60) : Okay d := ⟨n, k, h, h1, h2⟩
theorem neRepr {ga gb : DTE} {ρ : Rho} {P : Bool → Rho → Prop} (x : D) (ok : Okay x) (ha : ∀ R : D → Rho → Prop, R x ρ → ga ρ R) (hb : ∀ R : D → Rho → Prop, R x ρ → gb ρ R) (q : P false ρ) : gTest (gBin neD (gU reprU ga) (gU reprU gb)) ρ P := by
  rw [gTest_s, gBin_s]
  refine ha _ ⟨ok, hb _ ⟨ok, rfl, _, rfl, ?_⟩⟩
  rw [show PyData.eqv (.str x.shown) (.str x.shown) = true by simp [PyData.eqv]]
  exact q
theorem eqRepr {ga gb : DTE} {ρ : Rho} {Q : D → Rho → Prop} (x : D) (ok : Okay x) (ha : ∀ R : D → Rho → Prop, R x ρ → ga ρ R) (hb : ∀ R : D → Rho → Prop, R x ρ → gb ρ R) (q : Q (.bool true) ρ) : gBin eqD (gU reprU ga) (gU reprU gb) ρ Q := by
  rw [gBin_s]
  refine ha _ ⟨ok, hb _ ⟨ok, rfl, ?_⟩⟩
  rw [show PyData.eqv (.str x.shown) (.str x.shown) = true by simp [PyData.eqv]]
  exact q
theorem neInt {ga gb : DTE} {ρ : Rho} {P : Bool → Rho → Prop} (x : Int) (ha : ∀ R : D → Rho → Prop, R (.int x) ρ → ga ρ R) (hb : ∀ R : D → Rho → Prop, R (.int x) ρ → gb ρ R) (q : P false ρ) : gTest (gBin neD ga gb) ρ P := by
  rw [gTest_s, gBin_s]
  refine ha _ (hb _ ⟨rfl, _, rfl, ?_⟩)
  rw [show PyData.eqv (.int x) (.int x) = true by simp [PyData.eqv]]
  exact q
theorem alike_ints : ∀ ns : List Int, PySem.W.alikeAll (ns.map PyData.int) (ns.map PyData.int) = true
  | [] => rfl
  | x :: r => by
    rw [List.map_cons, PySem.W.alikeAll, alike_ints r]
    rfl
theorem neList {ga gb : DTE} {ρ : Rho} {P : Bool → Rho → Prop} (ns : List Int) (hs : SeqAt.shaped (lstI ns) = true) (ha : ∀ R : D → Rho → Prop, R (lstI ns) ρ → ga ρ R) (hb : ∀ R : D → Rho → Prop, R (lstI ns) ρ → gb ρ R) (q : P false ρ) : gTest (gBin neD ga gb) ρ P := by
  rw [gTest_s, gBin_s]
  refine ha _ (hb _ ⟨eqOk_of hs hs, _, rfl, ?_⟩)
  have e : PyData.eqv (lstI ns) (lstI ns) = true := PySem.W.eqv_refl_alike _ (alike_ints ns)
  rw [e]
  exact q
theorem okI {ns : List Int} {m : Nat} (h : ∀ x ∈ ns, x.natAbs < 10 ^ 12) (hl : ns.length ≤ m) : OkR (m * 41) 1 (tupI ns) := okTupMap (fun x hx => okInt (h x hx)) hl
theorem okLI {ns : List Int} {m : Nat} (h : ∀ x ∈ ns, x.natAbs < 10 ^ 12) (hl : ns.length ≤ m) : OkR (m * 41) 1 (lstI ns) := okLstMap (fun x hx => okInt (h x hx)) hl
theorem sorU_int {ns : List Int} {d : D} {P : D → Prop} (hd : d = tupI ns ∨ d = lstI ns) (h : P (.list (sorD (ns.map .int)))) : sorU d P := by
  have m : ∀ d ∈ ns.map PyData.int, ∃ p, d = .int p := fun d hd => by
    obtain ⟨p, _, rfl⟩ := List.mem_map.mp hd
    exact ⟨p, rfl⟩
  refine ⟨_, hd.symm, fun d hd e he => ?_, .inr fun d hd => ?_, fun d hd => ?_, h⟩
  · obtain ⟨p, rfl⟩ := m d hd
    obtain ⟨q, rfl⟩ := m e he
    rfl
  · obtain ⟨p, rfl⟩ := m d hd
    exact ⟨(fun z => by cases z), fun xs z => by cases z⟩
  · obtain ⟨p, rfl⟩ := m d hd
    exact ⟨by simp [PyData.depth], rfl⟩
theorem sorD_up {ns ms : List Int} (h : ns.Perm ms) (hu : ms.Pairwise fun a b => a ≤ b) : sorD (ns.map PyData.int) = ms.map .int := by
  refine sorD_is (fun x hx y hy h1 h2 => ?_) (h.symm.map _) (List.pairwise_map.mpr (hu.imp fun {a b} h => by rw [leI]; simpa using h))
  obtain ⟨a, _, rfl⟩ := List.mem_map.mp hx
  obtain ⟨b, _, rfl⟩ := List.mem_map.mp hy
  rw [leI] at h1 h2
  rw [show a = b by have := of_decide_eq_true h1; have := of_decide_eq_true h2; omega]
theorem row_small {ns : List Int} {n : Nat} (h : ns.Perm (upTo n)) (hn : n ≤ 1000) : ∀ x ∈ ns, x.natAbs < 10 ^ 12 := fun x hx => by
  have := upTo_mem.mp (h.mem_iff.mp hx)
  omega

/-! ## two values exchanged -/
def swapV (a b x : Int) : Int := if x = a then b else if x = b then a else x
theorem swapV_twice (a b x : Int) : swapV a b (swapV a b x) = x := by
  unfold swapV
  split <;> (try split) <;> (try split) <;> omega
theorem swapV_comm (a b : Int) : swapV a b = swapV b a := by
  funext x
  unfold swapV
  split <;> split <;> omega
theorem swapV_mm (a b : Int) : swapV (min a b) (max a b) = swapV a b := by
  by_cases h : a ≤ b
  · rw [Int.min_eq_left h, Int.max_eq_right h]
  · rw [Int.min_eq_right (by omega), Int.max_eq_left (by omega), swapV_comm]
theorem getD_map {ns : List Int} {f : Int → Int} {i : Nat} (h : i < ns.length) : (ns.map f).getD i 0 = f (ns.getD i 0) := by simp [List.getD, h]
theorem exch_map {ns : List Int} {f : Int → Int} {k : Nat} (h : k + 1 < ns.length) : exch (ns.map f) k (k + 1) = (exch ns k (k + 1)).map f := by
  unfold exch
  rw [getD_map h, getD_map (by omega)]
  simp [List.map_set]
theorem led_map : ∀ {ws : List Nat} {ns : List Int} {f : Int → Int}, WordOk ns.length ws → ledM (ns.map f) ws = (ledM ns ws).map f
  | [], _, _, _ => rfl
  | k :: r, ns, f, h => by
    show ledM (exch (ns.map f) k (k + 1)) r = _
    rw [exch_map (h k List.mem_cons_self), led_map (fun j hj => by rw [exch_length]; exact h j (List.mem_cons_of_mem _ hj))]
    rfl
theorem nodup_inj {α : Type} {l : List α} (nd : l.Nodup) {i j : Nat} (hi : i < l.length) (hj : j < l.length) (e : l[i] = l[j]) : i = j := by
  rcases Nat.lt_trichotomy i j with h | h | h
  · exact absurd e (List.pairwise_iff_getElem.mp nd i j hi hj h)
  · exact h
  · exact absurd e.symm (List.pairwise_iff_getElem.mp nd j i hj hi h)
theorem exch_swapV {ns : List Int} {k : Nat} (nd : ns.Nodup) (h : k + 1 < ns.length) : exch ns k (k + 1) = ns.map (swapV (ns.getD k 0) (ns.getD (k + 1) 0)) := by
  have e : ∀ (m : List Int) (i : Nat), i < m.length → m[i]? = some (m.getD i 0) := fun m i hi => by simp [List.getD, hi]
  have ne : ∀ i j, i < ns.length → j < ns.length → i ≠ j → ns.getD i 0 ≠ ns.getD j 0 := fun i j hi hj hij q => by
    have q' : ns[i] = ns[j] := by simpa [List.getD, hi, hj] using q
    exact hij (nodup_inj nd hi hj q')
  refine List.ext_getElem? fun i => ?_
  by_cases hi : i < ns.length
  · rw [e _ i (by rw [exch_length]; exact hi), e _ i (by simpa using hi), exch_get h, getD_map hi]
    unfold swapV
    by_cases h1 : i = k
    · subst h1; simp
    · by_cases h2 : i = k + 1
      · subst h2
        rw [if_neg h1, if_pos rfl, if_neg (ne _ _ hi (by omega) (by omega)), if_pos rfl]
      · rw [if_neg h1, if_neg h2, if_neg (ne _ _ hi (by omega) h1), if_neg (ne _ _ hi h h2)]
  · rw [List.getElem?_eq_none (by rw [exch_length]; omega), List.getElem?_eq_none (by simp; omega)]
/-- a place left out: the pair exchanged there is exchanged in the row -/
theorem led_without {ns : List Int} {ws : List Nat} {i : Nat} {p : Int × Int} (nd : ns.Nodup) (hw : WordOk ns.length ws) (hp : (wpairs ns ws)[i]? = some p) : ledM ns (ws.take i ++ ws.drop (i + 1)) = (ledM ns ws).map (swapV p.1 p.2) := by
  induction ws generalizing ns i with
  | nil => simp [wpairs] at hp
  | cons k r ih =>
    have hk := hw k List.mem_cons_self
    have hr : WordOk ns.length r := fun j hj => hw j (List.mem_cons_of_mem _ hj)
    cases i with
    | zero =>
      simp only [wpairs, List.getElem?_cons_zero, Option.some.injEq] at hp
      subst hp
      show ledM ns r = (ledM (exch ns k (k + 1)) r).map _
      rw [swapV_mm, exch_swapV nd hk, led_map hr, List.map_map]
      have : (swapV (ns.getD k 0) (ns.getD (k + 1) 0) ∘ swapV (ns.getD k 0) (ns.getD (k + 1) 0)) = id := funext fun x => swapV_twice _ _ x
      rw [this, List.map_id]
    | succ i =>
      exact ih (ns := exch ns k (k + 1)) (i := i) ((exch_perm hk).nodup_iff.mpr nd) (by rw [exch_length]; exact hr) (by simpa [wpairs] using hp)
theorem eqv_tupI : ∀ a b : List Int, PyData.eqv (tupI a) (tupI b) = decide (a = b)
  | [], [] => by simp [tupI, PyData.eqv, PyData.eqvAll]
  | [], y :: b => by simp [tupI, PyData.eqv, PyData.eqvAll]
  | x :: a, [] => by simp [tupI, PyData.eqv, PyData.eqvAll]
  | x :: a, y :: b => by
    have ih := eqv_tupI a b
    simp only [tupI, PyData.eqv, List.map_cons, PyData.eqvAll] at ih ⊢
    rw [ih]
    by_cases h1 : x = y <;> by_cases h2 : a = b <;> simp [h1, h2]
theorem shaped_tupI (a : List Int) : SeqAt.shaped (tupI a) = true := by
  refine (shaped_list (k := 0) (fun d hd => ?_) (by decide)).2
  obtain ⟨x, _, rfl⟩ := List.mem_map.mp hd
  exact ⟨rfl, by simp [PyData.depth]⟩
theorem pairs_lt : ∀ {ns : List Int} {p : Int × Int}, p ∈ pairsOf ns → p.1 < p.2 ∧ p.1 ∈ ns ∧ p.2 ∈ ns
  | [], p, h => by cases h
  | a :: r, p, h => by
    rcases List.mem_append.mp h with h | h
    · obtain ⟨b, hb, rfl⟩ := List.mem_map.mp h
      have hb' := List.mem_filter.mp hb
      exact ⟨by simpa using hb'.2, List.mem_cons_of_mem _ hb'.1, List.mem_cons_self⟩
    · obtain ⟨h1, h2, h3⟩ := pairs_lt h
      exact ⟨h1, List.mem_cons_of_mem _ h2, List.mem_cons_of_mem _ h3⟩
/-- the same pair is exchanged -/
theorem swapV_same {ns : List Int} {p q : Int × Int} (hp : p.1 < p.2 ∧ p.1 ∈ ns ∧ p.2 ∈ ns) (hq : q.1 < q.2) (e : ns.map (swapV p.1 p.2) = ns.map (swapV q.1 q.2)) : p = q := by
  have h1 := List.map_inj_left.mp e p.1 hp.2.1
  unfold swapV at h1
  rw [if_pos rfl] at h1
  obtain ⟨a, b⟩ := p
  obtain ⟨c, d⟩ := q
  dsimp only at *
  split at h1
  · rename_i h; rw [h, h1]
  · split at h1 <;> omega
/-- a drop is a pair of neighbours -/
theorem drop_pair {ns : List Int} {k : Nat} (h : k + 1 < ns.length) (hlt : ns.getD (k + 1) 0 < ns.getD k 0) : (ns.getD (k + 1) 0, ns.getD k 0) ∈ pairsOf ns := by
  have : ∀ (l : List Int) (k : Nat), k + 1 < l.length → l.getD (k + 1) 0 < l.getD k 0 → (l.getD (k + 1) 0, l.getD k 0) ∈ pairsOf l := by
    intro l
    induction l with
    | nil => intro k h; simp at h
    | cons a r ih =>
      intro k h hlt
      cases k with
      | zero =>
        cases r with
        | nil => simp at h
        | cons b r =>
          refine List.mem_append_left _ (List.mem_map.mpr ⟨b, List.mem_filter.mpr ⟨List.mem_cons_self, ?_⟩, rfl⟩)
          simpa using hlt
      | succ k => exact List.mem_append_right _ (ih k (by simpa using h) hlt)
  exact this ns k h hlt
theorem range_one {m j : Nat} (h : j < m) : (List.range m).filter (fun i => decide (i = j)) = [j] := by
  induction m with
  | zero => omega
  | succ m ih =>
    rw [List.range_succ, List.filter_append]
    by_cases e : j = m
    · subst e
      rw [List.filter_eq_nil_iff.mpr (fun x hx => by have := List.mem_range.mp hx; simp; omega)]
      simp
    · rw [ih (by omega)]
      simp [Ne.symm e]

def T_lawb0b6_1 : DTS := (gIfS (gOr (gTest (gBin neD (gU lenU (gVar 11)) (gC (.int 1)))) (gTest (gBin neD (gU reprU (gVar 10)) (gU reprU (gBin ixD (gVar 11) (gC (.int 0))))))) (gRet (gC (.bool false))) gNext)
def T_lawb0b6 : DTS := gSeq (gPar2 10 11 (gcDat (gCall sp_exchange_place (gCons (gVar 3) (gCons (gVar 5) (gCons (gVar 9) gNil)))) (gcDat (gLc (giR1 (gU lenU (gVar 5))) (gdName 12) (gTest (gBin eqD (gBin ixD (gVar 8) (gVar 12)) (gCall sp__law_swapped (gCons (gVar 4) (gCons (gVar 9) gNil))))) (gVar 12) [12]) gcNil))) T_lawb0b6_1
def T_lawb0_7 : DTS := (gIfS (gTest (gBin neD (gU reprU (gLst (gCons (gVar 5) (gCons (gVar 6) gNil)))) (gVar 7))) (gRet (gC (.bool false))) gNext)
def T_lawb0_6 : DTS := gSeq (gFor (giSeq (gCall sp__law_drops (gCons (gVar 4) gNil))) (gdName 9) T_lawb0b6) T_lawb0_7
def T_lawb0_5 : DTS := gSeq (gSet 8 (gLc (giR1 (gU lenU (gVar 5))) (gdName 12) gYes (gCall sp__law_led (gCons (gTRg (gRg1 (gVar 3))) (gCons (gBin addD (gSl (gVar 5) gNo (gSome (gVar 12))) (gSl (gVar 5) (gSome (gBin addD (gVar 12) (gC (.int 1)))) gNo)) gNil))) [12])) T_lawb0_6
def T_lawb0_4 : DTS := gSeq (gIfS (gTest (gBin neD (gLc (giR1 (gU lenU (gVar 6))) (gdName 12) gYes (gCall sp_without (gCons (gVar 6) (gCons (gVar 12) gNil))) [12]) (gLc (giR1 (gU lenU (gVar 6))) (gdName 12) gYes (gBin addD (gSl (gVar 6) gNo (gSome (gVar 12))) (gSl (gVar 6) (gSome (gBin addD (gVar 12) (gC (.int 1)))) gNo)) [12]))) (gRet (gC (.bool false))) gNext) T_lawb0_5
def T_lawb0_3 : DTS := gSeq (gSet 7 (gU reprU (gLst (gCons (gVar 5) (gCons (gVar 6) gNil))))) T_lawb0_4
def T_lawb0_2 : DTS := gSeq (gAsg (gTup (gCons (gCallS sp__law_way 1 (gCons (gVar 4) gNil)) (gCons (gCallS sp__law_drawn_word 1 (gCons (gVar 3) (gCons (gC (.int 20)) gNil))) gNil))) (gdTup (gdCons (gdName 5) (gdCons (gdName 6) gdNil)) 2)) T_lawb0_3
def T_lawb0_1 : DTS := gSeq (gSet 4 (gCallS sp__law_row 1 (gCons (gVar 3) gNil))) T_lawb0_2
def T_lawb0 : DTS := gSeq (gSet 3 (gBin addD (gC (.int 2)) (gCallS sp__law_pick 1 (gCons (gBin ixD (gLst (gCons (gC (.int 3)) (gCons (gC (.int 6)) (gCons (gC (.int 11)) gNil)))) (gVar 2)) gNil)))) T_lawb0_1
def T_law_1 : DTS := (gRet (gBin eqD (gLc (giSeq (gTup (gCons (gC (.int 0)) (gCons (gC (.int 1)) gNil)))) (gdName 9) gYes (gCall sp_exchange_place (gCons (gC (.int 3)) (gCons (gTup (gCons (gC (.int 0)) (gCons (gC (.int 1)) (gCons (gC (.int 0)) gNil)))) (gCons (gVar 9) gNil)))) [9]) (gLst (gCons (gC (.int 2)) (gCons (gC (.int 0)) gNil)))))
def T_law : DTS := gSeq (gFor (giR1 (gC (.int 3))) (gdName 2) T_lawb0) T_law_1
abbrev N_law : List Str := ["script", "source", "lap", "n", "row", "way", "word", "kept", "rows", "k", "told", "due", "i"]
theorem okN {ws : List Nat} {m : Nat} (h : ∀ k ∈ ws, k < 1000) (hl : ws.length ≤ m) : OkR (m * 41) 1 (tupN ws) := okTupMap (fun k hk => okInt (by have := h k hk; omega)) hl
def Turn (d0 : D) (ρ : Rho) : Prop := ∃ o2 o3 o4 o5 o6 o7 o8 o9 o10 o11 o12 : Option Cl, ρ = [some (.dat d0), some .srcR, o2, o3, o4, o5, o6, o7, o8, o9, o10, o11, o12] ∧ noOwn [o12] [0] = true ∧ noOwn [o9] [0] = true
theorem okWW {u v : List Nat} (hu : ∀ k ∈ u, k < 1000) (hv : ∀ k ∈ v, k < 1000) (l1 : u.length ≤ 144) (l2 : v.length ≤ 20) : Okay (.list [tupN u, tupN v]) :=
  okay_of (okLst (okCons (okN hu l1) (okCons (okN hv l2) (okNil (k := 0))))) (by decide) (by decide)
section
variable {d0 : D} {G : DEnds} (hnx : ∀ ρ, Turn d0 ρ → G.nx ρ)
include hnx
theorem turn6 {n : Nat} {row : List Int} {u v : List Nat} {o2 o9 o10 o11 o12 : Option Cl} (hn : n ≤ 12) (hp : row.Perm (upTo n)) (hu : IsWay n row u) (hv : WordOk n v) (lu : u.length ≤ 144) (lv : v.length ≤ 20) (ho : noOwn [o12] [0] = true) (h9 : noOwn [o9] [0] = true) :
    T_lawb0_6 G [some (.dat d0), some .srcR, o2, some (.dat (.int n)), some (.dat (tupI row)), some (.dat (tupN u)), some (.dat (tupN v)), some (.dat (.str (PyData.list [tupN u, tupN v]).shown)), some (.dat (.list ((List.range u.length).map fun i => tupI (ledM (upTo n) (u.take i ++ u.drop (i + 1)))))), o9, o10, o11, o12] := by
  have hl : row.length = n := by rw [hp.length_eq, upTo_len]
  have nd := row_nodup hp
  have ou : WordOk n u := fun k hk => by have := ups_ok hu.1 k hk; rwa [upTo_len] at this
  have su : ∀ k ∈ u, k < 1000 := fun k hk => by have := ou k hk; omega
  have sv : ∀ k ∈ v, k < 1000 := fun k hk => by have := hv k hk; omega
  unfold T_lawb0_6
  rw [gSeq_s]
  refine forInv (dropsOf row) PyData.int [some (.dat d0), some .srcR, o2, some (.dat (.int n)), some (.dat (tupI row)), some (.dat (tupN u)), some (.dat (tupN v)), some (.dat (.str (PyData.list [tupN u, tupN v]).shown)), some (.dat (.list ((List.range u.length).map fun i => tupI (ledM (upTo n) (u.take i ++ u.drop (i + 1)))))), o9, o10, o11, o12]
    (fun i ρ => ∃ o9 o10 o11 : Option Cl, ρ = [some (.dat d0), some .srcR, o2, some (.dat (.int n)), some (.dat (tupI row)), some (.dat (tupN u)), some (.dat (tupN v)), some (.dat (.str (PyData.list [tupN u, tupN v]).shown)), some (.dat (.list ((List.range u.length).map fun i => tupI (ledM (upTo n) (u.take i ++ u.drop (i + 1)))))), o9, o10, o11, o12] ∧ noOwn [o9] [0] = true) (fun P h => ?_) ⟨_, _, _, rfl, h9⟩ (fun i x ρ2 hx hJ => ?_) (fun ρ2 hJ => ?_)
  · exact ⟨_, rfl, row, rfl, by omega, h⟩
  · obtain ⟨o9, o10, o11, rfl, h9⟩ := hJ
    obtain ⟨k, rfl, hk, hlt⟩ := drops_mem (List.mem_of_getElem? hx)
    have pm := way_pairs hu
    have pin := drop_pair hk hlt
    obtain ⟨j, hj⟩ := List.getElem?_of_mem (pm.mem_iff.mpr pin)
    have ndp : (wpairs (upTo n) u).Nodup := pm.nodup_iff.mpr (pairs_nodup nd)
    have one : ∀ m : Nat, (wpairs (upTo n) u)[m]? = some (row.getD (k + 1) 0, row.getD k 0) → m = j := fun m hm => by
      obtain ⟨h1, e1⟩ := List.getElem?_eq_some_iff.mp hm
      obtain ⟨h2, e2⟩ := List.getElem?_eq_some_iff.mp hj
      exact nodup_inj ndp h1 h2 (e1.trans e2.symm)
    have lj : j < u.length := by
      have := (List.getElem?_eq_some_iff.mp hj).1
      rwa [wpairs_len] at this
    have same : ∀ i, i < u.length → (ledM (upTo n) (u.take i ++ u.drop (i + 1)) = exch row k (k + 1) ↔ i = j) := fun i hi => by
      have hpi : (wpairs (upTo n) u)[i]? = some ((wpairs (upTo n) u)[i]'(by rw [wpairs_len]; exact hi)) := List.getElem?_eq_getElem _
      rw [led_without (row_nodup (.refl _)) (by rw [upTo_len]; exact ou) hpi, hu.2, exch_swapV nd hk, swapV_comm (row.getD k 0)]
      constructor
      · intro e
        have q := swapV_same (pairs_lt (pm.mem_iff.mp (List.mem_of_getElem? hpi))) (q := (row.getD (k + 1) 0, row.getD k 0)) hlt e
        exact one i (by rw [hpi, q])
      · intro e
        subst e
        rw [hj] at hpi
        rw [← Option.some.inj hpi]
    rw [gdName_s]
    show T_lawb0b6 _ [some (.dat d0), some .srcR, o2, some (.dat (.int n)), some (.dat (tupI row)), some (.dat (tupN u)), some (.dat (tupN v)), some (.dat (.str (PyData.list [tupN u, tupN v]).shown)), some (.dat (.list ((List.range u.length).map fun i => tupI (ledM (upTo n) (u.take i ++ u.drop (i + 1)))))), some (.dat (.int k)), o10, o11, o12]
    unfold T_lawb0b6
    rw [gSeq_s, gPar2_s, gcDat_s]
    refine ⟨_, rfl, _, rfl, _, rfl, n, u, k, j, rfl, by omega, by omega, ou, by omega, by rw [hu.2]; exact hj, fun m hm e => ?_, ?_⟩
    · rw [hu.2] at e
      have := one m e
      omega
    · dsimp only
      rw [gcDat_s]
      refine lcAt (List.range u.length) (fun i : Nat => PyData.int i) (fun i => if (fun i => decide (i = j)) i = true then some (PyData.int i) else none) [some (.dat d0), some .srcR, o2, some (.dat (.int n)), some (.dat (tupI row)), some (.dat (tupN u)), some (.dat (tupN v)), some (.dat (.str (PyData.list [tupN u, tupN v]).shown)), some (.dat (.list ((List.range u.length).map fun i => tupI (ledM (upTo n) (u.take i ++ u.drop (i + 1)))))), some (.dat (.int k)), o10, o11, o12] (fun P h => ?_) ho (by simp; omega) (fun i hi P hP => ?_) ?_
      · have ll : (u.map fun k : Nat => PyData.int k).length = u.length := List.length_map ..
        refine ⟨_, rfl, _, rfl, by rw [ll]; omega, by rw [ll]; omega, ?_⟩
        rw [ll, rng_to (.inl rfl)]
        exact h
      · have hi' := List.mem_range.mp hi
        rw [gdName_s, gTest_s, gBin_s]
        have at1 : atI ((List.range u.length).map fun i => tupI (ledM (upTo n) (u.take i ++ u.drop (i + 1)))) (i : Int) = some (tupI (ledM (upTo n) (u.take i ++ u.drop (i + 1)))) := by
          refine atI_nat ?_
          rw [List.getElem?_map, List.getElem?_range hi']
          rfl
        refine ⟨_, rfl, _, rfl, _, at1, _, rfl, _, rfl, row, k, rfl, by omega, hk, eqOk_of (shaped_tupI _) (shaped_tupI _), _, rfl, ?_⟩
        rw [eqv_tupI]
        dsimp only at hP
        by_cases c : i = j
        · rw [if_pos (by simpa using (same i hi').mpr c)]
          rw [if_pos (by simpa using c)] at hP
          exact ⟨_, rfl, hP⟩
        · rw [if_neg (by simpa using fun e => c ((same i hi').mp e))]
          rw [if_neg (by simpa using c)] at hP
          exact hP
      · rw [filter_some, range_one lj]
        show T_lawb0b6_1 _ [some (.dat d0), some .srcR, o2, some (.dat (.int n)), some (.dat (tupI row)), some (.dat (tupN u)), some (.dat (tupN v)), some (.dat (.str (PyData.list [tupN u, tupN v]).shown)), some (.dat (.list ((List.range u.length).map fun i => tupI (ledM (upTo n) (u.take i ++ u.drop (i + 1)))))), some (.dat (.int k)), some (.dat (.int j)), some (.dat (.list [.int j])), o12]
        unfold T_lawb0b6_1
        rw [gIfS_s, gOr_s]
        refine neInt 1 (fun R h => ⟨_, rfl, h⟩) (fun R h => h) ?_
        rw [if_neg Bool.false_ne_true]
        refine neRepr (.int j) (okay_of (okInt (by omega)) (by decide) (by decide)) (fun R h => ⟨_, rfl, h⟩) (fun R h => ⟨_, rfl, .int j, rfl, h⟩) ?_
        exact ⟨_, _, _, rfl, rfl⟩
  · obtain ⟨o9, o10, o11, rfl, h9⟩ := hJ
    dsimp only
    unfold T_lawb0_7
    rw [gIfS_s, gTest_s, gBin_s]
    refine ⟨_, rfl, _, rfl, by simp, okWW su sv lu lv, _, rfl, rfl, _, rfl, ?_⟩
    rw [show PyData.eqv (.str (PyData.list [tupN u, tupN v]).shown) (.str (PyData.list [tupN u, tupN v]).shown) = true by simp [PyData.eqv]]
    exact hnx _ ⟨_, _, _, _, _, _, _, _, _, _, _, rfl, ho, h9⟩
theorem turn4 {n : Nat} {row : List Int} {u v : List Nat} {o2 o8 o9 o10 o11 o12 : Option Cl} (hn : n ≤ 12) (hp : row.Perm (upTo n)) (hu : IsWay n row u) (hv : WordOk n v) (lu : u.length ≤ 144) (lv : v.length ≤ 20) (ho : noOwn [o12] [0] = true) (h9 : noOwn [o9] [0] = true) :
    T_lawb0_4 G [some (.dat d0), some .srcR, o2, some (.dat (.int n)), some (.dat (tupI row)), some (.dat (tupN u)), some (.dat (tupN v)), some (.dat (.str (PyData.list [tupN u, tupN v]).shown)), o8, o9, o10, o11, o12] := by
  have ou : WordOk n u := fun k hk => by have := ups_ok hu.1 k hk; rwa [upTo_len] at this
  have lv' : (v.map fun k : Nat => PyData.int k).length = v.length := List.length_map ..
  have lu' : (u.map fun k : Nat => PyData.int k).length = u.length := List.length_map ..
  have al : ∀ ws : List Nat, PySem.W.alikeAll (ws.map fun k : Nat => PyData.int k) (ws.map fun k : Nat => PyData.int k) = true := fun ws => by
    have := alike_ints (ws.map fun k : Nat => (k : Int))
    rwa [List.map_map] at this
  have sd : ∀ ws : List Nat, ∀ m : Nat, SeqAt.shaped (.list ((List.range m).map fun i => tupN (ws.take i ++ ws.drop (i + 1)))) = true := fun ws m => (shaped_list (k := 1) (fun d hd => by
    obtain ⟨i, _, rfl⟩ := List.mem_map.mp hd
    have q := lay_depth (ds := ((ws.take i ++ ws.drop (i + 1)).map fun k : Nat => PyData.int k)) (k := 0) fun e he => by
      obtain ⟨x, _, rfl⟩ := List.mem_map.mp he
      exact ⟨rfl, by simp [PyData.depth]⟩
    exact ⟨by simpa [tupN, PyData.canLay0] using q.1, by have := q.2; simp [tupN, PyData.depth] at this ⊢; omega⟩) (by decide)).1
  have eqs : ∀ ws : List Nat, ∀ m : Nat, PyData.eqv (.list ((List.range m).map fun i => tupN (ws.take i ++ ws.drop (i + 1)))) (.list ((List.range m).map fun i => tupN (ws.take i ++ ws.drop (i + 1)))) = true := fun ws m => by
    refine PySem.W.eqv_refl_alike _ ?_
    show PySem.W.alikeAll _ _ = true
    induction List.range m with
    | nil => rfl
    | cons x l ih =>
      rw [List.map_cons, PySem.W.alikeAll, ih]
      show (PySem.W.alikeAll _ _ && true) = true
      rw [al]; rfl
  have cut : ∀ (ws : List Nat) (i : Nat), ws.length ≤ 1000 → (ws.take i ++ ws.drop (i + 1)).length ≤ 1000 := fun ws i h => by rw [List.length_append, List.length_take, List.length_drop]; omega
  unfold T_lawb0_4
  rw [gSeq_s, gIfS_s, gTest_s, gBin_s]
  refine lcAll (List.range v.length) (fun i : Nat => PyData.int i) (fun i => tupN (v.take i ++ v.drop (i + 1))) [some (.dat d0), some .srcR, o2, some (.dat (.int n)), some (.dat (tupI row)), some (.dat (tupN u)), some (.dat (tupN v)), some (.dat (.str (PyData.list [tupN u, tupN v]).shown)), o8, o9, o10, o11, o12] (fun P h => ?_) ho (by simp; omega) (fun i hi P hP => ?_) ?_
  · refine ⟨_, rfl, _, rfl, by rw [lv']; omega, by rw [lv']; omega, ?_⟩
    rw [lv', rng_to (.inl rfl)]
    exact h
  · have hi' := List.mem_range.mp hi
    rw [gdName_s]
    refine ⟨_, rfl, _, rfl, _, i, rfl, by rw [lv']; omega, by omega, ?_⟩
    rw [← List.map_take, ← List.map_drop, ← List.map_append]
    exact hP
  · refine lcAll (List.range v.length) (fun i : Nat => PyData.int i) (fun i => tupN (v.take i ++ v.drop (i + 1))) [some (.dat d0), some .srcR, o2, some (.dat (.int n)), some (.dat (tupI row)), some (.dat (tupN u)), some (.dat (tupN v)), some (.dat (.str (PyData.list [tupN u, tupN v]).shown)), o8, o9, o10, o11, o12] (fun P h => ?_) ho (by simp; omega) (fun i hi P hP => ?_) ?_
    · refine ⟨_, rfl, _, rfl, by rw [lv']; omega, by rw [lv']; omega, ?_⟩
      rw [lv', rng_to (.inl rfl)]
      exact h
    · have hi' := List.mem_range.mp hi
      rw [gdName_s, gBin_s]
      refine ⟨_, rfl, _, rfl, _, rfl, _, rfl, _, rfl, _, rfl, ?_⟩
      simp only [gNo_s, tupN]
      rw [cut_to, cut_from, ← List.map_take, ← List.map_drop]
      refine ⟨by rw [List.length_map, List.length_map, List.length_take, List.length_drop]; omega, ?_⟩
      rw [← List.map_append]
      exact hP
    · refine ⟨eqOk_of (sd v _) (sd v _), _, rfl, ?_⟩
      rw [eqs]
      show T_lawb0_5 _ [some (.dat d0), some .srcR, o2, some (.dat (.int n)), some (.dat (tupI row)), some (.dat (tupN u)), some (.dat (tupN v)), some (.dat (.str (PyData.list [tupN u, tupN v]).shown)), o8, o9, o10, o11, o12]
      unfold T_lawb0_5
      rw [gSeq_s, gSet_s]
      refine lcAll (List.range u.length) (fun i : Nat => PyData.int i) (fun i => tupI (ledM (upTo n) (u.take i ++ u.drop (i + 1)))) [some (.dat d0), some .srcR, o2, some (.dat (.int n)), some (.dat (tupI row)), some (.dat (tupN u)), some (.dat (tupN v)), some (.dat (.str (PyData.list [tupN u, tupN v]).shown)), o8, o9, o10, o11, o12] (fun P h => ?_) ho (by simp; omega) (fun i hi P hP => ?_) ?_
      · refine ⟨_, rfl, _, rfl, by rw [lu']; omega, by rw [lu']; omega, ?_⟩
        rw [lu', rng_to (.inl rfl)]
        exact h
      · rw [gdName_s]
        refine ⟨_, rfl, n, rfl, by unfold rngB; omega, _, rfl, _, rfl, _, rfl, _, rfl, _, rfl, _, rfl, ?_⟩
        simp only [gNo_s, tupN]
        rw [cut_to, cut_from, ← List.map_take, ← List.map_drop]
        refine ⟨by rw [List.length_map, List.length_map, List.length_take, List.length_drop]; omega, upTo n, u.take i ++ u.drop (i + 1), ?_, by rw [upTo_len]; omega, fun k hk => ?_, hP⟩
        · rw [show ((n : Int) - 0).toNat = n by omega, rngD_upTo, ← List.map_append]
          rfl
        · rw [upTo_len]
          rcases List.mem_append.mp hk with hk | hk
          · exact ou k (List.mem_of_mem_take hk)
          · exact ou k (List.mem_of_mem_drop hk)
      · exact turn6 hnx hn hp hu hv lu lv ho h9
theorem turn0 {i : Nat} {ρ : Rho} (hi : i < 3) (h : Turn d0 (ρ.set 2 none)) : T_lawb0 G ((ρ.set 2 none).set 2 (some (.dat (.int i)))) := by
  obtain ⟨o2, o3, o4, o5, o6, o7, o8, o9, o10, o11, o12, e, ho, h9⟩ := h
  rw [e]
  have at3 : ∃ m : Int, atI [PyData.int 3, .int 6, .int 11] (i : Int) = some (.int m) ∧ 1 ≤ m ∧ m ≤ 11 := by
    match i, hi with
    | 0, _ => exact ⟨3, rfl, by decide, by decide⟩
    | 1, _ => exact ⟨6, rfl, by decide, by decide⟩
    | 2, _ => exact ⟨11, rfl, by decide, by decide⟩
  obtain ⟨m, hm, m1, m2⟩ := at3
  unfold T_lawb0
  rw [gSeq_s, gSet_s, gBin_s, gC_s]
  refine ⟨rfl, by simp, _, rfl, _, hm, rfl, m, rfl, by omega, fun r r0 r1 => ?_⟩
  obtain ⟨q, rfl⟩ := Int.eq_ofNat_of_zero_le r0
  have hn : 2 + q ≤ 12 := by omega
  show T_lawb0_1 _ [some (.dat d0), some .srcR, some (.dat (.int i)), some (.dat (.int (2 + q))), o4, o5, o6, o7, o8, o9, o10, o11, o12]
  rw [show ((2 : Int) + q) = ((2 + q : Nat) : Int) by omega]
  have h2 : 2 ≤ 2 + q := by omega
  generalize 2 + q = n at hn h2
  unfold T_lawb0_1
  rw [gSeq_s, gSet_s]
  refine ⟨rfl, _, rfl, rfl, n, rfl, by omega, fun row hp => ?_⟩
  show T_lawb0_2 _ [some (.dat d0), some .srcR, some (.dat (.int i)), some (.dat (.int n)), some (.dat (tupI row)), o5, o6, o7, o8, o9, o10, o11, o12]
  have lr : row.length = n := by rw [hp.length_eq, upTo_len]
  unfold T_lawb0_2
  rw [gSeq_s, gAsg_s]
  refine ⟨rfl, _, rfl, rfl, row, n, rfl, by omega, hp, fun u hu => ⟨rfl, _, rfl, rfl, n, 20, rfl, by omega, by omega, by decide, by decide, fun v hv lv => ⟨by simp, rfl, rfl, ?_⟩⟩⟩
  have lu : u.length ≤ 144 := by
    have h1 := (way_pairs hu).length_eq
    rw [wpairs_len] at h1
    have h2 := pairs_bound row
    rw [lr] at h2
    have h3 : n * n ≤ 12 * 12 := Nat.mul_le_mul hn hn
    omega
  have ou : WordOk n u := fun k hk => by have := ups_ok hu.1 k hk; rwa [upTo_len] at this
  show T_lawb0_3 _ [some (.dat d0), some .srcR, some (.dat (.int i)), some (.dat (.int n)), some (.dat (tupI row)), some (.dat (tupN u)), some (.dat (tupN v)), o7, o8, o9, o10, o11, o12]
  unfold T_lawb0_3
  rw [gSeq_s, gSet_s]
  refine ⟨_, rfl, _, rfl, by simp, okWW (fun k hk => by have := ou k hk; omega) (fun k hk => by have := hv k hk; omega) lu lv, ?_⟩
  exact turn4 hnx hn hp hu hv lu lv ho h9
end
theorem w_law (d0 : D) : T_law { nx := fun _ => False, rt := fun d _ => d = .bool true } ((startR N_law [.dat d0]).set 1 (some .srcR)) := by
  unfold T_law
  rw [gSeq_s]
  refine forInv (List.range 3) (fun k : Nat => PyData.int k) ((startR N_law [.dat d0]).set 1 (some .srcR)) (fun i ρ => Turn d0 (ρ.set 2 none)) (fun P h => ?_) ?_ (fun i k ρ2 hk hJ => ?_) (fun ρ2 hJ => ?_)
  · refine ⟨_, rfl, by decide, by decide, ?_⟩
    rw [show (3 : Int).toNat = 3 from rfl, rngD_map]
    exact h
  · exact ⟨_, _, _, _, _, _, _, _, _, _, _, rfl, rfl, rfl⟩
  · have hk3 : k < 3 := List.mem_range.mp (List.mem_of_getElem? hk)
    rw [gdName_s, show ρ2.set 2 (some (Cl.dat (PyData.int k))) = (ρ2.set 2 none).set 2 (some (Cl.dat (PyData.int k))) by rw [List.set_set]]
    refine turn0 (d0 := d0) (fun ρ h => ?_) hk3 hJ
    obtain ⟨o2, o3, o4, o5, o6, o7, o8, o9, o10, o11, o12, e, ho, h9⟩ := h
    show Turn d0 (ρ.set 2 none)
    rw [e]
    exact ⟨_, _, _, _, _, _, _, _, _, _, _, rfl, ho, h9⟩
  · obtain ⟨o2, o3, o4, o5, o6, o7, o8, o9, o10, o11, o12, e, ho, h9⟩ := hJ
    have e2 : ∃ o, ρ2 = [some (.dat d0), some .srcR, o, o3, o4, o5, o6, o7, o8, o9, o10, o11, o12] := by
      match ρ2, e with
      | [a, b, c, d, f, g, h, i, j, k, l, m, n], e =>
        simp at e
        obtain ⟨rfl, rfl, rfl, rfl, rfl, rfl, rfl, rfl, rfl, rfl, rfl, rfl, rfl⟩ := e
        exact ⟨_, rfl⟩
    obtain ⟨o, rfl⟩ := e2
    dsimp only
    unfold T_law_1
    rw [gRet_s, gBin_s]
    refine lcAll [0, 1] (fun k : Nat => PyData.int k) (fun k => if k = 0 then PyData.int 2 else .int 0) [some (.dat d0), some .srcR, o, o3, o4, o5, o6, o7, o8, o9, o10, o11, o12] (fun P h => ⟨by simp, h⟩) h9 (by simp) (fun k hk P hP => ?_) ?_
    · rw [gdName_s]
      rcases List.mem_cons.mp hk with rfl | hk
      · exact ⟨by simp, _, rfl, 3, [0, 1, 0], 0, 2, rfl, by decide, by decide, by unfold WordOk; decide, by decide, by decide, by decide, hP⟩
      · obtain rfl := List.mem_singleton.mp hk
        exact ⟨by simp, _, rfl, 3, [0, 1, 0], 1, 0, rfl, by decide, by decide, by unfold WordOk; decide, by decide, by decide, by decide, hP⟩
    · rw [gLst_s]
      exact ⟨by simp, by decide, by simp [PyData.eqv, PyData.eqvAll]⟩

def topS (i : Nat) : Stmt := PySem.Challenge.pw_goodwebs_k83_whole_places_left_out.main.body.getD i (.Pass ⟨0, 0, 0, 0⟩)
abbrev s_plain : Stmt := topS 1
theorem sc_plain : FnScope N_plain ["n"] (defScope s_plain) := ⟨rfl, rfl, rfl, by decide +kernel, rfl, by decide +kernel, by decide +kernel⟩
abbrev s_exchanged : Stmt := topS 2
theorem sc_exchanged : FnScope N_exchanged ["row", "i", "j"] (defScope s_exchanged) := ⟨rfl, rfl, rfl, by decide +kernel, rfl, by decide +kernel, by decide +kernel⟩
abbrev s_swapped : Stmt := topS 3
theorem sc_swapped : FnScope N_swapped ["row", "k"] (defScope s_swapped) := ⟨rfl, rfl, rfl, by decide +kernel, rfl, by decide +kernel, by decide +kernel⟩
abbrev s_led : Stmt := topS 4
theorem sc_led : FnScope N_led ["row", "word"] (defScope s_led) := ⟨rfl, rfl, rfl, by decide +kernel, rfl, by decide +kernel, by decide +kernel⟩
abbrev s_row_of : Stmt := topS 5
theorem sc_row_of : FnScope N_row_of ["n", "word"] (defScope s_row_of) := ⟨rfl, rfl, rfl, by decide +kernel, rfl, by decide +kernel, by decide +kernel⟩
abbrev s_word_pairs : Stmt := topS 7
theorem sc_word_pairs : FnScope N_word_pairs ["n", "word"] (defScope s_word_pairs) := ⟨rfl, rfl, rfl, by decide +kernel, rfl, by decide +kernel, by decide +kernel⟩
abbrev s_without : Stmt := topS 8
theorem sc_without : FnScope N_without ["word", "i"] (defScope s_without) := ⟨rfl, rfl, rfl, by decide +kernel, rfl, by decide +kernel, by decide +kernel⟩
abbrev s_exchange_place : Stmt := topS 9
theorem sc_exchange_place : FnScope N_exchange_place ["n", "way", "k"] (defScope s_exchange_place) := ⟨rfl, rfl, rfl, by decide +kernel, rfl, by decide +kernel, by decide +kernel⟩
abbrev s__law_source : Stmt := topS 11
theorem sc__law_source : FnScope N__law_source ["script"] (defScope s__law_source) := ⟨rfl, rfl, rfl, by decide +kernel, rfl, by decide +kernel, by decide +kernel⟩
abbrev s__law_pick : Stmt := topS 12
theorem sc__law_pick : FnScope N__law_pick ["source", "many"] (defScope s__law_pick) := ⟨rfl, rfl, rfl, by decide +kernel, rfl, by decide +kernel, by decide +kernel⟩
abbrev s__law_of : Stmt := topS 13
theorem sc__law_of : FnScope N__law_of ["source", "some"] (defScope s__law_of) := ⟨rfl, rfl, rfl, by decide +kernel, rfl, by decide +kernel, by decide +kernel⟩
abbrev s__law_mixed : Stmt := topS 14
theorem sc__law_mixed : FnScope N__law_mixed ["source", "things"] (defScope s__law_mixed) := ⟨rfl, rfl, rfl, by decide +kernel, rfl, by decide +kernel, by decide +kernel⟩
abbrev s__law_row : Stmt := topS 15
theorem sc__law_row : FnScope N__law_row ["source", "n"] (defScope s__law_row) := ⟨rfl, rfl, rfl, by decide +kernel, rfl, by decide +kernel, by decide +kernel⟩
abbrev s__law_swapped : Stmt := topS 16
theorem sc__law_swapped : FnScope N__law_swapped ["row", "k"] (defScope s__law_swapped) := ⟨rfl, rfl, rfl, by decide +kernel, rfl, by decide +kernel, by decide +kernel⟩
abbrev s__law_led : Stmt := topS 17
theorem sc__law_led : FnScope N__law_led ["row", "word"] (defScope s__law_led) := ⟨rfl, rfl, rfl, by decide +kernel, rfl, by decide +kernel, by decide +kernel⟩
abbrev s__law_drops : Stmt := topS 18
theorem sc__law_drops : FnScope N__law_drops ["row"] (defScope s__law_drops) := ⟨rfl, rfl, rfl, by decide +kernel, rfl, by decide +kernel, by decide +kernel⟩
abbrev s__law_way : Stmt := topS 19
theorem sc__law_way : FnScope N__law_way ["source", "row"] (defScope s__law_way) := ⟨rfl, rfl, rfl, by decide +kernel, rfl, by decide +kernel, by decide +kernel⟩
abbrev s__law_drawn_word : Stmt := topS 20
theorem sc__law_drawn_word : FnScope N__law_drawn_word ["source", "n", "most"] (defScope s__law_drawn_word) := ⟨rfl, rfl, rfl, by decide +kernel, rfl, by decide +kernel, by decide +kernel⟩
abbrev s_law : Stmt := topS 21
theorem sc_law : FnScope N_law ["script"] (defScope s_law) := ⟨rfl, rfl, rfl, by decide +kernel, rfl, by decide +kernel, by decide +kernel⟩
section
variable {P : Program} {wo : World} {K : PySem.W.Frag} {mg : Str → Option Value} {base : Heap}
variable (m_abs : mg "abs" = none) (m_int : mg "int" = none) (m_len : mg "len" = none) (m_list : mg "list" = none) (m_max : mg "max" = none) (m_min : mg "min" = none) (m_range : mg "range" = none) (m_repr : mg "repr" = none) (m_tuple : mg "tuple" = none)
include m_abs m_int m_len m_list m_max m_min m_range m_repr m_tuple
theorem ok_plain (d : DefAt K mg "plain" s_plain ["n"]) (k : Nat) : CalG P wo K mg base (k + 1) "plain" ["n"] (spP K sp_plain) :=
  have nd := sc_plain.nd
  calP (T := T_plain) (sp := sp_plain) d sc_plain rfl (fun f cdv A outer s H E hr => (done1 (dret (dtupRg rfl (by rfl) m_tuple (drg1 (by rfl) m_range (dvar 0)))))) w_plain
theorem ok_exchanged (d : DefAt K mg "exchanged" s_exchanged ["row", "i", "j"]) (k : Nat) : CalG P wo K mg base (k + 1) "exchanged" ["row", "i", "j"] (spP K sp_exchanged) :=
  have nd := sc_exchanged.nd
  calP (T := T_exchanged) (sp := sp_exchanged) d sc_exchanged rfl (fun f cdv A outer s H E hr => (dcons (dsetO 3 nd (dcallTyF clst (by rfl) m_list rfl (DE.q (dvar 0))))
      (dcons (dasg (dtup (dacons (dixO 3 ixSeq (DE.q (dvar 2))) (dacons (dixO 3 ixSeq (DE.q (dvar 1))) danil))) (dgtup rfl (dgcons (dgsub 3 (dvar 1)) (dgcons (dgsub 3 (dvar 2)) dgnil))))
      (done1 (dret (dcallTy ctup (by rfl) m_tuple rfl (down 3))))))) w_exchanged
theorem ok_swapped (d : DefAt K mg "swapped" s_swapped ["row", "k"]) (c_exchanged : ∀ k, CalG P wo K mg base (k + 1) "exchanged" ["row", "i", "j"] (spP K sp_exchanged)) (k : Nat) : CalG P wo K mg base (k + 2) "swapped" ["row", "k"] (spP K sp_swapped) :=
  have nd := sc_swapped.nd
  calP (T := T_swapped) (sp := sp_swapped) d sc_swapped rfl (fun f cdv A outer s H E hr => (done1 (dret (dcallC (c_exchanged k) hr (dacons (dvar 0) (dacons (dvar 1) (dacons (dbin oadd (dvar 1) (DE.q dint)) danil))))))) w_swapped
theorem ok_led (d : DefAt K mg "led" s_led ["row", "word"]) (c_swapped : ∀ k, CalG P wo K mg base (k + 2) "swapped" ["row", "k"] (spP K sp_swapped)) (k : Nat) : CalG P wo K mg base (k + 3) "led" ["row", "word"] (spP K sp_led) :=
  have nd := sc_led.nd
  calP (T := T_led) (sp := sp_led) d sc_led rfl (fun f cdv A outer s H E hr => (dcons (dfor PassesOwn.never rfl (diseq (dvar 1)) (dgname 2 nd) (done1 (dset 0 nd (dcallC (c_swapped k) hr (dacons (dvar 0) (dacons (dvar 2) danil))))))
      (done1 (dret (dvar 0))))) w_led
theorem ok_row_of (d : DefAt K mg "row_of" s_row_of ["n", "word"]) (c_led : ∀ k, CalG P wo K mg base (k + 3) "led" ["row", "word"] (spP K sp_led)) (c_plain : ∀ k, CalG P wo K mg base (k + 1) "plain" ["n"] (spP K sp_plain)) (k : Nat) : CalG P wo K mg base (k + 4) "row_of" ["n", "word"] (spP K sp_row_of) :=
  have nd := sc_row_of.nd
  calP (T := T_row_of) (sp := sp_row_of) d sc_row_of rfl (fun f cdv A outer s H E hr => (done1 (dret (dcallC (c_led k) hr (dacons (dcallC (c_plain (k + 2)) hr (dacons (dvar 0) danil)) (dacons (dvar 1) danil)))))) w_row_of
theorem ok_word_pairs (d : DefAt K mg "word_pairs" s_word_pairs ["n", "word"]) (c_plain : ∀ k, CalG P wo K mg base (k + 1) "plain" ["n"] (spP K sp_plain)) (k : Nat) : CalG P wo K mg base (k + 2) "word_pairs" ["n", "word"] (spP K sp_word_pairs) :=
  have nd := sc_word_pairs.nd
  calP (T := T_word_pairs) (sp := sp_word_pairs) d sc_word_pairs rfl (fun f cdv A outer s H E hr => (dcons (dpar2 2 3 rfl nd (dcown (dcallTyF clst (by rfl) m_list rfl (DE.q (dcallC (c_plain k) hr (dacons (dvar 0) danil)))) (dcown (dlst danil) dcnil)) rfl)
      (dcons (dfor PassesOwn.never rfl (diseq (dvar 1)) (dgname 4 nd) (dcons (dapp 3 (dtup (dacons (dcallBA (cmin2 rfl) (by rfl) m_min rfl (dacons (dixO 2 ixSeq (DE.q (dvar 4))) (dacons (dixO 2 ixSeq (DE.q (dbin oadd (dvar 4) (DE.q dint)))) danil))) (dacons (dcallBA (cmax2 rfl) (by rfl) m_max rfl (dacons (dixO 2 ixSeq (DE.q (dvar 4))) (dacons (dixO 2 ixSeq (DE.q (dbin oadd (dvar 4) (DE.q dint)))) danil))) danil))))
      (done1 (dasg (dtup (dacons (dixO 2 ixSeq (DE.q (dbin oadd (dvar 4) (DE.q dint)))) (dacons (dixO 2 ixSeq (DE.q (dvar 4))) danil))) (dgtup rfl (dgcons (dgsub 2 (dvar 4)) (dgcons (dgsub 2 (dbin oadd (dvar 4) (DE.q dint))) dgnil)))))))
      (done1 (dret (dcallTy ctup (by rfl) m_tuple rfl (down 3))))))) w_word_pairs
theorem ok_without (d : DefAt K mg "without" s_without ["word", "i"]) (k : Nat) : CalG P wo K mg base (k + 1) "without" ["word", "i"] (spP K sp_without) :=
  have nd := sc_without.nd
  calP (T := T_without) (sp := sp_without) d sc_without rfl (fun f cdv A outer s H E hr => (done1 (dret (dbin oadd (dsl (dvar 0) dno (dsome (dvar 1))) (DE.q (dsl (dvar 0) (dsome (dbin oadd (dvar 1) (DE.q dint))) dno)))))) w_without
theorem ok_exchange_place (d : DefAt K mg "exchange_place" s_exchange_place ["n", "way", "k"]) (c_row_of : ∀ k, CalG P wo K mg base (k + 4) "row_of" ["n", "word"] (spP K sp_row_of)) (c_word_pairs : ∀ k, CalG P wo K mg base (k + 2) "word_pairs" ["n", "word"] (spP K sp_word_pairs)) (k : Nat) : CalG P wo K mg base (k + 5) "exchange_place" ["n", "way", "k"] (spP K sp_exchange_place) :=
  have nd := sc_exchange_place.nd
  calP (T := T_exchange_place) (sp := sp_exchange_place) d sc_exchange_place rfl (fun f cdv A outer s H E hr => (dcons (dset 3 nd (dcallC (c_row_of k) hr (dacons (dvar 0) (dacons (dvar 1) danil))))
      (done1 (dret (dindexT (huOf1 hr) (dcallC (c_word_pairs (k + 2)) hr (dacons (dvar 0) (dacons (dvar 1) danil))) (dtup (dacons (dix ixSeq (dvar 3) (DE.q (dbin oadd (dvar 2) (DE.q dint)))) (dacons (dix ixSeq (dvar 3) (DE.q (dvar 2))) danil)))))))) w_exchange_place
theorem ok__law_source (d : DefAt K mg "_law_source" s__law_source ["script"]) (k : Nat) : CalG P wo K mg base (k + 1) "_law_source" ["script"] (spN K) :=
  have nd := sc__law_source.nd
  calN (T1 := T1__law_source) (T2 := T2__law_source) (g0 := g0__law_source) (j := 1) d sc__law_source (fun f cdv A outer s H E hr => ⟨_, _, _, _, _, _, _, _, _, _, _, _, _, _, _, _, _, _, rfl, (dset 1 nd dint), (dfor PassesOwn.never rfl (diseq (dvar 0)) (dgname 2 nd) (done1 (dset 1 nd (dbin omod (dcallTy cint (by rfl) m_int rfl (DE.q (dbin oadd (dbin oadd (dbin omul (dvar 1) (DE.q dint)) (DE.q (dbin omul (dvar 2) (DE.q dint)))) (DE.q dint)))) (DE.q dint))))), (drevF (DF.q (dlc (own := [("cell", 2)]) rfl nd (diseq (dvar 0)) (by dsimp only [cxOf, Cx.blk, Cx.nox, Cx.wish, compEnvC, envOfC, relabel_eq]; exact blkOk_by (by decide +kernel)) (fun _ _ _ _ _ => (dgname 2 nd)) (fun _ _ _ _ _ => dtsnil) (fun _ _ _ _ _ => (dcallB cabs (by rfl) m_abs rfl (DE.q (dvar 2))))))), pe_var rfl (by first | exact Or.inl rfl | exact Or.inr (Or.inl rfl)) (by decide) (by decide)⟩) w__law_source
theorem ok__law_pick (d : DefAt K mg "_law_pick" s__law_pick ["source", "many"]) (k : Nat) : CalG P wo K mg base (k + 1) "_law_pick" ["source", "many"] (spS K sp__law_pick) :=
  have nd := sc__law_pick.nd
  calS (T := T__law_pick) (sp := sp__law_pick) d sc__law_pick rfl (fun f cdv A outer s H E hr => (dcons (dsrcRun (huOf hr) PassesOwn.never (by rfl) m_len rfl rfl (by first | exact Or.inl rfl | exact Or.inr (Or.inl rfl)) (by first | exact Or.inl rfl | exact Or.inr (Or.inl rfl)) rfl rfl rfl rfl rfl rfl)
      (dcons (dset 2 nd (dsrc 0 (huOf hr) srcL))
      (dcons (dif (dwpt (dor (dtcmp olt (dvar 1) (DE.q dint) rfl) (dor1 (dtcmp ogt (dvar 2) (DE.q dint) rfl)))) (dcons (dsrcPut 0 (huOf hr) fldL (dbin ofdiv (dvar 2) (DE.q (dcallBA (cmax2 rfl) (by rfl) m_max rfl (dacons dint (dacons (dvar 1) danil))))))
      (done1 (dret (dbin omod (dcallTy cint (by rfl) m_int rfl (DE.q (dvar 2))) (DE.q (dcallBA (cmax2 rfl) (by rfl) m_max rfl (dacons dint (dacons (dvar 1) danil)))))))) dnil)
      (dcons (dsrcPut 0 (huOf hr) fldT (dbin oadd (dsrc 0 (huOf hr) srcT) (DE.q dint)))
      (dcons (dset 3 nd (dbin omod (dcallTy cint (by rfl) m_int rfl (DE.q (dbin oadd (dsrc 0 (huOf hr) srcM) (DE.q (dbin omul (dsrc 0 (huOf hr) srcT) (DE.q dint)))))) (DE.q dint)))
      (dcons (dset 3 nd (dbin omod (dcallTy cint (by rfl) m_int rfl (DE.q (dbin oadd (dbin omul (dvar 3) (DE.q (dvar 3))) (DE.q (dbin omul (dsrc 0 (huOf hr) srcT) (DE.q dint)))))) (DE.q dint)))
      (dcons (dsrcPut 0 (huOf hr) fldM (dvar 3))
      (done1 (dret (dbin omod (dcallTy cint (by rfl) m_int rfl (DE.q (dbin ofdiv (dvar 3) (DE.q dint)))) (DE.q (dvar 1))))))))))))) w__law_pick
theorem ok__law_of (d : DefAt K mg "_law_of" s__law_of ["source", "some"]) (c__law_pick : ∀ k, CalG P wo K mg base (k + 1) "_law_pick" ["source", "many"] (spS K sp__law_pick)) (k : Nat) : CalG P wo K mg base (k + 2) "_law_of" ["source", "some"] (spS K sp__law_of) :=
  have nd := sc__law_of.nd
  calS (T := T__law_of) (sp := sp__law_of) d sc__law_of rfl (fun f cdv A outer s H E hr => (done1 (dret (dix ixSeq (dvar 1) (DE.q (dcallSC 0 (c__law_pick k) hr (dacons (dcallB clen (by rfl) m_len rfl (DE.q (dvar 1))) danil))))))) w__law_of
theorem ok__law_mixed (d : DefAt K mg "_law_mixed" s__law_mixed ["source", "things"]) (c__law_pick : ∀ k, CalG P wo K mg base (k + 1) "_law_pick" ["source", "many"] (spS K sp__law_pick)) (k : Nat) : CalG P wo K mg base (k + 2) "_law_mixed" ["source", "things"] (spS K sp__law_mixed) :=
  have nd := sc__law_mixed.nd
  calS (T := T__law_mixed) (sp := sp__law_mixed) d sc__law_mixed rfl (fun f cdv A outer s H E hr => (dcons (dsetO 2 nd (dcallTyF clst (by rfl) m_list rfl (DE.q (dvar 1))))
      (done1 (dret (DF.de (dlc (own := [("lap", 3)]) rfl nd (dir1 (by rfl) m_range (dcallB clen (by rfl) m_len rfl (down 2))) (by dsimp only [cxOf, Cx.blk, Cx.nox, Cx.wish, compEnvC, envOfC, relabel_eq]; exact blkOk_by (by decide +kernel)) (fun _ _ _ _ _ => (dgname 3 nd)) (fun _ _ _ _ _ => dtsnil) (fun _ _ _ _ _ => (dpopAt 2 (dcallSC 0 (c__law_pick k) hr (dacons (dcallB clen (by rfl) m_len rfl (down 2)) danil)))))))))) w__law_mixed
theorem ok__law_row (d : DefAt K mg "_law_row" s__law_row ["source", "n"]) (c__law_pick : ∀ k, CalG P wo K mg base (k + 1) "_law_pick" ["source", "many"] (spS K sp__law_pick)) (c__law_mixed : ∀ k, CalG P wo K mg base (k + 2) "_law_mixed" ["source", "things"] (spS K sp__law_mixed)) (k : Nat) : CalG P wo K mg base (k + 3) "_law_row" ["source", "n"] (spS K sp__law_row) :=
  have nd := sc__law_row.nd
  calS (T := T__law_row) (sp := sp__law_row) d sc__law_row rfl (fun f cdv A outer s H E hr => (dcons (dpar2 2 3 rfl nd (dcdat (dcallSC 0 (c__law_pick (k + 1)) hr (dacons dint danil)) (dcown (dlstRg rfl (by rfl) m_list (drg1 (by rfl) m_range (dvar 1))) dcnil)) rfl)
      (dcons (dif (dtcmp olt (dvar 2) (DE.q dint) rfl) (done1 (dfz 3 (dret (dcallTy ctup (by rfl) m_tuple rfl (DE.q (dcallSC 0 (c__law_mixed k) hr (dacons (dvar 3) danil))))))) dnil)
      (dcons (dsetIfN 3 nd (dtcmp (oeq (huOf hr)) (dvar 2) (DE.q dint) rfl) (drevF (down 3)))
      (dcons (dfor PassesOwn.never rfl (dir1 (by rfl) m_range (dcallSC 0 (c__law_pick (k + 1)) hr (dacons (dbin oadd (dvar 1) (DE.q dint)) danil))) (dgname 4 nd) (dcons (dset 5 nd (dcallSC 0 (c__law_pick (k + 1)) hr (dacons (dcallBA (cmax2 rfl) (by rfl) m_max rfl (dacons dint (dacons (dbin osub (dvar 1) (DE.q dint)) danil))) danil)))
      (done1 (dcut 3 (dsome (dvar 5)) (dsome (dbin oadd (dvar 5) (DE.q dint))) (drevF (DF.q (dslO 3 (dsome (dvar 5)) (dsome (dbin oadd (dvar 5) (DE.q dint))))))))))
      (done1 (dret (dcallTy ctup (by rfl) m_tuple rfl (down 3))))))))) w__law_row
theorem ok__law_swapped (d : DefAt K mg "_law_swapped" s__law_swapped ["row", "k"]) (k : Nat) : CalG P wo K mg base (k + 1) "_law_swapped" ["row", "k"] (spP K sp__law_swapped) :=
  have nd := sc__law_swapped.nd
  calP (T := T__law_swapped) (sp := sp__law_swapped) d sc__law_swapped rfl (fun f cdv A outer s H E hr => (done1 (dret (dbin oadd (dbin oadd (dsl (dvar 0) dno (dsome (dvar 1))) (DE.q (dtup (dacons (dix ixSeq (dvar 0) (DE.q (dbin oadd (dvar 1) (DE.q dint)))) (dacons (dix ixSeq (dvar 0) (DE.q (dvar 1))) danil))))) (DE.q (dsl (dvar 0) (dsome (dbin oadd (dvar 1) (DE.q dint))) dno)))))) w__law_swapped
theorem ok__law_led (d : DefAt K mg "_law_led" s__law_led ["row", "word"]) (c__law_swapped : ∀ k, CalG P wo K mg base (k + 1) "_law_swapped" ["row", "k"] (spP K sp__law_swapped)) (k : Nat) : CalG P wo K mg base (k + 2) "_law_led" ["row", "word"] (spP K sp__law_led) :=
  have nd := sc__law_led.nd
  calP (T := T__law_led) (sp := sp__law_led) d sc__law_led rfl (fun f cdv A outer s H E hr => (dcons (dfor PassesOwn.never rfl (diseq (dvar 1)) (dgname 2 nd) (done1 (dset 0 nd (dcallC (c__law_swapped k) hr (dacons (dvar 0) (dacons (dvar 2) danil))))))
      (done1 (dret (dvar 0))))) w__law_led
theorem ok__law_drops (d : DefAt K mg "_law_drops" s__law_drops ["row"]) (k : Nat) : CalG P wo K mg base (k + 1) "_law_drops" ["row"] (spP K sp__law_drops) :=
  have nd := sc__law_drops.nd
  calP (T := T__law_drops) (sp := sp__law_drops) d sc__law_drops rfl (fun f cdv A outer s H E hr => (done1 (dret (DF.de (dlc (own := [("k", 1)]) rfl nd (dir1 (by rfl) m_range (dbin osub (dcallB clen (by rfl) m_len rfl (DE.q (dvar 0))) (DE.q dint))) (by dsimp only [cxOf, Cx.blk, Cx.nox, Cx.wish, compEnvC, envOfC, relabel_eq]; exact blkOk_by (by decide +kernel)) (fun _ _ _ _ _ => (dgname 1 nd)) (fun _ _ _ _ _ => (dtsone (dtcmp ogt (dix ixSeq (dvar 0) (DE.q (dvar 1))) (DE.q (dix ixSeq (dvar 0) (DE.q (dbin oadd (dvar 1) (DE.q dint))))) rfl))) (fun _ _ _ _ _ => (dvar 1))))))) w__law_drops
theorem ok__law_way (d : DefAt K mg "_law_way" s__law_way ["source", "row"]) (c__law_drops : ∀ k, CalG P wo K mg base (k + 1) "_law_drops" ["row"] (spP K sp__law_drops)) (c__law_of : ∀ k, CalG P wo K mg base (k + 2) "_law_of" ["source", "some"] (spS K sp__law_of)) (c__law_swapped : ∀ k, CalG P wo K mg base (k + 1) "_law_swapped" ["row", "k"] (spP K sp__law_swapped)) (k : Nat) : CalG P wo K mg base (k + 3) "_law_way" ["source", "row"] (spS K sp__law_way) :=
  have nd := sc__law_way.nd
  calS (T := T__law_way) (sp := sp__law_way) d sc__law_way rfl (fun f cdv A outer s H E hr => (dcons (dsetO 2 nd (dlst danil))
      (dcons (dwhile PassesOwn.never (dtcmp (one (huOf hr)) (dcallC (c__law_drops (k + 1)) hr (dacons (dvar 1) danil)) (DF.q (dlst danil)) rfl) (dcons (dapp 2 (dcallSC 0 (c__law_of k) hr (dacons (dcallC (c__law_drops (k + 1)) hr (dacons (dvar 1) danil)) danil)))
      (done1 (dset 1 nd (dcallC (c__law_swapped (k + 1)) hr (dacons (dvar 1) (dacons (dixO 2 ixSeq (DE.q (dneg dint))) danil)))))))
      (done1 (dret (dcallTy ctup (by rfl) m_tuple rfl (DF.q (drevF (down 2))))))))) w__law_way
theorem ok__law_drawn_word (d : DefAt K mg "_law_drawn_word" s__law_drawn_word ["source", "n", "most"]) (c__law_pick : ∀ k, CalG P wo K mg base (k + 1) "_law_pick" ["source", "many"] (spS K sp__law_pick)) (c__law_way : ∀ k, CalG P wo K mg base (k + 3) "_law_way" ["source", "row"] (spS K sp__law_way)) (c__law_row : ∀ k, CalG P wo K mg base (k + 3) "_law_row" ["source", "n"] (spS K sp__law_row)) (k : Nat) : CalG P wo K mg base (k + 4) "_law_drawn_word" ["source", "n", "most"] (spS K sp__law_drawn_word) :=
  have nd := sc__law_drawn_word.nd
  calS (T := T__law_drawn_word) (sp := sp__law_drawn_word) d sc__law_drawn_word rfl (fun f cdv A outer s H E hr => (dcons (dif (dtcmp (oeq (huOf hr)) (dvar 1) (DE.q dint) rfl) (done1 (dret (dtup danil))) dnil)
      (dcons (dif (dtcmp (oeq (huOf hr)) (dcallSC 0 (c__law_pick (k + 2)) hr (dacons dint danil)) (DE.q dint) rfl) (done1 (dret (dcallTy ctup (by rfl) m_tuple rfl (DF.q (dlc (own := [("k", 5)]) rfl nd (dir1 (by rfl) m_range (dcallSC 0 (c__law_pick (k + 2)) hr (dacons (dbin oadd (dvar 2) (DE.q dint)) danil))) (by dsimp only [cxOf, Cx.blk, Cx.nox, Cx.wish, compEnvC, envOfC, relabel_eq]; exact blkOk_by (by decide +kernel)) (fun _ _ _ _ _ => (dgname 5 nd)) (fun _ _ _ _ _ => dtsnil) (fun _ _ _ _ _ => (dcallSC 0 (c__law_pick (k + 2)) hr (dacons (dbin osub (dvar 1) (DE.q dint)) danil)))))))) dnil)
      (dcons (dset 3 nd (dsl (dcallSC 0 (c__law_way k) hr (dacons (dcallSC 0 (c__law_row k) hr (dacons (dvar 1) danil)) danil)) dno (dsome (dbin osub (dvar 2) (DE.q dint)))))
      (dcons (dfor PassesOwn.never rfl (dir1 (by rfl) m_range (dcallSC 0 (c__law_pick (k + 2)) hr (dacons dint danil))) (dgname 4 nd) (dcons (dset 5 nd (dcallSC 0 (c__law_pick (k + 2)) hr (dacons (dbin oadd (dcallB clen (by rfl) m_len rfl (DE.q (dvar 3))) (DE.q dint)) danil)))
      (done1 (dset 3 nd (dbin oadd (dbin oadd (dsl (dvar 3) dno (dsome (dvar 5))) (DE.q (dtup (dacons (dcallSC 0 (c__law_pick (k + 2)) hr (dacons (dbin osub (dvar 1) (DE.q dint)) danil)) danil)))) (DE.q (dsl (dvar 3) (dsome (dvar 5)) dno)))))))
      (done1 (dret (dvar 3)))))))) w__law_drawn_word
theorem ok_law (d : DefAt K mg "law" s_law ["script"]) (c__law_source : ∀ k, CalG P wo K mg base (k + 1) "_law_source" ["script"] (spN K)) (c__law_pick : ∀ k, CalG P wo K mg base (k + 1) "_law_pick" ["source", "many"] (spS K sp__law_pick)) (c__law_row : ∀ k, CalG P wo K mg base (k + 3) "_law_row" ["source", "n"] (spS K sp__law_row)) (c__law_way : ∀ k, CalG P wo K mg base (k + 3) "_law_way" ["source", "row"] (spS K sp__law_way)) (c__law_drawn_word : ∀ k, CalG P wo K mg base (k + 4) "_law_drawn_word" ["source", "n", "most"] (spS K sp__law_drawn_word)) (c_without : ∀ k, CalG P wo K mg base (k + 1) "without" ["word", "i"] (spP K sp_without)) (c__law_led : ∀ k, CalG P wo K mg base (k + 2) "_law_led" ["row", "word"] (spP K sp__law_led)) (c__law_drops : ∀ k, CalG P wo K mg base (k + 1) "_law_drops" ["row"] (spP K sp__law_drops)) (c_exchange_place : ∀ k, CalG P wo K mg base (k + 5) "exchange_place" ["n", "way", "k"] (spP K sp_exchange_place)) (c__law_swapped : ∀ k, CalG P wo K mg base (k + 1) "_law_swapped" ["row", "k"] (spP K sp__law_swapped)) (k : Nat) : CalG P wo K mg base (k + 6) "law" ["script"] (spLaw K) :=
  have nd := sc_law.nd
  calL (T := T_law) 1 d sc_law (by decide) (by decide) (by decide) (fun f cdv A outer s H E hr => ⟨_, _, rfl, dnewC 1 (c__law_source (k + 4)) hr nd, (dcons (dfor PassesOwn.never rfl (dir1 (by rfl) m_range dint) (dgname 2 nd) (dcons (dset 3 nd (dbin oadd dint (DE.q (dcallSC 1 (c__law_pick (k + 4)) hr (dacons (dix ixSeq (DF.de (dlst (dacons dint (dacons dint (dacons dint danil))))) (DE.q (dvar 2))) danil)))))
      (dcons (dset 4 nd (dcallSC 1 (c__law_row (k + 2)) hr (dacons (dvar 3) danil)))
      (dcons (dasg (dtup (dacons (dcallSC 1 (c__law_way (k + 2)) hr (dacons (dvar 4) danil)) (dacons (dcallSC 1 (c__law_drawn_word (k + 1)) hr (dacons (dvar 3) (dacons dint danil))) danil))) (dgtup rfl (dgcons (dgname 5 nd) (dgcons (dgname 6 nd) dgnil))))
      (dcons (dset 7 nd (dcallB (crepr hr) (by rfl) m_repr rfl (DF.q (dlst (dacons (dvar 5) (dacons (dvar 6) danil))))))
      (dcons (dif (dtcmp (one (huOf hr)) (DF.de (dlc (own := [("i", 12)]) rfl nd (dir1 (by rfl) m_range (dcallB clen (by rfl) m_len rfl (DE.q (dvar 6)))) (by dsimp only [cxOf, Cx.blk, Cx.nox, Cx.wish, compEnvC, envOfC, relabel_eq]; exact blkOk_by (by decide +kernel)) (fun _ _ _ _ _ => (dgname 12 nd)) (fun _ _ _ _ _ => dtsnil) (fun _ _ _ _ _ => (dcallC (c_without (k + 4)) hr (dacons (dvar 6) (dacons (dvar 12) danil)))))) (DF.q (dlc (own := [("i", 12)]) rfl nd (dir1 (by rfl) m_range (dcallB clen (by rfl) m_len rfl (DE.q (dvar 6)))) (by dsimp only [cxOf, Cx.blk, Cx.nox, Cx.wish, compEnvC, envOfC, relabel_eq]; exact blkOk_by (by decide +kernel)) (fun _ _ _ _ _ => (dgname 12 nd)) (fun _ _ _ _ _ => dtsnil) (fun _ _ _ _ _ => (dbin oadd (dsl (dvar 6) dno (dsome (dvar 12))) (DE.q (dsl (dvar 6) (dsome (dbin oadd (dvar 12) (DE.q dint))) dno)))))) rfl) (done1 (dret dbl)) dnil)
      (dcons (dset 8 nd (DF.de (dlc (own := [("i", 12)]) rfl nd (dir1 (by rfl) m_range (dcallB clen (by rfl) m_len rfl (DE.q (dvar 5)))) (by dsimp only [cxOf, Cx.blk, Cx.nox, Cx.wish, compEnvC, envOfC, relabel_eq]; exact blkOk_by (by decide +kernel)) (fun _ _ _ _ _ => (dgname 12 nd)) (fun _ _ _ _ _ => dtsnil) (fun _ _ _ _ _ => (dcallC (c__law_led (k + 3)) hr (dacons (dtupRg rfl (by rfl) m_tuple (drg1 (by rfl) m_range (dvar 3))) (dacons (dbin oadd (dsl (dvar 5) dno (dsome (dvar 12))) (DE.q (dsl (dvar 5) (dsome (dbin oadd (dvar 12) (DE.q dint))) dno))) danil)))))))
      (dcons (dfor PassesOwn.never rfl (diseq (dcallC (c__law_drops (k + 4)) hr (dacons (dvar 4) danil))) (dgname 9 nd) (dcons (dpar2 10 11 rfl nd (dcdat (dcallC (c_exchange_place k) hr (dacons (dvar 3) (dacons (dvar 5) (dacons (dvar 9) danil)))) (dcdat (DF.de (dlc (own := [("i", 12)]) rfl nd (dir1 (by rfl) m_range (dcallB clen (by rfl) m_len rfl (DE.q (dvar 5)))) (by dsimp only [cxOf, Cx.blk, Cx.nox, Cx.wish, compEnvC, envOfC, relabel_eq]; exact blkOk_by (by decide +kernel)) (fun _ _ _ _ _ => (dgname 12 nd)) (fun _ _ _ _ _ => (dtsone (dtcmp (oeq (huOf hr)) (dix ixSeq (dvar 8) (DE.q (dvar 12))) (DE.q (dcallC (c__law_swapped (k + 4)) hr (dacons (dvar 4) (dacons (dvar 9) danil)))) rfl))) (fun _ _ _ _ _ => (dvar 12)))) dcnil)) rfl)
      (done1 (dif (dwpt (dor (dtcmp (one (huOf hr)) (dcallB clen (by rfl) m_len rfl (DE.q (dvar 11))) (DE.q dint) rfl) (dor1 (dtcmp (one (huOf hr)) (dcallB (crepr hr) (by rfl) m_repr rfl (DE.q (dvar 10))) (DE.q (dcallB (crepr hr) (by rfl) m_repr rfl (DE.q (dix ixSeq (dvar 11) (DE.q dint))))) rfl)))) (done1 (dret dbl)) dnil))))
      (done1 (dif (dtcmp (one (huOf hr)) (dcallB (crepr hr) (by rfl) m_repr rfl (DF.q (dlst (dacons (dvar 5) (dacons (dvar 6) danil))))) (DE.q (dvar 7)) rfl) (done1 (dret dbl)) dnil))))))))))
      (done1 (dret (dcmp (oeq (huOf hr)) (DF.de (dlc (own := [("k", 9)]) rfl nd (diseq (dtup (dacons dint (dacons dint danil)))) (by dsimp only [cxOf, Cx.blk, Cx.nox, Cx.wish, compEnvC, envOfC, relabel_eq]; exact blkOk_by (by decide +kernel)) (fun _ _ _ _ _ => (dgname 9 nd)) (fun _ _ _ _ _ => dtsnil) (fun _ _ _ _ _ => (dcallC (c_exchange_place k) hr (dacons dint (dacons (dtup (dacons dint (dacons dint (dacons dint danil)))) (dacons (dvar 9) danil))))))) (DF.q (dlst (dacons dint (dacons dint danil)))) rfl))))⟩) w_law
end
theorem all_mk {l : PySem.W.OpenLaw} {w : World} {K : PySem.W.Frag} {h : Heap} {mg : Str → Option Value} {fa : Addr} (X : K.In h) (G : h.Ns mainGlobals mg) (hfa : mg "law" = some (.ref fa))
    {f0 : Addr} {od0 an0 : Option Addr} {sl0 : Array (Option Value)} {oc0 kV0 dc0 pm0 cd0 ct0 : Value}
    (a0 : PySem.W.nsIn K mainGlobals "plain" = some (some (.ref f0))) (l0 : K.lookup f0 = some ⟨oc0, od0, .func (PySem.W.fnOf "plain" "plain" (defArgs s_plain) (defBody s_plain) (defScope s_plain) .none kV0 dc0 pm0 an0 cd0 ct0), sl0⟩) (q0 : PySem.W.codeIn K cd0 "plain" = true) (k0 : PySem.W.keepIn K (.ref f0) = true)
    {f1 : Addr} {od1 an1 : Option Addr} {sl1 : Array (Option Value)} {oc1 kV1 dc1 pm1 cd1 ct1 : Value}
    (a1 : PySem.W.nsIn K mainGlobals "exchanged" = some (some (.ref f1))) (l1 : K.lookup f1 = some ⟨oc1, od1, .func (PySem.W.fnOf "exchanged" "exchanged" (defArgs s_exchanged) (defBody s_exchanged) (defScope s_exchanged) .none kV1 dc1 pm1 an1 cd1 ct1), sl1⟩) (q1 : PySem.W.codeIn K cd1 "exchanged" = true) (k1 : PySem.W.keepIn K (.ref f1) = true)
    {f2 : Addr} {od2 an2 : Option Addr} {sl2 : Array (Option Value)} {oc2 kV2 dc2 pm2 cd2 ct2 : Value}
    (a2 : PySem.W.nsIn K mainGlobals "swapped" = some (some (.ref f2))) (l2 : K.lookup f2 = some ⟨oc2, od2, .func (PySem.W.fnOf "swapped" "swapped" (defArgs s_swapped) (defBody s_swapped) (defScope s_swapped) .none kV2 dc2 pm2 an2 cd2 ct2), sl2⟩) (q2 : PySem.W.codeIn K cd2 "swapped" = true) (k2 : PySem.W.keepIn K (.ref f2) = true)
    {f3 : Addr} {od3 an3 : Option Addr} {sl3 : Array (Option Value)} {oc3 kV3 dc3 pm3 cd3 ct3 : Value}
    (a3 : PySem.W.nsIn K mainGlobals "led" = some (some (.ref f3))) (l3 : K.lookup f3 = some ⟨oc3, od3, .func (PySem.W.fnOf "led" "led" (defArgs s_led) (defBody s_led) (defScope s_led) .none kV3 dc3 pm3 an3 cd3 ct3), sl3⟩) (q3 : PySem.W.codeIn K cd3 "led" = true) (k3 : PySem.W.keepIn K (.ref f3) = true)
    {f4 : Addr} {od4 an4 : Option Addr} {sl4 : Array (Option Value)} {oc4 kV4 dc4 pm4 cd4 ct4 : Value}
    (a4 : PySem.W.nsIn K mainGlobals "row_of" = some (some (.ref f4))) (l4 : K.lookup f4 = some ⟨oc4, od4, .func (PySem.W.fnOf "row_of" "row_of" (defArgs s_row_of) (defBody s_row_of) (defScope s_row_of) .none kV4 dc4 pm4 an4 cd4 ct4), sl4⟩) (q4 : PySem.W.codeIn K cd4 "row_of" = true) (k4 : PySem.W.keepIn K (.ref f4) = true)
    {f5 : Addr} {od5 an5 : Option Addr} {sl5 : Array (Option Value)} {oc5 kV5 dc5 pm5 cd5 ct5 : Value}
    (a5 : PySem.W.nsIn K mainGlobals "word_pairs" = some (some (.ref f5))) (l5 : K.lookup f5 = some ⟨oc5, od5, .func (PySem.W.fnOf "word_pairs" "word_pairs" (defArgs s_word_pairs) (defBody s_word_pairs) (defScope s_word_pairs) .none kV5 dc5 pm5 an5 cd5 ct5), sl5⟩) (q5 : PySem.W.codeIn K cd5 "word_pairs" = true) (k5 : PySem.W.keepIn K (.ref f5) = true)
    {f6 : Addr} {od6 an6 : Option Addr} {sl6 : Array (Option Value)} {oc6 kV6 dc6 pm6 cd6 ct6 : Value}
    (a6 : PySem.W.nsIn K mainGlobals "without" = some (some (.ref f6))) (l6 : K.lookup f6 = some ⟨oc6, od6, .func (PySem.W.fnOf "without" "without" (defArgs s_without) (defBody s_without) (defScope s_without) .none kV6 dc6 pm6 an6 cd6 ct6), sl6⟩) (q6 : PySem.W.codeIn K cd6 "without" = true) (k6 : PySem.W.keepIn K (.ref f6) = true)
    {f7 : Addr} {od7 an7 : Option Addr} {sl7 : Array (Option Value)} {oc7 kV7 dc7 pm7 cd7 ct7 : Value}
    (a7 : PySem.W.nsIn K mainGlobals "exchange_place" = some (some (.ref f7))) (l7 : K.lookup f7 = some ⟨oc7, od7, .func (PySem.W.fnOf "exchange_place" "exchange_place" (defArgs s_exchange_place) (defBody s_exchange_place) (defScope s_exchange_place) .none kV7 dc7 pm7 an7 cd7 ct7), sl7⟩) (q7 : PySem.W.codeIn K cd7 "exchange_place" = true) (k7 : PySem.W.keepIn K (.ref f7) = true)
    {f8 : Addr} {od8 an8 : Option Addr} {sl8 : Array (Option Value)} {oc8 kV8 dc8 pm8 cd8 ct8 : Value}
    (a8 : PySem.W.nsIn K mainGlobals "_law_source" = some (some (.ref f8))) (l8 : K.lookup f8 = some ⟨oc8, od8, .func (PySem.W.fnOf "_law_source" "_law_source" (defArgs s__law_source) (defBody s__law_source) (defScope s__law_source) .none kV8 dc8 pm8 an8 cd8 ct8), sl8⟩) (q8 : PySem.W.codeIn K cd8 "_law_source" = true) (k8 : PySem.W.keepIn K (.ref f8) = true)
    {f9 : Addr} {od9 an9 : Option Addr} {sl9 : Array (Option Value)} {oc9 kV9 dc9 pm9 cd9 ct9 : Value}
    (a9 : PySem.W.nsIn K mainGlobals "_law_pick" = some (some (.ref f9))) (l9 : K.lookup f9 = some ⟨oc9, od9, .func (PySem.W.fnOf "_law_pick" "_law_pick" (defArgs s__law_pick) (defBody s__law_pick) (defScope s__law_pick) .none kV9 dc9 pm9 an9 cd9 ct9), sl9⟩) (q9 : PySem.W.codeIn K cd9 "_law_pick" = true) (k9 : PySem.W.keepIn K (.ref f9) = true)
    {f10 : Addr} {od10 an10 : Option Addr} {sl10 : Array (Option Value)} {oc10 kV10 dc10 pm10 cd10 ct10 : Value}
    (a10 : PySem.W.nsIn K mainGlobals "_law_of" = some (some (.ref f10))) (l10 : K.lookup f10 = some ⟨oc10, od10, .func (PySem.W.fnOf "_law_of" "_law_of" (defArgs s__law_of) (defBody s__law_of) (defScope s__law_of) .none kV10 dc10 pm10 an10 cd10 ct10), sl10⟩) (q10 : PySem.W.codeIn K cd10 "_law_of" = true) (k10 : PySem.W.keepIn K (.ref f10) = true)
    {f11 : Addr} {od11 an11 : Option Addr} {sl11 : Array (Option Value)} {oc11 kV11 dc11 pm11 cd11 ct11 : Value}
    (a11 : PySem.W.nsIn K mainGlobals "_law_mixed" = some (some (.ref f11))) (l11 : K.lookup f11 = some ⟨oc11, od11, .func (PySem.W.fnOf "_law_mixed" "_law_mixed" (defArgs s__law_mixed) (defBody s__law_mixed) (defScope s__law_mixed) .none kV11 dc11 pm11 an11 cd11 ct11), sl11⟩) (q11 : PySem.W.codeIn K cd11 "_law_mixed" = true) (k11 : PySem.W.keepIn K (.ref f11) = true)
    {f12 : Addr} {od12 an12 : Option Addr} {sl12 : Array (Option Value)} {oc12 kV12 dc12 pm12 cd12 ct12 : Value}
    (a12 : PySem.W.nsIn K mainGlobals "_law_row" = some (some (.ref f12))) (l12 : K.lookup f12 = some ⟨oc12, od12, .func (PySem.W.fnOf "_law_row" "_law_row" (defArgs s__law_row) (defBody s__law_row) (defScope s__law_row) .none kV12 dc12 pm12 an12 cd12 ct12), sl12⟩) (q12 : PySem.W.codeIn K cd12 "_law_row" = true) (k12 : PySem.W.keepIn K (.ref f12) = true)
    {f13 : Addr} {od13 an13 : Option Addr} {sl13 : Array (Option Value)} {oc13 kV13 dc13 pm13 cd13 ct13 : Value}
    (a13 : PySem.W.nsIn K mainGlobals "_law_swapped" = some (some (.ref f13))) (l13 : K.lookup f13 = some ⟨oc13, od13, .func (PySem.W.fnOf "_law_swapped" "_law_swapped" (defArgs s__law_swapped) (defBody s__law_swapped) (defScope s__law_swapped) .none kV13 dc13 pm13 an13 cd13 ct13), sl13⟩) (q13 : PySem.W.codeIn K cd13 "_law_swapped" = true) (k13 : PySem.W.keepIn K (.ref f13) = true)
    {f14 : Addr} {od14 an14 : Option Addr} {sl14 : Array (Option Value)} {oc14 kV14 dc14 pm14 cd14 ct14 : Value}
    (a14 : PySem.W.nsIn K mainGlobals "_law_led" = some (some (.ref f14))) (l14 : K.lookup f14 = some ⟨oc14, od14, .func (PySem.W.fnOf "_law_led" "_law_led" (defArgs s__law_led) (defBody s__law_led) (defScope s__law_led) .none kV14 dc14 pm14 an14 cd14 ct14), sl14⟩) (q14 : PySem.W.codeIn K cd14 "_law_led" = true) (k14 : PySem.W.keepIn K (.ref f14) = true)
    {f15 : Addr} {od15 an15 : Option Addr} {sl15 : Array (Option Value)} {oc15 kV15 dc15 pm15 cd15 ct15 : Value}
    (a15 : PySem.W.nsIn K mainGlobals "_law_drops" = some (some (.ref f15))) (l15 : K.lookup f15 = some ⟨oc15, od15, .func (PySem.W.fnOf "_law_drops" "_law_drops" (defArgs s__law_drops) (defBody s__law_drops) (defScope s__law_drops) .none kV15 dc15 pm15 an15 cd15 ct15), sl15⟩) (q15 : PySem.W.codeIn K cd15 "_law_drops" = true) (k15 : PySem.W.keepIn K (.ref f15) = true)
    {f16 : Addr} {od16 an16 : Option Addr} {sl16 : Array (Option Value)} {oc16 kV16 dc16 pm16 cd16 ct16 : Value}
    (a16 : PySem.W.nsIn K mainGlobals "_law_way" = some (some (.ref f16))) (l16 : K.lookup f16 = some ⟨oc16, od16, .func (PySem.W.fnOf "_law_way" "_law_way" (defArgs s__law_way) (defBody s__law_way) (defScope s__law_way) .none kV16 dc16 pm16 an16 cd16 ct16), sl16⟩) (q16 : PySem.W.codeIn K cd16 "_law_way" = true) (k16 : PySem.W.keepIn K (.ref f16) = true)
    {f17 : Addr} {od17 an17 : Option Addr} {sl17 : Array (Option Value)} {oc17 kV17 dc17 pm17 cd17 ct17 : Value}
    (a17 : PySem.W.nsIn K mainGlobals "_law_drawn_word" = some (some (.ref f17))) (l17 : K.lookup f17 = some ⟨oc17, od17, .func (PySem.W.fnOf "_law_drawn_word" "_law_drawn_word" (defArgs s__law_drawn_word) (defBody s__law_drawn_word) (defScope s__law_drawn_word) .none kV17 dc17 pm17 an17 cd17 ct17), sl17⟩) (q17 : PySem.W.codeIn K cd17 "_law_drawn_word" = true) (k17 : PySem.W.keepIn K (.ref f17) = true)
    {f18 : Addr} {od18 an18 : Option Addr} {sl18 : Array (Option Value)} {oc18 kV18 dc18 pm18 cd18 ct18 : Value}
    (a18 : PySem.W.nsIn K mainGlobals "law" = some (some (.ref f18))) (l18 : K.lookup f18 = some ⟨oc18, od18, .func (PySem.W.fnOf "law" "law" (defArgs s_law) (defBody s_law) (defScope s_law) .none kV18 dc18 pm18 an18 cd18 ct18), sl18⟩) (q18 : PySem.W.codeIn K cd18 "law" = true) (k18 : PySem.W.keepIn K (.ref f18) = true)
    (z_abs : PySem.W.nsIn K mainGlobals "abs" = some none)
    (z_int : PySem.W.nsIn K mainGlobals "int" = some none)
    (z_len : PySem.W.nsIn K mainGlobals "len" = some none)
    (z_list : PySem.W.nsIn K mainGlobals "list" = some none)
    (z_max : PySem.W.nsIn K mainGlobals "max" = some none)
    (z_min : PySem.W.nsIn K mainGlobals "min" = some none)
    (z_range : PySem.W.nsIn K mainGlobals "range" = some none)
    (z_repr : PySem.W.nsIn K mainGlobals "repr" = some none)
    (z_tuple : PySem.W.nsIn K mainGlobals "tuple" = some none)
    : ∃ fd : FuncData, (∀ (s : Shared) (v : Value), BindsTo s fd ⟨[v], []⟩ [("script", v)]) ∧ ∀ base : Heap, K.In base → base.Ns mainGlobals mg → FnG l.prog w K mg base CX0 6 fa fd ["script"] (spLaw K) := by
  have e := hfa.symm.trans (PySem.W.mg_of X G a18)
  cases e
  have d0 : DefAt K mg "plain" s_plain ["n"] := ⟨_, _, fun_mk l0 q0 k0, PySem.W.mg_of X G a0, fun us hl => match us, hl with | [_], _ => rfl⟩
  have d1 : DefAt K mg "exchanged" s_exchanged ["row", "i", "j"] := ⟨_, _, fun_mk l1 q1 k1, PySem.W.mg_of X G a1, fun us hl => match us, hl with | [_, _, _], _ => rfl⟩
  have d2 : DefAt K mg "swapped" s_swapped ["row", "k"] := ⟨_, _, fun_mk l2 q2 k2, PySem.W.mg_of X G a2, fun us hl => match us, hl with | [_, _], _ => rfl⟩
  have d3 : DefAt K mg "led" s_led ["row", "word"] := ⟨_, _, fun_mk l3 q3 k3, PySem.W.mg_of X G a3, fun us hl => match us, hl with | [_, _], _ => rfl⟩
  have d4 : DefAt K mg "row_of" s_row_of ["n", "word"] := ⟨_, _, fun_mk l4 q4 k4, PySem.W.mg_of X G a4, fun us hl => match us, hl with | [_, _], _ => rfl⟩
  have d5 : DefAt K mg "word_pairs" s_word_pairs ["n", "word"] := ⟨_, _, fun_mk l5 q5 k5, PySem.W.mg_of X G a5, fun us hl => match us, hl with | [_, _], _ => rfl⟩
  have d6 : DefAt K mg "without" s_without ["word", "i"] := ⟨_, _, fun_mk l6 q6 k6, PySem.W.mg_of X G a6, fun us hl => match us, hl with | [_, _], _ => rfl⟩
  have d7 : DefAt K mg "exchange_place" s_exchange_place ["n", "way", "k"] := ⟨_, _, fun_mk l7 q7 k7, PySem.W.mg_of X G a7, fun us hl => match us, hl with | [_, _, _], _ => rfl⟩
  have d8 : DefAt K mg "_law_source" s__law_source ["script"] := ⟨_, _, fun_mk l8 q8 k8, PySem.W.mg_of X G a8, fun us hl => match us, hl with | [_], _ => rfl⟩
  have d9 : DefAt K mg "_law_pick" s__law_pick ["source", "many"] := ⟨_, _, fun_mk l9 q9 k9, PySem.W.mg_of X G a9, fun us hl => match us, hl with | [_, _], _ => rfl⟩
  have d10 : DefAt K mg "_law_of" s__law_of ["source", "some"] := ⟨_, _, fun_mk l10 q10 k10, PySem.W.mg_of X G a10, fun us hl => match us, hl with | [_, _], _ => rfl⟩
  have d11 : DefAt K mg "_law_mixed" s__law_mixed ["source", "things"] := ⟨_, _, fun_mk l11 q11 k11, PySem.W.mg_of X G a11, fun us hl => match us, hl with | [_, _], _ => rfl⟩
  have d12 : DefAt K mg "_law_row" s__law_row ["source", "n"] := ⟨_, _, fun_mk l12 q12 k12, PySem.W.mg_of X G a12, fun us hl => match us, hl with | [_, _], _ => rfl⟩
  have d13 : DefAt K mg "_law_swapped" s__law_swapped ["row", "k"] := ⟨_, _, fun_mk l13 q13 k13, PySem.W.mg_of X G a13, fun us hl => match us, hl with | [_, _], _ => rfl⟩
  have d14 : DefAt K mg "_law_led" s__law_led ["row", "word"] := ⟨_, _, fun_mk l14 q14 k14, PySem.W.mg_of X G a14, fun us hl => match us, hl with | [_, _], _ => rfl⟩
  have d15 : DefAt K mg "_law_drops" s__law_drops ["row"] := ⟨_, _, fun_mk l15 q15 k15, PySem.W.mg_of X G a15, fun us hl => match us, hl with | [_], _ => rfl⟩
  have d16 : DefAt K mg "_law_way" s__law_way ["source", "row"] := ⟨_, _, fun_mk l16 q16 k16, PySem.W.mg_of X G a16, fun us hl => match us, hl with | [_, _], _ => rfl⟩
  have d17 : DefAt K mg "_law_drawn_word" s__law_drawn_word ["source", "n", "most"] := ⟨_, _, fun_mk l17 q17 k17, PySem.W.mg_of X G a17, fun us hl => match us, hl with | [_, _, _], _ => rfl⟩
  have d18 : DefAt K mg "law" s_law ["script"] := ⟨_, _, fun_mk l18 q18 k18, PySem.W.mg_of X G a18, fun us hl => match us, hl with | [_], _ => rfl⟩
  have m_abs := PySem.W.mg_none_of X G z_abs
  have m_int := PySem.W.mg_none_of X G z_int
  have m_len := PySem.W.mg_none_of X G z_len
  have m_list := PySem.W.mg_none_of X G z_list
  have m_max := PySem.W.mg_none_of X G z_max
  have m_min := PySem.W.mg_none_of X G z_min
  have m_range := PySem.W.mg_none_of X G z_range
  have m_repr := PySem.W.mg_none_of X G z_repr
  have m_tuple := PySem.W.mg_none_of X G z_tuple
  refine ⟨PySem.W.fnOf "law" "law" (defArgs s_law) (defBody s_law) (defScope s_law) .none kV18 dc18 pm18 an18 cd18 ct18, fun s v => .of_eq rfl, fun base _ _ => ?_⟩
  have C__law_source := ok__law_source (P := l.prog) (wo := w) (base := base) m_abs m_int m_len m_list m_max m_min m_range m_repr m_tuple d8
  have C__law_pick := ok__law_pick (P := l.prog) (wo := w) (base := base) m_abs m_int m_len m_list m_max m_min m_range m_repr m_tuple d9
  have C__law_mixed := ok__law_mixed (P := l.prog) (wo := w) (base := base) m_abs m_int m_len m_list m_max m_min m_range m_repr m_tuple d11 C__law_pick
  have C__law_row := ok__law_row (P := l.prog) (wo := w) (base := base) m_abs m_int m_len m_list m_max m_min m_range m_repr m_tuple d12 C__law_pick C__law_mixed
  have C__law_drops := ok__law_drops (P := l.prog) (wo := w) (base := base) m_abs m_int m_len m_list m_max m_min m_range m_repr m_tuple d15
  have C__law_of := ok__law_of (P := l.prog) (wo := w) (base := base) m_abs m_int m_len m_list m_max m_min m_range m_repr m_tuple d10 C__law_pick
  have C__law_swapped := ok__law_swapped (P := l.prog) (wo := w) (base := base) m_abs m_int m_len m_list m_max m_min m_range m_repr m_tuple d13
  have C__law_way := ok__law_way (P := l.prog) (wo := w) (base := base) m_abs m_int m_len m_list m_max m_min m_range m_repr m_tuple d16 C__law_drops C__law_of C__law_swapped
  have C__law_drawn_word := ok__law_drawn_word (P := l.prog) (wo := w) (base := base) m_abs m_int m_len m_list m_max m_min m_range m_repr m_tuple d17 C__law_pick C__law_way C__law_row
  have C_without := ok_without (P := l.prog) (wo := w) (base := base) m_abs m_int m_len m_list m_max m_min m_range m_repr m_tuple d6
  have C__law_led := ok__law_led (P := l.prog) (wo := w) (base := base) m_abs m_int m_len m_list m_max m_min m_range m_repr m_tuple d14 C__law_swapped
  have C_exchanged := ok_exchanged (P := l.prog) (wo := w) (base := base) m_abs m_int m_len m_list m_max m_min m_range m_repr m_tuple d1
  have C_swapped := ok_swapped (P := l.prog) (wo := w) (base := base) m_abs m_int m_len m_list m_max m_min m_range m_repr m_tuple d2 C_exchanged
  have C_led := ok_led (P := l.prog) (wo := w) (base := base) m_abs m_int m_len m_list m_max m_min m_range m_repr m_tuple d3 C_swapped
  have C_plain := ok_plain (P := l.prog) (wo := w) (base := base) m_abs m_int m_len m_list m_max m_min m_range m_repr m_tuple d0
  have C_row_of := ok_row_of (P := l.prog) (wo := w) (base := base) m_abs m_int m_len m_list m_max m_min m_range m_repr m_tuple d4 C_led C_plain
  have C_word_pairs := ok_word_pairs (P := l.prog) (wo := w) (base := base) m_abs m_int m_len m_list m_max m_min m_range m_repr m_tuple d5 C_plain
  have C_exchange_place := ok_exchange_place (P := l.prog) (wo := w) (base := base) m_abs m_int m_len m_list m_max m_min m_range m_repr m_tuple d7 C_row_of C_word_pairs
  have C_law := ok_law (P := l.prog) (wo := w) (base := base) m_abs m_int m_len m_list m_max m_min m_range m_repr m_tuple d18 C__law_source C__law_pick C__law_row C__law_way C__law_drawn_word C_without C__law_led C__law_drops C_exchange_place C__law_swapped
  exact lawFd (PySem.W.mg_of X G a18) l18 (C_law 0)
end Gw
open PySem PySem.W PyProof.Rows
set_option maxHeartbeats 0 in
theorem PySem.Challenge.cw_goodwebs_k83_whole_places_left_out_holds : PySem.Challenge.rw_goodwebs_k83_whole_places_left_out.Holds := by
  w_on; o_law; k_head; (case hw => w_witness2)
  k_fill
  refine Gw.walk_ofG (l := PySem.Challenge.rw_goodwebs_k83_whole_places_left_out) (n := 63) (k := 6) (x := "script") (sp := fun K => Gw.spLaw K) rfl (by decide) rfl ⟨rfl, by decide, by decide⟩ (fun w h Y => PySem.W.kIn_of Y) ?F (fun _ _ a ns hl hS => Gw.spLaw_of hl hS)
  case F =>
    intro w mg fa h KX G hmg
    refine' Gw.all_mk KX G hmg ?a0 ?l0 ?q0 ?k0 ?a1 ?l1 ?q1 ?k1 ?a2 ?l2 ?q2 ?k2 ?a3 ?l3 ?q3 ?k3 ?a4 ?l4 ?q4 ?k4 ?a5 ?l5 ?q5 ?k5 ?a6 ?l6 ?q6 ?k6 ?a7 ?l7 ?q7 ?k7 ?a8 ?l8 ?q8 ?k8 ?a9 ?l9 ?q9 ?k9 ?a10 ?l10 ?q10 ?k10 ?a11 ?l11 ?q11 ?k11 ?a12 ?l12 ?q12 ?k12 ?a13 ?l13 ?q13 ?k13 ?a14 ?l14 ?q14 ?k14 ?a15 ?l15 ?q15 ?k15 ?a16 ?l16 ?q16 ?k16 ?a17 ?l17 ?q17 ?k17 ?a18 ?l18 ?q18 ?k18 ?z_abs ?z_int ?z_len ?z_list ?z_max ?z_min ?z_range ?z_repr ?z_tuple
    (case a0 => k_is); (case l0 => k_is); (case q0 => k_is); (case k0 => k_is); (case a1 => k_is); (case l1 => k_is); (case q1 => k_is); (case k1 => k_is); (case a2 => k_is); (case l2 => k_is); (case q2 => k_is); (case k2 => k_is); (case a3 => k_is); (case l3 => k_is); (case q3 => k_is); (case k3 => k_is); (case a4 => k_is); (case l4 => k_is); (case q4 => k_is); (case k4 => k_is); (case a5 => k_is); (case l5 => k_is); (case q5 => k_is); (case k5 => k_is); (case a6 => k_is); (case l6 => k_is); (case q6 => k_is); (case k6 => k_is); (case a7 => k_is); (case l7 => k_is); (case q7 => k_is); (case k7 => k_is); (case a8 => k_is); (case l8 => k_is); (case q8 => k_is); (case k8 => k_is); (case a9 => k_is); (case l9 => k_is); (case q9 => k_is); (case k9 => k_is); (case a10 => k_is); (case l10 => k_is); (case q10 => k_is); (case k10 => k_is); (case a11 => k_is); (case l11 => k_is); (case q11 => k_is); (case k11 => k_is); (case a12 => k_is); (case l12 => k_is); (case q12 => k_is); (case k12 => k_is); (case a13 => k_is); (case l13 => k_is); (case q13 => k_is); (case k13 => k_is); (case a14 => k_is); (case l14 => k_is); (case q14 => k_is); (case k14 => k_is); (case a15 => k_is); (case l15 => k_is); (case q15 => k_is); (case k15 => k_is); (case a16 => k_is); (case l16 => k_is); (case q16 => k_is); (case k16 => k_is); (case a17 => k_is); (case l17 => k_is); (case q17 => k_is); (case k17 => k_is); (case a18 => k_is); (case l18 => k_is); (case q18 => k_is); (case k18 => k_is); (case z_abs => k_is); (case z_int => k_is); (case z_len => k_is); (case z_list => k_is); (case z_max => k_is); (case z_min => k_is); (case z_range => k_is); (case z_repr => k_is); (case z_tuple => k_is)
