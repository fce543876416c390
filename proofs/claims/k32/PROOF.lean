import PyProof.Rows.All
import HandS.ForMost
import HandS.Evl
import HandS.ForExc
import HandS.CallSlots
import HandS.Flow
import HandS.SetKeys
import HandS.More
import HandS.TupAny
import KE.GoesMore
import KE.GoesEnum
import HandS.IsInst
import PySem.Challenge.RW_smallcount_k32_sticking_counters
set_option Elab.async false
set_option linter.all false
set_option autoImplicit false
set_option maxRecDepth 100000
/-! Defs whose frames run outside any repr: the guards are known to be none. -/
namespace DL
open PySem PySem.Spec PyProof.Rows L2

structure FnG (P : Program) (w : World) (K : PySem.W.Frag) (mg : Str → Option Value) (base : Heap) (cx : CXT)
    (k : Nat) (f : Addr) (fd : FuncData) (ps : List Str) (sp : Sp) : Prop where
  len : ∀ vs H Q E, sp vs H Q E → vs.length = ps.length
  run : ∀ (A : Around) (out : List Env) (s : Shared) (H : Hp) (args : Args) (us : List Value) (vs : List V) (Q : VK) (E : XK),
    Room k A → A.guards = some [] → Env0 P w K mg base A out s H → BindsTo s fd args (ps.zip us) → Vals vs us →
    sp vs H Q E → codeAny (model P w) A (.call (.ref f) args) (CR cx out P w H s Q E) s

theorem FnG.mono {P : Program} {w : World} {K : PySem.W.Frag} {mg : Str → Option Value} {base : Heap} {cx : CXT}
    {j k : Nat} {f : Addr} {fd : FuncData} {ps : List Str} {sp : Sp} (F : FnG P w K mg base cx j f fd ps sp) (h : j ≤ k) :
    FnG P w K mg base cx k f fd ps sp :=
  ⟨F.len, fun A o s H a us vs Q E hr => F.run A o s H a us vs Q E (hr.mono h)⟩

theorem fnG_of {cx : CXT} {P : Program} {w : World} {K : PySem.W.Frag} {mg : Str → Option Value} {base : Heap} {k : Nat}
    {f : Addr} {name qual : Str} {params : Arguments} {body : List Stmt} {sc : Scope} {dV kV doc pm cdv ct oc : Value}
    {an od : Option Addr} {osl : Array (Option Value)} {N ps : List Str} {sp : Sp}
    (lk : K.lookup f = some ⟨oc, od, .func (PySem.W.fnOf name qual params body sc dV kV doc pm an cdv ct), osl⟩)
    (hcd : PySem.W.codeIn K cdv qual = true) (S : FnScope N ps sc)
    (len : ∀ vs H Q E, sp vs H Q E → vs.length = ps.length)
    (hb : ∀ (A : Around) (out : List Env) (s : Shared) (H : Hp) (vs : List V) (Q : VK) (E : XK),
      Room k (A.deeper (envOfC qual sc s.heap.objs.size f cdv)) → A.guards = some [] → sp vs H Q E →
      ∃ t, PSs (cxOf cx P w K mg base N qual sc f cdv A out s H E) body t ∧
        t { nx := fun _ H' => Q .non H', rt := Q } (start N vs) H) :
    FnG P w K mg base cx (k + 1) f (PySem.W.fnOf name qual params body sc dV kV doc pm an cdv ct) ps sp := by
  refine ⟨len, fun A out s H args us vs Q E hr hg e0 bd r hsp => ?_⟩
  have hl := len _ _ _ _ hsp
  have stay : ∀ b o, base.get? b = some o → s.heap.get? b = some o := fun b o e => (e0.bs b o e).1
  have KX : K.In s.heap := e0.mod.kin.keeps stay
  have kinds : ∀ y ∈ ps.zip us, sc.names.lookup y.1 = some .local ∨
      (sc.names.lookup y.1 = some .cell ∧ ((cellsFrom (s.heap.objs.size + 1) sc.names []).lookup y.1).isSome = true) := by
    rintro ⟨n, v⟩ hy
    refine (S.par n (List.of_mem_zip hy).1).imp id fun q => ⟨q, ?_⟩
    exact PySem.W.cellsFrom_some _ _ _ (.inl q)
  refine codeAny_call_function hr.depth (KX _ _ lk) rfl S.co S.gen rfl (PySem.W.codeRec_of KX hcd) (bd _ _ _ _ ?_)
  refine wpAny_newFunctionEnv_cells S.kind kinds fun env he s1 x => ?_
  subst he
  refine ⟨(e0.mod.nolimit.keeps stay).keeps x.toInCall.keep, codeAny_func ?_⟩
  obtain ⟨t, ht, hq⟩ := hb A out s H vs Q E (hr.deeper _) hg hsp
  have I := inv_start (cd := cdv) (qual := qual) (f := f) (CX := cx) (E := E) S hr.hd e0 hl r x
  refine wpAny_mono (ht.run [] s1 (start N vs) H _ I hq) (fun fl s' hs => ?_) fun e s' hs => hs
  match fl, hs with
  | .ret u, ⟨v, _, H', J, rv, q⟩ => exact ⟨v, H', J.os, J.bare, J.base, J.hok, rv, q⟩
  | .next, ⟨_, H', J, q⟩ => exact ⟨V.non, H', J.os, J.bare, J.base, J.hok, rfl, q⟩
  | .brk, ⟨_, _, _, q⟩ => exact False.elim q
  | .cont, ⟨_, _, _, q⟩ => exact False.elim q

section
variable {X : Cx} {cx : CXT} {k : Nat} {f : Addr} {fd : FuncData} {ps : List Str} {sp : Sp} {dvs : List V} {ds : List Value}
  {E : L2.St → XK} {x : Str} {p pos : Pos} {e : Expr} {es : List Expr} {t : TA}
theorem run_fnG {pins : List (Addr × Obj)} {σ : L2.St} {H : Hp} {s : Shared} {Q : VK} {us : List Value} {vs : List V}
    (F : FnG X.prog X.w X.K X.mg X.base cx k f fd ps sp) (hr : Room k X.A) (hgd : X.A.guards = some [])
    (hb : Binds X.K fd ps ds) (hd : Vals dvs ds) (hx : PassesAt cx X σ (E σ)) (I : Inv X pins σ H s) (r : Vals vs us)
    (h : sp (vs ++ dvs) H Q (E σ)) : wpAny (model X.prog X.w) X.A (call (.ref f) us) (EP X pins σ Q) X.xe s := by
  have r2 : Vals (vs ++ dvs) (us ++ ds) := r.append hd
  have hl : (us ++ ds).length = ps.length := r2.length ▸ F.len _ _ _ _ h
  have run := F.run X.A X.stack s H ⟨us, []⟩ (us ++ ds) (vs ++ dvs) Q (E σ) hr hgd I.env0 (hb s us I.kIn hl) r2 h
  refine wpAny_call (codeAny_mono run fun z s' hq => ?_)
  match z, hq with
  | .error e, hq => exact hx pins H s e s' I hq
  | .ok (.ret u), hq => exact I.after hq
  | .ok .next, hq => exact hq.elim
  | .ok .brk, hq => exact hq.elim
  | .ok .cont, hq => exact hq.elim
theorem pe_callG (F : FnG X.prog X.w X.K X.mg X.base cx k f fd ps sp) (hr : Room k X.A) (hgd : X.A.guards = some [])
    (hg : Gl X x) (hm : X.mg x = some (.ref f)) (hk : PySem.W.keepIn X.K (.ref f) = true) (hb : Binds X.K fd ps ds)
    (hd : Vals dvs ds) (hx : ∀ σ, PassesAt cx X σ (E σ)) (ha : PA X (e :: es) t)
    (hdb : (x == ("__debug__" : Str)) = false := by decide)
    (he : starEach (e :: es) X.env = (false, eval e X.env) :: starEach es X.env := by rfl)
    (hpl : (backTo pos (starEach es X.env)).any (·.1) = false := by rfl) :
    PE X (.Call (.Name x p) (e :: es) [] pos) (tCallSD sp dvs E t) := by
  refine ⟨fun pins s σ H Q I h => wpAny_Call_Name_kw (ld_glob I hg hm ?_ hdb)⟩
  refine PySem.W.callWith_K (h₀ := X.base) I.ok.mod.kin hk (thn (ha.run pos pins s σ H _ I h) ?_) he hpl
  rintro us s1 ⟨vs, H1, I1, r, q⟩
  exact ⟨I1.kIn, run_fnG F hr hgd hb hd (hx σ) I1 r q⟩
end

/-- the law's call from outside, by a promise that may lean on the guards -/
theorem law_callG {P : Program} {w : World} {K : PySem.W.Frag} {mg mb : Str → Option Value} {cx : CXT} {k : Nat}
    {fa a : Addr} {fd : FuncData} {x : Str} {sp : Sp} {s₁ : Shared} {vs : List Value} {ns : List Int}
    (KX : K.In s₁.heap) (hns : s₁.heap.Ns mainGlobals mg) (hb : s₁.heap.Ns builtinsNs mb)
    (hbb : ∀ x : Str, x ≠ "__name__" → mb x = bootBuiltins x) (hlim : s₁.heap.NoLimit) (hg : s₁.gens = #[])
    (ha : s₁.heap.get? a = some { cls := .type "list", data := .seq vs.toArray }) (hi : IntsAre vs ns)
    (hl : ns.length ≤ sizeLine) (hr : Room k callerA)
    (F : ∀ base : Heap, K.In base → base.Ns mainGlobals mg → FnG P w K mg base cx k fa fd [x] sp)
    (hbind : ∀ (s : Shared) (u : Value), BindsTo s fd ⟨[u], []⟩ [(x, u)])
    (hsp : ∀ H : Hp, Only H → SqL K H a (ns.map V.int) → sp [.ref a] H (fun v _ => v = .bl true) fun _ _ _ => False)
    (hcx : ∀ H e s', cx [] H s₁ (fun _ _ _ => False) e s' → False) :
    codeAny (model P w) callerA (.call (.ref fa) ⟨[.ref a], []⟩)
      (fun r s' => r = .ok (.ret (.bool true)) ∧ OldK s₁.heap s'.heap ∧ s'.os = s₁.os ∧ AllBare s'.gens) s₁ := by
  have rv := vals_ints hi
  have main : ∀ H : Hp, Only H → SqL K H a (ns.map V.int) → HOk P w H s₁.heap → (∀ b, H b ≠ none → b = a) →
      (H a ≠ none → K.lookup a = none) → codeAny (model P w) callerA (.call (.ref fa) ⟨[.ref a], []⟩)
      (fun r s' => r = .ok (.ret (.bool true)) ∧ OldK s₁.heap s'.heap ∧ s'.os = s₁.os ∧ AllBare s'.gens) s₁ := by
    intro H hO hS hok hA hK
    have onlyA : ∀ {b : Addr} {u : HO}, H b = some u → b = a := fun {b u} q => hA b (by rw [q]; exact fun z => nomatch z)
    have dictFree : ∀ {b : Addr} {o : Obj} {es : Array DictEntry} {ep : Nat},
        s₁.heap.get? b = some o → o.data = .dict es ep → H b = none := by
      intro b o es ep e d
      match q : H b with
      | none => rfl
      | some u =>
        obtain rfl := onlyA q
        rw [ha] at e
        obtain rfl := Option.some.inj e
        exact nomatch (show Data.seq vs.toArray _ = Data.dict es ep from d)
    have ns' : ∀ {b : Addr} {m : Str → Option Value}, s₁.heap.Ns b m → (hidT s₁.heap H).Ns b m :=
      fun ⟨o, es, ep, e, d, r⟩ => ⟨o, es, ep, hidT_get e (dictFree e d), d, r⟩
    have kb : K.In (hidT s₁.heap H) := fun b o e => hidT_get (KX b o e) (by
      match q : H b with
      | none => rfl
      | some u =>
        obtain rfl := onlyA q
        rw [hK (by rw [q]; exact fun z => nomatch z)] at e
        exact nomatch e)
    have md : Mod K mg (hidT s₁.heap H) := ⟨kb, ns' hns, ⟨mb, ns' hb, hbb⟩, by
      obtain ⟨mc, h1, h2⟩ := hlim
      exact ⟨mc, ns' h1, h2⟩⟩
    have nofr : ∀ b : Addr, b ∉ frs [] := fun b z => nomatch (show b ∈ ([] : List Addr) from z)
    have e0 : Env0 P w K mg (hidT s₁.heap H) callerA [] s₁ H :=
      ⟨rfl, md, fun b o e => of_hidT e, Nat.le_of_eq (hidT_size _ _), trivial, fun b hb => absurd hb (nofr b), hok, .of_eq hg⟩
    have run := (F _ kb (ns' hns)).run callerA [] s₁ H ⟨[.ref a], []⟩ [.ref a] [.ref a] _ _ hr rfl e0
      (hbind s₁ (.ref a)) (.cons rfl .nil) (hsp H hO hS)
    refine codeAny_mono run fun r s' h => ?_
    match r, h with
    | .error e, h => exact (hcx H e s' h).elim
    | .ok .next, h => exact h.elim
    | .ok .brk, h => exact h.elim
    | .ok .cont, h => exact h.elim
    | .ok (.ret u), ⟨v, H', os, bare, un, hok', r', q⟩ =>
      obtain rfl : v = .bl true := q
      obtain rfl : u = Value.bool true := r'
      refine ⟨rfl, OldK.of_keep fun b o e => ?_, os, bare⟩
      match q : H b with
      | none => exact un.keep b o e q (nofr b) (fun z => nomatch z)
      | some u =>
        match hO b with
        | .inl z => rw [q] at z; exact nomatch z
        | .inr ⟨ob, xs, z⟩ =>
          have e1 := (hok b _ z).1
          rw [e] at e1
          obtain rfl := Option.some.inj e1
          exact (hok' b _ (un.frzs b _ _ z)).1
  match hk : K.lookup a with
  | some o =>
    have e := KX a o hk
    rw [ha] at e
    obtain rfl := Option.some.inj e
    have hz : vs.toArray.size ≤ sizeLine := by rw [List.size_toArray, hi.length]; exact hl
    refine main (fun _ => none) (fun _ => .inl rfl) (.inr ⟨_, vs.toArray, _, hk, rfl, rfl, rfl, hz, by simpa using rv⟩) ?_ ?_ ?_
    · exact fun b u z => nomatch (show (none : Option HO) = some u from z)
    · exact fun b z => absurd rfl z
    · exact fun z => absurd rfl z
  | none =>
    let so : Obj := { cls := .type "list", data := .seq vs.toArray }
    refine main (fun b => if b = a then some (.frz so (.lst (ns.map V.int))) else none) (fun b => ?_)
      (.inl (.inr ⟨so, if_pos rfl⟩)) (fun b u z => ?_) (fun b z => Classical.byContradiction fun hb => z (if_neg hb)) fun _ => hk
    · by_cases hb : b = a
      · exact .inr ⟨_, _, if_pos hb⟩
      · exact .inl (if_neg hb)
    · by_cases hb : b = a
      · have z' := (if_pos hb).symm.trans z
        obtain rfl := Option.some.inj z'
        subst hb
        exact ⟨ha, by rw [List.length_map]; exact hl, vs, _, rv, ha⟩
      · exact nomatch (if_neg hb).symm.trans z

theorem walk_ofG {l : PySem.W.OpenLaw} {n k : Nat} {q : Program} {loose : List Str} {XP : (Str → Option Value) → Heap → Prop}
    {YP : World → Heap → Prop} {d : DefRec} {K : Params → PySem.W.Frag} {cx : World → CXT} {sp : World → Sp} {x : Str}
    (hn : l.most = some n) (hn2 : n ≤ sizeLine) (hdf : d.params.defaults = []) (hr : Room k callerA)
    (hY : ∀ (w : World) (h : Heap), YP w h → (K w.params).In h)
    (F : ∀ (w : World) (mg : Str → Option Value) (fa : Addr) (h : Heap), (K w.params).In h → h.Ns mainGlobals mg →
      mg d.name = some (.ref fa) → ∃ fd : FuncData, (∀ (s : Shared) (u : Value), BindsTo s fd ⟨[u], []⟩ [(x, u)]) ∧
        ∀ base : Heap, (K w.params).In base → base.Ns mainGlobals mg →
          FnG l.prog w (K w.params) mg base (cx w) k fa fd [x] (sp w))
    (hsp : ∀ (w : World) (H : Hp) (a : Addr) (ns : List Int), ns.length ≤ n → Only H →
      SqL (K w.params) H a (ns.map V.int) → sp w [.ref a] H (fun v _ => v = .bl true) fun _ _ _ => False)
    (hcx : ∀ (w : World) (H : Hp) (s : Shared) (e : Value) (s' : Shared), cx w [] H s (fun _ _ _ => False) e s' → False) :
    PySem.W.WalkO q loose XP YP l.row.toRowW d [] (fun f vs => PySem.call f vs) := by
  refine Att.attach_call hn hdf fun w s₀ s₁ mg mb fa o pm cd doc a vs ns G Y ho hd hcd hmg hobj hints hlen hg => ?_
  obtain ⟨fd, hb, hF⟩ := F w mg fa _ (hY w _ Y) G.T.g hmg
  exact law_callG (hY w _ Y) G.T.g G.T.b G.T.builtins G.T.nolimit hg hobj hints (Nat.le_trans hlen hn2) hr hF hb
    (fun H hO hS => hsp w H a ns hlen hO hS) fun H e s' => hcx w H s₁ e s'
end DL
/-! Data in trees over the abstract heap: what a piece of Python does, as a plain function. -/
namespace DL
open PySem PySem.Spec PyProof.Rows L2
abbrev Slots := L2.St
/-- all that stands goes on standing -/
def Ex (H H' : Hp) : Prop := ∀ a o, H a = some o → H' a = some o
theorem Ex.refl (H : Hp) : Ex H H := fun _ _ h => h
theorem Ex.trans {H H1 H2 : Hp} (a : Ex H H1) (b : Ex H1 H2) : Ex H H2 := fun x o h => b x o (a x o h)
theorem Ex.new {H : Hp} {p : Addr} {o : HO} (h : H p = none) : Ex H (upd H p o) := fun a u e => by
  rw [upd_ne (ne_of_none e h)]; exact e
theorem ex_l {K : PySem.W.Frag} {H H' : Hp} {a : Addr} {xs : List V} (e : Ex H H') (h : SqL K H a xs) : SqL K H' a xs := by
  rcases h with (h | ⟨o, h⟩) | h
  · exact .inl (.inl (e _ _ h))
  · exact .inl (.inr ⟨o, e _ _ h⟩)
  · exact .inr h
theorem ex_t {K : PySem.W.Frag} {H H' : Hp} {a : Addr} {xs : List V} (e : Ex H H') (h : SqT K H a xs) : SqT K H' a xs := by
  rcases h with (h | ⟨o, h⟩) | h
  · exact .inl (.inl (e _ _ h))
  · exact .inl (.inr ⟨o, e _ _ h⟩)
  · exact .inr h

/-- a dict's key: an int, a text, or a tuple of them -/
inductive Ky where
  | k (x : Key) | t (xs : List Key)
/-- the dict object o has the keys ks and the values vs -/
def DctIs (o : HO) (ks : List Ky) (vs : List V) : Prop :=
  (∃ kvs : List (Key × V), o = .dK kvs ∧ ks = kvs.map (fun p => Ky.k p.1) ∧ vs = kvs.map (·.2)) ∨ ∃ kvs : List (List Key × V), o = .dT kvs ∧ ks = kvs.map (fun p => Ky.t p.1) ∧ vs = kvs.map (·.2)
/-- the class that the module calls nm -/
def ClsAt (K : PySem.W.Frag) (nm : Str) (C : Addr) : Prop := PySem.W.nsIn K mainGlobals nm = some (some (.ref C))
/-- data that no longer changes (fro: a list that is read only) -/
inductive D where
  | non | bl (b : Bool) | int (i : Int) | str (s : Str) | ty (n : String) | ref (a : Addr)
  | tup (xs : List D) | lst (xs : List D) | fro (xs : List D) | dct (kvs : List (Ky × D)) | ins (nm : Str) (fs : List (Str × D))
/-- data, or a place that may change -/
inductive DV where
  | dat (d : D) | loc (n : Nat)
/-- what stands at a place -/
inductive Pl where
  | lst (xs : List DV) | dct (kvs : List (Ky × DV)) | own | ins (nm : Str) (fs : List (Str × DV)) | gone
/-- what an expression gives: data, a place, a new list, a new dict -/
inductive R where
  | dat (d : D) | loc (n : Nat) | nl (xs : List DV) | nk (kvs : List (Ky × DV))
abbrev Mem := List Pl
abbrev Env := List (Option DV)
abbrev Pm := Nat → Option Addr
structure Xc where
  nm : Str
  fs : List (Str × D)
inductive Res (α : Type) where
  | ok (a : α) (μ : Mem) | exc (x : Xc) (μ : Mem) | bad
def Res.bind {α β : Type} (r : Res α) (k : α → Mem → Res β) : Res β := match r with
  | .ok a μ => k a μ
  | .exc x μ => .exc x μ
  | .bad => .bad
@[simp] theorem Res.bind_ok {α β : Type} (a : α) (μ : Mem) (k : α → Mem → Res β) : (Res.ok a μ).bind k = k a μ := rfl
@[simp] theorem Res.bind_exc {α β : Type} (x : Xc) (μ : Mem) (k : α → Mem → Res β) : (Res.exc x μ).bind k = .exc x μ := rfl
@[simp] theorem Res.bind_bad {α β : Type} (k : α → Mem → Res β) : (Res.bad).bind k = .bad := rfl

mutual
inductive Rp (K : PySem.W.Frag) (G : Hp) : V → D → Prop
  | non : Rp K G .non .non
  | bl (b) : Rp K G (.bl b) (.bl b)
  | int (i) : Rp K G (.int i) (.int i)
  | str (s) : Rp K G (.str s) (.str s)
  | ty (n) : Rp K G (.ty n) (.ty n)
  | ref (a) : Rp K G (.ref a) (.ref a)
  | tup {a vs ds} : SqT K G a vs → RpL K G vs ds → Rp K G (.ref a) (.tup ds)
  | lst {a vs ds} : G a = some (.lst vs) → RpL K G vs ds → Rp K G (.ref a) (.lst ds)
  | fro {a vs ds} : SqL K G a vs → RpL K G vs ds → Rp K G (.ref a) (.fro ds)
  | dct {a o u vs} {ds : List (Ky × D)} : G a = some (.frz o u) → DctIs u (ds.map (·.1)) vs →
      RpL K G vs (ds.map (·.2)) → Rp K G (.ref a) (.dct ds)
  | ins {a dx C nm} {vs : List (Str × V)} {ds : List (Str × D)} : ClsAt K nm C → G a = some (.ins C dx vs) → G dx = some (.own a) →
      vs.map (·.1) = ds.map (·.1) → RpL K G (vs.map (·.2)) (ds.map (·.2)) → Rp K G (.ref a) (.ins nm ds)
inductive RpL (K : PySem.W.Frag) (G : Hp) : List V → List D → Prop
  | nil : RpL K G [] []
  | cons {v vs d ds} : Rp K G v d → RpL K G vs ds → RpL K G (v :: vs) (d :: ds)
end
section
variable {K : PySem.W.Frag} {G G' H H' : Hp} {ρ ρ' : Pm}
mutual
theorem Rp.mono (e : Ex G G') : ∀ {v : V} {d : D}, Rp K G v d → Rp K G' v d
  | _, _, .non => .non
  | _, _, .bl b => .bl b
  | _, _, .int i => .int i
  | _, _, .str s => .str s
  | _, _, .ty n => .ty n
  | _, _, .ref a => .ref a
  | _, _, .tup h r => .tup (ex_t e h) (RpL.mono e r)
  | _, _, .lst h r => .lst (e _ _ h) (RpL.mono e r)
  | _, _, .fro h r => .fro (ex_l e h) (RpL.mono e r)
  | _, _, .dct h k r => .dct (e _ _ h) k (RpL.mono e r)
  | _, _, .ins c h o k r => .ins c (e _ _ h) (e _ _ o) k (RpL.mono e r)
theorem RpL.mono (e : Ex G G') : ∀ {vs : List V} {ds : List D}, RpL K G vs ds → RpL K G' vs ds
  | _, _, .nil => .nil
  | _, _, .cons a b => .cons (Rp.mono e a) (RpL.mono e b)
end
theorem RpL.length : ∀ {vs : List V} {ds : List D}, RpL K G vs ds → vs.length = ds.length
  | _, _, .nil => rfl
  | _, _, .cons _ b => congrArg (· + 1) (RpL.length b)
theorem RpL.get : ∀ {vs : List V} {ds : List D} {i : Nat} {v : V}, RpL K G vs ds → vs[i]? = some v → ∃ d, ds[i]? = some d ∧ Rp K G v d
  | _, _, _, _, .nil, h => by simp at h
  | _, _, 0, _, .cons a _, h => by cases h; exact ⟨_, rfl, a⟩
  | _, _, i + 1, v, .cons _ b, h => RpL.get (i := i) b h
theorem RpL.get' : ∀ {vs : List V} {ds : List D} {i : Nat} {d : D}, RpL K G vs ds → ds[i]? = some d → ∃ v, vs[i]? = some v ∧ Rp K G v d
  | _, _, _, _, .nil, h => by simp at h
  | _, _, 0, _, .cons a _, h => by cases h; exact ⟨_, rfl, a⟩
  | _, _, i + 1, v, .cons _ b, h => RpL.get' (i := i) b h
theorem RpL.take : ∀ {vs : List V} {ds : List D} (n : Nat), RpL K G vs ds → RpL K G (vs.take n) (ds.take n)
  | _, _, 0, _ => .nil
  | _, _, _ + 1, .nil => .nil
  | _, _, n + 1, .cons a b => .cons a (RpL.take n b)
theorem RpL.drop : ∀ {vs : List V} {ds : List D} (n : Nat), RpL K G vs ds → RpL K G (vs.drop n) (ds.drop n)
  | _, _, 0, r => r
  | _, _, _ + 1, .nil => .nil
  | _, _, n + 1, .cons _ b => RpL.drop n b
theorem RpL.append : ∀ {vs ws : List V} {ds es : List D}, RpL K G vs ds → RpL K G ws es → RpL K G (vs ++ ws) (ds ++ es)
  | _, _, _, _, .nil, r => r
  | _, _, _, _, .cons a b, r => .cons a (RpL.append b r)

def DvOk (K : PySem.W.Frag) (ρ : Pm) (G : Hp) (v : V) : DV → Prop
  | .dat d => Rp K G v d
  | .loc n => ∃ a, v = .ref a ∧ ρ n = some a
abbrev DvL (K : PySem.W.Frag) (ρ : Pm) (G : Hp) : List V → List DV → Prop := Paired (DvOk K ρ G)
def DV.below (n : Nat) : DV → Prop
  | .dat _ => True
  | .loc m => m < n
theorem DvOk.mono (e : Ex G G') (hρ : ∀ n a, ρ n = some a → ρ' n = some a) {v : V} : ∀ {x : DV}, DvOk K ρ G v x → DvOk K ρ' G' v x
  | .dat _, h => Rp.mono e h
  | .loc _, ⟨a, h, q⟩ => ⟨a, h, hρ _ _ q⟩
theorem DvL.mono (e : Ex G G') (hρ : ∀ n a, ρ n = some a → ρ' n = some a) {vs : List V} {xs : List DV} (h : DvL K ρ G vs xs) : DvL K ρ' G' vs xs :=
  Paired.mapP h fun _ _ q => q.mono e hρ
def PlOk (K : PySem.W.Frag) (ρ : Pm) (G H : Hp) (n : Nat) : Pl → Prop
  | .lst xs => (∀ x ∈ xs, x.below n) ∧ ∃ a vs, ρ n = some a ∧ H a = some (.lst vs) ∧ DvL K ρ G vs xs
  | .dct kvs => (∀ p ∈ kvs, p.2.below n) ∧ ∃ (a : Addr) (o : HO) (vs : List V), ρ n = some a ∧ H a = some o ∧
      DctIs o (kvs.map (·.1)) vs ∧ DvL K ρ G vs (kvs.map (·.2))
  | .own => ∃ a b, ρ n = some a ∧ H a = some (.own b)
  | .ins nm fs => (∀ p ∈ fs, p.2.below n) ∧ ∃ (a dx C : Addr) (vs : List (Str × V)) (m : Nat), (n = m + 1 ∧ ρ m = some dx) ∧ ρ n = some a ∧ H a = some (.ins C dx vs) ∧ ClsAt K nm C ∧ H dx = some (.own a) ∧
      vs.map (·.1) = fs.map (·.1) ∧ DvL K ρ G (vs.map (·.2)) (fs.map (·.2))
  | .gone => ρ n = none
/-- the places and the data as they stand in the heap -/
structure Rel (K : PySem.W.Frag) (ρ : Pm) (G H : Hp) (μ : Mem) : Prop where
  ex : Ex G H
  inj : ∀ m n a, ρ m = some a → ρ n = some a → m = n
  nG : ∀ n a, ρ n = some a → G a = none
  lt : ∀ n a, ρ n = some a → n < μ.length
  hs : ∀ n a, ρ n = some a → H a ≠ none
  pl : ∀ n p, μ[n]? = some p → PlOk K ρ G H n p
/-- from one heap to a later one: data stays, only places change -/
structure Tr (ρ : Pm) (G H G' H' : Hp) : Prop where
  exG : Ex G G'
  keep : ∀ a o, (∀ n, ρ n ≠ some a) → H a = some o → H' a = some o
  th : ∀ a, H' a = none → H a = none
  nG : ∀ a, G' a ≠ none → G a ≠ none ∨ H a = none
theorem Tr.refl (ρ : Pm) (G H : Hp) : Tr ρ G H G H := ⟨Ex.refl _, fun _ _ _ h => h, fun _ h => h, fun _ h => .inl h⟩
theorem Tr.trans {G1 H1 G2 H2 : Hp} (a : Tr ρ G H G1 H1) (b : Tr ρ G1 H1 G2 H2) : Tr ρ G H G2 H2 where
  exG := a.exG.trans b.exG
  keep := fun c o hc h => b.keep c o hc (a.keep c o hc h)
  th := fun c h => a.th c (b.th c h)
  nG := fun c h => (b.nG c h).elim (a.nG c) fun q => .inr (a.th c q)
theorem Rel.pmono {G1 : Hp} {μ : Mem} (r : Rel K ρ G H μ) {n : Nat} {p : Pl} (h : PlOk K ρ G H n p) (e : Ex G G1) : PlOk K ρ G1 H n p := by
  cases p with
  | lst xs => obtain ⟨b, a, vs, h1, h2, h3⟩ := h; exact ⟨b, a, vs, h1, h2, DvL.mono e (fun _ _ q => q) h3⟩
  | dct kvs => obtain ⟨b, a, o, vs, h1, h2, h4, h3⟩ := h; exact ⟨b, a, o, vs, h1, h2, h4, DvL.mono e (fun _ _ q => q) h3⟩
  | own => exact h
  | ins nm fs => obtain ⟨b, a, dx, C, vs, m, hm, h1, h2, c, h4, h5, h3⟩ := h; exact ⟨b, a, dx, C, vs, m, hm, h1, h2, c, h4, h5, DvL.mono e (fun _ _ q => q) h3⟩
  | gone => exact h
/-- a new object is laid (and is not looked at) -/
theorem Rel.lay {μ : Mem} {p : Addr} {o : HO} (r : Rel K ρ G H μ) (hp : H p = none) : Rel K ρ G (upd H p o) μ ∧ Tr ρ G H G (upd H p o) := by
  have nG : G p = none := by
    cases q : G p with
    | none => rfl
    | some u => rw [r.ex _ _ q] at hp; cases hp
  have ne : ∀ a u, H a = some u → a ≠ p := fun a u h e => by rw [e, hp] at h; cases h
  refine ⟨⟨fun a u h => ?_, r.inj, r.nG, r.lt, fun n a h q => ?_, fun n q h => ?_⟩, ⟨Ex.refl _, fun a u _ h => ?_, fun a h => ?_, fun a h => .inl h⟩⟩
  · rw [upd_ne (ne a u (r.ex a u h))]; exact r.ex a u h
  · have z := r.hs n a h
    by_cases e : a = p
    · rw [e] at z; exact z hp
    · rw [upd_ne e] at q; exact z q
  · have z := r.pl n q h
    cases q with
    | lst xs => obtain ⟨b, a, vs, h1, h2, h3⟩ := z; exact ⟨b, a, vs, h1, by rw [upd_ne (ne _ _ h2)]; exact h2, h3⟩
    | dct kvs => obtain ⟨b, a, o, vs, h1, h2, h3⟩ := z; exact ⟨b, a, o, vs, h1, by rw [upd_ne (ne _ _ h2)]; exact h2, h3⟩
    | own => obtain ⟨a, b, h1, h2⟩ := z; exact ⟨a, b, h1, by rw [upd_ne (ne _ _ h2)]; exact h2⟩
    | ins nm fs => obtain ⟨b, a, dx, C, vs, m, hm, h1, h2, c, h4, h3⟩ := z; exact ⟨b, a, dx, C, vs, m, hm, h1, by rw [upd_ne (ne _ _ h2)]; exact h2, c, by rw [upd_ne (ne _ _ h4)]; exact h4, h3⟩
    | gone => exact z
  · rw [upd_ne (ne a u h)]; exact h
  · by_cases e : a = p
    · rw [e]; exact hp
    · rw [upd_ne e] at h; exact h
/-- an object that stands, is no place and was new at H0, is taken for data -/
theorem Rel.freeze {H0 G0 : Hp} {μ : Mem} {p : Addr} {o : HO} (r : Rel K ρ G H μ) (t : Tr ρ G0 H0 G H) (h : H p = some o) (h0 : H0 p = none) (hg : G p = none) (hn : ∀ n, ρ n ≠ some p) :
    Rel K ρ (upd G p o) H μ ∧ Tr ρ G0 H0 (upd G p o) H ∧ Ex G (upd G p o) := by
  have ex : Ex G (upd G p o) := Ex.new hg
  refine ⟨⟨fun a u q => ?_, r.inj, fun n a q => ?_, r.lt, r.hs, fun n q z => r.pmono (r.pl n q z) ex⟩, ⟨t.exG.trans ex, t.keep, t.th, fun a q => ?_⟩, ex⟩
  · by_cases e : a = p
    · subst e; rw [upd_same] at q; cases q; exact h
    · rw [upd_ne e] at q; exact r.ex a u q
  · have e : a ≠ p := fun e => hn n (e ▸ q)
    rw [upd_ne e]; exact r.nG n a q
  · by_cases e : a = p
    · subst e; exact .inr h0
    · rw [upd_ne e] at q; exact t.nG a q
/-- a new object is laid and taken for data -/
theorem Rel.layD {μ : Mem} {p : Addr} {o : HO} (r : Rel K ρ G H μ) (hp : H p = none) : Rel K ρ (upd G p o) (upd H p o) μ ∧ Tr ρ G H (upd G p o) (upd H p o) ∧ Ex G (upd G p o) := by
  have nG : G p = none := by
    cases q : G p with
    | none => rfl
    | some u => rw [r.ex _ _ q] at hp; cases hp
  obtain ⟨r1, t1⟩ := r.lay (o := o) hp
  exact r1.freeze t1 upd_same hp nG fun n q => r.hs n p q hp
end
end DL
namespace DL
open PySem PySem.Spec PyProof.Rows L2

/-- the slots hold what the environment says -/
structure EnvOk (K : PySem.W.Frag) (ρ : Pm) (G : Hp) (σ : Slots) (δ : Env) : Prop where
  len : σ.length = δ.length
  at_ : ∀ (i : Nat) (x : DV), δ[i]? = some (some x) → ∃ v, σ[i]? = some (some v) ∧ DvOk K ρ G v x
def RpR (K : PySem.W.Frag) (ρ : Pm) (G H0 H : Hp) (v : V) : R → Prop
  | .dat d => Rp K G v d
  | .loc n => ∃ a, v = .ref a ∧ ρ n = some a
  | .nl xs => ∃ a vs, v = .ref a ∧ H a = some (.lst vs) ∧ DvL K ρ G vs xs ∧ G a = none ∧ (∀ n, ρ n ≠ some a) ∧ H0 a = none
  | .nk kvs => ∃ (a : Addr) (o : HO) (vs : List V), v = .ref a ∧ H a = some o ∧ DctIs o (kvs.map (·.1)) vs ∧
      DvL K ρ G vs (kvs.map (·.2)) ∧ G a = none ∧ (∀ n, ρ n ≠ some a) ∧ H0 a = none
def XcOk (K : PySem.W.Frag) (G H : Hp) (x : Xc) (cls : Value) (d : Option Addr) : Prop :=
  (∃ C, ClsAt K x.nm C ∧ cls = .ref C) ∧ ((x.fs = [] ∧ d = none) ∨ ∃ (a : Addr) (vs : List (Str × V)), d = some a ∧ H a = some (.xd vs) ∧
    vs.map (·.1) = x.fs.map (·.1) ∧ RpL K G (vs.map (·.2)) (x.fs.map (·.2)))
def PostG {α β : Type} (K : PySem.W.Frag) (W : WX) (ρ : Pm) (G H : Hp) (σ : Slots) (rp : Hp → Hp → β → α → Prop) (Q : β → Hp → Prop) : Res α → Prop
  | .ok r μ' => ∀ G' H' v, Tr ρ G H G' H' → Rel K ρ G' H' μ' → rp G' H' v r → Q v H'
  | .exc x μ' => ∀ G' H' cls d, Tr ρ G H G' H' → Rel K ρ G' H' μ' → XcOk K G' H' x cls d → W cls d σ H'
  | .bad => False
/-- f tells what t does -/
def SndG {α β : Type} (K : PySem.W.Frag) (W : WX) (t : Slots → Hp → (β → Hp → Prop) → Prop) (f : Env → Mem → Res α)
    (rp : Pm → Hp → Hp → Hp → β → α → Prop) : Prop :=
  ∀ (ρ : Pm) (G H : Hp) (σ : Slots) (δ : Env) (μ : Mem) (Q : β → Hp → Prop), Rel K ρ G H μ → EnvOk K ρ G σ δ →
    PostG K W ρ G H σ (fun G' H' => rp ρ G' H H') Q (f δ μ) → t σ H Q
abbrev rpE (K : PySem.W.Frag) : Pm → Hp → Hp → Hp → V → R → Prop := fun ρ G' H H' v r => RpR K ρ G' H H' v r
abbrev rpV (K : PySem.W.Frag) : Pm → Hp → Hp → Hp → V → DV → Prop := fun ρ G' _ _ v x => DvOk K ρ G' v x
abbrev rpA (K : PySem.W.Frag) : Pm → Hp → Hp → Hp → List V → List DV → Prop := fun ρ G' _ _ v x => DvL K ρ G' v x
abbrev rpT {α : Type} : Pm → Hp → Hp → Hp → α → α → Prop := fun _ _ _ _ v x => v = x
abbrev EM := Env → Mem → Res R
abbrev VM := Env → Mem → Res DV
abbrev AM := Env → Mem → Res (List DV)
abbrev TM := Env → Mem → Res Bool
abbrev SndE (K : PySem.W.Frag) (W : WX) (t : TE) (f : EM) : Prop := SndG K W t f (rpE K)
abbrev SndV (K : PySem.W.Frag) (W : WX) (t : TE) (f : VM) : Prop := SndG K W t f (rpV K)
abbrev SndA (K : PySem.W.Frag) (W : WX) (t : TA) (f : AM) : Prop := SndG K W t f (rpA K)
abbrev SndT (K : PySem.W.Frag) (W : WX) (t : TT) (f : TM) : Prop := SndG K W t f rpT

section
variable {K : PySem.W.Frag} {W : WX} {ρ : Pm} {G H G1 H1 : Hp} {σ : Slots} {δ : Env} {μ : Mem}
theorem EnvOk.mono (e : EnvOk K ρ G σ δ) (x : Ex G G1) : EnvOk K ρ G1 σ δ :=
  ⟨e.len, fun i d h => let ⟨v, a, b⟩ := e.at_ i d h; ⟨v, a, b.mono x fun _ _ q => q⟩⟩
theorem RpR.back {G' H' : Hp} {v : V} (h : ∀ a, H1 a = none → H a = none) : ∀ {r : R}, RpR K ρ G' H1 H' v r → RpR K ρ G' H H' v r
  | .dat _, q => q
  | .loc _, q => q
  | .nl _, ⟨a, vs, h1, h2, h3, h4, h5, h6⟩ => ⟨a, vs, h1, h2, h3, h4, h5, h a h6⟩
  | .nk _, ⟨a, o, vs, h1, h2, h2', h3, h4, h5, h6⟩ => ⟨a, o, vs, h1, h2, h2', h3, h4, h5, h a h6⟩
theorem PostG.shift {α β : Type} {rp rp1 : Hp → Hp → β → α → Prop} {Q : β → Hp → Prop} {out : Res α} (t : Tr ρ G H G1 H1)
    (hr : ∀ G' H' v r, rp1 G' H' v r → rp G' H' v r) (h : PostG K W ρ G H σ rp Q out) : PostG K W ρ G1 H1 σ rp1 Q out := by
  cases out with
  | ok r μ' => exact fun G' H' v t' R' q => h G' H' v (t.trans t') R' (hr _ _ _ _ q)
  | exc x μ' => exact fun G' H' cls d t' R' q => h G' H' cls d (t.trans t') R' q
  | bad => exact h
theorem PostG.shiftE {Q : VK} {out : Res R} (t : Tr ρ G H G1 H1) (h : PostG K W ρ G H σ (fun G' H' => rpE K ρ G' H H') Q out) :
    PostG K W ρ G1 H1 σ (fun G' H' => rpE K ρ G' H1 H') Q out := h.shift t fun _ _ _ _ q => q.back t.th
/-- what comes next of what came first -/
theorem SndG.seq {α α' β β' : Type} {t : Slots → Hp → (β → Hp → Prop) → Prop} {f : Env → Mem → Res α} {rp : Pm → Hp → Hp → Hp → β → α → Prop}
    (h : SndG K W t f rp) (R : Rel K ρ G H μ) (E : EnvOk K ρ G σ δ) {rp' : Hp → Hp → β' → α' → Prop} {Q' : β' → Hp → Prop} {k : α → Mem → Res α'}
    (hp : PostG K W ρ G H σ rp' Q' ((f δ μ).bind k)) {Q : β → Hp → Prop}
    (go : ∀ r μ' G' H' v, Tr ρ G H G' H' → Rel K ρ G' H' μ' → EnvOk K ρ G' σ δ → rp ρ G' H H' v r → PostG K W ρ G H σ rp' Q' (k r μ') → Q v H') : t σ H Q := by
  refine h ρ G H σ δ μ Q R E ?_
  cases e : f δ μ with
  | ok r μ' => rw [e] at hp; exact fun G' H' v t' R' q => go r μ' G' H' v t' R' (E.mono t'.exG) q hp
  | exc x μ' => rw [e] at hp; exact hp
  | bad => rw [e] at hp; exact hp

/-! ### freezing -/
def allDat : List DV → Option (List D)
  | [] => some []
  | .dat d :: xs => (allDat xs).map (d :: ·)
  | .loc _ :: _ => none
def frz : R → Option DV
  | .dat d => some (.dat d)
  | .loc n => some (.loc n)
  | .nl xs => (allDat xs).map fun ds => .dat (.lst ds)
  | .nk _ => none
theorem allDat_map (ds : List D) : allDat (ds.map DV.dat) = some ds := by
  induction ds with
  | nil => rfl
  | cons d r ih => simp [allDat, ih]
theorem allDat_ok : ∀ {xs : List DV} {ds : List D} {vs : List V}, allDat xs = some ds → DvL K ρ G vs xs → RpL K G vs ds
  | [], _, _, h, r => by cases h; cases r; exact .nil
  | .dat d :: xs, ds, vs, h, r => by
    cases r with
    | cons r1 r2 =>
      simp only [allDat] at h
      cases e : allDat xs with
      | none => rw [e] at h; cases h
      | some es => rw [e] at h; cases h; exact .cons r1 (allDat_ok e r2)
  | .loc _ :: _, _, _, h, _ => by cases h
theorem allDat_len : ∀ {xs : List DV} {ds : List D}, allDat xs = some ds → xs.length = ds.length
  | [], _, h => by cases h; rfl
  | .dat d :: xs, ds, h => by
    simp only [allDat] at h
    cases e : allDat xs with
    | none => rw [e] at h; cases h
    | some es => rw [e] at h; cases h; simp [allDat_len e]
  | .loc _ :: _, _, h => by cases h
def frzV (f : EM) : VM := fun δ μ => (f δ μ).bind fun r μ' => match frz r with
  | some x => .ok x μ'
  | none => .bad
theorem RpR.frz {G0 H0 : Hp} {v : V} {r : R} {x : DV} (h : RpR K ρ G H0 H v r) (R : Rel K ρ G H μ) (t : Tr ρ G0 H0 G H) (e : frz r = some x) :
    ∃ G', Tr ρ G0 H0 G' H ∧ Rel K ρ G' H μ ∧ DvOk K ρ G' v x ∧ Ex G G' := by
  cases r with
  | dat d => cases e; exact ⟨G, t, R, h, Ex.refl _⟩
  | loc n => cases e; exact ⟨G, t, R, h, Ex.refl _⟩
  | nl xs =>
    obtain ⟨a, vs, rfl, h2, h3, h4, h5, h6⟩ := h
    simp only [DL.frz] at e
    cases q : allDat xs with
    | none => rw [q] at e; cases e
    | some ds =>
      rw [q] at e; cases e
      obtain ⟨R', t', ex⟩ := R.freeze t h2 h6 h4 h5
      exact ⟨_, t', R', Rp.lst upd_same (RpL.mono ex (allDat_ok q h3)), ex⟩
  | nk kvs => cases e
theorem SndE.toV {t : TE} {f : EM} (h : SndE K W t f) : SndV K W t (frzV f) := fun ρ G H σ δ μ Q R E hp => by
  refine SndG.seq (t := t) h R E hp fun r μ' G' H' v t' R' E' q hp' => ?_
  cases e : frz r with
  | none => rw [e] at hp'; exact hp'.elim
  | some x =>
    rw [e] at hp'
    obtain ⟨G2, t2, R2, d2, _⟩ := RpR.frz q R' t' e
    exact hp' G2 H' v t2 R2 d2
def ofV (x : DV) : R := match x with
  | .dat d => .dat d
  | .loc n => .loc n
theorem RpR.ofV {H0 : Hp} {v : V} {x : DV} (h : DvOk K ρ G v x) : RpR K ρ G H0 H v (ofV x) := by
  cases x <;> exact h
end
/-- an expression, its reading, its function -/
structure PM (X : Cx) (W : WX) (e : Expr) (te : TE) (f : EM) : Prop where
  pe : PE X e te
  sd : SndE X.K W te f
structure PMA (X : Cx) (W : WX) (es : List Expr) (ta : TA) (f : AM) : Prop where
  pe : PA X es ta
  sd : SndA X.K W ta f
structure PMT (X : Cx) (W : WX) (e : Expr) (tt : TT) (f : TM) : Prop where
  pe : PT X e tt
  sd : SndT X.K W tt f
section
variable {X : Cx} {W : WX}
/-! ### names, constants, argument lists, displays -/
def eVar (i : Nat) : EM := fun δ μ => match δ[i]? with
  | some (some x) => .ok (ofV x) μ
  | _ => .bad
def eD (d : D) : EM := fun _ μ => .ok (.dat d) μ
theorem snd_var {K : PySem.W.Frag} (i : Nat) : SndE K W (tVar i) (eVar i) := fun ρ G H σ δ μ Q R E hp => by
  unfold eVar at hp
  match e : δ[i]? with
  | none => rw [e] at hp; exact hp.elim
  | some none => rw [e] at hp; exact hp.elim
  | some (some x) =>
    rw [e] at hp
    obtain ⟨v, hv, d⟩ := E.at_ i x e
    exact ⟨v, hv, hp G H v (Tr.refl _ _ _) R (RpR.ofV d)⟩
theorem snd_c {K : PySem.W.Frag} {v : V} {d : D} (h : ∀ G, Rp K G v d) : SndE K W (tC v) (eD d) := fun ρ G H σ δ μ Q R E hp =>
  hp G H v (Tr.refl _ _ _) R (h G)
theorem pm_var (i : Nat) {x : Str} {pos : Pos} (hN : X.N[i]? = some x := by rfl) (hv : Vis X.env.scope x := by first | exact Or.inl rfl | exact Or.inr (Or.inl rfl) | exact Or.inr (Or.inr rfl))
    (hd : (x == ("__debug__" : Str)) = false := by decide) (hcd : (x == ("__classdict__" : Str)) = false := by decide) : PM X W (.Name x pos) (tVar i) (eVar i) := ⟨pe_var hN hv hd hcd, snd_var i⟩
theorem pm_int {i j pos} : PM X W (.Constant (.int i) j pos) (tC (.int i)) (eD (.int i)) := ⟨pe_int, snd_c fun _ => .int i⟩
theorem pm_str {s j pos} : PM X W (.Constant (.str s) j pos) (tC (.str s)) (eD (.str s)) := ⟨pe_str, snd_c fun _ => .str s⟩
theorem pm_bl {b j pos} : PM X W (.Constant (.bool b) j pos) (tC (.bl b)) (eD (.bl b)) := ⟨pe_bl, snd_c fun _ => .bl b⟩
theorem pm_non {j pos} : PM X W (.Constant .none j pos) (tC .non) (eD .non) := ⟨pe_non, snd_c fun _ => .non⟩
/-- a module's own tuple, list, class: known in every heap -/
theorem pm_glob {x : Str} {v : V} {u : Value} {pos : Pos} {d : D} (hg : Gl X x) (hm : X.mg x = some u) (r : RelV v u) (h : ∀ G, Rp X.K G v d) (hd : (x == ("__debug__" : Str)) = false := by decide) : PM X W (.Name x pos) (tC v) (eD d) := ⟨pe_glob hg hm r hd, snd_c h⟩
def aNil : AM := fun _ μ => .ok [] μ
def aCons (f : EM) (g : AM) : AM := fun δ μ => (frzV f δ μ).bind fun x μ1 => (g δ μ1).bind fun xs μ2 => .ok (x :: xs) μ2
theorem snd_nil {K : PySem.W.Frag} : SndA K W tNil aNil := fun ρ G H σ δ μ Q R E hp => hp G H [] (Tr.refl _ _ _) R .nil
theorem snd_cons {K : PySem.W.Frag} {t : TE} {ts : TA} {f : EM} {g : AM} (h : SndE K W t f) (hs : SndA K W ts g) : SndA K W (tCons t ts) (aCons f g) := fun ρ G H σ δ μ Q R E hp => by
  refine SndG.seq (t := t) h.toV R E hp fun x μ1 G1 H1 v t1 R1 E1 d1 hp1 => ?_
  refine SndG.seq (t := ts) hs R1 E1 (hp1.shift t1 fun _ _ _ _ q => q) fun xs μ2 G2 H2 vs t2 R2 E2 d2 hp2 => ?_
  exact hp2 G2 H2 (v :: vs) t2 R2 (.cons (d1.mono t2.exG fun _ _ q => q) d2)
theorem pma_nil : PMA X W [] tNil aNil := ⟨pa_nil, snd_nil⟩
theorem pma_cons {e : Expr} {es : List Expr} {t : TE} {ts : TA} {f : EM} {g : AM} (h : PM X W e t f) (hs : PMA X W es ts g) (hst : starEach (e :: es) X.env = (false, eval e X.env) :: starEach es X.env := by rfl) : PMA X W (e :: es) (tCons t ts) (aCons f g) :=
  ⟨pa_cons h.pe hs.pe hst, snd_cons h.sd hs.sd⟩
def eTup (g : AM) : EM := fun δ μ => (g δ μ).bind fun xs μ1 => match allDat xs with
  | some ds => if ds.length ≤ sizeLine then .ok (.dat (.tup ds)) μ1 else .bad
  | none => .bad
def eLst (g : AM) : EM := fun δ μ => (g δ μ).bind fun xs μ1 => if xs.length ≤ sizeLine then .ok (.nl xs) μ1 else .bad
theorem pm_tup {es : List Expr} {x1} {pos : Pos} {ts : TA} {g : AM} (h : PMA X W es ts g) : PM X W (.Tuple es x1 pos) (tTup ts) (eTup g) := ⟨pe_tup h.pe, fun ρ G H σ δ μ Q R E hp => by
  refine SndG.seq (t := ts) h.sd R E hp fun xs μ1 G1 H1 vs t1 R1 E1 d1 hp1 => ?_
  match e : allDat xs with
  | none => simp only [e] at hp1; exact hp1.elim
  | some ds =>
    simp only [e] at hp1
    have rl := allDat_ok e d1
    by_cases hz : ds.length ≤ sizeLine
    · rw [if_pos hz] at hp1
      refine ⟨by rw [rl.length]; exact hz, fun p hn => ?_⟩
      obtain ⟨R2, t2, ex⟩ := R1.layD (o := .tup vs) hn
      exact hp1 _ _ _ (t1.trans t2) R2 (Rp.tup (.inl (.inl upd_same)) (rl.mono ex))
    · rw [if_neg hz] at hp1; exact hp1.elim⟩
theorem fresh_ne {K : PySem.W.Frag} {ρ : Pm} {G H : Hp} {μ : Mem} {p : Addr} (R : Rel K ρ G H μ) (hp : H p = none) : G p = none ∧ ∀ n, ρ n ≠ some p := by
  refine ⟨?_, fun n q => R.hs n p q hp⟩
  cases q : G p with
  | none => rfl
  | some u => rw [R.ex _ _ q] at hp; cases hp
theorem paired_len {α β : Type} {P : α → β → Prop} : ∀ {l : List α} {m : List β}, Paired P l m → l.length = m.length
  | _, _, .nil => rfl
  | _, _, .cons _ t => congrArg (· + 1) (paired_len t)
/-- a new list is laid at p -/
theorem new_list {K : PySem.W.Frag} {ρ : Pm} {G H G0 H0 : Hp} {μ : Mem} {p : Addr} {vs : List V} {xs : List DV} {σ : Slots} {Q : VK} (R : Rel K ρ G H μ) (t : Tr ρ G0 H0 G H) (hn : H p = none) (d : DvL K ρ G vs xs)
    (hp : PostG K W ρ G0 H0 σ (fun G' H' => rpE K ρ G' H0 H') Q (.ok (.nl xs) μ)) : Q (.ref p) (upd H p (.lst vs)) := by
  obtain ⟨R2, t2⟩ := R.lay (o := .lst vs) hn
  obtain ⟨n1, n2⟩ := fresh_ne R hn
  exact hp _ _ _ (t.trans t2) R2 ⟨p, vs, rfl, upd_same, d, n1, n2, t.th p hn⟩
theorem pm_lst {es : List Expr} {pos : Pos} {ts : TA} {g : AM} (h : PMA X W es ts g) : PM X W (.List es pos) (tLst ts) (eLst g) := ⟨pe_lst h.pe, fun ρ G H σ δ μ Q R E hp => by
  refine SndG.seq (t := ts) h.sd R E hp fun xs μ1 G1 H1 vs t1 R1 E1 d1 hp1 => ?_
  by_cases hz : xs.length ≤ sizeLine
  · rw [if_pos hz] at hp1
    exact ⟨by rw [paired_len d1]; exact hz, fun p hn => new_list R1 t1 hn d1 hp1⟩
  · rw [if_neg hz] at hp1; exact hp1.elim⟩
/-! ### operators and calls by their values -/
/-- r is what g tells of two values -/
def OpD (K : PySem.W.Frag) (r : R2) (g : DV → DV → Mem → Res R) : Prop := ∀ (W : WX) (ρ : Pm) (G H : Hp) (σ : Slots) (μ : Mem) (v w : V) (x y : DV) (Q : VK), Rel K ρ G H μ → DvOk K ρ G v x → DvOk K ρ G w y →
  PostG K W ρ G H σ (fun G' H' => rpE K ρ G' H H') Q (g x y μ) → r v w H Q
def eOp (g : DV → DV → Mem → Res R) (fa fb : EM) : EM := fun δ μ => (frzV fa δ μ).bind fun x μ1 => (frzV fb δ μ1).bind fun y μ2 => g x y μ2
theorem snd_op {K : PySem.W.Frag} {r : R2} {g : DV → DV → Mem → Res R} {ta tb : TE} {fa fb : EM} (ho : OpD K r g) (ha : SndE K W ta fa) (hb : SndE K W tb fb) : SndE K W (tOp r ta tb) (eOp g fa fb) := fun ρ G H σ δ μ Q R E hp => by
  refine SndG.seq (t := ta) ha.toV R E hp fun x μ1 G1 H1 v t1 R1 E1 d1 hp1 => ?_
  refine SndG.seq (t := tb) hb.toV R1 E1 (hp1.shiftE t1) fun y μ2 G2 H2 w t2 R2 E2 d2 hp2 => ?_
  exact ho W ρ G2 H2 σ μ2 v w x y Q R2 (d1.mono t2.exG fun _ _ q => q) d2 (hp2.shiftE t2)
def CallD (K : PySem.W.Frag) (r : List V → Hp → VK → Prop) (g : List DV → Mem → Res R) : Prop := ∀ (W : WX) (ρ : Pm) (G H : Hp) (σ : Slots) (μ : Mem) (vs : List V) (xs : List DV) (Q : VK), Rel K ρ G H μ → DvL K ρ G vs xs →
  PostG K W ρ G H σ (fun G' H' => rpE K ρ G' H H') Q (g xs μ) → r vs H Q
def eCB (g : List DV → Mem → Res R) (fa : AM) : EM := fun δ μ => (fa δ μ).bind fun xs μ1 => g xs μ1
theorem snd_cb {K : PySem.W.Frag} {r : List V → Hp → VK → Prop} {g : List DV → Mem → Res R} {ta : TA} {fa : AM} (ho : CallD K r g) (ha : SndA K W ta fa) : SndE K W (tCB r ta) (eCB g fa) := fun ρ G H σ δ μ Q R E hp => by
  refine SndG.seq (t := ta) ha R E hp fun xs μ1 G1 H1 vs t1 R1 E1 d1 hp1 => ?_
  exact ho W ρ G1 H1 σ μ1 vs xs Q R1 d1 (hp1.shiftE t1)
theorem pm_op {a b : Expr} {op : Operator} {r : R2} {g : DV → DV → Mem → Res R} {ta tb : TE} {fa fb : EM} {pos : Pos} (ho : OpR X (binaryOp op) r) (hd : OpD X.K r g) (ha : PM X W a ta fa) (hb : PM X W b tb fb) : PM X W (.BinOp a op b pos) (tOp r ta tb) (eOp g fa fb) :=
  ⟨pe_op ho ha.pe hb.pe, snd_op hd ha.sd hb.sd⟩
theorem pm_cmp {a b : Expr} {op : CmpOp} {r : R2} {g : DV → DV → Mem → Res R} {ta tb : TE} {fa fb : EM} {pos : Pos} (ho : OpR X (compareOp op) r) (hd : OpD X.K r g) (ha : PM X W a ta fa) (hb : PM X W b tb fb) (hm : behindInMarks op b = false) : PM X W (.Compare a [op] [b] pos) (tOp r ta tb) (eOp g fa fb) :=
  ⟨pe_cmpR ho ha.pe hb.pe hm, snd_op hd ha.sd hb.sd⟩
theorem pm_ix {a b : Expr} {r : R2} {g : DV → DV → Mem → Res R} {ta tb : TE} {fa fb : EM} {pos : Pos} (ho : IxR X r) (hd : OpD X.K r g) (ha : PM X W a ta fa) (hb : PM X W b tb fb) (hs : PlainIx b) : PM X W (.Subscript a b pos) (tOp r ta tb) (eOp g fa fb) :=
  ⟨pe_ix ho ha.pe hb.pe hs, snd_op hd ha.sd hb.sd⟩
end
end DL
namespace DL
open PySem PySem.Spec PyProof.Rows L2

inductive Out where
  | next (δ : Env) (μ : Mem) | ret (r : R) (μ : Mem) | brk (δ : Env) (μ : Mem) | cnt (δ : Env) (μ : Mem)
  | exc (x : Xc) (δ : Env) (μ : Mem) | bad
abbrev SM := Nat → Env → Mem → Out
/-- over statements: places may come and (those from N on) be taken for data -/
structure TrS (N : Nat) (ρ : Pm) (G H : Hp) (ρ' : Pm) (G' H' : Hp) : Prop where
  pre : ∀ n, n < N → ρ' n = ρ n
  exG : Ex G G'
  keep : ∀ a o, (∀ n, ρ n ≠ some a) → H a = some o → H' a = some o
  th : ∀ a, H' a = none → H a = none
  nG : ∀ a, G' a ≠ none → G a ≠ none ∨ H a = none ∨ ∃ n, N ≤ n ∧ ρ n = some a
  nρ : ∀ n a, ρ' n = some a → ρ n = some a ∨ H a = none
section
variable {K : PySem.W.Frag} {W : WX} {N : Nat} {ρ ρ1 ρ2 : Pm} {G H G1 H1 G2 H2 : Hp} {σ : Slots} {δ : Env} {μ : Mem} {D : Ends}
theorem TrS.refl (N : Nat) (ρ : Pm) (G H : Hp) : TrS N ρ G H ρ G H := ⟨fun _ _ => rfl, Ex.refl _, fun _ _ _ h => h, fun _ h => h, fun _ h => .inl h, fun _ _ h => .inl h⟩
theorem TrS.trans (a : TrS N ρ G H ρ1 G1 H1) (b : TrS N ρ1 G1 H1 ρ2 G2 H2) : TrS N ρ G H ρ2 G2 H2 where
  pre := fun n h => (b.pre n h).trans (a.pre n h)
  exG := a.exG.trans b.exG
  keep := fun c o hc h => b.keep c o (fun n q => (a.nρ n c q).elim (hc n) fun z => by rw [z] at h; cases h) (a.keep c o hc h)
  th := fun c h => a.th c (b.th c h)
  nG := fun c h => (b.nG c h).elim (a.nG c) fun q => q.elim (fun q => .inr (.inl (a.th c q))) fun ⟨n, hn, q⟩ => (a.nρ n c q).elim (fun z => .inr (.inr ⟨n, hn, z⟩)) fun z => .inr (.inl z)
  nρ := fun n c h => (b.nρ n c h).elim (a.nρ n c) fun q => .inr (a.th c q)
theorem Tr.toS (t : Tr ρ G H G1 H1) : TrS N ρ G H ρ G1 H1 :=
  ⟨fun _ _ => rfl, t.exG, t.keep, t.th, fun a h => (t.nG a h).elim .inl fun q => .inr (.inl q), fun _ _ h => .inl h⟩
def PostS (K : PySem.W.Frag) (W : WX) (N : Nat) (ρ : Pm) (G H : Hp) (D : Ends) : Out → Prop
  | .next δ' μ' => ∀ ρ' G' H' σ', TrS N ρ G H ρ' G' H' → Rel K ρ' G' H' μ' → EnvOk K ρ' G' σ' δ' → D.nx σ' H'
  | .ret r μ' => ∀ ρ' G' H' v, TrS N ρ G H ρ' G' H' → Rel K ρ' G' H' μ' → RpR K ρ' G' H H' v r → D.rt v H'
  | .brk δ' μ' => ∀ ρ' G' H' σ', TrS N ρ G H ρ' G' H' → Rel K ρ' G' H' μ' → EnvOk K ρ' G' σ' δ' → D.bk σ' H'
  | .cnt δ' μ' => ∀ ρ' G' H' σ', TrS N ρ G H ρ' G' H' → Rel K ρ' G' H' μ' → EnvOk K ρ' G' σ' δ' → D.ct σ' H'
  | .exc x δ' μ' => ∀ ρ' G' H' σ' cls d, TrS N ρ G H ρ' G' H' → Rel K ρ' G' H' μ' → EnvOk K ρ' G' σ' δ' → XcOk K G' H' x cls d → W cls d σ' H'
  | .bad => False
def SndS (K : PySem.W.Frag) (W : WX) (t : TS) (g : SM) : Prop :=
  ∀ (N : Nat) (ρ : Pm) (G H : Hp) (σ : Slots) (δ : Env) (μ : Mem) (D : Ends), Rel K ρ G H μ → EnvOk K ρ G σ δ →
    PostS K W N ρ G H D (g N δ μ) → t D σ H
theorem PostS.shift {out : Out} (t : TrS N ρ G H ρ1 G1 H1) (h : PostS K W N ρ G H D out) : PostS K W N ρ1 G1 H1 D out := by
  cases out with
  | next δ' μ' => exact fun ρ' G' H' σ' t' => h ρ' G' H' σ' (t.trans t')
  | ret r μ' => exact fun ρ' G' H' v t' R' q => h ρ' G' H' v (t.trans t') R' (q.back t.th)
  | brk δ' μ' => exact fun ρ' G' H' σ' t' => h ρ' G' H' σ' (t.trans t')
  | cnt δ' μ' => exact fun ρ' G' H' σ' t' => h ρ' G' H' σ' (t.trans t')
  | exc x δ' μ' => exact fun ρ' G' H' σ' cls d t' => h ρ' G' H' σ' cls d (t.trans t')
  | bad => exact h
/-- a statement that begins with an expression -/
theorem SndG.stm {α β : Type} {t : Slots → Hp → (β → Hp → Prop) → Prop} {f : Env → Mem → Res α} {rp : Pm → Hp → Hp → Hp → β → α → Prop}
    (h : SndG K W t f rp) (R : Rel K ρ G H μ) (E : EnvOk K ρ G σ δ) {k : α → Mem → Out}
    (hp : PostS K W N ρ G H D (match f δ μ with | .ok r μ' => k r μ' | .exc x μ' => .exc x δ μ' | .bad => .bad)) {Q : β → Hp → Prop}
    (go : ∀ r μ' G' H' v, Tr ρ G H G' H' → Rel K ρ G' H' μ' → EnvOk K ρ G' σ δ → rp ρ G' H H' v r → PostS K W N ρ G H D (k r μ') → Q v H') : t σ H Q := by
  refine h ρ G H σ δ μ Q R E ?_
  cases e : f δ μ with
  | ok r μ' => rw [e] at hp; exact fun G' H' v t' R' q => go r μ' G' H' v t' R' (E.mono t'.exG) q hp
  | exc x μ' => rw [e] at hp; exact fun G' H' cls d t' R' q => hp ρ G' H' σ cls d t'.toS R' (E.mono t'.exG) q
  | bad => rw [e] at hp; exact hp
/-! ### blocks -/
def lift {α : Type} (r : Res α) (δ : Env) (k : α → Mem → Out) : Out := match r with
  | .ok a μ => k a μ
  | .exc x μ => .exc x δ μ
  | .bad => .bad
def gNext : SM := fun _ δ μ => .next δ μ
def gSeq (g h : SM) : SM := fun N δ μ => match g N δ μ with
  | .next δ' μ' => h N δ' μ'
  | .ret r μ' => .ret r μ'
  | .brk δ' μ' => .brk δ' μ'
  | .cnt δ' μ' => .cnt δ' μ'
  | .exc x δ' μ' => .exc x δ' μ'
  | .bad => .bad
theorem snd_next : SndS K W tNext gNext := fun N ρ G H σ δ μ D R E hp => hp ρ G H σ (TrS.refl _ _ _ _) R E
theorem snd_seq {t u : TS} {g h : SM} (h1 : SndS K W t g) (h2 : SndS K W u h) : SndS K W (tSeq t u) (gSeq g h) := fun N ρ G H σ δ μ D R E hp => by
  refine h1 N ρ G H σ δ μ { D with nx := u D } R E ?_
  unfold gSeq at hp
  cases e : g N δ μ with
  | next δ' μ' => rw [e] at hp; exact fun ρ' G' H' σ' t' R' E' => h2 N ρ' G' H' σ' δ' μ' D R' E' (hp.shift t')
  | ret r μ' => rw [e] at hp; exact hp
  | brk δ' μ' => rw [e] at hp; exact hp
  | cnt δ' μ' => rw [e] at hp; exact hp
  | exc x δ' μ' => rw [e] at hp; exact hp
  | bad => rw [e] at hp; exact hp
/-! ### simple statements -/
theorem EnvOk.set {v : V} {x : DV} (i : Nat) (E : EnvOk K ρ G σ δ) (h : DvOk K ρ G v x) : EnvOk K ρ G (σ.set i (some v)) (δ.set i (some x)) := by
  refine ⟨by simp [E.len], fun j y hj => ?_⟩
  by_cases e : i = j
  · subst e
    have hl : i < δ.length := by
      by_cases hl : i < δ.length
      · exact hl
      · rw [List.getElem?_eq_none (by simp; omega)] at hj; cases hj
    rw [List.getElem?_set_self hl] at hj
    cases hj
    exact ⟨v, List.getElem?_set_self (by rw [E.len]; exact hl), h⟩
  · rw [List.getElem?_set_ne e] at hj
    obtain ⟨w, h1, h2⟩ := E.at_ j y hj
    exact ⟨w, by rw [List.getElem?_set_ne e]; exact h1, h2⟩
def gAsg (i : Nat) (f : EM) : SM := fun _ δ μ => lift (frzV f δ μ) δ fun x μ' => .next (δ.set i (some x)) μ'
theorem snd_asg {te : TE} {f : EM} (i : Nat) (h : SndE K W te f) : SndS K W (tAsg te (gName i)) (gAsg i f) := fun N ρ G H σ δ μ D R E hp =>
  SndG.stm (t := te) h.toV R E hp fun x μ' G' H' v t' R' E' d hp' => hp' ρ G' H' _ t'.toS R' (E'.set i d)
def gDrop (f : EM) : SM := fun _ δ μ => lift (f δ μ) δ fun _ μ' => .next δ μ'
theorem snd_drop {te : TE} {f : EM} (h : SndE K W te f) : SndS K W (tDrop te) (gDrop f) := fun N ρ G H σ δ μ D R E hp =>
  SndG.stm (t := te) h R E hp fun x μ' G' H' v t' R' E' d hp' => hp' ρ G' H' _ t'.toS R' E'
def gRet (f : EM) : SM := fun _ δ μ => lift (f δ μ) δ fun r μ' => .ret r μ'
theorem snd_ret {te : TE} {f : EM} (h : SndE K W te f) : SndS K W (tRet te) (gRet f) := fun N ρ G H σ δ μ D R E hp =>
  SndG.stm (t := te) h R E hp fun x μ' G' H' v t' R' E' d hp' => hp' ρ G' H' _ t'.toS R' d
def gIf (f : TM) (g h : SM) : SM := fun N δ μ => lift (f δ μ) δ fun b μ' => if b = true then g N δ μ' else h N δ μ'
theorem snd_if {tc : TT} {t u : TS} {f : TM} {g h : SM} (hc : SndT K W tc f) (h1 : SndS K W t g) (h2 : SndS K W u h) : SndS K W (tIfS tc t u) (gIf f g h) := fun N ρ G H σ δ μ D R E hp => by
  refine SndG.stm (t := tc) hc R E hp fun b μ' G' H' v t' R' E' d hp' => ?_
  subst d
  cases v with
  | true => exact h1 N ρ G' H' σ δ μ' D R' E' (PostS.shift t'.toS hp')
  | false => exact h2 N ρ G' H' σ δ μ' D R' E' (PostS.shift t'.toS hp')
def gBrk : SM := fun _ δ μ => .brk δ μ
def gCnt : SM := fun _ δ μ => .cnt δ μ
theorem snd_brk : SndS K W tBreak gBrk := fun N ρ G H σ δ μ D R E hp => hp ρ G H σ (TrS.refl _ _ _ _) R E
theorem snd_cnt : SndS K W tCont gCnt := fun N ρ G H σ δ μ D R E hp => hp ρ G H σ (TrS.refl _ _ _ _) R E
/-! ### a new place -/
theorem DvOk.below {v : V} {x : DV} (R : Rel K ρ G H μ) (h : DvOk K ρ G v x) : x.below μ.length := by
  cases x with
  | dat d => trivial
  | loc n => obtain ⟨a, _, q⟩ := h; exact R.lt n a q
theorem DvL.below {vs : List V} {xs : List DV} (R : Rel K ρ G H μ) (h : DvL K ρ G vs xs) : ∀ x ∈ xs, x.below μ.length := by
  intro x hx
  induction h with
  | nil => cases hx
  | cons r _ ih =>
    rcases List.mem_cons.mp hx with e | e
    · rw [e]; exact DvOk.below R r
    · exact ih e
def addP (ρ : Pm) (n : Nat) (a : Addr) : Pm := fun m => if m = n then some a else ρ m
theorem Rel.alloc {ρ0 : Pm} {G0 H0 : Hp} {a : Addr} {p : Pl} (R : Rel K ρ G H μ) (hN : N ≤ μ.length) (t : TrS N ρ0 G0 H0 ρ G H) (hs : H a ≠ none) (hg : G a = none) (hn : ∀ n, ρ n ≠ some a) (h0 : H0 a = none)
    (hp : PlOk K (addP ρ μ.length a) G H μ.length p) : Rel K (addP ρ μ.length a) G H (μ ++ [p]) ∧ TrS N ρ0 G0 H0 (addP ρ μ.length a) G H ∧ (∀ n b, ρ n = some b → addP ρ μ.length a n = some b) ∧ addP ρ μ.length a μ.length = some a := by
  have up : ∀ n b, ρ n = some b → addP ρ μ.length a n = some b := fun n b q => by
    unfold addP; rw [if_neg (Nat.ne_of_lt (R.lt n b q))]; exact q
  have dn : ∀ n b, addP ρ μ.length a n = some b → (n = μ.length ∧ b = a) ∨ ρ n = some b := fun n b q => by
    unfold addP at q
    by_cases e : n = μ.length
    · rw [if_pos e] at q; exact .inl ⟨e, (Option.some.inj q).symm⟩
    · rw [if_neg e] at q; exact .inr q
  refine ⟨⟨R.ex, fun m n b h1 h2 => ?_, fun n b h => ?_, fun n b h => ?_, fun n b h => ?_, fun n q h => ?_⟩, ⟨fun n h => ?_, t.exG, t.keep, t.th, t.nG, fun n b q => ?_⟩, up, by unfold addP; rw [if_pos rfl]⟩
  · rcases dn m b h1 with ⟨e1, e2⟩ | q1
    · rcases dn n b h2 with ⟨e3, _⟩ | q2
      · rw [e1, e3]
      · exact absurd (e2 ▸ q2) (hn n)
    · rcases dn n b h2 with ⟨_, e4⟩ | q2
      · exact absurd (e4 ▸ q1) (hn m)
      · exact R.inj m n b q1 q2
  · rcases dn n b h with ⟨_, e⟩ | q
    · rw [e]; exact hg
    · exact R.nG n b q
  · rw [List.length_append, List.length_singleton]
    rcases dn n b h with ⟨e, _⟩ | q
    · omega
    · have := R.lt n b q; omega
  · rcases dn n b h with ⟨_, e⟩ | q
    · rw [e]; exact hs
    · exact R.hs n b q
  · by_cases e : n < μ.length
    · rw [List.getElem?_append_left e] at h
      have z := R.pl n q h
      cases q with
      | lst xs => obtain ⟨b, c, vs, h1, h2, h3⟩ := z; exact ⟨b, c, vs, up _ _ h1, h2, DvL.mono (Ex.refl _) up h3⟩
      | dct xs => obtain ⟨b, c, o, vs, h1, h2, h4, h3⟩ := z; exact ⟨b, c, o, vs, up _ _ h1, h2, h4, DvL.mono (Ex.refl _) up h3⟩
      | own => obtain ⟨a, b, h1, h2⟩ := z; exact ⟨a, b, up _ _ h1, h2⟩
      | ins nm fs => obtain ⟨b, c, dx, C, vs, m, hm, h1, h2, cl, h4, h5, h3⟩ := z; exact ⟨b, c, dx, C, vs, m, ⟨hm.1, up _ _ hm.2⟩, up _ _ h1, h2, cl, h4, h5, DvL.mono (Ex.refl _) up h3⟩
      | gone => show addP ρ μ.length a n = none; unfold addP; rw [if_neg (by omega)]; exact z
    · rw [List.getElem?_append_right (by omega)] at h
      have e2 : n = μ.length := by
        cases k : n - μ.length with
        | zero => omega
        | succ j => rw [k] at h; simp at h
      subst e2
      rw [Nat.sub_self] at h
      cases h
      exact hp
  · unfold addP; rw [if_neg (by omega)]; exact t.pre n h
  · rcases dn n b q with ⟨_, e⟩ | q
    · rw [e]; exact .inr h0
    · exact t.nρ n b q
/-- what is given is bound to a name: a new list is a place from now on -/
def bindR (N i : Nat) (r : R) (δ : Env) (μ : Mem) : Out := match r with
  | .dat d => .next (δ.set i (some (.dat d))) μ
  | .loc n => .next (δ.set i (some (.loc n))) μ
  | .nl xs => if N ≤ μ.length then .next (δ.set i (some (.loc μ.length))) (μ ++ [.lst xs]) else .bad
  | .nk kvs => if N ≤ μ.length then .next (δ.set i (some (.loc μ.length))) (μ ++ [.dct kvs]) else .bad
theorem EnvOk.up (E : EnvOk K ρ G σ δ) (x : Ex G G1) (up : ∀ n b, ρ n = some b → ρ1 n = some b) : EnvOk K ρ1 G1 σ δ :=
  ⟨E.len, fun i y h => let ⟨v, a, b⟩ := E.at_ i y h; ⟨v, a, b.mono x up⟩⟩
theorem snd_bindR {r : R} {v : V} {G0 H0 : Hp} (i : Nat) (R' : Rel K ρ G H μ) (E' : EnvOk K ρ G σ δ) (t' : TrS N ρ G0 H0 ρ G H) (d : RpR K ρ G H0 H v r)
    (hp : PostS K W N ρ G0 H0 D (bindR N i r δ μ)) : D.nx (σ.set i (some v)) H := by
  cases r with
  | dat d' => exact hp ρ G H _ t' R' (E'.set i (x := .dat d') d)
  | loc n => exact hp ρ G H _ t' R' (E'.set i (x := .loc n) d)
  | nl xs =>
    obtain ⟨a, vs, rfl, h2, h3, h4, h5, h6⟩ := d
    have up : ∀ n b, ρ n = some b → addP ρ μ.length a n = some b := fun n b q => by
      unfold addP; rw [if_neg (Nat.ne_of_lt (R'.lt n b q))]; exact q
    unfold bindR at hp
    by_cases hN : N ≤ μ.length
    case neg => simp only [if_neg hN] at hp; exact hp.elim
    simp only [if_pos hN] at hp
    obtain ⟨R2, t2, up, at_⟩ := R'.alloc (p := .lst xs) hN t' (by rw [h2]; simp) h4 h5 h6 ⟨DvL.below R' h3, a, vs, by unfold addP; rw [if_pos rfl], h2, DvL.mono (Ex.refl _) up h3⟩
    exact hp _ G H _ t2 R2 ((E'.up (Ex.refl _) up).set i (x := .loc μ.length) ⟨a, rfl, at_⟩)
  | nk kvs =>
    obtain ⟨a, o, vs, rfl, h2, hk, h3, h4, h5, h6⟩ := d
    have up : ∀ n b, ρ n = some b → addP ρ μ.length a n = some b := fun n b q => by
      unfold addP; rw [if_neg (Nat.ne_of_lt (R'.lt n b q))]; exact q
    have bl : ∀ p ∈ kvs, p.2.below μ.length := fun p hp => DvL.below R' h3 p.2 (List.mem_map.mpr ⟨p, hp, rfl⟩)
    unfold bindR at hp
    by_cases hN : N ≤ μ.length
    case neg => simp only [if_neg hN] at hp; exact hp.elim
    simp only [if_pos hN] at hp
    obtain ⟨R2, t2, up, at_⟩ := R'.alloc (p := .dct kvs) hN t' (by rw [h2]; simp) h4 h5 h6 ⟨bl, a, o, vs, by unfold addP; rw [if_pos rfl], h2, hk, DvL.mono (Ex.refl _) up h3⟩
    exact hp _ G H _ t2 R2 ((E'.up (Ex.refl _) up).set i (x := .loc μ.length) ⟨a, rfl, at_⟩)
def gNew (i : Nat) (f : EM) : SM := fun N δ μ => lift (f δ μ) δ fun r μ' => bindR N i r δ μ'
theorem snd_new {te : TE} {f : EM} (i : Nat) (h : SndE K W te f) : SndS K W (tAsg te (gName i)) (gNew i f) := fun N ρ G H σ δ μ D R E hp =>
  SndG.stm (t := te) h R E hp fun x μ' G' H' v t' R' E' d hp' => snd_bindR i R' E' t'.toS d hp'
end
end DL
namespace DL
open PySem PySem.Spec PyProof.Rows L2

/-! ### what is forgotten: places from M on, slots that are not kept -/
def cutV (M : Nat) : Option DV → Option DV
  | some (.loc n) => if n < M then some (.loc n) else none
  | some (.dat d) => some (.dat d)
  | none => none
def cut (M : Nat) : List Bool → Env → Env
  | _, [] => []
  | [], _ :: δ => none :: cut M [] δ
  | b :: bs, x :: δ => (if b = true then cutV M x else none) :: cut M bs δ
def resP (M : Nat) (ρ : Pm) : Pm := fun n => if n < M then ρ n else none
theorem cut_len (M : Nat) : ∀ (bs : List Bool) (δ : Env), (cut M bs δ).length = δ.length
  | [], [] => rfl
  | _ :: _, [] => rfl
  | [], _ :: δ => congrArg (· + 1) (cut_len M [] δ)
  | _ :: bs, _ :: δ => congrArg (· + 1) (cut_len M bs δ)
theorem cutV_some {M : Nat} {o : Option DV} {x : DV} (h : cutV M o = some x) : o = some x ∧ x.below M := by
  match o, h with
  | some (.dat d), h => cases h; exact ⟨rfl, trivial⟩
  | some (.loc n), h =>
    simp only [cutV] at h
    by_cases e : n < M
    · rw [if_pos e] at h; cases h; exact ⟨rfl, e⟩
    · rw [if_neg e] at h; cases h
theorem cut_at (M : Nat) : ∀ (bs : List Bool) (δ : Env) (i : Nat) (x : DV), (cut M bs δ)[i]? = some (some x) → δ[i]? = some (some x) ∧ x.below M
  | [], [], i, x, h => by simp [cut] at h
  | _ :: _, [], i, x, h => by simp [cut] at h
  | [], _ :: δ, 0, x, h => by simp [cut] at h
  | [], _ :: δ, i + 1, x, h => cut_at M [] δ i x (by simpa [cut] using h)
  | b :: bs, y :: δ, 0, x, h => by
    simp only [cut, List.getElem?_cons_zero, Option.some.injEq] at h
    by_cases hb : b = true
    · rw [if_pos hb] at h
      obtain ⟨e, q⟩ := cutV_some h
      exact ⟨by rw [e]; rfl, q⟩
    · rw [if_neg hb] at h; cases h
  | b :: bs, y :: δ, i + 1, x, h => cut_at M bs δ i x (by simpa [cut] using h)
section
variable {K : PySem.W.Frag} {W : WX} {N M : Nat} {ρ ρ0 ρ1 ρ2 : Pm} {G H G0 H0 G1 H1 G2 H2 : Hp} {σ : Slots} {δ : Env} {μ : Mem} {Dn : Ends}
theorem resP_some {n : Nat} {a : Addr} (h : resP M ρ n = some a) : n < M ∧ ρ n = some a := by
  unfold resP at h
  by_cases e : n < M
  · rw [if_pos e] at h; exact ⟨e, h⟩
  · rw [if_neg e] at h; cases h
theorem resP_of {n : Nat} {a : Addr} (e : n < M) (h : ρ n = some a) : resP M ρ n = some a := by unfold resP; rw [if_pos e]; exact h
theorem DvOk.res {v : V} {x : DV} (h : DvOk K ρ G v x) (b : x.below M) : DvOk K (resP M ρ) G v x := by
  cases x with
  | dat d => exact h
  | loc n => obtain ⟨a, e, q⟩ := h; exact ⟨a, e, resP_of b q⟩
theorem DvL.res {vs : List V} {xs : List DV} (h : DvL K ρ G vs xs) (b : ∀ x ∈ xs, x.below M) : DvL K (resP M ρ) G vs xs := by
  induction h with
  | nil => exact .nil
  | cons r _ ih => exact .cons (r.res (b _ List.mem_cons_self)) (ih fun x hx => b x (List.mem_cons_of_mem _ hx))
theorem DV.below.mono {m n : Nat} {x : DV} (h : x.below m) (e : m ≤ n) : x.below n := by
  cases x with
  | dat d => trivial
  | loc k => exact Nat.lt_of_lt_of_le h e
theorem Rel.cut (R : Rel K ρ G H μ) (M : Nat) : Rel K (resP M ρ) G H (μ.take M) := by
  refine ⟨R.ex, fun m n a h1 h2 => R.inj m n a (resP_some h1).2 (resP_some h2).2, fun n a h => R.nG n a (resP_some h).2, fun n a h => ?_, fun n a h => R.hs n a (resP_some h).2, fun n p h => ?_⟩
  · obtain ⟨e, q⟩ := resP_some h
    have := R.lt n a q
    rw [List.length_take]; omega
  · have hn : n < M := by
      by_cases e : n < M
      · exact e
      · rw [List.getElem?_eq_none (by rw [List.length_take]; omega)] at h; cases h
    rw [List.getElem?_take_of_lt hn] at h
    have z := R.pl n p h
    cases p with
    | lst xs => obtain ⟨b, a, vs, h1, h2, h3⟩ := z; exact ⟨b, a, vs, resP_of hn h1, h2, h3.res fun x hx => (b x hx).mono (Nat.le_of_lt hn)⟩
    | dct kvs =>
      obtain ⟨b, a, o, vs, h1, h2, h4, h3⟩ := z
      refine ⟨b, a, o, vs, resP_of hn h1, h2, h4, h3.res fun x hx => ?_⟩
      obtain ⟨p, hp, rfl⟩ := List.mem_map.mp hx
      exact (b p hp).mono (Nat.le_of_lt hn)
    | ins nm fs =>
      obtain ⟨b, a, dx, C, vs, m, hm, h1, h2, cl, h4, h5, h3⟩ := z
      refine ⟨b, a, dx, C, vs, m, ⟨hm.1, resP_of (by omega) hm.2⟩, resP_of hn h1, h2, cl, h4, h5, h3.res fun x hx => ?_⟩
      obtain ⟨p, hp, rfl⟩ := List.mem_map.mp hx
      exact (b p hp).mono (Nat.le_of_lt hn)
    | own => obtain ⟨a, b, h1, h2⟩ := z; exact ⟨a, b, resP_of hn h1, h2⟩
    | gone => show resP M ρ n = none; unfold resP; rw [if_pos hn]; exact z
theorem EnvOk.cut (E : EnvOk K ρ G σ δ) (M : Nat) (bs : List Bool) : EnvOk K (resP M ρ) G σ (cut M bs δ) :=
  ⟨by rw [cut_len]; exact E.len, fun i x h => let ⟨h1, h2⟩ := cut_at M bs δ i x h; let ⟨v, a, b⟩ := E.at_ i x h1; ⟨v, a, b.res h2⟩⟩
theorem TrS.cut (t : TrS N ρ0 G0 H0 ρ G H) (h : ∀ n a, ρ0 n = some a → n < M) : TrS N ρ0 G0 H0 (resP M ρ) G H where
  pre := fun n hn => by
    unfold resP
    by_cases e : n < M
    · rw [if_pos e]; exact t.pre n hn
    · rw [if_neg e]
      cases q : ρ0 n with
      | none => rfl
      | some a => exact absurd (h n a q) e
  exG := t.exG
  keep := t.keep
  th := t.th
  nG := t.nG
  nρ := fun n a q => t.nρ n a (resP_some q).2

/-! ### for -/
def ItOk (K : PySem.W.Frag) (G0 : Hp) (J : It) (xs : List D) : Prop := ∀ (ρ : Pm) (G H : Hp) (μ : Mem), Rel K ρ G H μ → Ex G0 G →
  (∀ (i : Nat) (d : D), xs[i]? = some d → J.go i H ∧ ∀ v H', J.yld i H v H' → ∃ G', Tr ρ G H G' H' ∧ Rel K ρ G' H' μ ∧ Rp K G' v d) ∧ ∀ i, xs.length ≤ i → J.stop i H
abbrev rpI (K : PySem.W.Frag) : Pm → Hp → Hp → Hp → It → List D → Prop := fun _ G' _ _ J xs => ItOk K G' J xs
abbrev IM := Env → Mem → Res (List D)
abbrev SndI (K : PySem.W.Frag) (W : WX) (t : TI) (f : IM) : Prop := SndG K W t f (rpI K)
theorem wipe_in {σ : Slots} {i : Nat} : ∀ {vs : List Nat}, i ∈ vs → i < σ.length → (wipe σ vs)[i]? = some none
  | v :: vs, h, hl => by
    show ((wipe σ vs).set v none)[i]? = some none
    by_cases e : v = i
    · subst e; exact List.getElem?_set_self (by rw [wipe_length]; exact hl)
    · rw [List.getElem?_set_ne e]
      exact wipe_in ((List.mem_cons.mp h).elim (fun q => absurd q.symm e) id) hl
theorem wipe_ext {σ τ : Slots} {vs : List Nat} (hl : σ.length = τ.length) (h : ∀ i, i ∉ vs → σ[i]? = τ[i]?) : wipe σ vs = wipe τ vs := by
  refine List.ext_getElem? fun i => ?_
  by_cases hi : i ∈ vs
  · by_cases e : i < σ.length
    · rw [wipe_in hi e, wipe_in hi (hl ▸ e)]
    · rw [List.getElem?_eq_none (by rw [wipe_length]; omega), List.getElem?_eq_none (by rw [wipe_length]; omega)]
  · rw [wipe_out hi, wipe_out hi]; exact h i hi
/-- g is a target that sets the slots ts -/
def TgOk (K : PySem.W.Frag) (g : TG) (h : D → Env → Option Env) (ts : List Nat) : Prop := ∀ (ρ : Pm) (G H : Hp) (μ : Mem) (σ : Slots) (δ δ' : Env) (v : V) (d : D) (Q : Slots → Hp → Prop), Rel K ρ G H μ → EnvOk K ρ G σ δ → Rp K G v d → h d δ = some δ' →
  (∀ σ', EnvOk K ρ G σ' δ' → σ'.length = σ.length → (∀ i, i ∉ ts → σ'[i]? = σ[i]?) → Q σ' H) → g v σ H Q
def tgName (i : Nat) : D → Env → Option Env := fun d δ => some (δ.set i (some (.dat d)))
theorem tg_name (i : Nat) : TgOk K (gName i) (tgName i) [i] := fun ρ G H μ σ δ δ' v d Q R E h e q => by
  cases e; exact q _ (E.set i (x := .dat d) h) List.length_set fun j hj => List.getElem?_set_ne fun z => hj (by simp [z])
def turnL (M : Nat) (ks : List Bool) (out : Out) (k : Env → Mem → Out) : Out := match out with
  | .next δ' μ' => k (cut M ks δ') (μ'.take M)
  | .cnt δ' μ' => k (cut M ks δ') (μ'.take M)
  | .brk δ' μ' => .next (cut M ks δ') (μ'.take M)
  | .ret r μ' => .ret r μ'
  | .exc x δ' μ' => .exc x δ' μ'
  | .bad => .bad
def forL (M : Nat) (ks : List Bool) (h : D → Env → Option Env) (gb : SM) (N : Nat) : List D → Env → Mem → Out
  | [], δ, μ => .next δ μ
  | d :: ds, δ, μ => match h d δ with
    | none => .bad
    | some δ1 => turnL M ks (gb N δ1 μ) (forL M ks h gb N ds)
def gFor (ks : List Bool) (fi : IM) (h : D → Env → Option Env) (gb : SM) : SM := fun N δ μ => lift (fi δ μ) δ fun xs μ' => forL μ'.length ks h gb N xs δ μ'
/-- one turn of a loop, from what is known at its head (ρ0, G0, H0) -/
theorem turn_ok {tb : TS} {gb : SM} {ks : List Bool} {k : Env → Mem → Out} {Nn : Slots → Hp → Prop} (hb : SndS K W tb gb) (t : TrS N ρ0 G0 H0 ρ G H) (R : Rel K ρ G H μ) (E : EnvOk K ρ G σ δ) (hM : ∀ n a, ρ0 n = some a → n < M) (hM1 : ∀ n a, ρ n = some a → n < M)
    (hp : PostS K W N ρ0 G0 H0 Dn (turnL M ks (gb N δ μ) k))
    (go : ∀ ρ' G' H' σ' δ' μ', TrS N ρ0 G0 H0 ρ' G' H' → Ex G G' → Rel K ρ' G' H' μ' → EnvOk K ρ' G' σ' δ' → (∀ n a, ρ' n = some a → n < M) → PostS K W N ρ0 G0 H0 Dn (k δ' μ') → Nn σ' H') :
    tb { nx := Nn, rt := Dn.rt, bk := Dn.nx, ct := Nn } σ H := by
  refine hb N ρ G H σ δ μ _ R E ?_
  cases e : gb N δ μ with
  | next δ' μ' =>
    rw [e] at hp
    exact fun ρ' G' H' σ' t' R' E' => go _ G' H' σ' _ _ ((t.trans t').cut hM) t'.exG (R'.cut M) (E'.cut M ks) (fun n a q => (resP_some q).1) hp
  | cnt δ' μ' =>
    rw [e] at hp
    exact fun ρ' G' H' σ' t' R' E' => go _ G' H' σ' _ _ ((t.trans t').cut hM) t'.exG (R'.cut M) (E'.cut M ks) (fun n a q => (resP_some q).1) hp
  | brk δ' μ' =>
    rw [e] at hp
    exact fun ρ' G' H' σ' t' R' E' => hp _ G' H' σ' ((t.trans t').cut hM) (R'.cut M) (E'.cut M ks)
  | ret r μ' =>
    rw [e] at hp
    exact fun ρ' G' H' v t' R' q => hp ρ' G' H' v (t.trans t') R' (q.back t.th)
  | exc x δ' μ' =>
    rw [e] at hp
    exact fun ρ' G' H' σ' cls d t' => hp ρ' G' H' σ' cls d (t.trans t')
  | bad => rw [e] at hp; exact hp
theorem drop_cons {α : Type} {xs ds : List α} {i : Nat} {d : α} (h : xs.drop i = d :: ds) : xs[i]? = some d ∧ xs.drop (i + 1) = ds ∧ i < xs.length := by
  have hl : i < xs.length := by
    by_cases e : i < xs.length
    · exact e
    · rw [List.drop_eq_nil_of_le (by omega)] at h; cases h
  rw [List.drop_eq_getElem_cons hl] at h
  injection h with h1 h2
  exact ⟨by rw [List.getElem?_eq_getElem hl, h1], h2, hl⟩
theorem snd_for {wi : TI} {fi : IM} {g : TG} {h : D → Env → Option Env} {tb : TS} {gb : SM} (ks : List Bool) {tv : List Nat} (hi : SndI K W wi fi) (hg : TgOk K g h tv) (hb : SndS K W tb gb) : SndS K W (tFor wi g tb) (gFor ks fi h gb) := fun N ρ G H σ δ μ Dn R E hp => by
  refine SndG.stm (t := wi) hi R E hp fun xs μ0 G0 H0 J t0 R0 E0 it hp0 => ?_
  have hp0 := PostS.shift (t0.toS (N := N)) hp0
  refine ⟨fun i m σ H => ∃ ρ1 G1 δ1 μ1, Ex G0 G1 ∧ Rel K ρ1 G1 H μ1 ∧ EnvOk K ρ1 G1 σ δ1 ∧ (∀ n a, ρ1 n = some a → n < μ0.length) ∧ m = xs.length - i ∧ i ≤ xs.length ∧
    PostS K W N ρ1 G1 H Dn (forL μ0.length ks h gb N (xs.drop i) δ1 μ1), ⟨xs.length, ρ, G0, δ, μ0, Ex.refl _, R0, E0, R0.lt, by omega, by omega, hp0⟩, fun i m σ H hW => ?_⟩
  obtain ⟨ρ1, G1, δ1, μ1, x1, R1, E1, hM1, em, hi', hp1⟩ := hW
  obtain ⟨go, stop⟩ := it ρ1 G1 H μ1 R1 x1
  cases e : xs.drop i with
  | nil =>
    rw [e] at hp1
    have hl : xs.length ≤ i := by
      have := congrArg List.length e
      rw [List.length_drop] at this
      simp at this; omega
    exact .inl ⟨stop i hl, hp1 ρ1 G1 H σ (TrS.refl _ _ _ _) R1 E1⟩
  | cons d ds =>
    rw [e] at hp1
    obtain ⟨hd, hds, hlt⟩ := drop_cons e
    obtain ⟨g1, g2⟩ := go i d hd
    refine .inr ⟨g1, fun σ' H' => ∃ m', m' < m ∧ _, fun σ' H' q => q, fun v H' hy => ?_⟩
    obtain ⟨G2, t2, R2, rp⟩ := g2 v H' hy
    unfold forL at hp1
    cases eh : h d δ1 with
    | none => rw [eh] at hp1; exact hp1.elim
    | some δ2 =>
      rw [eh] at hp1
      refine hg ρ1 G2 H' μ1 σ δ1 δ2 v d _ R2 (E1.mono t2.exG) rp eh fun σ2 E2 _ _ => ?_
      refine turn_ok hb t2.toS R2 E2 hM1 hM1 hp1 fun ρ3 G3 H3 σ3 δ3 μ3 t3 _ R3 E3 hM3 hp3 => ?_
      refine ⟨xs.length - (i + 1), by omega, ρ3, G3, δ3, μ3, x1.trans t3.exG, R3, E3, hM3, rfl, hlt, ?_⟩
      rw [hds]; exact PostS.shift t3 hp3
/-! ### while -/
def whL (M : Nat) (ks : List Bool) (ft : TM) (gb : SM) (N : Nat) : Nat → Env → Mem → Out
  | 0, _, _ => .bad
  | k + 1, δ, μ => lift (ft δ μ) δ fun b μ1 => if b = true then turnL M ks (gb N δ μ1) (whL M ks ft gb N k) else .next δ μ1
def gWh (fuel : Nat) (ks : List Bool) (ft : TM) (gb : SM) : SM := fun N δ μ => whL μ.length ks ft gb N fuel δ μ
theorem snd_while {tc : TT} {ft : TM} {tb : TS} {gb : SM} (fuel : Nat) (ks : List Bool) (hc : SndT K W tc ft) (hb : SndS K W tb gb) : SndS K W (tWhile tc tb) (gWh fuel ks ft gb) := fun N ρ G H σ δ μ Dn R E hp => by
  refine ⟨fun m σ H' => ∃ ρ1 G1 δ1 μ1, Rel K ρ1 G1 H' μ1 ∧ EnvOk K ρ1 G1 σ δ1 ∧ (∀ n a, ρ1 n = some a → n < μ.length) ∧
    PostS K W N ρ1 G1 H' Dn (whL μ.length ks ft gb N m δ1 μ1), ⟨fuel, ρ, G, δ, μ, R, E, R.lt, hp⟩, fun m σ H' hW => ?_⟩
  obtain ⟨ρ1, G1, δ1, μ1, R1, E1, hM1, hp1⟩ := hW
  cases m with
  | zero => exact hp1.elim
  | succ k =>
    refine SndG.stm (t := tc) hc R1 E1 hp1 fun b μ2 G2 H2 v t2 R2 E2 d hp2 => ?_
    subst d
    cases v with
    | false => exact hp2 ρ1 G2 H2 σ t2.toS R2 E2
    | true =>
      refine ⟨fun σ' H'' => ∃ m', m' < k + 1 ∧ _, fun σ' H'' q => q, ?_⟩
      refine turn_ok hb t2.toS R2 E2 hM1 hM1 hp2 fun ρ3 G3 H3 σ3 δ3 μ3 t3 _ R3 E3 hM3 hp4 => ⟨k, by omega, ρ3, G3, δ3, μ3, R3, E3, hM3, PostS.shift t3 hp4⟩
/-! ### a def -/
def belowA (N : Nat) (xs : List DV) : Bool := xs.all fun x => match x with
  | .dat _ => true
  | .loc m => decide (m < N)
theorem belowA_ok {xs : List DV} (h : belowA N xs = true) : ∀ x ∈ xs, x.below N := fun x hx => by
  have := List.all_eq_true.mp h x hx
  cases x with
  | dat d => trivial
  | loc m => exact (of_decide_eq_true this : m < N)
def closeR (N : Nat) (r : R) (μ : Mem) : Res R := match r with
  | .dat d => .ok (.dat d) (μ.take N)
  | .nl xs => if belowA N xs = true then .ok (.nl xs) (μ.take N) else .bad
  | .nk kvs => if belowA N (kvs.map (·.2)) = true then .ok (.nk kvs) (μ.take N) else .bad
  | .loc n => if n < N then .ok (.loc n) (μ.take N) else match μ[n]? with
    | some (.lst xs) => if belowA N xs = true then .ok (.nl xs) (μ.take N) else .bad
    | some (.dct kvs) => if belowA N (kvs.map (·.2)) = true then .ok (.nk kvs) (μ.take N) else .bad
    | _ => .bad
/-- what a body gives, called -/
def callF (g : SM) (m : Nat) (args : List DV) (μ : Mem) : Res R := match g μ.length (args.map some ++ List.replicate m none) μ with
  | .next _ μ' => .ok (.dat .non) (μ'.take μ.length)
  | .ret r μ' => closeR μ.length r μ'
  | .exc x _ μ' => .exc x (μ'.take μ.length)
  | _ => .bad
def spF (K : PySem.W.Frag) (n : Nat) (F : List DV → Mem → Res R) : Sp := fun vs H Q E => vs.length = n ∧ ∃ ρ G μ xs, Rel K ρ G H μ ∧ DvL K ρ G vs xs ∧
  PostG K (fun cls d _ H => E cls d H) ρ G H [] (fun G' H' => rpE K ρ G' H H') Q (F xs μ)
theorem res_back (R : Rel K ρ G H μ) (t : TrS μ.length ρ G H ρ1 G1 H1) : resP μ.length ρ1 = ρ := by
  funext n
  unfold resP
  by_cases e : n < μ.length
  · rw [if_pos e]; exact t.pre n e
  · rw [if_neg e]
    cases q : ρ n with
    | none => rfl
    | some a => exact absurd (R.lt n a q) e
theorem tr_back (R : Rel K ρ G H μ) (t : TrS μ.length ρ G H ρ1 G1 H1) : Tr ρ G H G1 H1 where
  exG := t.exG
  keep := t.keep
  th := t.th
  nG := fun a h => (t.nG a h).elim .inl fun q => q.elim .inr fun ⟨n, hn, z⟩ => absurd (R.lt n a z) (by omega)
theorem RpR.close {μ1 μ2 : Mem} {r r' : R} {v : V} (R : Rel K ρ G H μ) (t : TrS μ.length ρ G H ρ1 G1 H1) (R1 : Rel K ρ1 G1 H1 μ1) (h : RpR K ρ1 G1 H H1 v r) (e : closeR μ.length r μ1 = .ok r' μ2) :
    RpR K ρ G1 H H1 v r' ∧ μ2 = μ1.take μ.length := by
  have eb := res_back R t
  have lst : ∀ {a : Addr} {vs : List V} {xs : List DV}, H1 a = some (.lst vs) → DvL K ρ1 G1 vs xs → G1 a = none → (∀ n, ρ n ≠ some a) → H a = none → belowA μ.length xs = true → RpR K ρ G1 H H1 (.ref a) (.nl xs) := fun {a vs xs} h1 h2 h3 h4 h5 h6 =>
    ⟨a, vs, rfl, h1, by have z := h2.res (belowA_ok h6); rw [eb] at z; exact z, h3, h4, h5⟩
  have dct : ∀ {a : Addr} {o : HO} {vs : List V} {xs : List (Ky × DV)}, H1 a = some o → DctIs o (xs.map (·.1)) vs → DvL K ρ1 G1 vs (xs.map (·.2)) → G1 a = none → (∀ n, ρ n ≠ some a) → H a = none → belowA μ.length (xs.map (·.2)) = true → RpR K ρ G1 H H1 (.ref a) (.nk xs) := fun {a o vs xs} h1 hk h2 h3 h4 h5 h6 =>
    ⟨a, o, vs, rfl, h1, hk, by have z := h2.res (belowA_ok h6); rw [eb] at z; exact z, h3, h4, h5⟩
  have noρ : ∀ a, (∀ n, ρ1 n ≠ some a) → ∀ n, ρ n ≠ some a := fun a h n q => h n ((t.pre n (R.lt n a q)).trans q)
  cases r with
  | dat d => cases e; exact ⟨h, rfl⟩
  | nl xs =>
    obtain ⟨a, vs, rfl, h1, h2, h3, h4, h5⟩ := h
    simp only [closeR] at e
    by_cases hb : belowA μ.length xs = true
    · rw [if_pos hb] at e; cases e
      exact ⟨lst h1 h2 h3 (noρ a h4) h5 hb, rfl⟩
    · rw [if_neg hb] at e; cases e
  | nk kvs =>
    obtain ⟨a, o, vs, rfl, h1, hk, h2, h3, h4, h5⟩ := h
    simp only [closeR] at e
    by_cases hb : belowA μ.length (kvs.map (·.2)) = true
    · rw [if_pos hb] at e; cases e
      exact ⟨dct h1 hk h2 h3 (noρ a h4) h5 hb, rfl⟩
    · rw [if_neg hb] at e; cases e
  | loc n =>
    obtain ⟨a, rfl, q⟩ := h
    simp only [closeR] at e
    by_cases hn : n < μ.length
    · rw [if_pos hn] at e; cases e
      exact ⟨⟨a, rfl, (t.pre n hn).symm.trans q⟩, rfl⟩
    · rw [if_neg hn] at e
      have hne : ∀ m, ρ m ≠ some a := fun m z => by
        have h1 := (t.pre m (R.lt m a z)).trans z
        have h2 := R1.inj m n a h1 q
        exact hn (h2 ▸ R.lt m a z)
      have h0 : H a = none := (t.nρ n a q).elim (fun z => absurd z (hne n)) id
      have hg : G1 a = none := R1.nG n a q
      match em : μ1[n]? with
      | none => rw [em] at e; cases e
      | some .gone => rw [em] at e; cases e
      | some (.ins _ _) => rw [em] at e; cases e
      | some .own => rw [em] at e; cases e
      | some (.lst xs) =>
        rw [em] at e
        obtain ⟨_, b, vs, k1, k2, k3⟩ := R1.pl n _ em
        rw [q] at k1; cases k1
        by_cases hb : belowA μ.length xs = true
        · simp only [if_pos hb] at e; cases e
          exact ⟨lst k2 k3 hg hne h0 hb, rfl⟩
        · simp only [if_neg hb] at e; cases e
      | some (.dct kvs) =>
        rw [em] at e
        obtain ⟨_, b, o, vs, k1, k2, kk, k3⟩ := R1.pl n _ em
        rw [q] at k1; cases k1
        by_cases hb : belowA μ.length (kvs.map (·.2)) = true
        · simp only [if_pos hb] at e; cases e
          exact ⟨dct k2 kk k3 hg hne h0 hb, rfl⟩
        · simp only [if_neg hb] at e; cases e
/-- the body's reading from the promise -/
theorem body_ok {ts : TS} {g : SM} {Q : VK} {E : XK} {vs : List V} {Nm : List Str} {n : Nat} (hb : SndS K (fun cls d _ H => E cls d H) ts g) (hn : n ≤ Nm.length) (h : spF K n (callF g (Nm.length - n)) vs H Q E) :
    ts { nx := fun _ H' => Q .non H', rt := Q } (L2.start Nm vs) H := by
  obtain ⟨hl, ρ, G, μ, xs, R, d, hp⟩ := h
  have hx : xs.length = n := by rw [← paired_len d]; exact hl
  have env : EnvOk K ρ G (L2.start Nm vs) (xs.map some ++ List.replicate (Nm.length - n) none) := by
    refine ⟨by simp [L2.start, hl, hx], fun i x hi => ?_⟩
    have hi1 : i < xs.length := by
      by_cases e : i < xs.length
      · exact e
      · rw [List.getElem?_append_right (by simpa using e), List.getElem?_replicate] at hi
        split at hi <;> cases hi
    rw [List.getElem?_append_left (by simpa using hi1), List.getElem?_map, List.getElem?_eq_getElem hi1] at hi
    simp only [Option.map_some, Option.some.injEq] at hi
    have key : ∀ {vs : List V} {xs : List DV} {i : Nat} (d : DvL K ρ G vs xs) (hi : i < xs.length), ∃ v, vs[i]? = some v ∧ DvOk K ρ G v xs[i] := by
      intro vs xs i d
      induction d generalizing i with
      | nil => intro hi; exact absurd hi (Nat.not_lt_zero _)
      | cons r _ ih =>
        intro hi
        cases i with
        | zero => exact ⟨_, rfl, r⟩
        | succ i => exact ih (Nat.lt_of_succ_lt_succ hi)
    obtain ⟨v, h1, h2⟩ := key d hi1
    refine ⟨v, ?_, hi ▸ h2⟩
    unfold L2.start
    have hv : i < vs.length := by omega
    rw [List.getElem?_append_left (by simpa using hv), List.getElem?_map, h1]
    rfl
  refine hb μ.length ρ G H _ _ μ _ R env ?_
  unfold callF at hp
  cases e : g μ.length (xs.map some ++ List.replicate (Nm.length - n) none) μ with
  | next δ' μ' =>
    rw [e] at hp
    intro ρ' G' H' σ' t R' E'
    have z := R'.cut μ.length
    rw [res_back R t] at z
    exact hp G' H' .non (tr_back R t) z Rp.non
  | ret r μ' =>
    rw [e] at hp
    intro ρ' G' H' v t R' q
    simp only at hp
    cases ec : closeR μ.length r μ' with
    | bad => rw [ec] at hp; exact hp.elim
    | exc x μ2 => exact (by cases r <;> simp only [closeR] at ec <;> (repeat' split at ec) <;> cases ec)
    | ok r' μ2 =>
      rw [ec] at hp
      obtain ⟨q', em⟩ := RpR.close R t R' q ec
      have z := R'.cut μ.length
      rw [res_back R t, ← em] at z
      exact hp G' H' v (tr_back R t) z q'
  | brk δ' μ' => rw [e] at hp; exact hp.elim
  | cnt δ' μ' => rw [e] at hp; exact hp.elim
  | exc x δ' μ' =>
    rw [e] at hp
    intro ρ' G' H' σ' cls d t R' E' q
    have z := R'.cut μ.length
    rw [res_back R t] at z
    exact hp G' H' cls d (tr_back R t) z q
  | bad => rw [e] at hp; exact hp.elim
end
end DL
namespace DL
open PySem PySem.Spec PyProof.Rows L2
structure PSM (X : Cx) (W : WX) (st : Stmt) (ts : TS) (g : SM) : Prop where
  ps : PS X st ts
  sd : SndS X.K W ts g
structure PSMs (X : Cx) (W : WX) (st : List Stmt) (ts : TS) (g : SM) : Prop where
  ps : PSs X st ts
  sd : SndS X.K W ts g
structure PMI (X : Cx) (W : WX) (tg e : Expr) (wi : TI) (f : IM) : Prop where
  pi : PI X tg e wi
  sd : SndI X.K W wi f
structure PMG (X : Cx) (tg : Expr) (g : TG) (h : D → Env → Option Env) (ts : List Nat) : Prop where
  pg : PG X tg g
  ok : TgOk X.K g h ts
section
variable {X : Cx} {W : WX} {pos : Pos} {te : TE} {f : EM} {tt : TT} {ft : TM} {t u : TS} {g h : SM} {st : Stmt} {rest body els : List Stmt} {e : Expr}
theorem ss_nil : PSMs X W [] tNext gNext := ⟨pss_nil, snd_next⟩
theorem ss_cons (h1 : PSM X W st t g) (h2 : PSMs X W rest u h) : PSMs X W (st :: rest) (tSeq t u) (gSeq g h) := ⟨pss_cons h1.ps h2.ps, snd_seq h1.sd h2.sd⟩
theorem ss_one (h1 : PSM X W st t g) : PSMs X W [st] t g := ⟨pss_one h1.ps, h1.sd⟩
theorem sm_expr (h : PM X W e te f) (hs : swapsWith e none pos.line X.env = pure false := by rfl) : PSM X W (.Expr e pos) (tDrop te) (gDrop f) := ⟨ps_expr h.pe hs, snd_drop h.sd⟩
theorem sm_ret (h : PM X W e te f) : PSM X W (.Return (some e) pos) (tRet te) (gRet f) := ⟨ps_ret h.pe, snd_ret h.sd⟩
theorem sm_if (hc : PMT X W e tt ft) (h1 : PSMs X W body t g) (h2 : PSMs X W els u h) : PSM X W (.If e body els pos) (tIfS tt t u) (gIf ft g h) := ⟨ps_if hc.pe h1.ps h2.ps, snd_if hc.sd h1.sd h2.sd⟩
theorem sm_asg {x : Str} {p : Pos} (i : Nat) (hN : X.N.Nodup) (h : PM X W e te f) (hi : X.N[i]? = some x := by rfl) (hx : Loc X.env.scope x := by first | exact Or.inl rfl | exact Or.inr rfl)
    (hf : X.fn x = true ∨ X.env.scope.names.lookup x = some .local := by first | exact .inl rfl | exact .inr rfl)
    (a1 : swapsWithSole [.Name x p] e pos.line X.env = pure false := by rfl) (a2 : swappedStores [.Name x p] e X.env = pure none := by rfl) (a3 : List.map (fun x => x.snd) (assignEach [.Name x p] X.env) = [assign (.Name x p) X.env] := by rfl) :
    PSM X W (.Assign [.Name x p] e pos) (tAsg te (gName i)) (gAsg i f) := ⟨ps_asg h.pe (pg_name hN hi hx hf) a1 a2 a3, snd_asg i h.sd⟩
theorem sm_new {x : Str} {p : Pos} (i : Nat) (hN : X.N.Nodup) (h : PM X W e te f) (hi : X.N[i]? = some x := by rfl) (hx : Loc X.env.scope x := by first | exact Or.inl rfl | exact Or.inr rfl)
    (hf : X.fn x = true ∨ X.env.scope.names.lookup x = some .local := by first | exact .inl rfl | exact .inr rfl)
    (a1 : swapsWithSole [.Name x p] e pos.line X.env = pure false := by rfl) (a2 : swappedStores [.Name x p] e X.env = pure none := by rfl) (a3 : List.map (fun x => x.snd) (assignEach [.Name x p] X.env) = [assign (.Name x p) X.env] := by rfl) :
    PSM X W (.Assign [.Name x p] e pos) (tAsg te (gName i)) (gNew i f) := ⟨ps_asg h.pe (pg_name hN hi hx hf) a1 a2 a3, snd_new i h.sd⟩
theorem sm_brk : PSM X W (.Break pos) tBreak gBrk := ⟨ps_break, snd_brk⟩
theorem sm_cnt : PSM X W (.Continue pos) tCont gCnt := ⟨ps_continue, snd_cnt⟩
theorem sm_pass : PSM X W (.Pass pos) tNext gNext := ⟨ps_pass, snd_next⟩
theorem pg_nm {x : Str} (i : Nat) (hN : X.N.Nodup) (hi : X.N[i]? = some x := by rfl) (hx : Loc X.env.scope x := by first | exact Or.inl rfl | exact Or.inr rfl)
    (hf : X.fn x = true ∨ X.env.scope.names.lookup x = some .local := by first | exact .inl rfl | exact .inr rfl) : PMG X (.Name x pos) (gName i) (tgName i) [i] := ⟨pg_name hN hi hx hf, tg_name i⟩
theorem sm_for {tg iter : Expr} {wi : TI} {fi : IM} {gt : TG} {ht : D → Env → Option Env} {tv : List Nat} (ks : List Bool) (hp : PassesOwn (model X.prog X.w) X.A X.env X.xe) (hc : X.calm = true) (hi : PMI X W tg iter wi fi) (hg : PMG X tg gt ht tv) (hb : PSMs X W body t g)
    (hs : ∀ (x : Value), foldedSetIterable iter X.env x = pure x := by intro _; rfl) : PSM X W (.For tg iter body [] pos) (tFor wi gt t) (gFor ks fi ht g) :=
  ⟨ps_for hp hc hi.pi hg.pg hb.ps hs, snd_for ks hi.sd hg.ok hb.sd⟩
theorem sm_while (fuel : Nat) (ks : List Bool) (hp : PassesOwn (model X.prog X.w) X.A X.env X.xe) (hc : PMT X W e tt ft) (hb : PSMs X W body t g) : PSM X W (.While e body [] pos) (tWhile tt t) (gWh fuel ks ft g) :=
  ⟨ps_while hp hc.pe hb.ps, snd_while fuel ks hc.sd hb.sd⟩
end
/-! ### tests -/
section
variable {X : Cx} {W : WX} {pos : Pos} {te ta tb : TE} {f fa fb : EM} {tt tu : TT} {ft fu : TM} {a b e : Expr} {rest : List Expr}
def tmB (f : EM) : TM := fun δ μ => (f δ μ).bind fun r μ' => match r with
  | .dat (.bl b) => .ok b μ'
  | _ => .bad
theorem snd_tmB {K : PySem.W.Frag} {tt : TT} (h : SndE K W te f) (ht : ∀ σ H Q, tB te σ H Q → tt σ H Q) : SndT K W tt (tmB f) := fun ρ G H σ δ μ Q R E hp => ht σ H Q (by
  refine SndG.seq (t := te) h R E hp fun r μ' G' H' v t' R' E' q hp' => ?_
  match r, q, hp' with
  | .dat (.bl b), q, hp' => cases q; exact ⟨b, rfl, hp' G' H' b t' R' rfl⟩
  | .dat .non, _, hp' => exact hp'.elim
  | .dat (.int _), _, hp' => exact hp'.elim
  | .dat (.str _), _, hp' => exact hp'.elim
  | .dat (.ty _), _, hp' => exact hp'.elim
  | .dat (.ref _), _, hp' => exact hp'.elim
  | .dat (.tup _), _, hp' => exact hp'.elim
  | .dat (.lst _), _, hp' => exact hp'.elim
  | .dat (.fro _), _, hp' => exact hp'.elim
  | .dat (.dct _), _, hp' => exact hp'.elim
  | .dat (.ins _ _), _, hp' => exact hp'.elim
  | .loc _, _, hp' => exact hp'.elim
  | .nl _, _, hp' => exact hp'.elim
  | .nk _, _, hp' => exact hp'.elim)
/-- a comparison, any expression that gives a truth, as a test -/
theorem pt_cmp {op : CmpOp} {r : R2} {g : DV → DV → Mem → Res R} (ho : OpR X (compareOp op) r) (hd : OpD X.K r g) (ha : PM X W a ta fa) (hb : PM X W b tb fb) (hm : behindInMarks op b = false) : PMT X W (.Compare a [op] [b] pos) (tTest (tOp r ta tb)) (tmB (eOp g fa fb)) :=
  ⟨pt_cmpR ho ha.pe hb.pe hm, snd_tmB (snd_op hd ha.sd hb.sd) fun _ _ _ h => h⟩
theorem pt_of (h : PM X W e te f) (he : ∀ whole, isTrue e X.env whole = (do let v ← whole; standAt e.pos; holding [v] (truthy v)) := by intro _; rfl) : PMT X W e (tB te) (tmB f) :=
  ⟨L2.pt_val h.pe he, snd_tmB h.sd fun _ _ _ h => h⟩
def tmNot (f : TM) : TM := fun δ μ => (f δ μ).bind fun b μ' => .ok (!b) μ'
def tmAnd (f g : TM) : TM := fun δ μ => (f δ μ).bind fun b μ' => if b = true then g δ μ' else .ok false μ'
def tmOr (f g : TM) : TM := fun δ μ => (f δ μ).bind fun b μ' => if b = true then .ok true μ' else g δ μ'
theorem pt_no (h : PMT X W a tt ft) : PMT X W (.UnaryOp .Not a pos) (tNot tt) (tmNot ft) := ⟨L2.pt_not h.pe, fun ρ G H σ δ μ Q R E hp =>
  SndG.seq (t := tt) h.sd R E hp fun b μ' G' H' v t' R' E' q hp' => by subst q; exact hp' G' H' (!v) t' R' rfl⟩
structure PMW (X : Cx) (W : WX) (e : Expr) (tt : TT) (f : TM) : Prop where
  pe : PW X e tt
  sd : SndT X.K W tt f
theorem PMW.t (h : PMW X W e tt ft) : PMT X W e tt ft := ⟨h.pe.pt, h.sd⟩
theorem w_and1 (h : PMT X W a tt ft) : PMW X W (.BoolOp .And [a] pos) tt ft := ⟨pw_and1 h.pe, h.sd⟩
theorem w_or1 (h : PMT X W a tt ft) : PMW X W (.BoolOp .Or [a] pos) tt ft := ⟨pw_or1 h.pe, h.sd⟩
theorem w_and (h : PMT X W a tt ft) (hb : PMW X W (.BoolOp .And (b :: rest) pos) tu fu) : PMW X W (.BoolOp .And (a :: b :: rest) pos) (tAnd tt tu) (tmAnd ft fu) := ⟨pw_and h.pe hb.pe, fun ρ G H σ δ μ Q R E hp => by
  refine SndG.seq (t := tt) h.sd R E hp fun b μ' G' H' v t' R' E' q hp' => ?_
  subst q
  cases v with
  | true => exact hb.sd ρ G' H' σ δ μ' Q R' E' (hp'.shift t' fun _ _ _ _ q => q)
  | false => exact hp' G' H' false t' R' rfl⟩
theorem w_or (h : PMT X W a tt ft) (hb : PMW X W (.BoolOp .Or (b :: rest) pos) tu fu) : PMW X W (.BoolOp .Or (a :: b :: rest) pos) (tOr tt tu) (tmOr ft fu) := ⟨pw_or h.pe hb.pe, fun ρ G H σ δ μ Q R E hp => by
  refine SndG.seq (t := tt) h.sd R E hp fun b μ' G' H' v t' R' E' q hp' => ?_
  subst q
  cases v with
  | true => exact hp' G' H' true t' R' rfl
  | false => exact hb.sd ρ G' H' σ δ μ' Q R' E' (hp'.shift t' fun _ _ _ _ q => q)⟩
/-! ### and, or, not, if as values -/
def asB (r : R) : Option Bool := match r with
  | .dat (.bl b) => some b
  | _ => none
theorem asB_ok {K : PySem.W.Frag} {ρ : Pm} {G H0 H : Hp} {v : V} {r : R} {b : Bool} (h : RpR K ρ G H0 H v r) (e : asB r = some b) : v = .bl b := by
  unfold asB at e
  split at e
  · cases e; cases h; rfl
  · cases e
def eAnd (f g : EM) : EM := fun δ μ => (f δ μ).bind fun r μ' => match asB r with
  | some true => g δ μ'
  | some false => .ok (.dat (.bl false)) μ'
  | none => .bad
def eOr (f g : EM) : EM := fun δ μ => (f δ μ).bind fun r μ' => match asB r with
  | some true => .ok (.dat (.bl true)) μ'
  | some false => g δ μ'
  | none => .bad
def eNot (f : EM) : EM := fun δ μ => (f δ μ).bind fun r μ' => match asB r with
  | some b => .ok (.dat (.bl (!b))) μ'
  | none => .bad
theorem pm_one {op} (h : PM X W a te f) : PM X W (.BoolOp op [a] pos) te f := ⟨pe_one h.pe, h.sd⟩
theorem pm_and (ha : PM X W a ta fa) (hb : PM X W (.BoolOp .And (b :: rest) pos) tb fb) : PM X W (.BoolOp .And (a :: b :: rest) pos) (tAndV ta tb) (eAnd fa fb) := ⟨pe_and ha.pe hb.pe, fun ρ G H σ δ μ Q R E hp => by
  refine SndG.seq (t := ta) ha.sd R E hp fun r μ' G' H' v t' R' E' q hp' => ?_
  match e : asB r with
  | none => rw [e] at hp'; exact hp'.elim
  | some c =>
    rw [e] at hp'
    refine ⟨c, asB_ok q e, ?_⟩
    cases c with
    | true => exact hb.sd ρ G' H' σ δ μ' Q R' E' (hp'.shiftE t')
    | false => exact hp' G' H' _ t' R' (Rp.bl false)⟩
theorem pm_or (ha : PM X W a ta fa) (hb : PM X W (.BoolOp .Or (b :: rest) pos) tb fb) : PM X W (.BoolOp .Or (a :: b :: rest) pos) (tOrV ta tb) (eOr fa fb) := ⟨pe_or ha.pe hb.pe, fun ρ G H σ δ μ Q R E hp => by
  refine SndG.seq (t := ta) ha.sd R E hp fun r μ' G' H' v t' R' E' q hp' => ?_
  match e : asB r with
  | none => rw [e] at hp'; exact hp'.elim
  | some c =>
    rw [e] at hp'
    refine ⟨c, asB_ok q e, ?_⟩
    cases c with
    | true => exact hp' G' H' _ t' R' (Rp.bl true)
    | false => exact hb.sd ρ G' H' σ δ μ' Q R' E' (hp'.shiftE t')⟩
theorem pm_not (ha : PM X W a ta fa) : PM X W (.UnaryOp .Not a pos) (tNotV ta) (eNot fa) := ⟨pe_not ha.pe, fun ρ G H σ δ μ Q R E hp => by
  refine SndG.seq (t := ta) ha.sd R E hp fun r μ' G' H' v t' R' E' q hp' => ?_
  match e : asB r with
  | none => rw [e] at hp'; exact hp'.elim
  | some c => rw [e] at hp'; exact ⟨c, asB_ok q e, hp' G' H' _ t' R' (Rp.bl _)⟩⟩
def eIf (f : TM) (g h : EM) : EM := fun δ μ => (f δ μ).bind fun b μ' => if b = true then g δ μ' else h δ μ'
theorem pm_if {c : Expr} (hc : PMT X W c tt ft) (ha : PM X W a ta fa) (hb : PM X W b tb fb) : PM X W (.IfExp c a b pos) (tIf tt ta tb) (eIf ft fa fb) := ⟨pe_ifExp hc.pe ha.pe hb.pe, fun ρ G H σ δ μ Q R E hp => by
  refine SndG.seq (t := tt) hc.sd R E hp fun b μ' G' H' v t' R' E' q hp' => ?_
  subst q
  cases v with
  | true => exact ha.sd ρ G' H' σ δ μ' Q R' E' (hp'.shiftE t')
  | false => exact hb.sd ρ G' H' σ δ μ' Q R' E' (hp'.shiftE t')⟩
end
end DL
namespace DL
open PySem PySem.Spec PyProof.Rows L2
/-! ### comprehensions -/
def wipeE (δ : Env) : List Nat → Env
  | [] => δ
  | v :: vs => (wipeE δ vs).set v none
def WF : WX := fun _ _ _ _ => False
def lcL (h : D → Env → Option Env) (ft : TM) (fe : EM) (δ : Env) : List D → Mem → Res (List DV)
  | [], μ => .ok [] μ
  | d :: ds, μ => match h d δ with
    | none => .bad
    | some δ1 => match ft δ1 μ with
      | .ok true μ1 => match frzV fe δ1 μ1 with
        | .ok y μ2 => (lcL h ft fe δ ds μ2).bind fun ys μ3 => .ok (y :: ys) μ3
        | _ => .bad
      | .ok false μ1 => lcL h ft fe δ ds μ1
      | _ => .bad
def eLc (fi : IM) (h : D → Env → Option Env) (ft : TM) (fe : EM) (vs : List Nat) : EM := fun δ μ => (fi δ μ).bind fun xs μ' =>
  if xs.length ≤ sizeLine then (lcL h ft fe (wipeE δ vs) xs μ').bind fun ys μ2 => .ok (.nl ys) μ2 else .bad
section
variable {K : PySem.W.Frag} {W : WX} {N M : Nat} {ρ ρ0 ρ1 ρ2 : Pm} {G H G0 H0 G1 H1 G2 H2 : Hp} {σ : Slots} {δ : Env} {μ : Mem} {Dn : Ends}
theorem EnvOk.wipe (E : EnvOk K ρ G σ δ) : ∀ vs : List Nat, EnvOk K ρ G (wipe σ vs) (wipeE δ vs)
  | [] => E
  | v :: vs => by
    have E' := EnvOk.wipe E vs
    refine ⟨?_, fun i x hi => ?_⟩
    · show ((L2.wipe σ vs).set v none).length = ((wipeE δ vs).set v none).length
      rw [List.length_set, List.length_set]; exact E'.len
    · have hi : ((wipeE δ vs).set v none)[i]? = some (some x) := hi
      show ∃ w, ((L2.wipe σ vs).set v none)[i]? = some (some w) ∧ _
      by_cases e : v = i
      · subst e
        by_cases hl : v < (wipeE δ vs).length
        · rw [List.getElem?_set_self hl] at hi; cases hi
        · rw [List.getElem?_eq_none (by rw [List.length_set]; omega)] at hi; cases hi
      · rw [List.getElem?_set_ne e] at hi ⊢
        exact E'.at_ i x hi
theorem Rel.poke {p : Addr} {o : HO} (R : Rel K ρ G H μ) (hg : G p = none) (hn : ∀ n, ρ n ≠ some p) : Rel K ρ G (upd H p o) μ := by
  refine ⟨fun a u h => ?_, R.inj, R.nG, R.lt, fun n a h q => ?_, fun n q h => ?_⟩
  · have e : a ≠ p := fun e => by rw [e, hg] at h; cases h
    rw [upd_ne e]; exact R.ex a u h
  · have e : a ≠ p := fun e => hn n (e ▸ h)
    rw [upd_ne e] at q; exact R.hs n a h q
  · have z := R.pl n q h
    cases q with
    | lst xs => obtain ⟨b, a, vs, h1, h2, h3⟩ := z; exact ⟨b, a, vs, h1, by rw [upd_ne (show a ≠ p from fun e => hn n (e ▸ h1))]; exact h2, h3⟩
    | dct kvs => obtain ⟨b, a, o, vs, h1, h2, h3⟩ := z; exact ⟨b, a, o, vs, h1, by rw [upd_ne (show a ≠ p from fun e => hn n (e ▸ h1))]; exact h2, h3⟩
    | own => obtain ⟨a, b, h1, h2⟩ := z; exact ⟨a, b, h1, by rw [upd_ne (show a ≠ p from fun e => hn n (e ▸ h1))]; exact h2⟩
    | ins nm fs => obtain ⟨b, a, dx, C, vs, m, hm, h1, h2, c, h4, h3⟩ := z; exact ⟨b, a, dx, C, vs, m, hm, h1, by rw [upd_ne (show a ≠ p from fun e => hn n (e ▸ h1))]; exact h2, c, by rw [upd_ne (show dx ≠ p from fun e => hn m (e ▸ hm.2))]; exact h4, h3⟩
    | gone => exact z
theorem Tr.poke {p : Addr} {o : HO} (t : Tr ρ G0 H0 G H) (h0 : H0 p = none) : Tr ρ G0 H0 G (upd H p o) where
  exG := t.exG
  keep := fun a u hn h => by rw [upd_ne (ne_of_none h h0)]; exact t.keep a u hn h
  th := fun a h => by
    by_cases e : a = p
    · rw [e]; exact h0
    · rw [upd_ne e] at h; exact t.th a h
  nG := t.nG
theorem paired_snoc {α β : Type} {P : α → β → Prop} : ∀ {l : List α} {m : List β} {a : α} {b : β}, Paired P l m → P a b → Paired P (l ++ [a]) (m ++ [b])
  | _, _, _, _, .nil, h => .cons h .nil
  | _, _, _, _, .cons r t, h => .cons r (paired_snoc t h)
theorem snd_lc {wi : TI} {fi : IM} {g : TG} {h : D → Env → Option Env} {tv vs : List Nat} {tt : TT} {ft : TM} {te : TE} {fe : EM} (hi : SndI K W wi fi) (hg : TgOk K g h tv) (hv : ∀ i ∈ tv, i ∈ vs) (ht : SndT K WF tt ft) (he : SndE K WF te fe) :
    SndE K W (tLc wi g tt te vs) (eLc fi h ft fe vs) := fun ρ G H σ δ μ Q R E hp => by
  refine SndG.seq (t := wi) hi R E hp fun xs μ0 G0 H0 J t0 R0 E0 it hp0 => ?_
  by_cases hz : xs.length ≤ sizeLine
  case neg => rw [if_neg hz] at hp0; exact hp0.elim
  rw [if_pos hz] at hp0
  intro Dl hD
  obtain ⟨nG0, nρ0⟩ := fresh_ne R0 hD
  have hp0 := hp0.shiftE t0
  refine ⟨fun i m H1 => ∃ G1 μ1 accV pre, Tr ρ G0 H0 G1 H1 ∧ Rel K ρ G1 H1 μ1 ∧ G1 Dl = none ∧ H1 Dl = some (.lst accV) ∧ DvL K ρ G1 accV pre ∧ pre.length ≤ i ∧ m = xs.length - i ∧ i ≤ xs.length ∧
    PostG K W ρ G0 H0 σ (fun G' H' => rpE K ρ G' H0 H') Q ((lcL h ft fe (wipeE δ vs) (xs.drop i) μ1).bind fun ys μ2 => .ok (.nl (pre ++ ys)) μ2), ⟨xs.length, G0, μ0, [], [], (Tr.refl _ _ _).poke hD, R0.poke nG0 nρ0, nG0, upd_same, .nil, by simp, by omega, by omega, ?_⟩, fun i m H1 hW => ?_⟩
  · exact hp0
  obtain ⟨G1, μ1, accV, pre, t1, R1, nG1, eD, dl, hlen, em, hle, hp1⟩ := hW
  obtain ⟨go, stop⟩ := it ρ G1 H1 μ1 R1 t1.exG
  cases e : xs.drop i with
  | nil =>
    rw [e] at hp1
    have hl : xs.length ≤ i := by
      have := congrArg List.length e
      rw [List.length_drop] at this
      simp at this; omega
    simp only [lcL, Res.bind_ok, List.append_nil] at hp1
    exact .inl ⟨stop i hl, hp1 G1 H1 _ t1 R1 ⟨Dl, accV, rfl, eD, dl, nG1, nρ0, hD⟩⟩
  | cons d ds =>
    rw [e] at hp1
    obtain ⟨hd, hds, hlt⟩ := drop_cons e
    obtain ⟨g1, g2⟩ := go i d hd
    refine .inr ⟨g1, fun H' => ∃ m', m' < m ∧ _, fun H' q => q, fun v H2 hy => ?_⟩
    obtain ⟨G2, t2, R2, rp⟩ := g2 v H2 hy
    have E2 : EnvOk K ρ G2 (wipe σ vs) (wipeE δ vs) := (E0.mono (t1.exG.trans t2.exG)).wipe vs
    unfold lcL at hp1
    cases eh : h d (wipeE δ vs) with
    | none => simp only [eh] at hp1; exact hp1.elim
    | some δ1 =>
      simp only [eh] at hp1
      refine hg ρ G2 H2 μ1 _ (wipeE δ vs) δ1 v d _ R2 E2 rp eh fun σ2 E3 hl hσ => ⟨?_, ?_⟩
      · refine (wipe_ext (τ := wipe σ vs) hl fun i hi => hσ i fun z => hi (hv i z)).trans ?_
        exact wipe_ext (by rw [wipe_length]) fun i hi => wipe_out hi
      have nG2 : ∀ {G' H'}, Tr ρ G1 H1 G' H' → G' Dl = none := fun {G' H'} t' => by
        cases q : G' Dl with
        | none => rfl
        | some o => exact ((t'.nG Dl (by rw [q]; simp)).elim (fun z => absurd nG1 z) fun z => by rw [eD] at z; cases z)
      refine ht ρ G2 H2 σ2 δ1 μ1 _ R2 E3 ?_
      cases et : ft δ1 μ1 with
      | exc x μ' => simp only [et] at hp1; exact hp1.elim
      | bad => simp only [et] at hp1; exact hp1.elim
      | ok b μ2 =>
        intro G3 H3 bv t3 R3 eb
        subst eb
        simp only [et] at hp1
        have T3 := t2.trans t3
        cases bv with
        | false =>
          refine ⟨xs.length - (i + 1), by omega, G3, μ2, accV, pre, t1.trans T3, R3, nG2 T3, T3.keep _ _ nρ0 eD, DvL.mono T3.exG (fun _ _ q => q) dl, by omega, rfl, hlt, ?_⟩
          rw [hds]; exact hp1
        | true =>
          refine he.toV ρ G3 H3 σ2 δ1 μ2 _ R3 (E3.mono t3.exG) ?_
          simp only at hp1
          cases ee : frzV fe δ1 μ2 with
          | exc x μ' => simp only [ee] at hp1; exact hp1.elim
          | bad => simp only [ee] at hp1; exact hp1.elim
          | ok y μ3 =>
            simp only [ee] at hp1
            intro G4 H4 yv t4 R4 dy
            have T4 := T3.trans t4
            refine ⟨accV, T4.keep _ _ nρ0 eD, ?_, xs.length - (i + 1), by omega, G4, μ3, accV ++ [yv], pre ++ [y], (t1.trans T4).poke hD, R4.poke (nG2 T4) nρ0, nG2 T4, upd_same, paired_snoc (DvL.mono T4.exG (fun _ _ q => q) dl) dy, ?_, rfl, hlt, ?_⟩
            · rw [paired_len dl]; omega
            · rw [List.length_append, List.length_singleton]; omega
            · rw [hds]
              have z : ((lcL h ft fe (wipeE δ vs) ds μ3).bind fun ys μ2 => Res.ok (DL.R.nl (pre ++ [y] ++ ys)) μ2) = (((lcL h ft fe (wipeE δ vs) ds μ3).bind fun ys μ3 => Res.ok (y :: ys) μ3).bind fun ys μ2 => .ok (DL.R.nl (pre ++ ys)) μ2) := by
                cases lcL h ft fe (wipeE δ vs) ds μ3 <;> simp
              rw [z]; exact hp1
theorem snd_yes : SndT K W tYes (fun _ μ => .ok true μ) := fun ρ G H σ δ μ Q R E hp => hp G H true (Tr.refl _ _ _) R rfl
end
section
variable {X : Cx} {W : WX}
structure PMTs (X : Cx) (W : WX) (ifs : List Expr) (tt : TT) (f : TM) : Prop where
  pe : PTs X ifs tt
  sd : SndT X.K W tt f
def tmYes : TM := fun _ μ => .ok true μ
theorem ts_nil : PMTs X W [] tYes tmYes := ⟨pts_nil, snd_yes⟩
theorem ts_one {c : Expr} {t : TT} {f : TM} (h : PMT X W c t f) : PMTs X W [c] t f := ⟨pts_one h.pe, h.sd⟩
theorem pm_lc {elt tg iter : Expr} {ifs : List Expr} {scope : Scope} {own : List (Str × Nat)} {pos : Pos} {wi : TI} {fi : IM} {g : TG} {h : D → Env → Option Env} {tv : List Nat} {tt : TT} {ft : TM} {te : TE} {fe : EM} (hc : X.calm = true) (hN : X.N.Nodup)
    (hi : PMI X W tg iter wi fi) (ok : BlkOk X.N X.env.scope scope own)
    (hg : ∀ (s : Shared) (H : Hp) (C : Addr) (cl : List (Str × Addr)) (fp : List Addr), PMG (X.blk s H scope (compEnvC scope cl C X.env) fp) tg g h tv)
    (hv : ∀ i ∈ tv, i ∈ own.map (·.2))
    (ht : ∀ (s : Shared) (H : Hp) (C : Addr) (cl : List (Str × Addr)) (fp : List Addr), PMTs (X.blk s H scope (compEnvC scope cl C X.env) fp) WF ifs tt ft)
    (he : ∀ (s : Shared) (H : Hp) (C : Addr) (cl : List (Str × Addr)) (fp : List Addr), PM (X.blk s H scope (compEnvC scope cl C X.env) fp) WF elt te fe)
    (hs : ∀ x, foldedSetIterable iter X.env x = pure x := by intro _; rfl) :
    PM X W (.ListComp elt [⟨tg, iter, ifs, 0⟩] scope pos) (tLc wi g tt te (own.map (·.2))) (eLc fi h ft fe (own.map (·.2))) :=
  ⟨pe_lc hc hN hi.pi ok (fun s H C cl fp => (hg s H C cl fp).pg) (fun s H C cl fp => (ht s H C cl fp).pe) (fun s H C cl fp => (he s H C cl fp).pe) hs,
   snd_lc hi.sd (hg X.s_0 X.H_0 0 [] []).ok hv (ht X.s_0 X.H_0 0 [] []).sd (he X.s_0 X.H_0 0 [] []).sd⟩
/-! ### own defs -/
/-- how a call of a def goes on where it raises -/
abbrev EW (W : WX) : Slots → XK := fun σ cls d H => W cls d σ H
theorem snd_call {K : PySem.W.Frag} {F : List DV → Mem → Res R} {n : Nat} {ta : TA} {fa : AM} (ha : SndA K W ta fa) (hn : ∀ xs μ, F xs μ ≠ .bad → xs.length = n) : SndE K W (tCallSD (spF K n F) [] (EW W) ta) (eCB F fa) := fun ρ G H σ δ μ Q R E hp => by
  refine SndG.seq (t := ta) ha R E hp fun xs μ1 G1 H1 vs t1 R1 E1 d1 hp1 => ?_
  have hp2 := hp1.shiftE t1
  have hb : F xs μ1 ≠ .bad := fun e => by rw [e] at hp2; exact hp2
  show spF K n F (vs ++ []) H1 Q (EW W σ)
  rw [List.append_nil]
  refine ⟨by rw [paired_len d1]; exact hn xs μ1 hb, ρ, G1, μ1, xs, R1, d1, ?_⟩
  cases e : F xs μ1 with
  | ok r μ' => rw [e] at hp2; exact hp2
  | exc x μ' => rw [e] at hp2; exact hp2
  | bad => exact hb e
/-- a def of the text by its name: what it gives, as a function -/
structure FnD (P : Program) (w : World) (K : PySem.W.Frag) (mg : Str → Option Value) (base : Heap) (cx : CXT) (k : Nat) (x : Str) (n : Nat) (F : List DV → Mem → Res R) : Prop where
  ar : ∀ xs μ, F xs μ ≠ .bad → xs.length = n
  ex : ∃ (f : Addr) (fd : FuncData) (ps : List Str), ps.length = n ∧ FnG P w K mg base cx k f fd ps (spF K n F) ∧ mg x = some (.ref f) ∧ PySem.W.keepIn K (.ref f) = true ∧ Binds K fd ps []
theorem pm_call {cx : CXT} {k n : Nat} {x : Str} {F : List DV → Mem → Res R} {e : Expr} {es : List Expr} {ta : TA} {fa : AM} {p pos : Pos} (Fn : FnD X.prog X.w X.K X.mg X.base cx k x n F) (hr : Room k X.A) (hgd : X.A.guards = some []) (hg : Gl X x)
    (hx : ∀ σ, PassesAt cx X σ (EW W σ)) (ha : PMA X W (e :: es) ta fa) (hdb : (x == ("__debug__" : Str)) = false := by decide)
    (he : starEach (e :: es) X.env = (false, eval e X.env) :: starEach es X.env := by rfl) (hpl : (backTo pos (starEach es X.env)).any (·.1) = false := by rfl) :
    PM X W (.Call (.Name x p) (e :: es) [] pos) (tCallSD (spF X.K n F) [] (EW W) ta) (eCB F fa) := by
  obtain ⟨f, fd, ps, hn, G, hm, hk, hb⟩ := Fn.ex
  exact ⟨pe_callG G hr hgd hg hm hk hb .nil hx ha.pe hdb he hpl, snd_call ha.sd Fn.ar⟩
/-- what a body gives, called with n arguments -/
def callD (g : SM) (n m : Nat) : List DV → Mem → Res R := fun xs μ => if xs.length = n then callF g m xs μ else .bad
theorem callD_ar {g : SM} {n m : Nat} (xs : List DV) (μ : Mem) (h : callD g n m xs μ ≠ .bad) : xs.length = n := by
  unfold callD at h
  by_cases e : xs.length = n
  · exact e
  · rw [if_neg e] at h; exact absurd rfl h
theorem sp_callD {K : PySem.W.Frag} {g : SM} {n m : Nat} {vs : List V} {H : Hp} {Q : VK} {E : XK} (h : spF K n (callD g n m) vs H Q E) : spF K n (callF g m) vs H Q E := by
  obtain ⟨hl, ρ, G, μ, xs, R, d, hp⟩ := h
  refine ⟨hl, ρ, G, μ, xs, R, d, ?_⟩
  unfold callD at hp
  rw [if_pos (by rw [← paired_len d]; exact hl)] at hp
  exact hp
variable {P : Program} {w : World} {K : PySem.W.Frag} {mg : Str → Option Value} {base : Heap}
/-- a def that lets no exception out, by its body -/
theorem fn_ok {x qual : Str} {st : Stmt} {f : Addr} {fd : FuncData} {Nm ps : List Str} {k n m : Nat} {g : SM} (F : Fun K x qual st f fd) (S : FnScope Nm ps (defScope st)) (hm : mg x = some (.ref f)) (hn : ps.length = n) (hmn : Nm.length = n + m)
    (hb : ∀ (kV doc pm : Value) (an : Option Addr) (cdv ct : Value) (us : List Value), us.length = ps.length → bindArgs (PySem.W.fnOf x qual (defArgs st) (defBody st) (defScope st) .none kV doc pm an cdv ct) ⟨us, []⟩ = pure (ps.zip us))
    (body : ∀ (cdv : Value) (A : Around) (out : List PySem.Env) (s : Shared) (H : Hp) (E : XK), Room k (A.deeper (envOfC qual (defScope st) s.heap.objs.size f cdv)) → A.guards = some [] →
      ∃ ts, PSMs (cxOf CX0 P w K mg base Nm qual (defScope st) f cdv A out s H E).nox (fun cls d _ H => E cls d H) (defBody st) ts g) :
    FnD P w K mg base CX0 (k + 1) x n (callD g n m) := by
  refine ⟨callD_ar, f, fd, ps, hn, ?_, hm, F.kp, F.binds hb⟩
  obtain ⟨oc, od, kV, doc, pm, an, cdv, ct, osl, rfl, lk, hcd⟩ := F.ex
  refine fnG_of lk hcd S (fun vs H Q E h => by rw [h.1, hn]) fun A out s H vs Q E hr hg hsp => ?_
  obtain ⟨ts, b⟩ := body cdv A out s H E hr hg
  refine ⟨ts, b.ps.nox, ?_⟩
  have e : Nm.length - n = m := by omega
  exact body_ok (n := n) b.sd (by omega) (by rw [e]; exact sp_callD hsp)
theorem pass_0 {X : Cx} {E : Slots → XK} (σ : Slots) : PassesAt CX0 X σ (E σ) := fun _ _ _ _ _ _ h => h.elim
end
end DL
namespace DL
open PySem PySem.Spec PyProof.Rows L2
theorem OpR.or {X : Cx} {f : Value → Value → Sem Value} {r r' : R2} (h : OpR X f r) (h' : OpR X f r') : OpR X f (fun x y H Q => r x y H Q ∨ r' x y H Q) :=
  fun pins s σ H x y v u Q I rx ry q => q.elim (h pins s σ H x y v u Q I rx ry) (h' pins s σ H x y v u Q I rx ry)
theorem CallR.or {X : Cx} {f : Value} {r r' : List V → Hp → VK → Prop} (h : CallR X f r) (h' : CallR X f r') : CallR X f (fun x H Q => r x H Q ∨ r' x H Q) :=
  fun pins s σ H x v Q I rx q => q.elim (h pins s σ H x v Q I rx) (h' pins s σ H x v Q I rx)
theorem SlR.or {X : Cx} {r r' : V → Option Int → Option Int → Hp → VK → Prop} (h : SlR X r) (h' : SlR X r') : SlR X (fun x lo hi H Q => r x lo hi H Q ∨ r' x lo hi H Q) :=
  fun pins s σ H x v vl vu lo hi sl Q I rx a b c q => q.elim (h pins s σ H x v vl vu lo hi sl Q I rx a b c) (h' pins s σ H x v vl vu lo hi sl Q I rx a b c)
/-! ### looking at a value -/
def asL (μ : Mem) : DV → Option (List DV)
  | .dat (.lst ds) => some (ds.map DV.dat)
  | .dat (.fro ds) => some (ds.map DV.dat)
  | .loc n => match μ[n]? with
    | some (.lst xs) => some xs
    | _ => none
  | _ => none
/-- a list that the text itself has made -/
def asM (μ : Mem) : DV → Option (List DV)
  | .dat (.lst ds) => some (ds.map DV.dat)
  | .loc n => match μ[n]? with
    | some (.lst xs) => some xs
    | _ => none
  | _ => none
def asT : DV → Option (List D)
  | .dat (.tup ds) => some ds
  | _ => none
/-- the items of a list or a tuple -/
def asS (μ : Mem) (x : DV) : Option (List DV) := match asL μ x with
  | some xs => some xs
  | none => (asT x).map fun ds => ds.map DV.dat
section
variable {K : PySem.W.Frag} {W : WX} {N M : Nat} {ρ : Pm} {G H : Hp} {σ : Slots} {δ : Env} {μ : Mem} {Q : VK} {v : V} {x : DV}
theorem RpL.dv {vs : List V} {ds : List D} : RpL K G vs ds → DvL K ρ G vs (ds.map DV.dat)
  | .nil => .nil
  | .cons a b => .cons a (RpL.dv b)
theorem asL_ok {xs : List DV} (R : Rel K ρ G H μ) (h : DvOk K ρ G v x) (e : asL μ x = some xs) : ∃ a vs, v = .ref a ∧ SqL K H a vs ∧ DvL K ρ G vs xs := by
  unfold asL at e
  split at e
  · cases e
    cases h with
    | lst h r => exact ⟨_, _, rfl, .inl (.inl (R.ex _ _ h)), r.dv⟩
  · cases e
    cases h with
    | fro h r => exact ⟨_, _, rfl, ex_l R.ex h, r.dv⟩
  · rename_i n
    split at e
    · rename_i q
      cases e
      obtain ⟨a, rfl, hn⟩ := h
      obtain ⟨_, b, vs, h1, h2, h3⟩ := R.pl n _ q
      rw [hn] at h1; cases h1
      exact ⟨a, vs, rfl, .inl (.inl h2), h3⟩
    · cases e
  · cases e
theorem asM_ok {xs : List DV} (R : Rel K ρ G H μ) (h : DvOk K ρ G v x) (e : asM μ x = some xs) : ∃ a vs, v = .ref a ∧ H a = some (.lst vs) ∧ DvL K ρ G vs xs := by
  unfold asM at e
  split at e
  · cases e
    cases h with
    | lst h r => exact ⟨_, _, rfl, R.ex _ _ h, r.dv⟩
  · rename_i n
    split at e
    · rename_i q
      cases e
      obtain ⟨a, rfl, hn⟩ := h
      obtain ⟨_, b, vs, h1, h2, h3⟩ := R.pl n _ q
      rw [hn] at h1; cases h1
      exact ⟨a, vs, rfl, h2, h3⟩
    · cases e
  · cases e
theorem asT_ok {ds : List D} (R : Rel K ρ G H μ) (h : DvOk K ρ G v x) (e : asT x = some ds) : ∃ a vs, v = .ref a ∧ SqT K H a vs ∧ RpL K G vs ds := by
  unfold asT at e
  split at e
  · cases e
    cases h with
    | tup h r => exact ⟨_, _, rfl, ex_t R.ex h, r⟩
  · cases e
theorem asT_eq {ds : List D} (e : asT x = some ds) : x = .dat (.tup ds) := by
  unfold asT at e
  split at e
  · cases e; rfl
  · cases e
/-- a new tuple is laid at p -/
theorem new_tup {G0 H0 : Hp} {p : Addr} {vs : List V} {ds : List D} (R : Rel K ρ G H μ) (t : Tr ρ G0 H0 G H) (hn : H p = none) (r : RpL K G vs ds)
    (hp : PostG K W ρ G0 H0 σ (fun G' H' => rpE K ρ G' H0 H') Q (.ok (.dat (.tup ds)) μ)) : Q (.ref p) (upd H p (.tup vs)) := by
  obtain ⟨R2, t2, ex⟩ := R.layD (o := .tup vs) hn
  exact hp _ _ _ (t.trans t2) R2 (Rp.tup (.inl (.inl upd_same)) (r.mono ex))
theorem asS_ok {xs : List DV} (R : Rel K ρ G H μ) (h : DvOk K ρ G v x) (e : asS μ x = some xs) : ∃ a vs, v = .ref a ∧ (SqL K H a vs ∨ SqT K H a vs) ∧ DvL K ρ G vs xs := by
  unfold asS at e
  split at e
  · rename_i q
    cases e
    obtain ⟨a, vs, h1, h2, h3⟩ := asL_ok R h q
    exact ⟨a, vs, h1, .inl h2, h3⟩
  · cases q : asT x with
    | none => rw [q] at e; cases e
    | some ds =>
      rw [q] at e; cases e
      obtain ⟨a, vs, h1, h2, h3⟩ := asT_ok R h q
      exact ⟨a, vs, h1, .inr h2, h3.dv⟩
theorem DvL.get' : ∀ {vs : List V} {xs : List DV} {i : Nat} {y : DV}, DvL K ρ G vs xs → xs[i]? = some y → ∃ w, vs[i]? = some w ∧ DvOk K ρ G w y
  | _, _, _, _, .nil, h => by simp at h
  | _, _, 0, _, .cons a _, h => by cases h; exact ⟨_, rfl, a⟩
  | _, _, i + 1, v, .cons _ b, h => DvL.get' (i := i) b h
theorem DvL.take {vs : List V} {xs : List DV} (h : DvL K ρ G vs xs) (n : Nat) : DvL K ρ G (vs.take n) (xs.take n) := by
  induction h generalizing n with
  | nil => simp; exact .nil
  | cons a _ ih =>
    cases n with
    | zero => exact .nil
    | succ n => exact .cons a (ih n)
theorem DvL.drop {vs : List V} {xs : List DV} (h : DvL K ρ G vs xs) (n : Nat) : DvL K ρ G (vs.drop n) (xs.drop n) := by
  induction h generalizing n with
  | nil => simp; exact .nil
  | cons a b ih =>
    cases n with
    | zero => exact .cons a b
    | succ n => exact ih n
theorem DvL.append {vs ws : List V} {xs ys : List DV} (h : DvL K ρ G vs xs) (h' : DvL K ρ G ws ys) : DvL K ρ G (vs ++ ws) (xs ++ ys) := by
  induction h with
  | nil => exact h'
  | cons a _ ih => exact .cons a ih
theorem PostG.okD {d : D} (h : PostG K W ρ G H σ (fun G' H' => rpE K ρ G' H H') Q (.ok (.dat d) μ)) (R : Rel K ρ G H μ) (r : Rp K G v d) : Q v H := h G H v (Tr.refl _ _ _) R r
theorem PostG.okV {y : DV} (h : PostG K W ρ G H σ (fun G' H' => rpE K ρ G' H H') Q (.ok (ofV y) μ)) (R : Rel K ρ G H μ) (r : DvOk K ρ G v y) : Q v H := h G H v (Tr.refl _ _ _) R (RpR.ofV r)
/-! ### ints -/
def asI : DV → Option Int
  | .dat (.int i) => some i
  | _ => none
def asStr : DV → Option Str
  | .dat (.str i) => some i
  | _ => none
def asBl : DV → Option Bool
  | .dat (.bl i) => some i
  | _ => none
theorem asI_ok {i : Int} (h : DvOk K ρ G v x) (e : asI x = some i) : v = .int i := by
  unfold asI at e
  split at e
  · cases e; cases h; rfl
  · cases e
theorem asStr_ok {i : Str} (h : DvOk K ρ G v x) (e : asStr x = some i) : v = .str i := by
  unfold asStr at e
  split at e
  · cases e; cases h; rfl
  · cases e
theorem asBl_ok {i : Bool} (h : DvOk K ρ G v x) (e : asBl x = some i) : v = .bl i := by
  unfold asBl at e
  split at e
  · cases e; cases h; rfl
  · cases e
def d2I (C : Int → Int → Bool) (g : Int → Int → D) (x y : DV) (μ : Mem) : Res R := match asI x with
  | none => .bad
  | some i => match asI y with
    | none => .bad
    | some j => if C i j = true then .ok (.dat (g i j)) μ else .bad
theorem od_I {C : Int → Int → Prop} {Cb : Int → Int → Bool} {g : Int → Int → V} {gd : Int → Int → D} (hC : ∀ i j, Cb i j = true → C i j) (hg : ∀ G i j, Rp K G (g i j) (gd i j)) : OpD K (rI C g) (d2I Cb gd) := fun W ρ G H σ μ v w x y Q R hx hy hp => by
  unfold d2I at hp
  cases e1 : asI x with
  | none => rw [e1] at hp; exact hp.elim
  | some i =>
    rw [e1] at hp
    cases e2 : asI y with
    | none => rw [e2] at hp; exact hp.elim
    | some j =>
      rw [e2] at hp
      by_cases c : Cb i j = true
      · simp only [if_pos c] at hp; exact ⟨i, j, asI_ok hx e1, asI_ok hy e2, hC i j c, hp.okD R (hg G i j)⟩
      · simp only [if_neg c] at hp; exact hp.elim
theorem od_I0 {g : Int → Int → V} {gd : Int → Int → D} (hg : ∀ G i j, Rp K G (g i j) (gd i j)) : OpD K (rI0 g) (d2I (fun _ _ => true) gd) := fun W ρ G H σ μ v w x y Q R hx hy hp => by
  obtain ⟨i, j, h1, h2, _, q⟩ := od_I (C := fun _ _ => True) (fun _ _ _ => trivial) hg W ρ G H σ μ v w x y Q R hx hy hp
  exact ⟨i, j, h1, h2, q⟩
abbrev dSub : DV → DV → Mem → Res R := d2I (fun _ _ => true) fun i j => .int (i - j)
def cMul (i j : Int) : Bool := decide (-2 ^ 64 < i ∧ i < 2 ^ 64) || decide (-2 ^ 64 < j ∧ j < 2 ^ 64)
abbrev dMul : DV → DV → Mem → Res R := d2I cMul fun i j => .int (i * j)
abbrev dMod : DV → DV → Mem → Res R := d2I (fun _ j => decide (0 < j)) fun i j => .int (i % j)
abbrev dDiv : DV → DV → Mem → Res R := d2I (fun _ j => decide (0 < j ∧ j < 1073741824)) fun i j => .int (i / j)
abbrev dLt : DV → DV → Mem → Res R := d2I (fun _ _ => true) fun i j => .bl (decide (i < j))
abbrev dLe : DV → DV → Mem → Res R := d2I (fun _ _ => true) fun i j => .bl (decide (i ≤ j))
abbrev dGt : DV → DV → Mem → Res R := d2I (fun _ _ => true) fun i j => .bl (decide (j < i))
abbrev dGe : DV → DV → Mem → Res R := d2I (fun _ _ => true) fun i j => .bl (decide (j ≤ i))
theorem od_sub : OpD K (rI0 fun i j => V.int (i - j)) dSub := od_I0 fun _ _ _ => .int _
theorem od_mul : OpD K (rI CMul fun i j => V.int (i * j)) dMul := od_I (fun i j h => by
  unfold cMul at h
  rw [Bool.or_eq_true, decide_eq_true_eq, decide_eq_true_eq] at h
  exact h) fun _ _ _ => .int _
theorem od_mod : OpD K (rI (fun _ j => 0 < j) fun i j => V.int (i % j)) dMod := od_I (fun i j h => of_decide_eq_true h) fun _ _ _ => .int _
theorem od_div : OpD K (rI CDiv fun i j => V.int (i / j)) dDiv := od_I (fun i j h => by
  have := of_decide_eq_true h
  exact ⟨by omega, by omega⟩) fun _ _ _ => .int _
theorem od_lt : OpD K (rI0 fun i j => V.bl (decide (i < j))) dLt := od_I0 fun _ _ _ => .bl _
theorem od_le : OpD K (rI0 fun i j => V.bl (decide (i ≤ j))) dLe := od_I0 fun _ _ _ => .bl _
theorem od_gt : OpD K (rI0 fun i j => V.bl (decide (j < i))) dGt := od_I0 fun _ _ _ => .bl _
theorem od_ge : OpD K (rI0 fun i j => V.bl (decide (j ≤ i))) dGe := od_I0 fun _ _ _ => .bl _
/-! ### + -/
def rPlus (K : PySem.W.Frag) : R2 := fun x y H Q => (rI0 (fun i j => V.int (i + j)) x y H Q ∨ rCat x y H Q) ∨
  (rCatA K x y H Q ∨ ∃ i j, x = V.str i ∧ y = V.str j ∧ i.length + j.length ≤ sizeLine ∧ Q (V.str (i ++ j)) H)
theorem op_plus {X : Cx} : OpR X (binaryOp .Add) (rPlus X.K) := OpR.or (OpR.or op_add op_cat) (OpR.or op_catA op_add_str)
def dAdd (x y : DV) (μ : Mem) : Res R := match asI x, asI y with
  | some i, some j => .ok (.dat (.int (i + j))) μ
  | _, _ => match asStr x, asStr y with
    | some i, some j => if i.length + j.length ≤ sizeLine then .ok (.dat (.str (i ++ j))) μ else .bad
    | _, _ => match asT x, asT y with
      | some a, some b => if a.length + b.length ≤ sizeLine then .ok (.dat (.tup (a ++ b))) μ else .bad
      | _, _ => match asM μ x, asM μ y with
        | some a, some b => if a.length + b.length ≤ sizeLine then .ok (.nl (a ++ b)) μ else .bad
        | _, _ => .bad
theorem od_add : OpD K (rPlus K) dAdd := fun W ρ G H σ μ v w x y Q R hx hy hp => by
  unfold dAdd at hp
  split at hp
  · rename_i i j e1 e2
    exact .inl (.inl ⟨i, j, asI_ok hx e1, asI_ok hy e2, hp.okD R (.int _)⟩)
  split at hp
  · rename_i i j e1 e2
    by_cases c : i.length + j.length ≤ sizeLine
    · rw [if_pos c] at hp; exact .inr (.inr ⟨i, j, asStr_ok hx e1, asStr_ok hy e2, c, hp.okD R (.str _)⟩)
    · rw [if_neg c] at hp; exact hp.elim
  split at hp
  · rename_i a b e1 e2
    by_cases c : a.length + b.length ≤ sizeLine
    · rw [if_pos c] at hp
      obtain ⟨p, vs, rfl, h2, h3⟩ := asT_ok R hx e1
      obtain ⟨q, ws, rfl, k2, k3⟩ := asT_ok R hy e2
      refine .inr (.inl ⟨p, q, vs, ws, rfl, rfl, h2, k2, by rw [h3.length, k3.length]; exact c, fun z => ?_, fun _ z => ?_, fun _ _ t ht => ?_⟩)
      · subst z
        cases h3
        rw [asT_eq e2] at hy
        exact hp.okD R hy
      · subst z
        cases k3
        rw [List.append_nil] at hp
        rw [asT_eq e1] at hx
        exact hp.okD R hx
      · exact new_tup R (Tr.refl _ _ _) ht (h3.append k3) hp
    · rw [if_neg c] at hp; exact hp.elim
  split at hp
  · rename_i a b e1 e2
    by_cases c : a.length + b.length ≤ sizeLine
    · rw [if_pos c] at hp
      obtain ⟨p, vs, rfl, h2, h3⟩ := asM_ok R hx e1
      obtain ⟨q, ws, rfl, k2, k3⟩ := asM_ok R hy e2
      exact .inl (.inr ⟨p, q, vs, ws, rfl, rfl, h2, k2, by rw [paired_len h3, paired_len k3]; exact c, fun t ht => new_list R (Tr.refl _ _ _) ht (h3.append k3) hp⟩)
    · rw [if_neg c] at hp; exact hp.elim
  exact hp.elim
/-! ### subscripts -/
def dIx (x y : DV) (μ : Mem) : Res R := match asI y with
  | none => .bad
  | some i => match asS μ x with
    | some xs => match atI xs i with
      | some z => .ok (ofV z) μ
      | none => .bad
    | none => match asStr x with
      | some z => if z.length ≤ sizeLine then match atI z.cps.toList i with
          | some c => .ok (.dat (.str ⟨#[c]⟩)) μ
          | none => .bad
        else .bad
      | none => .bad
theorem atI_dv {vs : List V} {xs : List DV} {i : Int} {y : DV} (h : DvL K ρ G vs xs) (e : atI xs i = some y) : ∃ w, atI vs i = some w ∧ DvOk K ρ G w y := by
  unfold atI at e ⊢
  rw [paired_len h]
  cases q : ixN xs.length i with
  | none => rw [q] at e; cases e
  | some j => rw [q] at e; exact DvL.get' h e
theorem od_ix : OpD K (rIx K) dIx := fun W ρ G H σ μ v w x y Q R hx hy hp => by
  unfold dIx at hp
  cases e1 : asI y with
  | none => rw [e1] at hp; exact hp.elim
  | some i =>
    rw [e1] at hp
    have ew := asI_ok hy e1
    cases e2 : asS μ x with
    | some xs =>
      simp only [e2] at hp
      obtain ⟨a, vs, rfl, h2, h3⟩ := asS_ok R hx e2
      cases e3 : atI xs i with
      | none => rw [e3] at hp; exact hp.elim
      | some z =>
        rw [e3] at hp
        obtain ⟨u, q1, q2⟩ := atI_dv h3 e3
        rcases h2 with h2 | h2
        · exact .inl ⟨a, vs, i, u, rfl, ew, h2, q1, hp.okV R q2⟩
        · exact .inr (.inl ⟨a, vs, i, u, rfl, ew, h2, q1, hp.okV R q2⟩)
    | none =>
      simp only [e2] at hp
      cases e3 : asStr x with
      | none => rw [e3] at hp; exact hp.elim
      | some z =>
        simp only [e3] at hp
        by_cases c : z.length ≤ sizeLine
        · rw [if_pos c] at hp
          cases e4 : atI z.cps.toList i with
          | none => rw [e4] at hp; exact hp.elim
          | some k => rw [e4] at hp; exact .inr (.inr ⟨z, i, k, asStr_ok hx e3, ew, c, e4, hp.okD R (.str _)⟩)
        · rw [if_neg c] at hp; exact hp.elim
/-! ### slices -/
def cutL {α : Type} (xs : List α) (lo hi : Option Int) : List α := (xs.drop (HT.sIx xs.length 0 lo)).take (HT.sIx xs.length xs.length hi - HT.sIx xs.length 0 lo)
def rSl (K : PySem.W.Frag) : V → Option Int → Option Int → Hp → VK → Prop := fun x lo hi H Q => (rSlL K x lo hi H Q ∨ rSlA K x lo hi H Q) ∨ rSlS x lo hi H Q
theorem sl_any {X : Cx} : SlR X (rSl X.K) := SlR.or (SlR.or sl_list sl_tupA) sl_str
def dSl (x : DV) (lo hi : Option Int) (μ : Mem) : Res R := match asL μ x with
  | some xs => .ok (.nl (cutL xs lo hi)) μ
  | none => match asT x with
    | some ds => .ok (.dat (.tup (cutL ds lo hi))) μ
    | none => match asStr x with
      | some z => if z.length ≤ sizeLine then .ok (.dat (.str (cutS z lo hi))) μ else .bad
      | none => .bad
theorem cutL_full {α : Type} {xs : List α} {lo hi : Option Int} (h : HT.sIx xs.length 0 lo = 0 ∧ HT.sIx xs.length xs.length hi = xs.length) : cutL xs lo hi = xs := by
  unfold cutL; rw [h.1, h.2]; simp
theorem dvl_cut {vs : List V} {xs : List DV} {lo hi : Option Int} (h : DvL K ρ G vs xs) : DvL K ρ G (L2.cutV vs lo hi) (cutL xs lo hi) := by
  unfold L2.cutV cutL
  rw [paired_len h]
  exact (h.drop _).take _
theorem rpl_cut {vs : List V} {xs : List D} {lo hi : Option Int} (h : RpL K G vs xs) : RpL K G (L2.cutV vs lo hi) (cutL xs lo hi) := by
  unfold L2.cutV cutL
  rw [h.length]
  exact (h.drop _).take _
theorem od_sl {lo hi : Option Int} (R : Rel K ρ G H μ) (hx : DvOk K ρ G v x) (hp : PostG K W ρ G H σ (fun G' H' => rpE K ρ G' H H') Q (dSl x lo hi μ)) : rSl K v lo hi H Q := by
  unfold dSl at hp
  split at hp
  · rename_i xs e
    obtain ⟨a, vs, rfl, h2, h3⟩ := asL_ok R hx e
    exact .inl (.inl ⟨a, vs, rfl, h2, fun p hn => new_list R (Tr.refl _ _ _) hn (dvl_cut h3) hp⟩)
  split at hp
  · rename_i ds e
    obtain ⟨a, vs, rfl, h2, h3⟩ := asT_ok R hx e
    refine .inl (.inr ⟨a, vs, rfl, h2, fun z => ?_, fun _ p hn => new_tup R (Tr.refl _ _ _) hn (rpl_cut h3) hp⟩)
    rw [h3.length] at z
    rw [cutL_full z] at hp
    rw [asT_eq e] at hx
    exact hp.okD R hx
  split at hp
  · rename_i z e
    by_cases c : z.length ≤ sizeLine
    · rw [if_pos c] at hp; exact .inr ⟨z, asStr_ok hx e, c, hp.okD R (.str _)⟩
    · rw [if_neg c] at hp; exact hp.elim
  exact hp.elim
abbrev OM := Env → Mem → Res (Option Int)
abbrev SndO (K : PySem.W.Frag) (W : WX) (t : TO) (f : OM) : Prop := SndG K W t f rpT
def oNone : OM := fun _ μ => .ok none μ
def oSome (f : EM) : OM := fun δ μ => (frzV f δ μ).bind fun x μ' => match asI x with
  | some i => .ok (some i) μ'
  | none => .bad
def eSl (f : EM) (lo hi : OM) : EM := fun δ μ => (frzV f δ μ).bind fun x μ1 => (lo δ μ1).bind fun l μ2 => (hi δ μ2).bind fun u μ3 => dSl x l u μ3
end
structure PMO (X : Cx) (W : WX) (e : Option Expr) (t : TO) (f : OM) : Prop where
  po : PO X e t
  sd : SndO X.K W t f
section
variable {X : Cx} {W : WX} {pos p2 : Pos} {e : Expr} {lo hi : Option Expr} {te : TE} {tl th : TO} {f : EM} {fl fh : OM}
theorem mo_none : PMO X W none tNoPart oNone := ⟨po_none, fun ρ G H σ δ μ Q R E hp => hp G H none (Tr.refl _ _ _) R rfl⟩
theorem mo_some (h : PM X W e te f) : PMO X W (some e) (tPart te) (oSome f) := ⟨po_some h.pe, fun ρ G H σ δ μ Q R E hp => by
  refine SndG.seq (t := te) h.sd.toV R E hp fun x μ1 G1 H1 v t1 R1 E1 d1 hp1 => ?_
  cases e : asI x with
  | none => rw [e] at hp1; exact hp1.elim
  | some i => rw [e] at hp1; exact ⟨i, asI_ok d1 e, hp1 G1 H1 _ t1 R1 rfl⟩⟩
theorem pm_sl (h : PM X W e te f) (hl : PMO X W lo tl fl) (hh : PMO X W hi th fh) : PM X W (.Subscript e (.Slice lo hi none p2) pos) (tSl (rSl X.K) te tl th) (eSl f fl fh) := ⟨pe_slice sl_any h.pe hl.po hh.po, fun ρ G H σ δ μ Q R E hp => by
  refine SndG.seq (t := te) h.sd.toV R E hp fun x μ1 G1 H1 v t1 R1 E1 d1 hp1 => ?_
  refine SndG.seq (t := tl) hl.sd R1 E1 (hp1.shiftE t1) fun l μ2 G2 H2 lv t2 R2 E2 d2 hp2 => ?_
  refine SndG.seq (t := th) hh.sd R2 E2 (hp2.shiftE t2) fun u μ3 G3 H3 uv t3 R3 E3 d3 hp3 => ?_
  subst d2 d3
  exact od_sl R3 (d1.mono (t2.exG.trans t3.exG) fun _ _ q => q) (hp3.shiftE t3)⟩
theorem pm_add {a b : Expr} {ta tb : TE} {fa fb : EM} (ha : PM X W a ta fa) (hb : PM X W b tb fb) : PM X W (.BinOp a .Add b pos) (tOp (rPlus X.K) ta tb) (eOp dAdd fa fb) := pm_op op_plus od_add ha hb
theorem pm_sub {a b : Expr} {ta tb : TE} {fa fb : EM} (ha : PM X W a ta fa) (hb : PM X W b tb fb) : PM X W (.BinOp a .Sub b pos) (tOp (rI0 fun i j => V.int (i - j)) ta tb) (eOp dSub fa fb) := pm_op op_sub od_sub ha hb
theorem pm_mul {a b : Expr} {ta tb : TE} {fa fb : EM} (ha : PM X W a ta fa) (hb : PM X W b tb fb) : PM X W (.BinOp a .Mult b pos) (tOp (rI CMul fun i j => V.int (i * j)) ta tb) (eOp dMul fa fb) := pm_op op_mul od_mul ha hb
theorem pm_mod {a b : Expr} {ta tb : TE} {fa fb : EM} (ha : PM X W a ta fa) (hb : PM X W b tb fb) : PM X W (.BinOp a .Mod b pos) (tOp (rI (fun _ j => 0 < j) fun i j => V.int (i % j)) ta tb) (eOp dMod fa fb) := pm_op op_mod od_mod ha hb
theorem pm_div {a b : Expr} {ta tb : TE} {fa fb : EM} (ha : PM X W a ta fa) (hb : PM X W b tb fb) : PM X W (.BinOp a .FloorDiv b pos) (tOp (rI CDiv fun i j => V.int (i / j)) ta tb) (eOp dDiv fa fb) := pm_op op_fdiv od_div ha hb
theorem pm_idx {a b : Expr} {ta tb : TE} {fa fb : EM} (ha : PM X W a ta fa) (hb : PM X W b tb fb) (hs : PlainIx b) : PM X W (.Subscript a b pos) (tOp (rIx X.K) ta tb) (eOp dIx fa fb) := pm_ix ix_seq od_ix ha hb hs
end
end DL
namespace DL
open PySem PySem.Spec PyProof.Rows L2
/-! ### data to be compared and shown -/
mutual
def toPy : D → Option PyData
  | .non => some .none
  | .bl b => some (.bool b)
  | .int i => some (.int i)
  | .str s => some (.str s)
  | .tup xs => (toPyL xs).map .tuple
  | .lst xs => (toPyL xs).map .list
  | .fro xs => (toPyL xs).map .list
  | .ty _ => none
  | .ref _ => none
  | .dct _ => none
  | .ins _ _ => none
def toPyL : List D → Option (List PyData)
  | [] => some []
  | x :: xs => match toPy x with
    | none => none
    | some p => (toPyL xs).map (p :: ·)
end
def peekL (f : DV → Option D) : List DV → Option (List D)
  | [] => some []
  | x :: xs => match f x with
    | none => none
    | some d => (peekL f xs).map (d :: ·)
def peekK : Nat → Mem → DV → Option D
  | _, _, .dat d => some d
  | 0, _, .loc _ => none
  | k + 1, μ, .loc n => match μ[n]? with
    | some (.lst xs) => (peekL (peekK k μ) xs).map .lst
    | _ => none
def peek (μ : Mem) (x : DV) : Option D := peekK 5 μ x
def peekPy (μ : Mem) (x : DV) : Option PyData := (peek μ x).bind toPy
section
variable {K : PySem.W.Frag} {W : WX} {N M : Nat} {ρ : Pm} {G H : Hp} {σ : Slots} {δ : Env} {μ : Mem} {Q : VK} {v w : V} {x y : DV}
mutual
theorem Rp.dp : ∀ {v : V} {d : D} {p : PyData}, Rp K G v d → toPy d = some p → Dp K G v p
  | _, _, _, .non, e => by cases e; exact .non
  | _, _, _, .bl b, e => by cases e; exact .bl b
  | _, _, _, .int i, e => by cases e; exact .int i
  | _, _, _, .str s, e => by cases e; exact .str s
  | _, _, _, .ty n, e => by cases e
  | _, _, _, .ref a, e => by cases e
  | _, _, _, .tup (ds := ds) h r, e => by
    simp only [toPy] at e
    cases q : toPyL ds with
    | none => rw [q] at e; cases e
    | some ps => rw [q] at e; cases e; exact .tup h (RpL.dp r q)
  | _, _, _, .lst (ds := ds) h r, e => by
    simp only [toPy] at e
    cases q : toPyL ds with
    | none => rw [q] at e; cases e
    | some ps => rw [q] at e; cases e; exact .lst (.inl (.inl h)) (RpL.dp r q)
  | _, _, _, .fro (ds := ds) h r, e => by
    simp only [toPy] at e
    cases q : toPyL ds with
    | none => rw [q] at e; cases e
    | some ps => rw [q] at e; cases e; exact .lst h (RpL.dp r q)
  | _, _, _, .dct _ _ _, e => by cases e
  | _, _, _, .ins _ _ _ _ _, e => by cases e
theorem RpL.dp : ∀ {vs : List V} {ds : List D} {ps : List PyData}, RpL K G vs ds → toPyL ds = some ps → DpAll K G vs ps
  | _, _, _, .nil, e => by cases e; exact .nil
  | _, _, _, .cons (d := d) (ds := ds) a b, e => by
    simp only [toPyL] at e
    cases q : toPy d with
    | none => rw [q] at e; cases e
    | some p =>
      rw [q] at e
      cases q2 : toPyL ds with
      | none => rw [q2] at e; cases e
      | some ps => rw [q2] at e; cases e; exact .cons (Rp.dp a q) (RpL.dp b q2)
end
theorem peekL_ok {f : DV → Option D} (hf : ∀ v x d, DvOk K ρ G v x → f x = some d → Rp K H v d) : ∀ {vs : List V} {xs : List DV} {ds : List D}, DvL K ρ G vs xs → peekL f xs = some ds → RpL K H vs ds
  | _, _, _, .nil, e => by cases e; exact .nil
  | _, x :: xs, ds, .cons a b, e => by
    unfold peekL at e
    cases q : f x with
    | none => rw [q] at e; cases e
    | some d =>
      rw [q] at e
      cases q2 : peekL f xs with
      | none => rw [q2] at e; cases e
      | some es => rw [q2] at e; cases e; exact .cons (hf _ _ _ a q) (peekL_ok hf b q2)
theorem peekK_ok (R : Rel K ρ G H μ) : ∀ (k : Nat) (v : V) (x : DV) (d : D), DvOk K ρ G v x → peekK k μ x = some d → Rp K H v d
  | k, v, .dat d', d, h, e => by
    have : peekK k μ (.dat d') = some d' := by cases k <;> rfl
    rw [this] at e; cases e; exact Rp.mono R.ex h
  | 0, v, .loc n, d, h, e => by cases e
  | k + 1, v, .loc n, d, h, e => by
    unfold peekK at e
    split at e
    · rename_i xs q
      cases qa : peekL (peekK k μ) xs with
      | none => rw [qa] at e; cases e
      | some ds =>
        rw [qa] at e; cases e
        obtain ⟨a, rfl, hn⟩ := h
        obtain ⟨_, b, vs, h1, h2, h3⟩ := R.pl n _ q
        rw [hn] at h1; cases h1
        exact Rp.lst h2 (peekL_ok (fun v x d => peekK_ok R k v x d) h3 qa)
    · cases e
theorem peek_ok {d : D} (R : Rel K ρ G H μ) (h : DvOk K ρ G v x) (e : peek μ x = some d) : Rp K H v d := peekK_ok R 5 v x d h e
theorem peekPy_ok {p : PyData} (R : Rel K ρ G H μ) (h : DvOk K ρ G v x) (e : peekPy μ x = some p) : Dp K H v p := by
  unfold peekPy at e
  cases q : peek μ x with
  | none => rw [q] at e; cases e
  | some d => rw [q] at e; exact Rp.dp (peek_ok R h q) e
def dEqB (b : Bool) (x y : DV) (μ : Mem) : Res R := match peekPy μ x with
  | none => .bad
  | some p => match peekPy μ y with
    | none => .bad
    | some q => if SeqAt.shaped p = true ∧ SeqAt.shaped q = true then .ok (.dat (.bl (PyData.eqv p q == b))) μ else .bad
def dEqS (b : Bool) (x y : DV) (μ : Mem) : Res R := match asStr x with
  | none => dEqB b x y μ
  | some s => match asStr y with
    | none => dEqB b x y μ
    | some t => .ok (.dat (.bl (decide (s = t) == b))) μ
abbrev dEq : DV → DV → Mem → Res R := dEqS true
abbrev dNe : DV → DV → Mem → Res R := dEqS false
def rEqQ (K : PySem.W.Frag) : R2 := fun x y H Q => rEq x y H Q ∨ rEqD K x y H Q
def rNeQ (K : PySem.W.Frag) : R2 := fun x y H Q => rNe x y H Q ∨ rNeD K x y H Q
theorem op_eqQ {X : Cx} (h : X.A.units + 64 < cLine) : OpR X (compareOp .Eq) (rEqQ X.K) := OpR.or op_eq (op_eqD h)
theorem op_neQ {X : Cx} (h : X.A.units + 64 < cLine) : OpR X (compareOp .NotEq) (rNeQ X.K) := OpR.or op_ne (op_neD h)
theorem od_eqB (b : Bool) (R : Rel K ρ G H μ) (hx : DvOk K ρ G v x) (hy : DvOk K ρ G w y) (hp : PostG K W ρ G H σ (fun G' H' => rpE K ρ G' H H') Q (dEqB b x y μ)) :
    ∃ d e, Dp K H v d ∧ Dp K H w e ∧ SeqAt.shaped d = true ∧ SeqAt.shaped e = true ∧ Q (.bl (PyData.eqv d e == b)) H := by
  unfold dEqB at hp
  cases e1 : peekPy μ x with
  | none => rw [e1] at hp; exact hp.elim
  | some p =>
    rw [e1] at hp
    cases e2 : peekPy μ y with
    | none => rw [e2] at hp; exact hp.elim
    | some q =>
      rw [e2] at hp
      by_cases c : SeqAt.shaped p = true ∧ SeqAt.shaped q = true
      · simp only [if_pos c] at hp
        exact ⟨p, q, peekPy_ok R hx e1, peekPy_ok R hy e2, c.1, c.2, hp.okD R (.bl _)⟩
      · simp only [if_neg c] at hp; exact hp.elim
theorem od_eqS (b : Bool) (R : Rel K ρ G H μ) (hx : DvOk K ρ G v x) (hy : DvOk K ρ G w y) (hp : PostG K W ρ G H σ (fun G' H' v r => rpE K ρ G' H H' v r) Q (dEqS b x y μ)) :
    (scal v w = true ∧ Q (.bl (decide (v = w) == b)) H) ∨ ∃ d e, Dp K H v d ∧ Dp K H w e ∧ SeqAt.shaped d = true ∧ SeqAt.shaped e = true ∧ Q (.bl (PyData.eqv d e == b)) H := by
  unfold dEqS at hp
  cases e1 : asStr x with
  | none => rw [e1] at hp; exact .inr (od_eqB b R hx hy hp)
  | some s =>
    rw [e1] at hp
    cases e2 : asStr y with
    | none => rw [e2] at hp; exact .inr (od_eqB b R hx hy hp)
    | some t =>
      rw [e2] at hp
      rw [asStr_ok hx e1, asStr_ok hy e2]
      have : decide (V.str s = V.str t) = decide (s = t) := by rw [Bool.eq_iff_iff]; simp
      exact .inl ⟨rfl, by rw [this]; exact hp G H _ (Tr.refl _ _ _) R (Rp.bl _)⟩
theorem od_eq : OpD K (rEqQ K) dEq := fun W ρ G H σ μ v w x y Q R hx hy hp => by
  rcases od_eqS true R hx hy hp with ⟨h1, h2⟩ | ⟨d, e, h1, h2, h3, h4, h5⟩
  · exact .inl ⟨h1, by simpa using h2⟩
  · exact .inr ⟨d, e, h1, h2, h3, h4, by simpa using h5⟩
theorem od_ne : OpD K (rNeQ K) dNe := fun W ρ G H σ μ v w x y Q R hx hy hp => by
  rcases od_eqS false R hx hy hp with ⟨h1, h2⟩ | ⟨d, e, h1, h2, h3, h4, h5⟩
  · exact .inl ⟨h1, by
      have z : ((decide (v = w)) == false) = !decide (v = w) := by cases decide (v = w) <;> rfl
      rw [← z]; exact h2⟩
  · exact .inr ⟨d, e, h1, h2, h3, h4, by
      have z : (PyData.eqv d e == false) = !PyData.eqv d e := by cases PyData.eqv d e <;> rfl
      rw [← z]; exact h5⟩
def isNon : DV → Bool
  | .dat .non => true
  | _ => false
theorem isNon_ok (h : DvOk K ρ G v x) : decide (v = .non) = isNon x := by
  cases x with
  | loc n => obtain ⟨a, rfl, _⟩ := h; rfl
  | dat d => cases h <;> rfl
def eIsN (f : EM) : EM := fun δ μ => (frzV f δ μ).bind fun x μ' => .ok (.dat (.bl (isNon x))) μ'
def eNotN (f : EM) : EM := fun δ μ => (frzV f δ μ).bind fun x μ' => .ok (.dat (.bl (!isNon x))) μ'
theorem snd_isN {ta : TE} {f : EM} (h : SndE K W ta f) : SndE K W (tIsN ta) (eIsN f) := fun ρ G H σ δ μ Q R E hp => by
  refine SndG.seq (t := ta) h.toV R E hp fun x μ1 G1 H1 v t1 R1 E1 d1 hp1 => ?_
  rw [isNon_ok d1]
  exact hp1 G1 H1 _ t1 R1 (Rp.bl _)
theorem snd_notN {ta : TE} {f : EM} (h : SndE K W ta f) : SndE K W (tNotN ta) (eNotN f) := fun ρ G H σ δ μ Q R E hp => by
  refine SndG.seq (t := ta) h.toV R E hp fun x μ1 G1 H1 v t1 R1 E1 d1 hp1 => ?_
  rw [isNon_ok d1]
  exact hp1 G1 H1 _ t1 R1 (Rp.bl _)
/-! ### in -/
def flat : DV → Option V
  | .dat .non => some .non
  | .dat (.bl b) => some (.bl b)
  | .dat (.int i) => some (.int i)
  | .dat (.str s) => some (.str s)
  | _ => none
def flats : List DV → Option (List V)
  | [] => some []
  | x :: xs => match flat x with
    | none => none
    | some v => (flats xs).map (v :: ·)
theorem flat_ok {u : V} (h : DvOk K ρ G v x) (e : flat x = some u) : v = u ∧ flatV u = true := by
  unfold flat at e
  split at e <;> first | cases e | skip
  all_goals (cases h; exact ⟨rfl, rfl⟩)
theorem flats_ok : ∀ {xs : List DV} {vs us : List V}, DvL K ρ G vs xs → flats xs = some us → vs = us ∧ us.all flatV = true
  | [], _, _, h, e => by cases e; cases h; exact ⟨rfl, rfl⟩
  | x :: xs, _, _, h, e => by
    cases h with
    | cons r1 r2 =>
      simp only [flats] at e
      cases q : flat x with
      | none => rw [q] at e; cases e
      | some u =>
        rw [q] at e
        cases q2 : flats xs with
        | none => rw [q2] at e; cases e
        | some us =>
          rw [q2] at e; cases e
          obtain ⟨e1, e2⟩ := flat_ok r1 q
          obtain ⟨e3, e4⟩ := flats_ok r2 q2
          exact ⟨by rw [e1, e3], by rw [List.all_cons, e2, e4]; rfl⟩
def dIn (neg : Bool) (x y : DV) (μ : Mem) : Res R := match flat x with
  | none => .bad
  | some u => match asS μ y with
    | none => .bad
    | some ys => match flats ys with
      | none => .bad
      | some us => .ok (.dat (.bl (if neg = true then !inV u us else inV u us))) μ
theorem od_in (neg : Bool) : OpD K (rIn K neg) (dIn neg) := fun W ρ G H σ μ v w x y Q R hx hy hp => by
  unfold dIn at hp
  cases e1 : flat x with
  | none => rw [e1] at hp; exact hp.elim
  | some u =>
    rw [e1] at hp
    cases e2 : asS μ y with
    | none => simp only [e2] at hp; exact hp.elim
    | some ys =>
      simp only [e2] at hp
      cases e3 : flats ys with
      | none => rw [e3] at hp; exact hp.elim
      | some us =>
        rw [e3] at hp
        obtain ⟨a, vs, rfl, h2, h3⟩ := asS_ok R hy e2
        obtain ⟨q1, q2⟩ := flat_ok hx e1
        obtain ⟨q3, q4⟩ := flats_ok h3 e3
        subst q1 q3
        exact ⟨a, vs, rfl, h2, q2, q4, hp.okD R (.bl _)⟩
/-! ### calls of built-ins -/
theorem DvL.one {vs : List V} (h : DvL K ρ G vs [x]) : ∃ v, vs = [v] ∧ DvOk K ρ G v x := by
  cases h with
  | cons a b => cases b; exact ⟨_, rfl, a⟩
theorem DvL.two {vs : List V} (h : DvL K ρ G vs [x, y]) : ∃ v w, vs = [v, w] ∧ DvOk K ρ G v x ∧ DvOk K ρ G w y := by
  cases h with
  | cons a b => cases b with
    | cons c d => cases d; exact ⟨_, _, rfl, a, c⟩
def d1 (g : DV → Mem → Res R) (xs : List DV) (μ : Mem) : Res R := match xs with
  | [x] => g x μ
  | _ => .bad
theorem cd_1 {r : List V → Hp → VK → Prop} {g : DV → Mem → Res R} (h : ∀ (W : WX) (ρ : Pm) (G H : Hp) (σ : Slots) (μ : Mem) (v : V) (x : DV) (Q : VK), Rel K ρ G H μ → DvOk K ρ G v x → PostG K W ρ G H σ (fun G' H' => rpE K ρ G' H H') Q (g x μ) → r [v] H Q) :
    CallD K r (d1 g) := fun W ρ G H σ μ vs xs Q R hx hp => by
  match xs, hx, hp with
  | [x], hx, hp =>
    obtain ⟨v, rfl, d⟩ := hx.one
    exact h W ρ G H σ μ v x Q R d hp
  | [], _, hp => exact hp.elim
  | _ :: _ :: _, _, hp => exact hp.elim
def dLen (x : DV) (μ : Mem) : Res R := match asS μ x with
  | some xs => .ok (.dat (.int xs.length)) μ
  | none => match asStr x with
    | some z => if z.length ≤ sizeLine then .ok (.dat (.int z.length)) μ else .bad
    | none => .bad
theorem cd_len : CallD K (fun xs H Q => ∃ x n, xs = [x] ∧ LenV K x H n ∧ Q (.int (n : Nat)) H) (d1 dLen) := cd_1 fun W ρ G H σ μ v x Q R hx hp => by
  unfold dLen at hp
  split at hp
  · rename_i xs e
    obtain ⟨a, vs, rfl, h2, h3⟩ := asS_ok R hx e
    refine ⟨_, vs.length, rfl, ?_, ?_⟩
    · rcases h2 with h2 | h2
      · exact .inl ⟨vs, h2, rfl⟩
      · exact .inr ⟨vs, h2, rfl⟩
    · rw [paired_len h3]; exact hp.okD R (.int _)
  split at hp
  · rename_i z e
    by_cases c : z.length ≤ sizeLine
    · rw [if_pos c] at hp
      have ev := asStr_ok hx e
      subst ev
      exact ⟨_, z.length, rfl, ⟨c, rfl⟩, hp.okD R (.int _)⟩
    · rw [if_neg c] at hp; exact hp.elim
  exact hp.elim
def dInt (x : DV) (μ : Mem) : Res R := match asI x with
  | some i => .ok (.dat (.int i)) μ
  | none => match asBl x with
    | some b => .ok (.dat (.int (if b = true then 1 else 0))) μ
    | none => .bad
theorem cd_int : CallD K (fun xs H Q => (∃ i, xs = [V.int i] ∧ Q (V.int i) H) ∨ ∃ k, xs = [V.bl k] ∧ Q (V.int (if k = true then 1 else 0)) H) (d1 dInt) := cd_1 fun W ρ G H σ μ v x Q R hx hp => by
  unfold dInt at hp
  split at hp
  · rename_i i e
    have ev := asI_ok hx e
    subst ev
    exact .inl ⟨i, rfl, hp.okD R (.int _)⟩
  split at hp
  · rename_i b e
    have ev := asBl_ok hx e
    subst ev
    exact .inr ⟨b, rfl, hp.okD R (.int _)⟩
  exact hp.elim
def dAbs (x : DV) (μ : Mem) : Res R := match asI x with
  | some i => .ok (.dat (.int (if i < 0 then -i else i))) μ
  | none => .bad
theorem cd_abs : CallD K (fun xs H Q => ∃ i, xs = [V.int i] ∧ Q (V.int (if i < 0 then -i else i)) H) (d1 dAbs) := cd_1 fun W ρ G H σ μ v x Q R hx hp => by
  unfold dAbs at hp
  split at hp
  · rename_i i e
    have ev := asI_ok hx e
    subst ev
    exact ⟨i, rfl, hp.okD R (.int _)⟩
  exact hp.elim
def dList (x : DV) (μ : Mem) : Res R := match asS μ x with
  | some xs => .ok (.nl xs) μ
  | none => .bad
theorem cd_list : CallD K (fun xs H Q => ∃ p ys, xs = [V.ref p] ∧ (SqL K H p ys ∨ SqT K H p ys) ∧ ∀ l, H l = none → Q (V.ref l) (upd H l (.lst ys))) (d1 dList) := cd_1 fun W ρ G H σ μ v x Q R hx hp => by
  unfold dList at hp
  split at hp
  · rename_i xs e
    obtain ⟨a, vs, rfl, h2, h3⟩ := asS_ok R hx e
    exact ⟨a, vs, rfl, h2, fun l hn => new_list R (Tr.refl _ _ _) hn h3 hp⟩
  exact hp.elim
def dTuple (x : DV) (μ : Mem) : Res R := match asL μ x with
  | some xs => match allDat xs with
    | some ds => .ok (.dat (.tup ds)) μ
    | none => .bad
  | none => match asT x with
    | some ds => .ok (.dat (.tup ds)) μ
    | none => .bad
theorem cd_tuple : CallD K (fun xs H Q => ∃ p ys, xs = [V.ref p] ∧ ((SqL K H p ys ∧ ∀ l, H l = none → Q (V.ref l) (upd H l (.tup ys))) ∨ SqT K H p ys ∧ Q (V.ref p) H)) (d1 dTuple) := cd_1 fun W ρ G H σ μ v x Q R hx hp => by
  unfold dTuple at hp
  split at hp
  · rename_i xs e
    obtain ⟨a, vs, rfl, h2, h3⟩ := asL_ok R hx e
    split at hp
    · rename_i ds e2
      exact ⟨a, vs, rfl, .inl ⟨h2, fun l hn => new_tup R (Tr.refl _ _ _) hn (allDat_ok e2 h3) hp⟩⟩
    · exact hp.elim
  split at hp
  · rename_i ds e
    obtain ⟨a, vs, rfl, h2, h3⟩ := asT_ok R hx e
    rw [asT_eq e] at hx
    exact ⟨a, vs, rfl, .inr ⟨h2, hp.okD R hx⟩⟩
  exact hp.elim
def bools : List DV → Option (List Bool)
  | [] => some []
  | x :: xs => match asBl x with
    | none => none
    | some b => (bools xs).map (b :: ·)
theorem bools_ok : ∀ {xs : List DV} {vs : List V} {bs : List Bool}, DvL K ρ G vs xs → bools xs = some bs → vs = bs.map V.bl
  | [], _, _, h, e => by cases e; cases h; rfl
  | x :: xs, _, _, h, e => by
    cases h with
    | cons r1 r2 =>
      simp only [bools] at e
      cases q : asBl x with
      | none => rw [q] at e; cases e
      | some b =>
        rw [q] at e
        cases q2 : bools xs with
        | none => rw [q2] at e; cases e
        | some bs => rw [q2] at e; cases e; rw [asBl_ok r1 q, bools_ok r2 q2]; rfl
def dAll (f : List Bool → Bool) (x : DV) (μ : Mem) : Res R := match asL μ x with
  | some xs => match bools xs with
    | some bs => .ok (.dat (.bl (f bs))) μ
    | none => .bad
  | none => .bad
theorem cd_all (f : List Bool → Bool) : CallD K (fun vs H Q => ∃ a bs, vs = [V.ref a] ∧ SqL K H a (bs.map V.bl) ∧ Q (V.bl (f bs)) H) (d1 (dAll f)) := cd_1 fun W ρ G H σ μ v x Q R hx hp => by
  unfold dAll at hp
  split at hp
  · rename_i xs e
    obtain ⟨a, vs, rfl, h2, h3⟩ := asL_ok R hx e
    split at hp
    · rename_i bs e2
      have ev := bools_ok h3 e2
      subst ev
      exact ⟨a, bs, rfl, h2, hp.okD R (.bl _)⟩
    · exact hp.elim
  exact hp.elim
/-! ### repr -/
def dRepr (x : DV) (μ : Mem) : Res R := match peekPy μ x with
  | some p => if p.showable = true ∧ SeqAt.shaped p = true ∧ p.shown.length ≤ sizeLine then .ok (.dat (.str p.shown)) μ else .bad
  | none => .bad
def rRepr (K : PySem.W.Frag) : List V → Hp → VK → Prop := fun xs H Q => ∃ v p, xs = [v] ∧ Dp K H v p ∧ p.showable = true ∧ SeqAt.shaped p = true ∧ p.shown.length ≤ sizeLine ∧ Q (.str p.shown) H
theorem cr_repr {X : Cx} {k : Nat} (hr : Room k X.A) (hg : X.A.guards = some []) : CallR X (.builtin "repr") (rRepr X.K) := by
  intro pins s σ H xs us Q I rv h
  obtain ⟨v, p, rfl, hd, hs, hsh, hz, q⟩ := h
  obtain ⟨u, rfl, ru⟩ : ∃ u, us = [u] ∧ L2.RelV v u := by
    cases rv with
    | cons a b => cases b; exact ⟨_, rfl, a⟩
  obtain ⟨as, rd⟩ := Dp.reads I p v u hd ru
  have fin : ∀ h' tk t', (∀ b o, s.heap.get? b = some o → h'.get? b = some o) → EP X pins σ Q (.str p.shown t') { s with heap := h', toks := tk } := fun h' tk t' kp =>
    ⟨.str p.shown, H, I.kept kp, ⟨t', rfl⟩, q⟩
  have hc := SeqAt.canLay_of_shaped hsh
  have hdp : p.depth ≤ 64 := of_decide_eq_true (Bool.and_eq_true_iff.mp hsh).2
  have hu : X.A.units + 200 < cLine := by have := hr.un; omega
  cases rd with
  | none => exact PySem.P.repr_of_none (fin s.heap _ _ fun _ _ e => e)
  | bool b => exact PySem.P.repr_of_bool (fin s.heap _ _ fun _ _ e => e)
  | int i t => exact PySem.P.repr_of_int (of_decide_eq_true hs) (fin s.heap _ _ fun _ _ e => e)
  | str z t => exact PySem.P.repr_of_str (fin s.heap _ _ fun _ _ e => e) hz
  | list ho hcl hda ra => exact repr_of_reads' (.list ho hcl hda ra) hs (PyData.noDict_hsm (PyData.hasDict_of_canLay _ hc)) hg (by omega) (fun _ _ e => e) (fun h' u tk kp => fin h' tk u kp) hz
  | tuple ho hcl hda ra => exact repr_of_reads' (.tuple ho hcl hda ra) hs (PyData.noDict_hsm (PyData.hasDict_of_canLay _ hc)) hg (by omega) (fun _ _ e => e) (fun h' u tk kp => fin h' tk u kp) hz
  | dict _ _ _ _ _ => exact absurd hc Bool.false_ne_true
theorem cd_repr : CallD K (rRepr K) (d1 dRepr) := cd_1 fun W ρ G H σ μ v x Q R hx hp => by
  unfold dRepr at hp
  split at hp
  · rename_i p e
    by_cases c : p.showable = true ∧ SeqAt.shaped p = true ∧ p.shown.length ≤ sizeLine
    · rw [if_pos c] at hp; exact ⟨v, p, rfl, peekPy_ok R hx e, c.1, c.2.1, c.2.2, hp.okD R (.str _)⟩
    · rw [if_neg c] at hp; exact hp.elim
  exact hp.elim
end
end DL
namespace DL
open PySem PySem.Spec PyProof.Rows L2
/-! ### enumerate of a tuple -/
set_option maxHeartbeats 1000000 in
theorem meets_enum_tup (l : Addr) (its : Array Value) (n : Nat) (dct : Option Addr) (sl : Array (Option Value)) :
    Meets (Builtin.«enumerate.__new__» ⟨[.type "enumerate", .ref l], []⟩) (fun _ R s => s.heap.get? l = some { cls := .type "tuple", dict := dct, data := .seq its n, slots := sl } ∧
      R (.ok (.ret (.ref (s.heap.push { cls := .type "tuple_iterator", data := .fields #[.ref l, .int 0 0] }).objs.size)))
        { s with heap := (s.heap.push { cls := .type "tuple_iterator", data := .fields #[.ref l, .int 0 0] }).push { cls := .type "enumerate", data := .fields #[.none, .bool false, .ref s.heap.objs.size, rawInt 0, .none, .none] } }) :=
  .of_wp fun prog w A R s h => by
    obtain ⟨hp, g, d, tk, os⟩ := s
    obtain ⟨hl, h⟩ := h
    have hsub := sub_enumerate
    have hT : Heap.IsTuple (Shared.heap ⟨hp, g, d, tk, os⟩) l its := ⟨_, hl, rfl, n, rfl⟩
    wp_walk using AutoSeq1.wpAny_loadPart' hl
    refine wpAny_stack_any fun st => wpAny_pure ?_
    split
    · rename_i c _ _ _ _ _
      cases (c == Value.type "enumerate")
      all_goals
        wp_walk using AutoSeq1.wpAny_loadPart' hl, wpAny_pyIter_tuple hT
        exact ⟨_, rfl, h⟩
    · wp_walk using AutoSeq1.wpAny_loadPart' hl, wpAny_pyIter_tuple hT
      exact ⟨_, rfl, h⟩
theorem call_enum_tup {prog : Program} {w : World} {A : Around} {E : Value → Shared → Prop} {s : Shared} {l : Addr} {its : Array Value} {Q : Value → Shared → Prop} (hL : s.heap.IsTuple l its)
    (h : ∀ h', IsEnum h' (s.heap.objs.size + 1) s.heap.objs.size 0 .none → h'.IsTupleIter s.heap.objs.size l 0 →
      (∀ b o, s.heap.get? b = some o → h'.get? b = some o) → Q (.ref (s.heap.objs.size + 1)) { s with heap := h' }) :
    wpAny (model prog w) A (call (.type "enumerate") [.ref l]) Q E s := by
  obtain ⟨⟨c, dct, dt, sl⟩, hl, hc, n, hd⟩ := hL
  obtain rfl : c = .type "tuple" := hc
  obtain rfl : dt = .seq its n := hd
  refine callType_new F.called_enumerate (by decide) (F.typeCall_enumerate_1 _) (F.newCall_enumerate_1 _) (fun obj => F.args_object_init_2 obj _) F.entry_enumerate_new (meets_enum_tup l its n dct sl) ⟨hl, ?_⟩
  have hz : (s.heap.push { cls := .type "tuple_iterator", data := .fields #[.ref l, .int 0 0] }).objs.size = s.heap.objs.size + 1 := Heap.size_push ..
  show _ ∧ _
  rw [hz]
  have he : IsEnum ((s.heap.push { cls := .type "tuple_iterator", data := .fields #[.ref l, .int 0 0] }).push
      { cls := .type "enumerate", data := .fields #[.none, .bool false, .ref s.heap.objs.size, rawInt 0, .none, .none] }) (s.heap.objs.size + 1) s.heap.objs.size 0 .none := by
    have q := Heap.get?_push_size (s.heap.push { cls := .type "tuple_iterator", data := .fields #[.ref l, .int 0 0] })
      (o := { cls := .type "enumerate", data := .fields #[.none, .bool false, .ref s.heap.objs.size, rawInt 0, .none, .none] }) rfl
    rw [hz] at q; exact q
  exact ⟨⟨_, he, rfl⟩, h _ he ⟨_, Heap.get?_push_of_some _ (Heap.get?_push_size _ rfl), rfl, rfl⟩ fun b o x => Heap.get?_push_of_some _ (Heap.get?_push_of_some _ x)⟩
/-- the tuple at a, each item in a new pair -/
def ItE (K : PySem.W.Frag) (a : Addr) : It :=
  ⟨fun i H => ∃ (xs : List V) (x : V), SqT K H a xs ∧ xs[i]? = some x,
   fun i H v H' => ∃ T x, v = .ref T ∧ H T = none ∧ H' = upd H T (.tup [.int (i : Nat), x]) ∧ ∀ xs, SqT K H a xs → xs[i]? = some x,
   fun i H => ∃ xs : List V, SqT K H a xs ∧ xs.length ≤ i⟩
section
variable {prog : Program} {w : World} {A : Around} {E : Value → Shared → Prop} {s : Shared}
theorem next_enum_tup_end {e it a : Addr} {its : Array Value} {n : Nat} {i : Int} {old : Value} {Q : Option Value → Shared → Prop} (hh : A.handled = none) (he : IsEnum s.heap e it i old) (hit : s.heap.IsTupleIter it a n) (ht : s.heap.IsTuple a its) (hle : its.size ≤ n)
    (hQ : ∀ h', Heap.ExtBut it s.heap h' → Q none { s with heap := h' }) : wpAny (model prog w) A (pyNext (.ref e)) Q E s := by
  have hT : s.TypeIs (.ref e) "enumerate" := ⟨_, he, rfl⟩
  unfold pyNext
  refine wpAny_bind (wpAny_attempt (wpAny_callSpecial?_slot (name := Str.ofString "__next__") hT F.slot_enumerate_next (wpAny_call_entry F.slot_enumerate_next hT F.entry_enumerate_next ?_ (F.args_enumerate_next_1 _))))
  show wpAny _ _ (field (.ref e) 2 >>= _) _ _ _
  refine wpAny_bind (wpAny_field he rfl (x := .ref it) rfl (wpAny_bind (wpAny_nextOf_tuple_end hh hit ht (Array.getElem?_eq_none hle) fun h' x ext hx => ?_)))
  obtain ⟨o, ho, hc⟩ := hx
  exact wpAny_bind (wpAny_isInstance (T := "StopIteration") (b := true) ⟨o, ho, hc⟩ isSubtype_stop (wpAny_pure (hQ _ ext)))
end
theorem tup_ne_iter {h : Heap} {a it : Addr} {its : Array Value} {n : Nat} (ht : h.IsTuple a its) (hi : h.IsTupleIter it a n) : a ≠ it := by
  intro e
  obtain ⟨o, ho, hc, _⟩ := ht
  obtain ⟨o2, ho2, hc2, _⟩ := hi
  rw [← e, ho] at ho2
  cases ho2
  rw [hc] at hc2
  exact absurd (Value.type.inj hc2) (by decide)
theorem turn_enumT {P : Program} {w : World} {K : PySem.W.Frag} {elts : List Expr} {kk : Nat} {tpos : Pos} (a e it : Addr) :
    Turn P w K (.Tuple elts kk tpos) (ItE K a) [e, it] e (fun i h => (∃ old, IsEnum h e it ((i : Nat) : Int) old) ∧ h.IsTupleIter it a i ∧ e ≠ it) where
  mem := by simp
  obj := fun i h st b hb => by
    obtain ⟨⟨old, he⟩, ⟨o, ho, hc, hd⟩, _⟩ := st
    rcases (by simpa using hb : b = e ∨ b = it) with rfl | rfl
    · exact ⟨_, he, fun v q => nomatch q⟩
    · exact ⟨o, ho, fun v q => by rw [hd] at q; cases q⟩
  keep := fun i h h' st k => by
    obtain ⟨⟨old, he⟩, hi, hne⟩ := st
    exact ⟨⟨old, k e (by simp) _ he⟩, hi.at fun o q => k it (by simp) o q, hne⟩
  item := by
    intro X hP hw hK hc i pins s σ H E I hf st hg
    subst hP hw hK
    obtain ⟨⟨old, he⟩, hit, hne⟩ := st
    obtain ⟨xs, x, hq, hx⟩ := hg
    obtain ⟨its, rv, p, hz⟩ := I.tuple hq
    have ht : s.heap.IsTuple a its.toArray := p
    obtain ⟨u, hu, ru⟩ := rv.get hx
    have hui : i < its.toArray.size := by
      rw [List.size_toArray]
      exact (List.getElem?_eq_some_iff.mp hu).1
    have hel : e < s.heap.objs.size := Heap.lt_size he
    have hil : it < s.heap.objs.size := by obtain ⟨_, q, _⟩ := hit; exact Heap.lt_size q
    have hai := tup_ne_iter ht hit
    have hae : e ≠ a := fun z => by
      obtain ⟨o, ho, hcl, _⟩ := ht
      rw [← z, he] at ho
      cases ho
      exact absurd (Value.type.inj hcl) (by decide)
    refine wpAny_pyNext_enum_itemD (Draws.tuple (A := X.A.in1) (I.ok.hd hc) it a hai its.toArray) he ⟨hit, ht⟩ hui hne (by simp [hne, hae]) fun x' h' tk hP ho st' hT hsz hk => ?_
    have ex : x' = u := by
      have q : its.toArray[i]? = some x' := hP
      rw [List.getElem?_toArray, hu] at q
      exact (Option.some.inj q).symm
    subst ex
    refine ⟨_, rfl, wpAny_letOwnedTupleGo_enum (s := { s with heap := h', toks := tk + 1 }) ho fun h'' he' sb => ?_⟩
    have hT2 : h''.get? s.heap.objs.size = some { cls := .type "tuple", data := .seq #[.int i tk, x'] } := (sb.2 _ (Nat.ne_of_gt hel)).trans hT
    have new : ObjOk X.prog X.w (upd H s.heap.objs.size (.tup [.int (i : Nat), x])) h'' s.heap.objs.size (.tup [.int (i : Nat), x]) :=
      ⟨by show 2 ≤ sizeLine; decide, [.int i tk, x'], .cons ⟨_, rfl⟩ (.cons ru .nil), ⟨_, hT2, rfl, _, rfl⟩⟩
    have I1 : L2.Inv X pins σ (upd H s.heap.objs.size (.tup [.int (i : Nat), x])) { s with heap := h'', toks := tk + 1 } :=
      I.turnedNew (ch := [e, it]) (fun b ob hb q => (sb.2 b (fun z => hb (by simp [z]))).trans (hk b ob (fun z => hb (by simp [z])) (fun z => hb (by simp [z])) q)) hf (Nat.le_refl _) new
    refine ⟨.ref s.heap.objs.size, _, I1, rfl, ⟨_, x, rfl, I.hok.fresh (Nat.le_refl _), rfl, fun ys hy => by rw [I.tuple_inj hy hq]; exact hx⟩, ⟨⟨x', ?_⟩, st'.1.at fun o q => (sb.2 it (Ne.symm hne)).trans q, hne⟩, fun b hb => ?_⟩
    · rw [show ((i + 1 : Nat) : Int) = (i : Int) + 1 by omega]; exact he'
    · have hb' : b < s.heap.objs.size := by
        rcases (by simpa using hb : b = e ∨ b = it) with z | z
        · rw [z]; exact hel
        · rw [z]; exact hil
      rw [upd_ne (Nat.ne_of_lt hb')]
      exact (hf b hb).1
  done := by
    intro X hP hw hK hc i pins s σ H E I hf st hg
    subst hP hw hK
    obtain ⟨⟨old, he⟩, hit, hne⟩ := st
    obtain ⟨xs, hq, hx⟩ := hg
    obtain ⟨its, rv, p, hz⟩ := I.tuple hq
    obtain ⟨f0, f1, f2, f3, f4, f5⟩ := hf it (by simp)
    have hl := rv.length
    exact next_enum_tup_end (I.ok.hd hc) he hit (show s.heap.IsTuple a its.toArray from p) (by simp; omega) fun h' eb => ⟨rfl, I.turned (t' := s.toks) (fun b o hb q => eb b o hb q) f0 f1 f3 f4 f5⟩
  self := fun A i s Q E st h => let ⟨⟨_, he⟩, _⟩ := st; wpAny_pyIter_enum he h
/-- enumerate of a list or of a tuple -/
def iEnumS (K : PySem.W.Frag) (ta : TA) : TI := fun σ H R => ta σ H fun vs H1 => ∃ a xs, vs = [.ref a] ∧ (SqL K H1 a xs ∧ R (Ite K a) H1 ∨ SqT K H1 a xs ∧ R (ItE K a) H1)
theorem pi_enumS {X : Cx} {e : Expr} {ta : TA} {p pos tpos : Pos} {elts : List Expr} {kk : Nat} (hg : Gl X "enumerate") (hm : X.mg "enumerate" = none) (ha : PA X [e] ta) (hs : starEach [e] X.env = [(false, eval e X.env)] := by rfl) :
    PI X (.Tuple elts kk tpos) (.Call (.Name "enumerate" p) [e] [] pos) (iEnumS X.K ta) := by
  refine ⟨fun pins s σ H R I h => Call_ (ld_blt I hg hm boot_enumerate (PyProof.Rows.callWith_type1 (thn (ha.run pos pins s σ H _ I h) ?_) hs rfl))⟩
  rintro us s1 ⟨vs, H1, I1, r1, a, xs, rfl, q1⟩
  obtain ⟨u, rfl, ru⟩ : ∃ u, us = [u] ∧ L2.RelV (.ref a) u := by
    cases r1 with
    | cons r rr => cases rr; exact ⟨_, rfl, r⟩
  cases ru
  have fr : ∀ b, b = s1.heap.objs.size + 1 ∨ b = s1.heap.objs.size → FpOk X pins H1 b := fun b z => by
    have hle : s1.heap.objs.size ≤ b := by
      rcases z with z | z <;> rw [z]
      · exact Nat.le_add_right _ _
      · exact Nat.le_refl _
    exact I1.fpOk hle (I1.hok.fresh hle)
  rcases q1 with ⟨hq, q⟩ | ⟨hq, q⟩
  · obtain ⟨its, rv, p', hz⟩ := I1.list hq
    refine call_enumerate_list p'.isList fun h' he hit hsz hk => wpAny_pyIter_enum he ?_
    exact ⟨s1.heap.objs.size + 1, [s1.heap.objs.size + 1, s1.heap.objs.size], _, _, H1, rfl, I1.kept (t' := s1.toks) hk, turn_enum a (s1.heap.objs.size + 1) s1.heap.objs.size, ⟨⟨.none, he⟩, hit, Nat.succ_ne_self _⟩, fun b hb => fr b (by simpa using hb), q⟩
  · obtain ⟨its, rv, p', hz⟩ := I1.tuple hq
    refine call_enum_tup (show s1.heap.IsTuple a its.toArray from p') fun h' he hit hk => wpAny_pyIter_enum he ?_
    exact ⟨s1.heap.objs.size + 1, [s1.heap.objs.size + 1, s1.heap.objs.size], _, _, H1, rfl, I1.kept (t' := s1.toks) hk, turn_enumT a (s1.heap.objs.size + 1) s1.heap.objs.size, ⟨⟨.none, he⟩, hit, Nat.succ_ne_self _⟩, fun b hb => fr b (by simpa using hb), q⟩
/-- what is walked: a list or a tuple -/
def iSeq (K : PySem.W.Frag) (tl : TE) : TI := fun σ H R => tl σ H fun x H1 => ∃ a, x = .ref a ∧ ((∃ xs, SqL K H1 a xs) ∧ R (Itl K a) H1 ∨ (∃ xs, SqT K H1 a xs) ∧ R (Itt K a) H1)
theorem pi_seq {X : Cx} {tg l : Expr} {tl : TE} (hl : PE X l tl) : PI X tg l (iSeq X.K tl) := by
  refine ⟨fun pins s σ H R I h => thn (hl.run pins s σ H _ I h) ?_⟩
  rintro v s1 ⟨x, H1, I1, r1, a, rfl, q1⟩
  cases r1
  have fr : FpOk X pins H1 s1.heap.objs.size := I1.fpOk (Nat.le_refl _) (I1.hok.fresh (Nat.le_refl _))
  rcases q1 with ⟨⟨xs, hq⟩, q⟩ | ⟨⟨xs, hq⟩, q⟩
  · obtain ⟨its, rv, p, hz⟩ := I1.list hq
    refine wpAny_pyIter_list p.isList ⟨s1.heap.objs.size, [s1.heap.objs.size], _, _, H1, rfl, I1.kept (t' := s1.toks) fun b o e => Heap.get?_push_of_some _ e, turn_list a _, ⟨_, Heap.get?_push_size _ rfl, rfl, rfl⟩, fun b hb => ?_, q⟩
    rw [show b = s1.heap.objs.size by simpa using hb]; exact fr
  · obtain ⟨its, rv, p, hz⟩ := I1.tuple hq
    refine wpAny_pyIter_tuple (show s1.heap.IsTuple a its.toArray from p) ⟨s1.heap.objs.size, [s1.heap.objs.size], _, _, H1, rfl, I1.kept (t' := s1.toks) fun b o e => Heap.get?_push_of_some _ e, turn_tuple a _, ⟨_, Heap.get?_push_size _ rfl, rfl, rfl⟩, fun b hb => ?_, q⟩
    rw [show b = s1.heap.objs.size by simpa using hb]; exact fr
end DL
namespace DL
open PySem PySem.Spec PyProof.Rows L2
section
variable {K : PySem.W.Frag} {W : WX} {N M : Nat} {ρ : Pm} {G H : Hp} {σ : Slots} {δ : Env} {μ : Mem} {Q : VK} {v w : V} {x y : DV}
/-! ### what is walked -/
theorem it_list {a : Addr} {vs : List V} {ds : List D} (h : SqL K G a vs) (r : RpL K G vs ds) : ItOk K G (Itl K a) ds := fun ρ G1 H μ R x => by
  have hq : SqL K H a vs := ex_l (x.trans R.ex) h
  refine ⟨fun i d e => ?_, fun i hi => ⟨vs, hq, by rw [r.length]; exact hi⟩⟩
  obtain ⟨u, h1, h2⟩ := r.get' e
  refine ⟨⟨vs, u, hq, h1⟩, fun v H' hy => ?_⟩
  obtain ⟨rfl, q⟩ := hy
  have e2 := q vs hq
  rw [h1] at e2; cases e2
  exact ⟨G1, Tr.refl _ _ _, R, h2.mono x⟩
theorem it_tup {a : Addr} {vs : List V} {ds : List D} (h : SqT K G a vs) (r : RpL K G vs ds) : ItOk K G (Itt K a) ds := fun ρ G1 H μ R x => by
  have hq : SqT K H a vs := ex_t (x.trans R.ex) h
  refine ⟨fun i d e => ?_, fun i hi => ⟨vs, hq, by rw [r.length]; exact hi⟩⟩
  obtain ⟨u, h1, h2⟩ := r.get' e
  refine ⟨⟨vs, u, hq, h1⟩, fun v H' hy => ?_⟩
  obtain ⟨rfl, q⟩ := hy
  have e2 := q vs hq
  rw [h1] at e2; cases e2
  exact ⟨G1, Tr.refl _ _ _, R, h2.mono x⟩
def enumD : Nat → List D → List D
  | _, [] => []
  | i, d :: ds => .tup [.int i, d] :: enumD (i + 1) ds
theorem enumD_get : ∀ (k : Nat) (ds : List D) (i : Nat) (d : D), (enumD k ds)[i]? = some d → ∃ e, ds[i]? = some e ∧ d = .tup [.int ((k + i : Nat) : Int), e]
  | _, [], i, d, h => by simp [enumD] at h
  | k, e :: ds, 0, d, h => by simp [enumD] at h; exact ⟨e, rfl, h.symm⟩
  | k, _ :: ds, i + 1, d, h => by
    obtain ⟨e, h1, h2⟩ := enumD_get (k + 1) ds i d (by simpa [enumD] using h)
    exact ⟨e, h1, by rw [h2, show k + 1 + i = k + (i + 1) by omega]⟩
theorem enumD_len : ∀ (k : Nat) (ds : List D), (enumD k ds).length = ds.length
  | _, [] => rfl
  | k, _ :: ds => congrArg (· + 1) (enumD_len (k + 1) ds)
theorem it_pair {J : It} {vs : List V} {ds : List D} {G0 : Hp} {C : Hp → List V → Prop} (hC : ∀ ρ G1 H μ, Rel K ρ G1 H μ → Ex G0 G1 → C H vs) (r : RpL K G0 vs ds)
    (go : ∀ i H u, C H vs → vs[i]? = some u → J.go i H) (stop : ∀ i H, C H vs → vs.length ≤ i → J.stop i H)
    (yld : ∀ i H v H', C H vs → J.yld i H v H' → ∃ T u, v = .ref T ∧ H T = none ∧ H' = upd H T (.tup [.int (i : Nat), u]) ∧ vs[i]? = some u) : ItOk K G0 J (enumD 0 ds) := fun ρ G1 H μ R x => by
  have hq := hC ρ G1 H μ R x
  refine ⟨fun i d e => ?_, fun i hi => stop i H hq (by rw [r.length]; rw [enumD_len] at hi; exact hi)⟩
  obtain ⟨e0, he, rfl⟩ := enumD_get 0 ds i d e
  obtain ⟨u, h1, h2⟩ := r.get' he
  refine ⟨go i H u hq h1, fun v H' hy => ?_⟩
  obtain ⟨T, u', rfl, hn, rfl, e3⟩ := yld i H v H' hq hy
  rw [h1] at e3; cases e3
  obtain ⟨R2, t2, ex⟩ := R.layD (o := .tup [.int (i : Nat), u]) hn
  refine ⟨_, t2, R2, ?_⟩
  rw [Nat.zero_add]
  exact Rp.tup (.inl (.inl upd_same)) (.cons (.int _) (.cons ((h2.mono x).mono ex) .nil))
def seqD : DV → Option (List D)
  | .dat (.lst ds) => some ds
  | .dat (.fro ds) => some ds
  | .dat (.tup ds) => some ds
  | _ => none
theorem seqD_ok {ds : List D} (h : DvOk K ρ G v x) (e : seqD x = some ds) : ∃ a vs, v = .ref a ∧ (SqL K G a vs ∨ SqT K G a vs) ∧ RpL K G vs ds := by
  unfold seqD at e
  split at e
  · cases e; cases h with | lst h r => exact ⟨_, _, rfl, .inl (.inl (.inl h)), r⟩
  · cases e; cases h with | fro h r => exact ⟨_, _, rfl, .inl h, r⟩
  · cases e; cases h with | tup h r => exact ⟨_, _, rfl, .inr h, r⟩
  · cases e
def imSeq (f : EM) : IM := fun δ μ => (frzV f δ μ).bind fun x μ' => match seqD x with
  | some ds => .ok ds μ'
  | none => .bad
theorem snd_iseq {te : TE} {f : EM} (h : SndE K W te f) : SndI K W (iSeq K te) (imSeq f) := fun ρ G H σ δ μ Q R E hp => by
  refine SndG.seq (t := te) h.toV R E hp fun x μ1 G1 H1 v t1 R1 E1 d1 hp1 => ?_
  cases e : seqD x with
  | none => rw [e] at hp1; exact hp1.elim
  | some ds =>
    rw [e] at hp1
    obtain ⟨a, vs, rfl, hs, r⟩ := seqD_ok d1 e
    refine ⟨a, rfl, ?_⟩
    rcases hs with hs | hs
    · exact .inl ⟨⟨vs, ex_l R1.ex hs⟩, hp1 G1 H1 _ t1 R1 (it_list hs r)⟩
    · exact .inr ⟨⟨vs, ex_t R1.ex hs⟩, hp1 G1 H1 _ t1 R1 (it_tup hs r)⟩
def imEnum (f : AM) : IM := fun δ μ => (f δ μ).bind fun xs μ' => match xs with
  | [x] => match seqD x with
    | some ds => .ok (enumD 0 ds) μ'
    | none => .bad
  | _ => .bad
theorem snd_ienum {ta : TA} {f : AM} (h : SndA K W ta f) : SndI K W (iEnumS K ta) (imEnum f) := fun ρ G H σ δ μ Q R E hp => by
  refine SndG.seq (t := ta) h R E hp fun xs μ1 G1 H1 vs t1 R1 E1 d1 hp1 => ?_
  match xs, d1, hp1 with
  | [], _, hp1 => exact hp1.elim
  | _ :: _ :: _, _, hp1 => exact hp1.elim
  | [x], d1, hp1 =>
    obtain ⟨v, rfl, d⟩ := d1.one
    simp only at hp1
    cases e : seqD x with
    | none => rw [e] at hp1; exact hp1.elim
    | some ds =>
      rw [e] at hp1
      obtain ⟨a, ws, rfl, hs, r⟩ := seqD_ok d e
      refine ⟨a, ws, rfl, ?_⟩
      rcases hs with hs | hs
      · refine .inl ⟨ex_l R1.ex hs, hp1 G1 H1 _ t1 R1 (it_pair (C := fun H ws => SqL K H a ws) (fun ρ G2 H μ R x => ex_l (x.trans R.ex) hs) r ?_ ?_ ?_)⟩
        · exact fun i H u hq hu => ⟨ws, u, hq, hu⟩
        · exact fun i H hq hl => ⟨ws, hq, hl⟩
        · rintro i H v H' hq ⟨T, u, h1, h2, h3, h4⟩; exact ⟨T, u, h1, h2, h3, h4 ws hq⟩
      · refine .inr ⟨ex_t R1.ex hs, hp1 G1 H1 _ t1 R1 (it_pair (C := fun H ws => SqT K H a ws) (fun ρ G2 H μ R x => ex_t (x.trans R.ex) hs) r ?_ ?_ ?_)⟩
        · exact fun i H u hq hu => ⟨ws, u, hq, hu⟩
        · exact fun i H hq hl => ⟨ws, hq, hl⟩
        · rintro i H v H' hq ⟨T, u, h1, h2, h3, h4⟩; exact ⟨T, u, h1, h2, h3, h4 ws hq⟩
def rngD (lo : Int) (n : Nat) : List D := (List.range n).map fun i => .int (lo + (i : Nat))
theorem it_rng (lo : Int) (n : Nat) : ItOk K G (Itr lo n) (rngD lo n) := fun ρ G1 H μ R x => by
  refine ⟨fun i d e => ?_, fun i hi => ?_⟩
  · unfold rngD at e
    rw [List.getElem?_map] at e
    cases q : (List.range n)[i]? with
    | none => rw [q] at e; cases e
    | some j =>
      rw [q] at e
      simp only [Option.map_some, Option.some.injEq] at e
      obtain ⟨hi, ej⟩ := List.getElem?_eq_some_iff.mp q
      rw [List.getElem_range] at ej
      rw [List.length_range] at hi
      refine ⟨hi, fun v H' hy => ?_⟩
      obtain ⟨rfl, rfl⟩ := hy
      subst ej
      exact ⟨G1, Tr.refl _ _ _, R, e ▸ Rp.int _⟩
  · show n ≤ i
    simpa [rngD] using hi
def imRng (f : AM) : IM := fun δ μ => (f δ μ).bind fun xs μ' => match xs with
  | [x] => match asI x with
    | some j => if -2 ^ 62 ≤ j ∧ j < 2 ^ 62 then .ok (rngD 0 j.toNat) μ' else .bad
    | none => .bad
  | _ => .bad
theorem snd_irng {ta : TA} {f : AM} (h : SndA K W ta f) : SndI K W (iRng1 ta) (imRng f) := fun ρ G H σ δ μ Q R E hp => by
  refine SndG.seq (t := ta) h R E hp fun xs μ1 G1 H1 vs t1 R1 E1 d1 hp1 => ?_
  match xs, d1, hp1 with
  | [], _, hp1 => exact hp1.elim
  | _ :: _ :: _, _, hp1 => exact hp1.elim
  | [x], d1, hp1 =>
    obtain ⟨v, rfl, d⟩ := d1.one
    simp only at hp1
    cases e : asI x with
    | none => rw [e] at hp1; exact hp1.elim
    | some j =>
      rw [e] at hp1
      by_cases c : -2 ^ 62 ≤ j ∧ j < 2 ^ 62
      · simp only [if_pos c] at hp1
        rw [asI_ok d e]
        exact ⟨j, rfl, c.1, c.2, hp1 G1 H1 _ t1 R1 (it_rng 0 _)⟩
      · simp only [if_neg c] at hp1; exact hp1.elim
def imRng2 (f : AM) : IM := fun δ μ => (f δ μ).bind fun xs μ' => match xs with
  | [x, y] => match asI x, asI y with
    | some i, some j => if -2 ^ 62 ≤ i ∧ i < 2 ^ 62 ∧ -2 ^ 62 ≤ j ∧ j < 2 ^ 62 then .ok (rngD i (j - i).toNat) μ' else .bad
    | _, _ => .bad
  | _ => .bad
theorem snd_irng2 {ta : TA} {f : AM} (h : SndA K W ta f) : SndI K W (iRng2 ta) (imRng2 f) := fun ρ G H σ δ μ Q R E hp => by
  refine SndG.seq (t := ta) h R E hp fun xs μ1 G1 H1 vs t1 R1 E1 d1 hp1 => ?_
  match xs, d1, hp1 with
  | [], _, hp1 => exact hp1.elim
  | [_], _, hp1 => exact hp1.elim
  | _ :: _ :: _ :: _, _, hp1 => exact hp1.elim
  | [x, y], d1, hp1 =>
    obtain ⟨v, w, rfl, dx, dy⟩ := d1.two
    simp only at hp1
    split at hp1
    · rename_i i j e1 e2
      by_cases c : -2 ^ 62 ≤ i ∧ i < 2 ^ 62 ∧ -2 ^ 62 ≤ j ∧ j < 2 ^ 62
      · rw [if_pos c] at hp1
        rw [asI_ok dx e1, asI_ok dy e2]
        exact ⟨i, j, rfl, c, hp1 G1 H1 _ t1 R1 (it_rng i _)⟩
      · rw [if_neg c] at hp1; exact hp1.elim
    · exact hp1.elim
/-! ### targets of several names -/
def TgsOk (K : PySem.W.Frag) (g : TGs) (h : List D → Env → Option Env) (ts : List Nat) : Prop := ∀ (ρ : Pm) (G H : Hp) (μ : Mem) (σ : Slots) (δ δ' : Env) (vs : List V) (ds : List D) (Q : Slots → Hp → Prop), Rel K ρ G H μ → EnvOk K ρ G σ δ → RpL K G vs ds → h ds δ = some δ' →
  (∀ σ', EnvOk K ρ G σ' δ' → σ'.length = σ.length → (∀ i, i ∉ ts → σ'[i]? = σ[i]?) → Q σ' H) → g vs σ H Q
def tgNil : List D → Env → Option Env := fun ds δ => match ds with
  | [] => some δ
  | _ :: _ => none
def tgCons (h : D → Env → Option Env) (hs : List D → Env → Option Env) : List D → Env → Option Env := fun ds δ => match ds with
  | [] => none
  | d :: ds => match h d δ with
    | none => none
    | some δ1 => hs ds δ1
def tgTup (n : Nat) (hs : List D → Env → Option Env) : D → Env → Option Env := fun d δ => match d with
  | .tup ds => if ds.length = n then hs ds δ else none
  | _ => none
theorem tgs_nil : TgsOk K gNil tgNil [] := fun ρ G H μ σ δ δ' vs ds Q R E r e q => by
  cases r with
  | nil => cases e; exact ⟨rfl, q σ E rfl fun _ _ => rfl⟩
  | cons _ _ => cases e
theorem tgs_cons {g : TG} {gs : TGs} {h : D → Env → Option Env} {hs : List D → Env → Option Env} {t ts : List Nat} (h1 : TgOk K g h t) (h2 : TgsOk K gs hs ts) : TgsOk K (gCons g gs) (tgCons h hs) (t ++ ts) := fun ρ G H μ σ δ δ' vs ds Q R E r e q => by
  cases r with
  | nil => cases e
  | cons a b =>
    rename_i v vs d ds
    simp only [tgCons] at e
    cases e1 : h d δ with
    | none => rw [e1] at e; cases e
    | some δ1 =>
      rw [e1] at e
      refine ⟨v, vs, rfl, h1 ρ G H μ σ δ δ1 v d _ R E a e1 fun σ1 E1 l1 k1 => h2 ρ G H μ σ1 δ1 δ' vs ds _ R E1 b e fun σ2 E2 l2 k2 => q σ2 E2 (l2.trans l1) fun i hi => ?_⟩
      rw [k2 i fun z => hi (List.mem_append_right _ z), k1 i fun z => hi (List.mem_append_left _ z)]
theorem tg_tup {gs : TGs} {hs : List D → Env → Option Env} {ts : List Nat} {n : Nat} (h : TgsOk K gs hs ts) : TgOk K (gTup K n gs) (tgTup n hs) ts := fun ρ G H μ σ δ δ' v d Q R E r e q => by
  unfold tgTup at e
  split at e
  · rename_i ds
    by_cases c : ds.length = n
    · rw [if_pos c] at e
      cases r with
      | tup h1 r => exact ⟨_, _, rfl, ex_t R.ex h1, by rw [r.length]; exact c, h ρ G H μ σ δ δ' _ ds Q R E r e q⟩
    · rw [if_neg c] at e; cases e
  · cases e
end
section
variable {X : Cx} {W : WX} {pos p tpos : Pos} {tg e : Expr} {te : TE} {f : EM} {ta : TA} {fa : AM} {a b : Expr}
theorem mi_seq (h : PM X W e te f) : PMI X W tg e (iSeq X.K te) (imSeq f) := ⟨pi_seq h.pe, snd_iseq h.sd⟩
theorem mi_rng1 (hg : Gl X "range") (hm : X.mg "range" = none) (h : PMA X W [a] ta fa) (hs : starEach [a] X.env = [(false, eval a X.env)] := by rfl) : PMI X W tg (.Call (.Name "range" p) [a] [] pos) (iRng1 ta) (imRng fa) := ⟨pi_range1 hg hm h.pe hs, snd_irng h.sd⟩
theorem mi_rng2 (hg : Gl X "range") (hm : X.mg "range" = none) (h : PMA X W [a, b] ta fa) (hs : starEach [a, b] X.env = [(false, eval a X.env), (false, eval b X.env)] := by rfl) (hs2 : starEach [b] X.env = [(false, eval b X.env)] := by rfl) : PMI X W tg (.Call (.Name "range" p) [a, b] [] pos) (iRng2 ta) (imRng2 fa) := ⟨pi_range2 hg hm h.pe hs hs2, snd_irng2 h.sd⟩
theorem mi_enum {elts : List Expr} {kk : Nat} (hg : Gl X "enumerate") (hm : X.mg "enumerate" = none) (h : PMA X W [e] ta fa) (hs : starEach [e] X.env = [(false, eval e X.env)] := by rfl) : PMI X W (.Tuple elts kk tpos) (.Call (.Name "enumerate" p) [e] [] pos) (iEnumS X.K ta) (imEnum fa) := ⟨pi_enumS hg hm h.pe hs, snd_ienum h.sd⟩
structure PMGs (X : Cx) (es : List Expr) (g : TGs) (h : List D → Env → Option Env) (ts : List Nat) : Prop where
  pg : PGs X es g
  ok : TgsOk X.K g h ts
theorem gs_nil : PMGs X [] gNil tgNil [] := ⟨pgs_nil, tgs_nil⟩
theorem gs_cons {es : List Expr} {g : TG} {gs : TGs} {h : D → Env → Option Env} {hs : List D → Env → Option Env} {t ts : List Nat} (h1 : PMG X e g h t) (h2 : PMGs X es gs hs ts)
    (ha : List.map (fun x => x.snd) (assignEach (e :: es) X.env) = assign e X.env :: List.map (fun x => x.snd) (assignEach es X.env) := by rfl) : PMGs X (e :: es) (gCons g gs) (tgCons h hs) (t ++ ts) := ⟨pgs_cons h1.pg h2.pg ha, tgs_cons h1.ok h2.ok⟩
theorem pg_tp {es : List Expr} {k n : Nat} {gs : TGs} {hs : List D → Env → Option Env} {ts : List Nat} (hc : X.calm = true) (h : PMGs X es gs hs ts) (h1 : (assignEach es X.env).length = n := by rfl) (h2 : List.findIdx? (fun x => x.fst) (assignEach es X.env) = none := by rfl) :
    PMG X (.Tuple es k pos) (gTup X.K n gs) (tgTup n hs) ts := ⟨pg_tup hc h.pg h1 h2, tg_tup h.ok⟩
end
end DL
namespace DL
open PySem PySem.Spec PyProof.Rows L2
/-! ### list.extend of a tuple -/
theorem meets_ext_tup (l : Addr) (items : Array Value) (n : Nat) (b : Addr) (items2 : Array Value) (n2 : Nat) (dct : Option Addr) (sl : Array (Option Value)) (hs0 : ¬(!items.isEmpty && Builtin.List.listTooLong (items.size + items2.size)) = true) (hs1 : items.size ≤ sizeLine) (hs2 : items.size + items2.size ≤ sizeLine + 1) :
    Meets (Builtin.«list.extend» ⟨[.ref l, .ref b], []⟩) (fun _ R s => s.heap.get? l = some { cls := .type "list", dict := none, data := .seq items n, slots := #[] } ∧ s.heap.get? b = some { cls := .type "tuple", dict := dct, data := .seq items2 n2, slots := sl } ∧
      R (.ok (.ret Value.none)) { s with heap := s.heap.update l (Obj.mapSeq fun x => x ++ items2), toks := s.toks }) :=
  .of_wp fun prog w A R s h => by
    obtain ⟨hp, g, d, tk, os⟩ := s
    obtain ⟨hl, hb, h⟩ := h
    have f1 := AutoSeq1.idx_int
    have f2 := AutoSeq1.sub_tuple_tuple
    have f3 := AutoSeq1.sub_list_list
    have f4 := AutoSeq1.sub_tuple_list
    have f5 := AutoSeq1.sub_list_tuple
    have hz' : (items ++ items2).size ≤ sizeLine + 1 := by rw [Array.size_append]; exact hs2
    wp_walk using (wpAny_updateSeq hl rfl (hz := hs1) (_hz' := hz')), AutoSeq1.wpAny_loadPart' hl, AutoSeq1.wpAny_loadPart' hb
    exact ⟨_, rfl, h⟩
def rExtT (K : PySem.W.Frag) : V → List V → Hp → VK → Prop := fun x vs H Q => ∃ l b xs zs, x = .ref l ∧ vs = [.ref b] ∧ H l = some (.lst xs) ∧ SqT K H b zs ∧ xs.length + zs.length ≤ sizeLine ∧ Q .non (upd H l (.lst (xs ++ zs)))
theorem mt_extT {X : Cx} : MtM X "list.extend" (rExtT X.K) := by
  intro pins s σ H x vs v us Q I rx rv h
  obtain ⟨l, b, xs, zs, rfl, rfl, hH, hB, hz, q⟩ := h
  cases rx
  obtain ⟨u, rfl, ru⟩ := rv.one
  cases ru
  obtain ⟨z, its, n, r, hl, e⟩ := I.lstM hH
  obtain ⟨its2, r2, ⟨⟨c, dct, dt, sl⟩, ho, hc, n2, hd⟩, z2⟩ := I.tuple hB
  obtain rfl : c = .type "tuple" := hc
  obtain rfl : dt = .seq its2.toArray n2 := hd
  have hl2 := r2.length
  have hsz : its.toArray.size + its2.toArray.size ≤ sizeLine := by rw [List.size_toArray, List.size_toArray]; omega
  have hlong : ¬ (!its.toArray.isEmpty && Builtin.List.listTooLong (its.toArray.size + its2.toArray.size)) = true := by
    rw [notLongL hsz, Bool.and_false]
    exact Bool.false_ne_true
  refine call_meets F.slot_list_extend ⟨_, e, rfl⟩ F.entry_list_extend (F.args_list_extend_2 _ _)
    (meets_ext_tup l its.toArray n b its2.toArray n2 dct sl hlong (by rw [List.size_toArray]; omega) (by omega)) ⟨e, ho, ?_⟩
  refine ⟨.non, _, I.lset (its' := its ++ its2) hH e (by simp) (r.append r2) ?_, rfl, q⟩
  rw [List.length_append]
  omega
section
variable {K : PySem.W.Frag} {W : WX} {N M : Nat} {ρ : Pm} {G H : Hp} {σ : Slots} {δ : Env} {μ : Mem} {Q : VK} {v w : V} {x y : DV}
theorem Rel.setL {n : Nat} {a : Addr} {vs' : List V} {xs' ys : List DV} (R : Rel K ρ G H μ) (hn : ρ n = some a) (hm : μ[n]? = some (.lst ys)) (hb : ∀ x ∈ xs', x.below n) (hd : DvL K ρ G vs' xs') :
    Rel K ρ G (upd H a (.lst vs')) (μ.set n (.lst xs')) ∧ Tr ρ G H G (upd H a (.lst vs')) := by
  have hlt : n < μ.length := R.lt n a hn
  refine ⟨⟨fun b o h => ?_, R.inj, R.nG, fun m b h => by rw [List.length_set]; exact R.lt m b h, fun m b h q => ?_, fun m q h => ?_⟩, ⟨Ex.refl _, fun b o hb h => ?_, fun b h => ?_, fun b h => .inl h⟩⟩
  · have e : b ≠ a := fun e => by rw [e, R.nG n a hn] at h; cases h
    rw [upd_ne e]; exact R.ex b o h
  · by_cases e : b = a
    · rw [e, upd_same] at q; cases q
    · rw [upd_ne e] at q; exact R.hs m b h q
  · by_cases e : m = n
    · subst e
      rw [List.getElem?_set_self hlt] at h
      cases h
      exact ⟨hb, a, vs', hn, upd_same, hd⟩
    · rw [List.getElem?_set_ne (fun z => e z.symm)] at h
      have z := R.pl m q h
      have ne : ∀ b, ρ m = some b → b ≠ a := fun b hb z => e (R.inj m n a (z ▸ hb) hn)
      cases q with
      | lst xs => obtain ⟨b, c, vs, h1, h2, h3⟩ := z; exact ⟨b, c, vs, h1, by rw [upd_ne (ne c h1)]; exact h2, h3⟩
      | dct kvs => obtain ⟨b, c, o, vs, h1, h2, h3⟩ := z; exact ⟨b, c, o, vs, h1, by rw [upd_ne (ne c h1)]; exact h2, h3⟩
      | own => obtain ⟨b, c, h1, h2⟩ := z; exact ⟨b, c, h1, by rw [upd_ne (ne b h1)]; exact h2⟩
      | ins nm fs =>
        obtain ⟨b, c, dx, C, vs, k, hk, h1, h2, cl, h4, h3⟩ := z
        have nd : dx ≠ a := fun e => by
          obtain ⟨_, a', vs', k1, k2, _⟩ := R.pl n _ hm
          rw [hn] at k1; cases k1; rw [e, k2] at h4; cases h4
        exact ⟨b, c, dx, C, vs, k, hk, h1, by rw [upd_ne (ne c h1)]; exact h2, cl, by rw [upd_ne nd]; exact h4, h3⟩
      | gone => exact z
  · have e : b ≠ a := fun e => hb n (e ▸ hn)
    rw [upd_ne e]; exact h
  · by_cases e : b = a
    · rw [e, upd_same] at h; cases h
    · rw [upd_ne e] at h; exact h
def MtD (K : PySem.W.Frag) (r : V → List V → Hp → VK → Prop) (g : DV → List DV → Mem → Res R) : Prop := ∀ (W : WX) (ρ : Pm) (G H : Hp) (σ : Slots) (μ : Mem) (v : V) (vs : List V) (x : DV) (xs : List DV) (Q : VK), Rel K ρ G H μ → DvOk K ρ G v x → DvL K ρ G vs xs →
  PostG K W ρ G H σ (fun G' H' => rpE K ρ G' H H') Q (g x xs μ) → r v vs H Q
def TyD (K : PySem.W.Frag) (T : String) (c : DV → Mem → Bool) : Prop := ∀ (ρ : Pm) (G H : Hp) (μ : Mem) (v : V) (x : DV), Rel K ρ G H μ → DvOk K ρ G v x → c x μ = true → tyV K T v H
def tyL (x : DV) (μ : Mem) : Bool := (asL μ x).isSome
def tyS (x : DV) (_ : Mem) : Bool := (asStr x).isSome
theorem td_list : TyD K "list" tyL := fun ρ G H μ v x R h e => by
  unfold tyL at e
  cases q : asL μ x with
  | none => rw [q] at e; cases e
  | some xs =>
    obtain ⟨a, vs, rfl, h2, _⟩ := asL_ok R h q
    exact .inl ⟨rfl, vs, h2⟩
theorem td_str : TyD K "str" tyS := fun ρ G H μ v x R h e => by
  unfold tyS at e
  cases q : asStr x with
  | none => rw [q] at e; cases e
  | some z =>
    rw [asStr_ok h q]
    show "str" = "str"
    rfl
def eBM (c : DV → Mem → Bool) (g : DV → List DV → Mem → Res R) (f : EM) (fa : AM) : EM := fun δ μ => (frzV f δ μ).bind fun x μ1 => if c x μ1 = true then (fa δ μ1).bind fun xs μ2 => g x xs μ2 else .bad
def eBM0 (c : DV → Mem → Bool) (g : DV → List DV → Mem → Res R) (f : EM) : EM := fun δ μ => (frzV f δ μ).bind fun x μ1 => if c x μ1 = true then g x [] μ1 else .bad
theorem snd_bm {T : String} {c : DV → Mem → Bool} {r : V → List V → Hp → VK → Prop} {g : DV → List DV → Mem → Res R} {to : TE} {ta : TA} {f : EM} {fa : AM} (hT : TyD K T c) (hm : MtD K r g) (h : SndE K W to f) (ha : SndA K W ta fa) : SndE K W (tBM K T r to ta) (eBM c g f fa) := fun ρ G H σ δ μ Q R E hp => by
  refine SndG.seq (t := to) h.toV R E hp fun x μ1 G1 H1 v t1 R1 E1 d1 hp1 => ?_
  by_cases hc : c x μ1 = true
  case neg => rw [if_neg hc] at hp1; exact hp1.elim
  rw [if_pos hc] at hp1
  refine ⟨hT ρ G1 H1 μ1 v x R1 d1 hc, ?_⟩
  refine SndG.seq (t := ta) ha R1 E1 (hp1.shiftE t1) fun xs μ2 G2 H2 vs t2 R2 E2 d2 hp2 => ?_
  exact hm W ρ G2 H2 σ μ2 v vs x xs Q R2 (d1.mono t2.exG fun _ _ q => q) d2 (hp2.shiftE t2)
theorem snd_bm0 {T : String} {c : DV → Mem → Bool} {r : V → List V → Hp → VK → Prop} {g : DV → List DV → Mem → Res R} {to : TE} {f : EM} (hT : TyD K T c) (hm : MtD K r g) (h : SndE K W to f) : SndE K W (tBM0 K T r to) (eBM0 c g f) := fun ρ G H σ δ μ Q R E hp => by
  refine SndG.seq (t := to) h.toV R E hp fun x μ1 G1 H1 v t1 R1 E1 d1 hp1 => ?_
  by_cases hc : c x μ1 = true
  case neg => rw [if_neg hc] at hp1; exact hp1.elim
  rw [if_pos hc] at hp1
  exact ⟨hT ρ G1 H1 μ1 v x R1 d1 hc, hm W ρ G1 H1 σ μ1 v [] x [] Q R1 d1 .nil (hp1.shiftE t1)⟩
/-- the list at a place -/
def atPl (μ : Mem) : DV → Option (Nat × List DV)
  | .loc n => match μ[n]? with
    | some (.lst xs) => some (n, xs)
    | _ => none
  | .dat _ => none
theorem atPl_ok {n : Nat} {xs : List DV} (R : Rel K ρ G H μ) (h : DvOk K ρ G v x) (e : atPl μ x = some (n, xs)) : ∃ a vs, v = .ref a ∧ ρ n = some a ∧ H a = some (.lst vs) ∧ DvL K ρ G vs xs ∧ μ[n]? = some (.lst xs) ∧ ∀ x ∈ xs, x.below n := by
  unfold atPl at e
  split at e
  · rename_i m
    split at e
    · rename_i ys q
      cases e
      obtain ⟨a, rfl, hn⟩ := h
      obtain ⟨b, c, vs, h1, h2, h3⟩ := R.pl _ _ q
      rw [hn] at h1; cases h1
      exact ⟨a, vs, rfl, hn, h2, h3, q, b⟩
    · cases e
  · cases e
def belowB (n : Nat) : DV → Bool
  | .dat _ => true
  | .loc m => decide (m < n)
theorem belowB_ok {n : Nat} (h : belowB n x = true) : x.below n := by
  cases x with
  | dat d => trivial
  | loc m => exact (of_decide_eq_true h : m < n)
def dAppend (x : DV) (xs : List DV) (μ : Mem) : Res R := match atPl μ x with
  | none => .bad
  | some (n, ys) => match xs with
    | [y] => if ys.length < sizeLine ∧ belowB n y = true then .ok (.dat .non) (μ.set n (.lst (ys ++ [y]))) else .bad
    | _ => .bad
theorem below_app {n : Nat} {xs ys : List DV} (h1 : ∀ x ∈ xs, x.below n) (h2 : ∀ x ∈ ys, x.below n) : ∀ x ∈ xs ++ ys, x.below n := fun x hx => (List.mem_append.mp hx).elim (h1 x) (h2 x)
theorem md_append : MtD K rAppend dAppend := fun W ρ G H σ μ v vs x xs Q R hx hs hp => by
  unfold dAppend at hp
  cases e : atPl μ x with
  | none => rw [e] at hp; exact hp.elim
  | some q =>
    obtain ⟨n, ys⟩ := q
    rw [e] at hp
    obtain ⟨a, ws, rfl, hn, hH, hd, hm, hb⟩ := atPl_ok R hx e
    match xs, hs, hp with
    | [], _, hp => exact hp.elim
    | _ :: _ :: _, _, hp => exact hp.elim
    | [y], hs, hp =>
      obtain ⟨u, rfl, du⟩ := hs.one
      simp only at hp
      by_cases c : ys.length < sizeLine ∧ belowB n y = true
      · rw [if_pos c] at hp
        obtain ⟨R2, t2⟩ := R.setL hn hm (below_app hb fun x hx => by rw [List.mem_singleton.mp hx]; exact belowB_ok c.2) (hd.append (.cons du .nil))
        exact ⟨a, ws, u, rfl, rfl, hH, by rw [paired_len hd]; exact c.1, hp _ _ _ t2 R2 Rp.non⟩
      · rw [if_neg c] at hp; exact hp.elim
def rExt (K : PySem.W.Frag) : V → List V → Hp → VK → Prop := fun x vs H Q => rExtend x vs H Q ∨ rExtT K x vs H Q
theorem mt_ext {X : Cx} : MtM X "list.extend" (rExt X.K) := fun pins s σ H x xs v us Q I rx rv h => h.elim (mt_extend pins s σ H x xs v us Q I rx rv) (mt_extT pins s σ H x xs v us Q I rx rv)
def dExtend (x : DV) (xs : List DV) (μ : Mem) : Res R := match atPl μ x with
  | none => .bad
  | some (n, ys) => match xs with
    | [y] => match asM μ y with
      | some zs => if ys.length + zs.length ≤ sizeLine ∧ zs.all (belowB n) = true then .ok (.dat .non) (μ.set n (.lst (ys ++ zs))) else .bad
      | none => match asT y with
        | some ds => if ys.length + ds.length ≤ sizeLine then .ok (.dat .non) (μ.set n (.lst (ys ++ ds.map DV.dat))) else .bad
        | none => .bad
    | _ => .bad
theorem md_ext : MtD K (rExt K) dExtend := fun W ρ G H σ μ v vs x xs Q R hx hs hp => by
  unfold dExtend at hp
  cases e : atPl μ x with
  | none => rw [e] at hp; exact hp.elim
  | some q =>
    obtain ⟨n, ys⟩ := q
    rw [e] at hp
    obtain ⟨a, ws, rfl, hn, hH, hd, hm, hb⟩ := atPl_ok R hx e
    match xs, hs, hp with
    | [], _, hp => exact hp.elim
    | _ :: _ :: _, _, hp => exact hp.elim
    | [y], hs, hp =>
      obtain ⟨u, rfl, du⟩ := hs.one
      simp only at hp
      cases e2 : asM μ y with
      | some zs =>
        simp only [e2] at hp
        by_cases c : ys.length + zs.length ≤ sizeLine ∧ zs.all (belowB n) = true
        · rw [if_pos c] at hp
          obtain ⟨b, us, rfl, k2, k3⟩ := asM_ok R du e2
          obtain ⟨R2, t2⟩ := R.setL hn hm (below_app hb fun x hx => belowB_ok (List.all_eq_true.mp c.2 x hx)) (hd.append k3)
          exact .inl ⟨a, b, ws, us, rfl, rfl, hH, k2, by rw [paired_len hd, paired_len k3]; exact c.1, hp _ _ _ t2 R2 Rp.non⟩
        · rw [if_neg c] at hp; exact hp.elim
      | none =>
        simp only [e2] at hp
        cases e3 : asT y with
        | none => rw [e3] at hp; exact hp.elim
        | some ds =>
          simp only [e3] at hp
          by_cases c : ys.length + ds.length ≤ sizeLine
          · rw [if_pos c] at hp
            obtain ⟨b, us, rfl, k2, k3⟩ := asT_ok R du e3
            obtain ⟨R2, t2⟩ := R.setL hn hm (below_app hb fun x hx => by obtain ⟨d, _, rfl⟩ := List.mem_map.mp hx; trivial) (hd.append (k3.dv (ρ := ρ)))
            exact .inr ⟨a, b, ws, us, rfl, rfl, hH, k2, by rw [paired_len hd, k3.length]; exact c, hp _ _ _ t2 R2 Rp.non⟩
          · rw [if_neg c] at hp; exact hp.elim
theorem DvL.erase {vs : List V} {xs : List DV} (h : DvL K ρ G vs xs) (k : Nat) : DvL K ρ G (vs.eraseIdx k) (xs.eraseIdx k) := by
  induction h generalizing k with
  | nil => exact .nil
  | cons a b ih =>
    cases k with
    | zero => exact b
    | succ k => exact .cons a (ih k)
def dPop (x : DV) (xs : List DV) (μ : Mem) : Res R := match atPl μ x with
  | none => .bad
  | some (n, ys) => match xs with
    | [i] => match asI i with
      | some j => if -2 ^ 63 ≤ j ∧ j < 2 ^ 63 then match seqIndex? j ys.length with
          | some k => match ys[k]? with
            | some y => .ok (ofV y) (μ.set n (.lst (ys.eraseIdx k)))
            | none => .bad
          | none => .bad
        else .bad
      | none => .bad
    | _ => .bad
theorem md_popAt : MtD K rPopAt dPop := fun W ρ G H σ μ v vs x xs Q R hx hs hp => by
  unfold dPop at hp
  cases e : atPl μ x with
  | none => rw [e] at hp; exact hp.elim
  | some q =>
    obtain ⟨n, ys⟩ := q
    rw [e] at hp
    obtain ⟨a, ws, rfl, hn, hH, hd, hm, hb⟩ := atPl_ok R hx e
    match xs, hs, hp with
    | [], _, hp => exact hp.elim
    | _ :: _ :: _, _, hp => exact hp.elim
    | [i], hs, hp =>
      obtain ⟨u, rfl, du⟩ := hs.one
      simp only at hp
      cases e2 : asI i with
      | none => rw [e2] at hp; exact hp.elim
      | some j =>
        simp only [e2] at hp
        by_cases c : -2 ^ 63 ≤ j ∧ j < 2 ^ 63
        case neg => rw [if_neg c] at hp; exact hp.elim
        rw [if_pos c] at hp
        cases e3 : seqIndex? j ys.length with
        | none => rw [e3] at hp; exact hp.elim
        | some k =>
          simp only [e3] at hp
          cases e4 : ys[k]? with
          | none => rw [e4] at hp; exact hp.elim
          | some y =>
            rw [e4] at hp
            obtain ⟨z, h1, h2⟩ := DvL.get' hd e4
            obtain ⟨R2, t2⟩ := R.setL hn hm (fun x hx => hb x (List.mem_of_mem_eraseIdx hx)) (hd.erase k)
            rw [asI_ok du e2]
            exact ⟨a, ws, j, k, z, rfl, rfl, hH, c.1, c.2, by rw [paired_len hd]; exact e3, h1, hp _ _ _ t2 R2 (RpR.ofV h2)⟩
def dClear (x : DV) (xs : List DV) (μ : Mem) : Res R := match atPl μ x with
  | none => .bad
  | some (n, _) => match xs with
    | [] => .ok (.dat .non) (μ.set n (.lst []))
    | _ => .bad
theorem md_clear : MtD K rClear dClear := fun W ρ G H σ μ v vs x xs Q R hx hs hp => by
  unfold dClear at hp
  cases e : atPl μ x with
  | none => rw [e] at hp; exact hp.elim
  | some q =>
    obtain ⟨n, ys⟩ := q
    rw [e] at hp
    obtain ⟨a, ws, rfl, hn, hH, hd, hm, hb⟩ := atPl_ok R hx e
    match xs, hs, hp with
    | _ :: _, _, hp => exact hp.elim
    | [], hs, hp =>
      cases hs
      obtain ⟨R2, t2⟩ := R.setL hn hm (xs' := []) (vs' := []) (fun x hx => nomatch hx) .nil
      exact ⟨a, ws, rfl, rfl, hH, hp _ _ _ t2 R2 Rp.non⟩
def dInsert (x : DV) (xs : List DV) (μ : Mem) : Res R := match atPl μ x with
  | none => .bad
  | some (n, ys) => match xs with
    | [i, y] => match asI i with
      | some j => if ys.length < sizeLine ∧ 0 ≤ j ∧ j < 2 ^ 63 ∧ belowB n y = true then .ok (.dat .non) (μ.set n (.lst (ys.take j.toNat ++ [y] ++ ys.drop j.toNat))) else .bad
      | none => .bad
    | _ => .bad
theorem md_insert : MtD K (fun x vs H Q => ∃ (l : Addr) (xs : List V) (i : Int) (y : V), x = V.ref l ∧ vs = [V.int i, y] ∧ H l = some (HO.lst xs) ∧ xs.length < sizeLine ∧ 0 ≤ i ∧ i < 2 ^ 63 ∧ Q V.non (upd H l (HO.lst (xs.take i.toNat ++ [y] ++ xs.drop i.toNat)))) dInsert := fun W ρ G H σ μ v vs x xs Q R hx hs hp => by
  unfold dInsert at hp
  cases e : atPl μ x with
  | none => rw [e] at hp; exact hp.elim
  | some q =>
    obtain ⟨n, ys⟩ := q
    rw [e] at hp
    obtain ⟨a, ws, rfl, hn, hH, hd, hm, hb⟩ := atPl_ok R hx e
    match xs, hs, hp with
    | [], _, hp => exact hp.elim
    | [_], _, hp => exact hp.elim
    | _ :: _ :: _ :: _, _, hp => exact hp.elim
    | [i, y], hs, hp =>
      obtain ⟨u, z, rfl, du, dz⟩ := hs.two
      simp only at hp
      cases e2 : asI i with
      | none => rw [e2] at hp; exact hp.elim
      | some j =>
        simp only [e2] at hp
        by_cases c : ys.length < sizeLine ∧ 0 ≤ j ∧ j < 2 ^ 63 ∧ belowB n y = true
        case neg => rw [if_neg c] at hp; exact hp.elim
        rw [if_pos c] at hp
        obtain ⟨R2, t2⟩ := R.setL hn hm (below_app (below_app (fun x hx => hb x (List.mem_of_mem_take hx)) fun x hx => by rw [List.mem_singleton.mp hx]; exact belowB_ok c.2.2.2) fun x hx => hb x (List.mem_of_mem_drop hx)) (((hd.take j.toNat).append (.cons dz .nil)).append (hd.drop j.toNat))
        rw [asI_ok du e2]
        exact ⟨a, ws, j, z, rfl, rfl, hH, by rw [paired_len hd]; exact c.1, c.2.1, c.2.2.1, hp _ _ _ t2 R2 Rp.non⟩
def dSplit (x : DV) (xs : List DV) (μ : Mem) : Res R := match asStr x with
  | none => .bad
  | some a => match xs with
    | [y] => match asStr y with
      | some b => if (b.length == 0) = false ∧ a.length + 2 ≤ sizeLine then .ok (.nl ((Txt.split a b).map fun s => .dat (.str s))) μ else .bad
      | none => .bad
    | _ => .bad
theorem dvl_strs : ∀ (l : List Str), DvL K ρ G (l.map V.str) (l.map fun s => .dat (.str s))
  | [] => .nil
  | s :: l => .cons (Rp.str s) (dvl_strs l)
theorem md_split : MtD K (fun x xs H Q => ∃ a b, x = V.str a ∧ xs = [V.str b] ∧ (b.length == 0) = false ∧ a.length + 2 ≤ sizeLine ∧ rNewStrs (Txt.split a b) H Q) dSplit := fun W ρ G H σ μ v vs x xs Q R hx hs hp => by
  unfold dSplit at hp
  cases e : asStr x with
  | none => rw [e] at hp; exact hp.elim
  | some a =>
    rw [e] at hp
    match xs, hs, hp with
    | [], _, hp => exact hp.elim
    | _ :: _ :: _, _, hp => exact hp.elim
    | [y], hs, hp =>
      obtain ⟨u, rfl, du⟩ := hs.one
      simp only at hp
      cases e2 : asStr y with
      | none => rw [e2] at hp; exact hp.elim
      | some b =>
        simp only [e2] at hp
        by_cases c : (b.length == 0) = false ∧ a.length + 2 ≤ sizeLine
        case neg => rw [if_neg c] at hp; exact hp.elim
        rw [if_pos c] at hp
        rw [asStr_ok du e2, asStr_ok hx e]
        exact ⟨a, b, rfl, rfl, c.1, c.2, fun p hn => new_list R (Tr.refl _ _ _) hn (dvl_strs _) hp⟩
end
section
variable {X : Cx} {W : WX} {o e : Expr} {es : List Expr} {to : TE} {ta : TA} {name : Str} {apos cpos : Pos} {T id : String} {r : V → List V → Hp → VK → Prop} {c : DV → Mem → Bool} {g : DV → List DV → Mem → Res R} {f : EM} {fa : AM}
theorem pm_bm (hp : PlainAttrs T) (hsl : Slot T name id) (hty : typeOf (Value.builtin id) = pure (Value.type "method_descriptor")) (hm : MtR X id r) (hT : TyD X.K T c) (hd : MtD X.K r g) (ho : PM X W o to f) (ha : PMA X W (e :: es) ta fa)
    (h1 : attributeBase o name X.env (eval o X.env) = eval o X.env := by rfl)
    (h2 : (((((backTo cpos (starEach (e :: es) X.env)).all fun x => !x.fst) && (backToKw cpos (keywordEach [] X.env)).all fun x => x.fst.isSome) && decide (((e :: es).length + ([] : List Keyword).length + if ([] : List Keyword).isEmpty = true then 0 else 1) < 30)) = true) := by rfl)
    (h3 : (apos.endLine == cpos.line) = true := by rfl) (h4 : starEach (e :: es) X.env = (false, eval e X.env) :: starEach es X.env := by rfl) (h5 : ((backTo cpos (starEach es X.env)).any fun x => x.fst) = false := by rfl) :
    PM X W ((o.Attribute name apos).Call (e :: es) [] cpos) (tBM X.K T r to ta) (eBM c g f fa) := ⟨pe_bm hp hsl hty hm ho.pe ha.pe h1 h2 h3 h4 h5, snd_bm hT hd ho.sd ha.sd⟩
theorem pm_bm0 (hp : PlainAttrs T) (hsl : Slot T name id) (hty : typeOf (Value.builtin id) = pure (Value.type "method_descriptor")) (hm : MtR X id r) (hT : TyD X.K T c) (hd : MtD X.K r g) (ho : PM X W o to f)
    (h1 : attributeBase o name X.env (eval o X.env) = eval o X.env := by rfl) (h3 : (apos.endLine == cpos.line) = true := by rfl) :
    PM X W ((o.Attribute name apos).Call [] [] cpos) (tBM0 X.K T r to) (eBM0 c g f) := ⟨pe_bm0 hp hsl hty hm ho.pe h1 h3, snd_bm0 hT hd ho.sd⟩
end
end DL
namespace DL
open PySem PySem.Spec PyProof.Rows L2
/-! ### x[i] = e, x[i] += e -/
def rGetL (K : PySem.W.Frag) : V → V → Hp → VK → Prop := fun o i H Q => ∃ p xs k v, o = .ref p ∧ i = .int k ∧ SqL K H p xs ∧ 0 ≤ k ∧ k < 2 ^ 63 ∧ xs[k.toNat]? = some v ∧ Q v H
theorem pget_list {X : Cx} : PGet X (rGetL X.K) := by
  intro pins s σ H o i ov iv Q I ro ri h
  obtain ⟨p, xs, k, v, rfl, rfl, hq, h0, h1, hx, q⟩ := h
  cases ro
  obtain ⟨t, rfl⟩ := ri
  obtain ⟨its, rv, pl, hz⟩ := I.list hq
  obtain ⟨u, hu, ru⟩ := rv.get hx
  exact wpAny_getItem_list pl.isList h0 h1 (by simpa using hu) ⟨v, H, I, ru, q⟩
section
variable {K : PySem.W.Frag} {W : WX} {N M : Nat} {ρ : Pm} {G H : Hp} {σ : Slots} {δ : Env} {μ : Mem} {Q : VK} {v w : V} {x y : DV}
theorem DvL.set {vs : List V} {xs : List DV} (h : DvL K ρ G vs xs) (k : Nat) (d : DvOk K ρ G v x) : DvL K ρ G (vs.set k v) (xs.set k x) := by
  induction h generalizing k with
  | nil => exact .nil
  | cons a b ih =>
    cases k with
    | zero => exact .cons d b
    | succ k => exact .cons a (ih k)
/-- the place's list with another item -/
def setPl (μ : Mem) (x i y : DV) : Option Mem := match atPl μ x with
  | none => none
  | some (n, ys) => match asI i with
    | none => none
    | some k => match ixN ys.length k with
      | some j => if belowB n y = true then some (μ.set n (.lst (ys.set j y))) else none
      | none => none
theorem setPl_ok {i : DV} {vi : V} {μ' : Mem} {Qh : Hp → Prop} (R : Rel K ρ G H μ) (hx : DvOk K ρ G v x) (hi : DvOk K ρ G vi i) (hy : DvOk K ρ G w y) (e : setPl μ x i y = some μ')
    (go : ∀ H', Tr ρ G H G H' → Rel K ρ G H' μ' → Qh H') : rSetL v vi w H Qh := by
  unfold setPl at e
  cases e1 : atPl μ x with
  | none => rw [e1] at e; cases e
  | some q =>
    obtain ⟨n, ys⟩ := q
    simp only [e1] at e
    obtain ⟨a, ws, rfl, hn, hH, hd, hm, hb⟩ := atPl_ok R hx e1
    cases e2 : asI i with
    | none => rw [e2] at e; cases e
    | some k =>
      simp only [e2] at e
      cases e3 : ixN ys.length k with
      | none => rw [e3] at e; cases e
      | some j =>
        simp only [e3] at e
        by_cases c : belowB n y = true
        · rw [if_pos c] at e; cases e
          obtain ⟨R2, t2⟩ := R.setL hn hm (fun x hx => (List.mem_or_eq_of_mem_set hx).elim (hb x) fun z => by rw [z]; exact belowB_ok c) (hd.set j hy)
          exact ⟨a, ws, k, j, rfl, asI_ok hi e2, hH, by rw [paired_len hd]; exact e3, go _ t2 R2⟩
        · rw [if_neg c] at e; cases e
def gSet (fo fi fe : EM) : SM := fun _ δ μ => lift ((frzV fe δ μ).bind fun y μ1 => (frzV fo δ μ1).bind fun x μ2 => (frzV fi δ μ2).bind fun i μ3 => match setPl μ3 x i y with
  | some μ4 => .ok () μ4
  | none => .bad) δ fun _ μ4 => .next δ μ4
/-- an expression, then more of the same statement -/
theorem SndG.stm2 {α β γ : Type} {t : Slots → Hp → (β → Hp → Prop) → Prop} {f : Env → Mem → Res α} {rp : Pm → Hp → Hp → Hp → β → α → Prop} {Dn : Ends}
    (h : SndG K W t f rp) (R : Rel K ρ G H μ) (E : EnvOk K ρ G σ δ) {k : α → Mem → Res γ} {kk : γ → Mem → Out}
    (hp : PostS K W N ρ G H Dn (lift ((f δ μ).bind k) δ kk)) {Q : β → Hp → Prop}
    (go : ∀ r μ' G' H' v, Tr ρ G H G' H' → Rel K ρ G' H' μ' → EnvOk K ρ G' σ δ → rp ρ G' H H' v r → PostS K W N ρ G' H' Dn (lift (k r μ') δ kk) → Q v H') : t σ H Q := by
  refine h ρ G H σ δ μ Q R E ?_
  cases e : f δ μ with
  | ok r μ' => rw [e] at hp; exact fun G' H' v t' R' q => go r μ' G' H' v t' R' (E.mono t'.exG) q (PostS.shift t'.toS hp)
  | exc x μ' => rw [e] at hp; exact fun G' H' cls d t' R' q => hp ρ G' H' σ cls d t'.toS R' (E.mono t'.exG) q
  | bad => rw [e] at hp; exact hp
theorem snd_set {to ti te : TE} {fo fi fe : EM} (ho : SndE K W to fo) (hi : SndE K W ti fi) (he : SndE K W te fe) : SndS K W (tAsg te (gSub to ti rSetL)) (gSet fo fi fe) := fun N ρ G H σ δ μ Dn R E hp => by
  refine SndG.stm2 (t := te) he.toV R E hp fun y μ1 G1 H1 w t1 R1 E1 d1 hp1 => ?_
  refine SndG.stm2 (t := to) ho.toV R1 E1 hp1 fun x μ2 G2 H2 v t2 R2 E2 d2 hp2 => ?_
  refine SndG.stm2 (t := ti) hi.toV R2 E2 hp2 fun i μ3 G3 H3 vi t3 R3 E3 d3 hp3 => ?_
  cases e : setPl μ3 x i y with
  | none => rw [e] at hp3; exact hp3.elim
  | some μ4 =>
    rw [e] at hp3
    exact setPl_ok R3 (d2.mono t3.exG fun _ _ q => q) d3 (d1.mono (t2.exG.trans t3.exG) fun _ _ q => q) e fun H' t4 R4 => hp3 ρ G3 H' σ t4.toS R4 E3
def getPl (μ : Mem) (x i : DV) : Option Int := match asL μ x with
  | none => none
  | some xs => match asI i with
    | none => none
    | some k => if 0 ≤ k ∧ k < 2 ^ 63 then match xs[k.toNat]? with
        | some y => asI y
        | none => none
      else none
def gAugS (op : Int → Int → Int) (fo fi fe : EM) : SM := fun _ δ μ => lift ((frzV fo δ μ).bind fun x μ1 => (frzV fi δ μ1).bind fun i μ2 => match getPl μ2 x i with
  | none => .bad
  | some a => (frzV fe δ μ2).bind fun y μ3 => match asI y with
    | none => .bad
    | some b => match setPl μ3 x i (.dat (.int (op a b))) with
      | some μ4 => .ok () μ4
      | none => .bad) δ fun _ μ4 => .next δ μ4
theorem snd_augS {to ti te : TE} {fo fi fe : EM} {op : Int → Int → Int} (ho : SndE K W to fo) (hi : SndE K W ti fi) (he : SndE K W te fe) : SndS K W (tAugS to ti te (rGetL K) (ipI op) rSetL) (gAugS op fo fi fe) := fun N ρ G H σ δ μ Dn R E hp => by
  refine SndG.stm2 (t := to) ho.toV R E hp fun x μ1 G1 H1 v t1 R1 E1 d1 hp1 => ?_
  refine SndG.stm2 (t := ti) hi.toV R1 E1 hp1 fun i μ2 G2 H2 vi t2 R2 E2 d2 hp2 => ?_
  cases eg : getPl μ2 x i with
  | none => rw [eg] at hp2; exact hp2.elim
  | some a =>
    simp only [eg] at hp2
    have d1' := d1.mono t2.exG fun _ _ q => q
    unfold getPl at eg
    cases e1 : asL μ2 x with
    | none => rw [e1] at eg; cases eg
    | some xs =>
      simp only [e1] at eg
      cases e2 : asI i with
      | none => rw [e2] at eg; cases eg
      | some k =>
        simp only [e2] at eg
        by_cases c : 0 ≤ k ∧ k < 2 ^ 63
        case neg => rw [if_neg c] at eg; cases eg
        rw [if_pos c] at eg
        cases e3 : xs[k.toNat]? with
        | none => rw [e3] at eg; cases eg
        | some z =>
          simp only [e3] at eg
          obtain ⟨p, vs, rfl, hq, hd⟩ := asL_ok R2 d1' e1
          obtain ⟨u, h1, h2⟩ := DvL.get' hd e3
          refine ⟨p, vs, k, u, rfl, asI_ok d2 e2, hq, c.1, c.2, h1, ?_⟩
          rw [asI_ok h2 eg]
          refine SndG.stm2 (t := te) he.toV R2 E2 hp2 fun y μ3 G3 H3 w t3 R3 E3 d3 hp3 => ?_
          cases e4 : asI y with
          | none => rw [e4] at hp3; exact hp3.elim
          | some b =>
            simp only [e4] at hp3
            refine ⟨a, b, rfl, asI_ok d3 e4, ?_⟩
            cases e5 : setPl μ3 x i (.dat (.int (op a b))) with
            | none => rw [e5] at hp3; exact hp3.elim
            | some μ4 =>
              rw [e5] at hp3
              exact setPl_ok R3 (d1'.mono t3.exG fun _ _ q => q) (d2.mono t3.exG fun _ _ q => q) (y := .dat (.int (op a b))) (Rp.int _) e5 fun H' t4 R4 => hp3 ρ G3 H' σ t4.toS R4 E3
/-- a += b of ints -/
def gAug (i : Nat) (op : Int → Int → Int) (fe : EM) : SM := fun _ δ μ => match δ[i]? with
  | some (some x) => match asI x with
    | some a => lift (frzV fe δ μ) δ fun y μ' => match asI y with
      | some b => .next (δ.set i (some (.dat (.int (op a b))))) μ'
      | none => .bad
    | none => .bad
  | _ => .bad
theorem snd_aug {te : TE} {fe : EM} {op : Int → Int → Int} (i : Nat) (he : SndE K W te fe) : SndS K W (tAug i te (ipI op)) (gAug i op fe) := fun N ρ G H σ δ μ Dn R E hp => by
  unfold gAug at hp
  split at hp
  · rename_i x e
    obtain ⟨v, hv, d⟩ := E.at_ i x e
    split at hp
    · rename_i a ea
      refine ⟨v, hv, ?_⟩
      rw [asI_ok d ea]
      refine SndG.stm (t := te) he.toV R E hp fun y μ' G' H' w t' R' E' d' hp' => ?_
      cases eb : asI y with
      | none => rw [eb] at hp'; exact hp'.elim
      | some b =>
        rw [eb] at hp'
        exact ⟨a, b, rfl, asI_ok d' eb, hp' ρ G' H' _ t'.toS R' (E'.set i (x := .dat (.int (op a b))) (Rp.int _))⟩
    · exact hp.elim
  · exact hp.elim
/-! ### two at once -/
def gPar (i j : Nat) (fa : AM) : SM := fun _ δ μ => lift (fa δ μ) δ fun xs μ' => match xs with
  | [x, y] => .next ((δ.set i (some x)).set j (some y)) μ'
  | _ => .bad
theorem snd_par {ta : TA} {fa : AM} (i j : Nat) (ha : SndA K W ta fa) : SndS K W (tPar i j ta) (gPar i j fa) := fun N ρ G H σ δ μ Dn R E hp => by
  refine SndG.stm (t := ta) ha R E hp fun xs μ' G' H' vs t' R' E' d hp' => ?_
  match xs, d, hp' with
  | [], _, hp' => exact hp'.elim
  | [_], _, hp' => exact hp'.elim
  | _ :: _ :: _ :: _, _, hp' => exact hp'.elim
  | [x, y], d, hp' =>
    obtain ⟨v, w, rfl, dx, dy⟩ := d.two
    exact ⟨v, w, rfl, hp' ρ G' H' _ t'.toS R' ((E'.set i dx).set j dy)⟩
/-- .. both new places -/
def gPar2 (i j : Nat) (f g : EM) : SM := fun N δ μ => lift (f δ μ) δ fun r μ1 => match bindR N i r δ μ1 with
  | .next δ1 μ2 => lift (g δ μ2) δ fun r2 μ3 => bindR N j r2 δ1 μ3
  | _ => .bad
end
section
variable {X : Cx} {W : WX} {pos p tpos px py pt pt2 : Pos} {e o i a b : Expr} {te to ti : TE} {f fo fi : EM} {ta : TA} {fa : AM}
theorem sm_set (ho : PM X W o to fo) (hi : PM X W i ti fi) (he : PM X W e te f)
    (hs : ∀ (v : Value), assign (o.Subscript i p) X.env v = (do
                let ov ← holding [v] (eval o X.env)
                let iv ← holding [v, ov] (eval i X.env)
                standAt p
                holding [v, ov, iv] (setItem ov iv v)
                release [v, ov, iv] []) := by intro _; rfl)
    (a1 : swapsWithSole [o.Subscript i p] e pos.line X.env = pure false := by rfl) (a2 : swappedStores [o.Subscript i p] e X.env = pure none := by rfl) (a3 : List.map (fun x => x.snd) (assignEach [o.Subscript i p] X.env) = [assign (o.Subscript i p) X.env] := by rfl) :
    PSM X W (.Assign [o.Subscript i p] e pos) (tAsg te (gSub to ti rSetL)) (gSet fo fi f) := ⟨ps_asg he.pe (pg_sub ho.pe hi.pe set_list hs) a1 a2 a3, snd_set ho.sd hi.sd he.sd⟩
theorem sm_augS (ho : PM X W o to fo) (hi : PM X W i ti fi) (he : PM X W e te f)
    (hs : ∀ (ov iv new : Value), augStore i ov iv new = (do
                      holding [new, ov, iv] (setItem ov iv new)
                      release [new, ov, iv] []
                      pure Flow.next) := by intro _ _ _; rfl) :
    PSM X W (.AugAssign (o.Subscript i tpos) .Add e pos) (tAugS to ti te (rGetL X.K) (ipI fun i j => i + j) rSetL) (gAugS (fun i j => i + j) fo fi f) := ⟨ps_augS ho.pe hi.pe pget_list he.pe ip_add set_list hs, snd_augS ho.sd hi.sd he.sd⟩
theorem sm_aug {x : Str} (j : Nat) (hN : X.N.Nodup) (he : PM X W e te f) (hi : X.N[j]? = some x := by rfl) (hx : Loc X.env.scope x := by first | exact Or.inl rfl | exact Or.inr rfl)
    (hf : X.fn x = true ∨ X.env.scope.names.lookup x = some .local := by first | exact .inl rfl | exact .inr rfl) :
    PSM X W (.AugAssign (.Name x p) .Add e pos) (tAug j te (ipI fun i j => i + j)) (gAug j (fun i j => i + j) f) := ⟨ps_aug hN hi hx he.pe ip_add hf, snd_aug j he.sd⟩
theorem sm_par {x y : Str} {kt k2 : Nat} (n m : Nat) (hc : X.calm = true) (hN : X.N.Nodup) (ha : PMA X W [a, b] ta fa) (hi : X.N[n]? = some x := by rfl) (hj : X.N[m]? = some y := by rfl) (hne : n ≠ m := by decide)
    (hx : X.env.scope.names.lookup x = some .local := by rfl) (hy : X.env.scope.names.lookup y = some .local := by rfl)
    (hs : swappedStores [Expr.Tuple [Expr.Name x px, Expr.Name y py] kt pt] (Expr.Tuple [a, b] k2 pt2) X.env = pure (some [x, y]) := by rfl)
    (hs2 : swapsWithSole [Expr.Tuple [Expr.Name x px, Expr.Name y py] kt pt] (Expr.Tuple [a, b] k2 pt2) pos.line X.env = pure false := by rfl) :
    PSM X W (.Assign [Expr.Tuple [Expr.Name x px, Expr.Name y py] kt pt] (Expr.Tuple [a, b] k2 pt2) pos) (tPar n m ta) (gPar n m fa) := ⟨ps_par hc hN hi hj hne hx hy ha.pe hs hs2, snd_par n m ha.sd⟩
theorem pm_cb {x : Str} {es : List Expr} {id : String} {r : List V → Hp → VK → Prop} {g : List DV → Mem → Res R} (hr : CallR X (.builtin id) r) (hd : CallD X.K r g) (hg : Gl X x) (hm : X.mg x = none) (hv : bootBuiltins x = some (.builtin id)) (ha : PMA X W (e :: es) ta fa)
    (hn : x ≠ "__name__" := by decide) (hdb : (x == ("__debug__" : Str)) = false := by decide) (he : starEach (e :: es) X.env = (false, eval e X.env) :: starEach es X.env := by rfl) (hpl : (backTo pos (starEach es X.env)).any (·.1) = false := by rfl) :
    PM X W (.Call (.Name x p) (e :: es) [] pos) (tCB r ta) (eCB g fa) := ⟨pe_callB hr hg hm hv ha.pe hn hdb he hpl, snd_cb hd ha.sd⟩
end
end DL
namespace DL
open PySem PySem.Spec PyProof.Rows L2
section
variable {K : PySem.W.Frag} {W : WX} {N M : Nat} {ρ : Pm} {G H : Hp} {σ : Slots} {δ : Env} {μ : Mem} {Q : VK} {v w : V} {x y : DV}
theorem bindR_ok {r : R} {i : Nat} {G0 H0 : Hp} {δ1 : Env} {μ2 : Mem} (R' : Rel K ρ G H μ) (t' : TrS N ρ G0 H0 ρ G H) (d : RpR K ρ G H0 H v r) (e : bindR N i r δ μ = .next δ1 μ2) :
    ∃ ρ1 x, TrS N ρ G0 H0 ρ1 G H ∧ Rel K ρ1 G H μ2 ∧ (∀ n b, ρ n = some b → ρ1 n = some b) ∧ DvOk K ρ1 G v x ∧ δ1 = δ.set i (some x) := by
  cases r with
  | dat d' => cases e; exact ⟨ρ, .dat d', t', R', fun _ _ q => q, d, rfl⟩
  | loc n => cases e; exact ⟨ρ, .loc n, t', R', fun _ _ q => q, d, rfl⟩
  | nl xs =>
    obtain ⟨a, vs, rfl, h2, h3, h4, h5, h6⟩ := d
    have up : ∀ n b, ρ n = some b → addP ρ μ.length a n = some b := fun n b q => by
      unfold addP; rw [if_neg (Nat.ne_of_lt (R'.lt n b q))]; exact q
    unfold bindR at e
    by_cases hN : N ≤ μ.length
    case neg => simp only [if_neg hN] at e; cases e
    simp only [if_pos hN] at e
    cases e
    obtain ⟨R2, t2, up, at_⟩ := R'.alloc (p := .lst xs) hN t' (by rw [h2]; simp) h4 h5 h6 ⟨DvL.below R' h3, a, vs, by unfold addP; rw [if_pos rfl], h2, DvL.mono (Ex.refl _) up h3⟩
    exact ⟨_, .loc μ.length, t2, R2, up, ⟨a, rfl, at_⟩, rfl⟩
  | nk kvs =>
    obtain ⟨a, o, vs, rfl, h2, hk, h3, h4, h5, h6⟩ := d
    have up : ∀ n b, ρ n = some b → addP ρ μ.length a n = some b := fun n b q => by
      unfold addP; rw [if_neg (Nat.ne_of_lt (R'.lt n b q))]; exact q
    have bl : ∀ p ∈ kvs, p.2.below μ.length := fun p hp => DvL.below R' h3 p.2 (List.mem_map.mpr ⟨p, hp, rfl⟩)
    unfold bindR at e
    by_cases hN : N ≤ μ.length
    case neg => simp only [if_neg hN] at e; cases e
    simp only [if_pos hN] at e
    cases e
    obtain ⟨R2, t2, up, at_⟩ := R'.alloc (p := .dct kvs) hN t' (by rw [h2]; simp) h4 h5 h6 ⟨bl, a, o, vs, by unfold addP; rw [if_pos rfl], h2, hk, DvL.mono (Ex.refl _) up h3⟩
    exact ⟨_, .loc μ.length, t2, R2, up, ⟨a, rfl, at_⟩, rfl⟩
theorem bindR_next {r : R} {i : Nat} : (∃ δ1 μ2, bindR N i r δ μ = .next δ1 μ2) ∨ bindR N i r δ μ = .bad := by
  cases r with
  | dat d => exact .inl ⟨_, _, rfl⟩
  | loc d => exact .inl ⟨_, _, rfl⟩
  | nl xs =>
    by_cases h : N ≤ μ.length
    · exact .inl ⟨_, _, if_pos h⟩
    · exact .inr (if_neg h)
  | nk xs =>
    by_cases h : N ≤ μ.length
    · exact .inl ⟨_, _, if_pos h⟩
    · exact .inr (if_neg h)
theorem snd_par2 {t u : TE} {f g : EM} (i j : Nat) (h1 : SndE K W t f) (h2 : SndE K W u g) : SndS K W (tPar i j (tCons t (tCons u tNil))) (gPar2 i j f g) := fun N ρ G H σ δ μ Dn R E hp => by
  refine SndG.stm (t := t) h1 R E hp fun r μ1 G1 H1 v t1 R1 E1 d1 hp1 => ?_
  rcases bindR_next (N := N) (r := r) (i := i) (δ := δ) (μ := μ1) with ⟨δ1, μ2, e⟩ | e
  case inr => rw [e] at hp1; exact hp1.elim
  rw [e] at hp1
  obtain ⟨ρ1, x, T1, R2, up, dx, rfl⟩ := bindR_ok R1 (t1.toS (N := N)) d1 e
  have E2 : EnvOk K ρ1 G1 σ δ := E1.up (Ex.refl _) up
  refine SndG.stm (t := u) h2 R2 E2 (PostS.shift T1 hp1) fun r2 μ3 G3 H3 w t3 R3 E3 d3 hp3 => ?_
  refine ⟨v, w, rfl, ?_⟩
  exact snd_bindR (σ := σ.set i (some v)) j R3 (E3.set i (dx.mono t3.exG fun _ _ q => q)) t3.toS d3 hp3
/-! ### chains -/
def eChain (g g' : DV → DV → Mem → Res R) (fa fb fc : EM) : EM := fun δ μ => (frzV fa δ μ).bind fun x μ1 => (frzV fb δ μ1).bind fun y μ2 => (g x y μ2).bind fun r μ3 => match asB r with
  | some true => (frzV fc δ μ3).bind fun z μ4 => g' y z μ4
  | some false => .ok (.dat (.bl false)) μ3
  | none => .bad
theorem snd_chain {r r' : R2} {g g' : DV → DV → Mem → Res R} {ta tb tc : TE} {fa fb fc : EM} (ho : OpD K r g) (ho' : OpD K r' g') (ha : SndE K W ta fa) (hb : SndE K W tb fb) (hc : SndE K W tc fc) : SndE K W (tChain r r' ta tb tc) (eChain g g' fa fb fc) := fun ρ G H σ δ μ Q R E hp => by
  refine SndG.seq (t := ta) ha.toV R E hp fun x μ1 G1 H1 v t1 R1 E1 d1 hp1 => ?_
  refine SndG.seq (t := tb) hb.toV R1 E1 (hp1.shiftE t1) fun y μ2 G2 H2 w t2 R2 E2 d2 hp2 => ?_
  have hp2 := hp2.shiftE t2
  refine ho W ρ G2 H2 σ μ2 v w x y _ R2 (d1.mono t2.exG fun _ _ q => q) d2 ?_
  cases e : g x y μ2 with
  | exc z μ' => rw [e] at hp2; exact hp2
  | bad => rw [e] at hp2; exact hp2
  | ok r0 μ3 =>
    rw [e] at hp2
    intro G3 H3 u t3 R3 d3
    simp only [Res.bind_ok] at hp2
    cases eb : asB r0 with
    | none => rw [eb] at hp2; exact hp2.elim
    | some b =>
      rw [eb] at hp2
      refine ⟨b, asB_ok d3 eb, ?_⟩
      cases b with
      | false => exact hp2 G3 H3 _ t3 R3 (Rp.bl false)
      | true =>
        refine SndG.seq (t := tc) hc.toV R3 (E2.mono t3.exG) (hp2.shiftE t3) fun z μ4 G4 H4 zv t4 R4 E4 d4 hp4 => ?_
        exact ho' W ρ G4 H4 σ μ4 w zv y z Q R4 (d2.mono (t3.exG.trans t4.exG) fun _ _ q => q) d4 (hp4.shiftE t4)
end
section
variable {X : Cx} {W : WX} {pos p tpos px py pt pt2 spos : Pos} {e o i a b c : Expr} {te to ti ta tb tc : TE} {f fo fi fa fb fc : EM} {tA : TA} {fA : AM}
theorem sm_par2 {x y : Str} {kt k2 : Nat} (n m : Nat) (hc : X.calm = true) (hN : X.N.Nodup) (ha : PM X W a ta fa) (hb : PM X W b tb fb) (hi : X.N[n]? = some x := by rfl) (hj : X.N[m]? = some y := by rfl) (hne : n ≠ m := by decide)
    (hx : X.env.scope.names.lookup x = some .local := by rfl) (hy : X.env.scope.names.lookup y = some .local := by rfl)
    (hs : swappedStores [Expr.Tuple [Expr.Name x px, Expr.Name y py] kt pt] (Expr.Tuple [a, b] k2 pt2) X.env = pure (some [x, y]) := by rfl)
    (hs2 : swapsWithSole [Expr.Tuple [Expr.Name x px, Expr.Name y py] kt pt] (Expr.Tuple [a, b] k2 pt2) pos.line X.env = pure false := by rfl)
    (h1 : starEach [a, b] X.env = (false, eval a X.env) :: starEach [b] X.env := by rfl) (h2 : starEach [b] X.env = (false, eval b X.env) :: starEach [] X.env := by rfl) :
    PSM X W (.Assign [Expr.Tuple [Expr.Name x px, Expr.Name y py] kt pt] (Expr.Tuple [a, b] k2 pt2) pos) (tPar n m (tCons ta (tCons tb tNil))) (gPar2 n m fa fb) := ⟨ps_par hc hN hi hj hne hx hy (pa_cons ha.pe (pa_cons hb.pe pa_nil h2) h1) hs hs2, snd_par2 n m ha.sd hb.sd⟩
theorem pm_ct {x : Str} {es : List Expr} {T : String} {r : List V → Hp → VK → Prop} {g : List DV → Mem → Res R} (hr : CallR X (.type T) r) (hd : CallD X.K r g) (hg : Gl X x) (hm : X.mg x = none) (hv : bootBuiltins x = some (.type T)) (ha : PMA X W (e :: es) tA fA)
    (hn : x ≠ "__name__" := by decide) (hdb : (x == ("__debug__" : Str)) = false := by decide) (he : starEach (e :: es) X.env = (false, eval e X.env) :: starEach es X.env := by rfl) (hpl : (backTo pos (starEach es X.env)).any (·.1) = false := by rfl) :
    PM X W (.Call (.Name x p) (e :: es) [] pos) (tCB r tA) (eCB g fA) := ⟨pe_callTy hr hg hm hv ha.pe hn hdb he hpl, snd_cb hd ha.sd⟩
theorem pm_chain {op op' : CmpOp} {r r' : R2} {g g' : DV → DV → Mem → Res R} (ho : OpR X (compareOp op) r) (hd : OpD X.K r g) (ho' : OpR X (compareOp op') r') (hd' : OpD X.K r' g') (ha : PM X W a ta fa) (hb : PM X W b tb fb) (hc : PM X W c tc fc) (hm : lastMarks [op, op'] [b, c] = false := by rfl) :
    PM X W (.Compare a [op, op'] [b, c] pos) (tChain r r' ta tb tc) (eChain g g' fa fb fc) := ⟨pe_chain ho ho' ha.pe hb.pe hc.pe hm, snd_chain hd hd' ha.sd hb.sd hc.sd⟩
theorem pt_chain {op op' : CmpOp} {r r' : R2} {g g' : DV → DV → Mem → Res R} (ho : OpR X (compareOp op) r) (hd : OpD X.K r g) (ho' : OpR X (compareOp op') r') (hd' : OpD X.K r' g') (ha : PM X W a ta fa) (hb : PM X W b tb fb) (hc : PM X W c tc fc) (hm : lastMarks [op, op'] [b, c] = false := by rfl) :
    PMT X W (.Compare a [op, op'] [b, c] pos) (tTest (tChain r r' ta tb tc)) (tmB (eChain g g' fa fb fc)) := ⟨L2.pt_chain ho ho' ha.pe hb.pe hc.pe hm, snd_tmB (snd_chain hd hd' ha.sd hb.sd hc.sd) fun _ _ _ h => h⟩
/-- name = [.. for ..] on one line -/
theorem sm_lc (fresh : Bool) {j : Nat} {y : Str} {elt tg iter : Expr} {ifs : List Expr} {scope : Scope} {own : List (Str × Nat)} {wi : TI} {fI : IM} {g : TG} {h : D → Env → Option Env} {tv : List Nat} {tt : TT} {ft : TM} {fe : EM} (hc : X.calm = true) (hN : X.N.Nodup) (hy : X.N[j]? = some y) (hyl : X.env.scope.names.lookup y = some .local)
    (hsw : swapsWith (.ListComp elt [⟨tg, iter, ifs, 0⟩] scope pos) (some (.Name y py)) spos.line X.env = pure true)
    (hi : PMI X W tg iter wi fI) (ok : BlkOk X.N X.env.scope scope own)
    (hg : ∀ (s : Shared) (H : Hp) (C : Addr) (cl : List (Str × Addr)) (fp : List Addr), PMG (X.blk s H scope (compEnvC scope cl C X.env) fp) tg g h tv)
    (hv : ∀ i ∈ tv, i ∈ own.map (·.2))
    (ht : ∀ (s : Shared) (H : Hp) (C : Addr) (cl : List (Str × Addr)) (fp : List Addr), PMTs (X.blk s H scope (compEnvC scope cl C X.env) fp) WF ifs tt ft)
    (he : ∀ (s : Shared) (H : Hp) (C : Addr) (cl : List (Str × Addr)) (fp : List Addr), PM (X.blk s H scope (compEnvC scope cl C X.env) fp) WF elt te fe)
    (hs : ∀ x, foldedSetIterable iter X.env x = pure x := by intro _; rfl) :
    PSM X W (.Assign [.Name y py] (.ListComp elt [⟨tg, iter, ifs, 0⟩] scope pos) spos) (tAsg (tLc wi g tt te (own.map (·.2))) (gName j)) (if fresh = true then gNew j (eLc fI h ft fe (own.map (·.2))) else gAsg j (eLc fI h ft fe (own.map (·.2)))) := by
  have sd : SndE X.K W (tLc wi g tt te (own.map (·.2))) (eLc fI h ft fe (own.map (·.2))) := snd_lc hi.sd (hg X.s_0 X.H_0 0 [] []).ok hv (ht X.s_0 X.H_0 0 [] []).sd (he X.s_0 X.H_0 0 [] []).sd
  refine ⟨ps_setLc hc hN hy hyl hsw hi.pi ok (fun s H C cl fp => (hg s H C cl fp).pg) (fun s H C cl fp => (ht s H C cl fp).pe) (fun s H C cl fp => (he s H C cl fp).pe) hs, ?_⟩
  cases fresh with
  | true => exact snd_new j sd
  | false => exact snd_asg j sd
theorem pm_isN {k : Nat} {pc : Pos} (ha : PM X W a ta fa) : PM X W (.Compare a [.Is] [.Constant .none k pc] pos) (tIsN ta) (eIsN fa) := ⟨pe_cmp (pc_isN ha.pe), snd_isN ha.sd⟩
theorem pm_notN {k : Nat} {pc : Pos} (ha : PM X W a ta fa) : PM X W (.Compare a [.IsNot] [.Constant .none k pc] pos) (tNotN ta) (eNotN fa) := ⟨pe_cmp (pc_notN ha.pe), snd_notN ha.sd⟩
end
end DL
namespace DL
open PySem PySem.Spec PyProof.Rows L2
section
variable {K : PySem.W.Frag} {W : WX} {N M : Nat} {ρ : Pm} {G H : Hp} {σ : Slots} {δ : Env} {μ : Mem} {Q : VK} {v w : V} {x y : DV}
/-! ### a target of several names, any value -/
def gTgt (h : D → Env → Option Env) (f : EM) : SM := fun _ δ μ => lift (frzV f δ μ) δ fun x μ' => match x with
  | .dat d => match h d δ with
    | some δ' => .next δ' μ'
    | none => .bad
  | .loc _ => .bad
theorem snd_tgt {te : TE} {f : EM} {g : TG} {h : D → Env → Option Env} {ts : List Nat} (hg : TgOk K g h ts) (he : SndE K W te f) : SndS K W (tAsg te g) (gTgt h f) := fun N ρ G H σ δ μ Dn R E hp => by
  refine SndG.stm (t := te) he.toV R E hp fun x μ' G' H' v t' R' E' d hp' => ?_
  cases x with
  | loc n => exact hp'.elim
  | dat d0 =>
    simp only at hp'
    cases e : h d0 δ with
    | none => rw [e] at hp'; exact hp'.elim
    | some δ' =>
      rw [e] at hp'
      exact hg ρ G' H' μ' σ δ δ' v d0 _ R' E' d e fun σ' E2 _ _ => hp' ρ G' H' σ' t'.toS R' E2
/-! ### a display whose new lists are places -/
def newPl (N : Nat) (r : R) (μ : Mem) : Option (DV × Mem) := match r with
  | .dat d => some (.dat d, μ)
  | .loc n => some (.loc n, μ)
  | .nl xs => if N ≤ μ.length then some (.loc μ.length, μ ++ [.lst xs]) else none
  | .nk kvs => if N ≤ μ.length then some (.loc μ.length, μ ++ [.dct kvs]) else none
theorem newPl_ok {r : R} {G0 H0 : Hp} {μ2 : Mem} (R' : Rel K ρ G H μ) (t' : TrS N ρ G0 H0 ρ G H) (d : RpR K ρ G H0 H v r) (e : newPl N r μ = some (x, μ2)) :
    ∃ ρ1, TrS N ρ G0 H0 ρ1 G H ∧ Rel K ρ1 G H μ2 ∧ (∀ n b, ρ n = some b → ρ1 n = some b) ∧ DvOk K ρ1 G v x := by
  have key : bindR N 0 r [none] μ = .next [some x] μ2 := by
    cases r with
    | dat d => cases e; rfl
    | loc n => cases e; rfl
    | nl xs =>
      simp only [newPl] at e
      by_cases h : N ≤ μ.length
      · rw [if_pos h] at e; cases e; exact if_pos h
      · rw [if_neg h] at e; cases e
    | nk xs =>
      simp only [newPl] at e
      by_cases h : N ≤ μ.length
      · rw [if_pos h] at e; cases e; exact if_pos h
      · rw [if_neg h] at e; cases e
  obtain ⟨ρ1, y, h1, h2, h3, h4, h5⟩ := bindR_ok R' t' d key
  cases h5
  exact ⟨ρ1, h1, h2, h3, h4⟩
abbrev NM := Nat → Env → Mem → Res (List DV)
def nNil : NM := fun _ _ μ => .ok [] μ
def nCons (f : EM) (g : NM) : NM := fun N δ μ => (f δ μ).bind fun r μ1 => match newPl N r μ1 with
  | none => .bad
  | some (x, μ2) => (g N δ μ2).bind fun xs μ3 => .ok (x :: xs) μ3
/-- what is given by items that may be new places -/
def SndN (K : PySem.W.Frag) (W : WX) (t : TA) (f : NM) : Prop := ∀ (N : Nat) (ρ : Pm) (G H : Hp) (σ : Slots) (δ : Env) (μ : Mem) (Q : List V → Hp → Prop), Rel K ρ G H μ → EnvOk K ρ G σ δ →
  (match f N δ μ with
    | .ok xs μ' => ∀ ρ' G' H' vs, TrS N ρ G H ρ' G' H' → Rel K ρ' G' H' μ' → (∀ n b, ρ n = some b → ρ' n = some b) → DvL K ρ' G' vs xs → Q vs H'
    | .exc x μ' => ∀ ρ' G' H' cls d, TrS N ρ G H ρ' G' H' → Rel K ρ' G' H' μ' → (∀ n b, ρ n = some b → ρ' n = some b) → XcOk K G' H' x cls d → W cls d σ H'
    | .bad => False) → t σ H Q
theorem snd_nnil : SndN K W tNil nNil := fun N ρ G H σ δ μ Q R E hp => hp ρ G H [] (TrS.refl _ _ _ _) R (fun _ _ q => q) .nil
theorem snd_ncons {t : TE} {ts : TA} {f : EM} {g : NM} (h : SndE K W t f) (hs : SndN K W ts g) : SndN K W (tCons t ts) (nCons f g) := fun N ρ G H σ δ μ Q R E hp => by
  unfold nCons at hp
  refine h ρ G H σ δ μ _ R E ?_
  cases e : f δ μ with
  | bad => rw [e] at hp; exact hp
  | exc x μ' => rw [e] at hp; exact fun G' H' cls d t' R' q => hp ρ G' H' cls d t'.toS R' (fun _ _ q => q) q
  | ok r μ1 =>
    rw [e] at hp
    intro G1 H1 v t1 R1 d1
    simp only [Res.bind_ok] at hp
    cases e2 : newPl N r μ1 with
    | none => rw [e2] at hp; exact hp.elim
    | some q =>
      obtain ⟨x, μ2⟩ := q
      rw [e2] at hp
      obtain ⟨ρ1, T1, R2, up, dx⟩ := newPl_ok R1 (t1.toS (N := N)) d1 e2
      refine hs N ρ1 G1 H1 σ δ μ2 _ R2 ((E.mono t1.exG).up (Ex.refl _) up) ?_
      simp only at hp
      cases e3 : g N δ μ2 with
      | bad => rw [e3] at hp; exact hp
      | exc z μ3 =>
        rw [e3] at hp
        exact fun ρ' G' H' cls d t' R' up' q => hp ρ' G' H' cls d (T1.trans t') R' (fun n b z => up' n b (up n b z)) q
      | ok xs μ3 =>
        rw [e3] at hp
        exact fun ρ' G' H' vs t' R' up' dl => hp ρ' G' H' (v :: vs) (T1.trans t') R' (fun n b z => up' n b (up n b z)) (.cons (dx.mono t'.exG up') dl)
def gDisp (i : Nat) (f : NM) : SM := fun N δ μ => match f N δ μ with
  | .ok xs μ1 => if xs.length ≤ sizeLine then bindR N i (.nl xs) δ μ1 else .bad
  | .exc x μ1 => .exc x δ μ1
  | .bad => .bad
theorem snd_disp {ta : TA} {f : NM} (i : Nat) (h : SndN K W ta f) : SndS K W (tAsg (tLst ta) (gName i)) (gDisp i f) := fun N ρ G H σ δ μ Dn R E hp => by
  refine h N ρ G H σ δ μ _ R E ?_
  unfold gDisp at hp
  cases e : f N δ μ with
  | bad => rw [e] at hp; exact hp
  | exc x μ' => rw [e] at hp; exact fun ρ' G' H' cls d t' R' up q => hp ρ' G' H' σ cls d t' R' (E.up t'.exG up) q
  | ok xs μ1 =>
    rw [e] at hp
    intro ρ' G' H' vs t' R' up dl
    simp only at hp
    by_cases c : xs.length ≤ sizeLine
    case neg => rw [if_neg c] at hp; exact hp.elim
    rw [if_pos c] at hp
    refine ⟨by rw [paired_len dl]; exact c, fun p hn => ?_⟩
    obtain ⟨n1, n2⟩ := fresh_ne R' hn
    obtain ⟨R2, t2⟩ := R'.lay (o := .lst vs) hn
    refine snd_bindR (σ := σ) i R2 (E.up t'.exG up) (t2.toS (N := N)) (G0 := G') (H0 := H') (r := .nl xs) ⟨p, vs, rfl, upd_same, dl, n1, n2, hn⟩ (PostS.shift t' hp)
/-! ### -x -/
def dNeg (x : DV) (μ : Mem) : Res R := match asI x with
  | some i => .ok (.dat (.int (-i))) μ
  | none => .bad
def eUn (g : DV → Mem → Res R) (f : EM) : EM := fun δ μ => (frzV f δ μ).bind fun x μ' => g x μ'
theorem snd_neg {ta : TE} {f : EM} (h : SndE K W ta f) : SndE K W (tUn (rU fun i => .int (-i)) ta) (eUn dNeg f) := fun ρ G H σ δ μ Q R E hp => by
  refine SndG.seq (t := ta) h.toV R E hp fun x μ1 G1 H1 v t1 R1 E1 d1 hp1 => ?_
  unfold dNeg at hp1
  split at hp1
  · rename_i i e
    exact ⟨i, asI_ok d1 e, hp1 G1 H1 _ t1 R1 (Rp.int _)⟩
  · exact hp1.elim
/-! ### constants of the text -/
def absL : List Value → Option (List V)
  | [] => some []
  | u :: us => match absV u with
    | none => none
    | some v => (absL us).map (v :: ·)
theorem relV_of_abs {u : Value} {v : V} (h : absV u = some v) : L2.RelV v u := by
  cases u with
  | none => cases h; rfl
  | bool b => cases h; rfl
  | int i t => cases h; exact ⟨t, rfl⟩
  | str s t => cases h; exact ⟨t, rfl⟩
  | bytes s t => cases h; exact ⟨t, rfl⟩
  | float s t => cases h; exact ⟨t, rfl⟩
  | ref a => cases h; rfl
  | type n => cases h; rfl
  | _ => cases h
theorem absL_ok : ∀ {us : List Value} {vs : List V}, absL us = some vs → Vals vs us
  | [], _, h => by cases h; exact .nil
  | u :: us, _, h => by
    simp only [absL] at h
    cases e : absV u with
    | none => rw [e] at h; cases h
    | some v =>
      rw [e] at h
      cases e2 : absL us with
      | none => rw [e2] at h; cases h
      | some vs => rw [e2] at h; cases h; exact .cons (relV_of_abs e) (absL_ok e2)
/-- a tuple of texts that the text holds -/
theorem rp_ktup {a : Addr} {oc : Option Addr} {its : Array Value} {n : Nat} {sl : Array (Option Value)} {ss : List Str} (hk : K.lookup a = some ⟨.type "tuple", oc, .seq its n, sl⟩) (hz : its.size ≤ sizeLine) (hv : absL its.toList = some (ss.map V.str)) (G : Hp) :
    Rp K G (.ref a) (.tup (ss.map D.str)) := by
  refine Rp.tup (vs := ss.map V.str) (.inr ⟨_, its, n, hk, rfl, rfl, hz, absL_ok hv⟩) ?_
  clear hv
  induction ss with
  | nil => exact .nil
  | cons s ss ih => exact .cons (.str s) ih
/-- x in d, d a dict of the text whose keys are texts -/
def rInKd (K : PySem.W.Frag) (d : Addr) (neg : Bool) : R2 := fun x y H Q => ∃ (z : Str) (r : Option Value), x = .str z ∧ y = .ref d ∧ PySem.W.nsIn K d z = some r ∧ Q (.bl (if neg = true then !r.isSome else r.isSome)) H
def eInK (neg : Bool) (ks : List Str) (f : EM) : EM := fun δ μ => (frzV f δ μ).bind fun x μ' => match asStr x with
  | some z => .ok (.dat (.bl (if neg = true then !(ks.any fun k => decide (k = z)) else ks.any fun k => decide (k = z)))) μ'
  | none => .bad
theorem snd_inKd {d : Addr} {ks : List Str} {te : TE} {f : EM} {neg : Bool} (hk : ∀ z, ∃ r, PySem.W.nsIn K d z = some r ∧ r.isSome = (ks.any fun k => decide (k = z))) (h : SndE K W te f) : SndE K W (tOp (rInKd K d neg) te (tC (.ref d))) (eInK neg ks f) := fun ρ G H σ δ μ Q R E hp => by
  refine SndG.seq (t := te) h.toV R E hp fun x μ1 G1 H1 v t1 R1 E1 d1 hp1 => ?_
  cases e : asStr x with
  | none => rw [e] at hp1; exact hp1.elim
  | some z =>
    rw [e] at hp1
    obtain ⟨r, h1, h2⟩ := hk z
    exact ⟨z, r, asStr_ok d1 e, rfl, h1, by rw [h2]; exact hp1 G1 H1 _ t1 R1 (Rp.bl _)⟩
theorem nsIn_keys {d : Addr} {es : Array DictEntry} {n : Nat} {ks : List Str} (hl : K.lookup d = some ⟨.type "dict", none, .dict es n, #[]⟩) (he : es.toList.map (fun e => match e.key with | .str x _ => some x | _ => none) = ks.map some) (z : Str) :
    ∃ r, PySem.W.nsIn K d z = some r ∧ r.isSome = (ks.any fun k => decide (k = z)) := by
  have key : ∀ (l : List DictEntry) (ks : List Str), l.map (fun e => match e.key with | .str x _ => some x | _ => none) = ks.map some →
      (∃ e, l.find? (·.key.isStr z) = some e ∧ (ks.any fun k => decide (k = z)) = true) ∨ (l.find? (·.key.isStr z) = none ∧ l.any (·.refKey) = false ∧ (ks.any fun k => decide (k = z)) = false) := by
    intro l
    induction l with
    | nil => intro ks h; cases ks with
      | nil => exact .inr ⟨rfl, rfl, rfl⟩
      | cons _ _ => cases h
    | cons e l ih =>
      intro ks h
      cases ks with
      | nil => cases h
      | cons k ks =>
        simp only [List.map_cons, List.cons.injEq] at h
        obtain ⟨h1, h2⟩ := h
        cases ek : e.key with
        | str x t =>
          rw [ek] at h1
          simp only [Option.some.injEq] at h1
          subst h1
          have es : e.key.isStr z = decide (x = z) := by
            rw [ek]
            show (x == z) = decide (x = z)
            by_cases c : x = z
            · subst c; simp
            · rw [decide_eq_false c]; exact beq_eq_false_iff_ne.mpr c
          by_cases c : x = z
          · refine .inl ⟨e, ?_, by simp [c]⟩
            rw [List.find?_cons_of_pos]
            rw [es]; exact decide_eq_true c
          · have q : ¬ (e.key.isStr z = true) := by rw [es]; simp [c]
            rw [List.find?_cons_of_neg (by simpa using q)]
            rcases ih ks h2 with ⟨f, f1, f2⟩ | ⟨f1, f2, f3⟩
            · exact .inl ⟨f, f1, by rw [List.any_cons, f2, Bool.or_true]⟩
            · refine .inr ⟨f1, ?_, by rw [List.any_cons, f3, decide_eq_false c]; rfl⟩
              rw [List.any_cons, f2, Bool.or_false]
              simp [DictEntry.refKey, ek]
        | _ => rw [ek] at h1; cases h1
  unfold PySem.W.nsIn
  rw [hl]
  rcases key es.toList ks he with ⟨e, h1, h2⟩ | ⟨h1, h2, h3⟩
  · simp only [h1]; exact ⟨_, rfl, by rw [h2]; rfl⟩
  · simp only [h1, h2]; exact ⟨none, rfl, by rw [h3]; rfl⟩
end
structure PMN (X : Cx) (W : WX) (es : List Expr) (ta : TA) (f : NM) : Prop where
  pe : PA X es ta
  sd : SndN X.K W ta f
section
variable {X : Cx} {W : WX} {pos p : Pos} {e a tg : Expr} {es : List Expr} {te ta : TE} {f fa : EM} {tA : TA} {fN : NM}
theorem sm_tgt {g : TG} {h : D → Env → Option Env} {ts : List Nat} (hg : PMG X tg g h ts) (he : PM X W e te f) (a1 : swapsWithSole [tg] e pos.line X.env = pure false := by rfl) (a2 : swappedStores [tg] e X.env = pure none := by rfl) (a3 : List.map (fun x => x.snd) (assignEach [tg] X.env) = [assign tg X.env] := by rfl) :
    PSM X W (.Assign [tg] e pos) (tAsg te g) (gTgt h f) := ⟨ps_asg he.pe hg.pg a1 a2 a3, snd_tgt hg.ok he.sd⟩
theorem n_nil : PMN X W [] tNil nNil := ⟨pa_nil, snd_nnil⟩
theorem n_cons (h : PM X W e te f) (hs : PMN X W es tA fN) (hst : starEach (e :: es) X.env = (false, eval e X.env) :: starEach es X.env := by rfl) : PMN X W (e :: es) (tCons te tA) (nCons f fN) := ⟨pa_cons h.pe hs.pe hst, snd_ncons h.sd hs.sd⟩
theorem sm_disp {x : Str} {q : Pos} (i : Nat) (hN : X.N.Nodup) (h : PMN X W es tA fN) (hi : X.N[i]? = some x := by rfl) (hx : Loc X.env.scope x := by first | exact Or.inl rfl | exact Or.inr rfl)
    (hf : X.fn x = true ∨ X.env.scope.names.lookup x = some .local := by first | exact .inl rfl | exact .inr rfl)
    (a1 : swapsWithSole [.Name x p] (.List es q) pos.line X.env = pure false := by rfl) (a2 : swappedStores [.Name x p] (.List es q) X.env = pure none := by rfl) (a3 : List.map (fun x => x.snd) (assignEach [.Name x p] X.env) = [assign (.Name x p) X.env] := by rfl) :
    PSM X W (.Assign [.Name x p] (.List es q) pos) (tAsg (tLst tA) (gName i)) (gDisp i fN) := ⟨ps_asg (pe_lst h.pe) (pg_name hN hi hx hf) a1 a2 a3, snd_disp i h.sd⟩
theorem pm_inKd {x : Str} {ks : List Str} {d : Addr} {es : Array DictEntry} {n : Nat} (Dd : KDict X.K X.w d es n) (hk : es.toList.map (fun e => match e.key with | .str x _ => some x | _ => none) = ks.map some) (hg : Gl X x) (hm : X.mg x = some (.ref d)) (ha : PM X W a ta fa)
    (hd : (x == ("__debug__" : Str)) = false := by decide) (hb : behindInMarks .In (.Name x p) = false := by rfl) : PM X W (.Compare a [.In] [.Name x p] pos) (tOp (rInKd X.K d false) ta (tC (.ref d))) (eInK false ks fa) :=
  ⟨pe_cmpR (op_in_kd Dd) ha.pe (pe_glob hg hm rfl hd) hb, snd_inKd (nsIn_keys Dd.at_ hk) ha.sd⟩
theorem pm_notInKd {x : Str} {ks : List Str} {d : Addr} {es : Array DictEntry} {n : Nat} (Dd : KDict X.K X.w d es n) (hk : es.toList.map (fun e => match e.key with | .str x _ => some x | _ => none) = ks.map some) (hg : Gl X x) (hm : X.mg x = some (.ref d)) (ha : PM X W a ta fa)
    (hd : (x == ("__debug__" : Str)) = false := by decide) (hb : behindInMarks .NotIn (.Name x p) = false := by rfl) : PM X W (.Compare a [.NotIn] [.Name x p] pos) (tOp (rInKd X.K d true) ta (tC (.ref d))) (eInK true ks fa) :=
  ⟨pe_cmpR (op_notIn_kd Dd) ha.pe (pe_glob hg hm rfl hd) hb, snd_inKd (nsIn_keys Dd.at_ hk) ha.sd⟩
theorem pm_neg (ha : PM X W a ta fa) : PM X W (.UnaryOp .USub a pos) (tUn (rU fun i => .int (-i)) ta) (eUn dNeg fa) := ⟨pe_un un_neg ha.pe, snd_neg ha.sd⟩
end
end DL
namespace DL
open PySem PySem.Spec PyProof.Rows L2
/-! ### the rules again, with the frame named (so that they hold inside a comprehension) -/
section
variable {X : Cx} {W : WX} {pos p p2 q tpos apos cpos : Pos} {a b e o i : Expr} {es : List Expr} {lo hi : Option Expr} {te ta tb to ti : TE} {tA : TA} {fA : AM} {tl th : TO} {f fa fb fo fi : EM} {fl fh : OM}
theorem op_eqK (K : PySem.W.Frag) (h : X.A.units + 64 < cLine) (hK : X.K = K := by rfl) : OpR X (compareOp .Eq) (rEqQ K) := by subst hK; exact op_eqQ h
theorem op_neK (K : PySem.W.Frag) (h : X.A.units + 64 < cLine) (hK : X.K = K := by rfl) : OpR X (compareOp .NotEq) (rNeQ K) := by subst hK; exact op_neQ h
theorem op_inK (K : PySem.W.Frag) (hK : X.K = K := by rfl) : OpR X (compareOp .In) (rIn K false) := by subst hK; exact op_in_seq
theorem op_notInK (K : PySem.W.Frag) (hK : X.K = K := by rfl) : OpR X (compareOp .NotIn) (rIn K true) := by subst hK; exact op_notIn_seq
theorem pm_cmpK {op : CmpOp} {r : R2} {g : DV → DV → Mem → Res R} {K : PySem.W.Frag} (ho : OpR X (compareOp op) r) (hd : OpD K r g) (ha : PM X W a ta fa) (hb : PM X W b tb fb) (hm : behindInMarks op b = false) (hK : X.K = K := by rfl) : PM X W (.Compare a [op] [b] pos) (tOp r ta tb) (eOp g fa fb) := by
  subst hK; exact pm_cmp ho hd ha hb hm
theorem pt_cmpK {op : CmpOp} {r : R2} {g : DV → DV → Mem → Res R} {K : PySem.W.Frag} (ho : OpR X (compareOp op) r) (hd : OpD K r g) (ha : PM X W a ta fa) (hb : PM X W b tb fb) (hm : behindInMarks op b = false) (hK : X.K = K := by rfl) : PMT X W (.Compare a [op] [b] pos) (tTest (tOp r ta tb)) (tmB (eOp g fa fb)) := by
  subst hK; exact pt_cmp ho hd ha hb hm
theorem call_lenK (K : PySem.W.Frag) (hK : X.K = K := by rfl) : CallR X (.builtin "len") (fun xs H Q => ∃ x n, xs = [x] ∧ LenV K x H n ∧ Q (V.int ↑n) H) := by subst hK; exact call_len
theorem call_list_ofK (K : PySem.W.Frag) (hK : X.K = K := by rfl) : CallR X (.type "list") (fun xs H Q => ∃ p ys, xs = [V.ref p] ∧ (SqL K H p ys ∨ SqT K H p ys) ∧ ∀ (l : Addr), H l = none → Q (V.ref l) (upd H l (HO.lst ys))) := by subst hK; exact call_list_of
theorem call_tuple_ofK (K : PySem.W.Frag) (hK : X.K = K := by rfl) : CallR X (.type "tuple") (fun xs H Q => ∃ p ys, xs = [V.ref p] ∧ ((SqL K H p ys ∧ ∀ (l : Addr), H l = none → Q (V.ref l) (upd H l (HO.tup ys))) ∨ SqT K H p ys ∧ Q (V.ref p) H)) := by subst hK; exact call_tuple_of
theorem cr_allK (K : PySem.W.Frag) (h : X.calm = true) (hK : X.K = K := by rfl) : CallR X (.builtin "all") (rAll K) := by subst hK; exact cr_all h
theorem cr_anyK (K : PySem.W.Frag) (h : X.calm = true) (hK : X.K = K := by rfl) : CallR X (.builtin "any") (rAny K) := by subst hK; exact cr_any h
theorem cr_reprK (K : PySem.W.Frag) {k : Nat} (h : Room k X.A) (hg : X.A.guards = some []) (hK : X.K = K := by rfl) : CallR X (.builtin "repr") (rRepr K) := by subst hK; exact cr_repr h hg
theorem pm_cbK {x : Str} {id : String} {r : List V → Hp → VK → Prop} {g : List DV → Mem → Res R} {K : PySem.W.Frag} (hr : CallR X (.builtin id) r) (hd : CallD K r g) (hg : Gl X x) (hm : X.mg x = none) (hv : bootBuiltins x = some (.builtin id)) (ha : PMA X W (e :: es) tA fA) (hK : X.K = K := by rfl)
    (hn : x ≠ "__name__" := by decide) (hdb : (x == ("__debug__" : Str)) = false := by decide) (he : starEach (e :: es) X.env = (false, eval e X.env) :: starEach es X.env := by rfl) (hpl : (backTo pos (starEach es X.env)).any (·.1) = false := by rfl) :
    PM X W (.Call (.Name x p) (e :: es) [] pos) (tCB r tA) (eCB g fA) := by subst hK; exact pm_cb hr hd hg hm hv ha hn hdb he hpl
theorem pm_ctK {x : Str} {T : String} {r : List V → Hp → VK → Prop} {g : List DV → Mem → Res R} {K : PySem.W.Frag} (hr : CallR X (.type T) r) (hd : CallD K r g) (hg : Gl X x) (hm : X.mg x = none) (hv : bootBuiltins x = some (.type T)) (ha : PMA X W (e :: es) tA fA) (hK : X.K = K := by rfl)
    (hn : x ≠ "__name__" := by decide) (hdb : (x == ("__debug__" : Str)) = false := by decide) (he : starEach (e :: es) X.env = (false, eval e X.env) :: starEach es X.env := by rfl) (hpl : (backTo pos (starEach es X.env)).any (·.1) = false := by rfl) :
    PM X W (.Call (.Name x p) (e :: es) [] pos) (tCB r tA) (eCB g fA) := by subst hK; exact pm_ct hr hd hg hm hv ha hn hdb he hpl
theorem pm_callK {P : Program} {w : World} {K : PySem.W.Frag} {mg : Str → Option Value} {base : Heap} {cx : CXT} {k n : Nat} {x : Str} {F : List DV → Mem → Res R} (Fn : FnD P w K mg base cx k x n F) (hr : Room k X.A) (hgd : X.A.guards = some []) (hg : Gl X x)
    (hx : ∀ σ, PassesAt cx X σ (EW W σ)) (ha : PMA X W (e :: es) tA fA) (h1 : X.prog = P := by rfl) (h2 : X.w = w := by rfl) (h3 : X.K = K := by rfl) (h4 : X.mg = mg := by rfl) (h5 : X.base = base := by rfl) (hdb : (x == ("__debug__" : Str)) = false := by decide)
    (he : starEach (e :: es) X.env = (false, eval e X.env) :: starEach es X.env := by rfl) (hpl : (backTo pos (starEach es X.env)).any (·.1) = false := by rfl) :
    PM X W (.Call (.Name x p) (e :: es) [] pos) (tCallSD (spF K n F) [] (EW W) tA) (eCB F fA) := by subst h1 h2 h3 h4 h5; exact pm_call Fn hr hgd hg hx ha hdb he hpl
theorem pm_slK (K : PySem.W.Frag) (h : PM X W e te f) (hl : PMO X W lo tl fl) (hh : PMO X W hi th fh) (hK : X.K = K := by rfl) : PM X W (.Subscript e (.Slice lo hi none p2) pos) (tSl (rSl K) te tl th) (eSl f fl fh) := by subst hK; exact pm_sl h hl hh
theorem pm_addK (K : PySem.W.Frag) (ha : PM X W a ta fa) (hb : PM X W b tb fb) (hK : X.K = K := by rfl) : PM X W (.BinOp a .Add b pos) (tOp (rPlus K) ta tb) (eOp dAdd fa fb) := by subst hK; exact pm_add ha hb
theorem pm_idxK (K : PySem.W.Frag) (ha : PM X W a ta fa) (hb : PM X W b tb fb) (hs : PlainIx b) (hK : X.K = K := by rfl) : PM X W (.Subscript a b pos) (tOp (rIx K) ta tb) (eOp dIx fa fb) := by subst hK; exact pm_idx ha hb hs
theorem mi_seqK (K : PySem.W.Frag) {tg : Expr} (h : PM X W e te f) (hK : X.K = K := by rfl) : PMI X W tg e (iSeq K te) (imSeq f) := by subst hK; exact mi_seq h
theorem mi_enumK (K : PySem.W.Frag) {elts : List Expr} {kk : Nat} (hg : Gl X "enumerate") (hm : X.mg "enumerate" = none) (h : PMA X W [e] tA fA) (hK : X.K = K := by rfl) (hs : starEach [e] X.env = [(false, eval e X.env)] := by rfl) : PMI X W (.Tuple elts kk tpos) (.Call (.Name "enumerate" p) [e] [] pos) (iEnumS K tA) (imEnum fA) := by subst hK; exact mi_enum hg hm h hs
theorem mt_extK (K : PySem.W.Frag) (hK : X.K = K := by rfl) : MtM X "list.extend" (rExt K) := by subst hK; exact mt_ext
theorem pm_bmK (K : PySem.W.Frag) {name : Str} {T id : String} {r : V → List V → Hp → VK → Prop} {c : DV → Mem → Bool} {g : DV → List DV → Mem → Res R} (hp : PlainAttrs T) (hsl : Slot T name id) (hty : typeOf (Value.builtin id) = pure (Value.type "method_descriptor")) (hm : MtR X id r) (hT : TyD K T c) (hd : MtD K r g) (ho : PM X W o to f) (ha : PMA X W (e :: es) tA fA) (hK : X.K = K := by rfl)
    (h1 : attributeBase o name X.env (eval o X.env) = eval o X.env := by rfl)
    (h2 : (((((backTo cpos (starEach (e :: es) X.env)).all fun x => !x.fst) && (backToKw cpos (keywordEach [] X.env)).all fun x => x.fst.isSome) && decide (((e :: es).length + ([] : List Keyword).length + if ([] : List Keyword).isEmpty = true then 0 else 1) < 30)) = true) := by rfl)
    (h3 : (apos.endLine == cpos.line) = true := by rfl) (h4 : starEach (e :: es) X.env = (false, eval e X.env) :: starEach es X.env := by rfl) (h5 : ((backTo cpos (starEach es X.env)).any fun x => x.fst) = false := by rfl) :
    PM X W ((o.Attribute name apos).Call (e :: es) [] cpos) (tBM K T r to tA) (eBM c g f fA) := by subst hK; exact pm_bm hp hsl hty hm hT hd ho ha h1 h2 h3 h4 h5
theorem pm_bm0K (K : PySem.W.Frag) {name : Str} {T id : String} {r : V → List V → Hp → VK → Prop} {c : DV → Mem → Bool} {g : DV → List DV → Mem → Res R} (hp : PlainAttrs T) (hsl : Slot T name id) (hty : typeOf (Value.builtin id) = pure (Value.type "method_descriptor")) (hm : MtR X id r) (hT : TyD K T c) (hd : MtD K r g) (ho : PM X W o to f) (hK : X.K = K := by rfl)
    (h1 : attributeBase o name X.env (eval o X.env) = eval o X.env := by rfl) (h3 : (apos.endLine == cpos.line) = true := by rfl) :
    PM X W ((o.Attribute name apos).Call [] [] cpos) (tBM0 K T r to) (eBM0 c g f) := by subst hK; exact pm_bm0 hp hsl hty hm hT hd ho h1 h3
theorem pm_inKdK {K : PySem.W.Frag} {w : World} {x : Str} {ks : List Str} {d : Addr} {es : Array DictEntry} {n : Nat} (Dd : KDict K w d es n) (hk : es.toList.map (fun e => match e.key with | .str x _ => some x | _ => none) = ks.map some) (hg : Gl X x) (hm : X.mg x = some (.ref d)) (ha : PM X W a ta fa) (hK : X.K = K := by rfl) (hw : X.w = w := by rfl)
    (hd : (x == ("__debug__" : Str)) = false := by decide) (hb : behindInMarks .In (.Name x p) = false := by rfl) : PM X W (.Compare a [.In] [.Name x p] pos) (tOp (rInKd K d false) ta (tC (.ref d))) (eInK false ks fa) := by subst hK hw; exact pm_inKd Dd hk hg hm ha hd hb
theorem pm_notInKdK {K : PySem.W.Frag} {w : World} {x : Str} {ks : List Str} {d : Addr} {es : Array DictEntry} {n : Nat} (Dd : KDict K w d es n) (hk : es.toList.map (fun e => match e.key with | .str x _ => some x | _ => none) = ks.map some) (hg : Gl X x) (hm : X.mg x = some (.ref d)) (ha : PM X W a ta fa) (hK : X.K = K := by rfl) (hw : X.w = w := by rfl)
    (hd : (x == ("__debug__" : Str)) = false := by decide) (hb : behindInMarks .NotIn (.Name x p) = false := by rfl) : PM X W (.Compare a [.NotIn] [.Name x p] pos) (tOp (rInKd K d true) ta (tC (.ref d))) (eInK true ks fa) := by subst hK hw; exact pm_notInKd Dd hk hg hm ha hd hb
theorem pt_inKdK {K : PySem.W.Frag} {w : World} {x : Str} {ks : List Str} {d : Addr} {es : Array DictEntry} {n : Nat} (Dd : KDict K w d es n) (hk : es.toList.map (fun e => match e.key with | .str x _ => some x | _ => none) = ks.map some) (hg : Gl X x) (hm : X.mg x = some (.ref d)) (ha : PM X W a ta fa) (hK : X.K = K := by rfl) (hw : X.w = w := by rfl)
    (hd : (x == ("__debug__" : Str)) = false := by decide) (hb : behindInMarks .In (.Name x p) = false := by rfl) : PMT X W (.Compare a [.In] [.Name x p] pos) (tTest (tOp (rInKd K d false) ta (tC (.ref d)))) (tmB (eInK false ks fa)) := by
  subst hK hw; exact ⟨pt_cmpR (op_in_kd Dd) ha.pe (pe_glob hg hm rfl hd) hb, snd_tmB (snd_inKd (nsIn_keys Dd.at_ hk) ha.sd) fun _ _ _ h => h⟩
theorem pt_notInKdK {K : PySem.W.Frag} {w : World} {x : Str} {ks : List Str} {d : Addr} {es : Array DictEntry} {n : Nat} (Dd : KDict K w d es n) (hk : es.toList.map (fun e => match e.key with | .str x _ => some x | _ => none) = ks.map some) (hg : Gl X x) (hm : X.mg x = some (.ref d)) (ha : PM X W a ta fa) (hK : X.K = K := by rfl) (hw : X.w = w := by rfl)
    (hd : (x == ("__debug__" : Str)) = false := by decide) (hb : behindInMarks .NotIn (.Name x p) = false := by rfl) : PMT X W (.Compare a [.NotIn] [.Name x p] pos) (tTest (tOp (rInKd K d true) ta (tC (.ref d)))) (tmB (eInK true ks fa)) := by
  subst hK hw; exact ⟨pt_cmpR (op_notIn_kd Dd) ha.pe (pe_glob hg hm rfl hd) hb, snd_tmB (snd_inKd (nsIn_keys Dd.at_ hk) ha.sd) fun _ _ _ h => h⟩
theorem pg_tpK (K : PySem.W.Frag) {k n : Nat} {gs : TGs} {hs : List D → Env → Option Env} {ts : List Nat} (hc : X.calm = true) (h : PMGs X es gs hs ts) (hK : X.K = K := by rfl) (h1 : (assignEach es X.env).length = n := by rfl) (h2 : List.findIdx? (fun x => x.fst) (assignEach es X.env) = none := by rfl) :
    PMG X (.Tuple es k pos) (gTup K n gs) (tgTup n hs) ts := by subst hK; exact pg_tp hc h h1 h2
theorem sm_augSK (K : PySem.W.Frag) (ho : PM X W o to fo) (hi : PM X W i ti fi) (he : PM X W e te f) (hK : X.K = K := by rfl)
    (hs : ∀ (ov iv new : Value), augStore i ov iv new = (do
                      holding [new, ov, iv] (setItem ov iv new)
                      release [new, ov, iv] []
                      pure Flow.next) := by intro _ _ _; rfl) :
    PSM X W (.AugAssign (o.Subscript i tpos) .Add e pos) (tAugS to ti te (rGetL K) (ipI fun i j => i + j) rSetL) (gAugS (fun i j => i + j) fo fi f) := by subst hK; exact sm_augS ho hi he hs
end
end DL
/-! Own classes: instances as data, methods, fields, made by a call. -/
namespace DL
open PySem PySem.Spec PyProof.Rows L2
section
variable {X : Cx} {cx : CXT} {k : Nat} {f C : Addr} {fd : FuncData} {ps : List Str} {sp : Sp} {E : L2.St → XK} {x m : Str} {p pos apos : Pos} {e o : Expr} {es : List Expr} {ta : TE} {t : TA}
def tMethG (C : Addr) (m : Str) (sp : Sp) (E : L2.St → XK) (ta : TE) (t : TA) : TE := fun σ H Q => ta σ H fun x H1 => ∃ a dx fs, x = .ref a ∧ H1 a = some (.ins C dx fs) ∧ fs.lookup m = none ∧
  t σ H1 fun vs H2 => sp (x :: vs) H2 Q (E σ)
theorem pe_methG {pl : Sem Bool} (he : PE X o ta) (c : Cls X.K C) (hm : Meth X.K C m f) (F : FnG X.prog X.w X.K X.mg X.base cx k f fd ps sp) (hr : Room k X.A) (hgd : X.A.guards = some []) (hb : Binds X.K fd ps []) (hx : ∀ σ, PassesAt cx X σ (E σ)) (ha : PA X (e :: es) t)
    (hst : starEach (e :: es) X.env = (false, eval e X.env) :: starEach es X.env := by rfl) (hpl : (backTo pos (starEach es X.env)).any (·.1) = false := by rfl)
    (ht : eval (.Call (.Attribute o m apos) (e :: es) [] pos) X.env = (do
      let ov ← eval o X.env
      standAt apos.atName
      let (f, first) ← holding [ov] (getMethod ov m pl)
      callWith pos f first (backTo pos (starEach (e :: es) X.env)) (backToKw pos (keywordEach [] X.env))) := by rfl) :
    PE X (.Call (.Attribute o m apos) (e :: es) [] pos) (tMethG C m sp E ta t) := by
  refine ⟨fun pins s σ H Q I h => ?_⟩
  refine PySem.W.methodCall_KW (pl := pl) (thn (he.run pins s σ H _ I h) fun u s1 ⟨x, H1, I1, rx, a, dx, fs, ex, ea, l, q⟩ => ?_) ht
  subst ex
  obtain rfl : u = Value.ref a := rx
  refine getmeth_ok I1 ea c hm l ?_
  refine PySem.W.callWith_K (first := [.ref a]) (h₀ := X.base) I.ok.mod.kin hm.kp (thn (ha.run pos pins s1 σ H1 _ I1 q) fun us s2 ⟨vs, H2, I2, r, q2⟩ => ⟨I2.kIn, ?_⟩) hst hpl
  exact run_fnG (us := .ref a :: us) (vs := .ref a :: vs) F hr hgd hb .nil (hx σ) I2 (.cons rfl r) (by rw [List.append_nil]; exact q2)
theorem pe_meth0G {pl : Sem Bool} (he : PE X o ta) (c : Cls X.K C) (hm : Meth X.K C m f) (F : FnG X.prog X.w X.K X.mg X.base cx k f fd ps sp) (hr : Room k X.A) (hgd : X.A.guards = some []) (hb : Binds X.K fd ps []) (hx : ∀ σ, PassesAt cx X σ (E σ))
    (ht : eval (.Call (.Attribute o m apos) [] [] pos) X.env = (do
      let ov ← eval o X.env
      standAt apos.atName
      let (f, first) ← holding [ov] (getMethod ov m pl)
      callWith pos f first (backTo pos (starEach [] X.env)) (backToKw pos (keywordEach [] X.env))) := by rfl) :
    PE X (.Call (.Attribute o m apos) [] [] pos) (tMethG C m sp E ta tNil) := by
  refine ⟨fun pins s σ H Q I h => ?_⟩
  refine PySem.W.methodCall_KW (pl := pl) (thn (he.run pins s σ H _ I h) fun u s1 ⟨x, H1, I1, rx, a, dx, fs, ex, ea, l, q⟩ => ?_) ht
  subst ex
  obtain rfl : u = Value.ref a := rx
  refine getmeth_ok I1 ea c hm l ?_
  refine PySem.W.callWith_K0 I1.kIn hm.kp ?_
  exact run_fnG (us := [.ref a]) (vs := [.ref a]) F hr hgd hb .nil (hx σ) I1 (.cons rfl .nil) (by rw [List.append_nil]; exact q)
/-- f() -/
theorem pe_callG0 (F : FnG X.prog X.w X.K X.mg X.base cx k f fd ps sp) (hr : Room k X.A) (hgd : X.A.guards = some []) (hg : Gl X x) (hm : X.mg x = some (.ref f)) (hk : PySem.W.keepIn X.K (.ref f) = true) (hb : Binds X.K fd ps [])
    (hx : ∀ σ, PassesAt cx X σ (E σ)) (hdb : (x == ("__debug__" : Str)) = false := by decide) : PE X (.Call (.Name x p) [] [] pos) (tCallSD sp [] E tNil) := by
  refine ⟨fun pins s σ H Q I h => wpAny_Call_Name_kw (ld_glob I hg hm ?_ hdb)⟩
  exact PySem.W.callWith_K0 I.kIn hk (run_fnG (us := []) (vs := []) F hr hgd hb .nil (hx σ) I .nil h)
/-! ### C(..) -/
def tMakeG (C : Addr) (sp : Sp) (E : L2.St → XK) (t : TA) : TE := fun σ H Q => t σ H fun vs H1 => ∀ x dx, H1 x = none → H1 dx = none → dx ≠ x →
  sp (.ref x :: vs) (upd (upd H1 dx (.own x)) x (.ins C dx [])) (fun v H2 => v = .non ∧ Q (.ref x) H2) (E σ)
theorem run_makeG {pins : List (Addr × Obj)} {σ : L2.St} {H : Hp} {s : Shared} {Q : VK} {us : List Value} {vs : List V} (M : Mk X.K C f) (F : FnG X.prog X.w X.K X.mg X.base cx k f fd ps sp) (hr : Room (k + 1) X.A) (hgd : X.A.guards = some []) (hb : Binds X.K fd ps [])
    (hx : PassesAt cx X σ (E σ)) (I : Inv X pins σ H s) (r : Vals vs us)
    (h : ∀ x dx, H x = none → H dx = none → dx ≠ x → sp (.ref x :: vs) (upd (upd H dx (.own x)) x (.ins C dx [])) (fun v H2 => v = .non ∧ Q (.ref x) H2) (E σ)) :
    wpAny (model X.prog X.w) X.A (call (.ref C) us) (EP X pins σ Q) X.xe s := by
  have hq := h (s.heap.objs.size + 1) s.heap.objs.size (I.hok.fresh (Nat.le_succ _)) (I.hok.fresh (Nat.le_refl _)) (Nat.ne_of_lt (Nat.lt_succ_self _))
  have I2 := Inv.made (C := C) I
  have r2 : Vals (V.ref (s.heap.objs.size + 1) :: vs) (Value.ref (s.heap.objs.size + 1) :: us) := .cons rfl r
  have hl : (Value.ref (s.heap.objs.size + 1) :: us).length = ps.length := by
    have e := r2.length
    rw [F.len _ _ _ _ hq] at e
    exact e.symm
  have bd := hb _ (Value.ref (s.heap.objs.size + 1) :: us) I2.kIn (by rw [List.append_nil]; exact hl)
  rw [List.append_nil] at bd
  refine wpAny_call (make_map (f := f) I.kIn M.makes M.init (beq_iff_eq.mp M.fn) (codeAny_mono (F.run _ X.stack _ _ ⟨Value.ref (s.heap.objs.size + 1) :: us, []⟩ (Value.ref (s.heap.objs.size + 1) :: us) _ _ (E σ) (hr.make C us []) ?_
    (I2.env0.make C us []) bd r2 hq) fun r s' hq' => ?_))
  · exact hgd
  cases r with
  | error e => exact hx pins _ _ e s' I2 hq'
  | ok fl =>
    cases fl with
    | ret u =>
      obtain ⟨v, H', I3, rv, ev, q3⟩ := I2.after hq'
      subst ev
      exact ⟨rv, ⟨V.ref (s.heap.objs.size + 1), H', I3, rfl, q3⟩⟩
    | next => exact False.elim hq'
    | brk => exact False.elim hq'
    | cont => exact False.elim hq'
theorem pe_makeG (M : Mk X.K C f) (F : FnG X.prog X.w X.K X.mg X.base cx k f fd ps sp) (hr : Room (k + 1) X.A) (hgd : X.A.guards = some []) (hg : Gl X x) (hm : X.mg x = some (.ref C)) (hb : Binds X.K fd ps []) (hx : ∀ σ, PassesAt cx X σ (E σ))
    (ha : PA X (e :: es) t) (hdb : (x == ("__debug__" : Str)) = false := by decide) (he : starEach (e :: es) X.env = (false, eval e X.env) :: starEach es X.env := by rfl) (hpl : (backTo pos (starEach es X.env)).any (·.1) = false := by rfl) :
    PE X (.Call (.Name x p) (e :: es) [] pos) (tMakeG C sp E t) := by
  refine ⟨fun pins s σ H Q I h => ?_⟩
  refine wpAny_Call_Name_kw (ld_glob I hg hm ?_ hdb)
  refine PySem.W.callWith_K (h₀ := X.base) I.ok.mod.kin M.kp (thn (ha.run pos pins s σ H _ I h) fun us s1 ⟨vs, H1, I1, r, q⟩ => ⟨I1.kIn, ?_⟩) he hpl
  exact run_makeG M F hr hgd hb (hx σ) I1 r q
end
end DL
/-! Own classes over the plain functions. -/
namespace DL
open PySem PySem.Spec PyProof.Rows L2
/-- an instance: its class and its fields -/
def insAt (μ : Mem) : DV → Option (Str × List (Str × DV))
  | .dat (.ins nm fs) => some (nm, fs.map fun p => (p.1, .dat p.2))
  | .loc n => match μ[n]? with
    | some (.ins nm fs) => some (nm, fs)
    | _ => none
  | _ => none
theorem ClsAt.uniq {K : PySem.W.Frag} {nm : Str} {C C' : Addr} (a : ClsAt K nm C) (b : ClsAt K nm C') : C = C' := by
  unfold ClsAt at a b; rw [a] at b; cases b; rfl
section
variable {K : PySem.W.Frag} {W : WX} {ρ : Pm} {G H : Hp} {μ : Mem} {σ : Slots} {δ : Env}
theorem dvl_dat {vs : List V} {ds : List D} (h : RpL K G vs ds) : DvL K ρ G vs (ds.map DV.dat) := by
  induction h using RpL.rec (motive_1 := fun _ _ _ => True) <;> first | trivial | exact .nil | (rename_i a b c d; exact .cons a d)
theorem insAt_ok {v : V} {x : DV} {nm : Str} {fs : List (Str × DV)} (R : Rel K ρ G H μ) (h : DvOk K ρ G v x) (e : insAt μ x = some (nm, fs)) :
    ∃ a dx C vs, v = .ref a ∧ H a = some (.ins C dx vs) ∧ ClsAt K nm C ∧ vs.map (·.1) = fs.map (·.1) ∧ DvL K ρ G (vs.map (·.2)) (fs.map (·.2)) := by
  cases x with
  | dat d =>
    cases d with
    | ins nm' ds =>
      cases e
      cases h with
      | ins c h1 h2 h3 h4 =>
        refine ⟨_, _, _, _, rfl, R.ex _ _ h1, c, by rw [h3]; simp, ?_⟩
        have := dvl_dat (ρ := ρ) h4
        rw [List.map_map] at this ⊢
        exact this
    | _ => cases e
  | loc n =>
    obtain ⟨a, rfl, q⟩ := h
    unfold insAt at e
    match em : μ[n]? with
    | none => simp only [em] at e; cases e
    | some (.lst _) => simp only [em] at e; cases e
    | some (.dct _) => simp only [em] at e; cases e
    | some .own => simp only [em] at e; cases e
    | some .gone => simp only [em] at e; cases e
    | some (.ins nm' fs') =>
      simp only [em] at e; cases e
      obtain ⟨_, b, dx, C, vs, m, hm, h1, h2, c, h4, h5, h6⟩ := R.pl n _ em
      rw [q] at h1; cases h1
      exact ⟨_, dx, C, vs, rfl, h2, c, h5, h6⟩
theorem look_none {α β : Type} {m : Str} : ∀ {vs : List (Str × α)} {fs : List (Str × β)}, vs.map (·.1) = fs.map (·.1) → fs.lookup m = none → vs.lookup m = none
  | [], [], _, _ => rfl
  | (a, x) :: vs, (b, y) :: fs, h, e => by
    simp only [List.map_cons, List.cons.injEq] at h
    obtain ⟨rfl, h⟩ := h
    simp only [List.lookup] at e ⊢
    cases q : m == a with
    | true => rw [q] at e; cases e
    | false => rw [q] at e; exact look_none h e
  | [], _ :: _, h, _ => by simp at h
  | _ :: _, [], h, _ => by simp at h
theorem look_some {m : Str} : ∀ {vs : List (Str × V)} {fs : List (Str × DV)} {y : DV}, vs.map (·.1) = fs.map (·.1) → DvL K ρ G (vs.map (·.2)) (fs.map (·.2)) → fs.lookup m = some y → ∃ v, vs.lookup m = some v ∧ DvOk K ρ G v y
  | [], [], _, _, _, e => by cases e
  | (a, x) :: vs, (b, y) :: fs, z, h, d, e => by
    simp only [List.map_cons, List.cons.injEq] at h d
    obtain ⟨rfl, h⟩ := h
    cases d with
    | cons d1 d2 =>
      simp only [List.lookup] at e ⊢
      cases q : m == a with
      | true => rw [q] at e; cases e; exact ⟨_, rfl, d1⟩
      | false => rw [q] at e; exact look_some h d2 e
  | [], _ :: _, _, h, _, _ => by simp at h
  | _ :: _, [], _, h, _, _ => by simp at h
/-! ### methods -/
def isI (nm m : Str) (x : DV) (μ : Mem) : Bool := match insAt μ x with
  | some (nm', fs) => decide (nm' = nm) && (fs.lookup m).isNone
  | none => false
def eMeth (nm m : Str) (F : List DV → Mem → Res R) (f : EM) (fa : AM) : EM := fun δ μ => (frzV f δ μ).bind fun x μ1 => if isI nm m x μ1 = true then (fa δ μ1).bind fun xs μ2 => F (x :: xs) μ2 else .bad
theorem isI_ok {nm m : Str} {v : V} {x : DV} {C : Addr} (R : Rel K ρ G H μ) (h : DvOk K ρ G v x) (c : ClsAt K nm C) (e : isI nm m x μ = true) : ∃ a dx vs, v = .ref a ∧ H a = some (.ins C dx vs) ∧ vs.lookup m = none := by
  unfold isI at e
  cases q : insAt μ x with
  | none => rw [q] at e; cases e
  | some p =>
    obtain ⟨nm', fs⟩ := p
    rw [q] at e
    simp only [Bool.and_eq_true, decide_eq_true_eq] at e
    obtain ⟨rfl, e⟩ := e
    obtain ⟨a, dx, C', vs, h1, h2, c', h3, h4⟩ := insAt_ok R h q
    cases c.uniq c'
    exact ⟨a, dx, vs, h1, h2, look_none h3 (by simpa using e)⟩
def tMethN (K : PySem.W.Frag) (nm m : Str) (sp : Sp) (E : L2.St → XK) (ta : TE) (t : TA) : TE := fun σ H Q => ∃ C, ClsAt K nm C ∧ tMethG C m sp E ta t σ H Q
theorem snd_meth {nm m : Str} {F : List DV → Mem → Res R} {n : Nat} {C : Addr} {to : TE} {fo : EM} {ta : TA} {fa : AM} (c : ClsAt K nm C) (ho : SndE K W to fo) (ha : SndA K W ta fa) (hn : ∀ xs μ, F xs μ ≠ .bad → xs.length = n) :
    SndE K W (tMethN K nm m (spF K n F) (EW W) to ta) (eMeth nm m F fo fa) := fun ρ G H σ δ μ Q R E hp => by
  refine ⟨C, c, ?_⟩
  refine SndG.seq (t := to) ho.toV R E hp fun x μ1 G1 H1 v t1 R1 E1 d1 hp1 => ?_
  by_cases hc : isI nm m x μ1 = true
  case neg => rw [if_neg hc] at hp1; exact hp1.elim
  rw [if_pos hc] at hp1
  obtain ⟨a, dx, vs, rfl, ha', hl⟩ := isI_ok R1 d1 c hc
  refine ⟨a, dx, vs, rfl, ha', hl, ?_⟩
  refine SndG.seq (t := ta) ha R1 E1 (hp1.shiftE t1) fun xs μ2 G2 H2 ws t2 R2 E2 d2 hp2 => ?_
  have hp3 := hp2.shiftE t2
  have hb : F (x :: xs) μ2 ≠ .bad := fun e => by rw [e] at hp3; exact hp3
  refine ⟨by have := hn _ _ hb; simp only [List.length_cons] at this ⊢; rw [paired_len d2]; exact this, ρ, G2, μ2, x :: xs, R2, .cons (d1.mono t2.exG fun _ _ q => q) d2, ?_⟩
  cases e : F (x :: xs) μ2 with
  | ok r μ' => rw [e] at hp3; exact hp3
  | exc x μ' => rw [e] at hp3; exact hp3
  | bad => exact hb e
/-- a method of the class that the module calls nm -/
structure MthD (P : Program) (w : World) (K : PySem.W.Frag) (mg : Str → Option Value) (base : Heap) (cx : CXT) (k : Nat) (nm m : Str) (n : Nat) (F : List DV → Mem → Res R) : Prop where
  ar : ∀ xs μ, F xs μ ≠ .bad → xs.length = n
  ex : ∃ (C f : Addr) (fd : FuncData) (ps : List Str), ps.length = n ∧ ClsAt K nm C ∧ FnG P w K mg base cx k f fd ps (spF K n F) ∧ Cls K C ∧ Meth K C m f ∧ Binds K fd ps []
/-! ### fields -/
def eFld (nms : List Str) (m : Str) (f : EM) : EM := fun δ μ => (frzV f δ μ).bind fun x μ1 => match insAt μ1 x with
  | some (nm, fs) => if nm ∈ nms then match fs.lookup m with
      | some y => .ok (ofV y) μ1
      | none => .bad
    else .bad
  | none => .bad
/-- instances of the class nm have the field m by themselves alone -/
def FldOk (K : PySem.W.Frag) (nm m : Str) : Prop := ∃ C, ClsAt K nm C ∧ Cls K C ∧ NoAttr K C m
theorem snd_fld {nms : List Str} {m : Str} {to : TE} {fo : EM} (c : ∀ nm ∈ nms, FldOk K nm m) (ho : SndE K W to fo) : SndE K W (tFld K to m) (eFld nms m fo) := fun ρ G H σ δ μ Q R E hp => by
  refine SndG.seq (t := to) ho.toV R E hp fun x μ1 G1 H1 v t1 R1 E1 d1 hp1 => ?_
  cases q : insAt μ1 x with
  | none => rw [q] at hp1; exact hp1.elim
  | some p =>
    obtain ⟨nm, fs⟩ := p
    rw [q] at hp1
    simp only at hp1
    by_cases hn : nm ∈ nms
    case neg => rw [if_neg hn] at hp1; exact hp1.elim
    rw [if_pos hn] at hp1
    obtain ⟨C, c1, c2, c3⟩ := c nm hn
    obtain ⟨a, dx, C', vs, rfl, h2, c', h3, h4⟩ := insAt_ok R1 d1 q
    cases c1.uniq c'
    cases ql : fs.lookup m with
    | none => rw [ql] at hp1; exact hp1.elim
    | some y =>
      rw [ql] at hp1
      obtain ⟨w, hw, dw⟩ := look_some h3 h4 ql
      exact ⟨a, C, dx, vs, w, rfl, h2, c2, c3, hw, hp1 G1 H1 w t1 R1 (RpR.ofV dw)⟩
/-! ### o.m = e -/
theorem Rel.setP {n : Nat} {a : Addr} {o' : HO} {p p' : Pl} (R : Rel K ρ G H μ) (hn : ρ n = some a) (hm : μ[n]? = some p) (hno : p ≠ .own) (hp' : PlOk K ρ G (upd H a o') n p') :
    Rel K ρ G (upd H a o') (μ.set n p') ∧ Tr ρ G H G (upd H a o') := by
  have hlt : n < μ.length := R.lt n a hn
  have nown : ∀ b, H a ≠ some (.own b) := fun b e => by
    have z := R.pl n p hm
    cases p with
    | lst xs => obtain ⟨_, b, vs, h1, h2, _⟩ := z; rw [hn] at h1; cases h1; rw [e] at h2; cases h2
    | dct kvs => obtain ⟨_, b, o, vs, h1, h2, h3, _⟩ := z; rw [hn] at h1; cases h1; rw [e] at h2; cases h2; rcases h3 with ⟨_, h, _⟩ | ⟨_, h, _⟩ <;> cases h
    | ins nm fs => obtain ⟨_, b, dx, C, vs, m, _, h1, h2, _⟩ := z; rw [hn] at h1; cases h1; rw [e] at h2; cases h2
    | own => exact hno rfl
    | gone => rw [show ρ n = none from z] at hn; cases hn
  refine ⟨⟨fun b o h => ?_, R.inj, R.nG, fun m b h => by rw [List.length_set]; exact R.lt m b h, fun m b h q => ?_, fun m q h => ?_⟩, ⟨Ex.refl _, fun b o hb h => ?_, fun b h => ?_, fun b h => .inl h⟩⟩
  · have e : b ≠ a := fun e => by rw [e, R.nG n a hn] at h; cases h
    rw [upd_ne e]; exact R.ex b o h
  · by_cases e : b = a
    · rw [e, upd_same] at q; cases q
    · rw [upd_ne e] at q; exact R.hs m b h q
  · by_cases e : m = n
    · subst e
      rw [List.getElem?_set_self hlt] at h
      cases h
      exact hp'
    · rw [List.getElem?_set_ne (fun z => e z.symm)] at h
      have z := R.pl m q h
      have ne : ∀ b, ρ m = some b → b ≠ a := fun b hb z => e (R.inj m n a (z ▸ hb) hn)
      cases q with
      | lst xs => obtain ⟨b, c, vs, h1, h2, h3⟩ := z; exact ⟨b, c, vs, h1, by rw [upd_ne (ne c h1)]; exact h2, h3⟩
      | dct kvs => obtain ⟨b, c, o, vs, h1, h2, h3⟩ := z; exact ⟨b, c, o, vs, h1, by rw [upd_ne (ne c h1)]; exact h2, h3⟩
      | own => obtain ⟨b, c, h1, h2⟩ := z; exact ⟨b, c, h1, by rw [upd_ne (ne b h1)]; exact h2⟩
      | ins nm fs =>
        obtain ⟨b, c, dx, C, vs, k, hk, h1, h2, cl, h4, h3⟩ := z
        exact ⟨b, c, dx, C, vs, k, hk, h1, by rw [upd_ne (ne c h1)]; exact h2, cl, by rw [upd_ne (show dx ≠ a from fun e => nown c (e ▸ h4))]; exact h4, h3⟩
      | gone => exact z
  · have e : b ≠ a := fun e => hb n (e ▸ hn)
    rw [upd_ne e]; exact h
  · by_cases e : b = a
    · rw [e, upd_same] at h; cases h
    · rw [upd_ne e] at h; exact h
def putD (f : Str) (v : DV) : List (Str × DV) → List (Str × DV)
  | [] => [(f, v)]
  | (g, x) :: r => if g = f then (g, v) :: r else (g, x) :: putD f v r
theorem put_rel {f : Str} {v : V} {y : DV} (d : DvOk K ρ G v y) : ∀ {vs : List (Str × V)} {fs : List (Str × DV)}, vs.map (·.1) = fs.map (·.1) → DvL K ρ G (vs.map (·.2)) (fs.map (·.2)) →
    (putF f v vs).map (·.1) = (putD f y fs).map (·.1) ∧ DvL K ρ G ((putF f v vs).map (·.2)) ((putD f y fs).map (·.2))
  | [], [], _, _ => ⟨rfl, .cons d .nil⟩
  | (a, x) :: vs, (b, z) :: fs, h, dl => by
    simp only [List.map_cons, List.cons.injEq] at h dl
    obtain ⟨rfl, h⟩ := h
    cases dl with
    | cons d1 d2 =>
      simp only [putF, putD]
      by_cases e : a = f
      · rw [if_pos e, if_pos e]; exact ⟨by simp [h], .cons d d2⟩
      · rw [if_neg e, if_neg e]
        obtain ⟨i1, i2⟩ := put_rel d h d2
        exact ⟨by simp [i1], .cons d1 i2⟩
  | [], _ :: _, h, _ => by simp at h
  | _ :: _, [], h, _ => by simp at h
theorem putD_mem {f : Str} {y : DV} {p : Str × DV} : ∀ {fs : List (Str × DV)}, p ∈ putD f y fs → p.2 = y ∨ p ∈ fs
  | [], h => by rcases List.mem_singleton.mp h with rfl; exact .inl rfl
  | (g, x) :: r, h => by
    simp only [putD] at h
    by_cases e : g = f
    · rw [if_pos e] at h
      rcases List.mem_cons.mp h with rfl | h
      · exact .inl rfl
      · exact .inr (List.mem_cons_of_mem _ h)
    · rw [if_neg e] at h
      rcases List.mem_cons.mp h with rfl | h
      · exact .inr List.mem_cons_self
      · exact (putD_mem h).imp id (List.mem_cons_of_mem _)
def setFld (nms : List Str) (μ : Mem) (x : DV) (m : Str) (y : DV) : Option Mem := match x with
  | .loc n => match μ[n]? with
    | some (.ins nm fs) => if nm ∈ nms ∧ fs.length < 1000 ∧ belowB n y = true then some (μ.set n (.ins nm (putD m y fs))) else none
    | _ => none
  | .dat _ => none
def gFld (nms : List Str) (m : Str) (fo fe : EM) : SM := fun _ δ μ => lift ((frzV fe δ μ).bind fun y μ1 => (frzV fo δ μ1).bind fun x μ2 => match setFld nms μ2 x m y with
  | some μ3 => .ok () μ3
  | none => .bad) δ fun _ μ3 => .next δ μ3
theorem setFld_ok {nms : List Str} {m : Str} {x y : DV} {v w : V} {μ' : Mem} (c : ∀ nm ∈ nms, FldOk K nm m) (R : Rel K ρ G H μ) (hx : DvOk K ρ G v x) (hy : DvOk K ρ G w y) (e : setFld nms μ x m y = some μ') :
    ∃ a C dx vs, v = .ref a ∧ H a = some (.ins C dx vs) ∧ Cls K C ∧ NoAttr K C m ∧ vs.length < 1000 ∧ Rel K ρ G (upd H a (.ins C dx (putF m w vs))) μ' ∧ Tr ρ G H G (upd H a (.ins C dx (putF m w vs))) := by
  cases x with
  | dat d => cases e
  | loc n =>
    obtain ⟨a, rfl, q⟩ := hx
    unfold setFld at e
    match em : μ[n]? with
    | none => simp only [em] at e; cases e
    | some (.lst _) => simp only [em] at e; cases e
    | some (.dct _) => simp only [em] at e; cases e
    | some .own => simp only [em] at e; cases e
    | some .gone => simp only [em] at e; cases e
    | some (.ins nm fs) =>
      simp only [em] at e
      by_cases hc : nm ∈ nms ∧ fs.length < 1000 ∧ belowB n y = true
      case neg => rw [if_neg hc] at e; cases e
      rw [if_pos hc] at e; cases e
      obtain ⟨hn, hl, hb⟩ := hc
      obtain ⟨C, c1, c2, c3⟩ := c nm hn
      obtain ⟨bl, b, dx, C', vs, k, hk, h1, h2, c', h4, h5, h6⟩ := R.pl n _ em
      rw [q] at h1; cases h1
      cases c1.uniq c'
      have hlen : vs.length = fs.length := by have := congrArg List.length h5; simpa using this
      obtain ⟨p1, p2⟩ := put_rel (f := m) hy h5 h6
      have hby : y.below n := by
        cases y with
        | dat d => trivial
        | loc m => exact (of_decide_eq_true hb : m < n)
      have nd : dx ≠ a := fun e => by rw [e, h2] at h4; cases h4
      refine ⟨a, C, dx, vs, rfl, h2, c2, c3, by omega, R.setP (p := .ins nm fs) q em (fun z => by cases z) ⟨fun p hp => ?_, a, dx, C, _, k, hk, q, upd_same, c1, by rw [upd_ne nd]; exact h4, p1, p2⟩⟩
      rcases putD_mem hp with e | h
      · rw [e]; exact hby
      · exact bl p h
theorem snd_sfld {nms : List Str} {m : Str} {to te : TE} {fo fe : EM} (c : ∀ nm ∈ nms, FldOk K nm m) (ho : SndE K W to fo) (he : SndE K W te fe) : SndS K W (sFld K to te m) (gFld nms m fo fe) := fun N ρ G H σ δ μ Dn R E hp => by
  have conv : SndG K W (fun σ H Q => te σ H fun y H1 => to σ H1 fun x H2 => ∃ a C dx fs, x = .ref a ∧ H2 a = some (.ins C dx fs) ∧ Cls K C ∧ NoAttr K C m ∧ fs.length < 1000 ∧ Q () (upd H2 a (.ins C dx (putF m y fs))))
      (fun δ μ => (frzV fe δ μ).bind fun y μ1 => (frzV fo δ μ1).bind fun x μ2 => match setFld nms μ2 x m y with | some μ3 => Res.ok () μ3 | none => .bad) (fun _ _ _ _ _ _ => True) := by
    intro ρ G H σ δ μ Q R E hp
    refine SndG.seq (t := te) he.toV R E hp fun y μ1 G1 H1 w t1 R1 E1 d1 hp1 => ?_
    refine SndG.seq (t := to) ho.toV R1 E1 (hp1.shift t1 fun _ _ _ _ q => q) fun x μ2 G2 H2 v t2 R2 E2 d2 hp2 => ?_
    have hp2 := hp2.shift (rp1 := fun _ _ _ _ => True) t2 fun _ _ _ _ q => q
    cases es : setFld nms μ2 x m y with
    | none => rw [es] at hp2; exact hp2.elim
    | some μ3 =>
      rw [es] at hp2
      obtain ⟨a, C, dx, vs, rfl, h2, c2, c3, hl, R3, T3⟩ := setFld_ok c R2 d2 (d1.mono t2.exG fun _ _ q => q) es
      exact ⟨a, C, dx, vs, rfl, h2, c2, c3, hl, hp2 _ _ () T3 R3 trivial⟩
  refine SndG.stm (t := fun σ H Q => te σ H fun y H1 => to σ H1 fun x H2 => ∃ a C dx fs, x = .ref a ∧ H2 a = some (.ins C dx fs) ∧ Cls K C ∧ NoAttr K C m ∧ fs.length < 1000 ∧ Q () (upd H2 a (.ins C dx (putF m y fs)))) conv R E hp (Q := fun _ H' => Dn.nx σ H') fun u μ' G' H' v t' R' E' _ hp' => ?_
  exact hp' ρ G' H' σ t'.toS R' E'
/-! ### C(..) -/
def mkEnd (N : Nat) (μ2 : Mem) : Res R := match μ2[N + 1]? with
  | some (.ins nm fs) => match allDat (fs.map (·.2)) with
    | some ds => .ok (.dat (.ins nm ((fs.map (·.1)).zip ds))) (μ2.take N)
    | none => .bad
  | _ => .bad
def mkRun (F : List DV → Mem → Res R) (nm : Str) (xs : List DV) (μ1 : Mem) : Res R := match F (.loc (μ1.length + 1) :: xs) (μ1 ++ [.own] ++ [.ins nm []]) with
  | .ok (.dat .non) μ2 => mkEnd μ1.length μ2
  | .exc x μ2 => .exc x (μ2.take μ1.length)
  | _ => .bad
def eMake (nm : Str) (F : List DV → Mem → Res R) (fa : AM) : EM := fun δ μ => (fa δ μ).bind fun xs μ1 => mkRun F nm xs μ1
def tMakeN (K : PySem.W.Frag) (nm : Str) (sp : Sp) (E : L2.St → XK) (t : TA) : TE := fun σ H Q => ∃ C, ClsAt K nm C ∧ tMakeG C sp E t σ H Q
theorem snd_make {nm : Str} {F : List DV → Mem → Res R} {n : Nat} {C : Addr} {ta : TA} {fa : AM} (c : ClsAt K nm C) (ha : SndA K W ta fa) (hn : ∀ xs μ, F xs μ ≠ .bad → xs.length = n) :
    SndE K W (tMakeN K nm (spF K n F) (EW W) ta) (eMake nm F fa) := fun ρ G H σ δ μ Q R E hp => by
  refine ⟨C, c, ?_⟩
  refine SndG.seq (t := ta) ha R E hp fun xs μ1 G1 H1 vs t1 R1 E1 d1 hp1 => ?_
  have hp1 := hp1.shiftE t1
  intro x dx hx hdx hne
  obtain ⟨Ra, Ta⟩ := R1.lay (o := .own x) hdx
  have hx2 : upd H1 dx (.own x) x = none := by rw [upd_ne (Ne.symm hne)]; exact hx
  obtain ⟨Rb, Tb⟩ := Ra.lay (o := .ins C dx []) hx2
  have e1 : upd (upd H1 dx (.own x)) x (.ins C dx []) dx = some (.own x) := by rw [upd_ne hne, upd_same]
  have e2 : upd (upd H1 dx (.own x)) x (.ins C dx []) x = some (.ins C dx []) := upd_same
  obtain ⟨n1, n2⟩ := fresh_ne R1 hdx
  obtain ⟨m1, m2⟩ := fresh_ne R1 hx
  have T0 : TrS μ1.length ρ G1 H1 ρ G1 (upd (upd H1 dx (.own x)) x (.ins C dx [])) := (Ta.trans Tb).toS
  obtain ⟨Rc, Tc, upc, atc⟩ := Rb.alloc (N := μ1.length) (p := .own) (Nat.le_refl _) T0 (by rw [e1]; simp) n1 n2 hdx ⟨dx, x, by unfold addP; rw [if_pos rfl], e1⟩
  have hl : (μ1 ++ [Pl.own]).length = μ1.length + 1 := by simp
  have m3 : ∀ n, addP ρ μ1.length dx n ≠ some x := fun n q => by
    unfold addP at q
    by_cases e : n = μ1.length
    · rw [if_pos e] at q; cases q; exact hne rfl
    · rw [if_neg e] at q; exact m2 n q
  obtain ⟨Rd, Td, upd_, atd⟩ := Rc.alloc (N := μ1.length) (p := .ins nm []) (by rw [hl]; omega) Tc (by rw [e2]; simp) m1 m3 hx ⟨fun _ h => by (cases h), x, dx, C, [], μ1.length, ⟨hl, by rw [hl]; unfold addP; rw [if_neg (by omega), if_pos rfl]⟩, by unfold addP; rw [if_pos rfl], e2, c, e1, rfl, .nil⟩
  rw [hl] at Rd Td upd_ atd
  generalize eρ : addP (addP ρ μ1.length dx) (μ1.length + 1) x = ρd at *
  have hb : F (.loc (μ1.length + 1) :: xs) (μ1 ++ [.own] ++ [.ins nm []]) ≠ .bad := fun e => by
    unfold mkRun at hp1; rw [e] at hp1; exact hp1
  have atN : ρd μ1.length = some dx := by rw [← eρ]; unfold addP; rw [if_neg (by omega), if_pos rfl]
  refine ⟨by have := hn _ _ hb; simp only [List.length_cons] at this ⊢; rw [paired_len d1]; exact this, ρd, G1, _, .loc (μ1.length + 1) :: xs, Rd, .cons (show DvOk K ρd G1 (.ref x) (.loc (μ1.length + 1)) from ⟨x, rfl, atd⟩) (DvL.mono (Ex.refl _) (fun n b q => upd_ n b (upc n b q)) d1), ?_⟩
  unfold mkRun at hp1
  cases e : F (.loc (μ1.length + 1) :: xs) (μ1 ++ [.own] ++ [.ins nm []]) with
  | bad => exact hb e
  | exc xx μ2 =>
    rw [e] at hp1
    intro G' H' cls d t' R' q
    have TT := Td.trans (t'.toS (N := μ1.length))
    have z := R'.cut μ1.length
    rw [res_back R1 TT] at z
    exact hp1 G' H' cls d (tr_back R1 TT) z q
  | ok r μ2 =>
    rw [e] at hp1
    intro G' H' v t' R' q
    match r, q, hp1 with
    | .dat .non, q, hp1 =>
      have hv : v = .non := by cases q; rfl
      refine ⟨hv, ?_⟩
      have TT := Td.trans (t'.toS (N := μ1.length))
      have z := R'.cut μ1.length
      rw [res_back R1 TT] at z
      have tb := tr_back R1 TT
      simp only [mkEnd] at hp1
      match em : μ2[μ1.length + 1]? with
      | none => rw [em] at hp1; exact hp1.elim
      | some (.lst _) => rw [em] at hp1; exact hp1.elim
      | some (.dct _) => rw [em] at hp1; exact hp1.elim
      | some .own => rw [em] at hp1; exact hp1.elim
      | some .gone => rw [em] at hp1; exact hp1.elim
      | some (.ins nm' fs) =>
        rw [em] at hp1
        simp only at hp1
        cases ed : allDat (fs.map (·.2)) with
        | none => rw [ed] at hp1; exact hp1.elim
        | some ds =>
          rw [ed] at hp1
          obtain ⟨_, a, dx', C', ws, k, hk, h1, h2, c', h4, h5, h6⟩ := R'.pl _ _ em
          rw [atd] at h1; cases h1
          have hk1 : k = μ1.length := by omega
          rw [hk1, atN] at hk; cases hk.2
          have g1 : G' x = none := R'.nG _ _ atd
          have g2 : G' dx = none := R'.nG _ _ atN
          obtain ⟨R3, t3, x3⟩ := z.freeze tb h2 hx g1 m2
          obtain ⟨R4, t4, x4⟩ := R3.freeze t3 h4 hdx (by rw [upd_ne hne]; exact g2) n2
          have el : (fs.map (·.1)).length = ds.length := by rw [← allDat_len ed]; simp
          refine hp1 _ _ _ t4 R4 (Rp.ins (C := C') (dx := dx) (vs := ws) c' (by rw [upd_ne (Ne.symm hne), upd_same]) upd_same (by rw [h5, List.map_fst_zip (by omega)]) ?_)
          rw [List.map_snd_zip (by omega)]
          exact RpL.mono (x3.trans x4) (allDat_ok ed h6)
    | .dat (.bl _), q, hp1 => exact hp1.elim
    | .dat (.int _), q, hp1 => exact hp1.elim
    | .dat (.str _), q, hp1 => exact hp1.elim
    | .dat (.ty _), q, hp1 => exact hp1.elim
    | .dat (.ref _), q, hp1 => exact hp1.elim
    | .dat (.tup _), q, hp1 => exact hp1.elim
    | .dat (.lst _), q, hp1 => exact hp1.elim
    | .dat (.fro _), q, hp1 => exact hp1.elim
    | .dat (.dct _), q, hp1 => exact hp1.elim
    | .dat (.ins _ _), q, hp1 => exact hp1.elim
    | .loc _, q, hp1 => exact hp1.elim
    | .nl _, q, hp1 => exact hp1.elim
    | .nk _, q, hp1 => exact hp1.elim
structure MakD (P : Program) (w : World) (K : PySem.W.Frag) (mg : Str → Option Value) (base : Heap) (cx : CXT) (k : Nat) (nm : Str) (n : Nat) (F : List DV → Mem → Res R) : Prop where
  ar : ∀ xs μ, F xs μ ≠ .bad → xs.length = n
  ex : ∃ (C f : Addr) (fd : FuncData) (ps : List Str), ps.length = n ∧ ClsAt K nm C ∧ mg nm = some (.ref C) ∧ FnG P w K mg base cx k f fd ps (spF K n F) ∧ Mk K C f ∧ Binds K fd ps []
end
section
variable {X : Cx} {W : WX} {P : Program} {w : World} {K : PySem.W.Frag} {mg : Str → Option Value} {base : Heap} {cx : CXT} {k n : Nat} {nm m x : Str} {F : List DV → Mem → Res R} {e o : Expr} {es : List Expr} {tA : TA} {fA : AM} {to te : TE} {fo fe : EM} {p pos apos : Pos}
theorem pm_meth {pl : Sem Bool} (Fn : MthD P w K mg base cx k nm m n F) (hr : Room k X.A) (hgd : X.A.guards = some []) (hx : ∀ σ, PassesAt cx X σ (EW W σ)) (ho : PM X W o to fo) (ha : PMA X W (e :: es) tA fA) (h1 : X.prog = P := by rfl) (h2 : X.w = w := by rfl) (h3 : X.K = K := by rfl) (h4 : X.mg = mg := by rfl) (h5 : X.base = base := by rfl)
    (hst : starEach (e :: es) X.env = (false, eval e X.env) :: starEach es X.env := by rfl) (hpl : (backTo pos (starEach es X.env)).any (·.1) = false := by rfl)
    (ht : eval (.Call (.Attribute o m apos) (e :: es) [] pos) X.env = (do
      let ov ← eval o X.env
      standAt apos.atName
      let (f, first) ← holding [ov] (getMethod ov m pl)
      callWith pos f first (backTo pos (starEach (e :: es) X.env)) (backToKw pos (keywordEach [] X.env))) := by rfl) : PM X W (.Call (.Attribute o m apos) (e :: es) [] pos) (tMethN K nm m (spF K n F) (EW W) to tA) (eMeth nm m F fo fA) := by
  subst h1 h2 h3 h4 h5
  obtain ⟨C, f, fd, ps, hn, c, G, cl, hm, hb⟩ := Fn.ex
  refine ⟨⟨fun pins s σ H Q I h => ?_⟩, snd_meth c ho.sd ha.sd Fn.ar⟩
  obtain ⟨C', c', h⟩ := h
  cases c.uniq c'
  exact (pe_methG ho.pe cl hm G hr hgd hb hx ha.pe hst hpl ht).run pins s σ H Q I h
theorem pm_meth0 {pl : Sem Bool} (Fn : MthD P w K mg base cx k nm m n F) (hr : Room k X.A) (hgd : X.A.guards = some []) (hx : ∀ σ, PassesAt cx X σ (EW W σ)) (ho : PM X W o to fo) (h1 : X.prog = P := by rfl) (h2 : X.w = w := by rfl) (h3 : X.K = K := by rfl) (h4 : X.mg = mg := by rfl) (h5 : X.base = base := by rfl)
    (ht : eval (.Call (.Attribute o m apos) [] [] pos) X.env = (do
      let ov ← eval o X.env
      standAt apos.atName
      let (f, first) ← holding [ov] (getMethod ov m pl)
      callWith pos f first (backTo pos (starEach [] X.env)) (backToKw pos (keywordEach [] X.env))) := by rfl) : PM X W (.Call (.Attribute o m apos) [] [] pos) (tMethN K nm m (spF K n F) (EW W) to tNil) (eMeth nm m F fo aNil) := by
  subst h1 h2 h3 h4 h5
  obtain ⟨C, f, fd, ps, hn, c, G, cl, hm, hb⟩ := Fn.ex
  refine ⟨⟨fun pins s σ H Q I h => ?_⟩, snd_meth c ho.sd snd_nil Fn.ar⟩
  obtain ⟨C', c', h⟩ := h
  cases c.uniq c'
  exact (pe_meth0G ho.pe cl hm G hr hgd hb hx ht).run pins s σ H Q I h
theorem pm_make (Fn : MakD P w K mg base cx k nm n F) (hr : Room (k + 1) X.A) (hgd : X.A.guards = some []) (hg : Gl X nm) (hx : ∀ σ, PassesAt cx X σ (EW W σ)) (ha : PMA X W (e :: es) tA fA) (h1 : X.prog = P := by rfl) (h2 : X.w = w := by rfl) (h3 : X.K = K := by rfl) (h4 : X.mg = mg := by rfl) (h5 : X.base = base := by rfl)
    (hdb : (nm == ("__debug__" : Str)) = false := by decide) (he : starEach (e :: es) X.env = (false, eval e X.env) :: starEach es X.env := by rfl) (hpl : (backTo pos (starEach es X.env)).any (·.1) = false := by rfl) :
    PM X W (.Call (.Name nm p) (e :: es) [] pos) (tMakeN K nm (spF K n F) (EW W) tA) (eMake nm F fA) := by
  subst h1 h2 h3 h4 h5
  obtain ⟨C, f, fd, ps, hn, c, hm, G, M, hb⟩ := Fn.ex
  refine ⟨⟨fun pins s σ H Q I h => ?_⟩, snd_make c ha.sd Fn.ar⟩
  obtain ⟨C', c', h⟩ := h
  cases c.uniq c'
  exact (pe_makeG M G hr hgd hg hm hb hx ha.pe hdb he hpl).run pins s σ H Q I h
theorem pm_fld {nms : List Str} (K : PySem.W.Frag) (c : ∀ nm ∈ nms, FldOk K nm m) (ho : PM X W o to fo) (h3 : X.K = K := by rfl) (hb : attributeBase o m X.env (eval o X.env) = eval o X.env := by rfl) :
    PM X W (.Attribute o m pos) (tFld K to m) (eFld nms m fo) := by
  subst h3
  exact ⟨pe_fld ho.pe hb, snd_fld c ho.sd⟩
theorem sm_fld {nms : List Str} (K : PySem.W.Frag) (c : ∀ nm ∈ nms, FldOk K nm m) (ho : PM X W o to fo) (he : PM X W e te fe) (h3 : X.K = K := by rfl) (hs : swapsWith e (some (.Attribute o m apos)) pos.line X.env = pure false := by rfl) :
    PSM X W (.Assign [.Attribute o m apos] e pos) (sFld K to te m) (gFld nms m fo fe) := by
  subst h3
  exact ⟨ps_fld ho.pe he.pe hs, snd_sfld c ho.sd he.sd⟩
theorem pm_call0 {p : Pos} (Fn : FnD P w K mg base cx k x n F) (hr : Room k X.A) (hgd : X.A.guards = some []) (hg : Gl X x) (hx : ∀ σ, PassesAt cx X σ (EW W σ)) (h1 : X.prog = P := by rfl) (h2 : X.w = w := by rfl) (h3 : X.K = K := by rfl) (h4 : X.mg = mg := by rfl) (h5 : X.base = base := by rfl)
    (hdb : (x == ("__debug__" : Str)) = false := by decide) : PM X W (.Call (.Name x p) [] [] pos) (tCallSD (spF K n F) [] (EW W) tNil) (eCB F aNil) := by
  subst h1 h2 h3 h4 h5
  obtain ⟨f, fd, ps, hn, G, hm, hk, hb⟩ := Fn.ex
  exact ⟨pe_callG0 G hr hgd hg hm hk hb hx hdb, snd_call snd_nil Fn.ar⟩
end
end DL
/-! isinstance, len, ==, in by own classes. -/
namespace DL
open PySem PySem.Spec PyProof.Rows L2
/-- a value's type: a built-in's name, or an own class's -/
inductive Kd where
  | b (t : String) | c (nm : Str)
def kindOf (μ : Mem) : DV → Option Kd
  | .dat .non => some (.b "NoneType")
  | .dat (.bl _) => some (.b "bool")
  | .dat (.int _) => some (.b "int")
  | .dat (.str _) => some (.b "str")
  | .dat (.tup _) => some (.b "tuple")
  | .dat (.lst _) => some (.b "list")
  | .dat (.fro _) => some (.b "list")
  | .dat (.dct _) => some (.b "dict")
  | .dat (.ins nm _) => some (.c nm)
  | .dat (.ty _) => none
  | .dat (.ref _) => none
  | .loc n => match μ[n]? with
    | some (.lst _) => some (.b "list")
    | some (.dct _) => some (.b "dict")
    | some (.ins nm _) => some (.c nm)
    | _ => none
/-- what isinstance asks of an own class -/
structure ClsTy (K : PySem.W.Frag) (nm : Str) : Prop where
  ex : ∃ C, ClsAt K nm C ∧ Cls K C ∧ PySem.W.findIn K (.ref C) "__class__" = some (some (.builtin "object.__class__")) ∧ PySem.W.mroIn K C (.type "object") = some true
theorem get_class (K : PySem.W.Frag) : PySem.W.specialIn K (.builtin "object.__class__") "__get__" = some (some (.builtin "getset_descriptor.__get__")) ∧ PySem.W.takesIn K (.builtin "object.__class__") = some true := by
  constructor <;> kernel_rfl
def KdIs (K : PySem.W.Frag) : Kd → Value → Prop
  | .b s, t => t = .type s
  | .c nm, t => ∃ C, ClsAt K nm C ∧ t = .ref C
section
variable {K : PySem.W.Frag} {W : WX} {ρ : Pm} {G H : Hp} {μ : Mem} {σ : Slots} {δ : Env}
theorem ty_tup {a : Addr} {xs : List V} (h : SqT K H a xs) : TyX K H (.ref a) (.type "tuple") := by
  rcases h with (h | ⟨o, h⟩) | ⟨o, its, n, h1, h2, _⟩
  · exact .base (.tup h)
  · exact .fTuple h
  · exact .kTuple h1 h2
theorem ty_lst {a : Addr} {xs : List V} (h : SqL K H a xs) : TyX K H (.ref a) (.type "list") := by
  rcases h with (h | ⟨o, h⟩) | ⟨o, its, n, h1, h2, _⟩
  · exact .base (.lst h)
  · exact .base (.frz h)
  · exact .kList h1 h2
/-- a value's type, dicts whose keys are tuples among them -/
def TyZ (K : PySem.W.Frag) (H : Hp) (v : V) (t : Value) : Prop := TyX K H v t ∨ ∃ a o kvs, v = .ref a ∧ H a = some (.frz o (.dT kvs)) ∧ t = .type "dict"
theorem kind_ok {v : V} {x : DV} {kd : Kd} (R : Rel K ρ G H μ) (h : DvOk K ρ G v x) (cs : ∀ nm, kd = .c nm → ClsTy K nm) (e : kindOf μ x = some kd) : ∃ t, KdIs K kd t ∧ TyZ K H v t := by
  have ins : ∀ {a dx C nm fs}, H a = some (.ins C dx fs) → ClsAt K nm C → ClsTy K nm → TyZ K H (.ref a) (.ref C) := fun {a dx C nm fs} h1 h2 ⟨C', c1, c2, c3, c4⟩ => by
    cases h2.uniq c1
    exact .inl (.base (.ins h1 c2 c3 (get_class K).1 (get_class K).2 c4))
  cases x with
  | dat d =>
    cases d with
    | non => cases e; cases h; exact ⟨_, rfl, .inl (.base .non)⟩
    | bl b => cases e; cases h; exact ⟨_, rfl, .inl (.base (.bl b))⟩
    | int i => cases e; cases h; exact ⟨_, rfl, .inl (.base (.int i))⟩
    | str s => cases e; cases h; exact ⟨_, rfl, .inl (.base (.str s))⟩
    | tup ds => cases e; cases h with | tup h1 h2 => exact ⟨_, rfl, .inl (ty_tup (ex_t R.ex h1))⟩
    | lst ds => cases e; cases h with | lst h1 h2 => exact ⟨_, rfl, .inl (.base (.lst (R.ex _ _ h1)))⟩
    | fro ds => cases e; cases h with | fro h1 h2 => exact ⟨_, rfl, .inl (ty_lst (ex_l R.ex h1))⟩
    | dct ds =>
      cases e
      cases h with
      | dct h1 h2 h3 =>
        rcases h2 with ⟨kvs, rfl, _⟩ | ⟨kvs, rfl, _⟩
        · exact ⟨_, rfl, .inl (.fDict (R.ex _ _ h1))⟩
        · exact ⟨_, rfl, .inr ⟨_, _, _, rfl, R.ex _ _ h1, rfl⟩⟩
    | ins nm ds => cases e; cases h with | ins c h1 h2 h3 h4 => exact ⟨_, ⟨_, c, rfl⟩, ins (R.ex _ _ h1) c (cs nm rfl)⟩
    | ty n => cases e
    | ref a => cases e
  | loc n =>
    obtain ⟨a, rfl, q⟩ := h
    unfold kindOf at e
    match em : μ[n]? with
    | none => simp only [em] at e; cases e
    | some .own => simp only [em] at e; cases e
    | some .gone => simp only [em] at e; cases e
    | some (.lst xs) =>
      simp only [em] at e; cases e
      obtain ⟨_, b, vs, h1, h2, _⟩ := R.pl n _ em
      rw [q] at h1; cases h1
      exact ⟨_, rfl, .inl (.base (.lst h2))⟩
    | some (.dct kvs) =>
      simp only [em] at e; cases e
      obtain ⟨_, b, o, vs, h1, h2, h3, _⟩ := R.pl n _ em
      rw [q] at h1; cases h1
      rcases h3 with ⟨kvs, rfl, _⟩ | ⟨kvs, rfl, _⟩
      · exact ⟨_, rfl, .inl (.base (.dK h2))⟩
      · exact ⟨_, rfl, .inl (.base (.dT h2))⟩
    | some (.ins nm fs) =>
      simp only [em] at e; cases e
      obtain ⟨_, b, dx, C, vs, k, hk, h1, h2, c, _⟩ := R.pl n _ em
      rw [q] at h1; cases h1
      exact ⟨_, ⟨_, c, rfl⟩, ins h2 c (cs nm rfl)⟩
end
section
variable {X : Cx} {pins : List (Addr × Obj)} {σ : L2.St} {H : Hp} {s : Shared}
theorem kit_ofZ {x : V} {u t : Value} (I : Inv X pins σ H s) (rx : RelV x u) (ty : TyZ X.K H x t) : ∃ P : Heap → Prop, PySem.W.KitX X.K u t P ∧ P s.heap ∧ u ≠ .builtin "__main__.__loader__#opaque" := by
  rcases ty with ty | ⟨a, o, kvs, rfl, ea, rfl⟩
  · exact kit_of I rx ty
  · cases (show u = Value.ref a from rx)
    obtain ⟨_, _, _, xs, _, o, es, ep, h1, h2, _⟩ := (show ObjOk X.prog X.w H s.heap a (.frz o (.dT kvs)) from I.hok a _ ea)
    exact ⟨_, PySem.W.kitx_dict, ⟨o, h1, h2.1⟩, fun z => nomatch z⟩
def rIsiZ (K : PySem.W.Frag) : List V → Hp → VK → Prop := fun xs H Q => ∃ (x c : V) (t u : Value) (b : Bool), xs = [x, c] ∧ ClsV c u ∧ TyZ K H x t ∧ PySem.W.kitOne K t u = some b ∧ Q (.bl b) H
def rIsiTZ (K : PySem.W.Frag) : List V → Hp → VK → Prop := fun xs H Q => ∃ (x : V) (tp : Addr) (cs : List V) (t : Value) (us : List Value) (b : Bool), xs = [x, .ref tp] ∧ H tp = some (.tup cs) ∧ Paired ClsV cs us ∧ TyZ K H x t ∧ PySem.W.kitAny K t us = some b ∧ Q (.bl b) H
theorem call_isiZ : CallR X (.builtin "isinstance") (rIsiZ X.K) := by
  intro pins s σ H xs us Q I r h
  obtain ⟨x, c, t, u, b, rfl, k, ty, e, q⟩ := h
  obtain ⟨u1, u2, rfl, r1, r2⟩ := vals2 r
  have e2 := k.eq r2
  subst e2
  obtain ⟨P, Z, p, hx⟩ := kit_ofZ I r1 ty
  exact PySem.W.kia_one Z I.kIn p e hx fun tk => ⟨.bl b, H, I.tok tk, rfl, q⟩
theorem call_isiTZ : CallR X (.builtin "isinstance") (rIsiTZ X.K) := by
  intro pins s σ H xs us Q I r h
  obtain ⟨x, tp, cs, t, ws, b, rfl, hT, k, ty, e, q⟩ := h
  obtain ⟨u1, u2, rfl, r1, r2⟩ := vals2 r
  cases (show u2 = Value.ref tp from r2)
  obtain ⟨P, Z, p, hx⟩ := kit_ofZ I r1 ty
  obtain ⟨_, its, rv, o, h1, h2, n, h3⟩ := (show ObjOk X.prog X.w H s.heap tp (.tup cs) from I.hok tp _ hT)
  have e3 := ClsV.all k rv
  subst e3
  obtain ⟨oc, od, dt, sl⟩ := o
  simp only at h2 h3
  subst h2 h3
  exact PySem.W.kia_tup Z I.kIn p h1 e hx fun tk => ⟨.bl b, H, I.tok tk, rfl, q⟩
end
section
variable {K : PySem.W.Frag} {W : WX} {ρ : Pm} {G H : Hp} {μ : Mem} {σ : Slots} {δ : Env}
/-- isinstance: what it tells by the value's type -/
def dIsi (tab : Kd → Option Bool) (x : DV) (μ : Mem) : Res R := match kindOf μ x with
  | some kd => match tab kd with
    | some b => .ok (.dat (.bl b)) μ
    | none => .bad
  | none => .bad
/-- tab tells what ans says of the types -/
structure TabOk (K : PySem.W.Frag) (tab : Kd → Option Bool) (ans : Value → Bool → Prop) : Prop where
  ok : ∀ kd b t, tab kd = some b → KdIs K kd t → ans t b
  cl : ∀ nm b, tab (.c nm) = some b → ClsTy K nm
theorem isi_ok {tab : Kd → Option Bool} {ans : Value → Bool → Prop} {x : DV} {v : V} {Q : VK} {G0 H0 : Hp} (T : TabOk K tab ans) (R : Rel K ρ G H μ) (t0 : Tr ρ G0 H0 G H) (d : DvOk K ρ G v x) (hp : PostG K W ρ G0 H0 σ (fun G' H' => rpE K ρ G' H0 H') Q (dIsi tab x μ)) :
    ∃ t b, TyZ K H v t ∧ ans t b ∧ Q (.bl b) H := by
  unfold dIsi at hp
  cases ek : kindOf μ x with
  | none => rw [ek] at hp; exact hp.elim
  | some kd =>
    rw [ek] at hp
    simp only at hp
    cases et : tab kd with
    | none => rw [et] at hp; exact hp.elim
    | some b =>
      rw [et] at hp
      obtain ⟨t, k1, k2⟩ := kind_ok R d (fun nm e => T.cl nm b (e ▸ et)) ek
      exact ⟨t, b, k2, T.ok kd b t et k1, hp G H (.bl b) t0 R (Rp.bl b)⟩
theorem snd_isi {tab : Kd → Option Bool} {te : TE} {f : EM} {c : V} {u : Value} (k : ClsV c u) (T : TabOk K tab fun t b => PySem.W.kitOne K t u = some b) (h : SndE K W te f) : SndE K W (tCB (rIsiZ K) (tCons te (tCons (tC c) tNil))) (eUn (dIsi tab) f) := fun ρ G H σ δ μ Q R E hp => by
  refine SndG.seq (t := te) h.toV R E hp fun x μ1 G1 H1 v t1 R1 E1 d1 hp1 => ?_
  obtain ⟨t, b, h1, h2, h3⟩ := isi_ok T R1 t1 d1 hp1
  exact ⟨v, c, t, u, b, rfl, k, h1, h2, h3⟩
theorem TyZ.ext {H' : Hp} {v : V} {t : Value} (e : Ex H H') (h : TyZ K H v t) : TyZ K H' v t := by
  rcases h with h | ⟨a, o, kvs, rfl, h, rfl⟩
  · refine .inl ?_
    cases h with
    | base b =>
      refine .base ?_
      cases b with
      | non => exact .non
      | bl x => exact .bl x
      | int x => exact .int x
      | str x => exact .str x
      | flt x => exact .flt x
      | lst h => exact .lst (e _ _ h)
      | frz h => exact .frz (e _ _ h)
      | tup h => exact .tup (e _ _ h)
      | dK h => exact .dK (e _ _ h)
      | dT h => exact .dT (e _ _ h)
      | ins h a b c d f => exact .ins (e _ _ h) a b c d f
    | byt b => exact .byt b
    | set h => exact .set (e _ _ h)
    | kList h c => exact .kList h c
    | kTuple h c => exact .kTuple h c
    | kDict h c => exact .kDict h c
    | fTuple h => exact .fTuple (e _ _ h)
    | fDict h => exact .fDict (e _ _ h)
  · exact .inr ⟨a, o, kvs, rfl, e _ _ h, rfl⟩
theorem snd_isi2 {tab : Kd → Option Bool} {te : TE} {f : EM} {c1 c2 : V} {u1 u2 : Value} (k1 : ClsV c1 u1) (k2 : ClsV c2 u2) (T : TabOk K tab fun t b => PySem.W.kitAny K t [u1, u2] = some b) (h : SndE K W te f) :
    SndE K W (tCB (rIsiTZ K) (tCons te (tCons (tTup (tCons (tC c1) (tCons (tC c2) tNil))) tNil))) (eUn (dIsi tab) f) := fun ρ G H σ δ μ Q R E hp => by
  refine SndG.seq (t := te) h.toV R E hp fun x μ1 G1 H1 v t1 R1 E1 d1 hp1 => ?_
  refine ⟨by show 2 ≤ sizeLine; decide, fun p hn => ?_⟩
  obtain ⟨R2, t2⟩ := R1.lay (o := .tup [c1, c2]) hn
  obtain ⟨t, b, h1, h2, h3⟩ := isi_ok T R2 (t1.trans t2) d1 hp1
  exact ⟨v, p, [c1, c2], t, [u1, u2], b, rfl, upd_same, .cons k1 (.cons k2 .nil), h1, h2, h3⟩
end
section
variable {X : Cx} {W : WX} {e c1 c2 : Expr} {te : TE} {f : EM} {p pos p1 p2 : Pos}
theorem pm_isi (K : PySem.W.Frag) {tab : Kd → Option Bool} {c : V} {u : Value} (hg : Gl X "isinstance") (hm : X.mg "isinstance" = none) (k : ClsV c u) (T : TabOk K tab fun t b => PySem.W.kitOne K t u = some b) (h : PM X W e te f) (hc : PE X c1 (tC c)) (hK : X.K = K := by rfl)
    (hs : starEach (e :: [c1]) X.env = (false, eval e X.env) :: starEach [c1] X.env := by rfl) (hs1 : starEach [c1] X.env = (false, eval c1 X.env) :: starEach [] X.env := by rfl) (hpl : (backTo pos (starEach [c1] X.env)).any (·.1) = false := by rfl) :
    PM X W (.Call (.Name "isinstance" p) [e, c1] [] pos) (tCB (rIsiZ K) (tCons te (tCons (tC c) tNil))) (eUn (dIsi tab) f) := by
  subst hK
  exact ⟨pe_callB call_isiZ hg hm (by decide +kernel) (pa_cons h.pe (pa_cons hc pa_nil hs1) hs) (he := hs) (hpl := hpl), snd_isi k T h.sd⟩
theorem pm_isi2 (K : PySem.W.Frag) {tab : Kd → Option Bool} {a1 a2 : V} {u1 u2 : Value} {x1} (hg : Gl X "isinstance") (hm : X.mg "isinstance" = none) (k1 : ClsV a1 u1) (k2 : ClsV a2 u2) (T : TabOk K tab fun t b => PySem.W.kitAny K t [u1, u2] = some b) (h : PM X W e te f) (hc1 : PE X c1 (tC a1)) (hc2 : PE X c2 (tC a2)) (hK : X.K = K := by rfl)
    (hs : starEach (e :: [.Tuple [c1, c2] x1 p1]) X.env = (false, eval e X.env) :: starEach [.Tuple [c1, c2] x1 p1] X.env := by rfl) (hs1 : starEach [.Tuple [c1, c2] x1 p1] X.env = (false, eval (.Tuple [c1, c2] x1 p1) X.env) :: starEach [] X.env := by rfl)
    (hs2 : starEach [c1, c2] X.env = (false, eval c1 X.env) :: starEach [c2] X.env := by rfl) (hs3 : starEach [c2] X.env = (false, eval c2 X.env) :: starEach [] X.env := by rfl) (hpl : (backTo pos (starEach [.Tuple [c1, c2] x1 p1] X.env)).any (·.1) = false := by rfl) :
    PM X W (.Call (.Name "isinstance" p) [e, .Tuple [c1, c2] x1 p1] [] pos) (tCB (rIsiTZ K) (tCons te (tCons (tTup (tCons (tC a1) (tCons (tC a2) tNil))) tNil))) (eUn (dIsi tab) f) := by
  subst hK
  exact ⟨pe_callB call_isiTZ hg hm (by decide +kernel) (pa_cons h.pe (pa_cons (pe_tup (pa_cons hc1 (pa_cons hc2 pa_nil hs3) hs2)) pa_nil hs1) hs) (he := hs) (hpl := hpl), snd_isi2 k1 k2 T h.sd⟩
/-- a built-in type by its name -/
theorem pe_tyN {T : String} {x : Str} (hg : Gl X x) (hm : X.mg x = none) (hv : bootBuiltins x = some (.type T)) (hn : x ≠ "__name__" := by decide) (hdb : (x == ("__debug__" : Str)) = false := by decide) : PE X (.Name x pos) (tC (.ty T)) := pe_bltn (v := .ty T) hg hm hv rfl hn hdb
/-! the tables -/
def tabT (T : String) (cls : List Str) : Kd → Option Bool
  | .b t => kitB t T
  | .c nm => if nm ∈ cls then some false else none
def tabT2 (T U : String) (cls : List Str) : Kd → Option Bool
  | .b t => match kitB t T with
    | some true => some true
    | some false => kitB t U
    | none => none
  | .c nm => if nm ∈ cls then some false else none
def tabC (nm0 : Str) (others : List Str) : Kd → Option Bool
  | .b t => if t ∈ ["NoneType", "bool", "int", "str", "tuple", "list", "dict"] then some false else none
  | .c nm => if nm = nm0 then some true else if nm ∈ others then some false else none
/-- instances of the class nm are no instances of the built-in type T -/
def NoSub (K : PySem.W.Frag) (nm : Str) (T : String) : Prop := ∃ C, ClsAt K nm C ∧ PySem.W.kitOne K (.ref C) (.type T) = some false
theorem tabT_ok {K : PySem.W.Frag} {T : String} {cls : List Str} (h : ∀ nm ∈ cls, ClsTy K nm ∧ NoSub K nm T) : TabOk K (tabT T cls) fun t b => PySem.W.kitOne K t (.type T) = some b where
  ok := fun kd b t e k => by
    cases kd with
    | b s => cases k; exact kit_ty e
    | c nm =>
      obtain ⟨C, c1, rfl⟩ := k
      simp only [tabT] at e
      by_cases hn : nm ∈ cls
      · rw [if_pos hn] at e; cases e
        obtain ⟨C', c2, h2⟩ := (h nm hn).2
        cases c1.uniq c2; exact h2
      · rw [if_neg hn] at e; cases e
  cl := fun nm b e => by
    simp only [tabT] at e
    by_cases hn : nm ∈ cls
    · exact (h nm hn).1
    · rw [if_neg hn] at e; cases e
theorem tabT2_ok {K : PySem.W.Frag} {T U : String} {cls : List Str} (h : ∀ nm ∈ cls, ClsTy K nm ∧ NoSub K nm T ∧ NoSub K nm U) : TabOk K (tabT2 T U cls) fun t b => PySem.W.kitAny K t [.type T, .type U] = some b where
  ok := fun kd b t e k => by
    cases kd with
    | b s =>
      cases k
      simp only [tabT2] at e
      cases h1 : kitB s T with
      | none => rw [h1] at e; cases e
      | some r =>
        rw [h1] at e
        cases r with
        | true => cases e; exact kitAny_cons (b := true) (kit_ty h1) (fun z => by cases z) fun _ => rfl
        | false => exact kitAny_cons (b := false) (kit_ty h1) (fun _ => by
            cases b with
            | true => exact kitAny_cons (b := true) (kit_ty e) (fun z => by cases z) fun _ => rfl
            | false => exact kitAny_cons (b := false) (kit_ty e) (fun _ => kitAny_nil) fun z => by cases z) fun z => by cases z
    | c nm =>
      obtain ⟨C, c1, rfl⟩ := k
      simp only [tabT2] at e
      by_cases hn : nm ∈ cls
      · rw [if_pos hn] at e; cases e
        obtain ⟨_, ⟨C', c2, h2⟩, ⟨C'', c3, h3⟩⟩ := h nm hn
        cases c1.uniq c2; cases c1.uniq c3
        exact kitAny_cons (b := false) h2 (fun _ => kitAny_cons (b := false) h3 (fun _ => kitAny_nil) fun z => by cases z) fun z => by cases z
      · rw [if_neg hn] at e; cases e
  cl := fun nm b e => by
    simp only [tabT2] at e
    by_cases hn : nm ∈ cls
    · exact (h nm hn).1
    · rw [if_neg hn] at e; cases e
theorem tabC_ok {K : PySem.W.Frag} {nm0 : Str} {C0 : Addr} {others : List Str} (c0 : ClsAt K nm0 C0) (t0 : ClsTy K nm0) (hb : ∀ t ∈ ["NoneType", "bool", "int", "str", "tuple", "list", "dict"], PySem.W.kitOne K (.type t) (.ref C0) = some false)
    (h : ∀ nm ∈ others, ClsTy K nm ∧ ∃ C, ClsAt K nm C ∧ PySem.W.kitOne K (.ref C) (.ref C0) = some false) : TabOk K (tabC nm0 others) fun t b => PySem.W.kitOne K t (.ref C0) = some b where
  ok := fun kd b t e k => by
    cases kd with
    | b s =>
      cases k
      simp only [tabC] at e
      split at e
      · cases e; rename_i hs; exact hb s hs
      · cases e
    | c nm =>
      obtain ⟨C, c1, rfl⟩ := k
      simp only [tabC] at e
      by_cases hn : nm = nm0
      · rw [if_pos hn] at e; cases e; subst hn
        cases c1.uniq c0
        unfold PySem.W.kitOne; rw [if_pos (by simp)]
      · rw [if_neg hn] at e
        by_cases ho : nm ∈ others
        · rw [if_pos ho] at e; cases e
          obtain ⟨_, C', c2, h2⟩ := h nm ho
          cases c1.uniq c2; exact h2
        · rw [if_neg ho] at e; cases e
  cl := fun nm b e => by
    simp only [tabC] at e
    by_cases hn : nm = nm0
    · subst hn; exact t0
    · rw [if_neg hn] at e
      by_cases ho : nm ∈ others
      · exact (h nm ho).1
      · rw [if_neg ho] at e; cases e
end
end DL
/-! len, ==, in by the special methods of own classes (that raise nothing). -/
namespace DL
open PySem PySem.Spec PyProof.Rows L2
abbrev noE : XK := fun _ _ _ => False
section
variable {X : Cx} {cx : CXT} {k : Nat} {f C : Addr} {fd : FuncData} {ps : List Str} {sp : Sp} {E : XK} {pins : List (Addr × Obj)} {σ : L2.St} {H : Hp} {s : Shared} {Q : VK} {us : List Value} {vs : List V}
theorem run_fnA {A : Around} (F : FnG X.prog X.w X.K X.mg X.base cx k f fd ps sp) (hr : Room k A) (hgd : A.guards = some []) (fr : A.frames = X.A.frames)
    (hb : Binds X.K fd ps []) (hx : PassesAt cx X σ E) (I : Inv X pins σ H s) (r : Vals vs us)
    (h : sp vs H Q E) : wpAny (model X.prog X.w) A (call (.ref f) us) (EP X pins σ Q) X.xe s := by
  have hl : us.length = ps.length := by rw [← r.length]; exact F.len _ _ _ _ h
  have e0 : Env0 X.prog X.w X.K X.mg X.base A X.stack s H := by
    have e := I.env0
    exact ⟨by rw [fr]; exact e.frames, e.mod, e.bs, e.bsz, e.funs, e.frf, e.hok, e.bare⟩
  have bd := hb s us I.kIn (by rw [List.append_nil]; exact hl)
  rw [List.append_nil] at bd
  refine wpAny_call (codeAny_mono (F.run A X.stack s H ⟨us, []⟩ us vs Q E hr hgd e0 bd r h) fun z s' hq => ?_)
  match z, hq with
  | .error e, hq => exact hx pins H s e s' I hq
  | .ok (.ret u), hq => exact I.after hq
  | .ok .next, hq => exact hq.elim
  | .ok .brk, hq => exact hq.elim
  | .ok .cont, hq => exact hq.elim
/-- len(x) by an own __len__ -/
def rLenO (K : PySem.W.Frag) (nm : Str) (sp : Sp) : List V → Hp → VK → Prop := fun xs H Q => ∃ C a dx fs, ClsAt K nm C ∧ xs = [.ref a] ∧ H a = some (.ins C dx fs) ∧ sp [.ref a] H (fun v H' => ∃ n : Int, v = .int n ∧ (0 ≤ n ∧ n < 2 ^ 63) ∧ Q v H') noE
theorem call_lenO {nm : Str} (F : FnG X.prog X.w X.K X.mg X.base CX0 k f fd ps sp) (hr : Room (k + 1) X.A) (hgd : X.A.guards = some []) (c : ClsAt X.K nm C) (hm : Meth X.K C "__len__" f) (hb : Binds X.K fd ps []) : CallR X (.builtin "len") (rLenO X.K nm sp) := by
  intro pins s σ H xs us Q I r h
  obtain ⟨C', a, dx, fs, c', rfl, ha, q⟩ := h
  cases c.uniq c'
  obtain ⟨u, rfl, rx⟩ := vals1 r
  cases rx
  obtain ⟨mA, J, _⟩ := ins_get I.hok ha
  obtain ⟨od, J, _⟩ := J.look
  obtain ⟨m, hF⟩ := I.fr
  refine PySem.W.len_K hF I.ok.mod.kin J hm.at_ hm.fn ?_
  refine wpAny_mono (run_fnA (A := X.A.in1) (us := [.ref a]) (vs := [.ref a]) F hr.in1 hgd rfl hb (pass_0 (E := fun _ => noE) σ) I (.cons rfl .nil) q) (fun u s' z => ?_) fun _ _ z => z
  obtain ⟨v, H', I', rv, n, rfl, hn, q'⟩ := z
  obtain ⟨t, rfl⟩ := (show ∃ t, u = Value.int n t from rv)
  exact ⟨hn, .int n, H', I'.tok _, ⟨_, rfl⟩, q'⟩
/-- x == y by x's own __eq__ -/
def rEqO (K : PySem.W.Frag) (nm : Str) (sp : Sp) : R2 := fun x y H Q => ∃ C a dx fs t, ClsAt K nm C ∧ x = .ref a ∧ H a = some (.ins C dx fs) ∧ TyZ K H y t ∧ PySem.W.notFirst K C t = true ∧ sp [x, y] H (fun v H' => ∃ b : Bool, v = .bl b ∧ Q v H') noE
theorem op_eqO {nm : Str} (F : FnG X.prog X.w X.K X.mg X.base CX0 k f fd ps sp) (hr : Room k X.A) (hgd : X.A.guards = some []) (c : ClsAt X.K nm C) (hm : Meth X.K C "__eq__" f) (hb : Binds X.K fd ps []) : OpR X (compareOp .Eq) (rEqO X.K nm sp) := by
  intro pins s σ H x y u v Q I rx ry h
  obtain ⟨C', a, dx, fs, t, c', rfl, ha, ty, nf, q⟩ := h
  cases c.uniq c'
  cases rx
  obtain ⟨mA, J, _⟩ := ins_get I.hok ha
  obtain ⟨od, J, _⟩ := J.look
  obtain ⟨m, hF⟩ := I.fr
  obtain ⟨P, Z, p, _⟩ := kit_ofZ I ry ty
  show wpAny (model X.prog X.w) X.A (richCompare .Eq (.ref a) v) (EP X pins σ Q) X.xe s
  refine PySem.W.cmp_K (op := .Eq) hr.units0 hF I.ok.mod.kin J (Z.ty _ _ I.kIn p) nf hm.at_ hm.fn ?_
  refine wpAny_mono (run_fnA (A := X.A) (us := [.ref a, v]) (vs := [.ref a, y]) F hr hgd rfl hb (pass_0 (E := fun _ => noE) σ) I (.cons rfl (.cons ry .nil)) q) (fun u s' z => ?_) fun _ _ z => z
  obtain ⟨w, H', I', rv, b, rfl, q'⟩ := z
  cases (show u = Value.bool b from rv)
  exact ⟨.bl b, H', I', rfl, q'⟩
/-- v in x by x's own __contains__ -/
def rInO (K : PySem.W.Frag) (nm : Str) (neg : Bool) (sp : Sp) : R2 := fun y x H Q => ∃ C a dx fs, ClsAt K nm C ∧ x = .ref a ∧ H a = some (.ins C dx fs) ∧ sp [x, y] H (fun v H' => ∃ b : Bool, v = .bl b ∧ Q (.bl (b != neg)) H') noE
theorem op_inO {nm : Str} {neg : Bool} (F : FnG X.prog X.w X.K X.mg X.base CX0 k f fd ps sp) (hr : Room k X.A) (hgd : X.A.guards = some []) (c : ClsAt X.K nm C) (hm : Meth X.K C "__contains__" f) (hb : Binds X.K fd ps []) : OpR X (compareOp (if neg = true then .NotIn else .In)) (rInO X.K nm neg sp) := by
  intro pins s σ H y x v u Q I ry rx h
  obtain ⟨C', a, dx, fs, c', rfl, ha, q⟩ := h
  cases c.uniq c'
  cases rx
  obtain ⟨mA, J, _⟩ := ins_get I.hok ha
  obtain ⟨od, J, _⟩ := J.look
  obtain ⟨m, hF⟩ := I.fr
  have run := run_fnA (A := X.A) (us := [.ref a, v]) (vs := [.ref a, y]) F hr hgd rfl hb (pass_0 (E := fun _ => noE) σ) I (.cons rfl (.cons ry .nil)) q
  cases neg with
  | false =>
    refine PySem.W.in_K hF I.ok.mod.kin J hm.at_ hm.fn (wpAny_mono run (fun u s' z => ?_) fun _ _ z => z)
    obtain ⟨w, H', I', rv, b, rfl, q'⟩ := z
    cases (show u = Value.bool b from rv)
    exact wpAny_pure ⟨.bl b, H', I', rfl, by simpa using q'⟩
  | true =>
    refine PySem.W.notIn_K hF I.ok.mod.kin J hm.at_ hm.fn (wpAny_mono run (fun u s' z => ?_) fun _ _ z => z)
    obtain ⟨w, H', I', rv, b, rfl, q'⟩ := z
    cases (show u = Value.bool b from rv)
    exact wpAny_pure ⟨.bl (!b), H', I', rfl, by cases b <;> exact q'⟩
end
/-! ### over the plain functions -/
section
variable {K : PySem.W.Frag} {W : WX} {F : List DV → Mem → Res R} {n : Nat} {nm : Str} {C : Addr}
def eLenO (nm : Str) (F : List DV → Mem → Res R) (f : EM) : EM := fun δ μ => (frzV f δ μ).bind fun x μ1 => if isI nm "" x μ1 = true then match F [x] μ1 with
    | .ok (.dat (.int n)) μ2 => if 0 ≤ n ∧ n < 2 ^ 63 then .ok (.dat (.int n)) μ2 else .bad
    | _ => .bad
  else .bad
theorem snd_lenO {te : TE} {f : EM} (c : ClsAt K nm C) (h : SndE K W te f) (hn : ∀ xs μ, F xs μ ≠ .bad → xs.length = n) : SndE K W (tCB (rLenO K nm (spF K n F)) (tCons te tNil)) (eLenO nm F f) := fun ρ G H σ δ μ Q R E hp => by
  refine SndG.seq (t := te) h.toV R E hp fun x μ1 G1 H1 v t1 R1 E1 d1 hp1 => ?_
  by_cases hc : isI nm "" x μ1 = true
  case neg => rw [if_neg hc] at hp1; exact hp1.elim
  rw [if_pos hc] at hp1
  obtain ⟨a, dx, vs, rfl, ha', hl⟩ := isI_ok R1 d1 c hc
  refine ⟨C, a, dx, vs, c, rfl, ha', ?_⟩
  have hb : F [x] μ1 ≠ .bad := fun e => by rw [e] at hp1; exact hp1
  refine ⟨hn _ _ hb, ρ, G1, μ1, [x], R1, .cons d1 .nil, ?_⟩
  cases e : F [x] μ1 with
  | bad => exact hb e
  | exc y μ' => rw [e] at hp1; exact hp1.elim
  | ok r μ' =>
    rw [e] at hp1
    intro G' H' v t' R' q
    cases r with
    | dat d =>
      cases d with
      | int i =>
        simp only at hp1
        by_cases hi : 0 ≤ i ∧ i < 2 ^ 63
        · rw [if_pos hi] at hp1; cases q; exact ⟨i, rfl, hi, hp1 G' H' _ (t1.trans t') R' (Rp.int i)⟩
        · rw [if_neg hi] at hp1; exact hp1.elim
      | _ => exact hp1.elim
    | _ => exact hp1.elim
def boolR : Res R → Res R
  | .ok (.dat (.bl b)) μ => .ok (.dat (.bl b)) μ
  | _ => .bad
def eEqO (nm : Str) (others : List Str) (F : List DV → Mem → Res R) (fa fb : EM) : EM := fun δ μ => (frzV fa δ μ).bind fun x μ1 => (frzV fb δ μ1).bind fun y μ2 => if isI nm "" x μ2 = true ∧ ((kindOf μ2 y).bind (tabC nm others)).isSome = true then boolR (F [x, y] μ2) else .bad
theorem notFirst_of {t : Value} {b : Bool} (h : PySem.W.kitOne K t (.ref C) = some b) (hb : b = true → t = .ref C) : PySem.W.notFirst K C t = true := by
  unfold PySem.W.notFirst
  by_cases e : t = .ref C
  · subst e; simp
  · unfold PySem.W.kitOne at h
    rw [if_neg (by simpa using e)] at h
    unfold PySem.W.kitCls at h
    simp only at h
    split at h
    · cases b with
      | true => exact absurd (hb rfl) e
      | false => simp [h]
    · cases h
theorem snd_eqO {ta tb : TE} {fa fb : EM} {others : List Str} (c : ClsAt K nm C) (T : TabOk K (tabC nm others) fun t b => PySem.W.kitOne K t (.ref C) = some b) (ha : SndE K W ta fa) (hb : SndE K W tb fb) (hn : ∀ xs μ, F xs μ ≠ .bad → xs.length = n) : SndE K W (tOp (rEqO K nm (spF K n F)) ta tb) (eEqO nm others F fa fb) := fun ρ G H σ δ μ Q R E hp => by
  refine SndG.seq (t := ta) ha.toV R E hp fun x μ1 G1 H1 v t1 R1 E1 d1 hp1 => ?_
  refine SndG.seq (t := tb) hb.toV R1 E1 (hp1.shiftE t1) fun y μ2 G2 H2 w t2 R2 E2 d2 hp2 => ?_
  have hp2 := hp2.shiftE t2
  have d1 := d1.mono t2.exG fun _ _ q => q
  by_cases hc : isI nm "" x μ2 = true ∧ ((kindOf μ2 y).bind (tabC nm others)).isSome = true
  case neg => rw [if_neg hc] at hp2; exact hp2.elim
  rw [if_pos hc] at hp2
  obtain ⟨hc1, hc2⟩ := hc
  obtain ⟨a, dx, vs, rfl, ha', hl⟩ := isI_ok R2 d1 c hc1
  cases ek : kindOf μ2 y with
  | none => rw [ek] at hc2; cases hc2
  | some kd =>
    rw [ek] at hc2
    simp only [Option.bind_some] at hc2
    cases et : tabC nm others kd with
    | none => rw [et] at hc2; cases hc2
    | some b =>
      obtain ⟨t, k1, k2⟩ := kind_ok R2 d2 (fun nm' e => T.cl nm' b (e ▸ et)) ek
      have hk := T.ok kd b t et k1
      refine ⟨C, a, dx, vs, t, c, rfl, ha', k2, notFirst_of hk (fun hb => ?_), ?_⟩
      · subst hb
        cases kd with
        | b s => simp only [tabC] at et; split at et <;> cases et
        | c nm' =>
          simp only [tabC] at et
          by_cases e : nm' = nm
          · subst e; obtain ⟨C', c', rfl⟩ := k1; rw [c.uniq c']
          · rw [if_neg e] at et; split at et <;> cases et
      · have hbd : F [x, y] μ2 ≠ .bad := fun e => by rw [e] at hp2; exact hp2
        refine ⟨hn _ _ hbd, ρ, G2, μ2, [x, y], R2, .cons d1 (.cons d2 .nil), ?_⟩
        cases e : F [x, y] μ2 with
        | bad => exact hbd e
        | exc y μ' => rw [e] at hp2; exact hp2.elim
        | ok r μ' =>
          rw [e] at hp2
          intro G' H' v t' R' q
          cases r with
          | dat d =>
            cases d with
            | bl i => cases q; exact ⟨i, rfl, hp2 G' H' _ t' R' (Rp.bl i)⟩
            | _ => exact hp2.elim
          | _ => exact hp2.elim
def negR (neg : Bool) : Res R → Res R
  | .ok (.dat (.bl b)) μ => .ok (.dat (.bl (b != neg))) μ
  | _ => .bad
def eInO (nm : Str) (neg : Bool) (F : List DV → Mem → Res R) (fa fb : EM) : EM := fun δ μ => (frzV fa δ μ).bind fun y μ1 => (frzV fb δ μ1).bind fun x μ2 => if isI nm "" x μ2 = true then negR neg (F [x, y] μ2) else .bad
theorem snd_inO {ta tb : TE} {fa fb : EM} {neg : Bool} (c : ClsAt K nm C) (ha : SndE K W ta fa) (hb : SndE K W tb fb) (hn : ∀ xs μ, F xs μ ≠ .bad → xs.length = n) : SndE K W (tOp (rInO K nm neg (spF K n F)) ta tb) (eInO nm neg F fa fb) := fun ρ G H σ δ μ Q R E hp => by
  refine SndG.seq (t := ta) ha.toV R E hp fun y μ1 G1 H1 w t1 R1 E1 d1 hp1 => ?_
  refine SndG.seq (t := tb) hb.toV R1 E1 (hp1.shiftE t1) fun x μ2 G2 H2 v t2 R2 E2 d2 hp2 => ?_
  have hp2 := hp2.shiftE t2
  have d1 := d1.mono t2.exG fun _ _ q => q
  by_cases hc : isI nm "" x μ2 = true
  case neg => rw [if_neg hc] at hp2; exact hp2.elim
  rw [if_pos hc] at hp2
  obtain ⟨a, dx, vs, rfl, ha', hl⟩ := isI_ok R2 d2 c hc
  refine ⟨C, a, dx, vs, c, rfl, ha', ?_⟩
  have hbd : F [x, y] μ2 ≠ .bad := fun e => by rw [e] at hp2; exact hp2
  refine ⟨hn _ _ hbd, ρ, G2, μ2, [x, y], R2, .cons d2 (.cons d1 .nil), ?_⟩
  cases e : F [x, y] μ2 with
  | bad => exact hbd e
  | exc y μ' => rw [e] at hp2; exact hp2.elim
  | ok r μ' =>
    rw [e] at hp2
    intro G' H' v t' R' q
    cases r with
    | dat d =>
      cases d with
      | bl i => cases q; exact ⟨i, rfl, hp2 G' H' _ t' R' (Rp.bl _)⟩
      | _ => exact hp2.elim
    | _ => exact hp2.elim
end
section
variable {X : Cx} {W : WX} {P : Program} {w : World} {K : PySem.W.Frag} {mg : Str → Option Value} {base : Heap} {k n : Nat} {nm : Str} {F : List DV → Mem → Res R} {a b e : Expr} {ta tb te : TE} {fa fb f : EM} {p pos : Pos}
theorem pm_lenO (Fn : MthD P w K mg base CX0 k nm "__len__" n F) (hr : Room (k + 1) X.A) (hgd : X.A.guards = some []) (hg : Gl X "len") (hm : X.mg "len" = none) (h : PM X W e te f) (h1 : X.prog = P := by rfl) (h2 : X.w = w := by rfl) (h3 : X.K = K := by rfl) (h4 : X.mg = mg := by rfl) (h5 : X.base = base := by rfl)
    (hs : starEach [e] X.env = (false, eval e X.env) :: starEach [] X.env := by rfl) (hpl : (backTo pos (starEach [] X.env)).any (·.1) = false := by rfl) :
    PM X W (.Call (.Name "len" p) [e] [] pos) (tCB (rLenO K nm (spF K n F)) (tCons te tNil)) (eLenO nm F f) := by
  subst h1 h2 h3 h4 h5
  obtain ⟨C, f, fd, ps, hn, c, G, cl, hme, hb⟩ := Fn.ex
  exact ⟨pe_callB (call_lenO G hr hgd c hme hb) hg hm PySem.boot_len (pa_cons h.pe pa_nil hs) (he := hs) (hpl := hpl), snd_lenO c h.sd Fn.ar⟩
theorem pm_eqO {others : List Str} (Fn : MthD P w K mg base CX0 k nm "__eq__" n F) (hr : Room k X.A) (hgd : X.A.guards = some []) (T : ∀ C, ClsAt K nm C → TabOk K (tabC nm others) fun t b => PySem.W.kitOne K t (.ref C) = some b) (ha : PM X W a ta fa) (hb : PM X W b tb fb) (h1 : X.prog = P := by rfl) (h2 : X.w = w := by rfl) (h3 : X.K = K := by rfl) (h4 : X.mg = mg := by rfl) (h5 : X.base = base := by rfl) :
    PM X W (.Compare a [.Eq] [b] pos) (tOp (rEqO K nm (spF K n F)) ta tb) (eEqO nm others F fa fb) := by
  subst h1 h2 h3 h4 h5
  obtain ⟨C, f, fd, ps, hn, c, G, cl, hme, hbd⟩ := Fn.ex
  exact ⟨pe_cmpR (op_eqO G hr hgd c hme hbd) ha.pe hb.pe (nomark _), snd_eqO c (T C c) ha.sd hb.sd Fn.ar⟩
theorem pm_inO (Fn : MthD P w K mg base CX0 k nm "__contains__" n F) (hr : Room k X.A) (hgd : X.A.guards = some []) (ha : PM X W a ta fa) (hb : PM X W b tb fb) (h1 : X.prog = P := by rfl) (h2 : X.w = w := by rfl) (h3 : X.K = K := by rfl) (h4 : X.mg = mg := by rfl) (h5 : X.base = base := by rfl) (hmk : behindInMarks .In b = false := by rfl) :
    PM X W (.Compare a [.In] [b] pos) (tOp (rInO K nm false (spF K n F)) ta tb) (eInO nm false F fa fb) := by
  subst h1 h2 h3 h4 h5
  obtain ⟨C, f, fd, ps, hn, c, G, cl, hme, hbd⟩ := Fn.ex
  exact ⟨pe_cmpR (op_inO (neg := false) G hr hgd c hme hbd) ha.pe hb.pe hmk, snd_inO c ha.sd hb.sd Fn.ar⟩
theorem pm_notInO (Fn : MthD P w K mg base CX0 k nm "__contains__" n F) (hr : Room k X.A) (hgd : X.A.guards = some []) (ha : PM X W a ta fa) (hb : PM X W b tb fb) (h1 : X.prog = P := by rfl) (h2 : X.w = w := by rfl) (h3 : X.K = K := by rfl) (h4 : X.mg = mg := by rfl) (h5 : X.base = base := by rfl) (hmk : behindInMarks .NotIn b = false := by rfl) :
    PM X W (.Compare a [.NotIn] [b] pos) (tOp (rInO K nm true (spF K n F)) ta tb) (eInO nm true F fa fb) := by
  subst h1 h2 h3 h4 h5
  obtain ⟨C, f, fd, ps, hn, c, G, cl, hme, hbd⟩ := Fn.ex
  exact ⟨pe_cmpR (op_inO (neg := true) G hr hgd c hme hbd) ha.pe hb.pe hmk, snd_inO c ha.sd hb.sd Fn.ar⟩
end
end DL
/-! More operations; a statement that is not reached; methods by their bodies. -/
namespace DL
open PySem PySem.Spec PyProof.Rows L2
section
variable {K : PySem.W.Frag} {W : WX} {ρ : Pm} {G H : Hp} {μ : Mem} {σ : Slots} {δ : Env}
theorem paired_app {α β : Type} {P : α → β → Prop} : ∀ {a c : List α} {b d : List β}, Paired P a b → Paired P c d → Paired P (a ++ c) (b ++ d)
  | _, _, _, _, .nil, h => h
  | _, _, _, _, .cons r t, h => .cons r (paired_app t h)
theorem paired_rep {α β : Type} {P : α → β → Prop} {a : List α} {b : List β} (h : Paired P a b) : ∀ k : Nat, Paired P (List.replicate k a).flatten (List.replicate k b).flatten
  | 0 => .nil
  | k + 1 => by rw [List.replicate_succ, List.replicate_succ, List.flatten_cons, List.flatten_cons]; exact paired_app h (paired_rep h k)
def rMulX : R2 := fun x y H Q => rI CMul (fun i j => V.int (i * j)) x y H Q ∨ rRep x y H Q
def dMulX (x y : DV) (μ : Mem) : Res R := match asI y with
  | none => .bad
  | some j => match asI x with
    | some i => if cMul i j = true then .ok (.dat (.int (i * j))) μ else .bad
    | none => match asM μ x with
      | some xs => if -(2 ^ 63) ≤ j ∧ j < 2 ^ 63 ∧ xs.length * j.toNat ≤ sizeLine then .ok (.nl (List.replicate j.toNat xs).flatten) μ else .bad
      | none => .bad
theorem od_mulX : OpD K rMulX dMulX := fun W ρ G H σ μ v w x y Q R hx hy hp => by
  unfold dMulX at hp
  cases ej : asI y with
  | none => rw [ej] at hp; exact hp.elim
  | some j =>
    rw [ej] at hp
    simp only at hp
    have ew := asI_ok hy ej
    subst ew
    cases ei : asI x with
    | some i =>
      rw [ei] at hp
      simp only at hp
      have ev := asI_ok hx ei
      subst ev
      by_cases c : cMul i j = true
      · rw [if_pos c] at hp
        refine .inl ⟨i, j, rfl, rfl, ?_, hp.okD R (.int _)⟩
        unfold cMul at c
        rw [Bool.or_eq_true, decide_eq_true_eq, decide_eq_true_eq] at c
        exact c
      · rw [if_neg c] at hp; exact hp.elim
    | none =>
      rw [ei] at hp
      simp only at hp
      cases em : asM μ x with
      | none => rw [em] at hp; exact hp.elim
      | some xs =>
        rw [em] at hp
        simp only at hp
        by_cases c : -(2 ^ 63) ≤ j ∧ j < 2 ^ 63 ∧ xs.length * j.toNat ≤ sizeLine
        · rw [if_pos c] at hp
          obtain ⟨a, vs, rfl, h2, h3⟩ := asM_ok R hx em
          refine .inr ⟨a, j, vs, rfl, rfl, h2, c.1, c.2.1, by rw [paired_len h3]; exact c.2.2, fun p hn => ?_⟩
          exact new_list R (Tr.refl _ _ _) hn (paired_rep h3 _) hp
        · rw [if_neg c] at hp; exact hp.elim
def d2 (g : DV → DV → Mem → Res R) (xs : List DV) (μ : Mem) : Res R := match xs with
  | [x, y] => g x y μ
  | _ => .bad
def dMM (f : Int → Int → Int) (x y : DV) (μ : Mem) : Res R := match asI x with
  | none => .bad
  | some i => match asI y with
    | none => .bad
    | some j => .ok (.dat (.int (f i j))) μ
theorem cd_mm (f : Int → Int → Int) : CallD K (fun xs H Q => ∃ i j, xs = [.int i, .int j] ∧ Q (.int (f i j)) H) (d2 (dMM f)) := fun W ρ G H σ μ vs xs Q R hx hp => by
  unfold d2 at hp
  split at hp
  · rename_i x y
    cases hx with
    | cons h1 h2 =>
      cases h2 with
      | cons h2 h3 =>
        cases h3
        unfold dMM at hp
        cases e1 : asI x with
        | none => rw [e1] at hp; exact hp.elim
        | some i =>
          rw [e1] at hp
          simp only at hp
          cases e2 : asI y with
          | none => rw [e2] at hp; exact hp.elim
          | some j =>
            rw [e2] at hp
            have a1 := asI_ok h1 e1
            have a2 := asI_ok h2 e2
            subst a1 a2
            exact ⟨i, j, rfl, hp.okD R (.int _)⟩
  · exact hp.elim
def gBad : SM := fun _ _ _ => .bad
theorem sm_bad {X : Cx} {W : WX} {st : Stmt} : PSM X W st (fun _ _ _ => False) gBad := ⟨⟨fun _ _ _ _ _ _ h => h.elim⟩, fun _ _ _ _ _ _ _ _ _ _ hp => hp.elim⟩
end
section
variable {X : Cx} {W : WX} {a b : Expr} {ta tb : TE} {fa fb : EM} {pos : Pos}
theorem pm_mulX (ha : PM X W a ta fa) (hb : PM X W b tb fb) : PM X W (.BinOp a .Mult b pos) (tOp rMulX ta tb) (eOp dMulX fa fb) := pm_op (OpR.or op_mul op_rep) od_mulX ha hb
end
section
variable {X : Cx} {W : WX} {P : Program} {w : World} {K : PySem.W.Frag} {mg : Str → Option Value} {base : Heap} {k n : Nat} {nm : Str} {F : List DV → Mem → Res R} {a b e : Expr} {ta tb te : TE} {fa fb f : EM} {p pos : Pos}
theorem pt_isN {k : Nat} {pc : Pos} (ha : PM X W a ta fa) : PMT X W (.Compare a [.Is] [.Constant .none k pc] pos) (tTest (tIsN ta)) (tmB (eIsN fa)) := ⟨L2.pt_cmp (pc_isN ha.pe), snd_tmB (snd_isN ha.sd) fun _ _ _ h => h⟩
theorem pt_notN {k : Nat} {pc : Pos} (ha : PM X W a ta fa) : PMT X W (.Compare a [.IsNot] [.Constant .none k pc] pos) (tTest (tNotN ta)) (tmB (eNotN fa)) := ⟨L2.pt_cmp (pc_notN ha.pe), snd_tmB (snd_notN ha.sd) fun _ _ _ h => h⟩
theorem pt_eqO {others : List Str} (Fn : MthD P w K mg base CX0 k nm "__eq__" n F) (hr : Room k X.A) (hgd : X.A.guards = some []) (T : ∀ C, ClsAt K nm C → TabOk K (tabC nm others) fun t b => PySem.W.kitOne K t (.ref C) = some b) (ha : PM X W a ta fa) (hb : PM X W b tb fb) (h1 : X.prog = P := by rfl) (h2 : X.w = w := by rfl) (h3 : X.K = K := by rfl) (h4 : X.mg = mg := by rfl) (h5 : X.base = base := by rfl) :
    PMT X W (.Compare a [.Eq] [b] pos) (tTest (tOp (rEqO K nm (spF K n F)) ta tb)) (tmB (eEqO nm others F fa fb)) := by
  subst h1 h2 h3 h4 h5
  obtain ⟨C, f, fd, ps, hn, c, G, cl, hme, hbd⟩ := Fn.ex
  exact ⟨pt_cmpR (op_eqO G hr hgd c hme hbd) ha.pe hb.pe (nomark _), snd_tmB (snd_eqO c (T C c) ha.sd hb.sd Fn.ar) fun _ _ _ h => h⟩
theorem pt_inO (Fn : MthD P w K mg base CX0 k nm "__contains__" n F) (hr : Room k X.A) (hgd : X.A.guards = some []) (ha : PM X W a ta fa) (hb : PM X W b tb fb) (h1 : X.prog = P := by rfl) (h2 : X.w = w := by rfl) (h3 : X.K = K := by rfl) (h4 : X.mg = mg := by rfl) (h5 : X.base = base := by rfl) (hmk : behindInMarks .In b = false := by rfl) :
    PMT X W (.Compare a [.In] [b] pos) (tTest (tOp (rInO K nm false (spF K n F)) ta tb)) (tmB (eInO nm false F fa fb)) := by
  subst h1 h2 h3 h4 h5
  obtain ⟨C, f, fd, ps, hn, c, G, cl, hme, hbd⟩ := Fn.ex
  exact ⟨pt_cmpR (op_inO (neg := false) G hr hgd c hme hbd) ha.pe hb.pe hmk, snd_tmB (snd_inO c ha.sd hb.sd Fn.ar) fun _ _ _ h => h⟩
theorem pt_notInO (Fn : MthD P w K mg base CX0 k nm "__contains__" n F) (hr : Room k X.A) (hgd : X.A.guards = some []) (ha : PM X W a ta fa) (hb : PM X W b tb fb) (h1 : X.prog = P := by rfl) (h2 : X.w = w := by rfl) (h3 : X.K = K := by rfl) (h4 : X.mg = mg := by rfl) (h5 : X.base = base := by rfl) (hmk : behindInMarks .NotIn b = false := by rfl) :
    PMT X W (.Compare a [.NotIn] [b] pos) (tTest (tOp (rInO K nm true (spF K n F)) ta tb)) (tmB (eInO nm true F fa fb)) := by
  subst h1 h2 h3 h4 h5
  obtain ⟨C, f, fd, ps, hn, c, G, cl, hme, hbd⟩ := Fn.ex
  exact ⟨pt_cmpR (op_inO (neg := true) G hr hgd c hme hbd) ha.pe hb.pe hmk, snd_tmB (snd_inO c ha.sd hb.sd Fn.ar) fun _ _ _ h => h⟩
end
theorem kit_noT {K : PySem.W.Frag} {C : Addr} {T : String} (h : PySem.W.subIn K (.ref C) (.type T) = some false) (hm : PySem.W.kitMeta T = true) : PySem.W.kitOne K (.ref C) (.type T) = some false := by
  unfold PySem.W.kitOne PySem.W.kitCls; rw [if_neg (by simp)]; simp only; rw [if_pos hm]; exact h
theorem kit_noB {K : PySem.W.Frag} {C : Addr} {t : String} (c : PySem.W.isClsIn K C = true) (ty : PySem.W.typeIn K (.ref C) = some (.type "type")) (h : PySem.W.subIn K (.type t) (.ref C) = some false) : PySem.W.kitOne K (.type t) (.ref C) = some false := by
  unfold PySem.W.kitOne PySem.W.kitCls; rw [if_neg (by simp)]; simp only
  rw [if_pos (by rw [show (PySem.W.clsIn K C).isSome = true from c, ty]; decide)]; exact h
theorem kit_noO {K : PySem.W.Frag} {C C' : Addr} (c : PySem.W.isClsIn K C = true) (ty : PySem.W.typeIn K (.ref C) = some (.type "type")) (ne : (C' == C) = false) (h : PySem.W.subIn K (.ref C') (.ref C) = some false) : PySem.W.kitOne K (.ref C') (.ref C) = some false := by
  unfold PySem.W.kitOne PySem.W.kitCls; rw [if_neg (by simpa using ne)]; simp only
  rw [if_pos (by rw [show (PySem.W.clsIn K C).isSome = true from c, ty]; decide)]; exact h
def clsBody : Stmt → List Stmt
  | .ClassDef _ _ _ body _ _ _ _ _ _ _ => body
  | _ => []
/-! ### methods -/
section
variable {P : Program} {w : World} {K : PySem.W.Frag} {mg : Str → Option Value} {base : Heap}
theorem fn_okB {x qual : Str} {st : Stmt} {f : Addr} {fd : FuncData} {Nm ps : List Str} {k n m : Nat} {g : SM} (F : Fun K x qual st f fd) (S : FnScope Nm ps (defScope st)) (hn : ps.length = n) (hmn : Nm.length = n + m)
    (body : ∀ (cdv : Value) (A : Around) (out : List PySem.Env) (s : Shared) (H : Hp) (E : XK), Room k (A.deeper (envOfC qual (defScope st) s.heap.objs.size f cdv)) → A.guards = some [] →
      ∃ ts, PSMs (cxOf CX0 P w K mg base Nm qual (defScope st) f cdv A out s H E).nox (fun cls d _ H => E cls d H) (defBody st) ts g) :
    FnG P w K mg base CX0 (k + 1) f fd ps (spF K n (callD g n m)) := by
  obtain ⟨oc, od, kV, doc, pm, an, cdv, ct, osl, rfl, lk, hcd⟩ := F.ex
  refine fnG_of lk hcd S (fun vs H Q E h => by rw [h.1, hn]) fun A out s H vs Q E hr hg hsp => ?_
  obtain ⟨ts, b⟩ := body cdv A out s H E hr hg
  refine ⟨ts, b.ps.nox, ?_⟩
  have e : Nm.length - n = m := by omega
  exact body_ok (n := n) b.sd (by omega) (by rw [e]; exact sp_callD hsp)
theorem fn_okM {cn x qual : Str} {st : Stmt} {C f : Addr} {fd : FuncData} {Nm ps : List Str} {k n m : Nat} {g : SM} (F : Fun K x qual st f fd) (S : FnScope Nm ps (defScope st)) (hc : ClsAt K cn C) (cl : Cls K C) (hm : Meth K C x f) (hn : ps.length = n) (hmn : Nm.length = n + m)
    (hb : ∀ (kV doc pm : Value) (an : Option Addr) (cdv ct : Value) (us : List Value), us.length = ps.length → bindArgs (PySem.W.fnOf x qual (defArgs st) (defBody st) (defScope st) .none kV doc pm an cdv ct) ⟨us, []⟩ = pure (ps.zip us))
    (body : ∀ (cdv : Value) (A : Around) (out : List PySem.Env) (s : Shared) (H : Hp) (E : XK), Room k (A.deeper (envOfC qual (defScope st) s.heap.objs.size f cdv)) → A.guards = some [] →
      ∃ ts, PSMs (cxOf CX0 P w K mg base Nm qual (defScope st) f cdv A out s H E).nox (fun cls d _ H => E cls d H) (defBody st) ts g) :
    MthD P w K mg base CX0 (k + 1) cn x n (callD g n m) :=
  ⟨callD_ar, C, f, fd, ps, hn, hc, fn_okB F S hn hmn body, cl, hm, F.binds hb⟩
theorem fn_okI {cn x qual : Str} {st : Stmt} {C f : Addr} {fd : FuncData} {Nm ps : List Str} {k n m : Nat} {g : SM} (F : Fun K x qual st f fd) (S : FnScope Nm ps (defScope st)) (hc : ClsAt K cn C) (hmg : mg cn = some (.ref C)) (M : Mk K C f) (hn : ps.length = n) (hmn : Nm.length = n + m)
    (hb : ∀ (kV doc pm : Value) (an : Option Addr) (cdv ct : Value) (us : List Value), us.length = ps.length → bindArgs (PySem.W.fnOf x qual (defArgs st) (defBody st) (defScope st) .none kV doc pm an cdv ct) ⟨us, []⟩ = pure (ps.zip us))
    (body : ∀ (cdv : Value) (A : Around) (out : List PySem.Env) (s : Shared) (H : Hp) (E : XK), Room k (A.deeper (envOfC qual (defScope st) s.heap.objs.size f cdv)) → A.guards = some [] →
      ∃ ts, PSMs (cxOf CX0 P w K mg base Nm qual (defScope st) f cdv A out s H E).nox (fun cls d _ H => E cls d H) (defBody st) ts g) :
    MakD P w K mg base CX0 (k + 1) cn n (callD g n m) :=
  ⟨callD_ar, C, f, fd, ps, hn, hc, hmg, fn_okB F S hn hmn body, M, F.binds hb⟩
end
end DL
/-! A place of this def that changes no more is taken for data. -/
namespace DL
open PySem PySem.Spec PyProof.Rows L2
def noLoc (n : Nat) : DV → Bool
  | .dat _ => true
  | .loc m => !decide (m = n)
def noLocE (n : Nat) (δ : Env) : Bool := δ.all fun o => match o with
  | none => true
  | some x => noLoc n x
def noLocP (n : Nat) : Pl → Bool
  | .lst xs => xs.all (noLoc n)
  | .dct kvs => kvs.all fun p => noLoc n p.2
  | .ins _ fs => fs.all fun p => noLoc n p.2
  | .own => true
  | .gone => true
def gFrz (i : Nat) : SM := fun N δ μ => match δ[i]? with
  | some (some (.loc n)) => if N ≤ n ∧ noLocE n (δ.set i none) = true ∧ (μ.drop (n + 1)).all (noLocP n) = true then match μ[n]? with
      | some (.lst xs) => match allDat xs with
        | some ds => .next (δ.set i (some (.dat (.lst ds)))) (μ.set n .gone)
        | none => .bad
      | _ => .bad
    else .bad
  | _ => .bad
section
variable {K : PySem.W.Frag} {W : WX} {ρ : Pm} {G H : Hp} {μ : Mem} {σ : Slots} {δ : Env} {N n : Nat} {a : Addr}
def cutP (ρ : Pm) (n : Nat) : Pm := fun m => if m = n then none else ρ m
theorem cutP_some {m : Nat} {b : Addr} (h : cutP ρ n m = some b) : m ≠ n ∧ ρ m = some b := by
  unfold cutP at h
  by_cases e : m = n
  · rw [if_pos e] at h; cases h
  · rw [if_neg e] at h; exact ⟨e, h⟩
theorem cutP_of {m : Nat} {b : Addr} (e : m ≠ n) (h : ρ m = some b) : cutP ρ n m = some b := by unfold cutP; rw [if_neg e]; exact h
theorem noLoc_ok {G' : Hp} {v : V} {x : DV} (ex : Ex G G') (h : DvOk K ρ G v x) (e : noLoc n x = true) : DvOk K (cutP ρ n) G' v x := by
  cases x with
  | dat d => exact Rp.mono ex h
  | loc m =>
    obtain ⟨b, rfl, q⟩ := h
    simp only [noLoc, Bool.not_eq_true', decide_eq_false_iff_not] at e
    exact ⟨b, rfl, cutP_of e q⟩
theorem noLocs_ok {G' : Hp} (ex : Ex G G') : ∀ {vs : List V} {xs : List DV}, DvL K ρ G vs xs → xs.all (noLoc n) = true → DvL K (cutP ρ n) G' vs xs
  | _, _, .nil, _ => .nil
  | _, _, .cons r t, e => by
    simp only [List.all_cons, Bool.and_eq_true] at e
    exact .cons (noLoc_ok ex r e.1) (noLocs_ok ex t e.2)
theorem freeze_place {xs : List DV} {ds : List D} {i : Nat} (R : Rel K ρ G H μ) (E : EnvOk K ρ G σ δ) (hi : δ[i]? = some (some (.loc n))) (hN : N ≤ n) (hE : noLocE n (δ.set i none) = true) (hμ : (μ.drop (n + 1)).all (noLocP n) = true) (hn : μ[n]? = some (.lst xs)) (hd : allDat xs = some ds) :
    ∃ ρ' G', TrS N ρ G H ρ' G' H ∧ Rel K ρ' G' H (μ.set n .gone) ∧ EnvOk K ρ' G' σ (δ.set i (some (.dat (.lst ds)))) := by
  obtain ⟨_, a, vs, h1, h2, h3⟩ := R.pl n _ hn
  have g0 : G a = none := R.nG n a h1
  have ex : Ex G (upd G a (.lst vs)) := Ex.new g0
  have hlt : n < μ.length := R.lt n a h1
  have hv : Rp K (upd G a (.lst vs)) (.ref a) (.lst ds) := Rp.lst upd_same (RpL.mono ex (allDat_ok hd h3))
  refine ⟨cutP ρ n, upd G a (.lst vs), ⟨fun m hm => ?_, ex, fun _ _ _ h => h, fun _ h => h, fun b h => ?_, fun m b h => .inl (cutP_some h).2⟩, ⟨fun b o h => ?_, fun m k b h h' => R.inj m k b (cutP_some h).2 (cutP_some h').2, fun m b h => ?_, fun m b h => ?_, fun m b h => R.hs m b (cutP_some h).2, fun m p h => ?_⟩, ⟨?_, fun j x hj => ?_⟩⟩
  · unfold cutP; rw [if_neg (by omega)]
  · by_cases e : b = a
    · subst e; exact .inr (.inr ⟨n, hN, h1⟩)
    · rw [upd_ne e] at h; exact .inl h
  · by_cases e : b = a
    · subst e; rw [upd_same] at h; cases h; exact h2
    · rw [upd_ne e] at h; exact R.ex b o h
  · obtain ⟨h', q⟩ := cutP_some h
    have e : b ≠ a := fun e => h' (R.inj m n a (e ▸ q) h1)
    rw [upd_ne e]; exact R.nG m b q
  · rw [List.length_set]; exact R.lt m b (cutP_some h).2
  · by_cases e : m = n
    · subst e
      rw [List.getElem?_set_self hlt] at h
      cases h
      show cutP ρ m m = none
      unfold cutP; rw [if_pos rfl]
    · rw [List.getElem?_set_ne (fun z => e z.symm)] at h
      have z := R.pl m p h
      have nb : ∀ x : DV, x.below m → m < n → noLoc n x = true := fun x hx hm => by
        cases x with
        | dat d => rfl
        | loc k => have : k < m := hx; simp only [noLoc, Bool.not_eq_true', decide_eq_false_iff_not]; omega
      have hp : noLocP n p = true := by
        by_cases hm : m < n
        · cases p with
          | lst ys => exact List.all_eq_true.mpr fun x hx => nb x (z.1 x hx) hm
          | dct kvs => exact List.all_eq_true.mpr fun x hx => nb x.2 (z.1 x hx) hm
          | ins nm fs => exact List.all_eq_true.mpr fun x hx => nb x.2 (z.1 x hx) hm
          | own => rfl
          | gone => rfl
        · refine List.all_eq_true.mp hμ p (List.mem_of_getElem? (i := m - (n + 1)) ?_)
          rw [List.getElem?_drop, show n + 1 + (m - (n + 1)) = m by omega]; exact h
      cases p with
      | lst ys => obtain ⟨b, c, us, k1, k2, k3⟩ := z; exact ⟨b, c, us, cutP_of e k1, k2, noLocs_ok ex k3 hp⟩
      | dct kvs =>
        obtain ⟨b, c, o, us, k1, k2, k4, k3⟩ := z
        exact ⟨b, c, o, us, cutP_of e k1, k2, k4, noLocs_ok ex k3 (by rw [List.all_map]; exact hp)⟩
      | own => obtain ⟨b, c, k1, k2⟩ := z; exact ⟨b, c, cutP_of e k1, k2⟩
      | ins nm fs =>
        obtain ⟨b, c, dx, C, us, k, hk, k1, k2, cl, k4, k5, k3⟩ := z
        have hkn : k ≠ n := fun e => by
          rw [e, h1] at hk; cases hk.2; rw [h2] at k4; cases k4
        exact ⟨b, c, dx, C, us, k, ⟨hk.1, cutP_of hkn hk.2⟩, cutP_of e k1, k2, cl, k4, k5, noLocs_ok ex k3 (by rw [List.all_map]; exact hp)⟩
      | gone => show cutP ρ n m = none; unfold cutP; rw [if_neg e]; exact z
  · rw [List.length_set]; exact E.len
  · by_cases e : i = j
    · subst e
      have hl : i < δ.length := (List.getElem?_eq_some_iff.mp hi).1
      rw [List.getElem?_set_self hl] at hj
      cases hj
      obtain ⟨v, k1, b, rfl, k2⟩ := E.at_ i _ hi
      rw [h1] at k2; cases k2
      exact ⟨_, k1, hv⟩
    · rw [List.getElem?_set_ne e] at hj
      obtain ⟨v, k1, k2⟩ := E.at_ j x hj
      have hx : noLoc n x = true := by
        have := List.all_eq_true.mp hE (some x) (List.mem_of_getElem? (i := j) (by rw [List.getElem?_set_ne e]; exact hj))
        exact this
      exact ⟨v, k1, noLoc_ok ex k2 hx⟩
theorem snd_frz {t : TS} {g : SM} (i : Nat) (h : SndS K W t g) : SndS K W t (gSeq (gFrz i) g) := fun N ρ G H σ δ μ D R E hp => by
  unfold gSeq gFrz at hp
  match ei : δ[i]? with
  | none => simp only [ei] at hp; exact hp.elim
  | some none => simp only [ei] at hp; exact hp.elim
  | some (some (.dat _)) => simp only [ei] at hp; exact hp.elim
  | some (some (.loc n)) =>
    simp only [ei] at hp
    by_cases hc : N ≤ n ∧ noLocE n (δ.set i none) = true ∧ (μ.drop (n + 1)).all (noLocP n) = true
    case neg => rw [if_neg hc] at hp; exact hp.elim
    rw [if_pos hc] at hp
    match em : μ[n]? with
    | none => simp only [em] at hp; exact hp.elim
    | some (.dct _) => simp only [em] at hp; exact hp.elim
    | some .own => simp only [em] at hp; exact hp.elim
    | some .gone => simp only [em] at hp; exact hp.elim
    | some (.ins _ _) => simp only [em] at hp; exact hp.elim
    | some (.lst xs) =>
      simp only [em] at hp
      cases ed : allDat xs with
      | none => rw [ed] at hp; exact hp.elim
      | some ds =>
        rw [ed] at hp
        obtain ⟨ρ', G', T', R', E'⟩ := freeze_place R E ei hc.1 hc.2.1 hc.2.2 em ed
        exact h N ρ' G' H σ _ _ D R' E' (PostS.shift T' hp)
end
theorem ss_frz {X : Cx} {W : WX} {ss : List Stmt} {t : TS} {g : SM} (i : Nat) (h : PSMs X W ss t g) : PSMs X W ss t (gSeq (gFrz i) g) := ⟨h.ps, snd_frz i h.sd⟩
end DL
namespace DL
open PySem PySem.Spec PyProof.Rows L2
/-! ### the bag of draws -/
structure Bg where
  a : Int
  b : Int
  c : Int
  cs : List Int
def Bg.pl (B : Bg) : Pl := .lst [.dat (.int B.a), .dat (.int B.b), .dat (.int B.c), .dat (.lst (B.cs.map D.int))]
structure Bg.ok (B : Bg) : Prop where
  a : 0 ≤ B.a
  b : 0 ≤ B.b
  b' : B.b < 2147483647
  c : 0 ≤ B.c
  cs : ∀ z ∈ B.cs, 0 ≤ z
def Bg.cell (B : Bg) : Int := if B.c < B.cs.length then B.cs.getD B.c.toNat 0 else 0
def Bg.fill (B : Bg) : Bg := if B.a = 0 then ⟨if 1000000000000000000 ≤ B.cell then B.cell else 0, (B.b * 48271 + B.cell % 2147483647 + 7919 * (B.c + 1)) % 2147483647, B.c + 1, B.cs⟩ else B
def Bg.low (B : Bg) (m : Int) : Int := ((B.b + 1) * 39373 % 1000000007 * ((B.b + 1) * 39373 % 1000000007) % 998244353 * 30011) % 998244353 / 7 % m
def takeB (B : Bg) (m : Int) : Int × Bg := if 0 < B.fill.a then (B.fill.a % m, { B.fill with a := B.fill.a / m }) else (B.fill.low m, B.fill)
def gTake : SM :=
    (gSeq (gIf (tmB (eOp dEq (eOp dIx (eVar 0) (eD (.int 0))) (eD (.int 0)))) (gSeq (gAsg 2 (eD (.int 0)))
    (gSeq (gIf (tmB (eOp dLt (eOp dIx (eVar 0) (eD (.int 2))) (eCB (d1 dLen) (aCons (eOp dIx (eVar 0) (eD (.int 3))) aNil)))) (gAsg 2 (eOp dIx (eOp dIx (eVar 0) (eD (.int 3))) (eOp dIx (eVar 0) (eD (.int 2))))) gNext)
    (gSeq (gAugS (fun i j => i + j) (eVar 0) (eD (.int 2)) (eD (.int 1)))
    (gSeq (gIf (tmB (eOp dGe (eVar 2) (eD (.int 1000000000000000000)))) (gSet (eVar 0) (eD (.int 0)) (eVar 2)) gNext)
    (gSeq (gAsg 3 (eOp dAdd (eOp dAdd (eOp dMul (eOp dIx (eVar 0) (eD (.int 1))) (eD (.int 48271))) (eOp dMod (eCB (d1 dInt) (aCons (eVar 2) aNil)) (eD (.int 2147483647)))) (eOp dMul (eD (.int 7919)) (eOp dIx (eVar 0) (eD (.int 2))))))
    (gSet (eVar 0) (eD (.int 1)) (eOp dMod (eCB (d1 dInt) (aCons (eVar 3) aNil)) (eD (.int 2147483647))))))))) gNext)
    (gSeq (gIf (tmB (eOp dGt (eOp dIx (eVar 0) (eD (.int 0))) (eD (.int 0)))) (gSeq (gAsg 4 (eOp dMod (eCB (d1 dInt) (aCons (eOp dIx (eVar 0) (eD (.int 0))) aNil)) (eVar 1)))
    (gSeq (gSet (eVar 0) (eD (.int 0)) (eOp dDiv (eCB (d1 dInt) (aCons (eOp dIx (eVar 0) (eD (.int 0))) aNil)) (eVar 1)))
    (gRet (eVar 4)))) gNext)
    (gSeq (gAsg 5 (eOp dMod (eCB (d1 dInt) (aCons (eOp dMul (eOp dAdd (eOp dIx (eVar 0) (eD (.int 1))) (eD (.int 1))) (eD (.int 39373))) aNil)) (eD (.int 1000000007))))
    (gSeq (gAsg 6 (eOp dMod (eCB (d1 dInt) (aCons (eOp dMul (eOp dMod (eCB (d1 dInt) (aCons (eOp dMul (eVar 5) (eVar 5)) aNil)) (eD (.int 998244353))) (eD (.int 30011))) aNil)) (eD (.int 998244353))))
    (gRet (eOp dMod (eCB (d1 dInt) (aCons (eOp dDiv (eVar 6) (eD (.int 7))) aNil)) (eVar 1)))))))
theorem dEqB_int (b : Bool) (i j : Int) (μ : Mem) : dEqS b (.dat (.int i)) (.dat (.int j)) μ = .ok (.dat (.bl ((i == j) == b))) μ := by
  simp [dEqS, asStr, dEqB, peekPy, peek, peekK, toPy, SeqAt.shaped, PyData.eqv, PyData.canLay0, PyData.depth]
theorem frz_ofV (x : DV) : frz (ofV x) = some x := by cases x <;> rfl
/-- the first part: a new cell when the last is used up -/
theorem fill_ok {B : Bg} (h : B.ok) : B.fill.ok := by
  unfold Bg.fill
  split
  · rename_i e
    have hc : 0 ≤ B.cell := by
      unfold Bg.cell
      split
      · rw [List.getD_eq_getElem?_getD]
        cases q : B.cs[B.c.toNat]? with
        | none => exact Int.le_refl 0
        | some z => exact h.cs z (List.mem_of_getElem? q)
      · exact Int.le_refl 0
    exact ⟨by dsimp only; split <;> omega, by dsimp only; omega, by dsimp only; omega, by dsimp only; have := h.c; omega, h.cs⟩
  · exact h
theorem takeB_ok {B : Bg} (h : B.ok) {m : Int} (hm : 0 < m) : (takeB B m).2.ok ∧ 0 ≤ (takeB B m).1 ∧ (takeB B m).1 < m := by
  have f := fill_ok h
  unfold takeB
  split
  · exact ⟨⟨Int.ediv_nonneg f.a (by omega), f.b, f.b', f.c, f.cs⟩, Int.emod_nonneg _ (by omega), Int.emod_lt_of_pos _ hm⟩
  · exact ⟨f, Int.emod_nonneg _ (by omega), Int.emod_lt_of_pos _ hm⟩

def gFill : SM := (gIf (tmB (eOp dEq (eOp dIx (eVar 0) (eD (.int 0))) (eD (.int 0)))) (gSeq (gAsg 2 (eD (.int 0)))
    (gSeq (gIf (tmB (eOp dLt (eOp dIx (eVar 0) (eD (.int 2))) (eCB (d1 dLen) (aCons (eOp dIx (eVar 0) (eD (.int 3))) aNil)))) (gAsg 2 (eOp dIx (eOp dIx (eVar 0) (eD (.int 3))) (eOp dIx (eVar 0) (eD (.int 2))))) gNext)
    (gSeq (gAugS (fun i j => i + j) (eVar 0) (eD (.int 2)) (eD (.int 1)))
    (gSeq (gIf (tmB (eOp dGe (eVar 2) (eD (.int 1000000000000000000)))) (gSet (eVar 0) (eD (.int 0)) (eVar 2)) gNext)
    (gSeq (gAsg 3 (eOp dAdd (eOp dAdd (eOp dMul (eOp dIx (eVar 0) (eD (.int 1))) (eD (.int 48271))) (eOp dMod (eCB (d1 dInt) (aCons (eVar 2) aNil)) (eD (.int 2147483647)))) (eOp dMul (eD (.int 7919)) (eOp dIx (eVar 0) (eD (.int 2))))))
    (gSet (eVar 0) (eD (.int 1)) (eOp dMod (eCB (d1 dInt) (aCons (eVar 3) aNil)) (eD (.int 2147483647))))))))) gNext)
theorem pl_lt {μ : Mem} {n : Nat} {p : Pl} (h : μ[n]? = some p) : n < μ.length := (List.getElem?_eq_some_iff.mp h).1
theorem asL_loc {μ : Mem} {n : Nat} {xs : List DV} (h : μ[n]? = some (.lst xs)) : asL μ (.loc n) = some xs := by simp [asL, h]
theorem dIx_loc {μ : Mem} {n : Nat} {xs : List DV} {i : Int} {x : DV} (h : μ[n]? = some (.lst xs)) (hx : atI xs i = some x) : dIx (.loc n) (.dat (.int i)) μ = .ok (ofV x) μ := by
  simp [dIx, asI, asS, asL, h, hx]
theorem dIx_lst {μ : Mem} {ds : List D} {i : Int} {d : D} (h : atI ds i = some d) : dIx (.dat (.lst ds)) (.dat (.int i)) μ = .ok (.dat d) μ := by
  have : atI (ds.map DV.dat) i = some (.dat d) := by
    unfold atI at h ⊢
    rw [List.length_map]
    cases q : ixN ds.length i with
    | none => rw [q] at h; cases h
    | some j => rw [q] at h; simp only [Option.bind_some] at h ⊢; rw [List.getElem?_map, h]; rfl
  simp [dIx, asI, asS, asL, this, ofV]
theorem atI_nat {α : Type} {xs : List α} {k : Nat} {x : α} (h : xs[k]? = some x) : atI xs (k : Int) = some x := by
  have : k < xs.length := (List.getElem?_eq_some_iff.mp h).1
  unfold atI ixN
  rw [if_pos (by omega), if_pos (by omega)]
  simpa using h
theorem ev_var {δ : Env} {i : Nat} {x : DV} {μ : Mem} (h : δ[i]? = some (some x)) : eVar i δ μ = .ok (ofV x) μ := by unfold eVar; rw [h]
theorem fz_var {δ : Env} {i : Nat} {x : DV} {μ : Mem} (h : δ[i]? = some (some x)) : frzV (eVar i) δ μ = .ok x μ := by unfold frzV; rw [ev_var h]; simp [Res.bind, frz_ofV]
theorem fz_D {δ : Env} {d : D} {μ : Mem} : frzV (eD d) δ μ = .ok (.dat d) μ := rfl
theorem fz_of {f : EM} {δ : Env} {μ μ' : Mem} {x : DV} (h : f δ μ = .ok (ofV x) μ') : frzV f δ μ = .ok x μ' := by unfold frzV; rw [h]; simp [Res.bind, frz_ofV]
theorem fz_ofD {f : EM} {δ : Env} {μ μ' : Mem} {x : D} (h : f δ μ = .ok (.dat x) μ') : frzV f δ μ = .ok (.dat x) μ' := fz_of (x := .dat x) h
theorem ev_op {g : DV → DV → Mem → Res R} {f h : EM} {δ : Env} {μ μ1 μ2 : Mem} {x y : DV} {r : Res R} (h1 : frzV f δ μ = .ok x μ1) (h2 : frzV h δ μ1 = .ok y μ2) (h3 : g x y μ2 = r) : eOp g f h δ μ = r := by unfold eOp; rw [h1]; simp only [Res.bind]; rw [h2]; exact h3
theorem ev_cb1 {g : List DV → Mem → Res R} {f : EM} {δ : Env} {μ μ1 : Mem} {x : DV} {r : Res R} (h1 : frzV f δ μ = .ok x μ1) (h2 : g [x] μ1 = r) : eCB g (aCons f aNil) δ μ = r := by unfold eCB aCons aNil; rw [h1]; simp only [Res.bind]; exact h2
theorem ev_cb2 {g : List DV → Mem → Res R} {f h : EM} {δ : Env} {μ μ1 μ2 : Mem} {x y : DV} {r : Res R} (h1 : frzV f δ μ = .ok x μ1) (h2 : frzV h δ μ1 = .ok y μ2) (h3 : g [x, y] μ2 = r) : eCB g (aCons f (aCons h aNil)) δ μ = r := by unfold eCB aCons aNil; rw [h1]; simp only [Res.bind]; rw [h2]; exact h3
theorem sq_next {g h : SM} {N : Nat} {δ δ' : Env} {μ μ' : Mem} {o : Out} (e : g N δ μ = .next δ' μ') (k : h N δ' μ' = o) : gSeq g h N δ μ = o := by unfold gSeq; rw [e]; exact k
theorem sq_ret {g h : SM} {N : Nat} {δ : Env} {μ μ' : Mem} {r : R} (e : g N δ μ = .ret r μ') : gSeq g h N δ μ = .ret r μ' := by unfold gSeq; rw [e]
theorem tm_of {f : EM} {δ : Env} {μ μ' : Mem} {b : Bool} (h : f δ μ = .ok (.dat (.bl b)) μ') : tmB f δ μ = .ok b μ' := by unfold tmB; rw [h]; rfl
theorem if_true {ft : TM} {g h : SM} {N : Nat} {δ : Env} {μ μ' : Mem} {o : Out} (e : ft δ μ = .ok true μ') (k : g N δ μ' = o) : gIf ft g h N δ μ = o := by unfold gIf; rw [e]; exact k
theorem if_false {ft : TM} {g h : SM} {N : Nat} {δ : Env} {μ μ' : Mem} {o : Out} (e : ft δ μ = .ok false μ') (k : h N δ μ' = o) : gIf ft g h N δ μ = o := by unfold gIf; rw [e]; exact k
theorem asg_ok {f : EM} {i : Nat} {N : Nat} {δ : Env} {μ μ' : Mem} {x : DV} (e : frzV f δ μ = .ok x μ') : gAsg i f N δ μ = .next (δ.set i (some x)) μ' := by unfold gAsg; rw [e]; rfl
theorem ret_ok {f : EM} {N : Nat} {δ : Env} {μ μ' : Mem} {r : R} (e : f δ μ = .ok r μ') : gRet f N δ μ = .ret r μ' := by unfold gRet; rw [e]; rfl
theorem drop_ok {f : EM} {N : Nat} {δ : Env} {μ μ' : Mem} {r : R} (e : f δ μ = .ok r μ') : gDrop f N δ μ = .next δ μ' := by unfold gDrop; rw [e]; rfl
theorem set_lp {μ : Mem} {n : Nat} {xs : List DV} {k : Int} {j : Nat} {y : DV} (h : μ[n]? = some (.lst xs)) (hk : ixN xs.length k = some j) (hb : belowB n y = true) : setPl μ (.loc n) (.dat (.int k)) y = some (μ.set n (.lst (xs.set j y))) := by
  simp [setPl, atPl, h, asI, hk, hb]
theorem set_at {μ : Mem} {n : Nat} {p q : Pl} (h : μ[n]? = some p) : (μ.set n q)[n]? = some q := by rw [List.getElem?_set_self (pl_lt h)]
theorem mul_ok {i j : Int} {μ : Mem} (h : cMul i j = true) : dMul (.dat (.int i)) (.dat (.int j)) μ = .ok (.dat (.int (i * j))) μ := by simp [d2I, asI, h]
theorem mod_ok {i j : Int} {μ : Mem} (h : 0 < j) : dMod (.dat (.int i)) (.dat (.int j)) μ = .ok (.dat (.int (i % j))) μ := by simp [d2I, asI, h]
theorem div_ok {i j : Int} {μ : Mem} (h : 0 < j) (h' : j < 1073741824) : dDiv (.dat (.int i)) (.dat (.int j)) μ = .ok (.dat (.int (i / j))) μ := by simp [d2I, asI, h, h']
theorem add_ok {i j : Int} {μ : Mem} : dAdd (.dat (.int i)) (.dat (.int j)) μ = .ok (.dat (.int (i + j))) μ := by simp [dAdd, asI]
theorem lt_ok {i j : Int} {μ : Mem} : dLt (.dat (.int i)) (.dat (.int j)) μ = .ok (.dat (.bl (decide (i < j)))) μ := by simp [d2I, asI]
theorem ge_ok {i j : Int} {μ : Mem} : dGe (.dat (.int i)) (.dat (.int j)) μ = .ok (.dat (.bl (decide (j ≤ i)))) μ := by simp [d2I, asI]
theorem gt_ok {i j : Int} {μ : Mem} : dGt (.dat (.int i)) (.dat (.int j)) μ = .ok (.dat (.bl (decide (j < i)))) μ := by simp [d2I, asI]
theorem int_ok {i : Int} {μ : Mem} : d1 dInt [.dat (.int i)] μ = .ok (.dat (.int i)) μ := rfl
theorem cMul_r {i j : Int} (h : -2 ^ 64 < j ∧ j < 2 ^ 64) : cMul i j = true := by unfold cMul; rw [decide_eq_true (p := _ ∧ _) h]; simp
theorem cMul_l {i j : Int} (h : -2 ^ 64 < i ∧ i < 2 ^ 64) : cMul i j = true := by unfold cMul; rw [decide_eq_true (p := _ ∧ _) h]; simp
theorem ev_int {f : EM} {δ : Env} {μ μ1 : Mem} {i : Int} (h : frzV f δ μ = .ok (.dat (.int i)) μ1) : frzV (eCB (d1 dInt) (aCons f aNil)) δ μ = .ok (.dat (.int i)) μ1 := fz_ofD (ev_cb1 h int_ok)
theorem ixN_nat {n k : Nat} (h : k < n) : ixN n (k : Int) = some k := by unfold ixN; rw [if_pos (by omega), if_pos (by omega)]; simp
/-- an item of the bag -/
theorem bag_at {μ : Mem} {n : Nat} {xs : List DV} {d : D} {δ : Env} {i : Int} (k : Nat) (h : μ[n]? = some (.lst xs)) (hd : δ[0]? = some (some (.loc n))) (hk : xs[k]? = some (.dat d)) (hi : i = (k : Int) := by rfl) : frzV (eOp dIx (eVar 0) (eD (.int i))) δ μ = .ok (.dat d) μ := by
  subst hi; exact fz_ofD (ev_op (fz_var hd) fz_D (dIx_loc h (atI_nat hk)))
theorem gset_ok {fe : EM} {δ : Env} {μ μ1 : Mem} {n N : Nat} {xs : List DV} {y : D} {i : Int} (k : Nat) (e : frzV fe δ μ = .ok (.dat y) μ1) (h : μ1[n]? = some (.lst xs)) (hd : δ[0]? = some (some (.loc n))) (hk : k < xs.length) (hi : i = (k : Int) := by rfl) : gSet (eVar 0) (eD (.int i)) fe N δ μ = .next δ (μ1.set n (.lst (xs.set k (.dat y)))) := by
  subst hi
  unfold gSet
  rw [e]; simp only [Res.bind]; rw [fz_var hd]; simp only [Res.bind]; rw [fz_D]; simp only []
  rw [set_lp (j := k) h (ixN_nat hk) rfl]; rfl
theorem faug_ok {δ : Env} {μ : Mem} {n N : Nat} {xs : List DV} {i j ki : Int} (k : Nat) (h : μ[n]? = some (.lst xs)) (hd : δ[0]? = some (some (.loc n))) (hk : xs[k]? = some (.dat (.int i))) (hk3 : k < 2 ^ 63) (hi : ki = (k : Int) := by rfl) : gAugS (fun i j => i + j) (eVar 0) (eD (.int ki)) (eD (.int j)) N δ μ = .next δ (μ.set n (.lst (xs.set k (.dat (.int (i + j)))))) := by
  subst hi
  have hl : k < xs.length := (List.getElem?_eq_some_iff.mp hk).1
  have g : getPl μ (.loc n) (.dat (.int k)) = some i := by
    have : (0 : Int) ≤ (k : Int) ∧ (k : Int) < 2 ^ 63 := ⟨by omega, by exact_mod_cast hk3⟩
    simp [getPl, asL, h, asI, this, hk]; omega
  unfold gAugS
  rw [fz_var hd]; simp only [Res.bind]; rw [fz_D]; simp only []; rw [g]; simp only []; rw [fz_D]; simp only [asI]
  rw [set_lp (j := k) h (ixN_nat hl) rfl]; rfl
theorem fill_spec {B : Bg} (hB : B.ok) {μ : Mem} {n N : Nat} {m : DV} (h : μ[n]? = some B.pl) : ∃ y z, gFill N [some (.loc n), some m, none, none, none, none, none] μ = .next [some (.loc n), some m, y, z, none, none, none] (μ.set n B.fill.pl) := by
  have e0 : eOp dEq (eOp dIx (eVar 0) (eD (.int 0))) (eD (.int 0)) [some (.loc n), some m, none, none, none, none, none] μ = .ok (.dat (.bl ((B.a == 0) == true))) μ := ev_op (bag_at 0 h rfl rfl) fz_D (dEqB_int _ _ _ _)
  unfold gFill
  by_cases ha : B.a = 0
  · have e1 : ((B.a == 0) == true) = true := by simp [ha]
    rw [e1] at e0
    have e2 : gIf (tmB (eOp dLt (eOp dIx (eVar 0) (eD (.int 2))) (eCB (d1 dLen) (aCons (eOp dIx (eVar 0) (eD (.int 3))) aNil)))) (gAsg 2 (eOp dIx (eOp dIx (eVar 0) (eD (.int 3))) (eOp dIx (eVar 0) (eD (.int 2))))) gNext N [some (.loc n), some m, some (.dat (.int 0)), none, none, none, none] μ =
        .next [some (.loc n), some m, some (.dat (.int B.cell)), none, none, none, none] μ := by
      have l : eCB (d1 dLen) (aCons (eOp dIx (eVar 0) (eD (.int 3))) aNil) [some (.loc n), some m, some (.dat (.int 0)), none, none, none, none] μ = .ok (.dat (.int B.cs.length)) μ :=
        ev_cb1 (bag_at 3 h rfl rfl) (by simp [d1, dLen, asS, asL])
      have t : eOp dLt (eOp dIx (eVar 0) (eD (.int 2))) (eCB (d1 dLen) (aCons (eOp dIx (eVar 0) (eD (.int 3))) aNil)) [some (.loc n), some m, some (.dat (.int 0)), none, none, none, none] μ = .ok (.dat (.bl (decide (B.c < B.cs.length)))) μ :=
        ev_op (bag_at 2 h rfl rfl) (fz_ofD l) lt_ok
      by_cases c : B.c < B.cs.length
      · rw [decide_eq_true c] at t
        have hc := hB.c
        have hl : B.c.toNat < B.cs.length := by omega
        have g : B.cs[B.c.toNat]? = some B.cell := by
          unfold Bg.cell; rw [if_pos c, List.getD_eq_getElem?_getD, List.getElem?_eq_getElem hl]; rfl
        have w : dIx (.dat (.lst (B.cs.map D.int))) (.dat (.int B.c)) μ = .ok (.dat (.int B.cell)) μ := by
          have : B.c = ((B.c.toNat : Nat) : Int) := by omega
          rw [this]
          exact dIx_lst (atI_nat (by rw [List.getElem?_map, g]; rfl))
        exact if_true (tm_of t) (asg_ok (fz_ofD (ev_op (bag_at 3 h rfl rfl) (bag_at 2 h rfl rfl) w)))
      · rw [decide_eq_false c] at t
        have : B.cell = 0 := by unfold Bg.cell; rw [if_neg c]
        rw [this]
        exact if_false (tm_of t) rfl
    have h2 := set_at (q := .lst [.dat (.int B.a), .dat (.int B.b), .dat (.int (B.c + 1)), .dat (.lst (B.cs.map D.int))]) h
    have e3 : gIf (tmB (eOp dGe (eVar 2) (eD (.int 1000000000000000000)))) (gSet (eVar 0) (eD (.int 0)) (eVar 2)) gNext N [some (.loc n), some m, some (.dat (.int B.cell)), none, none, none, none] (μ.set n (.lst [.dat (.int B.a), .dat (.int B.b), .dat (.int (B.c + 1)), .dat (.lst (B.cs.map D.int))])) =
        .next [some (.loc n), some m, some (.dat (.int B.cell)), none, none, none, none] (μ.set n (.lst [.dat (.int (if 1000000000000000000 ≤ B.cell then B.cell else 0)), .dat (.int B.b), .dat (.int (B.c + 1)), .dat (.lst (B.cs.map D.int))])) := by
      have t : eOp dGe (eVar 2) (eD (.int 1000000000000000000)) [some (.loc n), some m, some (.dat (.int B.cell)), none, none, none, none] (μ.set n (.lst [.dat (.int B.a), .dat (.int B.b), .dat (.int (B.c + 1)), .dat (.lst (B.cs.map D.int))])) = .ok (.dat (.bl (decide (1000000000000000000 ≤ B.cell)))) (μ.set n (.lst [.dat (.int B.a), .dat (.int B.b), .dat (.int (B.c + 1)), .dat (.lst (B.cs.map D.int))])) :=
        ev_op (fz_var (i := 2) rfl) fz_D ge_ok
      by_cases c : 1000000000000000000 ≤ B.cell
      · rw [decide_eq_true c] at t
        rw [if_pos c]
        refine if_true (tm_of t) ((gset_ok 0 (fz_var (i := 2) (x := .dat (.int B.cell)) rfl) h2 rfl (by simp)).trans ?_)
        rw [List.set_set]; rfl
      · rw [decide_eq_false c] at t
        rw [if_neg c]
        rw [ha] at t ⊢
        exact if_false (tm_of t) rfl
    have h3 := set_at (q := .lst [.dat (.int (if 1000000000000000000 ≤ B.cell then B.cell else 0)), .dat (.int B.b), .dat (.int (B.c + 1)), .dat (.lst (B.cs.map D.int))]) h
    refine ⟨some (.dat (.int B.cell)), some (.dat (.int (B.b * 48271 + B.cell % 2147483647 + 7919 * (B.c + 1)))), ?_⟩
    refine if_true (tm_of e0) (sq_next (asg_ok fz_D) (sq_next e2 (sq_next (faug_ok 2 h rfl rfl (by decide)) (sq_next e3 ?_))))
    have fe : B.fill.pl = .lst [.dat (.int (if 1000000000000000000 ≤ B.cell then B.cell else 0)), .dat (.int ((B.b * 48271 + B.cell % 2147483647 + 7919 * (B.c + 1)) % 2147483647)), .dat (.int (B.c + 1)), .dat (.lst (B.cs.map D.int))] := by
      unfold Bg.fill; rw [if_pos ha]; rfl
    rw [fe]
    generalize hz : μ.set n (.lst [.dat (.int (if 1000000000000000000 ≤ B.cell then B.cell else 0)), .dat (.int B.b), .dat (.int (B.c + 1)), .dat (.lst (B.cs.map D.int))]) = μ3 at h3
    refine sq_next (asg_ok (x := .dat (.int (B.b * 48271 + B.cell % 2147483647 + 7919 * (B.c + 1)))) (fz_ofD (ev_op (fz_ofD (ev_op (fz_ofD (ev_op (bag_at 1 h3 rfl rfl) fz_D (mul_ok (cMul_r (by decide)))))
      (fz_ofD (ev_op (ev_int (fz_var (i := 2) (x := .dat (.int B.cell)) rfl)) fz_D (mod_ok (by decide)))) add_ok)) (fz_ofD (ev_op fz_D (bag_at 2 h3 rfl rfl) (mul_ok (cMul_l (by decide))))) add_ok))) ?_
    refine (gset_ok 1 (fz_ofD (ev_op (ev_int (fz_var (i := 3) (x := .dat (.int (B.b * 48271 + B.cell % 2147483647 + 7919 * (B.c + 1)))) rfl)) fz_D (mod_ok (by decide)))) h3 rfl (by simp)).trans ?_
    rw [← hz, List.set_set]; rfl
  · have e1 : ((B.a == 0) == true) = false := by simp [ha]
    rw [e1] at e0
    refine ⟨none, none, if_false (tm_of e0) ?_⟩
    unfold Bg.fill; rw [if_neg ha]
    show Out.next _ μ = _
    rw [show μ.set n B.pl = μ from by
      apply List.ext_getElem?
      intro i
      by_cases c : n = i
      · subst c; rw [set_at h, h]
      · rw [List.getElem?_set_ne c]]
theorem take_len {μ : Mem} {n : Nat} {p : Pl} : (μ.set n p).take μ.length = μ.set n p := List.take_of_length_le (by rw [List.length_set]; exact Nat.le_refl _)
theorem call_ret {g : SM} {k m : Nat} {xs : List DV} {μ μ' : Mem} {r : R} {o : Res R} (hk : xs.length = k) (h : g μ.length (xs.map some ++ List.replicate m none) μ = .ret r μ') (hc : closeR μ.length r μ' = o) : callD g k m xs μ = o := by
  unfold callD; rw [if_pos hk]; unfold callF; rw [h]; exact hc
theorem take_spec {B : Bg} (hB : B.ok) {μ : Mem} {n : Nat} {m : Int} (h : μ[n]? = some B.pl) (hm : 0 < m) (hm' : m < 1073741824) :
    callD gTake 2 5 [.loc n, .dat (.int m)] μ = .ok (.dat (.int (takeB B m).1)) (μ.set n (takeB B m).2.pl) := by
  obtain ⟨y, z, hf⟩ := fill_spec hB (N := μ.length) (m := .dat (.int m)) h
  have h1 := set_at (q := B.fill.pl) h
  have f := fill_ok hB
  have key : gTake μ.length [some (.loc n), some (.dat (.int m)), none, none, none, none, none] μ = .ret (.dat (.int (takeB B m).1)) (μ.set n (takeB B m).2.pl) := by
    refine sq_next hf ?_
    have t : eOp dGt (eOp dIx (eVar 0) (eD (.int 0))) (eD (.int 0)) [some (.loc n), some (.dat (.int m)), y, z, none, none, none] (μ.set n B.fill.pl) = .ok (.dat (.bl (decide (0 < B.fill.a)))) (μ.set n B.fill.pl) :=
      ev_op (bag_at 0 h1 rfl rfl) fz_D gt_ok
    by_cases c : 0 < B.fill.a
    · rw [decide_eq_true c] at t
      have tk : takeB B m = (B.fill.a % m, { B.fill with a := B.fill.a / m }) := by unfold takeB; rw [if_pos c]
      rw [tk]
      refine sq_ret (if_true (tm_of t) (sq_next (asg_ok (fz_ofD (ev_op (ev_int (bag_at 0 h1 rfl rfl)) (fz_var (i := 1) (x := .dat (.int m)) rfl) (mod_ok hm))))
        (sq_next (gset_ok 0 (fz_ofD (ev_op (ev_int (bag_at 0 h1 rfl rfl)) (fz_var (i := 1) (x := .dat (.int m)) rfl) (div_ok hm hm'))) h1 rfl (by simp [Bg.pl]))
          ((ret_ok (ev_var (i := 4) (x := .dat (.int (B.fill.a % m))) rfl)).trans ?_))))
      rw [List.set_set]; rfl
    · rw [decide_eq_false c] at t
      have tk : takeB B m = (B.fill.low m, B.fill) := by unfold takeB; rw [if_neg c]
      rw [tk]
      refine sq_next (if_false (tm_of t) rfl) ?_
      have hb := f.b
      have hb' := f.b'
      have q1 : 0 ≤ (B.fill.b + 1) * 39373 % 1000000007 ∧ (B.fill.b + 1) * 39373 % 1000000007 < 1000000007 := by omega
      refine sq_next (asg_ok (fz_ofD (ev_op (ev_int (fz_ofD (ev_op (fz_ofD (ev_op (bag_at 1 h1 rfl rfl) fz_D add_ok)) fz_D (mul_ok (cMul_r (by decide)))))) fz_D (mod_ok (by decide))))) ?_
      unfold Bg.low
      generalize (B.fill.b + 1) * 39373 % 1000000007 = e at q1
      refine sq_next (asg_ok (fz_ofD (ev_op (ev_int (fz_ofD (ev_op (fz_ofD (ev_op (ev_int (fz_ofD (ev_op (fz_var (i := 5) (x := .dat (.int e)) rfl) (fz_var (i := 5) (x := .dat (.int e)) rfl) (mul_ok (cMul_r (by omega)))))) fz_D (mod_ok (by decide)))) fz_D (mul_ok (cMul_r (by decide)))))) fz_D (mod_ok (by decide))))) ?_
      exact ret_ok (ev_op (ev_int (fz_ofD (ev_op (fz_var (i := 6) (x := .dat (.int (e * e % 998244353 * 30011 % 998244353))) rfl) fz_D (div_ok (by decide) (by decide))))) (fz_var (i := 1) (x := .dat (.int m)) rfl) (mod_ok hm))
  refine call_ret rfl key ?_
  show Res.ok _ (List.take _ _) = _
  rw [take_len]
end DL
namespace DL
open PySem PySem.Spec PyProof.Rows L2
/-! ### data that == and repr take -/
structure Fit (k w : Nat) (p : PyData) : Prop where
  lay : p.canLay0 = true
  dep : p.depth ≤ k
  wt : p.weight ≤ w
  sh : p.showable = true
  is : p.intsShort 13 = true
theorem Fit.mono {k k' w w' : Nat} {p : PyData} (h : Fit k w p) (hk : k ≤ k') (hw : w ≤ w') : Fit k' w' p := ⟨h.lay, Nat.le_trans h.dep hk, Nat.le_trans h.wt hw, h.sh, h.is⟩
theorem fitAll {k w : Nat} : ∀ (ps : List PyData), (∀ p ∈ ps, Fit k w p) → PyData.canLayAll0 ps = true ∧ PyData.depthAll ps ≤ k ∧ PyData.weightAll ps ≤ ps.length * (w + 1) ∧ PyData.showableAll ps = true ∧ PyData.intsShortAll 13 ps = true
  | [], _ => ⟨rfl, Nat.zero_le _, Nat.zero_le _, rfl, rfl⟩
  | p :: ps, h => by
    obtain ⟨a, b, c, d, e⟩ := fitAll ps fun q hq => h q (List.mem_cons_of_mem _ hq)
    have f := h p List.mem_cons_self
    have g1 := f.dep
    have g2 := f.wt
    refine ⟨by simp [PyData.canLayAll0, a, f.lay], by simp only [PyData.depthAll]; omega, ?_, by simp [PyData.showableAll, d, f.sh], by simp [PyData.intsShortAll, e, f.is]⟩
    simp only [PyData.weightAll, List.length_cons, Nat.succ_mul]; omega
theorem fit_list {k w n : Nat} {ps : List PyData} (h : ∀ p ∈ ps, Fit k w p) (hn : ps.length ≤ n) : Fit (k + 1) (n * (w + 1)) (.list ps) := by
  obtain ⟨a, b, c, d, e⟩ := fitAll ps h
  exact ⟨a, by simp only [PyData.depth]; omega, by simp only [PyData.weight]; exact Nat.le_trans c (Nat.mul_le_mul_right _ hn), d, e⟩
theorem fit_tuple {k w n : Nat} {ps : List PyData} (h : ∀ p ∈ ps, Fit k w p) (hn : ps.length ≤ n) : Fit (k + 1) (n * (w + 1)) (.tuple ps) := by
  obtain ⟨a, b, c, d, e⟩ := fitAll ps h
  exact ⟨a, by simp only [PyData.depth]; omega, by simp only [PyData.weight]; exact Nat.le_trans c (Nat.mul_le_mul_right _ hn), d, e⟩
theorem fit_bool (b : Bool) : Fit 0 0 (.bool b) := ⟨rfl, Nat.zero_le _, Nat.zero_le _, rfl, rfl⟩
theorem fit_none : Fit 0 0 .none := ⟨rfl, Nat.zero_le _, Nat.zero_le _, rfl, rfl⟩
theorem fit_str {s : Str} {w : Nat} (h : PyData.strOk s = true) (hw : s.cps.size ≤ w) : Fit 0 w (.str s) := ⟨h, Nat.zero_le _, hw, rfl, rfl⟩
theorem Fit.shaped {k w : Nat} {p : PyData} (h : Fit k w p) (hk : k ≤ 64) : SeqAt.shaped p = true := by
  unfold SeqAt.shaped; rw [h.lay, decide_eq_true (Nat.le_trans h.dep hk)]; rfl
theorem Fit.shown {k w : Nat} {p : PyData} (h : Fit k w p) (hk : k ≤ 64) (hw : w ≤ 2 ^ 20) : p.shown.length ≤ sizeLine :=
  PyData.shown_fits_of_layable0 (B := 13) (by decide) (by decide) (by unfold PyData.layable0; rw [h.lay, decide_eq_true (Nat.le_trans h.dep hk), decide_eq_true (Nat.le_trans h.wt hw)]; rfl) h.is
theorem eq_anyB {μ : Mem} {x y : DV} {p q : PyData} {k w k' w' : Nat} (b : Bool) (hx : peekPy μ x = some p) (hy : peekPy μ y = some q) (h : Fit k w p) (h' : Fit k' w' q) (hk : k ≤ 64) (hk' : k' ≤ 64) : dEqB b x y μ = .ok (.dat (.bl (PyData.eqv p q == b))) μ := by
  unfold dEqB; rw [hx]; simp only; rw [hy]; simp only; rw [if_pos ⟨h.shaped hk, h'.shaped hk'⟩]
theorem str_beq (s t : Str) : (s == t) = decide (s = t) := by
  by_cases c : s = t
  · subst c; simp
  · rw [decide_eq_false c]; exact beq_false_of_ne c
theorem asStr_dat {x : DV} {s : Str} (h : asStr x = some s) : x = .dat (.str s) := by
  unfold asStr at h; split at h <;> cases h; rfl
theorem eq_str {b : Bool} {s t : Str} {μ : Mem} : dEqS b (.dat (.str s)) (.dat (.str t)) μ = .ok (.dat (.bl (decide (s = t) == b))) μ := rfl
theorem eq_any {μ : Mem} {x y : DV} {p q : PyData} {k w k' w' : Nat} (b : Bool) (hx : peekPy μ x = some p) (hy : peekPy μ y = some q) (h : Fit k w p) (h' : Fit k' w' q) (hk : k ≤ 64) (hk' : k' ≤ 64) : dEqS b x y μ = .ok (.dat (.bl (PyData.eqv p q == b))) μ := by
  have e := eq_anyB b hx hy h h' hk hk'
  unfold dEqS
  cases e1 : asStr x with
  | none => exact e
  | some s =>
    cases e2 : asStr y with
    | none => exact e
    | some t =>
      rw [asStr_dat e1] at hx
      rw [asStr_dat e2] at hy
      have hx' : some (PyData.str s) = some p := by rw [← hx]; unfold peekPy peek; cases s; rfl
      have hy' : some (PyData.str t) = some q := by rw [← hy]; unfold peekPy peek; cases t; rfl
      cases hx'; cases hy'
      simp only [PyData.eqv, str_beq]
theorem eq_same {μ : Mem} {x y : DV} {p : PyData} {k w : Nat} (hx : peekPy μ x = some p) (hy : peekPy μ y = some p) (h : Fit k w p) (hk : k ≤ 64) : dEq x y μ = .ok (.dat (.bl true)) μ := by
  refine (eq_any true hx hy h h hk hk).trans ?_
  rw [SeqAt.eqv_refl p h.lay]; rfl
theorem repr_same {μ : Mem} {x : DV} {p : PyData} {k w : Nat} (hx : peekPy μ x = some p) (h : Fit k w p) (hk : k ≤ 64) (hw : w ≤ 2 ^ 20) : d1 dRepr [x] μ = .ok (.dat (.str p.shown)) μ := by
  show dRepr x μ = _
  unfold dRepr; rw [hx]; simp only; rw [if_pos ⟨h.sh, h.shaped hk, h.shown hk hw⟩]
theorem toPyL_map {α : Type} {f : α → D} {g : α → PyData} : ∀ (xs : List α), (∀ x ∈ xs, toPy (f x) = some (g x)) → toPyL (xs.map f) = some (xs.map g)
  | [], _ => rfl
  | x :: xs, h => by
    have h1 := h x List.mem_cons_self
    have h2 := toPyL_map xs fun y hy => h y (List.mem_cons_of_mem _ hy)
    simp [toPyL, h1, h2]
theorem peekL_dat {f : DV → Option D} (hf : ∀ d, f (.dat d) = some d) : ∀ ds : List D, peekL f (ds.map DV.dat) = some ds
  | [] => rfl
  | d :: ds => by simp [peekL, hf, peekL_dat hf ds]
theorem peekK_dat (k : Nat) (μ : Mem) (d : D) : peekK k μ (.dat d) = some d := by cases k <;> rfl
theorem peekK_loc {k n : Nat} {μ : Mem} {ds : List D} (h : μ[n]? = some (.lst (ds.map DV.dat))) : peekK (k + 1) μ (.loc n) = some (.lst ds) := by
  unfold peekK; rw [h]; simp only; rw [peekL_dat (peekK_dat k μ)]; rfl
theorem peek_loc {n : Nat} {μ : Mem} {ds : List D} (h : μ[n]? = some (.lst (ds.map DV.dat))) : peek μ (.loc n) = some (.lst ds) := peekK_loc h
theorem peekPy_loc {n : Nat} {μ : Mem} {ds : List D} {ps : List PyData} (h : μ[n]? = some (.lst (ds.map DV.dat))) (hp : toPyL ds = some ps) : peekPy μ (.loc n) = some (.list ps) := by
  unfold peekPy; rw [peek_loc h]; simp [toPy, hp]
theorem peekPy_dat {μ : Mem} {d : D} {p : PyData} (h : toPy d = some p) : peekPy μ (.dat d) = some p := by unfold peekPy peek; rw [peekK_dat]; exact h
/-! ### methods -/
theorem ev_bm1 {c : DV → Mem → Bool} {g : DV → List DV → Mem → Res R} {f h : EM} {δ : Env} {μ μ1 μ2 : Mem} {x y : DV} {r : Res R} (h1 : frzV f δ μ = .ok x μ1) (hc : c x μ1 = true) (h2 : frzV h δ μ1 = .ok y μ2) (h3 : g x [y] μ2 = r) : eBM c g f (aCons h aNil) δ μ = r := by
  unfold eBM; rw [h1]; simp only [Res.bind]; rw [if_pos hc]; unfold aCons aNil; rw [h2]; simp only [Res.bind]; exact h3
theorem ev_bm0 {c : DV → Mem → Bool} {g : DV → List DV → Mem → Res R} {f : EM} {δ : Env} {μ μ1 : Mem} {x : DV} {r : Res R} (h1 : frzV f δ μ = .ok x μ1) (hc : c x μ1 = true) (h3 : g x [] μ1 = r) : eBM0 c g f δ μ = r := by
  unfold eBM0; rw [h1]; simp only [Res.bind]; rw [if_pos hc]; exact h3
theorem tyL_loc {μ : Mem} {n : Nat} {xs : List DV} (h : μ[n]? = some (.lst xs)) : tyL (.loc n) μ = true := by unfold tyL; rw [asL_loc h]; rfl
theorem pop_ok {μ : Mem} {n k : Nat} {ys : List DV} {y : DV} (h : μ[n]? = some (.lst ys)) (hk : ys[k]? = some y) (hb : k < 2 ^ 63) : dPop (.loc n) [.dat (.int k)] μ = .ok (ofV y) (μ.set n (.lst (ys.eraseIdx k))) := by
  have hl : k < ys.length := (List.getElem?_eq_some_iff.mp hk).1
  have e : seqIndex? (k : Int) ys.length = some k := by
    have : ¬ ((k : Int) < 0) := by omega
    simp [seqIndex?, this, hl]
  have c : -2 ^ 63 ≤ (k : Int) ∧ (k : Int) < 2 ^ 63 := ⟨by omega, by exact_mod_cast hb⟩
  simp only [dPop, atPl, h, asI]
  rw [if_pos c]
  simp only [e, hk]
theorem app_ok {μ : Mem} {n : Nat} {ys : List DV} {y : DV} (h : μ[n]? = some (.lst ys)) (hl : ys.length < sizeLine) (hb : belowB n y = true) : dAppend (.loc n) [y] μ = .ok (.dat .non) (μ.set n (.lst (ys ++ [y]))) := by
  simp only [dAppend, atPl, h]; rw [if_pos ⟨hl, hb⟩]
theorem clear_ok {μ : Mem} {n : Nat} {ys : List DV} (h : μ[n]? = some (.lst ys)) : dClear (.loc n) [] μ = .ok (.dat .non) (μ.set n (.lst [])) := by
  simp only [dClear, atPl, h]
theorem len_loc {μ : Mem} {n : Nat} {ys : List DV} (h : μ[n]? = some (.lst ys)) : d1 dLen [.loc n] μ = .ok (.dat (.int ys.length)) μ := by simp [d1, dLen, asS, asL, h]
theorem len_lst {μ : Mem} {ds : List D} : d1 dLen [.dat (.lst ds)] μ = .ok (.dat (.int ds.length)) μ := by simp [d1, dLen, asS, asL]
/-! ### the mixed list -/
def gMixed : SM :=
    (gSeq (gPar2 2 3 (eCB (d1 dList) (aCons (eVar 1) aNil)) (eLst aNil))
    (gSeq (gWh 100000 [true, true, true, true] (tmB (eOp dNe (eVar 2) (eLst aNil))) (gDrop (eBM tyL dAppend (eVar 3) (aCons (eBM tyL dPop (eVar 2) (aCons (eCB (callD gTake 2 5) (aCons (eVar 0) (aCons (eCB (d1 dLen) (aCons (eVar 2) aNil)) aNil))) aNil)) aNil))))
    (gRet (eVar 3))))
theorem map_erase {α β : Type} (f : α → β) : ∀ (l : List α) (k : Nat), (l.map f).eraseIdx k = (l.eraseIdx k).map f
  | [], k => by simp
  | a :: l, 0 => by simp
  | a :: l, k + 1 => by simp [map_erase f l k]
theorem ap0 {μ : Mem} {a b : Pl} : (μ ++ [a, b])[μ.length]? = some a := by simp
theorem ap1 {μ : Mem} {a b : Pl} : (μ ++ [a, b])[μ.length + 1]? = some b := by simp
theorem st0 {μ : Mem} {a b c : Pl} : (μ ++ [a, b]).set μ.length c = μ ++ [c, b] := by simp [List.set_append]
theorem st1 {μ : Mem} {a b c : Pl} : (μ ++ [a, b]).set (μ.length + 1) c = μ ++ [a, c] := by simp [List.set_append]
theorem apn {μ X : Mem} {n : Nat} {p : Pl} (h : μ[n]? = some p) : (μ ++ X)[n]? = some p := by rw [List.getElem?_append_left (pl_lt h)]; exact h
theorem stn {μ X : Mem} {n : Nat} {p q : Pl} (h : μ[n]? = some p) : (μ ++ X).set n q = μ.set n q ++ X := by rw [List.set_append_left _ _ (pl_lt h)]
theorem toPyL_fit {k w : Nat} : ∀ (ds : List D), (∀ d ∈ ds, ∃ p, toPy d = some p ∧ Fit k w p) → ∃ ps, toPyL ds = some ps ∧ ps.length = ds.length ∧ ∀ p ∈ ps, Fit k w p
  | [], _ => ⟨[], rfl, rfl, fun _ h => by cases h⟩
  | d :: ds, h => by
    obtain ⟨p, h1, h2⟩ := h d List.mem_cons_self
    obtain ⟨ps, h3, h4, h5⟩ := toPyL_fit ds fun e he => h e (List.mem_cons_of_mem _ he)
    refine ⟨p :: ps, by simp [toPyL, h1, h3], by simp [h4], fun q hq => ?_⟩
    rcases List.mem_cons.mp hq with rfl | hq
    · exact h2
    · exact h5 q hq
theorem ne_nil {μ : Mem} {n k w : Nat} {ds : List D} (hk : k < 64) (h : μ[n]? = some (.lst (ds.map DV.dat))) (hd : ∀ d ∈ ds, ∃ p, toPy d = some p ∧ Fit k w p) : dNe (.loc n) (.dat (.lst [])) μ = .ok (.dat (.bl (!ds.isEmpty))) μ := by
  obtain ⟨ps, h1, h2, h3⟩ := toPyL_fit ds hd
  have f := fit_list h3 (Nat.le_refl _)
  have f0 : Fit 1 0 (.list []) := (fit_list (k := 0) (w := 0) (n := 0) (ps := []) (fun _ h => by cases h) (Nat.le_refl _)).mono (Nat.le_refl _) (Nat.le_refl _)
  refine (eq_any false (peekPy_loc h h1) (peekPy_dat (d := .lst []) (p := .list []) rfl) f f0 (by omega) (by omega)).trans ?_
  cases ds with
  | nil => cases ps with
    | nil => rfl
    | cons _ _ => cases h2
  | cons d ds => cases ps with
    | nil => cases h2
    | cons _ _ => rfl
theorem mixed_turn {n : Nat} {th : DV} {left found : List D} {B : Bg} {μ : Mem} {N : Nat} (hB : B.ok) (h : μ[n]? = some B.pl) (hl : 0 < left.length) (hs : left.length + found.length < 16777216) :
    ∃ (k : Nat) (d : D), left[k]? = some d ∧ gDrop (eBM tyL dAppend (eVar 3) (aCons (eBM tyL dPop (eVar 2) (aCons (eCB (callD gTake 2 5) (aCons (eVar 0) (aCons (eCB (d1 dLen) (aCons (eVar 2) aNil)) aNil))) aNil)) aNil))
        N [some (.loc n), some th, some (.loc μ.length), some (.loc (μ.length + 1))] (μ ++ [.lst (left.map DV.dat), .lst (found.map DV.dat)]) =
      .next [some (.loc n), some th, some (.loc μ.length), some (.loc (μ.length + 1))] (μ.set n (takeB B left.length).2.pl ++ [.lst ((left.eraseIdx k).map DV.dat), .lst ((found ++ [d]).map DV.dat)]) := by
  obtain ⟨o1, o2, o3⟩ := takeB_ok hB (m := (left.length : Int)) (by omega)
  have e1 : eCB (callD gTake 2 5) (aCons (eVar 0) (aCons (eCB (d1 dLen) (aCons (eVar 2) aNil)) aNil)) [some (.loc n), some th, some (.loc μ.length), some (.loc (μ.length + 1))] (μ ++ [.lst (left.map DV.dat), .lst (found.map DV.dat)]) =
      .ok (.dat (.int (takeB B left.length).1)) (μ.set n (takeB B left.length).2.pl ++ [.lst (left.map DV.dat), .lst (found.map DV.dat)]) := by
    have l : eCB (d1 dLen) (aCons (eVar 2) aNil) [some (.loc n), some th, some (.loc μ.length), some (.loc (μ.length + 1))] (μ ++ [.lst (left.map DV.dat), .lst (found.map DV.dat)]) = .ok (.dat (.int left.length)) (μ ++ [.lst (left.map DV.dat), .lst (found.map DV.dat)]) := by
      refine (ev_cb1 (fz_var (i := 2) rfl) (len_loc ap0)).trans ?_; rw [List.length_map]
    refine (ev_cb2 (fz_var (i := 0) rfl) (fz_ofD l) (take_spec hB (apn h) (by omega) (by omega))).trans ?_
    rw [stn h]
  generalize (takeB B left.length).1 = t at *
  generalize (takeB B left.length).2 = B2 at *
  obtain ⟨k, rfl⟩ := Int.eq_ofNat_of_zero_le o2
  have hk : k < left.length := by omega
  have hk' : left[k]? = some (left[k]'hk) := List.getElem?_eq_getElem hk
  generalize left[k]'hk = d at hk'
  refine ⟨k, d, hk', ?_⟩
  have hL : μ.length = (μ.set n B2.pl).length := (List.length_set ..).symm
  have e2 : eBM tyL dPop (eVar 2) (aCons (eCB (callD gTake 2 5) (aCons (eVar 0) (aCons (eCB (d1 dLen) (aCons (eVar 2) aNil)) aNil))) aNil) [some (.loc n), some th, some (.loc μ.length), some (.loc (μ.length + 1))] (μ ++ [.lst (left.map DV.dat), .lst (found.map DV.dat)]) =
      .ok (ofV (.dat d)) (μ.set n B2.pl ++ [.lst ((left.eraseIdx k).map DV.dat), .lst (found.map DV.dat)]) := by
    refine (ev_bm1 (fz_var (i := 2) rfl) (tyL_loc ap0) (fz_ofD e1) (pop_ok (k := k) (y := .dat d) (ys := left.map DV.dat) (by rw [hL]; exact ap0) (by rw [List.getElem?_map, hk']; rfl) (by omega))).trans ?_
    rw [hL, st0, map_erase]
  refine drop_ok (r := .dat .non) ((ev_bm1 (fz_var (i := 3) rfl) (tyL_loc ap1) (fz_of e2) (app_ok (ys := found.map DV.dat) (by rw [hL]; exact ap1) (by rw [List.length_map]; exact Nat.lt_of_lt_of_le (show found.length < 16777216 by omega) (by decide)) rfl)).trans ?_)
  rw [hL, st1, List.map_append]; rfl
theorem erase_perm {α : Type} : ∀ (l : List α) (k : Nat) (d : α), l[k]? = some d → (d :: l.eraseIdx k).Perm l
  | [], k, d, h => by simp at h
  | a :: l, 0, d, h => by simp at h; subst h; exact List.Perm.refl _
  | a :: l, k + 1, d, h => by
    have := erase_perm l k d (by simpa using h)
    exact (List.Perm.swap a d _).trans (List.Perm.cons a this)
theorem mixed_loop {n : Nat} {th : D} {k w : Nat} (hk : k < 64) : ∀ (m : Nat) (left found : List D) (B : Bg) (μ : Mem) (fuel N : Nat), B.ok → μ[n]? = some B.pl → left.length = m → m < fuel → left.length + found.length < 16777216 →
    (∀ d ∈ left, ∃ p, toPy d = some p ∧ Fit k w p) →
    ∃ (ys : List D) (B' : Bg), B'.ok ∧ ys.Perm (found ++ left) ∧
      whL (μ.length + 2) [true, true, true, true] (tmB (eOp dNe (eVar 2) (eLst aNil))) (gDrop (eBM tyL dAppend (eVar 3) (aCons (eBM tyL dPop (eVar 2) (aCons (eCB (callD gTake 2 5) (aCons (eVar 0) (aCons (eCB (d1 dLen) (aCons (eVar 2) aNil)) aNil))) aNil)) aNil)))
        N fuel [some (.loc n), some (.dat th), some (.loc μ.length), some (.loc (μ.length + 1))] (μ ++ [.lst (left.map DV.dat), .lst (found.map DV.dat)]) =
      .next [some (.loc n), some (.dat th), some (.loc μ.length), some (.loc (μ.length + 1))] (μ.set n B'.pl ++ [.lst [], .lst (ys.map DV.dat)]) := by
  intro m
  induction m with
  | zero =>
    intro left found B μ fuel N hB h hm hf hs hd
    cases left with
    | cons _ _ => cases hm
    | nil =>
      cases fuel with
      | zero => omega
      | succ fuel =>
        refine ⟨found, B, hB, by simp, ?_⟩
        have t : tmB (eOp dNe (eVar 2) (eLst aNil)) [some (.loc n), some (.dat th), some (.loc μ.length), some (.loc (μ.length + 1))] (μ ++ [.lst (([] : List D).map DV.dat), .lst (found.map DV.dat)]) = .ok false (μ ++ [.lst (([] : List D).map DV.dat), .lst (found.map DV.dat)]) :=
          tm_of (ev_op (fz_var (i := 2) rfl) (show frzV (eLst aNil) _ _ = .ok (.dat (.lst [])) _ from rfl) (ne_nil hk (ds := []) ap0 hd))
        unfold whL
        rw [t]
        have : μ.set n B.pl = μ := by
          apply List.ext_getElem?
          intro i
          by_cases c : n = i
          · subst c; rw [set_at h, h]
          · rw [List.getElem?_set_ne c]
        rw [this]; rfl
  | succ m ih =>
    intro left found B μ fuel N hB h hm hf hs hd
    cases fuel with
    | zero => omega
    | succ fuel =>
      obtain ⟨j, d, hj, e⟩ := mixed_turn (th := .dat th) (N := N) (left := left) (found := found) hB h (by omega) hs
      obtain ⟨o1, o2, o3⟩ := takeB_ok hB (m := (left.length : Int)) (by omega)
      have hjl : j < left.length := (List.getElem?_eq_some_iff.mp hj).1
      have hl : (left.eraseIdx j).length = m := by rw [List.length_eraseIdx, if_pos hjl]; omega
      obtain ⟨ys, B', oB, pm, eq⟩ := ih (left.eraseIdx j) (found ++ [d]) (takeB B left.length).2 (μ.set n (takeB B left.length).2.pl) fuel N o1 (set_at h) hl (by omega) (by rw [List.length_append, hl]; simp; omega) (fun x hx => hd x (List.mem_of_mem_eraseIdx hx))
      refine ⟨ys, B', oB, pm.trans ?_, ?_⟩
      · rw [List.append_assoc]
        exact List.Perm.append_left found (erase_perm left j d hj)
      · have t : tmB (eOp dNe (eVar 2) (eLst aNil)) [some (.loc n), some (.dat th), some (.loc μ.length), some (.loc (μ.length + 1))] (μ ++ [.lst (left.map DV.dat), .lst (found.map DV.dat)]) = .ok true (μ ++ [.lst (left.map DV.dat), .lst (found.map DV.dat)]) := by
          refine tm_of ((ev_op (fz_var (i := 2) rfl) (show frzV (eLst aNil) _ _ = .ok (.dat (.lst [])) _ from rfl) (ne_nil hk (ds := left) ap0 hd)).trans ?_)
          cases left with
          | nil => cases hm
          | cons _ _ => rfl
        unfold whL
        rw [t]
        show turnL _ _ (gDrop _ _ _ _) _ = _
        rw [e]
        have hn := pl_lt h
        have c1 : n < μ.length + 2 := by omega
        have c2 : μ.length < μ.length + 2 := by omega
        have c3 : μ.length + 1 < μ.length + 2 := by omega
        rw [List.length_set, List.set_set] at eq
        rw [← eq]
        simp only [turnL, cut, cutV, if_pos c1, if_pos c2, if_pos c3, if_true]
        congr 1
        exact List.take_of_length_le (by simp)
theorem mixed_spec {n : Nat} {ds : List D} {k w : Nat} {B : Bg} {μ : Mem} (hk : k < 64) (hB : B.ok) (h : μ[n]? = some B.pl) (hs : ds.length < 100000) (hd : ∀ d ∈ ds, ∃ p, toPy d = some p ∧ Fit k w p) :
    ∃ (ys : List D) (B' : Bg), B'.ok ∧ ys.Perm ds ∧ callD gMixed 2 2 [.loc n, .dat (.lst ds)] μ = .ok (.nl (ys.map DV.dat)) (μ.set n B'.pl) := by
  obtain ⟨ys, B', oB, pm, eq⟩ := mixed_loop (th := .lst ds) (n := n) hk ds.length ds [] B μ 100000 μ.length hB h rfl hs (by simp; omega) hd
  refine ⟨ys, B', oB, by simpa using pm, ?_⟩
  have hL : μ.length = (μ.set n B'.pl).length := (List.length_set ..).symm
  have g1 : gPar2 2 3 (eCB (d1 dList) (aCons (eVar 1) aNil)) (eLst aNil) μ.length [some (.loc n), some (.dat (.lst ds)), none, none] μ = .next [some (.loc n), some (.dat (.lst ds)), some (.loc μ.length), some (.loc (μ.length + 1))] (μ ++ [.lst (ds.map DV.dat), .lst []]) := by
    have e1 : eCB (d1 dList) (aCons (eVar 1) aNil) [some (.loc n), some (.dat (.lst ds)), none, none] μ = .ok (.nl (ds.map DV.dat)) μ := ev_cb1 (fz_var (i := 1) rfl) (by simp [d1, dList, asS, asL])
    have e2 : eLst aNil [some (.loc n), some (.dat (.lst ds)), none, none] (μ ++ [.lst (ds.map DV.dat)]) = .ok (.nl []) (μ ++ [.lst (ds.map DV.dat)]) := rfl
    unfold gPar2
    rw [e1]
    simp only [lift, bindR, if_pos (Nat.le_refl μ.length)]
    rw [e2]
    simp only [lift, bindR]
    rw [if_pos (by simp)]
    simp
  refine call_ret (r := .loc (μ.length + 1)) rfl (sq_next g1 (sq_next (μ' := μ.set n B'.pl ++ [.lst [], .lst (ys.map DV.dat)]) (δ' := [some (.loc n), some (.dat (.lst ds)), some (.loc μ.length), some (.loc (μ.length + 1))]) ?_ (ret_ok (ev_var (i := 3) (x := .loc (μ.length + 1)) rfl)))) ?_
  · show whL (μ ++ _).length _ _ _ _ _ _ _ = _
    rw [show (μ ++ [Pl.lst (ds.map DV.dat), Pl.lst []]).length = μ.length + 2 by simp]
    exact eq
  · unfold closeR
    simp only
    rw [if_neg (by omega)]
    rw [hL, ap1]
    simp only
    have : belowA (μ.set n B'.pl).length (ys.map DV.dat) = true := by
      unfold belowA; rw [List.all_eq_true]; intro x hx
      obtain ⟨d, _, rfl⟩ := List.mem_map.mp hx; rfl
    rw [if_pos this, List.take_left]
/-! ### one of a list -/
def gOne : SM := (gRet (eOp dIx (eVar 1) (eCB (callD gTake 2 5) (aCons (eVar 0) (aCons (eCB (d1 dLen) (aCons (eVar 1) aNil)) aNil)))))
theorem one_spec {n : Nat} {ds : List D} {B : Bg} {μ : Mem} (hB : B.ok) (h : μ[n]? = some B.pl) (h0 : 0 < ds.length) (hs : ds.length < 1073741824) :
    ∃ (d : D) (B' : Bg), B'.ok ∧ d ∈ ds ∧ callD gOne 2 0 [.loc n, .dat (.lst ds)] μ = .ok (.dat d) (μ.set n B'.pl) := by
  obtain ⟨o1, o2, o3⟩ := takeB_ok hB (m := (ds.length : Int)) (by omega)
  have e1 := take_spec hB h (m := (ds.length : Int)) (by omega) (by omega)
  generalize (takeB B ds.length).1 = t at *
  generalize (takeB B ds.length).2 = B2 at *
  obtain ⟨k, rfl⟩ := Int.eq_ofNat_of_zero_le o2
  have hk : k < ds.length := by omega
  have hk' : ds[k]? = some (ds[k]'hk) := List.getElem?_eq_getElem hk
  refine ⟨ds[k], B2, o1, List.getElem_mem hk, call_ret rfl (ret_ok (ev_op (fz_var (i := 1) rfl) (fz_ofD (ev_cb2 (fz_var (i := 0) rfl) (fz_ofD (ev_cb1 (fz_var (i := 1) rfl) len_lst)) e1)) (dIx_lst (atI_nat hk')))) ?_⟩
  show Res.ok _ (List.take _ _) = _
  rw [take_len]
/-! ### the bag at the start -/
def gBag : SM := (gRet (eLst (aCons (eD (.int 0)) (aCons (eD (.int 1234567891)) (aCons (eD (.int 0)) (aCons (eLc (imSeq (eSl (eVar 0) oNone (oSome (eD (.int 63))))) (tgName 1) tmYes (eCB (d1 dAbs) (aCons (eVar 1) aNil)) [1]) aNil))))))
def bag0 (ns : List Int) : Bg := ⟨0, 1234567891, 0, (ns.take 63).map fun i => if i < 0 then -i else i⟩
theorem bag0_ok (ns : List Int) : (bag0 ns).ok := ⟨Int.le_refl 0, by show (0 : Int) ≤ 1234567891; decide, by show (1234567891 : Int) < 2147483647; decide, Int.le_refl 0, fun z hz => by
  obtain ⟨i, _, rfl⟩ := List.mem_map.mp hz
  split <;> omega⟩
theorem lc_bag {d0 : D} {μ : Mem} : ∀ (is : List Int), lcL (tgName 1) tmYes (eCB (d1 dAbs) (aCons (eVar 1) aNil)) [some (.dat d0), none] (is.map D.int) μ = .ok (is.map fun i => .dat (.int (if i < 0 then -i else i))) μ
  | [] => rfl
  | i :: is => by
    have e : frzV (eCB (d1 dAbs) (aCons (eVar 1) aNil)) [some (.dat d0), some (.dat (.int i))] μ = .ok (.dat (.int (if i < 0 then -i else i))) μ := fz_ofD (ev_cb1 (fz_var (i := 1) rfl) rfl)
    have ih := lc_bag (d0 := d0) (μ := μ) is
    simp only [List.map_cons, lcL, tgName, tmYes, List.set_cons_succ, List.set_cons_zero, e, ih, Res.bind]
theorem bag_spec {ns : List Int} {μ : Mem} : callD gBag 1 1 [.dat (.fro (ns.map D.int))] μ = .ok (.nl [.dat (.int (bag0 ns).a), .dat (.int (bag0 ns).b), .dat (.int (bag0 ns).c), .dat (.lst ((bag0 ns).cs.map D.int))]) μ := by
  have e1 : eLc (imSeq (eSl (eVar 0) oNone (oSome (eD (.int 63))))) (tgName 1) tmYes (eCB (d1 dAbs) (aCons (eVar 1) aNil)) [1] [some (.dat (.fro (ns.map D.int))), none] μ = .ok (.nl ((bag0 ns).cs.map fun i => .dat (.int i))) μ := by
    have s : imSeq (eSl (eVar 0) oNone (oSome (eD (.int 63)))) [some (.dat (.fro (ns.map D.int))), none] μ = .ok ((ns.take 63).map D.int) μ := by
      have q : eSl (eVar 0) oNone (oSome (eD (.int 63))) [some (.dat (.fro (ns.map D.int))), none] μ = .ok (.nl (((ns.take 63).map D.int).map DV.dat)) μ := by
        unfold eSl; rw [fz_var (i := 0) (x := .dat (.fro (ns.map D.int))) rfl]
        simp only [Res.bind, oNone, oSome, fz_D, asI, dSl, asL]
        congr 2
        unfold cutL
        rw [HT.sIx_none, show (some (63 : Int)) = some ((63 : Nat) : Int) from rfl, HT.sIx_nat]
        simp [List.map_take]
      unfold imSeq frzV
      rw [q]
      simp only [Res.bind, frz]
      rw [allDat_map]
      rfl
    unfold eLc
    rw [s]
    simp only [Res.bind]
    rw [if_pos (by simp; exact Nat.le_trans (Nat.min_le_left _ _) (by decide))]
    show Res.bind (lcL _ _ _ [some (.dat (.fro (ns.map D.int))), none] _ _) _ = _
    rw [lc_bag]
    simp [Res.bind, bag0, Function.comp_def]
  refine call_ret rfl (ret_ok (r := .nl [.dat (.int (bag0 ns).a), .dat (.int (bag0 ns).b), .dat (.int (bag0 ns).c), .dat (.lst ((bag0 ns).cs.map D.int))]) (μ' := μ) ?_) ?_
  · have e2 : frzV (eLc (imSeq (eSl (eVar 0) oNone (oSome (eD (.int 63))))) (tgName 1) tmYes (eCB (d1 dAbs) (aCons (eVar 1) aNil)) [1]) [some (.dat (.fro (ns.map D.int))), none] μ = .ok (.dat (.lst ((bag0 ns).cs.map D.int))) μ := by
      unfold frzV; rw [e1]; simp only [Res.bind, frz]
      rw [show ((bag0 ns).cs.map fun i => DV.dat (D.int i)) = ((bag0 ns).cs.map D.int).map DV.dat by simp, allDat_map]; rfl
    show eLst _ [some (.dat (.fro (ns.map D.int))), none] μ = _
    generalize (eLc (imSeq (eSl (eVar 0) oNone (oSome (eD (.int 63))))) (tgName 1) tmYes (eCB (d1 dAbs) (aCons (eVar 1) aNil)) [1]) = ff at *
    unfold eLst aCons aNil
    simp only [fz_D, Res.bind, e2]
    rw [if_pos (by simp; decide)]
    rfl
  · unfold closeR
    simp only
    rw [if_pos (show belowA _ _ = true from rfl), List.take_length]
end DL
namespace DL
open PySem PySem.Spec PyProof.Rows L2
/-! ### more evaluation -/
theorem ev_lc {fi : IM} {h : D → Env → Option Env} {ft : TM} {fe : EM} {vs : List Nat} {δ : Env} {μ μ1 μ2 : Mem} {ds : List D} {ys : List DV} (hi : fi δ μ = .ok ds μ1) (hl : ds.length ≤ sizeLine) (hp : lcL h ft fe (wipeE δ vs) ds μ1 = .ok ys μ2) : eLc fi h ft fe vs δ μ = .ok (.nl ys) μ2 := by
  unfold eLc; rw [hi]; simp only [Res.bind]; rw [if_pos hl, hp]
theorem lc_pure {h : D → Env → Option Env} {ft : TM} {fe : EM} {δ : Env} {μ : Mem} (δ1 : D → Env) (c : D → Bool) (y : D → DV) : ∀ (ds : List D), (∀ d ∈ ds, h d δ = some (δ1 d) ∧ ft (δ1 d) μ = .ok (c d) μ ∧ (c d = true → frzV fe (δ1 d) μ = .ok (y d) μ)) → lcL h ft fe δ ds μ = .ok ((ds.filter c).map y) μ
  | [], _ => rfl
  | d :: ds, H => by
    obtain ⟨h1, h2, h3⟩ := H d List.mem_cons_self
    have ih := lc_pure (h := h) (ft := ft) (fe := fe) (δ := δ) (μ := μ) δ1 c y ds fun e he => H e (List.mem_cons_of_mem _ he)
    cases hc : c d with
    | true => simp only [lcL, h1, h2, hc, h3 hc, ih, Res.bind, List.filter_cons, if_true, if_pos trivial, List.map_cons]
    | false => simp [lcL, h1, h2, hc, ih, List.filter_cons]
theorem lc_all {h : D → Env → Option Env} {fe : EM} {δ : Env} {μ : Mem} (δ1 : D → Env) (y : D → DV) (ds : List D) (H : ∀ d ∈ ds, h d δ = some (δ1 d) ∧ frzV fe (δ1 d) μ = .ok (y d) μ) : lcL h tmYes fe δ ds μ = .ok (ds.map y) μ := by
  refine (lc_pure δ1 (fun _ => true) y ds fun d hd => ⟨(H d hd).1, rfl, fun _ => (H d hd).2⟩).trans ?_
  rw [List.filter_eq_self.mpr (fun _ _ => rfl)]
theorem im_seq {f : EM} {δ : Env} {μ μ' : Mem} {x : DV} {ds : List D} (h : frzV f δ μ = .ok x μ') (hs : seqD x = some ds) : imSeq f δ μ = .ok ds μ' := by unfold imSeq; rw [h]; simp only [Res.bind, hs]
theorem im_rng {f : EM} {δ : Env} {μ μ' : Mem} {j : Int} (h : frzV f δ μ = .ok (.dat (.int j)) μ') (hj : -2 ^ 62 ≤ j ∧ j < 2 ^ 62) : imRng (aCons f aNil) δ μ = .ok (rngD 0 j.toNat) μ' := by
  unfold imRng aCons aNil; rw [h]; simp only [Res.bind, asI]; rw [if_pos hj]
theorem im_enum {f : EM} {δ : Env} {μ μ' : Mem} {x : DV} {ds : List D} (h : frzV f δ μ = .ok x μ') (hs : seqD x = some ds) : imEnum (aCons f aNil) δ μ = .ok (enumD 0 ds) μ' := by
  unfold imEnum aCons aNil; rw [h]; simp only [Res.bind, hs]
theorem ev_sl {f : EM} {lo hi : OM} {δ : Env} {μ μ1 μ2 μ3 : Mem} {x : DV} {l u : Option Int} {r : Res R} (h : frzV f δ μ = .ok x μ1) (hl : lo δ μ1 = .ok l μ2) (hh : hi δ μ2 = .ok u μ3) (hr : dSl x l u μ3 = r) : eSl f lo hi δ μ = r := by
  unfold eSl; rw [h]; simp only [Res.bind]; rw [hl]; simp only; rw [hh]; exact hr
theorem o_some {f : EM} {δ : Env} {μ μ' : Mem} {i : Int} (h : frzV f δ μ = .ok (.dat (.int i)) μ') : oSome f δ μ = .ok (some i) μ' := by unfold oSome; rw [h]; simp only [Res.bind, asI]
theorem fz_nl {f : EM} {δ : Env} {μ μ' : Mem} {ds : List D} (h : f δ μ = .ok (.nl (ds.map DV.dat)) μ') : frzV f δ μ = .ok (.dat (.lst ds)) μ' := by unfold frzV; rw [h]; simp only [Res.bind, frz]; rw [allDat_map]; rfl
theorem sl_lst {ds : List D} {l u : Option Int} {μ : Mem} : dSl (.dat (.lst ds)) l u μ = .ok (.nl ((cutL ds l u).map DV.dat)) μ := by
  simp only [dSl, asL]; congr 2; unfold cutL; simp [List.map_drop, List.map_take]
theorem sl_tup {ds : List D} {l u : Option Int} {μ : Mem} : dSl (.dat (.tup ds)) l u μ = .ok (.dat (.tup (cutL ds l u))) μ := rfl
theorem cut_from {α : Type} (xs : List α) (k : Nat) {i : Int} (hi : i = (k : Int) := by rfl) : cutL xs (some i) none = xs.drop k := by
  subst hi
  unfold cutL; rw [HT.sIx_none, HT.sIx_nat]
  by_cases c : k ≤ xs.length
  · rw [Nat.min_eq_left c]; exact List.take_of_length_le (by simp)
  · rw [Nat.min_eq_right (by omega), List.drop_of_length_le (Nat.le_refl _), List.drop_of_length_le (by omega)]; simp
theorem cut_to {α : Type} (xs : List α) (k : Nat) : cutL xs none (some (k : Int)) = xs.take k := by
  unfold cutL; rw [HT.sIx_none, HT.sIx_nat, List.drop_zero, Nat.sub_zero]
  by_cases c : k ≤ xs.length
  · rw [Nat.min_eq_left c]
  · rw [Nat.min_eq_right (by omega), List.take_of_length_le (Nat.le_refl _), List.take_of_length_le (by omega)]
theorem cut_at2 {α : Type} (xs : List α) (a b : Nat) (h : a ≤ b) (hb : b ≤ xs.length) : cutL xs (some (a : Int)) (some (b : Int)) = (xs.drop a).take (b - a) := by
  unfold cutL; rw [HT.sIx_nat, HT.sIx_nat, Nat.min_eq_left (show a ≤ xs.length by omega), Nat.min_eq_left hb]
theorem cutL_mem {α : Type} {xs : List α} {l u : Option Int} {x : α} (h : x ∈ cutL xs l u) : x ∈ xs := List.mem_of_mem_drop (List.mem_of_mem_take h)
theorem dIx_tup {μ : Mem} {ds : List D} {i : Int} {d : D} (h : atI ds i = some d) : dIx (.dat (.tup ds)) (.dat (.int i)) μ = .ok (.dat d) μ := by
  have : atI (ds.map DV.dat) i = some (.dat d) := by
    unfold atI at h ⊢
    rw [List.length_map]
    cases q : ixN ds.length i with
    | none => rw [q] at h; cases h
    | some j => rw [q] at h; simp only [Option.bind_some] at h ⊢; rw [List.getElem?_map, h]; rfl
  simp [dIx, asI, asS, asL, asT, this, ofV]
theorem flats_str : ∀ ss : List Str, flats (ss.map fun s => .dat (.str s)) = some (ss.map V.str)
  | [] => rfl
  | s :: ss => by simp [flats, flat, flats_str ss]
theorem inV_str (s : Str) (ss : List Str) : inV (.str s) (ss.map V.str) = decide (s ∈ ss) := by
  induction ss with
  | nil => rfl
  | cons t ss ih =>
    unfold inV at ih ⊢
    rw [List.map_cons, List.any_cons, ih]
    have : eqV (V.str t) (V.str s) = decide (t = s) := by
      show (t == s) = _
      by_cases c : t = s
      · subst c; simp
      · rw [decide_eq_false c]; exact beq_false_of_ne c
    rw [this]
    by_cases c : t = s
    · subst c; simp
    · have c' : ¬ s = t := fun h => c h.symm
      simp [c, c']
theorem in_tup {neg : Bool} {s : Str} {ss : List Str} {μ : Mem} : dIn neg (.dat (.str s)) (.dat (.tup (ss.map D.str))) μ = .ok (.dat (.bl (if neg = true then !decide (s ∈ ss) else decide (s ∈ ss)))) μ := by
  have : (ss.map D.str).map DV.dat = ss.map fun s => .dat (.str s) := by simp
  simp only [dIn, flat, asS, asL, asT, Option.map, this, flats_str, inV_str]
theorem tup_ok {g : AM} {δ : Env} {μ μ' : Mem} {ds : List D} (h : g δ μ = .ok (ds.map DV.dat) μ') (hl : ds.length ≤ sizeLine) : eTup g δ μ = .ok (.dat (.tup ds)) μ' := by
  unfold eTup; rw [h]; simp only [Res.bind, allDat_map]; rw [if_pos hl]
theorem a_cons {f : EM} {g : AM} {δ : Env} {μ μ1 μ2 : Mem} {x : DV} {xs : List DV} (h : frzV f δ μ = .ok x μ1) (hs : g δ μ1 = .ok xs μ2) : aCons f g δ μ = .ok (x :: xs) μ2 := by unfold aCons; rw [h]; simp only [Res.bind]; rw [hs]
theorem a_nil {δ : Env} {μ : Mem} : aNil δ μ = .ok [] μ := rfl
theorem ev_cb {g : List DV → Mem → Res R} {fa : AM} {δ : Env} {μ μ1 : Mem} {xs : List DV} {r : Res R} (h : fa δ μ = .ok xs μ1) (hr : g xs μ1 = r) : eCB g fa δ μ = r := by unfold eCB; rw [h]; exact hr
theorem lst_ok {g : AM} {δ : Env} {μ μ' : Mem} {xs : List DV} (h : g δ μ = .ok xs μ') (hl : xs.length ≤ sizeLine) : eLst g δ μ = .ok (.nl xs) μ' := by unfold eLst; rw [h]; simp only [Res.bind]; rw [if_pos hl]
theorem add_lst {a b : List D} {μ : Mem} (h : a.length + b.length ≤ sizeLine) : dAdd (.dat (.lst a)) (.dat (.lst b)) μ = .ok (.nl ((a ++ b).map DV.dat)) μ := by
  simp only [dAdd, asI, asStr, asT, asM, List.length_map]; rw [if_pos h, List.map_append]
theorem if_ev {ft : TM} {g h : EM} {δ : Env} {μ μ' : Mem} {b : Bool} {r : Res R} (e : ft δ μ = .ok b μ') (k : (if b = true then g δ μ' else h δ μ') = r) : eIf ft g h δ μ = r := by unfold eIf; rw [e]; exact k
theorem close_dat {d : D} {μ μ' : Mem} {N : Nat} (h : μ'.take N = μ) : closeR N (.dat d) μ' = .ok (.dat d) μ := by unfold closeR; simp only; rw [h]
theorem close_nl {ds : List D} {μ μ' : Mem} {N : Nat} (h : μ'.take N = μ) : closeR N (.nl (ds.map DV.dat)) μ' = .ok (.nl (ds.map DV.dat)) μ := by
  have : belowA N (ds.map DV.dat) = true := by
    unfold belowA; rw [List.all_eq_true]; intro x hx
    obtain ⟨d, _, rfl⟩ := List.mem_map.mp hx; rfl
  unfold closeR; simp only; rw [if_pos this, h]
theorem tgt_ok {h : D → Env → Option Env} {f : EM} {N : Nat} {δ δ' : Env} {μ μ' : Mem} {d : D} (e : frzV f δ μ = .ok (.dat d) μ') (k : h d δ = some δ') : gTgt h f N δ μ = .next δ' μ' := by unfold gTgt; rw [e]; simp only [lift, k]
theorem new_nl {f : EM} {i N : Nat} {δ : Env} {μ μ' : Mem} {xs : List DV} (e : f δ μ = .ok (.nl xs) μ') (hN : N ≤ μ'.length) : gNew i f N δ μ = .next (δ.set i (some (.loc μ'.length))) (μ' ++ [.lst xs]) := by unfold gNew; rw [e]; simp only [lift, bindR]; rw [if_pos hN]
theorem ext_tup {μ : Mem} {n : Nat} {ys : List DV} {ds : List D} (h : μ[n]? = some (.lst ys)) (hl : ys.length + ds.length ≤ sizeLine) : dExtend (.loc n) [.dat (.tup ds)] μ = .ok (.dat .non) (μ.set n (.lst (ys ++ ds.map DV.dat))) := by
  simp only [dExtend, atPl, h, asM, asT]; rw [if_pos hl]
theorem tuple_lst {ds : List D} {μ : Mem} : d1 dTuple [.dat (.lst ds)] μ = .ok (.dat (.tup ds)) μ := by simp only [d1, dTuple, asL, allDat_map]
end DL
namespace DL
open PySem PySem.Spec PyProof.Rows L2
/-! ### the law's def itself, and its promise -/
section
variable {P : Program} {w : World} {K : PySem.W.Frag} {mg : Str → Option Value} {base : Heap}
theorem fn_okG {x qual : Str} {st : Stmt} {f : Addr} {fd : FuncData} {Nm ps : List Str} {k n m : Nat} {g : SM} (F : Fun K x qual st f fd) (S : FnScope Nm ps (defScope st)) (hn : ps.length = n) (hmn : Nm.length = n + m)
    (body : ∀ (cdv : Value) (A : Around) (out : List PySem.Env) (s : Shared) (H : Hp) (E : XK), Room k (A.deeper (envOfC qual (defScope st) s.heap.objs.size f cdv)) → A.guards = some [] →
      ∃ ts, PSMs (cxOf CX0 P w K mg base Nm qual (defScope st) f cdv A out s H E).nox (fun cls d _ H => E cls d H) (defBody st) ts g) :
    FnG P w K mg base CX0 (k + 1) f fd ps (spF K n (callD g n m)) := by
  obtain ⟨oc, od, kV, doc, pm, an, cdv, ct, osl, rfl, lk, hcd⟩ := F.ex
  refine fnG_of lk hcd S (fun vs H Q E h => by rw [h.1, hn]) fun A out s H vs Q E hr hg hsp => ?_
  obtain ⟨ts, b⟩ := body cdv A out s H E hr hg
  refine ⟨ts, b.ps.nox, ?_⟩
  have e : Nm.length - n = m := by omega
  exact body_ok (n := n) b.sd (by omega) (by rw [e]; exact sp_callD hsp)
theorem rpl_ints {G : Hp} : ∀ ns : List Int, RpL K G (ns.map V.int) (ns.map D.int)
  | [] => .nil
  | i :: ns => .cons (.int i) (rpl_ints ns)
theorem law_sp {H : Hp} {a : Addr} {ns : List Int} {F : List DV → Mem → Res R} (hS : SqL K H a (ns.map V.int)) {μ' : Mem} (h : F [.dat (.fro (ns.map D.int))] [] = .ok (.dat (.bl true)) μ') :
    spF K 1 F [.ref a] H (fun v _ => v = .bl true) (fun _ _ _ => False) := by
  refine ⟨rfl, fun _ => none, H, [], [.dat (.fro (ns.map D.int))], ⟨Ex.refl _, (fun _ _ _ h => by cases h), (fun _ _ h => by cases h), (fun _ _ h => by cases h), (fun _ _ h => by cases h), (fun _ _ h => by simp at h)⟩, .cons (Rp.fro hS (rpl_ints ns)) .nil, ?_⟩
  rw [h]
  intro G' H' v t R q
  cases q; rfl
theorem dict_mk {d : Addr} {es : Array DictEntry} {n : Nat} (h1 : K.lookup d = some ⟨.type "dict", none, .dict es n, #[]⟩) (h2 : PySem.W.KeysLit w.params es.toList) (h3 : (d == sysModules) = false) : KDict K w d es n := ⟨h1, h2, h3⟩
end
end DL
/-! Symbolic execution of the plain functions: what holds of what they give. -/
namespace DL
open PySem PySem.Spec PyProof.Rows L2
def Sat {α : Type} (r : Res α) (Q : α → Mem → Prop) (E : Xc → Mem → Prop) : Prop := match r with
  | .ok a μ => Q a μ
  | .exc x μ => E x μ
  | .bad => False
structure PO where
  nx : Env → Mem → Prop
  rt : R → Mem → Prop
  bk : Env → Mem → Prop
  ct : Env → Mem → Prop
  ex : Xc → Env → Mem → Prop
def SatS (o : Out) (P : PO) : Prop := match o with
  | .next δ μ => P.nx δ μ
  | .ret r μ => P.rt r μ
  | .brk δ μ => P.bk δ μ
  | .cnt δ μ => P.ct δ μ
  | .exc x δ μ => P.ex x δ μ
  | .bad => False
def TupK (xs : List DV) (Q : D → Prop) : Prop := ∃ ds, allDat xs = some ds ∧ ds.length ≤ sizeLine ∧ Q (.tup ds)
def SeqK (x : DV) (Q : List D → Prop) : Prop := ∃ ds, seqD x = some ds ∧ Q ds
def IntK (x : DV) (Q : Int → Prop) : Prop := ∃ i, asI x = some i ∧ Q i
def StrK (x : DV) (Q : Str → Prop) : Prop := ∃ i, asStr x = some i ∧ Q i
def ParK (xs : List DV) (Q : DV → DV → Prop) : Prop := ∃ x y, xs = [x, y] ∧ Q x y
def TgtK (h : D → Env → Option Env) (δ : Env) (x : DV) (Q : Env → Prop) : Prop := ∃ d δ', x = .dat d ∧ h d δ = some δ' ∧ Q δ'
section
variable {α β : Type} {Q : α → Mem → Prop} {QR : R → Mem → Prop} {QV : DV → Mem → Prop} {QA : List DV → Mem → Prop} {QB : Bool → Mem → Prop} {QO : Option Int → Mem → Prop} {QI : List D → Mem → Prop} {E : Xc → Mem → Prop} {P : PO} {δ : Env} {μ : Mem} {N : Nat}
theorem Sat.mono {r : Res α} {Q' : α → Mem → Prop} {E' : Xc → Mem → Prop} (h : Sat r Q E) (hq : ∀ a μ, Q a μ → Q' a μ) (he : ∀ x μ, E x μ → E' x μ) : Sat r Q' E' := by
  cases r with
  | ok a μ => exact hq a μ h
  | exc x μ => exact he x μ h
  | bad => exact h
theorem Sat.of_eq {r : Res α} {a : α} (e : r = .ok a μ) (h : Q a μ) : Sat r Q E := by rw [e]; exact h
theorem Sat.eq {r : Res α} {a : α} (h : Sat r (fun x μ' => x = a ∧ μ' = μ) (fun _ _ => False)) : r = .ok a μ := by
  cases r with
  | ok b μ1 => obtain ⟨rfl, rfl⟩ := h; rfl
  | exc x μ1 => exact h.elim
  | bad => exact h.elim
theorem sat_bind {r : Res α} {k : α → Mem → Res β} {Q' : β → Mem → Prop} (h : Sat r (fun a μ => Sat (k a μ) Q' E) E) : Sat (r.bind k) Q' E := by
  cases r with
  | ok a μ => exact h
  | exc x μ => exact h
  | bad => exact h
theorem sat_lift {r : Res α} {k : α → Mem → Out} (h : Sat r (fun a μ => SatS (k a μ) P) (fun x μ => P.ex x δ μ)) : SatS (lift r δ k) P := by
  cases r with
  | ok a μ => exact h
  | exc x μ => exact h
  | bad => exact h
/-! ### expressions -/
def FzK (r : R) (μ : Mem) (QV : DV → Mem → Prop) : Prop := match frz r with
  | some x => QV x μ
  | none => False
theorem x_fz {f : EM} (h : Sat (f δ μ) (fun r μ' => FzK r μ' QV) E) : Sat (frzV f δ μ) QV E := by
  refine sat_bind (h.mono (fun r μ' q => ?_) fun _ _ q => q)
  unfold FzK at q
  cases e : frz r with
  | none => rw [e] at q; exact q.elim
  | some x => rw [e] at q; exact q
theorem z_dat {d : D} (h : QV (.dat d) μ) : FzK (.dat d) μ QV := h
theorem z_loc {n : Nat} (h : QV (.loc n) μ) : FzK (.loc n) μ QV := h
theorem z_ofV {x : DV} (h : QV x μ) : FzK (ofV x) μ QV := by unfold FzK; rw [frz_ofV]; exact h
theorem z_nl {xs : List DV} {ds : List D} (e : allDat xs = some ds) (h : QV (.dat (.lst ds)) μ) : FzK (.nl xs) μ QV := by unfold FzK frz; simp only; rw [e]; exact h
theorem z_nlm {ds : List D} (h : QV (.dat (.lst ds)) μ) : FzK (.nl (ds.map DV.dat)) μ QV := z_nl (allDat_map ds) h
theorem allDat_mapf {γ : Type} (f : γ → D) (ys : List γ) : allDat (ys.map fun y => .dat (f y)) = some (ys.map f) := by
  have := allDat_map (ys.map f); rw [List.map_map] at this; exact this
theorem z_nlf {γ : Type} {f : γ → D} {ys : List γ} (h : QV (.dat (.lst (ys.map f))) μ) : FzK (.nl (ys.map fun y => .dat (f y))) μ QV := z_nl (allDat_mapf f ys) h
theorem z_nlc {γ : Type} {f : γ → D} {ys : List γ} (h : QV (.dat (.lst (ys.map f))) μ) : FzK (.nl (ys.map (DV.dat ∘ f))) μ QV := z_nl (allDat_mapf f ys) h
theorem v_var {i : Nat} {x : DV} (e : δ[i]? = some (some x)) (h : QV x μ) : Sat (frzV (eVar i) δ μ) QV E := by rw [fz_var e]; exact h
theorem v_D {d : D} (h : QV (.dat d) μ) : Sat (frzV (eD d) δ μ) QV E := h
theorem x_var {i : Nat} {x : DV} (e : δ[i]? = some (some x)) (h : QR (ofV x) μ) : Sat (eVar i δ μ) QR E := by rw [ev_var e]; exact h
theorem x_D {d : D} (h : QR (.dat d) μ) : Sat (eD d δ μ) QR E := h
theorem a_nilK (h : QA [] μ) : Sat (aNil δ μ) QA E := h
theorem a_consK {f : EM} {g : AM} (h : Sat (frzV f δ μ) (fun x μ1 => Sat (g δ μ1) (fun xs μ2 => QA (x :: xs) μ2) E) E) : Sat (aCons f g δ μ) QA E :=
  sat_bind (h.mono (fun x μ1 q => sat_bind q) fun _ _ q => q)
theorem x_tup {g : AM} (h : Sat (g δ μ) (fun xs μ1 => TupK xs fun d => QR (.dat d) μ1) E) : Sat (eTup g δ μ) QR E := by
  refine sat_bind (h.mono (fun xs μ1 q => ?_) fun _ _ q => q)
  obtain ⟨ds, e, hl, q⟩ := q
  rw [e]; simp only; rw [if_pos hl]; exact q
theorem x_lst {g : AM} (h : Sat (g δ μ) (fun xs μ1 => xs.length ≤ sizeLine ∧ QR (.nl xs) μ1) E) : Sat (eLst g δ μ) QR E := by
  refine sat_bind (h.mono (fun xs μ1 q => ?_) fun _ _ q => q)
  rw [if_pos q.1]; exact q.2
theorem x_op {g : DV → DV → Mem → Res R} {fa fb : EM} (h : Sat (frzV fa δ μ) (fun x μ1 => Sat (frzV fb δ μ1) (fun y μ2 => Sat (g x y μ2) QR E) E) E) : Sat (eOp g fa fb δ μ) QR E :=
  sat_bind (h.mono (fun x μ1 q => sat_bind q) fun _ _ q => q)
theorem x_cb {g : List DV → Mem → Res R} {fa : AM} (h : Sat (fa δ μ) (fun xs μ1 => Sat (g xs μ1) QR E) E) : Sat (eCB g fa δ μ) QR E := sat_bind h
theorem x_un {g : DV → Mem → Res R} {f : EM} (h : Sat (frzV f δ μ) (fun x μ1 => Sat (g x μ1) QR E) E) : Sat (eUn g f δ μ) QR E := sat_bind h
theorem x_bm {c : DV → Mem → Bool} {g : DV → List DV → Mem → Res R} {f : EM} {fa : AM} (h : Sat (frzV f δ μ) (fun x μ1 => c x μ1 = true ∧ Sat (fa δ μ1) (fun xs μ2 => Sat (g x xs μ2) QR E) E) E) : Sat (eBM c g f fa δ μ) QR E := by
  refine sat_bind (h.mono (fun x μ1 q => ?_) fun _ _ q => q)
  rw [if_pos q.1]; exact sat_bind q.2
theorem x_bm0 {c : DV → Mem → Bool} {g : DV → List DV → Mem → Res R} {f : EM} (h : Sat (frzV f δ μ) (fun x μ1 => c x μ1 = true ∧ Sat (g x [] μ1) QR E) E) : Sat (eBM0 c g f δ μ) QR E := by
  refine sat_bind (h.mono (fun x μ1 q => ?_) fun _ _ q => q)
  rw [if_pos q.1]; exact q.2
def BlK (r : R) (μ : Mem) (QB : Bool → Mem → Prop) : Prop := match asB r with
  | some b => QB b μ
  | none => False
theorem b_bl {b : Bool} (h : QB b μ) : BlK (.dat (.bl b)) μ QB := h
theorem BlK.ex {r : R} (h : BlK r μ QB) : ∃ b, r = .dat (.bl b) ∧ asB r = some b ∧ QB b μ := by
  unfold BlK at h
  match r with
  | .dat (.bl b) => exact ⟨b, rfl, rfl, h⟩
  | .dat .non => exact h.elim
  | .dat (.int _) => exact h.elim
  | .dat (.str _) => exact h.elim
  | .dat (.ty _) => exact h.elim
  | .dat (.ref _) => exact h.elim
  | .dat (.tup _) => exact h.elim
  | .dat (.lst _) => exact h.elim
  | .dat (.fro _) => exact h.elim
  | .dat (.dct _) => exact h.elim
  | .dat (.ins _ _) => exact h.elim
  | .loc _ => exact h.elim
  | .nl _ => exact h.elim
  | .nk _ => exact h.elim
theorem t_B {f : EM} (h : Sat (f δ μ) (fun r μ' => BlK r μ' QB) E) : Sat (tmB f δ μ) QB E := by
  refine sat_bind (h.mono (fun r μ1 q => ?_) fun _ _ q => q)
  obtain ⟨b, rfl, _, q⟩ := q.ex; exact q
theorem t_not {f : TM} (h : Sat (f δ μ) (fun b μ' => QB (!b) μ') E) : Sat (tmNot f δ μ) QB E := sat_bind h
theorem t_and {f g : TM} (h : Sat (f δ μ) (fun b μ' => if b = true then Sat (g δ μ') QB E else QB false μ') E) : Sat (tmAnd f g δ μ) QB E := by
  refine sat_bind (h.mono (fun b μ1 q => ?_) fun _ _ q => q)
  cases b <;> exact q
theorem t_or {f g : TM} (h : Sat (f δ μ) (fun b μ' => if b = true then QB true μ' else Sat (g δ μ') QB E) E) : Sat (tmOr f g δ μ) QB E := by
  refine sat_bind (h.mono (fun b μ1 q => ?_) fun _ _ q => q)
  cases b <;> exact q
theorem t_yes (h : QB true μ) : Sat (tmYes δ μ) QB E := h
theorem x_and {f g : EM} (h : Sat (f δ μ) (fun r μ' => BlK r μ' fun b μ' => if b = true then Sat (g δ μ') QR E else QR (.dat (.bl false)) μ') E) : Sat (eAnd f g δ μ) QR E := by
  refine sat_bind (h.mono (fun r μ1 q => ?_) fun _ _ q => q)
  obtain ⟨b, rfl, _, q⟩ := q.ex; cases b <;> exact q
theorem x_or {f g : EM} (h : Sat (f δ μ) (fun r μ' => BlK r μ' fun b μ' => if b = true then QR (.dat (.bl true)) μ' else Sat (g δ μ') QR E) E) : Sat (eOr f g δ μ) QR E := by
  refine sat_bind (h.mono (fun r μ1 q => ?_) fun _ _ q => q)
  obtain ⟨b, rfl, _, q⟩ := q.ex; cases b <;> exact q
theorem x_not {f : EM} (h : Sat (f δ μ) (fun r μ' => BlK r μ' fun b μ' => QR (.dat (.bl (!b))) μ') E) : Sat (eNot f δ μ) QR E := by
  refine sat_bind (h.mono (fun r μ1 q => ?_) fun _ _ q => q)
  obtain ⟨b, rfl, _, q⟩ := q.ex; exact q
theorem x_if {f : TM} {g h : EM} (k : Sat (f δ μ) (fun b μ' => if b = true then Sat (g δ μ') QR E else Sat (h δ μ') QR E) E) : Sat (eIf f g h δ μ) QR E := by
  refine sat_bind (k.mono (fun b μ1 q => ?_) fun _ _ q => q)
  cases b <;> exact q
theorem x_isN {f : EM} (h : Sat (frzV f δ μ) (fun x μ' => QR (.dat (.bl (isNon x))) μ') E) : Sat (eIsN f δ μ) QR E := sat_bind h
theorem x_notN {f : EM} (h : Sat (frzV f δ μ) (fun x μ' => QR (.dat (.bl (!isNon x))) μ') E) : Sat (eNotN f δ μ) QR E := sat_bind h
theorem o_noneK (h : QO none μ) : Sat (oNone δ μ) QO E := h
theorem o_someK {f : EM} (h : Sat (frzV f δ μ) (fun x μ' => IntK x fun i => QO (some i) μ') E) : Sat (oSome f δ μ) QO E := by
  refine sat_bind (h.mono (fun x μ1 q => ?_) fun _ _ q => q)
  obtain ⟨i, e, q⟩ := q; rw [e]; exact q
theorem x_sl {f : EM} {lo hi : OM} (h : Sat (frzV f δ μ) (fun x μ1 => Sat (lo δ μ1) (fun l μ2 => Sat (hi δ μ2) (fun u μ3 => Sat (dSl x l u μ3) QR E) E) E) E) : Sat (eSl f lo hi δ μ) QR E :=
  sat_bind (h.mono (fun _ _ q => sat_bind (q.mono (fun _ _ q => sat_bind q) fun _ _ q => q)) fun _ _ q => q)
theorem x_chain {g g' : DV → DV → Mem → Res R} {fa fb fc : EM} (h : Sat (frzV fa δ μ) (fun x μ1 => Sat (frzV fb δ μ1) (fun y μ2 => Sat (g x y μ2) (fun r μ3 => BlK r μ3 fun b μ3 => if b = true then Sat (frzV fc δ μ3) (fun z μ4 => Sat (g' y z μ4) QR E) E else QR (.dat (.bl false)) μ3) E) E) E) :
    Sat (eChain g g' fa fb fc δ μ) QR E := by
  refine sat_bind (h.mono (fun _ _ q => sat_bind (q.mono (fun _ _ q => sat_bind (q.mono (fun r _ q => ?_) fun _ _ q => q)) fun _ _ q => q)) fun _ _ q => q)
  obtain ⟨b, rfl, _, q⟩ := q.ex; cases b
  · exact q
  · exact sat_bind q
theorem x_inK {neg : Bool} {ks : List Str} {f : EM} (h : Sat (frzV f δ μ) (fun x μ' => StrK x fun z => QR (.dat (.bl (if neg = true then !(ks.any fun k => decide (k = z)) else ks.any fun k => decide (k = z)))) μ') E) : Sat (eInK neg ks f δ μ) QR E := by
  refine sat_bind (h.mono (fun x μ1 q => ?_) fun _ _ q => q)
  obtain ⟨i, e, q⟩ := q; rw [e]; exact q
/-! ### what is walked -/
theorem i_seq {f : EM} (h : Sat (frzV f δ μ) (fun x μ' => SeqK x fun ds => QI ds μ') E) : Sat (imSeq f δ μ) QI E := by
  refine sat_bind (h.mono (fun x μ1 q => ?_) fun _ _ q => q)
  obtain ⟨ds, e, q⟩ := q; rw [e]; exact q
theorem i_enum {f : EM} (h : Sat (frzV f δ μ) (fun x μ' => SeqK x fun ds => QI (enumD 0 ds) μ') E) : Sat (imEnum (aCons f aNil) δ μ) QI E := by
  refine sat_bind (sat_bind (h.mono (fun x μ1 q => ?_) fun _ _ q => q))
  obtain ⟨ds, e, q⟩ := q
  show Sat (match seqD x with | some ds => _ | none => _) _ _
  rw [e]; exact q
theorem i_rng {f : EM} (h : Sat (frzV f δ μ) (fun x μ' => IntK x fun j => (-2 ^ 62 ≤ j ∧ j < 2 ^ 62) ∧ QI (rngD 0 j.toNat) μ') E) : Sat (imRng (aCons f aNil) δ μ) QI E := by
  refine sat_bind (sat_bind (h.mono (fun x μ1 q => ?_) fun _ _ q => q))
  obtain ⟨j, e, hj, q⟩ := q
  show Sat (match asI x with | some j => _ | none => _) _ _
  rw [e]; simp only; rw [if_pos hj]; exact q
theorem i_rng2 {f g : EM} (h : Sat (frzV f δ μ) (fun x μ1 => Sat (frzV g δ μ1) (fun y μ' => IntK x fun i => IntK y fun j => (-2 ^ 62 ≤ i ∧ i < 2 ^ 62 ∧ -2 ^ 62 ≤ j ∧ j < 2 ^ 62) ∧ QI (rngD i (j - i).toNat) μ') E) E) : Sat (imRng2 (aCons f (aCons g aNil)) δ μ) QI E := by
  refine sat_bind (sat_bind (h.mono (fun x μ1 q => sat_bind (sat_bind (q.mono (fun y μ2 q => ?_) fun _ _ q => q))) fun _ _ q => q))
  obtain ⟨i, e, j, e2, hj, q⟩ := q
  show Sat (match asI x, asI y with | some i, some j => _ | _, _ => _) _ _
  rw [e, e2]; simp only; rw [if_pos hj]; exact q
/-! ### comprehensions -/
theorem x_lc {fi : IM} {h : D → Env → Option Env} {ft : TM} {fe : EM} {vs : List Nat} (k : Sat (fi δ μ) (fun ds μ1 => ds.length ≤ sizeLine ∧ Sat (lcL h ft fe (wipeE δ vs) ds μ1) (fun ys μ2 => QR (.nl ys) μ2) E) E) : Sat (eLc fi h ft fe vs δ μ) QR E := by
  refine sat_bind (k.mono (fun ds μ1 q => ?_) fun _ _ q => q)
  rw [if_pos q.1]; exact sat_bind q.2
/-- each item without a change of the memory; xs: what the items stand for -/
theorem lc_mapK {γ : Type} {h : D → Env → Option Env} {fe : EM} {xs : List γ} {enc : γ → D} (y : γ → D) (hx : ∀ x ∈ xs, ∃ δ1, h (enc x) δ = some δ1 ∧ Sat (frzV fe δ1 μ) (fun r μ' => r = .dat (y x) ∧ μ' = μ) (fun _ _ => False)) (hq : QA (xs.map fun x => .dat (y x)) μ) : Sat (lcL h tmYes fe δ (xs.map enc) μ) QA E := by
  have : lcL h tmYes fe δ (xs.map enc) μ = .ok (xs.map fun x => .dat (y x)) μ := by
    clear hq
    induction xs with
    | nil => rfl
    | cons x xs ih =>
      obtain ⟨δ1, h1, h2⟩ := hx x List.mem_cons_self
      have h2 := h2.eq
      simp only [List.map_cons, lcL, h1, tmYes, h2, ih fun z hz => hx z (List.mem_cons_of_mem _ hz), Res.bind]
  rw [this]; exact hq
theorem lc_filK {γ : Type} {h : D → Env → Option Env} {ft : TM} {fe : EM} {xs : List γ} {enc : γ → D} (c : γ → Bool) (y : γ → D) (hx : ∀ x ∈ xs, ∃ δ1, h (enc x) δ = some δ1 ∧ Sat (ft δ1 μ) (fun b μ' => b = c x ∧ μ' = μ) (fun _ _ => False) ∧ (c x = true → Sat (frzV fe δ1 μ) (fun r μ' => r = .dat (y x) ∧ μ' = μ) (fun _ _ => False))) (hq : QA ((xs.filter c).map fun x => .dat (y x)) μ) : Sat (lcL h ft fe δ (xs.map enc) μ) QA E := by
  have : lcL h ft fe δ (xs.map enc) μ = .ok ((xs.filter c).map fun x => .dat (y x)) μ := by
    clear hq
    induction xs with
    | nil => rfl
    | cons x xs ih =>
      obtain ⟨δ1, h1, h2, h3⟩ := hx x List.mem_cons_self
      have h2 := h2.eq
      have ih := ih fun z hz => hx z (List.mem_cons_of_mem _ hz)
      cases hc : c x with
      | true =>
        have h3 := (h3 hc).eq
        simp only [List.map_cons, lcL, h1, h2, hc, h3, ih, Res.bind, List.filter_cons, if_pos]
      | false => simp [lcL, h1, h2, hc, ih, List.filter_cons]
  rw [this]; exact hq
/-- items by an invariant of the memory -/
theorem lc_inv {h : D → Env → Option Env} {ft : TM} {fe : EM} {ds : List D} (I : List DV → Mem → Prop) (h0 : I [] μ)
    (ht : ∀ d ∈ ds, ∀ ys μ, I ys μ → ∃ δ1, h d δ = some δ1 ∧ Sat (ft δ1 μ) (fun b μ1 => if b = true then Sat (frzV fe δ1 μ1) (fun y μ2 => I (ys ++ [y]) μ2) (fun _ _ => False) else I ys μ1) (fun _ _ => False)) (hq : ∀ ys μ, I ys μ → QA ys μ) : Sat (lcL h ft fe δ ds μ) QA E := by
  have key : ∀ (es : List D), (∀ d ∈ es, d ∈ ds) → ∀ zs μ, I zs μ → Sat (lcL h ft fe δ es μ) (fun ys μ' => I (zs ++ ys) μ') (fun _ _ => False) := by
    intro es
    induction es with
    | nil => intro _ zs μ hz; show I (zs ++ []) μ; rw [List.append_nil]; exact hz
    | cons d es ih =>
      intro hm zs μ hz
      obtain ⟨δ1, h1, h2⟩ := ht d (hm d List.mem_cons_self) zs μ hz
      simp only [lcL, h1]
      cases e : ft δ1 μ with
      | ok b μ1 =>
        rw [e] at h2
        cases b with
        | true =>
          simp only at h2 ⊢
          have h2 : Sat (frzV fe δ1 μ1) (fun y μ2 => I (zs ++ [y]) μ2) (fun _ _ => False) := h2
          cases e2 : frzV fe δ1 μ1 with
          | ok y μ2 =>
            rw [e2] at h2
            refine sat_bind ((ih (fun x hx => hm x (List.mem_cons_of_mem _ hx)) (zs ++ [y]) μ2 h2).mono (fun ys μ3 q => ?_) fun _ _ q => q)
            show I (zs ++ y :: ys) μ3
            rw [List.append_cons]; exact q
          | exc x μ2 => rw [e2] at h2; exact h2.elim
          | bad => rw [e2] at h2; exact h2.elim
        | false => exact ih (fun x hx => hm x (List.mem_cons_of_mem _ hx)) zs μ1 h2
      | exc x μ1 => rw [e] at h2; exact h2.elim
      | bad => rw [e] at h2; exact h2.elim
  exact (key ds (fun _ h => h) [] μ h0).mono (fun ys μ' q => hq ys μ' q) fun _ _ q => q.elim
/-! ### statements -/
theorem s_seq {g h : SM} (k : SatS (g N δ μ) { P with nx := fun δ μ => SatS (h N δ μ) P }) : SatS (gSeq g h N δ μ) P := by
  unfold gSeq
  cases e : g N δ μ <;> rw [e] at k <;> exact k
theorem s_next (h : P.nx δ μ) : SatS (gNext N δ μ) P := h
theorem s_asg {i : Nat} {f : EM} (h : Sat (frzV f δ μ) (fun x μ' => P.nx (δ.set i (some x)) μ') (fun x μ => P.ex x δ μ)) : SatS (gAsg i f N δ μ) P := sat_lift h
theorem s_drop {f : EM} (h : Sat (f δ μ) (fun _ μ' => P.nx δ μ') (fun x μ => P.ex x δ μ)) : SatS (gDrop f N δ μ) P := sat_lift h
theorem s_ret {f : EM} (h : Sat (f δ μ) (fun r μ' => P.rt r μ') (fun x μ => P.ex x δ μ)) : SatS (gRet f N δ μ) P := sat_lift h
theorem s_if {f : TM} {g h : SM} (k : Sat (f δ μ) (fun b μ' => if b = true then SatS (g N δ μ') P else SatS (h N δ μ') P) (fun x μ => P.ex x δ μ)) : SatS (gIf f g h N δ μ) P := by
  refine sat_lift (k.mono (fun b μ' q => ?_) fun _ _ q => q)
  cases b <;> exact q
theorem s_brk (h : P.bk δ μ) : SatS (gBrk N δ μ) P := h
theorem s_cnt (h : P.ct δ μ) : SatS (gCnt N δ μ) P := h
theorem s_new {i : Nat} {f : EM} (h : Sat (f δ μ) (fun r μ' => SatS (bindR N i r δ μ') P) (fun x μ => P.ex x δ μ)) : SatS (gNew i f N δ μ) P := sat_lift h
theorem r_dat {i : Nat} {d : D} (h : P.nx (δ.set i (some (.dat d))) μ) : SatS (bindR N i (.dat d) δ μ) P := h
theorem r_loc {i n : Nat} (h : P.nx (δ.set i (some (.loc n))) μ) : SatS (bindR N i (.loc n) δ μ) P := h
theorem r_nl {i : Nat} {xs : List DV} (hN : N ≤ μ.length) (h : P.nx (δ.set i (some (.loc μ.length))) (μ ++ [.lst xs])) : SatS (bindR N i (.nl xs) δ μ) P := by
  unfold bindR; simp only; rw [if_pos hN]; exact h
theorem s_tgt {h : D → Env → Option Env} {f : EM} (k : Sat (frzV f δ μ) (fun x μ' => TgtK h δ x fun δ' => P.nx δ' μ') (fun x μ => P.ex x δ μ)) : SatS (gTgt h f N δ μ) P := by
  refine sat_lift (k.mono (fun x μ' q => ?_) fun _ _ q => q)
  obtain ⟨d, δ', rfl, e, q⟩ := q
  simp only; rw [e]; exact q
theorem s_par {i j : Nat} {fa : AM} (h : Sat (fa δ μ) (fun xs μ' => ParK xs fun x y => P.nx ((δ.set i (some x)).set j (some y)) μ') (fun x μ => P.ex x δ μ)) : SatS (gPar i j fa N δ μ) P := by
  refine sat_lift (h.mono (fun xs μ' q => ?_) fun _ _ q => q)
  obtain ⟨x, y, rfl, q⟩ := q; exact q
theorem s_par2 {i j : Nat} {f g : EM} (h : Sat (f δ μ) (fun r μ1 => ∃ δ1 μ2, bindR N i r δ μ1 = .next δ1 μ2 ∧ Sat (g δ μ2) (fun r2 μ3 => SatS (bindR N j r2 δ1 μ3) P) (fun x μ => P.ex x δ μ)) (fun x μ => P.ex x δ μ)) : SatS (gPar2 i j f g N δ μ) P := by
  refine sat_lift (h.mono (fun r μ' q => ?_) fun _ _ q => q)
  obtain ⟨δ1, μ2, e, q⟩ := q
  rw [e]; exact sat_lift q
theorem s_aug {i : Nat} {op : Int → Int → Int} {fe : EM} {a : Int} (e : δ[i]? = some (some (.dat (.int a)))) (h : Sat (frzV fe δ μ) (fun y μ' => IntK y fun b => P.nx (δ.set i (some (.dat (.int (op a b))))) μ') (fun x μ => P.ex x δ μ)) : SatS (gAug i op fe N δ μ) P := by
  unfold gAug; rw [e]
  show SatS (lift (frzV fe δ μ) δ fun y μ' => match asI y with | some b => Out.next (δ.set i (some (.dat (.int (op a b))))) μ' | none => .bad) P
  refine sat_lift (h.mono (fun y μ' q => ?_) fun _ _ q => q)
  obtain ⟨b, e, q⟩ := q; rw [e]; exact q
theorem s_set {fo fi fe : EM} (h : Sat (frzV fe δ μ) (fun y μ1 => Sat (frzV fo δ μ1) (fun x μ2 => Sat (frzV fi δ μ2) (fun i μ3 => ∃ μ4, setPl μ3 x i y = some μ4 ∧ P.nx δ μ4) (fun x μ => P.ex x δ μ)) (fun x μ => P.ex x δ μ)) (fun x μ => P.ex x δ μ)) : SatS (gSet fo fi fe N δ μ) P := by
  refine sat_lift (sat_bind (h.mono (fun y μ1 q => sat_bind (q.mono (fun x μ2 q => sat_bind (q.mono (fun i μ3 q => ?_) fun _ _ q => q)) fun _ _ q => q)) fun _ _ q => q))
  obtain ⟨μ4, e, q⟩ := q; rw [e]; exact q
theorem s_disp {i : Nat} {f : NM} (h : Sat (f N δ μ) (fun xs μ1 => xs.length ≤ sizeLine ∧ SatS (bindR N i (.nl xs) δ μ1) P) (fun x μ => P.ex x δ μ)) : SatS (gDisp i f N δ μ) P := by
  unfold gDisp
  cases e : f N δ μ with
  | ok xs μ1 => rw [e] at h; simp only; rw [if_pos h.1]; exact h.2
  | exc x μ1 => rw [e] at h; exact h
  | bad => rw [e] at h; exact h.elim
def NpK (N : Nat) (r : R) (μ : Mem) (QV : DV → Mem → Prop) : Prop := match newPl N r μ with
  | none => False
  | some (x, μ2) => QV x μ2
theorem n_nilK (h : QA [] μ) : Sat (nNil N δ μ) QA E := h
theorem n_consK {f : EM} {g : NM} (h : Sat (f δ μ) (fun r μ1 => NpK N r μ1 fun x μ2 => Sat (g N δ μ2) (fun xs μ3 => QA (x :: xs) μ3) E) E) : Sat (nCons f g N δ μ) QA E := by
  refine sat_bind (h.mono (fun r μ1 q => ?_) fun _ _ q => q)
  unfold NpK at q
  cases e : newPl N r μ1 with
  | none => rw [e] at q; exact q.elim
  | some p => rw [e] at q; exact sat_bind q
theorem p_dat {d : D} (h : QV (.dat d) μ) : NpK N (.dat d) μ QV := h
theorem p_loc {n : Nat} (h : QV (.loc n) μ) : NpK N (.loc n) μ QV := h
theorem p_nl {xs : List DV} (hN : N ≤ μ.length) (h : QV (.loc μ.length) (μ ++ [.lst xs])) : NpK N (.nl xs) μ QV := by
  unfold NpK newPl; simp only; rw [if_pos hN]; exact h
/-! ### calls -/
def ClK (N : Nat) (r : R) (μ : Mem) (QR : R → Mem → Prop) (E : Xc → Mem → Prop) : Prop := Sat (closeR N r μ) QR E
abbrev endP (N : Nat) (QR : R → Mem → Prop) (E : Xc → Mem → Prop) : PO :=
  { nx := fun _ μ' => QR (.dat .non) (μ'.take N), rt := fun r μ' => ClK N r μ' QR E, bk := fun _ _ => False, ct := fun _ _ => False, ex := fun x _ μ' => E x (μ'.take N) }
theorem x_call {g : SM} {n m : Nat} {args : List DV} (hn : args.length = n) (h : SatS (g μ.length (args.map some ++ List.replicate m none) μ) (endP μ.length QR E)) : Sat (callD g n m args μ) QR E := by
  unfold callD; rw [if_pos hn]; unfold callF
  cases e : g μ.length (args.map some ++ List.replicate m none) μ <;> rw [e] at h <;> exact h
theorem k_dat {d : D} {μ' : Mem} (e : μ'.take N = μ) (h : QR (.dat d) μ) : ClK N (.dat d) μ' QR E := by unfold ClK; rw [close_dat e]; exact h
theorem k_nl {xs : List DV} {μ' : Mem} (e : μ'.take N = μ) (hb : belowA N xs = true) (h : QR (.nl xs) μ) : ClK N (.nl xs) μ' QR E := by
  unfold ClK closeR; simp only; rw [if_pos hb, e]; exact h
theorem below_map (ds : List D) : belowA N (ds.map DV.dat) = true := by
  unfold belowA; rw [List.all_eq_true]; intro x hx
  obtain ⟨d, _, rfl⟩ := List.mem_map.mp hx; rfl
theorem below_mapf {γ : Type} (f : γ → D) (ys : List γ) : belowA N (ys.map fun y => .dat (f y)) = true := by
  unfold belowA; rw [List.all_eq_true]; intro x hx
  obtain ⟨d, _, rfl⟩ := List.mem_map.mp hx; rfl
theorem k_nlf {γ : Type} {f : γ → D} {ys : List γ} {μ' : Mem} (e : μ'.take N = μ) (h : QR (.nl (ys.map fun y => .dat (f y))) μ) : ClK N (.nl (ys.map fun y => .dat (f y))) μ' QR E := k_nl e (below_mapf f ys) h
theorem k_locO {n : Nat} {μ' : Mem} (e : μ'.take N = μ) (hn : n < N) (h : QR (.loc n) μ) : ClK N (.loc n) μ' QR E := by
  unfold ClK closeR; simp only; rw [if_pos hn, e]; exact h
theorem k_locN {n : Nat} {xs : List DV} {μ' : Mem} (e : μ'.take N = μ) (hn : N ≤ n) (hx : μ'[n]? = some (.lst xs)) (hb : belowA N xs = true) (h : QR (.nl xs) μ) : ClK N (.loc n) μ' QR E := by
  unfold ClK closeR; simp only; rw [if_neg (by omega), hx]; simp only; rw [if_pos hb, e]; exact h
theorem k_ofD {d : D} {μ' : Mem} (e : μ'.take N = μ) (h : QR (.dat d) μ) : ClK N (ofV (.dat d)) μ' QR E := k_dat e h
/-! ### loops -/
theorem s_for {ks : List Bool} {fi : IM} {h : D → Env → Option Env} {gb : SM} (k : Sat (fi δ μ) (fun ds μ' => SatS (forL μ'.length ks h gb N ds δ μ') P) (fun x μ => P.ex x δ μ)) : SatS (gFor ks fi h gb N δ μ) P := sat_lift k
/-- an invariant: what is still to come, the slots, the memory -/
theorem for_inv {M : Nat} {ks : List Bool} {h : D → Env → Option Env} {gb : SM} {ds : List D} (I : Nat → Env → Mem → Prop) (h0 : I 0 δ μ)
    (ht : ∀ i d, ds[i]? = some d → ∀ δ μ, I i δ μ → ∃ δ1, h d δ = some δ1 ∧ SatS (gb N δ1 μ) { nx := fun δ' μ' => I (i + 1) (cut M ks δ') (μ'.take M), ct := fun δ' μ' => I (i + 1) (cut M ks δ') (μ'.take M), bk := fun δ' μ' => P.nx (cut M ks δ') (μ'.take M), rt := P.rt, ex := P.ex })
    (he : ∀ δ μ, I ds.length δ μ → P.nx δ μ) : SatS (forL M ks h gb N ds δ μ) P := by
  have key : ∀ (n : Nat) (i : Nat) (δ : Env) (μ : Mem), i + n = ds.length → I i δ μ → SatS (forL M ks h gb N (ds.drop i) δ μ) P := by
    intro n
    induction n with
    | zero =>
      intro i δ μ hi hI
      rw [List.drop_of_length_le (by omega)]
      have : i = ds.length := by omega
      subst this
      exact he δ μ hI
    | succ n ih =>
      intro i δ μ hi hI
      have hl : i < ds.length := by omega
      rw [List.drop_eq_getElem_cons hl]
      obtain ⟨δ1, h1, h2⟩ := ht i ds[i] (List.getElem?_eq_getElem hl) δ μ hI
      simp only [forL, h1]
      cases e : gb N δ1 μ with
      | next δ' μ' => rw [e] at h2; exact ih (i + 1) _ _ (by omega) h2
      | cnt δ' μ' => rw [e] at h2; exact ih (i + 1) _ _ (by omega) h2
      | brk δ' μ' => rw [e] at h2; exact h2
      | ret r μ' => rw [e] at h2; exact h2
      | exc x δ' μ' => rw [e] at h2; exact h2
      | bad => rw [e] at h2; exact h2
  have := key ds.length 0 δ μ (by omega) h0
  rw [List.drop_zero] at this; exact this
theorem s_wh {fuel : Nat} {ks : List Bool} {ft : TM} {gb : SM} (k : SatS (whL μ.length ks ft gb N fuel δ μ) P) : SatS (gWh fuel ks ft gb N δ μ) P := k
/-- an invariant with a number of turns at most -/
theorem wh_inv {M fuel : Nat} {ks : List Bool} {ft : TM} {gb : SM} (I : Nat → Env → Mem → Prop) (m : Nat) (hm : m < fuel) (h0 : I m δ μ)
    (ht : ∀ m δ μ, I m δ μ → Sat (ft δ μ) (fun b μ1 => if b = true then 0 < m ∧ SatS (gb N δ μ1) { nx := fun δ' μ' => ∃ m', m' < m ∧ I m' (cut M ks δ') (μ'.take M), ct := fun δ' μ' => ∃ m', m' < m ∧ I m' (cut M ks δ') (μ'.take M), bk := fun δ' μ' => P.nx (cut M ks δ') (μ'.take M), rt := P.rt, ex := P.ex } else P.nx δ μ1) (fun x μ => P.ex x δ μ)) : SatS (whL M ks ft gb N fuel δ μ) P := by
  have key : ∀ (fuel m : Nat) (δ : Env) (μ : Mem), m < fuel → I m δ μ → SatS (whL M ks ft gb N fuel δ μ) P := by
    intro fuel
    induction fuel with
    | zero => intro m δ μ hm; omega
    | succ f ih =>
      intro m δ μ hm hI
      unfold whL
      refine sat_lift ((ht m δ μ hI).mono (fun b μ1 q => ?_) fun _ _ q => q)
      cases b with
      | false => exact q
      | true =>
        simp only [if_true] at q ⊢
        obtain ⟨h0, q⟩ := q
        cases e : gb N δ μ1 with
        | next δ' μ' => rw [e] at q; obtain ⟨m', h1, q⟩ := q; exact ih m' _ _ (by omega) q
        | cnt δ' μ' => rw [e] at q; obtain ⟨m', h1, q⟩ := q; exact ih m' _ _ (by omega) q
        | brk δ' μ' => rw [e] at q; exact q
        | ret r μ' => rw [e] at q; exact q
        | exc x δ' μ' => rw [e] at q; exact q
        | bad => rw [e] at q; exact q
  exact key fuel m δ μ hm h0
end
end DL
/-! Symbolic execution: the operations by the forms of their values. -/
namespace DL
open PySem PySem.Spec PyProof.Rows L2
section
variable {QR : R → Mem → Prop} {E : Xc → Mem → Prop} {P : PO} {δ : Env} {μ : Mem} {N n : Nat} {i j : Int} {s t : Str} {ds es : List D} {xs ys : List DV} {Q Q' : Prop}
theorem sl_sz {α : Type} {l : List α} (h : l.length ≤ 1000000) : l.length ≤ sizeLine := Nat.le_trans h (by decide)
theorem sz_lit {n : Nat} (h : Nat.ble n 1000000 = true) : n ≤ sizeLine := Nat.le_trans (Nat.le_of_ble_eq_true h) (by decide)
theorem if_T (h : Q) : if true = true then Q else Q' := h
theorem if_F (h : Q') : if false = true then Q else Q' := h
theorem if_by {b : Bool} (h1 : b = true → Q) (h2 : b = false → Q') : if b = true then Q else Q' := by
  cases b
  · exact h2 rfl
  · exact h1 rfl
theorem if_dec {p : Prop} [Decidable p] (h1 : p → Q) (h2 : ¬ p → Q') : if decide p = true then Q else Q' := by
  by_cases h : p
  · rw [if_pos (decide_eq_true h)]; exact h1 h
  · rw [if_neg (by simpa using h)]; exact h2 h
theorem if_ndec {p : Prop} [Decidable p] (h1 : ¬ p → Q) (h2 : p → Q') : if (!decide p) = true then Q else Q' := by
  by_cases h : p
  · rw [if_neg (by simpa using h)]; exact h2 h
  · rw [if_pos (by simpa using h)]; exact h1 h
/-! forms -/
theorem tk {ds : List D} {Q : D → Prop} (e : allDat xs = some ds) (hl : ds.length ≤ sizeLine) (h : Q (.tup ds)) : TupK xs Q := ⟨ds, e, hl, h⟩
theorem sk_l {Q : List D → Prop} (h : Q ds) : SeqK (.dat (.lst ds)) Q := ⟨ds, rfl, h⟩
theorem sk_f {Q : List D → Prop} (h : Q ds) : SeqK (.dat (.fro ds)) Q := ⟨ds, rfl, h⟩
theorem sk_t {Q : List D → Prop} (h : Q ds) : SeqK (.dat (.tup ds)) Q := ⟨ds, rfl, h⟩
theorem ik {Q : Int → Prop} (h : Q i) : IntK (.dat (.int i)) Q := ⟨i, rfl, h⟩
theorem stk {Q : Str → Prop} (h : Q s) : StrK (.dat (.str s)) Q := ⟨s, rfl, h⟩
theorem pk {x y : DV} {Q : DV → DV → Prop} (h : Q x y) : ParK [x, y] Q := ⟨x, y, rfl, h⟩
theorem gk {h : D → Env → Option Env} {d : D} {δ' : Env} {Q : Env → Prop} (e : h d δ = some δ') (k : Q δ') : TgtK h δ (.dat d) Q := ⟨d, δ', rfl, e, k⟩
/-! arithmetic -/
theorem l_addI (h : QR (.dat (.int (i + j))) μ) : Sat (dAdd (.dat (.int i)) (.dat (.int j)) μ) QR E := h
theorem l_addS (hl : s.length + t.length ≤ sizeLine) (h : QR (.dat (.str (s ++ t))) μ) : Sat (dAdd (.dat (.str s)) (.dat (.str t)) μ) QR E := by
  unfold dAdd; simp only [asI, asStr]; rw [if_pos hl]; exact h
theorem l_addT (hl : ds.length + es.length ≤ sizeLine) (h : QR (.dat (.tup (ds ++ es))) μ) : Sat (dAdd (.dat (.tup ds)) (.dat (.tup es)) μ) QR E := by
  unfold dAdd; simp only [asI, asStr, asT]; rw [if_pos hl]; exact h
theorem l_addL (hl : ds.length + es.length ≤ sizeLine) (h : QR (.nl ((ds ++ es).map DV.dat)) μ) : Sat (dAdd (.dat (.lst ds)) (.dat (.lst es)) μ) QR E := by
  rw [add_lst hl]; exact h
theorem l_sub (h : QR (.dat (.int (i - j))) μ) : Sat (dSub (.dat (.int i)) (.dat (.int j)) μ) QR E := h
theorem l_mul (hc : cMul i j = true) (h : QR (.dat (.int (i * j))) μ) : Sat (dMul (.dat (.int i)) (.dat (.int j)) μ) QR E := by rw [mul_ok hc]; exact h
theorem l_mod (hc : 0 < j) (h : QR (.dat (.int (i % j))) μ) : Sat (dMod (.dat (.int i)) (.dat (.int j)) μ) QR E := by rw [mod_ok hc]; exact h
theorem l_div (hc : 0 < j) (hc' : j < 1073741824) (h : QR (.dat (.int (i / j))) μ) : Sat (dDiv (.dat (.int i)) (.dat (.int j)) μ) QR E := by rw [div_ok hc hc']; exact h
theorem l_lt (h : QR (.dat (.bl (decide (i < j)))) μ) : Sat (dLt (.dat (.int i)) (.dat (.int j)) μ) QR E := h
theorem l_le (h : QR (.dat (.bl (decide (i ≤ j)))) μ) : Sat (dLe (.dat (.int i)) (.dat (.int j)) μ) QR E := h
theorem l_gt (h : QR (.dat (.bl (decide (j < i)))) μ) : Sat (dGt (.dat (.int i)) (.dat (.int j)) μ) QR E := h
theorem l_ge (h : QR (.dat (.bl (decide (j ≤ i)))) μ) : Sat (dGe (.dat (.int i)) (.dat (.int j)) μ) QR E := h
theorem l_neg (h : QR (.dat (.int (-i))) μ) : Sat (dNeg (.dat (.int i)) μ) QR E := h
/-! equality -/
theorem int_beq (i j : Int) : (i == j) = decide (i = j) := by
  by_cases h : i = j
  · subst h; simp
  · rw [decide_eq_false h]; exact beq_false_of_ne h
theorem l_eqI (h : QR (.dat (.bl (decide (i = j)))) μ) : Sat (dEq (.dat (.int i)) (.dat (.int j)) μ) QR E := by
  rw [show dEq (.dat (.int i)) (.dat (.int j)) μ = .ok (.dat (.bl (decide (i = j)))) μ from (dEqB_int true i j μ).trans (by rw [int_beq]; cases decide (i = j) <;> rfl)]; exact h
theorem l_neI (h : QR (.dat (.bl (!decide (i = j)))) μ) : Sat (dNe (.dat (.int i)) (.dat (.int j)) μ) QR E := by
  rw [show dNe (.dat (.int i)) (.dat (.int j)) μ = .ok (.dat (.bl (!decide (i = j)))) μ from (dEqB_int false i j μ).trans (by rw [int_beq]; cases decide (i = j) <;> rfl)]; exact h
theorem l_eqS (h : QR (.dat (.bl (decide (s = t)))) μ) : Sat (dEq (.dat (.str s)) (.dat (.str t)) μ) QR E := by
  rw [show dEq (.dat (.str s)) (.dat (.str t)) μ = .ok (.dat (.bl (decide (s = t)))) μ from eq_str.trans (by cases decide (s = t) <;> rfl)]; exact h
theorem l_neS (h : QR (.dat (.bl (!decide (s = t)))) μ) : Sat (dNe (.dat (.str s)) (.dat (.str t)) μ) QR E := by
  rw [show dNe (.dat (.str s)) (.dat (.str t)) μ = .ok (.dat (.bl (!decide (s = t)))) μ from eq_str.trans (by cases decide (s = t) <;> rfl)]; exact h
/-! items -/
theorem l_ixT {d : D} (e : atI ds i = some d) (h : QR (.dat d) μ) : Sat (dIx (.dat (.tup ds)) (.dat (.int i)) μ) QR E := by rw [dIx_tup e]; exact h
theorem l_ixL {d : D} (e : atI ds i = some d) (h : QR (.dat d) μ) : Sat (dIx (.dat (.lst ds)) (.dat (.int i)) μ) QR E := by rw [dIx_lst e]; exact h
theorem l_ixM {x : DV} (e : μ[n]? = some (.lst xs)) (e2 : atI xs i = some x) (h : QR (ofV x) μ) : Sat (dIx (.loc n) (.dat (.int i)) μ) QR E := by rw [dIx_loc e e2]; exact h
theorem l_slT {lo hi : Option Int} (h : QR (.dat (.tup (cutL ds lo hi))) μ) : Sat (dSl (.dat (.tup ds)) lo hi μ) QR E := h
theorem l_slL {lo hi : Option Int} (h : QR (.nl ((cutL ds lo hi).map DV.dat)) μ) : Sat (dSl (.dat (.lst ds)) lo hi μ) QR E := by rw [sl_lst]; exact h
theorem l_slS {lo hi : Option Int} (hl : s.length ≤ sizeLine) (h : QR (.dat (.str (cutS s lo hi))) μ) : Sat (dSl (.dat (.str s)) lo hi μ) QR E := by
  unfold dSl; simp only [asL, asT, asStr]; rw [if_pos hl]; exact h
theorem l_lenT (h : QR (.dat (.int ds.length)) μ) : Sat (d1 dLen [.dat (.tup ds)] μ) QR E := by
  have : d1 dLen [.dat (.tup ds)] μ = .ok (.dat (.int ds.length)) μ := by simp [d1, dLen, asS, asL, asT]
  rw [this]; exact h
theorem l_lenL (h : QR (.dat (.int ds.length)) μ) : Sat (d1 dLen [.dat (.lst ds)] μ) QR E := by rw [len_lst]; exact h
theorem l_lenM (e : μ[n]? = some (.lst xs)) (h : QR (.dat (.int xs.length)) μ) : Sat (d1 dLen [.loc n] μ) QR E := by rw [len_loc e]; exact h
theorem l_lenS (hl : s.length ≤ sizeLine) (h : QR (.dat (.int s.length)) μ) : Sat (d1 dLen [.dat (.str s)] μ) QR E := by
  unfold d1; simp only; unfold dLen; simp only [asS, asL, asT, Option.map, asStr]; rw [if_pos hl]; exact h
theorem l_int (h : QR (.dat (.int i)) μ) : Sat (d1 dInt [.dat (.int i)] μ) QR E := h
theorem l_intB {b : Bool} (h : QR (.dat (.int (if b = true then 1 else 0))) μ) : Sat (d1 dInt [.dat (.bl b)] μ) QR E := h
theorem l_listT (h : QR (.nl (ds.map DV.dat)) μ) : Sat (d1 dList [.dat (.tup ds)] μ) QR E := h
theorem l_listL (h : QR (.nl (ds.map DV.dat)) μ) : Sat (d1 dList [.dat (.lst ds)] μ) QR E := h
theorem l_listM (e : μ[n]? = some (.lst xs)) (h : QR (.nl xs) μ) : Sat (d1 dList [.loc n] μ) QR E := by
  unfold d1; simp only; unfold dList asS; rw [asL_loc e]; exact h
theorem l_tupL (h : QR (.dat (.tup ds)) μ) : Sat (d1 dTuple [.dat (.lst ds)] μ) QR E := by rw [tuple_lst]; exact h
theorem l_tupT (h : QR (.dat (.tup ds)) μ) : Sat (d1 dTuple [.dat (.tup ds)] μ) QR E := h
theorem l_tupM (e : μ[n]? = some (.lst xs)) (e2 : allDat xs = some ds) (h : QR (.dat (.tup ds)) μ) : Sat (d1 dTuple [.loc n] μ) QR E := by
  unfold d1; simp only; unfold dTuple; rw [asL_loc e]; simp only; rw [e2]; exact h
theorem bools_map {γ : Type} (f : γ → Bool) (xs : List γ) : bools (xs.map fun x => .dat (.bl (f x))) = some (xs.map f) := by
  induction xs with
  | nil => rfl
  | cons x xs ih => simp [bools, asBl, ih]
theorem l_all {γ : Type} {f : γ → Bool} {g : List Bool → Bool} {xs : List γ} (h : QR (.dat (.bl (g (xs.map f)))) μ) : Sat (d1 (dAll g) [.dat (.lst (xs.map fun x => .bl (f x)))] μ) QR E := by
  have : asL μ (.dat (.lst (xs.map fun x => .bl (f x)))) = some (xs.map fun x => .dat (.bl (f x))) := by simp [asL]
  unfold d1; simp only; unfold dAll; rw [this]; simp only; rw [bools_map]; exact h
/-! methods -/
theorem l_app {y : DV} (e : μ[n]? = some (.lst xs)) (hl : xs.length < sizeLine) (hb : belowB n y = true) (h : QR (.dat .non) (μ.set n (.lst (xs ++ [y])))) : Sat (dAppend (.loc n) [y] μ) QR E := by rw [app_ok e hl hb]; exact h
theorem l_extT (e : μ[n]? = some (.lst xs)) (hl : xs.length + ds.length ≤ sizeLine) (h : QR (.dat .non) (μ.set n (.lst (xs ++ ds.map DV.dat)))) : Sat (dExtend (.loc n) [.dat (.tup ds)] μ) QR E := by rw [ext_tup e hl]; exact h
theorem l_extL (e : μ[n]? = some (.lst xs)) (hl : xs.length + ds.length ≤ sizeLine) (h : QR (.dat .non) (μ.set n (.lst (xs ++ ds.map DV.dat)))) : Sat (dExtend (.loc n) [.dat (.lst ds)] μ) QR E := by
  have hb : (ds.map DV.dat).all (belowB n) = true := by
    rw [List.all_eq_true]; intro x hx; obtain ⟨d, _, rfl⟩ := List.mem_map.mp hx; rfl
  unfold dExtend; simp only [atPl, e, asM]; rw [if_pos ⟨by simpa using hl, hb⟩]; exact h
theorem l_clear (e : μ[n]? = some (.lst xs)) (h : QR (.dat .non) (μ.set n (.lst []))) : Sat (dClear (.loc n) [] μ) QR E := by rw [clear_ok e]; exact h
theorem l_pop {k : Nat} {y : DV} (e : μ[n]? = some (.lst xs)) (hk : xs[k]? = some y) (hb : k < 2 ^ 63) (h : QR (ofV y) (μ.set n (.lst (xs.eraseIdx k)))) : Sat (dPop (.loc n) [.dat (.int k)] μ) QR E := by rw [pop_ok e hk hb]; exact h
theorem l_insert {y : DV} {j : Int} (e : μ[n]? = some (.lst xs)) (hl : xs.length < sizeLine) (h0 : 0 ≤ j) (hj : j < 2 ^ 63) (hb : belowB n y = true) (h : QR (.dat .non) (μ.set n (.lst (xs.take j.toNat ++ [y] ++ xs.drop j.toNat)))) : Sat (dInsert (.loc n) [.dat (.int j), y] μ) QR E := by
  unfold dInsert; simp only [atPl, e, asI]; rw [if_pos ⟨hl, h0, hj, hb⟩]; exact h
theorem l_split (hb : (t.length == 0) = false ∧ s.length + 2 ≤ sizeLine) (h : QR (.nl ((Txt.split s t).map fun s => .dat (.str s))) μ) : Sat (dSplit (.dat (.str s)) [.dat (.str t)] μ) QR E := by
  unfold dSplit; simp only [asStr]; rw [if_pos hb]; exact h
theorem l_in {neg : Bool} {u : V} {us : List V} {x y : DV} (e : flat x = some u) (e2 : asS μ y = some ys) (e3 : flats ys = some us) (h : QR (.dat (.bl (if neg = true then !inV u us else inV u us))) μ) : Sat (dIn neg x y μ) QR E := by
  unfold dIn; rw [e]; simp only; rw [e2]; simp only; rw [e3]; exact h
theorem l_inT {ss : List Str} (h : QR (.dat (.bl (decide (s ∈ ss)))) μ) : Sat (dIn false (.dat (.str s)) (.dat (.tup (ss.map D.str))) μ) QR E := by rw [in_tup]; exact h
theorem l_ninT {ss : List Str} (h : QR (.dat (.bl (!decide (s ∈ ss)))) μ) : Sat (dIn true (.dat (.str s)) (.dat (.tup (ss.map D.str))) μ) QR E := by rw [in_tup]; exact h
theorem in_lst {neg : Bool} {s : Str} {ss : List Str} {μ : Mem} : dIn neg (.dat (.str s)) (.dat (.lst (ss.map D.str))) μ = .ok (.dat (.bl (if neg = true then !decide (s ∈ ss) else decide (s ∈ ss)))) μ := by
  have : (ss.map D.str).map DV.dat = ss.map fun s => .dat (.str s) := by simp
  simp only [dIn, flat, asS, asL, asT, Option.map, this, flats_str, inV_str]
theorem l_inL {ss : List Str} (h : QR (.dat (.bl (decide (s ∈ ss)))) μ) : Sat (dIn false (.dat (.str s)) (.dat (.lst (ss.map D.str))) μ) QR E := by rw [in_lst]; exact h
theorem l_ninL {ss : List Str} (h : QR (.dat (.bl (!decide (s ∈ ss)))) μ) : Sat (dIn true (.dat (.str s)) (.dat (.lst (ss.map D.str))) μ) QR E := by rw [in_lst]; exact h
theorem ty_l : tyL (.dat (.lst ds)) μ = true := rfl
theorem ty_s : tyS (.dat (.str s)) μ = true := rfl
/-! the bag at the place 0 -/
theorem d_take {B : Bg} {ν : Mem} {m : Int} (hB : B.ok) (hm : 0 < m) (hm' : m < 1073741824) (h : ∀ (r : Nat) (B' : Bg), B'.ok → (r : Int) < m → QR (.dat (.int r)) (B'.pl :: ν)) : Sat (callD gTake 2 5 [.loc 0, .dat (.int m)] (B.pl :: ν)) QR E := by
  obtain ⟨o1, o2, o3⟩ := takeB_ok hB hm
  rw [take_spec (n := 0) (μ := B.pl :: ν) hB rfl hm hm']
  generalize (takeB B m).1 = t at *
  generalize (takeB B m).2 = B2 at *
  obtain ⟨k, rfl⟩ := Int.eq_ofNat_of_zero_le o2
  exact h k B2 o1 o3
theorem d_one {B : Bg} {ν : Mem} (hB : B.ok) (h0 : 0 < ds.length) (hs : ds.length < 1073741824) (h : ∀ (d : D) (B' : Bg), B'.ok → d ∈ ds → QR (.dat d) (B'.pl :: ν)) : Sat (callD gOne 2 0 [.loc 0, .dat (.lst ds)] (B.pl :: ν)) QR E := by
  obtain ⟨d, B', o, hd, e⟩ := one_spec (n := 0) (μ := B.pl :: ν) hB rfl h0 hs
  rw [e]; exact h d B' o hd
theorem d_mixed {B : Bg} {ν : Mem} {k w : Nat} (hk : k < 64) (hB : B.ok) (hs : ds.length < 100000) (hd : ∀ d ∈ ds, ∃ p, toPy d = some p ∧ Fit k w p) (h : ∀ (ys : List D) (B' : Bg), B'.ok → ys.Perm ds → QR (.nl (ys.map DV.dat)) (B'.pl :: ν)) : Sat (callD gMixed 2 2 [.loc 0, .dat (.lst ds)] (B.pl :: ν)) QR E := by
  obtain ⟨ys, B', o, pm, e⟩ := mixed_spec (n := 0) (μ := B.pl :: ν) hk hB rfl hs hd
  rw [e]; exact h ys B' o pm
end
end DL
namespace DL
open PySem PySem.Spec PyProof.Rows L2
section
variable {QR : R → Mem → Prop} {QV : DV → Mem → Prop} {QB : Bool → Mem → Prop} {E : Xc → Mem → Prop} {P : PO} {δ δ' : Env} {μ μ' : Mem} {N n i : Nat} {x : Option DV} {d : D} {ds : List D} {xs : List DV}
theorem al_nil : allDat [] = some [] := rfl
theorem al_cons (h : allDat xs = some ds) : allDat (.dat d :: xs) = some (d :: ds) := by simp only [allDat, h]; rfl
theorem set_now {g : SM} (e : δ.set i x = δ') (h : SatS (g N δ' μ) P) : SatS (g N (δ.set i x) μ) P := e ▸ h
theorem x_varD (e : δ[i]? = some (some (.dat d))) (h : QR (.dat d) μ) : Sat (eVar i δ μ) QR E := x_var e h
theorem x_varL (e : δ[i]? = some (some (.loc n))) (h : QR (.loc n) μ) : Sat (eVar i δ μ) QR E := x_var e h
theorem ofV_dat : ofV (.dat d) = .dat d := rfl
theorem z_ofD (h : QV (.dat d) μ) : FzK (ofV (.dat d)) μ QV := h
theorem b_ofD {b : Bool} (h : QB b μ) : BlK (ofV (.dat (.bl b))) μ QB := h
theorem mem_now {g : SM} (e : μ = μ') (h : SatS (g N δ μ') P) : SatS (g N δ μ) P := e ▸ h
end
end DL
/-! Symbolic execution: own classes. -/
namespace DL
open PySem PySem.Spec PyProof.Rows L2
/-- what an initialiser must leave -/
def MkK (N : Nat) (QR : R → Mem → Prop) : R → Mem → Prop := fun r μ2 => ∃ nm' gs ds, r = .dat .non ∧ μ2[N + 1]? = some (.ins nm' gs) ∧ allDat (gs.map (·.2)) = some ds ∧ QR (.dat (.ins nm' ((gs.map (·.1)).zip ds))) (μ2.take N)
section
variable {QR : R → Mem → Prop} {E : Xc → Mem → Prop} {P : PO} {δ : Env} {μ : Mem} {N n : Nat} {nm m : Str} {F : List DV → Mem → Res R} {f fa fb fo fe : EM} {g : AM} {x : DV} {d : D} {fs : List (Str × D)} {gs : List (Str × DV)} {tab : Kd → Option Bool} {i j : Int} {ds : List D} {xs : List DV}
theorem x_fld {nms : List Str} (h : Sat (frzV f δ μ) (fun x μ1 => ∃ nm fs y, insAt μ1 x = some (nm, fs) ∧ nm ∈ nms ∧ fs.lookup m = some y ∧ QR (ofV y) μ1) E) : Sat (eFld nms m f δ μ) QR E := by
  refine sat_bind (h.mono (fun x μ1 q => ?_) fun _ _ q => q)
  obtain ⟨nm, fs, y, e1, e2, e3, q⟩ := q
  rw [e1]; simp only; rw [if_pos e2, e3]; exact q
theorem x_meth (h : Sat (frzV f δ μ) (fun x μ1 => isI nm m x μ1 = true ∧ Sat (g δ μ1) (fun xs μ2 => Sat (F (x :: xs) μ2) QR E) E) E) : Sat (eMeth nm m F f g δ μ) QR E := by
  refine sat_bind (h.mono (fun x μ1 q => ?_) fun _ _ q => q)
  rw [if_pos q.1]; exact sat_bind q.2
theorem x_make (h : Sat (g δ μ) (fun xs μ1 => Sat (F (.loc (μ1.length + 1) :: xs) (μ1 ++ [.own] ++ [.ins nm []])) (MkK μ1.length QR) (fun x μ2 => E x (μ2.take μ1.length))) E) : Sat (eMake nm F g δ μ) QR E := by
  refine sat_bind (h.mono (fun xs μ1 q => ?_) fun _ _ q => q)
  unfold mkRun
  cases e : F (.loc (μ1.length + 1) :: xs) (μ1 ++ [.own] ++ [.ins nm []]) with
  | ok r μ2 =>
    rw [e] at q
    obtain ⟨nm', gs, ds, rfl, e1, e2, q⟩ := q
    simp only [mkEnd, e1, e2]; exact q
  | exc x μ2 => rw [e] at q; exact q
  | bad => rw [e] at q; exact q
theorem x_lenO (h : Sat (frzV f δ μ) (fun x μ1 => isI nm "" x μ1 = true ∧ Sat (F [x] μ1) (fun r μ2 => ∃ n : Int, r = .dat (.int n) ∧ (0 ≤ n ∧ n < 2 ^ 63) ∧ QR (.dat (.int n)) μ2) (fun _ _ => False)) E) : Sat (eLenO nm F f δ μ) QR E := by
  refine sat_bind (h.mono (fun x μ1 q => ?_) fun _ _ q => q)
  rw [if_pos q.1]
  have q := q.2
  cases e : F [x] μ1 with
  | ok r μ2 => rw [e] at q; obtain ⟨n, rfl, hn, q⟩ := q; simp only; rw [if_pos hn]; exact q
  | exc x μ2 => rw [e] at q; exact q.elim
  | bad => rw [e] at q; exact q.elim
theorem x_eqO {others : List Str} (h : Sat (frzV fa δ μ) (fun x μ1 => Sat (frzV fb δ μ1) (fun y μ2 => (isI nm "" x μ2 = true ∧ ((kindOf μ2 y).bind (tabC nm others)).isSome = true) ∧ Sat (F [x, y] μ2) (fun r μ3 => BlK r μ3 fun b μ3 => QR (.dat (.bl b)) μ3) (fun _ _ => False)) E) E) : Sat (eEqO nm others F fa fb δ μ) QR E := by
  refine sat_bind (h.mono (fun x μ1 q => sat_bind (q.mono (fun y μ2 q => ?_) fun _ _ q => q)) fun _ _ q => q)
  rw [if_pos q.1]
  have q := q.2
  cases e : F [x, y] μ2 with
  | ok r μ3 => rw [e] at q; obtain ⟨b, rfl, _, q⟩ := BlK.ex q; exact q
  | exc x μ2 => rw [e] at q; exact q.elim
  | bad => rw [e] at q; exact q.elim
theorem x_inO {neg : Bool} (h : Sat (frzV fa δ μ) (fun y μ1 => Sat (frzV fb δ μ1) (fun x μ2 => isI nm "" x μ2 = true ∧ Sat (F [x, y] μ2) (fun r μ3 => BlK r μ3 fun b μ3 => QR (.dat (.bl (b != neg))) μ3) (fun _ _ => False)) E) E) : Sat (eInO nm neg F fa fb δ μ) QR E := by
  refine sat_bind (h.mono (fun y μ1 q => sat_bind (q.mono (fun x μ2 q => ?_) fun _ _ q => q)) fun _ _ q => q)
  rw [if_pos q.1]
  have q := q.2
  cases e : F [x, y] μ2 with
  | ok r μ3 => rw [e] at q; obtain ⟨b, rfl, _, q⟩ := BlK.ex q; exact q
  | exc x μ2 => rw [e] at q; exact q.elim
  | bad => rw [e] at q; exact q.elim
theorem l_isi {kd : Kd} {b : Bool} (e : kindOf μ x = some kd) (e2 : tab kd = some b) (h : QR (.dat (.bl b)) μ) : Sat (dIsi tab x μ) QR E := by
  unfold dIsi; rw [e]; simp only; rw [e2]; exact h
theorem s_fld {nms : List Str} (h : Sat (frzV fe δ μ) (fun y μ1 => Sat (frzV fo δ μ1) (fun x μ2 => ∃ μ3, setFld nms μ2 x m y = some μ3 ∧ P.nx δ μ3) (fun x μ => P.ex x δ μ)) (fun x μ => P.ex x δ μ)) : SatS (gFld nms m fo fe N δ μ) P := by
  refine sat_lift (sat_bind (h.mono (fun y μ1 q => sat_bind (q.mono (fun x μ2 q => ?_) fun _ _ q => q)) fun _ _ q => q))
  obtain ⟨μ3, e, q⟩ := q; rw [e]; exact q
theorem l_mulX (hc : cMul i j = true) (h : QR (.dat (.int (i * j))) μ) : Sat (dMulX (.dat (.int i)) (.dat (.int j)) μ) QR E := by
  unfold dMulX; simp only [asI]; rw [if_pos hc]; exact h
theorem l_rep {xs : List DV} (e : asM μ x = some xs) (ei : asI x = none) (hj : -(2 ^ 63) ≤ j ∧ j < 2 ^ 63 ∧ xs.length * j.toNat ≤ sizeLine) (h : QR (.nl (List.replicate j.toNat xs).flatten) μ) : Sat (dMulX x (.dat (.int j)) μ) QR E := by
  unfold dMulX; simp only [asI.eq_1]; rw [ei, e]; simp only; rw [if_pos hj]; exact h
theorem l_mm {f : Int → Int → Int} (h : QR (.dat (.int (f i j))) μ) : Sat (d2 (dMM f) [.dat (.int i), .dat (.int j)] μ) QR E := h
end
end DL
namespace DL
open PySem PySem.Spec PyProof.Rows L2
section
variable {QR : R → Mem → Prop} {QV : DV → Mem → Prop} {E : Xc → Mem → Prop} {P : PO} {δ δ' : Env} {μ μ' : Mem} {N n i : Nat} {nm m m' : Str} {f : EM} {x : DV} {d : D} {ds : List D} {xs : List DV} {nms : List Str}
theorem s_frz (ei : δ[i]? = some (some (.loc n))) (hN : N ≤ n) (hE : noLocE n (δ.set i none) = true) (hμ : (μ.drop (n + 1)).all (noLocP n) = true) (em : μ[n]? = some (.lst xs)) (ed : allDat xs = some ds) (h : P.nx (δ.set i (some (.dat (.lst ds)))) (μ.set n .gone)) : SatS (gFrz i N δ μ) P := by
  unfold gFrz; rw [ei]; simp only; rw [if_pos ⟨hN, hE, hμ⟩, em]; simp only; rw [ed]; exact h
def FldK (nms : List Str) (m : Str) (x : DV) (μ : Mem) (Q : DV → Prop) : Prop := ∃ nm fs y, insAt μ x = some (nm, fs) ∧ nm ∈ nms ∧ fs.lookup m = some y ∧ Q y
theorem x_fldK (h : Sat (frzV f δ μ) (fun x μ1 => FldK nms m x μ1 fun y => QR (ofV y) μ1) E) : Sat (eFld nms m f δ μ) QR E := x_fld h
theorem fk1 {Q : DV → Prop} (hn : nm ∈ nms) (h : Q (.dat d)) : FldK nms m (.dat (.ins nm [(m, d)])) μ Q := ⟨nm, _, .dat d, rfl, hn, by simp [List.lookup], h⟩
theorem isI_one (h : (m == m') = false) : isI nm m (.dat (.ins nm [(m', d)])) μ = true := by
  unfold isI; simp [insAt, List.lookup, h]
theorem r_D {i : Nat} (h : QR (.dat d) μ) : QR (ofV (.dat d)) μ := h
end
/-! the memory -/
theorem mem_here {μ : Mem} {p : Pl} {X : Mem} : (μ ++ p :: X)[μ.length]? = some p := by simp
theorem mem_set {μ : Mem} {p q : Pl} {X : Mem} : (μ ++ p :: X).set μ.length q = μ ++ q :: X := by simp
theorem mem_take {μ X : Mem} : (μ ++ X).take μ.length = μ := by simp
end DL
/-! Symbolic execution: isinstance by the forms of values; ends. -/
namespace DL
open PySem PySem.Spec PyProof.Rows L2
section
variable {QR : R → Mem → Prop} {E : Xc → Mem → Prop} {P : PO} {δ δ' : Env} {μ μ' : Mem} {N n : Nat} {cls others : List Str} {nm : Str} {d : D} {x : DV}
theorem kb_NoneType_int : kitB "NoneType" "int" = some false := by decide +kernel
theorem kb_NoneType_bool : kitB "NoneType" "bool" = some false := by decide +kernel
theorem kb_NoneType_str : kitB "NoneType" "str" = some false := by decide +kernel
theorem kb_NoneType_tuple : kitB "NoneType" "tuple" = some false := by decide +kernel
theorem kb_NoneType_list : kitB "NoneType" "list" = some false := by decide +kernel
theorem kb_NoneType_dict : kitB "NoneType" "dict" = some false := by decide +kernel
theorem kb_bool_int : kitB "bool" "int" = some true := by decide +kernel
theorem kb_bool_bool : kitB "bool" "bool" = some true := by decide +kernel
theorem kb_bool_str : kitB "bool" "str" = some false := by decide +kernel
theorem kb_bool_tuple : kitB "bool" "tuple" = some false := by decide +kernel
theorem kb_bool_list : kitB "bool" "list" = some false := by decide +kernel
theorem kb_bool_dict : kitB "bool" "dict" = some false := by decide +kernel
theorem kb_int_int : kitB "int" "int" = some true := by decide +kernel
theorem kb_int_bool : kitB "int" "bool" = some false := by decide +kernel
theorem kb_int_str : kitB "int" "str" = some false := by decide +kernel
theorem kb_int_tuple : kitB "int" "tuple" = some false := by decide +kernel
theorem kb_int_list : kitB "int" "list" = some false := by decide +kernel
theorem kb_int_dict : kitB "int" "dict" = some false := by decide +kernel
theorem kb_str_int : kitB "str" "int" = some false := by decide +kernel
theorem kb_str_bool : kitB "str" "bool" = some false := by decide +kernel
theorem kb_str_str : kitB "str" "str" = some true := by decide +kernel
theorem kb_str_tuple : kitB "str" "tuple" = some false := by decide +kernel
theorem kb_str_list : kitB "str" "list" = some false := by decide +kernel
theorem kb_str_dict : kitB "str" "dict" = some false := by decide +kernel
theorem kb_tuple_int : kitB "tuple" "int" = some false := by decide +kernel
theorem kb_tuple_bool : kitB "tuple" "bool" = some false := by decide +kernel
theorem kb_tuple_str : kitB "tuple" "str" = some false := by decide +kernel
theorem kb_tuple_tuple : kitB "tuple" "tuple" = some true := by decide +kernel
theorem kb_tuple_list : kitB "tuple" "list" = some false := by decide +kernel
theorem kb_tuple_dict : kitB "tuple" "dict" = some false := by decide +kernel
theorem kb_list_int : kitB "list" "int" = some false := by decide +kernel
theorem kb_list_bool : kitB "list" "bool" = some false := by decide +kernel
theorem kb_list_str : kitB "list" "str" = some false := by decide +kernel
theorem kb_list_tuple : kitB "list" "tuple" = some false := by decide +kernel
theorem kb_list_list : kitB "list" "list" = some true := by decide +kernel
theorem kb_list_dict : kitB "list" "dict" = some false := by decide +kernel
theorem kb_dict_int : kitB "dict" "int" = some false := by decide +kernel
theorem kb_dict_bool : kitB "dict" "bool" = some false := by decide +kernel
theorem kb_dict_str : kitB "dict" "str" = some false := by decide +kernel
theorem kb_dict_tuple : kitB "dict" "tuple" = some false := by decide +kernel
theorem kb_dict_list : kitB "dict" "list" = some false := by decide +kernel
theorem kb_dict_dict : kitB "dict" "dict" = some true := by decide +kernel
theorem is_non_int (h : QR (.dat (.bl false)) μ) : Sat (dIsi (tabT "int" cls) (.dat .non) μ) QR E := l_isi rfl (show tabT "int" cls (.b "NoneType") = some false from kb_NoneType_int) h
theorem is_non_bool (h : QR (.dat (.bl false)) μ) : Sat (dIsi (tabT "bool" cls) (.dat .non) μ) QR E := l_isi rfl (show tabT "bool" cls (.b "NoneType") = some false from kb_NoneType_bool) h
theorem is_non_str (h : QR (.dat (.bl false)) μ) : Sat (dIsi (tabT "str" cls) (.dat .non) μ) QR E := l_isi rfl (show tabT "str" cls (.b "NoneType") = some false from kb_NoneType_str) h
theorem is_non_tuple (h : QR (.dat (.bl false)) μ) : Sat (dIsi (tabT "tuple" cls) (.dat .non) μ) QR E := l_isi rfl (show tabT "tuple" cls (.b "NoneType") = some false from kb_NoneType_tuple) h
theorem is_non_list (h : QR (.dat (.bl false)) μ) : Sat (dIsi (tabT "list" cls) (.dat .non) μ) QR E := l_isi rfl (show tabT "list" cls (.b "NoneType") = some false from kb_NoneType_list) h
theorem is_non_dict (h : QR (.dat (.bl false)) μ) : Sat (dIsi (tabT "dict" cls) (.dat .non) μ) QR E := l_isi rfl (show tabT "dict" cls (.b "NoneType") = some false from kb_NoneType_dict) h
theorem is2_non_list_tuple (h : QR (.dat (.bl false)) μ) : Sat (dIsi (tabT2 "list" "tuple" cls) (.dat .non) μ) QR E := l_isi rfl (show tabT2 "list" "tuple" cls (.b "NoneType") = some false from by simp only [tabT2, kb_NoneType_list, kb_NoneType_tuple]) h
theorem isC_non (h : QR (.dat (.bl false)) μ) : Sat (dIsi (tabC nm others) (.dat .non) μ) QR E := l_isi rfl (show tabC nm others (.b "NoneType") = some false from by simp [tabC]) h
theorem is_bl_int {b : Bool} (h : QR (.dat (.bl true)) μ) : Sat (dIsi (tabT "int" cls) (.dat (.bl b)) μ) QR E := l_isi rfl (show tabT "int" cls (.b "bool") = some true from kb_bool_int) h
theorem is_bl_bool {b : Bool} (h : QR (.dat (.bl true)) μ) : Sat (dIsi (tabT "bool" cls) (.dat (.bl b)) μ) QR E := l_isi rfl (show tabT "bool" cls (.b "bool") = some true from kb_bool_bool) h
theorem is_bl_str {b : Bool} (h : QR (.dat (.bl false)) μ) : Sat (dIsi (tabT "str" cls) (.dat (.bl b)) μ) QR E := l_isi rfl (show tabT "str" cls (.b "bool") = some false from kb_bool_str) h
theorem is_bl_tuple {b : Bool} (h : QR (.dat (.bl false)) μ) : Sat (dIsi (tabT "tuple" cls) (.dat (.bl b)) μ) QR E := l_isi rfl (show tabT "tuple" cls (.b "bool") = some false from kb_bool_tuple) h
theorem is_bl_list {b : Bool} (h : QR (.dat (.bl false)) μ) : Sat (dIsi (tabT "list" cls) (.dat (.bl b)) μ) QR E := l_isi rfl (show tabT "list" cls (.b "bool") = some false from kb_bool_list) h
theorem is_bl_dict {b : Bool} (h : QR (.dat (.bl false)) μ) : Sat (dIsi (tabT "dict" cls) (.dat (.bl b)) μ) QR E := l_isi rfl (show tabT "dict" cls (.b "bool") = some false from kb_bool_dict) h
theorem is2_bl_list_tuple {b : Bool} (h : QR (.dat (.bl false)) μ) : Sat (dIsi (tabT2 "list" "tuple" cls) (.dat (.bl b)) μ) QR E := l_isi rfl (show tabT2 "list" "tuple" cls (.b "bool") = some false from by simp only [tabT2, kb_bool_list, kb_bool_tuple]) h
theorem isC_bl {b : Bool} (h : QR (.dat (.bl false)) μ) : Sat (dIsi (tabC nm others) (.dat (.bl b)) μ) QR E := l_isi rfl (show tabC nm others (.b "bool") = some false from by simp [tabC]) h
theorem is_int_int {i : Int} (h : QR (.dat (.bl true)) μ) : Sat (dIsi (tabT "int" cls) (.dat (.int i)) μ) QR E := l_isi rfl (show tabT "int" cls (.b "int") = some true from kb_int_int) h
theorem is_int_bool {i : Int} (h : QR (.dat (.bl false)) μ) : Sat (dIsi (tabT "bool" cls) (.dat (.int i)) μ) QR E := l_isi rfl (show tabT "bool" cls (.b "int") = some false from kb_int_bool) h
theorem is_int_str {i : Int} (h : QR (.dat (.bl false)) μ) : Sat (dIsi (tabT "str" cls) (.dat (.int i)) μ) QR E := l_isi rfl (show tabT "str" cls (.b "int") = some false from kb_int_str) h
theorem is_int_tuple {i : Int} (h : QR (.dat (.bl false)) μ) : Sat (dIsi (tabT "tuple" cls) (.dat (.int i)) μ) QR E := l_isi rfl (show tabT "tuple" cls (.b "int") = some false from kb_int_tuple) h
theorem is_int_list {i : Int} (h : QR (.dat (.bl false)) μ) : Sat (dIsi (tabT "list" cls) (.dat (.int i)) μ) QR E := l_isi rfl (show tabT "list" cls (.b "int") = some false from kb_int_list) h
theorem is_int_dict {i : Int} (h : QR (.dat (.bl false)) μ) : Sat (dIsi (tabT "dict" cls) (.dat (.int i)) μ) QR E := l_isi rfl (show tabT "dict" cls (.b "int") = some false from kb_int_dict) h
theorem is2_int_list_tuple {i : Int} (h : QR (.dat (.bl false)) μ) : Sat (dIsi (tabT2 "list" "tuple" cls) (.dat (.int i)) μ) QR E := l_isi rfl (show tabT2 "list" "tuple" cls (.b "int") = some false from by simp only [tabT2, kb_int_list, kb_int_tuple]) h
theorem isC_int {i : Int} (h : QR (.dat (.bl false)) μ) : Sat (dIsi (tabC nm others) (.dat (.int i)) μ) QR E := l_isi rfl (show tabC nm others (.b "int") = some false from by simp [tabC]) h
theorem is_str_int {s : Str} (h : QR (.dat (.bl false)) μ) : Sat (dIsi (tabT "int" cls) (.dat (.str s)) μ) QR E := l_isi rfl (show tabT "int" cls (.b "str") = some false from kb_str_int) h
theorem is_str_bool {s : Str} (h : QR (.dat (.bl false)) μ) : Sat (dIsi (tabT "bool" cls) (.dat (.str s)) μ) QR E := l_isi rfl (show tabT "bool" cls (.b "str") = some false from kb_str_bool) h
theorem is_str_str {s : Str} (h : QR (.dat (.bl true)) μ) : Sat (dIsi (tabT "str" cls) (.dat (.str s)) μ) QR E := l_isi rfl (show tabT "str" cls (.b "str") = some true from kb_str_str) h
theorem is_str_tuple {s : Str} (h : QR (.dat (.bl false)) μ) : Sat (dIsi (tabT "tuple" cls) (.dat (.str s)) μ) QR E := l_isi rfl (show tabT "tuple" cls (.b "str") = some false from kb_str_tuple) h
theorem is_str_list {s : Str} (h : QR (.dat (.bl false)) μ) : Sat (dIsi (tabT "list" cls) (.dat (.str s)) μ) QR E := l_isi rfl (show tabT "list" cls (.b "str") = some false from kb_str_list) h
theorem is_str_dict {s : Str} (h : QR (.dat (.bl false)) μ) : Sat (dIsi (tabT "dict" cls) (.dat (.str s)) μ) QR E := l_isi rfl (show tabT "dict" cls (.b "str") = some false from kb_str_dict) h
theorem is2_str_list_tuple {s : Str} (h : QR (.dat (.bl false)) μ) : Sat (dIsi (tabT2 "list" "tuple" cls) (.dat (.str s)) μ) QR E := l_isi rfl (show tabT2 "list" "tuple" cls (.b "str") = some false from by simp only [tabT2, kb_str_list, kb_str_tuple]) h
theorem isC_str {s : Str} (h : QR (.dat (.bl false)) μ) : Sat (dIsi (tabC nm others) (.dat (.str s)) μ) QR E := l_isi rfl (show tabC nm others (.b "str") = some false from by simp [tabC]) h
theorem is_tup_int {ds : List D} (h : QR (.dat (.bl false)) μ) : Sat (dIsi (tabT "int" cls) (.dat (.tup ds)) μ) QR E := l_isi rfl (show tabT "int" cls (.b "tuple") = some false from kb_tuple_int) h
theorem is_tup_bool {ds : List D} (h : QR (.dat (.bl false)) μ) : Sat (dIsi (tabT "bool" cls) (.dat (.tup ds)) μ) QR E := l_isi rfl (show tabT "bool" cls (.b "tuple") = some false from kb_tuple_bool) h
theorem is_tup_str {ds : List D} (h : QR (.dat (.bl false)) μ) : Sat (dIsi (tabT "str" cls) (.dat (.tup ds)) μ) QR E := l_isi rfl (show tabT "str" cls (.b "tuple") = some false from kb_tuple_str) h
theorem is_tup_tuple {ds : List D} (h : QR (.dat (.bl true)) μ) : Sat (dIsi (tabT "tuple" cls) (.dat (.tup ds)) μ) QR E := l_isi rfl (show tabT "tuple" cls (.b "tuple") = some true from kb_tuple_tuple) h
theorem is_tup_list {ds : List D} (h : QR (.dat (.bl false)) μ) : Sat (dIsi (tabT "list" cls) (.dat (.tup ds)) μ) QR E := l_isi rfl (show tabT "list" cls (.b "tuple") = some false from kb_tuple_list) h
theorem is_tup_dict {ds : List D} (h : QR (.dat (.bl false)) μ) : Sat (dIsi (tabT "dict" cls) (.dat (.tup ds)) μ) QR E := l_isi rfl (show tabT "dict" cls (.b "tuple") = some false from kb_tuple_dict) h
theorem is2_tup_list_tuple {ds : List D} (h : QR (.dat (.bl true)) μ) : Sat (dIsi (tabT2 "list" "tuple" cls) (.dat (.tup ds)) μ) QR E := l_isi rfl (show tabT2 "list" "tuple" cls (.b "tuple") = some true from by simp only [tabT2, kb_tuple_list, kb_tuple_tuple]) h
theorem isC_tup {ds : List D} (h : QR (.dat (.bl false)) μ) : Sat (dIsi (tabC nm others) (.dat (.tup ds)) μ) QR E := l_isi rfl (show tabC nm others (.b "tuple") = some false from by simp [tabC]) h
theorem is_lst_int {ds : List D} (h : QR (.dat (.bl false)) μ) : Sat (dIsi (tabT "int" cls) (.dat (.lst ds)) μ) QR E := l_isi rfl (show tabT "int" cls (.b "list") = some false from kb_list_int) h
theorem is_lst_bool {ds : List D} (h : QR (.dat (.bl false)) μ) : Sat (dIsi (tabT "bool" cls) (.dat (.lst ds)) μ) QR E := l_isi rfl (show tabT "bool" cls (.b "list") = some false from kb_list_bool) h
theorem is_lst_str {ds : List D} (h : QR (.dat (.bl false)) μ) : Sat (dIsi (tabT "str" cls) (.dat (.lst ds)) μ) QR E := l_isi rfl (show tabT "str" cls (.b "list") = some false from kb_list_str) h
theorem is_lst_tuple {ds : List D} (h : QR (.dat (.bl false)) μ) : Sat (dIsi (tabT "tuple" cls) (.dat (.lst ds)) μ) QR E := l_isi rfl (show tabT "tuple" cls (.b "list") = some false from kb_list_tuple) h
theorem is_lst_list {ds : List D} (h : QR (.dat (.bl true)) μ) : Sat (dIsi (tabT "list" cls) (.dat (.lst ds)) μ) QR E := l_isi rfl (show tabT "list" cls (.b "list") = some true from kb_list_list) h
theorem is_lst_dict {ds : List D} (h : QR (.dat (.bl false)) μ) : Sat (dIsi (tabT "dict" cls) (.dat (.lst ds)) μ) QR E := l_isi rfl (show tabT "dict" cls (.b "list") = some false from kb_list_dict) h
theorem is2_lst_list_tuple {ds : List D} (h : QR (.dat (.bl true)) μ) : Sat (dIsi (tabT2 "list" "tuple" cls) (.dat (.lst ds)) μ) QR E := l_isi rfl (show tabT2 "list" "tuple" cls (.b "list") = some true from by simp only [tabT2, kb_list_list]) h
theorem isC_lst {ds : List D} (h : QR (.dat (.bl false)) μ) : Sat (dIsi (tabC nm others) (.dat (.lst ds)) μ) QR E := l_isi rfl (show tabC nm others (.b "list") = some false from by simp [tabC]) h
theorem is_fro_int {ds : List D} (h : QR (.dat (.bl false)) μ) : Sat (dIsi (tabT "int" cls) (.dat (.fro ds)) μ) QR E := l_isi rfl (show tabT "int" cls (.b "list") = some false from kb_list_int) h
theorem is_fro_bool {ds : List D} (h : QR (.dat (.bl false)) μ) : Sat (dIsi (tabT "bool" cls) (.dat (.fro ds)) μ) QR E := l_isi rfl (show tabT "bool" cls (.b "list") = some false from kb_list_bool) h
theorem is_fro_str {ds : List D} (h : QR (.dat (.bl false)) μ) : Sat (dIsi (tabT "str" cls) (.dat (.fro ds)) μ) QR E := l_isi rfl (show tabT "str" cls (.b "list") = some false from kb_list_str) h
theorem is_fro_tuple {ds : List D} (h : QR (.dat (.bl false)) μ) : Sat (dIsi (tabT "tuple" cls) (.dat (.fro ds)) μ) QR E := l_isi rfl (show tabT "tuple" cls (.b "list") = some false from kb_list_tuple) h
theorem is_fro_list {ds : List D} (h : QR (.dat (.bl true)) μ) : Sat (dIsi (tabT "list" cls) (.dat (.fro ds)) μ) QR E := l_isi rfl (show tabT "list" cls (.b "list") = some true from kb_list_list) h
theorem is_fro_dict {ds : List D} (h : QR (.dat (.bl false)) μ) : Sat (dIsi (tabT "dict" cls) (.dat (.fro ds)) μ) QR E := l_isi rfl (show tabT "dict" cls (.b "list") = some false from kb_list_dict) h
theorem is2_fro_list_tuple {ds : List D} (h : QR (.dat (.bl true)) μ) : Sat (dIsi (tabT2 "list" "tuple" cls) (.dat (.fro ds)) μ) QR E := l_isi rfl (show tabT2 "list" "tuple" cls (.b "list") = some true from by simp only [tabT2, kb_list_list]) h
theorem isC_fro {ds : List D} (h : QR (.dat (.bl false)) μ) : Sat (dIsi (tabC nm others) (.dat (.fro ds)) μ) QR E := l_isi rfl (show tabC nm others (.b "list") = some false from by simp [tabC]) h
theorem is_dct_int {kvs : List (Ky × D)} (h : QR (.dat (.bl false)) μ) : Sat (dIsi (tabT "int" cls) (.dat (.dct kvs)) μ) QR E := l_isi rfl (show tabT "int" cls (.b "dict") = some false from kb_dict_int) h
theorem is_dct_bool {kvs : List (Ky × D)} (h : QR (.dat (.bl false)) μ) : Sat (dIsi (tabT "bool" cls) (.dat (.dct kvs)) μ) QR E := l_isi rfl (show tabT "bool" cls (.b "dict") = some false from kb_dict_bool) h
theorem is_dct_str {kvs : List (Ky × D)} (h : QR (.dat (.bl false)) μ) : Sat (dIsi (tabT "str" cls) (.dat (.dct kvs)) μ) QR E := l_isi rfl (show tabT "str" cls (.b "dict") = some false from kb_dict_str) h
theorem is_dct_tuple {kvs : List (Ky × D)} (h : QR (.dat (.bl false)) μ) : Sat (dIsi (tabT "tuple" cls) (.dat (.dct kvs)) μ) QR E := l_isi rfl (show tabT "tuple" cls (.b "dict") = some false from kb_dict_tuple) h
theorem is_dct_list {kvs : List (Ky × D)} (h : QR (.dat (.bl false)) μ) : Sat (dIsi (tabT "list" cls) (.dat (.dct kvs)) μ) QR E := l_isi rfl (show tabT "list" cls (.b "dict") = some false from kb_dict_list) h
theorem is_dct_dict {kvs : List (Ky × D)} (h : QR (.dat (.bl true)) μ) : Sat (dIsi (tabT "dict" cls) (.dat (.dct kvs)) μ) QR E := l_isi rfl (show tabT "dict" cls (.b "dict") = some true from kb_dict_dict) h
theorem is2_dct_list_tuple {kvs : List (Ky × D)} (h : QR (.dat (.bl false)) μ) : Sat (dIsi (tabT2 "list" "tuple" cls) (.dat (.dct kvs)) μ) QR E := l_isi rfl (show tabT2 "list" "tuple" cls (.b "dict") = some false from by simp only [tabT2, kb_dict_list, kb_dict_tuple]) h
theorem isC_dct {kvs : List (Ky × D)} (h : QR (.dat (.bl false)) μ) : Sat (dIsi (tabC nm others) (.dat (.dct kvs)) μ) QR E := l_isi rfl (show tabC nm others (.b "dict") = some false from by simp [tabC]) h
theorem isC_own {fs : List (Str × D)} (h : QR (.dat (.bl true)) μ) : Sat (dIsi (tabC nm others) (.dat (.ins nm fs)) μ) QR E := l_isi rfl (show tabC nm others (.c nm) = some true from by simp [tabC]) h
theorem is_ins_int {fs : List (Str × D)} (hn : nm ∈ cls) (h : QR (.dat (.bl false)) μ) : Sat (dIsi (tabT "int" cls) (.dat (.ins nm fs)) μ) QR E := l_isi rfl (show tabT "int" cls (.c nm) = some false from by simp [tabT, tabT2, hn]) h
theorem is_ins_bool {fs : List (Str × D)} (hn : nm ∈ cls) (h : QR (.dat (.bl false)) μ) : Sat (dIsi (tabT "bool" cls) (.dat (.ins nm fs)) μ) QR E := l_isi rfl (show tabT "bool" cls (.c nm) = some false from by simp [tabT, tabT2, hn]) h
theorem is_ins_str {fs : List (Str × D)} (hn : nm ∈ cls) (h : QR (.dat (.bl false)) μ) : Sat (dIsi (tabT "str" cls) (.dat (.ins nm fs)) μ) QR E := l_isi rfl (show tabT "str" cls (.c nm) = some false from by simp [tabT, tabT2, hn]) h
theorem is_ins_tuple {fs : List (Str × D)} (hn : nm ∈ cls) (h : QR (.dat (.bl false)) μ) : Sat (dIsi (tabT "tuple" cls) (.dat (.ins nm fs)) μ) QR E := l_isi rfl (show tabT "tuple" cls (.c nm) = some false from by simp [tabT, tabT2, hn]) h
theorem is_ins_list {fs : List (Str × D)} (hn : nm ∈ cls) (h : QR (.dat (.bl false)) μ) : Sat (dIsi (tabT "list" cls) (.dat (.ins nm fs)) μ) QR E := l_isi rfl (show tabT "list" cls (.c nm) = some false from by simp [tabT, tabT2, hn]) h
theorem is_ins_dict {fs : List (Str × D)} (hn : nm ∈ cls) (h : QR (.dat (.bl false)) μ) : Sat (dIsi (tabT "dict" cls) (.dat (.ins nm fs)) μ) QR E := l_isi rfl (show tabT "dict" cls (.c nm) = some false from by simp [tabT, tabT2, hn]) h
theorem is2_ins {T U : String} {fs : List (Str × D)} (hn : nm ∈ cls) (h : QR (.dat (.bl false)) μ) : Sat (dIsi (tabT2 T U cls) (.dat (.ins nm fs)) μ) QR E := l_isi rfl (show tabT2 T U cls (.c nm) = some false from by simp [tabT, tabT2, hn]) h
/-! ends of a def -/
theorem e_dat (e : μ'.take N = μ) (h : QR (.dat d) μ) : (endP N QR E).rt (.dat d) μ' := k_dat (E := E) e h
theorem e_ofD (e : μ'.take N = μ) (h : QR (.dat d) μ) : (endP N QR E).rt (ofV (.dat d)) μ' := k_dat (E := E) e h
theorem e_nlf {γ : Type} {f : γ → D} {ys : List γ} (e : μ'.take N = μ) (h : QR (.nl (ys.map fun y => .dat (f y))) μ) : (endP N QR E).rt (.nl (ys.map fun y => .dat (f y))) μ' := k_nlf (E := E) e h
theorem e_nlm {ds : List D} (e : μ'.take N = μ) (h : QR (.nl (ds.map DV.dat)) μ) : (endP N QR E).rt (.nl (ds.map DV.dat)) μ' := k_nl (E := E) e (below_map ds) h
theorem e_nl {xs : List DV} (e : μ'.take N = μ) (hb : belowA N xs = true) (h : QR (.nl xs) μ) : (endP N QR E).rt (.nl xs) μ' := k_nl (E := E) e hb h
theorem e_nx (e : μ'.take N = μ) (h : QR (.dat .non) μ) : (endP N QR E).nx δ μ' := by show QR (.dat .non) (μ'.take N); rw [e]; exact h
theorem take_cons {p q : Pl} {ν : Mem} : (p :: ν).take (q :: ν).length = p :: ν := List.take_of_length_le (by simp)
theorem take_consA {p q : Pl} {ν X : Mem} : (p :: (ν ++ X)).take (q :: ν).length = p :: ν := by simp
end
end DL
namespace DL
section
variable {Q Q' : Prop} {b : Bool}
theorem if_bT (e : b = true) (h : Q) : if b = true then Q else Q' := by rw [if_pos e]; exact h
theorem if_bF (e : b = false) (h : Q') : if b = true then Q else Q' := by rw [if_neg (by rw [e]; exact Bool.false_ne_true)]; exact h
end
end DL
namespace DL
open PySem PySem.Spec PyProof.Rows L2
section
variable {E : Xc → Mem → Prop} {P : PO} {δ δ' : Env} {μ μ' : Mem} {N : Nat} {nm m : Str} {d : D} {nms : List Str}
theorem gS {o : Out} (h : SatS o P) : SatS o P := h
theorem gR {r : Res R} {Q : R → Mem → Prop} (h : Sat r Q E) : Sat r Q E := h
theorem gV {r : Res DV} {Q : DV → Mem → Prop} (h : Sat r Q E) : Sat r Q E := h
theorem gA {r : Res (List DV)} {Q : List DV → Mem → Prop} (h : Sat r Q E) : Sat r Q E := h
theorem gT {r : Res Bool} {Q : Bool → Mem → Prop} (h : Sat r Q E) : Sat r Q E := h
theorem gO {r : Res (Option Int)} {Q : Option Int → Mem → Prop} (h : Sat r Q E) : Sat r Q E := h
theorem gI {r : Res (List D)} {Q : List D → Mem → Prop} (h : Sat r Q E) : Sat r Q E := h
theorem gF {r : R} {Q : DV → Mem → Prop} (h : FzK r μ Q) : FzK r μ Q := h
theorem gC {b : Bool} {Q Q' : Prop} (h : if b = true then Q else Q') : if b = true then Q else Q' := h
theorem gRt {r : R} {QR : R → Mem → Prop} (h : (endP N QR E).rt r μ) : (endP N QR E).rt r μ := h
theorem gNx {QR : R → Mem → Prop} (h : (endP N QR E).nx δ μ) : (endP N QR E).nx δ μ := h
theorem init1 (h : nm ∈ nms) : setFld nms (μ ++ [.own] ++ [.ins nm []]) (.loc (μ.length + 1)) m (.dat d) = some (μ ++ [.own] ++ [.ins nm [(m, .dat d)]]) := by
  have e : (μ ++ [.own] ++ [Pl.ins nm []])[μ.length + 1]? = some (.ins nm []) := by simp
  unfold setFld; simp only [e]; rw [if_pos ⟨h, by decide, rfl⟩]; simp [putD]
theorem init1_end {QR : R → Mem → Prop} (h : QR (.dat (.ins nm [(m, d)])) μ) : MkK μ.length QR (.dat .non) (μ ++ [.own] ++ [.ins nm [(m, .dat d)]]) :=
  ⟨nm, [(m, .dat d)], [d], rfl, by simp, rfl, by simpa using h⟩
end
end DL
/-! Data that == and repr take, by its form; alike. -/
namespace DL
open PySem PySem.Spec PyProof.Rows L2
def FitD (k w : Nat) (d : D) : Prop := ∃ p, toPy d = some p ∧ Fit k w p
section
variable {k k' w w' n : Nat} {d : D} {ds : List D} {i : Int} {s : Str} {μ : Mem} {x y : DV} {QR : R → Mem → Prop} {E : Xc → Mem → Prop}
theorem FitD.mono (h : FitD k w d) (hk : k ≤ k') (hw : w ≤ w') : FitD k' w' d := let ⟨p, a, b⟩ := h; ⟨p, a, b.mono hk hw⟩
theorem fd_non : FitD k w .non := ⟨_, rfl, fit_none.mono (Nat.zero_le _) (Nat.zero_le _)⟩
theorem fd_bl {b : Bool} : FitD k w (.bl b) := ⟨_, rfl, (fit_bool b).mono (Nat.zero_le _) (Nat.zero_le _)⟩
theorem fd_str (h : PyData.strOk s = true) (hw : s.cps.size ≤ w) : FitD k w (.str s) := ⟨_, rfl, (fit_str h hw).mono (Nat.zero_le _) (Nat.le_refl _)⟩
theorem fit_int (h : i.natAbs < 10 ^ 12) : Fit 0 40 (.int i) := by
  refine ⟨rfl, Nat.zero_le _, ?_, ?_, ?_⟩
  · simp only [PyData.weight]
    split
    · exact Nat.zero_le _
    · rename_i h0
      have h1 : i.natAbs ≠ 0 := by simpa using h0
      have := (Nat.log2_lt h1 (k := 40)).mpr (Nat.lt_of_lt_of_le h (by decide))
      omega
  · simp only [PyData.showable, decide_eq_true_eq]
    by_cases h1 : i.natAbs = 0
    · rw [h1]; decide
    · have := (Nat.log2_lt h1 (k := 40)).mpr (Nat.lt_of_lt_of_le h (by decide))
      omega
  · simp only [PyData.intsShort, decide_eq_true_eq]; exact PyData.shown_int_le h
theorem fd_int (h : i.natAbs < 10 ^ 12) (hw : 40 ≤ w) : FitD k w (.int i) := ⟨_, rfl, (fit_int h).mono (Nat.zero_le _) hw⟩
theorem toPyL_fitD : ∀ {ds : List D}, (∀ d ∈ ds, FitD k w d) → ∃ ps, toPyL ds = some ps ∧ ps.length = ds.length ∧ ∀ p ∈ ps, Fit k w p := fun {ds} h => toPyL_fit ds h
theorem fd_tup (h : ∀ d ∈ ds, FitD k w d) (hn : ds.length ≤ n) : FitD (k + 1) (n * (w + 1)) (.tup ds) := by
  obtain ⟨ps, e, el, hp⟩ := toPyL_fitD h
  exact ⟨.tuple ps, by simp only [toPy, e]; rfl, fit_tuple hp (by omega)⟩
theorem fd_lst (h : ∀ d ∈ ds, FitD k w d) (hn : ds.length ≤ n) : FitD (k + 1) (n * (w + 1)) (.lst ds) := by
  obtain ⟨ps, e, el, hp⟩ := toPyL_fitD h
  exact ⟨.list ps, by simp only [toPy, e]; rfl, fit_list hp (by omega)⟩
theorem pk_dat : peek μ (.dat d) = some d := peekK_dat 5 μ d
theorem peekPy_of {p : PyData} (h : peek μ x = some d) (hp : toPy d = some p) : peekPy μ x = some p := by unfold peekPy; rw [h]; exact hp
theorem l_eqSame (hx : peek μ x = some d) (hy : peek μ y = some d) (h : FitD k w d) (hk : k ≤ 64) (q : QR (.dat (.bl true)) μ) : Sat (dEq x y μ) QR E := by
  obtain ⟨p, hp, hf⟩ := h
  rw [eq_same (peekPy_of hx hp) (peekPy_of hy hp) hf hk]; exact q
theorem l_repr {p : PyData} (hx : peek μ x = some d) (hp : toPy d = some p) (h : Fit k w p) (hk : k ≤ 64) (hw : w ≤ 2 ^ 20) (q : QR (.dat (.str p.shown)) μ) : Sat (d1 dRepr [x] μ) QR E := by
  rw [repr_same (peekPy_of hx hp) h hk hw]; exact q
/-! alike -/
def gAlike : SM := (gRet (eAnd (eOp dEq (eVar 0) (eVar 1)) (eOp dEq (eCB (d1 dRepr) (aCons (eVar 0) aNil)) (eCB (d1 dRepr) (aCons (eVar 1) aNil)))))
theorem alike_same (hx : peek μ x = some d) (hy : peek μ y = some d) (h : FitD k w d) (hk : k ≤ 64) (hw : w ≤ 2 ^ 20) (q : QR (.dat (.bl true)) μ) : Sat (callD gAlike 2 0 [x, y] μ) QR E := by
  obtain ⟨p, hp, hf⟩ := h
  refine x_call rfl ?_
  show SatS (gAlike μ.length [some x, some y] μ) _
  unfold gAlike
  refine s_ret (x_and (x_op (v_var rfl (v_var rfl (l_eqSame hx hy ⟨p, hp, hf⟩ hk (b_bl (if_T ?_)))))))
  refine x_op (x_fz (x_cb (a_consK (v_var rfl (a_nilK (l_repr hx hp hf hk hw (z_dat ?_)))))))
  refine x_fz (x_cb (a_consK (v_var rfl (a_nilK (l_repr hy hp hf hk hw (z_dat (l_eqS ?_)))))))
  rw [decide_eq_true rfl]
  exact e_dat List.take_length q
end
end DL
namespace K32
open PySem PySem.Spec PyProof.Rows L2 DL

section
def topS (i : Nat) : Stmt := PySem.Challenge.pw_smallcount_k32_sticking_counters.main.body.getD i (.Pass ⟨0, 0, 0, 0⟩)
def clsS (i j : Nat) : Stmt := (clsBody (topS i)).getD j (.Pass ⟨0, 0, 0, 0⟩)
abbrev s_Counter___eq__ : Stmt := clsS 12 2
abbrev N_Counter___eq__ : List Str := ["self", "other"]
theorem sc_Counter___eq__ : FnScope N_Counter___eq__ ["self", "other"] (defScope s_Counter___eq__) := ⟨rfl, rfl, rfl, by decide +kernel, rfl, by decide +kernel, by decide +kernel⟩
abbrev s_is_integer : Stmt := topS 7
abbrev N_is_integer : List Str := ["thing"]
theorem sc_is_integer : FnScope N_is_integer ["thing"] (defScope s_is_integer) := ⟨rfl, rfl, rfl, by decide +kernel, rfl, by decide +kernel, by decide +kernel⟩
abbrev s_is_number : Stmt := topS 9
abbrev N_is_number : List Str := ["thing", "many"]
theorem sc_is_number : FnScope N_is_number ["thing", "many"] (defScope s_is_number) := ⟨rfl, rfl, rfl, by decide +kernel, rfl, by decide +kernel, by decide +kernel⟩
abbrev s_is_mark : Stmt := topS 10
abbrev N_is_mark : List Str := ["thing", "many"]
theorem sc_is_mark : FnScope N_is_mark ["thing", "many"] (defScope s_is_mark) := ⟨rfl, rfl, rfl, by decide +kernel, rfl, by decide +kernel, by decide +kernel⟩
abbrev s_are_marks : Stmt := topS 11
abbrev N_are_marks : List Str := ["thing", "mark"]
theorem sc_are_marks : FnScope N_are_marks ["thing"] (defScope s_are_marks) := ⟨rfl, rfl, rfl, by decide +kernel, rfl, by decide +kernel, by decide +kernel⟩
abbrev s_Counter___init__ : Stmt := clsS 12 0
abbrev N_Counter___init__ : List Str := ["self", "marks", "mark"]
theorem sc_Counter___init__ : FnScope N_Counter___init__ ["self", "marks"] (defScope s_Counter___init__) := ⟨rfl, rfl, rfl, by decide +kernel, rfl, by decide +kernel, by decide +kernel⟩
abbrev s_Counter_marks : Stmt := clsS 12 3
abbrev N_Counter_marks : List Str := ["self"]
theorem sc_Counter_marks : FnScope N_Counter_marks ["self"] (defScope s_Counter_marks) := ⟨rfl, rfl, rfl, by decide +kernel, rfl, by decide +kernel, by decide +kernel⟩
abbrev s__law_alike : Stmt := topS 19
abbrev N__law_alike : List Str := ["_law_found", "_law_due"]
theorem sc__law_alike : FnScope N__law_alike ["_law_found", "_law_due"] (defScope s__law_alike) := ⟨rfl, rfl, rfl, by decide +kernel, rfl, by decide +kernel, by decide +kernel⟩
abbrev s__law_bag : Stmt := topS 17
abbrev N__law_bag : List Str := ["_law_script", "_law_cell"]
theorem sc__law_bag : FnScope N__law_bag ["_law_script"] (defScope s__law_bag) := ⟨rfl, rfl, rfl, by decide +kernel, rfl, by decide +kernel, by decide +kernel⟩
abbrev s__law_count : Stmt := topS 21
abbrev N__law_count : List Str := ["_law_touches", "_law_many", "_law_number", "_law_is_stuck", "_law_touch"]
theorem sc__law_count : FnScope N__law_count ["_law_touches", "_law_many"] (defScope s__law_count) := ⟨rfl, rfl, rfl, by decide +kernel, rfl, by decide +kernel, by decide +kernel⟩
abbrev s__law_sticking : Stmt := topS 20
abbrev N__law_sticking : List Str := ["_law_many", "_law_found", "_law_at"]
theorem sc__law_sticking : FnScope N__law_sticking ["_law_many"] (defScope s__law_sticking) := ⟨rfl, rfl, rfl, by decide +kernel, rfl, by decide +kernel, by decide +kernel⟩
abbrev s__law_take : Stmt := topS 18
abbrev N__law_take : List Str := ["_law_bag_here", "_law_many", "_law_cell", "_law_mixed", "_law_drawn", "_law_early", "_law_second"]
theorem sc__law_take : FnScope N__law_take ["_law_bag_here", "_law_many"] (defScope s__law_take) := ⟨rfl, rfl, rfl, by decide +kernel, rfl, by decide +kernel, by decide +kernel⟩
abbrev s_Counter___len__ : Stmt := clsS 12 1
abbrev N_Counter___len__ : List Str := ["self"]
theorem sc_Counter___len__ : FnScope N_Counter___len__ ["self"] (defScope s_Counter___len__) := ⟨rfl, rfl, rfl, by decide +kernel, rfl, by decide +kernel, by decide +kernel⟩
abbrev s_Counter_need_mark : Stmt := clsS 12 4
abbrev N_Counter_need_mark : List Str := ["self", "number"]
theorem sc_Counter_need_mark : FnScope N_Counter_need_mark ["self", "number"] (defScope s_Counter_need_mark) := ⟨rfl, rfl, rfl, by decide +kernel, rfl, by decide +kernel, by decide +kernel⟩
abbrev s_Counter_less : Stmt := clsS 12 6
abbrev N_Counter_less : List Str := ["self", "number"]
theorem sc_Counter_less : FnScope N_Counter_less ["self", "number"] (defScope s_Counter_less) := ⟨rfl, rfl, rfl, by decide +kernel, rfl, by decide +kernel, by decide +kernel⟩
abbrev s_Counter_more : Stmt := clsS 12 5
abbrev N_Counter_more : List Str := ["self", "number"]
theorem sc_Counter_more : FnScope N_Counter_more ["self", "number"] (defScope s_Counter_more) := ⟨rfl, rfl, rfl, by decide +kernel, rfl, by decide +kernel, by decide +kernel⟩
abbrev s_touched : Stmt := topS 14
abbrev N_touched : List Str := ["counter", "number", "touch"]
theorem sc_touched : FnScope N_touched ["counter", "number", "touch"] (defScope s_touched) := ⟨rfl, rfl, rfl, by decide +kernel, rfl, by decide +kernel, by decide +kernel⟩
abbrev s_led : Stmt := topS 15
abbrev N_led : List Str := ["counter", "number", "touches", "touch"]
theorem sc_led : FnScope N_led ["counter", "number", "touches"] (defScope s_led) := ⟨rfl, rfl, rfl, by decide +kernel, rfl, by decide +kernel, by decide +kernel⟩
abbrev s_sticking : Stmt := topS 13
abbrev N_sticking : List Str := ["many", "last", "found", "number", "less"]
theorem sc_sticking : FnScope N_sticking ["many"] (defScope s_sticking) := ⟨rfl, rfl, rfl, by decide +kernel, rfl, by decide +kernel, by decide +kernel⟩
abbrev s_law : Stmt := topS 22
abbrev N_law : List Str := ["_law_script", "_law_bag_here", "_law_many", "_law_counter", "_law_turn", "_law_touches", "_law_number", "_law_k", "_law_touch", "_law_up"]
theorem sc_law : FnScope N_law ["_law_script"] (defScope s_law) := ⟨rfl, rfl, rfl, by decide +kernel, rfl, by decide +kernel, by decide +kernel⟩
/-! what the defs are, as functions -/
@[irreducible] def g_Counter___eq__ : SM :=
    (gRet (eAnd (eUn (dIsi (tabC "Counter" [])) (eVar 1)) (eOp dEq (eFld ["Counter"] "its_marks" (eVar 0)) (eFld ["Counter"] "its_marks" (eVar 1)))))
def F_Counter___eq__ : List DV → Mem → Res R := callD g_Counter___eq__ 2 0
theorem w_Counter___eq__ {a0 a1 : DV} {μ : Mem} {Q : R → Mem → Prop} {E : Xc → Mem → Prop} (h : SatS (g_Counter___eq__ μ.length [some a0, some a1] μ) (endP μ.length Q E)) : Sat (F_Counter___eq__ [a0, a1] μ) Q E := x_call rfl h
@[irreducible] def g_is_integer : SM :=
    (gRet (eAnd (eUn (dIsi (tabT "int" ["Counter"])) (eVar 0)) (eNot (eUn (dIsi (tabT "bool" ["Counter"])) (eVar 0)))))
def F_is_integer : List DV → Mem → Res R := callD g_is_integer 1 0
theorem w_is_integer {a0 : DV} {μ : Mem} {Q : R → Mem → Prop} {E : Xc → Mem → Prop} (h : SatS (g_is_integer μ.length [some a0] μ) (endP μ.length Q E)) : Sat (F_is_integer [a0] μ) Q E := x_call rfl h
@[irreducible] def g_is_number : SM :=
    (gRet (eAnd (eCB F_is_integer (aCons (eVar 0) aNil)) (eChain dLe dLt (eD (.int 0)) (eVar 0) (eVar 1))))
def F_is_number : List DV → Mem → Res R := callD g_is_number 2 0
theorem w_is_number {a0 a1 : DV} {μ : Mem} {Q : R → Mem → Prop} {E : Xc → Mem → Prop} (h : SatS (g_is_number μ.length [some a0, some a1] μ) (endP μ.length Q E)) : Sat (F_is_number [a0, a1] μ) Q E := x_call rfl h
@[irreducible] def g_is_mark : SM :=
    (gSeq (gIf (tmOr (tmNot (tmB (eUn (dIsi (tabT2 "list" "tuple" ["Counter"])) (eVar 0)))) (tmOr (tmB (eOp dNe (eCB (d1 dLen) (aCons (eVar 0) aNil)) (eD (.int 3)))) (tmNot (tmB (eCB F_is_number (aCons (eOp dIx (eVar 0) (eD (.int 0))) (aCons (eVar 1) aNil))))))) (gRet (eD (.bl false))) gNext)
    (gRet (eAnd (eOr (eIsN (eOp dIx (eVar 0) (eD (.int 1)))) (eCB F_is_number (aCons (eOp dIx (eVar 0) (eD (.int 1))) (aCons (eVar 1) aNil)))) (eUn (dIsi (tabT "bool" ["Counter"])) (eOp dIx (eVar 0) (eD (.int 2)))))))
def F_is_mark : List DV → Mem → Res R := callD g_is_mark 2 0
theorem w_is_mark {a0 a1 : DV} {μ : Mem} {Q : R → Mem → Prop} {E : Xc → Mem → Prop} (h : SatS (g_is_mark μ.length [some a0, some a1] μ) (endP μ.length Q E)) : Sat (F_is_mark [a0, a1] μ) Q E := x_call rfl h
@[irreducible] def g_are_marks : SM :=
    (gSeq (gIf (tmOr (tmNot (tmB (eUn (dIsi (tabT2 "list" "tuple" ["Counter"])) (eVar 0)))) (tmNot (tmB (eChain dLe dLe (eD (.int 1)) (eCB (d1 dLen) (aCons (eVar 0) aNil)) (eD (.int 6)))))) (gRet (eD (.bl false))) gNext)
    (gRet (eCB (d1 (dAll fun bs => bs.all id)) (aCons (eLc (imSeq (eVar 0)) (tgName 1) tmYes (eCB F_is_mark (aCons (eVar 1) (aCons (eCB (d1 dLen) (aCons (eVar 0) aNil)) aNil))) [1]) aNil))))
def F_are_marks : List DV → Mem → Res R := callD g_are_marks 1 1
theorem w_are_marks {a0 : DV} {μ : Mem} {Q : R → Mem → Prop} {E : Xc → Mem → Prop} (h : SatS (g_are_marks μ.length [some a0, none] μ) (endP μ.length Q E)) : Sat (F_are_marks [a0] μ) Q E := x_call rfl h
@[irreducible] def g_Counter___init__ : SM :=
    (gSeq (gIf (tmNot (tmB (eCB F_are_marks (aCons (eVar 1) aNil)))) gBad gNext)
    (gFld ["Counter"] "its_marks" (eVar 0) (eLc (imSeq (eVar 1)) (tgName 2) tmYes (eCB (d1 dTuple) (aCons (eVar 2) aNil)) [2])))
def F_Counter___init__ : List DV → Mem → Res R := callD g_Counter___init__ 2 1
theorem w_Counter___init__ {a0 a1 : DV} {μ : Mem} {Q : R → Mem → Prop} {E : Xc → Mem → Prop} (h : SatS (g_Counter___init__ μ.length [some a0, some a1, none] μ) (endP μ.length Q E)) : Sat (F_Counter___init__ [a0, a1] μ) Q E := x_call rfl h
@[irreducible] def g_Counter_marks : SM :=
    (gRet (eCB (d1 dList) (aCons (eFld ["Counter"] "its_marks" (eVar 0)) aNil)))
def F_Counter_marks : List DV → Mem → Res R := callD g_Counter_marks 1 0
theorem w_Counter_marks {a0 : DV} {μ : Mem} {Q : R → Mem → Prop} {E : Xc → Mem → Prop} (h : SatS (g_Counter_marks μ.length [some a0] μ) (endP μ.length Q E)) : Sat (F_Counter_marks [a0] μ) Q E := x_call rfl h
@[irreducible] def g__law_alike : SM :=
    (gRet (eAnd (eOp dEq (eVar 0) (eVar 1)) (eOp dEq (eCB (d1 dRepr) (aCons (eVar 0) aNil)) (eCB (d1 dRepr) (aCons (eVar 1) aNil)))))
def F__law_alike : List DV → Mem → Res R := callD g__law_alike 2 0
theorem w__law_alike {a0 a1 : DV} {μ : Mem} {Q : R → Mem → Prop} {E : Xc → Mem → Prop} (h : SatS (g__law_alike μ.length [some a0, some a1] μ) (endP μ.length Q E)) : Sat (F__law_alike [a0, a1] μ) Q E := x_call rfl h
theorem e__law_alike : F__law_alike = callD gAlike 2 0 := by unfold F__law_alike g__law_alike gAlike; rfl
@[irreducible] def g__law_bag : SM :=
    (gRet (eLst (aCons (eD (.int 0)) (aCons (eD (.int 1234567891)) (aCons (eD (.int 0)) (aCons (eLc (imSeq (eSl (eVar 0) oNone (oSome (eD (.int 63))))) (tgName 1) tmYes (eCB (d1 dAbs) (aCons (eVar 1) aNil)) [1]) aNil))))))
def F__law_bag : List DV → Mem → Res R := callD g__law_bag 1 1
theorem w__law_bag {a0 : DV} {μ : Mem} {Q : R → Mem → Prop} {E : Xc → Mem → Prop} (h : SatS (g__law_bag μ.length [some a0, none] μ) (endP μ.length Q E)) : Sat (F__law_bag [a0] μ) Q E := x_call rfl h
theorem e__law_bag : F__law_bag = callD gBag 1 1 := by unfold F__law_bag g__law_bag gBag; rfl
@[irreducible] def b__law_count_1 : SM :=
    (gSeq (gAug 2 (fun i j => i + j) (eIf (tmB (eOp dEq (eVar 4) (eD (.str "more")))) (eD (.int 1)) (eUn dNeg (eD (.int 1)))))
    (gSeq (gAsg 3 (eOr (eVar 3) (eOp dGe (eVar 2) (eVar 1))))
    (gIf (tmAnd (tmB (eOp dEq (eVar 2) (eD (.int 0)))) (tmNot (tmB (eVar 3)))) (gRet (eD .non)) gNext)))
@[irreducible] def g__law_count : SM :=
    (gSeq (gPar 2 3 (aCons (eD (.int 1)) (aCons (eOp dEq (eVar 1) (eD (.int 1))) aNil)))
    (gSeq (gFor [true, true, true, true, false] (imSeq (eVar 0)) (tgName 4) b__law_count_1)
    (gRet (eIf (tmB (eVar 3)) (eOp dSub (eVar 1) (eD (.int 1))) (eOp dSub (eVar 2) (eD (.int 1)))))))
def F__law_count : List DV → Mem → Res R := callD g__law_count 2 3
theorem w__law_count {a0 a1 : DV} {μ : Mem} {Q : R → Mem → Prop} {E : Xc → Mem → Prop} (h : SatS (g__law_count μ.length [some a0, some a1, none, none, none] μ) (endP μ.length Q E)) : Sat (F__law_count [a0, a1] μ) Q E := x_call rfl h
@[irreducible] def g__law_sticking : SM :=
    (gSeq (gAsg 1 (eOp dAdd (eLst (aCons (eTup (aCons (eD (.int 1)) (aCons (eD .non) (aCons (eD (.bl false)) aNil)))) aNil)) (eLc (imRng2 (aCons (eD (.int 1)) (aCons (eOp dSub (eVar 0) (eD (.int 1))) aNil))) (tgName 2) tmYes (eTup (aCons (eOp dAdd (eVar 2) (eD (.int 1))) (aCons (eOp dSub (eVar 2) (eD (.int 1))) (aCons (eD (.bl true)) aNil)))) [2])))
    (gRet (eIf (tmB (eOp dGt (eVar 0) (eD (.int 1)))) (eOp dAdd (eVar 1) (eLst (aCons (eTup (aCons (eOp dSub (eVar 0) (eD (.int 1))) (aCons (eOp dSub (eVar 0) (eD (.int 1))) (aCons (eD (.bl true)) aNil)))) aNil))) (eLst (aCons (eTup (aCons (eD (.int 0)) (aCons (eD (.int 0)) (aCons (eD (.bl true)) aNil)))) aNil)))))
def F__law_sticking : List DV → Mem → Res R := callD g__law_sticking 1 2
theorem w__law_sticking {a0 : DV} {μ : Mem} {Q : R → Mem → Prop} {E : Xc → Mem → Prop} (h : SatS (g__law_sticking μ.length [some a0, none, none] μ) (endP μ.length Q E)) : Sat (F__law_sticking [a0] μ) Q E := x_call rfl h
@[irreducible] def g__law_take : SM :=
    (gSeq (gIf (tmB (eOp dEq (eOp dIx (eVar 0) (eD (.int 0))) (eD (.int 0)))) (gSeq (gAsg 2 (eD (.int 0)))
    (gSeq (gIf (tmB (eOp dLt (eOp dIx (eVar 0) (eD (.int 2))) (eCB (d1 dLen) (aCons (eOp dIx (eVar 0) (eD (.int 3))) aNil)))) (gAsg 2 (eOp dIx (eOp dIx (eVar 0) (eD (.int 3))) (eOp dIx (eVar 0) (eD (.int 2))))) gNext)
    (gSeq (gAugS (fun i j => i + j) (eVar 0) (eD (.int 2)) (eD (.int 1)))
    (gSeq (gIf (tmB (eOp dGe (eVar 2) (eD (.int 1000000000000000000)))) (gSet (eVar 0) (eD (.int 0)) (eVar 2)) gNext)
    (gSeq (gAsg 3 (eOp dAdd (eOp dAdd (eOp dMul (eOp dIx (eVar 0) (eD (.int 1))) (eD (.int 48271))) (eOp dMod (eCB (d1 dInt) (aCons (eVar 2) aNil)) (eD (.int 2147483647)))) (eOp dMul (eD (.int 7919)) (eOp dIx (eVar 0) (eD (.int 2))))))
    (gSet (eVar 0) (eD (.int 1)) (eOp dMod (eCB (d1 dInt) (aCons (eVar 3) aNil)) (eD (.int 2147483647))))))))) gNext)
    (gSeq (gIf (tmB (eOp dGt (eOp dIx (eVar 0) (eD (.int 0))) (eD (.int 0)))) (gSeq (gAsg 4 (eOp dMod (eCB (d1 dInt) (aCons (eOp dIx (eVar 0) (eD (.int 0))) aNil)) (eVar 1)))
    (gSeq (gSet (eVar 0) (eD (.int 0)) (eOp dDiv (eCB (d1 dInt) (aCons (eOp dIx (eVar 0) (eD (.int 0))) aNil)) (eVar 1)))
    (gRet (eVar 4)))) gNext)
    (gSeq (gAsg 5 (eOp dMod (eCB (d1 dInt) (aCons (eOp dMul (eOp dAdd (eOp dIx (eVar 0) (eD (.int 1))) (eD (.int 1))) (eD (.int 39373))) aNil)) (eD (.int 1000000007))))
    (gSeq (gAsg 6 (eOp dMod (eCB (d1 dInt) (aCons (eOp dMul (eOp dMod (eCB (d1 dInt) (aCons (eOp dMul (eVar 5) (eVar 5)) aNil)) (eD (.int 998244353))) (eD (.int 30011))) aNil)) (eD (.int 998244353))))
    (gRet (eOp dMod (eCB (d1 dInt) (aCons (eOp dDiv (eVar 6) (eD (.int 7))) aNil)) (eVar 1)))))))
def F__law_take : List DV → Mem → Res R := callD g__law_take 2 5
theorem w__law_take {a0 a1 : DV} {μ : Mem} {Q : R → Mem → Prop} {E : Xc → Mem → Prop} (h : SatS (g__law_take μ.length [some a0, some a1, none, none, none, none, none] μ) (endP μ.length Q E)) : Sat (F__law_take [a0, a1] μ) Q E := x_call rfl h
theorem e__law_take : F__law_take = callD gTake 2 5 := by unfold F__law_take g__law_take gTake; rfl
@[irreducible] def g_Counter___len__ : SM :=
    (gRet (eCB (d1 dLen) (aCons (eFld ["Counter"] "its_marks" (eVar 0)) aNil)))
def F_Counter___len__ : List DV → Mem → Res R := callD g_Counter___len__ 1 0
theorem w_Counter___len__ {a0 : DV} {μ : Mem} {Q : R → Mem → Prop} {E : Xc → Mem → Prop} (h : SatS (g_Counter___len__ μ.length [some a0] μ) (endP μ.length Q E)) : Sat (F_Counter___len__ [a0] μ) Q E := x_call rfl h
@[irreducible] def g_Counter_need_mark : SM :=
    (gIf (tmNot (tmB (eCB F_is_number (aCons (eVar 1) (aCons (eLenO "Counter" F_Counter___len__ (eVar 0)) aNil))))) gBad gNext)
def F_Counter_need_mark : List DV → Mem → Res R := callD g_Counter_need_mark 2 0
theorem w_Counter_need_mark {a0 a1 : DV} {μ : Mem} {Q : R → Mem → Prop} {E : Xc → Mem → Prop} (h : SatS (g_Counter_need_mark μ.length [some a0, some a1] μ) (endP μ.length Q E)) : Sat (F_Counter_need_mark [a0, a1] μ) Q E := x_call rfl h
@[irreducible] def g_Counter_less : SM :=
    (gSeq (gDrop (eMeth "Counter" "need_mark" F_Counter_need_mark (eVar 0) (aCons (eVar 1) aNil)))
    (gRet (eOp dIx (eOp dIx (eFld ["Counter"] "its_marks" (eVar 0)) (eVar 1)) (eD (.int 1)))))
def F_Counter_less : List DV → Mem → Res R := callD g_Counter_less 2 0
theorem w_Counter_less {a0 a1 : DV} {μ : Mem} {Q : R → Mem → Prop} {E : Xc → Mem → Prop} (h : SatS (g_Counter_less μ.length [some a0, some a1] μ) (endP μ.length Q E)) : Sat (F_Counter_less [a0, a1] μ) Q E := x_call rfl h
@[irreducible] def g_Counter_more : SM :=
    (gSeq (gDrop (eMeth "Counter" "need_mark" F_Counter_need_mark (eVar 0) (aCons (eVar 1) aNil)))
    (gRet (eOp dIx (eOp dIx (eFld ["Counter"] "its_marks" (eVar 0)) (eVar 1)) (eD (.int 0)))))
def F_Counter_more : List DV → Mem → Res R := callD g_Counter_more 2 0
theorem w_Counter_more {a0 a1 : DV} {μ : Mem} {Q : R → Mem → Prop} {E : Xc → Mem → Prop} (h : SatS (g_Counter_more μ.length [some a0, some a1] μ) (endP μ.length Q E)) : Sat (F_Counter_more [a0, a1] μ) Q E := x_call rfl h
@[irreducible] def g_touched : SM :=
    (gRet (eIf (tmB (eOp dEq (eVar 2) (eD (.str "more")))) (eMeth "Counter" "more" F_Counter_more (eVar 0) (aCons (eVar 1) aNil)) (eMeth "Counter" "less" F_Counter_less (eVar 0) (aCons (eVar 1) aNil))))
def F_touched : List DV → Mem → Res R := callD g_touched 3 0
theorem w_touched {a0 a1 a2 : DV} {μ : Mem} {Q : R → Mem → Prop} {E : Xc → Mem → Prop} (h : SatS (g_touched μ.length [some a0, some a1, some a2] μ) (endP μ.length Q E)) : Sat (F_touched [a0, a1, a2] μ) Q E := x_call rfl h
@[irreducible] def b_led_1 : SM :=
    (gIf (tmB (eNotN (eVar 1))) (gAsg 1 (eCB F_touched (aCons (eVar 0) (aCons (eVar 1) (aCons (eVar 3) aNil))))) gNext)
@[irreducible] def g_led : SM :=
    (gSeq (gDrop (eMeth "Counter" "need_mark" F_Counter_need_mark (eVar 0) (aCons (eVar 1) aNil)))
    (gSeq (gFor [true, true, true, false] (imSeq (eVar 2)) (tgName 3) b_led_1)
    (gRet (eVar 1))))
def F_led : List DV → Mem → Res R := callD g_led 3 1
theorem w_led {a0 a1 a2 : DV} {μ : Mem} {Q : R → Mem → Prop} {E : Xc → Mem → Prop} (h : SatS (g_led μ.length [some a0, some a1, some a2, none] μ) (endP μ.length Q E)) : Sat (F_led [a0, a1, a2] μ) Q E := x_call rfl h
@[irreducible] def b_sticking_1 : SM :=
    (gSeq (gAsg 4 (eIf (tmB (eOp dEq (eVar 3) (eVar 1))) (eVar 3) (eOp dSub (eVar 3) (eD (.int 1)))))
    (gDrop (eBM tyL dAppend (eVar 2) (aCons (eTup (aCons (eCB (d2 (dMM (fun i j => if j < i then j else i))) (aCons (eOp dAdd (eVar 3) (eD (.int 1))) (aCons (eVar 1) aNil))) (aCons (eIf (tmB (eOp dLt (eVar 4) (eD (.int 0)))) (eD .non) (eVar 4)) (aCons (eOr (eOp dGt (eVar 3) (eD (.int 0))) (eOp dEq (eVar 1) (eD (.int 0)))) aNil)))) aNil))))
@[irreducible] def g_sticking : SM :=
    (gSeq (gAsg 1 (eOp dSub (eVar 0) (eD (.int 1))))
    (gSeq (gNew 2 (eLst aNil))
    (gSeq (gFor [true, true, true, false, false] (imRng (aCons (eVar 0) aNil)) (tgName 3) b_sticking_1)
    (gSeq (gFrz 2) (gRet (eMake "Counter" F_Counter___init__ (aCons (eVar 2) aNil)))))))
def F_sticking : List DV → Mem → Res R := callD g_sticking 1 4
theorem w_sticking {a0 : DV} {μ : Mem} {Q : R → Mem → Prop} {E : Xc → Mem → Prop} (h : SatS (g_sticking μ.length [some a0, none, none, none, none] μ) (endP μ.length Q E)) : Sat (F_sticking [a0] μ) Q E := x_call rfl h
@[irreducible] def b_law_1 : SM :=
    (gSeq (gAsg 8 (eOp dIx (eLst (aCons (eD (.str "more")) (aCons (eD (.str "less")) (aCons (eD (.str "less")) aNil)))) (eCB F__law_take (aCons (eVar 1) (aCons (eD (.int 3)) aNil)))))
    (gDrop (eBM tyL dAppend (eVar 5) (aCons (eVar 8) aNil))))
@[irreducible] def b_law_2 : SM :=
    (gSeq (gPar2 5 6 (eLst aNil) (eD (.int 1)))
    (gSeq (gFor [true, true, true, true, true, true, true, false, false, false] (imRng (aCons (eCB F__law_take (aCons (eVar 1) (aCons (eD (.int 30)) aNil))) aNil)) (tgName 7) b_law_1)
    (gSeq (gFrz 5) (gSeq (gIf (tmNot (tmB (eCB F__law_alike (aCons (eCB F_led (aCons (eVar 3) (aCons (eD (.int 0)) (aCons (eVar 5) aNil)))) (aCons (eCB F__law_count (aCons (eVar 5) (aCons (eVar 2) aNil))) aNil))))) (gRet (eD (.bl false))) gNext)
    (gSeq (gAsg 9 (eOp dAdd (eOp dMulX (eLst (aCons (eD (.str "more")) aNil)) (eCB F__law_take (aCons (eVar 1) (aCons (eD (.int 8)) aNil)))) (eOp dMulX (eLst (aCons (eD (.str "less")) aNil)) (eCB F__law_take (aCons (eVar 1) (aCons (eD (.int 8)) aNil))))))
    (gIf (tmNot (tmB (eCB F__law_alike (aCons (eLst (aCons (eCB F_led (aCons (eVar 3) (aCons (eD (.int 0)) (aCons (eVar 9) aNil)))) (aCons (eCB F_led (aCons (eVar 3) (aCons (eD (.int 0)) (aCons (eVar 9) aNil)))) aNil))) (aCons (eOp dMulX (eLst (aCons (eCB F__law_count (aCons (eVar 9) (aCons (eVar 2) aNil))) aNil)) (eD (.int 2))) aNil))))) (gRet (eD (.bl false))) gNext))))))
@[irreducible] def b_law_3 : SM :=
    (gSeq (gAsg 3 (eCB F_sticking (aCons (eVar 2) aNil)))
    (gSeq (gIf (tmOr (tmNot (tmB (eEqO "Counter" [] F_Counter___eq__ (eVar 3) (eMake "Counter" F_Counter___init__ (aCons (eCB F__law_sticking (aCons (eVar 2) aNil)) aNil))))) (tmNot (tmB (eCB F__law_alike (aCons (eMeth "Counter" "marks" F_Counter_marks (eVar 3) aNil) (aCons (eCB F__law_sticking (aCons (eVar 2) aNil)) aNil)))))) (gRet (eD (.bl false))) gNext)
    (gFor [true, true, true, true, false, false, false, false, false, false] (imRng (aCons (eD (.int 6)) aNil)) (tgName 4) b_law_2)))
@[irreducible] def g_law : SM :=
    (gSeq (gNew 1 (eCB F__law_bag (aCons (eVar 0) aNil)))
    (gSeq (gFor [true, true, false, false, false, false, false, false, false, false] (imRng2 (aCons (eD (.int 1)) (aCons (eD (.int 7)) aNil))) (tgName 2) b_law_3)
    (gRet (eD (.bl true)))))
def F_law : List DV → Mem → Res R := callD g_law 1 9
theorem w_law {a0 : DV} {μ : Mem} {Q : R → Mem → Prop} {E : Xc → Mem → Prop} (h : SatS (g_law μ.length [some a0, none, none, none, none, none, none, none, none, none] μ) (endP μ.length Q E)) : Sat (F_law [a0] μ) Q E := x_call rfl h
/-! what the text holds besides -/
structure Tx (w : World) (K : PySem.W.Frag) (mg : Str → Option Value) (c_Counter : Addr) : Prop where
  m_abs : mg "abs" = none
  m_all : mg "all" = none
  m_bool : mg "bool" = none
  m_int : mg "int" = none
  m_isinstance : mg "isinstance" = none
  m_len : mg "len" = none
  m_list : mg "list" = none
  m_min : mg "min" = none
  m_range : mg "range" = none
  m_repr : mg "repr" = none
  m_tuple : mg "tuple" = none
  g_MOST_MARKS : ∃ t, mg "MOST_MARKS" = some (.int 6 t)
  g_Counter : mg "Counter" = some (.ref c_Counter)
  k_Counter : ClsAt K "Counter" c_Counter
  f_its_marks : ∀ nm ∈ (["Counter"] : List Str), FldOk K nm "its_marks"
  iC_Counter : TabOk K (tabC "Counter" []) fun t b => PySem.W.kitOne K t (.ref c_Counter) = some b
  iT_bool : TabOk K (tabT "bool" ["Counter"]) fun t b => PySem.W.kitOne K t (.type "bool") = some b
  iT_int : TabOk K (tabT "int" ["Counter"]) fun t b => PySem.W.kitOne K t (.type "int") = some b
  iT2_list_tuple : TabOk K (tabT2 "list" "tuple" ["Counter"]) fun t b => PySem.W.kitAny K t [.type "list", .type "tuple"] = some b
section
variable {P : Program} {w : World} {K : PySem.W.Frag} {mg : Str → Option Value} {base : Heap} {c_Counter : Addr}
set_option maxHeartbeats 4000000 in
theorem ok_Counter___eq__ {f : Addr} {fd : FuncData} (F : Fun K "__eq__" "Counter.__eq__" s_Counter___eq__ f fd) (cl : Cls K c_Counter) (hm : Meth K c_Counter "__eq__" f) (T : Tx w K mg c_Counter)  : MthD P w K mg base CX0 1 "Counter" "__eq__" 2 F_Counter___eq__ := by
  refine fn_okM F sc_Counter___eq__ T.k_Counter cl hm rfl rfl (fun _ _ _ _ _ _ us hl => match us, hl with | [_, _], _ => rfl) fun cdv A out s H E hr hgd => ?_
  have nd := (sc_Counter___eq__).nd
  unfold g_Counter___eq__
  exact Exists.intro _ (ss_one (sm_ret (pm_and (pm_isi K rfl T.m_isinstance (.own c_Counter) T.iC_Counter (pm_var 1) (pe_glob (v := .ref c_Counter) rfl T.g_Counter rfl)) (pm_one (pm_cmpK (op_eqK K hr.units) (od_eq (K := K)) (pm_fld K T.f_its_marks (pm_var 0)) (pm_fld K T.f_its_marks (pm_var 1)) (nomark _))))))
set_option maxHeartbeats 4000000 in
theorem ok_is_integer {f : Addr} {fd : FuncData} (F : Fun K "is_integer" "is_integer" s_is_integer f fd) (hm : mg "is_integer" = some (.ref f)) (T : Tx w K mg c_Counter)  : FnD P w K mg base CX0 1 "is_integer" 1 F_is_integer := by
  refine fn_ok F sc_is_integer hm rfl rfl (fun _ _ _ _ _ _ us hl => match us, hl with | [_], _ => rfl) fun cdv A out s H E hr hgd => ?_
  have nd := (sc_is_integer).nd
  unfold g_is_integer
  exact Exists.intro _ (ss_one (sm_ret (pm_and (pm_isi K rfl T.m_isinstance (.ty "int") T.iT_int (pm_var 0) (pe_tyN rfl T.m_int (by decide +kernel))) (pm_one (pm_not (pm_isi K rfl T.m_isinstance (.ty "bool") T.iT_bool (pm_var 0) (pe_tyN rfl T.m_bool (by decide +kernel))))))))
set_option maxHeartbeats 4000000 in
theorem ok_is_number {f : Addr} {fd : FuncData} (F : Fun K "is_number" "is_number" s_is_number f fd) (hm : mg "is_number" = some (.ref f)) (T : Tx w K mg c_Counter) (C_is_integer : FnD P w K mg base CX0 1 "is_integer" 1 F_is_integer) : FnD P w K mg base CX0 2 "is_number" 2 F_is_number := by
  refine fn_ok F sc_is_number hm rfl rfl (fun _ _ _ _ _ _ us hl => match us, hl with | [_, _], _ => rfl) fun cdv A out s H E hr hgd => ?_
  have nd := (sc_is_number).nd
  unfold g_is_number
  exact Exists.intro _ (ss_one (sm_ret (pm_and (pm_callK C_is_integer (hr.mono (by decide)) hgd rfl pass_0 (pma_cons (pm_var 0) pma_nil)) (pm_one (pm_chain op_le (od_le (K := K)) op_lt (od_lt (K := K)) pm_int (pm_var 0) (pm_var 1))))))
set_option maxHeartbeats 4000000 in
theorem ok_is_mark {f : Addr} {fd : FuncData} (F : Fun K "is_mark" "is_mark" s_is_mark f fd) (hm : mg "is_mark" = some (.ref f)) (T : Tx w K mg c_Counter) (C_is_number : FnD P w K mg base CX0 2 "is_number" 2 F_is_number) : FnD P w K mg base CX0 3 "is_mark" 2 F_is_mark := by
  refine fn_ok F sc_is_mark hm rfl rfl (fun _ _ _ _ _ _ us hl => match us, hl with | [_, _], _ => rfl) fun cdv A out s H E hr hgd => ?_
  have nd := (sc_is_mark).nd
  unfold g_is_mark
  exact Exists.intro _ (ss_cons (sm_if (PMW.t (w_or (pt_no (pt_of (pm_isi2 K rfl T.m_isinstance (.ty "list") (.ty "tuple") T.iT2_list_tuple (pm_var 0) (pe_tyN rfl T.m_list (by decide +kernel)) (pe_tyN rfl T.m_tuple (by decide +kernel))))) (w_or (pt_cmpK (op_neK K hr.units) (od_ne (K := K)) (pm_cbK (call_lenK K) (cd_len (K := K)) (by rfl) T.m_len PySem.boot_len (pma_cons (pm_var 0) pma_nil)) pm_int (nomark _)) (w_or1 (pt_no (pt_of (pm_callK C_is_number (hr.mono (by decide)) hgd rfl pass_0 (pma_cons (pm_idxK K (pm_var 0) pm_int (fun _ _ => rfl)) (pma_cons (pm_var 1) pma_nil))))))))) (ss_one (sm_ret pm_bl)) ss_nil)
      (ss_one (sm_ret (pm_and (pm_or (pm_isN (pm_idxK K (pm_var 0) pm_int (fun _ _ => rfl))) (pm_one (pm_callK C_is_number (hr.mono (by decide)) hgd rfl pass_0 (pma_cons (pm_idxK K (pm_var 0) pm_int (fun _ _ => rfl)) (pma_cons (pm_var 1) pma_nil))))) (pm_one (pm_isi K rfl T.m_isinstance (.ty "bool") T.iT_bool (pm_idxK K (pm_var 0) pm_int (fun _ _ => rfl)) (pe_tyN rfl T.m_bool (by decide +kernel))))))))
set_option maxHeartbeats 4000000 in
theorem ok_are_marks {f : Addr} {fd : FuncData} (F : Fun K "are_marks" "are_marks" s_are_marks f fd) (hm : mg "are_marks" = some (.ref f)) (T : Tx w K mg c_Counter) (C_is_mark : FnD P w K mg base CX0 3 "is_mark" 2 F_is_mark) : FnD P w K mg base CX0 4 "are_marks" 1 F_are_marks := by
  obtain ⟨t_MOST_MARKS, gt_MOST_MARKS⟩ := T.g_MOST_MARKS
  refine fn_ok F sc_are_marks hm rfl rfl (fun _ _ _ _ _ _ us hl => match us, hl with | [_], _ => rfl) fun cdv A out s H E hr hgd => ?_
  have nd := (sc_are_marks).nd
  unfold g_are_marks
  exact Exists.intro _ (ss_cons (sm_if (PMW.t (w_or (pt_no (pt_of (pm_isi2 K rfl T.m_isinstance (.ty "list") (.ty "tuple") T.iT2_list_tuple (pm_var 0) (pe_tyN rfl T.m_list (by decide +kernel)) (pe_tyN rfl T.m_tuple (by decide +kernel))))) (w_or1 (pt_no (pt_chain op_le (od_le (K := K)) op_le (od_le (K := K)) pm_int (pm_cbK (call_lenK K) (cd_len (K := K)) (by rfl) T.m_len PySem.boot_len (pma_cons (pm_var 0) pma_nil)) (pm_glob (v := .int 6) rfl gt_MOST_MARKS ⟨_, rfl⟩ (fun _ => .int _))))))) (ss_one (sm_ret pm_bl)) ss_nil)
      (ss_one (sm_ret (pm_cbK (cr_allK K rfl) (cd_all (K := K) fun bs => bs.all id) (by rfl) T.m_all (by decide +kernel) (pma_cons (pm_lc (own := [("mark", 1)]) rfl nd (mi_seqK K (pm_var 0)) (blkOk_by (N := N_are_marks) (sc := defScope s_are_marks) (by decide +kernel)) (fun _ _ _ _ _ => (pg_nm 1 nd)) (by decide) (fun _ _ _ _ _ => ts_nil) (fun _ _ _ _ _ => (pm_callK C_is_mark (hr.mono (by decide)) hgd rfl pass_0 (pma_cons (pm_var 1) (pma_cons (pm_cbK (call_lenK K) (cd_len (K := K)) (by rfl) T.m_len PySem.boot_len (pma_cons (pm_var 0) pma_nil)) pma_nil))))) pma_nil)))))
set_option maxHeartbeats 4000000 in
theorem ok_Counter___init__ {f : Addr} {fd : FuncData} (F : Fun K "__init__" "Counter.__init__" s_Counter___init__ f fd) (M : Mk K c_Counter f) (T : Tx w K mg c_Counter) (C_are_marks : FnD P w K mg base CX0 4 "are_marks" 1 F_are_marks) : MakD P w K mg base CX0 5 "Counter" 2 F_Counter___init__ := by
  refine fn_okI F sc_Counter___init__ T.k_Counter T.g_Counter M rfl rfl (fun _ _ _ _ _ _ us hl => match us, hl with | [_, _], _ => rfl) fun cdv A out s H E hr hgd => ?_
  have nd := (sc_Counter___init__).nd
  unfold g_Counter___init__
  exact Exists.intro _ (ss_cons (sm_if (pt_no (pt_of (pm_callK C_are_marks (hr.mono (by decide)) hgd rfl pass_0 (pma_cons (pm_var 1) pma_nil)))) (ss_one sm_bad) ss_nil)
      (ss_one (sm_fld K T.f_its_marks (pm_var 0) (pm_lc (own := [("mark", 2)]) rfl nd (mi_seqK K (pm_var 1)) (blkOk_by (N := N_Counter___init__) (sc := defScope s_Counter___init__) (by decide +kernel)) (fun _ _ _ _ _ => (pg_nm 2 nd)) (by decide) (fun _ _ _ _ _ => ts_nil) (fun _ _ _ _ _ => (pm_ctK (call_tuple_ofK K) (cd_tuple (K := K)) (by rfl) T.m_tuple (by decide +kernel) (pma_cons (pm_var 2) pma_nil)))))))
set_option maxHeartbeats 4000000 in
theorem ok_Counter_marks {f : Addr} {fd : FuncData} (F : Fun K "marks" "Counter.marks" s_Counter_marks f fd) (cl : Cls K c_Counter) (hm : Meth K c_Counter "marks" f) (T : Tx w K mg c_Counter)  : MthD P w K mg base CX0 1 "Counter" "marks" 1 F_Counter_marks := by
  refine fn_okM F sc_Counter_marks T.k_Counter cl hm rfl rfl (fun _ _ _ _ _ _ us hl => match us, hl with | [_], _ => rfl) fun cdv A out s H E hr hgd => ?_
  have nd := (sc_Counter_marks).nd
  unfold g_Counter_marks
  exact Exists.intro _ (ss_one (sm_ret (pm_ctK (call_list_ofK K) (cd_list (K := K)) (by rfl) T.m_list (by decide +kernel) (pma_cons (pm_fld K T.f_its_marks (pm_var 0)) pma_nil))))
set_option maxHeartbeats 4000000 in
theorem ok__law_alike {f : Addr} {fd : FuncData} (F : Fun K "_law_alike" "_law_alike" s__law_alike f fd) (hm : mg "_law_alike" = some (.ref f)) (T : Tx w K mg c_Counter)  : FnD P w K mg base CX0 1 "_law_alike" 2 F__law_alike := by
  refine fn_ok F sc__law_alike hm rfl rfl (fun _ _ _ _ _ _ us hl => match us, hl with | [_, _], _ => rfl) fun cdv A out s H E hr hgd => ?_
  have nd := (sc__law_alike).nd
  unfold g__law_alike
  exact Exists.intro _ (ss_one (sm_ret (pm_and (pm_cmpK (op_eqK K hr.units) (od_eq (K := K)) (pm_var 0) (pm_var 1) (nomark _)) (pm_one (pm_cmpK (op_eqK K hr.units) (od_eq (K := K)) (pm_cbK (cr_reprK K hr hgd) (cd_repr (K := K)) (by rfl) T.m_repr (by decide +kernel) (pma_cons (pm_var 0) pma_nil)) (pm_cbK (cr_reprK K hr hgd) (cd_repr (K := K)) (by rfl) T.m_repr (by decide +kernel) (pma_cons (pm_var 1) pma_nil)) (nomark _))))))
set_option maxHeartbeats 4000000 in
theorem ok__law_bag {f : Addr} {fd : FuncData} (F : Fun K "_law_bag" "_law_bag" s__law_bag f fd) (hm : mg "_law_bag" = some (.ref f)) (T : Tx w K mg c_Counter)  : FnD P w K mg base CX0 1 "_law_bag" 1 F__law_bag := by
  refine fn_ok F sc__law_bag hm rfl rfl (fun _ _ _ _ _ _ us hl => match us, hl with | [_], _ => rfl) fun cdv A out s H E hr hgd => ?_
  have nd := (sc__law_bag).nd
  unfold g__law_bag
  exact Exists.intro _ (ss_one (sm_ret (pm_lst (pma_cons pm_int (pma_cons pm_int (pma_cons pm_int (pma_cons (pm_lc (own := [("_law_cell", 1)]) rfl nd (mi_seqK K (pm_slK K (pm_var 0) mo_none (mo_some pm_int))) (blkOk_by (N := N__law_bag) (sc := defScope s__law_bag) (by decide +kernel)) (fun _ _ _ _ _ => (pg_nm 1 nd)) (by decide) (fun _ _ _ _ _ => ts_nil) (fun _ _ _ _ _ => (pm_cbK call_abs (cd_abs (K := K)) (by rfl) T.m_abs (by decide +kernel) (pma_cons (pm_var 1) pma_nil)))) pma_nil)))))))
set_option maxHeartbeats 4000000 in
theorem ok__law_count {f : Addr} {fd : FuncData} (F : Fun K "_law_count" "_law_count" s__law_count f fd) (hm : mg "_law_count" = some (.ref f)) (T : Tx w K mg c_Counter)  : FnD P w K mg base CX0 1 "_law_count" 2 F__law_count := by
  refine fn_ok F sc__law_count hm rfl rfl (fun _ _ _ _ _ _ us hl => match us, hl with | [_, _], _ => rfl) fun cdv A out s H E hr hgd => ?_
  have nd := (sc__law_count).nd
  unfold g__law_count b__law_count_1
  exact Exists.intro _ (ss_cons (sm_par 2 3 rfl nd (pma_cons pm_int (pma_cons (pm_cmpK (op_eqK K hr.units) (od_eq (K := K)) (pm_var 1) pm_int (nomark _)) pma_nil)))
      (ss_cons (sm_for [true, true, true, true, false] PassesOwn.never rfl (mi_seqK K (pm_var 0)) (pg_nm 4 nd) (ss_cons (sm_aug 2 nd (pm_if (pt_cmpK (op_eqK K hr.units) (od_eq (K := K)) (pm_var 4) pm_str (nomark _)) pm_int (pm_neg pm_int)))
      (ss_cons (sm_asg 3 nd (pm_or (pm_var 3) (pm_one (pm_cmpK op_ge (od_ge (K := K)) (pm_var 2) (pm_var 1) (nomark _)))))
      (ss_one (sm_if (PMW.t (w_and (pt_cmpK (op_eqK K hr.units) (od_eq (K := K)) (pm_var 2) pm_int (nomark _)) (w_and1 (pt_no (pt_of (pm_var 3)))))) (ss_one (sm_ret pm_non)) ss_nil)))))
      (ss_one (sm_ret (pm_if (pt_of (pm_var 3)) (pm_sub (pm_var 1) pm_int) (pm_sub (pm_var 2) pm_int))))))
set_option maxHeartbeats 4000000 in
theorem ok__law_sticking {f : Addr} {fd : FuncData} (F : Fun K "_law_sticking" "_law_sticking" s__law_sticking f fd) (hm : mg "_law_sticking" = some (.ref f)) (T : Tx w K mg c_Counter)  : FnD P w K mg base CX0 1 "_law_sticking" 1 F__law_sticking := by
  refine fn_ok F sc__law_sticking hm rfl rfl (fun _ _ _ _ _ _ us hl => match us, hl with | [_], _ => rfl) fun cdv A out s H E hr hgd => ?_
  have nd := (sc__law_sticking).nd
  unfold g__law_sticking
  exact Exists.intro _ (ss_cons (sm_asg 1 nd (pm_addK K (pm_lst (pma_cons (pm_tup (pma_cons pm_int (pma_cons pm_non (pma_cons pm_bl pma_nil)))) pma_nil)) (pm_lc (own := [("_law_at", 2)]) rfl nd (mi_rng2 rfl T.m_range (pma_cons pm_int (pma_cons (pm_sub (pm_var 0) pm_int) pma_nil))) (blkOk_by (N := N__law_sticking) (sc := defScope s__law_sticking) (by decide +kernel)) (fun _ _ _ _ _ => (pg_nm 2 nd)) (by decide) (fun _ _ _ _ _ => ts_nil) (fun _ _ _ _ _ => (pm_tup (pma_cons (pm_addK K (pm_var 2) pm_int) (pma_cons (pm_sub (pm_var 2) pm_int) (pma_cons pm_bl pma_nil))))))))
      (ss_one (sm_ret (pm_if (pt_cmpK op_gt (od_gt (K := K)) (pm_var 0) pm_int (nomark _)) (pm_addK K (pm_var 1) (pm_lst (pma_cons (pm_tup (pma_cons (pm_sub (pm_var 0) pm_int) (pma_cons (pm_sub (pm_var 0) pm_int) (pma_cons pm_bl pma_nil)))) pma_nil))) (pm_lst (pma_cons (pm_tup (pma_cons pm_int (pma_cons pm_int (pma_cons pm_bl pma_nil)))) pma_nil))))))
set_option maxHeartbeats 4000000 in
theorem ok__law_take {f : Addr} {fd : FuncData} (F : Fun K "_law_take" "_law_take" s__law_take f fd) (hm : mg "_law_take" = some (.ref f)) (T : Tx w K mg c_Counter)  : FnD P w K mg base CX0 1 "_law_take" 2 F__law_take := by
  refine fn_ok F sc__law_take hm rfl rfl (fun _ _ _ _ _ _ us hl => match us, hl with | [_, _], _ => rfl) fun cdv A out s H E hr hgd => ?_
  have nd := (sc__law_take).nd
  unfold g__law_take
  exact Exists.intro _ (ss_cons (sm_if (pt_cmpK (op_eqK K hr.units) (od_eq (K := K)) (pm_idxK K (pm_var 0) pm_int (fun _ _ => rfl)) pm_int (nomark _)) (ss_cons (sm_asg 2 nd pm_int)
      (ss_cons (sm_if (pt_cmpK op_lt (od_lt (K := K)) (pm_idxK K (pm_var 0) pm_int (fun _ _ => rfl)) (pm_cbK (call_lenK K) (cd_len (K := K)) (by rfl) T.m_len PySem.boot_len (pma_cons (pm_idxK K (pm_var 0) pm_int (fun _ _ => rfl)) pma_nil)) (nomark _)) (ss_one (sm_asg 2 nd (pm_idxK K (pm_idxK K (pm_var 0) pm_int (fun _ _ => rfl)) (pm_idxK K (pm_var 0) pm_int (fun _ _ => rfl)) (fun _ _ => rfl)))) ss_nil)
      (ss_cons (sm_augSK K (pm_var 0) pm_int pm_int)
      (ss_cons (sm_if (pt_cmpK op_ge (od_ge (K := K)) (pm_var 2) pm_int (nomark _)) (ss_one (sm_set (pm_var 0) pm_int (pm_var 2))) ss_nil)
      (ss_cons (sm_asg 3 nd (pm_addK K (pm_addK K (pm_mul (pm_idxK K (pm_var 0) pm_int (fun _ _ => rfl)) pm_int) (pm_mod (pm_ctK call_int1 (cd_int (K := K)) (by rfl) T.m_int (by decide +kernel) (pma_cons (pm_var 2) pma_nil)) pm_int)) (pm_mul pm_int (pm_idxK K (pm_var 0) pm_int (fun _ _ => rfl)))))
      (ss_one (sm_set (pm_var 0) pm_int (pm_mod (pm_ctK call_int1 (cd_int (K := K)) (by rfl) T.m_int (by decide +kernel) (pma_cons (pm_var 3) pma_nil)) pm_int)))))))) ss_nil)
      (ss_cons (sm_if (pt_cmpK op_gt (od_gt (K := K)) (pm_idxK K (pm_var 0) pm_int (fun _ _ => rfl)) pm_int (nomark _)) (ss_cons (sm_asg 4 nd (pm_mod (pm_ctK call_int1 (cd_int (K := K)) (by rfl) T.m_int (by decide +kernel) (pma_cons (pm_idxK K (pm_var 0) pm_int (fun _ _ => rfl)) pma_nil)) (pm_var 1)))
      (ss_cons (sm_set (pm_var 0) pm_int (pm_div (pm_ctK call_int1 (cd_int (K := K)) (by rfl) T.m_int (by decide +kernel) (pma_cons (pm_idxK K (pm_var 0) pm_int (fun _ _ => rfl)) pma_nil)) (pm_var 1)))
      (ss_one (sm_ret (pm_var 4))))) ss_nil)
      (ss_cons (sm_asg 5 nd (pm_mod (pm_ctK call_int1 (cd_int (K := K)) (by rfl) T.m_int (by decide +kernel) (pma_cons (pm_mul (pm_addK K (pm_idxK K (pm_var 0) pm_int (fun _ _ => rfl)) pm_int) pm_int) pma_nil)) pm_int))
      (ss_cons (sm_asg 6 nd (pm_mod (pm_ctK call_int1 (cd_int (K := K)) (by rfl) T.m_int (by decide +kernel) (pma_cons (pm_mul (pm_mod (pm_ctK call_int1 (cd_int (K := K)) (by rfl) T.m_int (by decide +kernel) (pma_cons (pm_mul (pm_var 5) (pm_var 5)) pma_nil)) pm_int) pm_int) pma_nil)) pm_int))
      (ss_one (sm_ret (pm_mod (pm_ctK call_int1 (cd_int (K := K)) (by rfl) T.m_int (by decide +kernel) (pma_cons (pm_div (pm_var 6) pm_int) pma_nil)) (pm_var 1))))))))
set_option maxHeartbeats 4000000 in
theorem ok_Counter___len__ {f : Addr} {fd : FuncData} (F : Fun K "__len__" "Counter.__len__" s_Counter___len__ f fd) (cl : Cls K c_Counter) (hm : Meth K c_Counter "__len__" f) (T : Tx w K mg c_Counter)  : MthD P w K mg base CX0 1 "Counter" "__len__" 1 F_Counter___len__ := by
  refine fn_okM F sc_Counter___len__ T.k_Counter cl hm rfl rfl (fun _ _ _ _ _ _ us hl => match us, hl with | [_], _ => rfl) fun cdv A out s H E hr hgd => ?_
  have nd := (sc_Counter___len__).nd
  unfold g_Counter___len__
  exact Exists.intro _ (ss_one (sm_ret (pm_cbK (call_lenK K) (cd_len (K := K)) (by rfl) T.m_len PySem.boot_len (pma_cons (pm_fld K T.f_its_marks (pm_var 0)) pma_nil))))
set_option maxHeartbeats 4000000 in
theorem ok_Counter_need_mark {f : Addr} {fd : FuncData} (F : Fun K "need_mark" "Counter.need_mark" s_Counter_need_mark f fd) (cl : Cls K c_Counter) (hm : Meth K c_Counter "need_mark" f) (T : Tx w K mg c_Counter) (C_Counter___len__ : MthD P w K mg base CX0 1 "Counter" "__len__" 1 F_Counter___len__) (C_is_number : FnD P w K mg base CX0 2 "is_number" 2 F_is_number) : MthD P w K mg base CX0 3 "Counter" "need_mark" 2 F_Counter_need_mark := by
  refine fn_okM F sc_Counter_need_mark T.k_Counter cl hm rfl rfl (fun _ _ _ _ _ _ us hl => match us, hl with | [_, _], _ => rfl) fun cdv A out s H E hr hgd => ?_
  have nd := (sc_Counter_need_mark).nd
  unfold g_Counter_need_mark
  exact Exists.intro _ (ss_one (sm_if (pt_no (pt_of (pm_callK C_is_number (hr.mono (by decide)) hgd rfl pass_0 (pma_cons (pm_var 1) (pma_cons (pm_lenO C_Counter___len__ (hr.mono (by decide)) hgd rfl T.m_len (pm_var 0)) pma_nil))))) (ss_one sm_bad) ss_nil))
set_option maxHeartbeats 4000000 in
theorem ok_Counter_less {f : Addr} {fd : FuncData} (F : Fun K "less" "Counter.less" s_Counter_less f fd) (cl : Cls K c_Counter) (hm : Meth K c_Counter "less" f) (T : Tx w K mg c_Counter) (C_Counter_need_mark : MthD P w K mg base CX0 3 "Counter" "need_mark" 2 F_Counter_need_mark) : MthD P w K mg base CX0 4 "Counter" "less" 2 F_Counter_less := by
  refine fn_okM F sc_Counter_less T.k_Counter cl hm rfl rfl (fun _ _ _ _ _ _ us hl => match us, hl with | [_, _], _ => rfl) fun cdv A out s H E hr hgd => ?_
  have nd := (sc_Counter_less).nd
  unfold g_Counter_less
  exact Exists.intro _ (ss_cons (sm_expr (pm_meth C_Counter_need_mark (hr.mono (by decide)) hgd pass_0 (pm_var 0) (pma_cons (pm_var 1) pma_nil)))
      (ss_one (sm_ret (pm_idxK K (pm_idxK K (pm_fld K T.f_its_marks (pm_var 0)) (pm_var 1) (fun _ _ => rfl)) pm_int (fun _ _ => rfl)))))
set_option maxHeartbeats 4000000 in
theorem ok_Counter_more {f : Addr} {fd : FuncData} (F : Fun K "more" "Counter.more" s_Counter_more f fd) (cl : Cls K c_Counter) (hm : Meth K c_Counter "more" f) (T : Tx w K mg c_Counter) (C_Counter_need_mark : MthD P w K mg base CX0 3 "Counter" "need_mark" 2 F_Counter_need_mark) : MthD P w K mg base CX0 4 "Counter" "more" 2 F_Counter_more := by
  refine fn_okM F sc_Counter_more T.k_Counter cl hm rfl rfl (fun _ _ _ _ _ _ us hl => match us, hl with | [_, _], _ => rfl) fun cdv A out s H E hr hgd => ?_
  have nd := (sc_Counter_more).nd
  unfold g_Counter_more
  exact Exists.intro _ (ss_cons (sm_expr (pm_meth C_Counter_need_mark (hr.mono (by decide)) hgd pass_0 (pm_var 0) (pma_cons (pm_var 1) pma_nil)))
      (ss_one (sm_ret (pm_idxK K (pm_idxK K (pm_fld K T.f_its_marks (pm_var 0)) (pm_var 1) (fun _ _ => rfl)) pm_int (fun _ _ => rfl)))))
set_option maxHeartbeats 4000000 in
theorem ok_touched {f : Addr} {fd : FuncData} (F : Fun K "touched" "touched" s_touched f fd) (hm : mg "touched" = some (.ref f)) (T : Tx w K mg c_Counter) (C_Counter_less : MthD P w K mg base CX0 4 "Counter" "less" 2 F_Counter_less) (C_Counter_more : MthD P w K mg base CX0 4 "Counter" "more" 2 F_Counter_more) : FnD P w K mg base CX0 5 "touched" 3 F_touched := by
  refine fn_ok F sc_touched hm rfl rfl (fun _ _ _ _ _ _ us hl => match us, hl with | [_, _, _], _ => rfl) fun cdv A out s H E hr hgd => ?_
  have nd := (sc_touched).nd
  unfold g_touched
  exact Exists.intro _ (ss_one (sm_ret (pm_if (pt_cmpK (op_eqK K hr.units) (od_eq (K := K)) (pm_var 2) pm_str (nomark _)) (pm_meth C_Counter_more (hr.mono (by decide)) hgd pass_0 (pm_var 0) (pma_cons (pm_var 1) pma_nil)) (pm_meth C_Counter_less (hr.mono (by decide)) hgd pass_0 (pm_var 0) (pma_cons (pm_var 1) pma_nil)))))
set_option maxHeartbeats 4000000 in
theorem ok_led {f : Addr} {fd : FuncData} (F : Fun K "led" "led" s_led f fd) (hm : mg "led" = some (.ref f)) (T : Tx w K mg c_Counter) (C_Counter_need_mark : MthD P w K mg base CX0 3 "Counter" "need_mark" 2 F_Counter_need_mark) (C_touched : FnD P w K mg base CX0 5 "touched" 3 F_touched) : FnD P w K mg base CX0 6 "led" 3 F_led := by
  refine fn_ok F sc_led hm rfl rfl (fun _ _ _ _ _ _ us hl => match us, hl with | [_, _, _], _ => rfl) fun cdv A out s H E hr hgd => ?_
  have nd := (sc_led).nd
  unfold g_led b_led_1
  exact Exists.intro _ (ss_cons (sm_expr (pm_meth C_Counter_need_mark (hr.mono (by decide)) hgd pass_0 (pm_var 0) (pma_cons (pm_var 1) pma_nil)))
      (ss_cons (sm_for [true, true, true, false] PassesOwn.never rfl (mi_seqK K (pm_var 2)) (pg_nm 3 nd) (ss_one (sm_if (pt_notN (pm_var 1)) (ss_one (sm_asg 1 nd (pm_callK C_touched (hr.mono (by decide)) hgd rfl pass_0 (pma_cons (pm_var 0) (pma_cons (pm_var 1) (pma_cons (pm_var 3) pma_nil)))))) ss_nil)))
      (ss_one (sm_ret (pm_var 1)))))
set_option maxHeartbeats 4000000 in
theorem ok_sticking {f : Addr} {fd : FuncData} (F : Fun K "sticking" "sticking" s_sticking f fd) (hm : mg "sticking" = some (.ref f)) (T : Tx w K mg c_Counter) (C_Counter___init__ : MakD P w K mg base CX0 5 "Counter" 2 F_Counter___init__) : FnD P w K mg base CX0 7 "sticking" 1 F_sticking := by
  refine fn_ok F sc_sticking hm rfl rfl (fun _ _ _ _ _ _ us hl => match us, hl with | [_], _ => rfl) fun cdv A out s H E hr hgd => ?_
  have nd := (sc_sticking).nd
  unfold g_sticking b_sticking_1
  exact Exists.intro _ (ss_cons (sm_asg 1 nd (pm_sub (pm_var 0) pm_int))
      (ss_cons (sm_new 2 nd (pm_lst pma_nil))
      (ss_cons (sm_for [true, true, true, false, false] PassesOwn.never rfl (mi_rng1 rfl T.m_range (pma_cons (pm_var 0) pma_nil)) (pg_nm 3 nd) (ss_cons (sm_asg 4 nd (pm_if (pt_cmpK (op_eqK K hr.units) (od_eq (K := K)) (pm_var 3) (pm_var 1) (nomark _)) (pm_var 3) (pm_sub (pm_var 3) pm_int)))
      (ss_one (sm_expr (pm_bmK K PySem.F.plainAttrs_list PySem.F.slot_list_append PySem.F.type_list_append mt_append td_list md_append (pm_var 2) (pma_cons (pm_tup (pma_cons (pm_cbK (call_min2 rfl) (cd_mm (K := K) (fun i j => if j < i then j else i)) (by rfl) T.m_min (by decide +kernel) (pma_cons (pm_addK K (pm_var 3) pm_int) (pma_cons (pm_var 1) pma_nil))) (pma_cons (pm_if (pt_cmpK op_lt (od_lt (K := K)) (pm_var 4) pm_int (nomark _)) pm_non (pm_var 4)) (pma_cons (pm_or (pm_cmpK op_gt (od_gt (K := K)) (pm_var 3) pm_int (nomark _)) (pm_one (pm_cmpK (op_eqK K hr.units) (od_eq (K := K)) (pm_var 1) pm_int (nomark _)))) pma_nil)))) pma_nil))))))
      (ss_frz 2 (ss_one (sm_ret (pm_make C_Counter___init__ (hr.mono (by decide)) hgd rfl pass_0 (pma_cons (pm_var 2) pma_nil))))))))
set_option maxHeartbeats 4000000 in
theorem ok_law {f : Addr} {fd : FuncData} (F : Fun K "law" "law" s_law f fd) (T : Tx w K mg c_Counter) (C_Counter___eq__ : MthD P w K mg base CX0 1 "Counter" "__eq__" 2 F_Counter___eq__) (C_Counter___init__ : MakD P w K mg base CX0 5 "Counter" 2 F_Counter___init__) (C_Counter_marks : MthD P w K mg base CX0 1 "Counter" "marks" 1 F_Counter_marks) (C__law_alike : FnD P w K mg base CX0 1 "_law_alike" 2 F__law_alike) (C__law_bag : FnD P w K mg base CX0 1 "_law_bag" 1 F__law_bag) (C__law_count : FnD P w K mg base CX0 1 "_law_count" 2 F__law_count) (C__law_sticking : FnD P w K mg base CX0 1 "_law_sticking" 1 F__law_sticking) (C__law_take : FnD P w K mg base CX0 1 "_law_take" 2 F__law_take) (C_led : FnD P w K mg base CX0 6 "led" 3 F_led) (C_sticking : FnD P w K mg base CX0 7 "sticking" 1 F_sticking) : FnG P w K mg base CX0 8 f fd ["_law_script"] (spF K 1 F_law) := by
  refine fn_okG F sc_law rfl rfl fun cdv A out s H E hr hgd => ?_
  have nd := (sc_law).nd
  unfold g_law b_law_3 b_law_2 b_law_1
  exact Exists.intro _ (ss_cons (sm_new 1 nd (pm_callK C__law_bag (hr.mono (by decide)) hgd rfl pass_0 (pma_cons (pm_var 0) pma_nil)))
      (ss_cons (sm_for [true, true, false, false, false, false, false, false, false, false] PassesOwn.never rfl (mi_rng2 rfl T.m_range (pma_cons pm_int (pma_cons pm_int pma_nil))) (pg_nm 2 nd) (ss_cons (sm_asg 3 nd (pm_callK C_sticking (hr.mono (by decide)) hgd rfl pass_0 (pma_cons (pm_var 2) pma_nil)))
      (ss_cons (sm_if (PMW.t (w_or (pt_no (pt_eqO C_Counter___eq__ (hr.mono (by decide)) hgd (fun _ c => T.k_Counter.uniq c ▸ T.iC_Counter) (pm_var 3) (pm_make C_Counter___init__ (hr.mono (by decide)) hgd rfl pass_0 (pma_cons (pm_callK C__law_sticking (hr.mono (by decide)) hgd rfl pass_0 (pma_cons (pm_var 2) pma_nil)) pma_nil)))) (w_or1 (pt_no (pt_of (pm_callK C__law_alike (hr.mono (by decide)) hgd rfl pass_0 (pma_cons (pm_meth0 C_Counter_marks (hr.mono (by decide)) hgd pass_0 (pm_var 3)) (pma_cons (pm_callK C__law_sticking (hr.mono (by decide)) hgd rfl pass_0 (pma_cons (pm_var 2) pma_nil)) pma_nil)))))))) (ss_one (sm_ret pm_bl)) ss_nil)
      (ss_one (sm_for [true, true, true, true, false, false, false, false, false, false] PassesOwn.never rfl (mi_rng1 rfl T.m_range (pma_cons pm_int pma_nil)) (pg_nm 4 nd) (ss_cons (sm_par2 5 6 rfl nd (pm_lst pma_nil) pm_int)
      (ss_cons (sm_for [true, true, true, true, true, true, true, false, false, false] PassesOwn.never rfl (mi_rng1 rfl T.m_range (pma_cons (pm_callK C__law_take (hr.mono (by decide)) hgd rfl pass_0 (pma_cons (pm_var 1) (pma_cons pm_int pma_nil))) pma_nil)) (pg_nm 7 nd) (ss_cons (sm_asg 8 nd (pm_idxK K (pm_lst (pma_cons pm_str (pma_cons pm_str (pma_cons pm_str pma_nil)))) (pm_callK C__law_take (hr.mono (by decide)) hgd rfl pass_0 (pma_cons (pm_var 1) (pma_cons pm_int pma_nil))) (fun _ _ => rfl)))
      (ss_one (sm_expr (pm_bmK K PySem.F.plainAttrs_list PySem.F.slot_list_append PySem.F.type_list_append mt_append td_list md_append (pm_var 5) (pma_cons (pm_var 8) pma_nil))))))
      (ss_frz 5 (ss_cons (sm_if (pt_no (pt_of (pm_callK C__law_alike (hr.mono (by decide)) hgd rfl pass_0 (pma_cons (pm_callK C_led (hr.mono (by decide)) hgd rfl pass_0 (pma_cons (pm_var 3) (pma_cons pm_int (pma_cons (pm_var 5) pma_nil)))) (pma_cons (pm_callK C__law_count (hr.mono (by decide)) hgd rfl pass_0 (pma_cons (pm_var 5) (pma_cons (pm_var 2) pma_nil))) pma_nil))))) (ss_one (sm_ret pm_bl)) ss_nil)
      (ss_cons (sm_asg 9 nd (pm_addK K (pm_mulX (pm_lst (pma_cons pm_str pma_nil)) (pm_callK C__law_take (hr.mono (by decide)) hgd rfl pass_0 (pma_cons (pm_var 1) (pma_cons pm_int pma_nil)))) (pm_mulX (pm_lst (pma_cons pm_str pma_nil)) (pm_callK C__law_take (hr.mono (by decide)) hgd rfl pass_0 (pma_cons (pm_var 1) (pma_cons pm_int pma_nil))))))
      (ss_one (sm_if (pt_no (pt_of (pm_callK C__law_alike (hr.mono (by decide)) hgd rfl pass_0 (pma_cons (pm_lst (pma_cons (pm_callK C_led (hr.mono (by decide)) hgd rfl pass_0 (pma_cons (pm_var 3) (pma_cons pm_int (pma_cons (pm_var 9) pma_nil)))) (pma_cons (pm_callK C_led (hr.mono (by decide)) hgd rfl pass_0 (pma_cons (pm_var 3) (pma_cons pm_int (pma_cons (pm_var 9) pma_nil)))) pma_nil))) (pma_cons (pm_mulX (pm_lst (pma_cons (pm_callK C__law_count (hr.mono (by decide)) hgd rfl pass_0 (pma_cons (pm_var 9) (pma_cons (pm_var 2) pma_nil))) pma_nil)) pm_int) pma_nil))))) (ss_one (sm_ret pm_bl)) ss_nil))))))))))))
      (ss_one (sm_ret pm_bl))))
end
end
end K32
set_option maxHeartbeats 1000000
namespace K32
open PySem PySem.Spec PyProof.Rows L2 DL
local macro_rules | `(tactic| walk_at "isi") => `(tactic| first
  | (with_reducible refine is_non_int ?_) | (with_reducible refine is_non_bool ?_) | (with_reducible refine is_non_str ?_) | (with_reducible refine is_non_tuple ?_) | (with_reducible refine is_non_list ?_) | (with_reducible refine is_non_dict ?_) | (with_reducible refine is2_non_list_tuple ?_) | (with_reducible refine isC_non ?_) | (with_reducible refine is_bl_int ?_) | (with_reducible refine is_bl_bool ?_) | (with_reducible refine is_bl_str ?_) | (with_reducible refine is_bl_tuple ?_) | (with_reducible refine is_bl_list ?_) | (with_reducible refine is_bl_dict ?_) | (with_reducible refine is2_bl_list_tuple ?_) | (with_reducible refine isC_bl ?_) | (with_reducible refine is_int_int ?_) | (with_reducible refine is_int_bool ?_) | (with_reducible refine is_int_str ?_) | (with_reducible refine is_int_tuple ?_) | (with_reducible refine is_int_list ?_) | (with_reducible refine is_int_dict ?_) | (with_reducible refine is2_int_list_tuple ?_) | (with_reducible refine isC_int ?_) | (with_reducible refine is_str_int ?_) | (with_reducible refine is_str_bool ?_) | (with_reducible refine is_str_str ?_) | (with_reducible refine is_str_tuple ?_) | (with_reducible refine is_str_list ?_) | (with_reducible refine is_str_dict ?_) | (with_reducible refine is2_str_list_tuple ?_) | (with_reducible refine isC_str ?_) | (with_reducible refine is_tup_int ?_) | (with_reducible refine is_tup_bool ?_) | (with_reducible refine is_tup_str ?_) | (with_reducible refine is_tup_tuple ?_) | (with_reducible refine is_tup_list ?_) | (with_reducible refine is_tup_dict ?_) | (with_reducible refine is2_tup_list_tuple ?_) | (with_reducible refine isC_tup ?_) | (with_reducible refine is_lst_int ?_) | (with_reducible refine is_lst_bool ?_) | (with_reducible refine is_lst_str ?_) | (with_reducible refine is_lst_tuple ?_) | (with_reducible refine is_lst_list ?_) | (with_reducible refine is_lst_dict ?_) | (with_reducible refine is2_lst_list_tuple ?_) | (with_reducible refine isC_lst ?_) | (with_reducible refine is_fro_int ?_) | (with_reducible refine is_fro_bool ?_) | (with_reducible refine is_fro_str ?_) | (with_reducible refine is_fro_tuple ?_) | (with_reducible refine is_fro_list ?_) | (with_reducible refine is_fro_dict ?_) | (with_reducible refine is2_fro_list_tuple ?_) | (with_reducible refine isC_fro ?_) | (with_reducible refine is_dct_int ?_) | (with_reducible refine is_dct_bool ?_) | (with_reducible refine is_dct_str ?_) | (with_reducible refine is_dct_tuple ?_) | (with_reducible refine is_dct_list ?_) | (with_reducible refine is_dct_dict ?_) | (with_reducible refine is2_dct_list_tuple ?_) | (with_reducible refine isC_dct ?_) | (with_reducible refine isC_own ?_)
  | (with_reducible refine is2_ins (by simp) ?_) | (with_reducible refine is_ins_int (by simp) ?_) | (with_reducible refine is_ins_bool (by simp) ?_) | (with_reducible refine is_ins_str (by simp) ?_) | (with_reducible refine is_ins_tuple (by simp) ?_) | (with_reducible refine is_ins_list (by simp) ?_) | (with_reducible refine is_ins_dict (by simp) ?_) | fail "isi")
local macro_rules | `(tactic| walk_at "tk") => `(tactic| first | exact List.take_length | exact take_cons | exact take_consA | exact mem_take | exact take_len | fail "tk")
local macro_rules | `(tactic| walk_at "al") => `(tactic| first | exact allDat_mapf _ _ | exact allDat_map _ | (repeat (first | exact al_nil | apply al_cons)))
local macro_rules | `(tactic| walk_at "set") => `(tactic| (simp only [List.set_cons_succ, List.set_cons_zero]; exact rfl))
local macro_rules | `(tactic| walk_at "sxS") => `(tactic| first | (with_reducible refine set_now (by walk_at "set") ?_) | (with_reducible refine s_seq ?_) | (with_reducible refine s_asg ?_) | (with_reducible refine s_ret ?_) | (with_reducible refine s_if ?_) | (with_reducible refine s_drop ?_) | (with_reducible refine s_next ?_) | (with_reducible refine s_new ?_) | (with_reducible refine s_for ?_) | (with_reducible refine s_tgt ?_) | (with_reducible refine s_par ?_) | (with_reducible refine s_disp ?_) | (with_reducible refine s_wh ?_) | (with_reducible refine s_fld ?_) | (with_reducible refine s_set ?_) | (with_reducible refine s_aug rfl ?_) | (with_reducible refine s_par2 ?_) | (with_reducible refine r_dat ?_) | (with_reducible refine r_loc ?_) | fail "sxS")
local macro_rules | `(tactic| walk_at "sxV") => `(tactic| first | (with_reducible refine v_var rfl ?_) | (with_reducible refine v_D ?_) | (with_reducible refine x_fz ?_) | fail "sxV")
local macro_rules | `(tactic| walk_at "sxA") => `(tactic| first | (with_reducible refine a_consK ?_) | (with_reducible refine a_nilK ?_) | (with_reducible refine n_consK ?_) | (with_reducible refine n_nilK ?_) | fail "sxA")
local macro_rules | `(tactic| walk_at "sxT") => `(tactic| first | (with_reducible refine t_B ?_) | (with_reducible refine t_not ?_) | (with_reducible refine t_and ?_) | (with_reducible refine t_or ?_) | (with_reducible refine t_yes ?_) | fail "sxT")
local macro_rules | `(tactic| walk_at "sxO") => `(tactic| first | (with_reducible refine o_noneK ?_) | (with_reducible refine o_someK ?_) | fail "sxO")
local macro_rules | `(tactic| walk_at "sxI") => `(tactic| first | (with_reducible refine i_seq ?_) | (with_reducible refine i_enum ?_) | (with_reducible refine i_rng ?_) | (with_reducible refine i_rng2 ?_) | fail "sxI")
local macro_rules | `(tactic| walk_at "sxF") => `(tactic| first | (with_reducible refine z_dat ?_) | (with_reducible refine z_loc ?_) | (with_reducible refine z_ofD ?_) | (with_reducible refine z_nlm ?_) | (with_reducible refine z_nlf ?_) | (with_reducible refine z_nlc ?_) | (with_reducible refine z_nl (by walk_at "al") ?_) | fail "sxF")
local macro_rules | `(tactic| walk_at "sxC") => `(tactic| first | (with_reducible refine if_T ?_) | (with_reducible refine if_F ?_) | (with_reducible refine if_bT (by with_unfolding_all exact rfl) ?_) | (with_reducible refine if_bF (by with_unfolding_all exact rfl) ?_) | fail "sxC")
local macro_rules | `(tactic| walk_at "sxD") => `(tactic| first | (with_reducible refine l_addI ?_) | (with_reducible refine l_sub ?_) | (with_reducible refine l_neg ?_) | (with_reducible refine l_eqI ?_) | (with_reducible refine l_neI ?_) | (with_reducible refine l_eqS ?_) | (with_reducible refine l_neS ?_) | (with_reducible refine l_lt ?_) | (with_reducible refine l_le ?_) | (with_reducible refine l_gt ?_) | (with_reducible refine l_ge ?_) | (with_reducible refine l_ixT rfl ?_) | (with_reducible refine l_ixL rfl ?_) | (with_reducible refine l_slT ?_) | (with_reducible refine l_slL ?_) | (with_reducible refine l_lenT ?_) | (with_reducible refine l_lenL ?_) | (with_reducible refine l_int ?_) | (with_reducible refine l_intB ?_) | (with_reducible refine l_listT ?_) | (with_reducible refine l_listL ?_) | (with_reducible refine l_tupL ?_) | (with_reducible refine l_tupT ?_) | (with_reducible refine l_inT ?_) | (with_reducible refine l_ninT ?_) | (with_reducible refine l_inL ?_) | (with_reducible refine l_ninL ?_) | (with_reducible refine l_mm ?_) | (walk_at "isi") | fail "sxD")
local macro_rules | `(tactic| walk_at "sxR") => `(tactic| first | (with_reducible refine x_op ?_) | (with_reducible refine x_cb ?_) | (with_reducible refine x_varD rfl ?_) | (with_reducible refine x_varL rfl ?_) | (with_reducible refine x_D ?_) | (with_reducible refine x_if ?_) | (with_reducible refine x_tup ?_) | (with_reducible refine x_lst ?_) | (with_reducible refine x_bm ?_) | (with_reducible refine x_bm0 ?_) | (with_reducible refine x_sl ?_) | (with_reducible refine x_and ?_) | (with_reducible refine x_or ?_) | (with_reducible refine x_not ?_) | (with_reducible refine x_un ?_) | (with_reducible refine x_isN ?_) | (with_reducible refine x_notN ?_) | (with_reducible refine x_chain ?_) | (with_reducible refine x_inK ?_) | (with_reducible refine x_lc ?_) | (with_reducible refine x_fldK ?_) | (with_reducible refine x_meth ?_) | (with_reducible refine x_make ?_) | (with_reducible refine x_lenO ?_) | (with_reducible refine x_eqO ?_) | (with_reducible refine x_inO ?_) | (walk_at "sxD") | fail "sxR")
local macro_rules | `(tactic| walk_at "sxE") => `(tactic| first | (with_reducible refine e_dat (by walk_at "tk") ?_) | (with_reducible refine e_ofD (by walk_at "tk") ?_) | (with_reducible refine e_nlf (by walk_at "tk") ?_) | (with_reducible refine e_nlm (by walk_at "tk") ?_) | (with_reducible refine e_nl (by walk_at "tk") (by with_unfolding_all exact rfl) ?_) | fail "sxE")
local macro_rules | `(tactic| walk_at "sxX") => `(tactic| first | (with_reducible refine b_bl ?_) | (with_reducible refine b_ofD ?_) | (with_reducible refine p_dat ?_) | (with_reducible refine p_loc ?_) | (with_reducible refine ik ?_) | (with_reducible refine stk ?_) | (with_reducible refine sk_l ?_) | (with_reducible refine sk_t ?_) | (with_reducible refine sk_f ?_) | (with_reducible refine pk ?_) | (with_reducible refine gk rfl ?_) | (with_reducible refine tk (by walk_at "al") (sz_lit rfl) ?_) | (with_reducible refine fk1 (by simp) ?_) | (with_reducible refine e_nx (by walk_at "tk") ?_) | (with_reducible refine And.intro (sz_lit rfl) ?_) | (with_reducible refine And.intro ty_l ?_) | (with_reducible refine And.intro ty_s ?_) | (with_reducible refine And.intro (isI_one (by decide)) ?_) | (with_reducible refine And.intro (tyL_loc mem_here) ?_) | fail "sxX")
local macro_rules | `(tactic| walk_at "sx1") => `(tactic| first | (with_reducible refine gS ?_; walk_at "sxS") | (with_reducible refine gV ?_; walk_at "sxV") | (with_reducible refine gR ?_; walk_at "sxR") | (with_reducible refine gA ?_; walk_at "sxA") | (with_reducible refine gT ?_; walk_at "sxT") | (with_reducible refine gF ?_; walk_at "sxF") | (with_reducible refine gC ?_; walk_at "sxC") | (with_reducible refine gRt ?_; walk_at "sxE") | (with_reducible refine gO ?_; walk_at "sxO") | (with_reducible refine gI ?_; walk_at "sxI") | (walk_at "sxX") | fail "sx")
local macro_rules | `(tactic| walk_at "sx") => `(tactic| repeat' (walk_at "sx1"))
local macro_rules | `(tactic| walk_at "sxs") => `(tactic| repeat' (first | (walk_at "sx1") | (with_reducible refine if_dec (fun _ => ?_) (fun _ => ?_)) | (with_reducible refine if_ndec (fun _ => ?_) (fun _ => ?_)) | fail "sxs"))
/-- a mark: more, less, copies -/
structure Mk where
  a : Int
  l : Option Int
  c : Bool
abbrev optD : Option Int → D
  | none => .non
  | some i => .int i
abbrev markD (m : Mk) : D := .tup [.int m.a, optD m.l, .bl m.c]
abbrev ctrD (ms : List Mk) : D := .ins "Counter" [("its_marks", .lst (ms.map markD))]
def MkOk (n : Int) (m : Mk) : Prop := (0 ≤ m.a ∧ m.a < n) ∧ ∀ i, m.l = some i → 0 ≤ i ∧ i < n
section
variable {QR : R → Mem → Prop} {E : Xc → Mem → Prop} {μ ν : Mem} {B : Bg} {i n : Int} {ms : List Mk} {b : Bool}
theorem integer_I (h : QR (.dat (.bl true)) μ) : Sat (F_is_integer [.dat (.int i)] μ) QR E := by
  refine w_is_integer ?_
  unfold g_is_integer
  walk_at "sx"
  exact h
theorem number_I (h : QR (.dat (.bl (decide (0 ≤ i ∧ i < n)))) μ) : Sat (F_is_number [.dat (.int i), .dat (.int n)] μ) QR E := by
  refine w_is_number ?_
  unfold g_is_number
  walk_at "sx"
  refine integer_I ?_
  walk_at "sx"
  refine if_dec (fun h1 => ?_) (fun h1 => ?_)
  · walk_at "sx"
    rw [show decide (i < n) = decide (0 ≤ i ∧ i < n) by simp [h1]]; exact h
  · walk_at "sx"
    rw [show decide (0 ≤ i ∧ i < n) = false by simp [h1]] at h; exact h
theorem mark_spec {m : Mk} (hm : MkOk n m) (h : QR (.dat (.bl true)) μ) : Sat (F_is_mark [.dat (markD m), .dat (.int n)] μ) QR E := by
  obtain ⟨a, l, c⟩ := m
  have h1 : 0 ≤ a ∧ a < n := hm.1
  refine w_is_mark ?_
  unfold g_is_mark
  walk_at "sx"
  refine number_I ?_
  walk_at "sx"
  refine if_bF (by simp [h1]) ?_
  cases l with
  | none =>
    walk_at "sx"
    exact h
  | some j =>
    have h2 : 0 ≤ j ∧ j < n := hm.2 j rfl
    walk_at "sx"
    refine number_I ?_
    walk_at "sx"
    refine if_bT (by simp [h2]) ?_
    walk_at "sx"
    exact h
structure MsOk (ms : List Mk) : Prop where
  h1 : 1 ≤ ms.length
  h6 : ms.length ≤ 6
  ok : ∀ m ∈ ms, MkOk ms.length m
theorem marks_spec (hms : MsOk ms) (h : QR (.dat (.bl true)) μ) : Sat (F_are_marks [.dat (.lst (ms.map markD))] μ) QR E := by
  have a1 := hms.h1
  have a2 := hms.h6
  refine w_are_marks ?_
  unfold g_are_marks
  walk_at "sx"
  refine if_bT (by simp; omega) ?_
  walk_at "sx"
  refine if_bF (by simp; omega) ?_
  walk_at "sx"
  refine ⟨sl_sz (by simp; omega), lc_mapK (fun _ => .bl true) (fun m hm => ⟨_, rfl, ?_⟩) ?_⟩
  · walk_at "sx"
    rw [List.length_map]
    refine mark_spec (hms.ok m hm) ?_
    walk_at "sx"
    exact ⟨rfl, rfl⟩
  · walk_at "sx"
    refine l_all (f := fun _ => true) ?_
    walk_at "sx"
    rw [show (ms.map fun _ => true).all id = true by simp]; exact h
theorem init_spec (hms : MsOk ms) (h : QR (.dat (ctrD ms)) μ) : Sat (F_Counter___init__ [.loc (μ.length + 1), .dat (.lst (ms.map markD))] (μ ++ [.own] ++ [.ins "Counter" []])) (MkK μ.length QR) E := by
  have a2 := hms.h6
  refine w_Counter___init__ ?_
  unfold g_Counter___init__
  walk_at "sx"
  refine marks_spec hms ?_
  walk_at "sx"
  refine ⟨sl_sz (by simp; omega), lc_mapK markD (fun m hm => ⟨_, rfl, ?_⟩) ?_⟩
  · walk_at "sx"
    exact ⟨rfl, rfl⟩
  · walk_at "sx"
    refine ⟨_, init1 (by simp), ?_⟩
    refine e_nx (List.take_of_length_le (by simp)) ?_
    exact init1_end h
end
end K32
set_option maxHeartbeats 1000000
namespace K32
open PySem PySem.Spec PyProof.Rows L2 DL
local macro_rules | `(tactic| walk_at "isi") => `(tactic| first
  | (with_reducible refine is_non_int ?_) | (with_reducible refine is_non_bool ?_) | (with_reducible refine is_non_str ?_) | (with_reducible refine is_non_tuple ?_) | (with_reducible refine is_non_list ?_) | (with_reducible refine is_non_dict ?_) | (with_reducible refine is2_non_list_tuple ?_) | (with_reducible refine isC_non ?_) | (with_reducible refine is_bl_int ?_) | (with_reducible refine is_bl_bool ?_) | (with_reducible refine is_bl_str ?_) | (with_reducible refine is_bl_tuple ?_) | (with_reducible refine is_bl_list ?_) | (with_reducible refine is_bl_dict ?_) | (with_reducible refine is2_bl_list_tuple ?_) | (with_reducible refine isC_bl ?_) | (with_reducible refine is_int_int ?_) | (with_reducible refine is_int_bool ?_) | (with_reducible refine is_int_str ?_) | (with_reducible refine is_int_tuple ?_) | (with_reducible refine is_int_list ?_) | (with_reducible refine is_int_dict ?_) | (with_reducible refine is2_int_list_tuple ?_) | (with_reducible refine isC_int ?_) | (with_reducible refine is_str_int ?_) | (with_reducible refine is_str_bool ?_) | (with_reducible refine is_str_str ?_) | (with_reducible refine is_str_tuple ?_) | (with_reducible refine is_str_list ?_) | (with_reducible refine is_str_dict ?_) | (with_reducible refine is2_str_list_tuple ?_) | (with_reducible refine isC_str ?_) | (with_reducible refine is_tup_int ?_) | (with_reducible refine is_tup_bool ?_) | (with_reducible refine is_tup_str ?_) | (with_reducible refine is_tup_tuple ?_) | (with_reducible refine is_tup_list ?_) | (with_reducible refine is_tup_dict ?_) | (with_reducible refine is2_tup_list_tuple ?_) | (with_reducible refine isC_tup ?_) | (with_reducible refine is_lst_int ?_) | (with_reducible refine is_lst_bool ?_) | (with_reducible refine is_lst_str ?_) | (with_reducible refine is_lst_tuple ?_) | (with_reducible refine is_lst_list ?_) | (with_reducible refine is_lst_dict ?_) | (with_reducible refine is2_lst_list_tuple ?_) | (with_reducible refine isC_lst ?_) | (with_reducible refine is_fro_int ?_) | (with_reducible refine is_fro_bool ?_) | (with_reducible refine is_fro_str ?_) | (with_reducible refine is_fro_tuple ?_) | (with_reducible refine is_fro_list ?_) | (with_reducible refine is_fro_dict ?_) | (with_reducible refine is2_fro_list_tuple ?_) | (with_reducible refine isC_fro ?_) | (with_reducible refine is_dct_int ?_) | (with_reducible refine is_dct_bool ?_) | (with_reducible refine is_dct_str ?_) | (with_reducible refine is_dct_tuple ?_) | (with_reducible refine is_dct_list ?_) | (with_reducible refine is_dct_dict ?_) | (with_reducible refine is2_dct_list_tuple ?_) | (with_reducible refine isC_dct ?_) | (with_reducible refine isC_own ?_)
  | (with_reducible refine is2_ins (by simp) ?_) | (with_reducible refine is_ins_int (by simp) ?_) | (with_reducible refine is_ins_bool (by simp) ?_) | (with_reducible refine is_ins_str (by simp) ?_) | (with_reducible refine is_ins_tuple (by simp) ?_) | (with_reducible refine is_ins_list (by simp) ?_) | (with_reducible refine is_ins_dict (by simp) ?_) | fail "isi")
local macro_rules | `(tactic| walk_at "tk") => `(tactic| first | exact List.take_length | exact take_cons | exact take_consA | exact mem_take | exact take_len | fail "tk")
local macro_rules | `(tactic| walk_at "al") => `(tactic| first | exact allDat_mapf _ _ | exact allDat_map _ | (repeat (first | exact al_nil | apply al_cons)))
local macro_rules | `(tactic| walk_at "set") => `(tactic| (simp only [List.set_cons_succ, List.set_cons_zero]; exact rfl))
local macro_rules | `(tactic| walk_at "sxS") => `(tactic| first | (with_reducible refine set_now (by walk_at "set") ?_) | (with_reducible refine s_seq ?_) | (with_reducible refine s_asg ?_) | (with_reducible refine s_ret ?_) | (with_reducible refine s_if ?_) | (with_reducible refine s_drop ?_) | (with_reducible refine s_next ?_) | (with_reducible refine s_new ?_) | (with_reducible refine s_for ?_) | (with_reducible refine s_tgt ?_) | (with_reducible refine s_par ?_) | (with_reducible refine s_disp ?_) | (with_reducible refine s_wh ?_) | (with_reducible refine s_fld ?_) | (with_reducible refine s_set ?_) | (with_reducible refine s_aug rfl ?_) | (with_reducible refine s_par2 ?_) | (with_reducible refine r_dat ?_) | (with_reducible refine r_loc ?_) | fail "sxS")
local macro_rules | `(tactic| walk_at "sxV") => `(tactic| first | (with_reducible refine v_var rfl ?_) | (with_reducible refine v_D ?_) | (with_reducible refine x_fz ?_) | fail "sxV")
local macro_rules | `(tactic| walk_at "sxA") => `(tactic| first | (with_reducible refine a_consK ?_) | (with_reducible refine a_nilK ?_) | (with_reducible refine n_consK ?_) | (with_reducible refine n_nilK ?_) | fail "sxA")
local macro_rules | `(tactic| walk_at "sxT") => `(tactic| first | (with_reducible refine t_B ?_) | (with_reducible refine t_not ?_) | (with_reducible refine t_and ?_) | (with_reducible refine t_or ?_) | (with_reducible refine t_yes ?_) | fail "sxT")
local macro_rules | `(tactic| walk_at "sxO") => `(tactic| first | (with_reducible refine o_noneK ?_) | (with_reducible refine o_someK ?_) | fail "sxO")
local macro_rules | `(tactic| walk_at "sxI") => `(tactic| first | (with_reducible refine i_seq ?_) | (with_reducible refine i_enum ?_) | (with_reducible refine i_rng ?_) | (with_reducible refine i_rng2 ?_) | fail "sxI")
local macro_rules | `(tactic| walk_at "sxF") => `(tactic| first | (with_reducible refine z_dat ?_) | (with_reducible refine z_loc ?_) | (with_reducible refine z_ofD ?_) | (with_reducible refine z_nlm ?_) | (with_reducible refine z_nlf ?_) | (with_reducible refine z_nlc ?_) | (with_reducible refine z_nl (by walk_at "al") ?_) | fail "sxF")
local macro_rules | `(tactic| walk_at "sxC") => `(tactic| first | (with_reducible refine if_T ?_) | (with_reducible refine if_F ?_) | (with_reducible refine if_bT (by with_unfolding_all exact rfl) ?_) | (with_reducible refine if_bF (by with_unfolding_all exact rfl) ?_) | fail "sxC")
local macro_rules | `(tactic| walk_at "sxD") => `(tactic| first | (with_reducible refine l_addI ?_) | (with_reducible refine l_sub ?_) | (with_reducible refine l_neg ?_) | (with_reducible refine l_eqI ?_) | (with_reducible refine l_neI ?_) | (with_reducible refine l_eqS ?_) | (with_reducible refine l_neS ?_) | (with_reducible refine l_lt ?_) | (with_reducible refine l_le ?_) | (with_reducible refine l_gt ?_) | (with_reducible refine l_ge ?_) | (with_reducible refine l_ixT rfl ?_) | (with_reducible refine l_ixL rfl ?_) | (with_reducible refine l_slT ?_) | (with_reducible refine l_slL ?_) | (with_reducible refine l_lenT ?_) | (with_reducible refine l_lenL ?_) | (with_reducible refine l_int ?_) | (with_reducible refine l_intB ?_) | (with_reducible refine l_listT ?_) | (with_reducible refine l_listL ?_) | (with_reducible refine l_tupL ?_) | (with_reducible refine l_tupT ?_) | (with_reducible refine l_inT ?_) | (with_reducible refine l_ninT ?_) | (with_reducible refine l_inL ?_) | (with_reducible refine l_ninL ?_) | (with_reducible refine l_mm ?_) | (walk_at "isi") | fail "sxD")
local macro_rules | `(tactic| walk_at "sxR") => `(tactic| first | (with_reducible refine x_op ?_) | (with_reducible refine x_cb ?_) | (with_reducible refine x_varD rfl ?_) | (with_reducible refine x_varL rfl ?_) | (with_reducible refine x_D ?_) | (with_reducible refine x_if ?_) | (with_reducible refine x_tup ?_) | (with_reducible refine x_lst ?_) | (with_reducible refine x_bm ?_) | (with_reducible refine x_bm0 ?_) | (with_reducible refine x_sl ?_) | (with_reducible refine x_and ?_) | (with_reducible refine x_or ?_) | (with_reducible refine x_not ?_) | (with_reducible refine x_un ?_) | (with_reducible refine x_isN ?_) | (with_reducible refine x_notN ?_) | (with_reducible refine x_chain ?_) | (with_reducible refine x_inK ?_) | (with_reducible refine x_lc ?_) | (with_reducible refine x_fldK ?_) | (with_reducible refine x_meth ?_) | (with_reducible refine x_make ?_) | (with_reducible refine x_lenO ?_) | (with_reducible refine x_eqO ?_) | (with_reducible refine x_inO ?_) | (walk_at "sxD") | fail "sxR")
local macro_rules | `(tactic| walk_at "sxE") => `(tactic| first | (with_reducible refine e_dat (by walk_at "tk") ?_) | (with_reducible refine e_ofD (by walk_at "tk") ?_) | (with_reducible refine e_nlf (by walk_at "tk") ?_) | (with_reducible refine e_nlm (by walk_at "tk") ?_) | (with_reducible refine e_nl (by walk_at "tk") (by with_unfolding_all exact rfl) ?_) | fail "sxE")
local macro_rules | `(tactic| walk_at "sxX") => `(tactic| first | (with_reducible refine b_bl ?_) | (with_reducible refine b_ofD ?_) | (with_reducible refine p_dat ?_) | (with_reducible refine p_loc ?_) | (with_reducible refine ik ?_) | (with_reducible refine stk ?_) | (with_reducible refine sk_l ?_) | (with_reducible refine sk_t ?_) | (with_reducible refine sk_f ?_) | (with_reducible refine pk ?_) | (with_reducible refine gk rfl ?_) | (with_reducible refine tk (by walk_at "al") (sz_lit rfl) ?_) | (with_reducible refine fk1 (by simp) ?_) | (with_reducible refine e_nx (by walk_at "tk") ?_) | (with_reducible refine And.intro (sz_lit rfl) ?_) | (with_reducible refine And.intro ty_l ?_) | (with_reducible refine And.intro ty_s ?_) | (with_reducible refine And.intro (isI_one (by decide)) ?_) | (with_reducible refine And.intro (tyL_loc mem_here) ?_) | fail "sxX")
local macro_rules | `(tactic| walk_at "sx1") => `(tactic| first | (with_reducible refine gS ?_; walk_at "sxS") | (with_reducible refine gV ?_; walk_at "sxV") | (with_reducible refine gR ?_; walk_at "sxR") | (with_reducible refine gA ?_; walk_at "sxA") | (with_reducible refine gT ?_; walk_at "sxT") | (with_reducible refine gF ?_; walk_at "sxF") | (with_reducible refine gC ?_; walk_at "sxC") | (with_reducible refine gRt ?_; walk_at "sxE") | (with_reducible refine gO ?_; walk_at "sxO") | (with_reducible refine gI ?_; walk_at "sxI") | (walk_at "sxX") | fail "sx")
local macro_rules | `(tactic| walk_at "sx") => `(tactic| repeat' (walk_at "sx1"))
local macro_rules | `(tactic| walk_at "sxs") => `(tactic| repeat' (first | (walk_at "sx1") | (with_reducible refine if_dec (fun _ => ?_) (fun _ => ?_)) | (with_reducible refine if_ndec (fun _ => ?_) (fun _ => ?_)) | fail "sxs"))
section
variable {QR : R → Mem → Prop} {E : Xc → Mem → Prop} {μ ν : Mem} {B : Bg} {i n : Int} {ms : List Mk} {b : Bool} {k : Nat}
theorem ctr_marks (h : QR (.nl ((ms.map markD).map DV.dat)) μ) : Sat (F_Counter_marks [.dat (ctrD ms)] μ) QR E := by
  refine w_Counter_marks ?_
  unfold g_Counter_marks
  walk_at "sx"
  exact h
theorem ctr_len (h : QR (.dat (.int ms.length)) μ) : Sat (F_Counter___len__ [.dat (ctrD ms)] μ) QR E := by
  refine w_Counter___len__ ?_
  unfold g_Counter___len__
  walk_at "sx"
  rw [List.length_map]; exact h
theorem ctr_need (hk : k < ms.length) (h6 : ms.length ≤ 6) (h : QR (.dat .non) μ) : Sat (F_Counter_need_mark [.dat (ctrD ms), .dat (.int k)] μ) QR E := by
  refine w_Counter_need_mark ?_
  unfold g_Counter_need_mark
  walk_at "sx"
  refine ctr_len ⟨_, rfl, ⟨by omega, by omega⟩, ?_⟩
  walk_at "sx"
  refine number_I ?_
  walk_at "sx"
  refine if_bF (by simp; omega) ?_
  walk_at "sx"
  exact h
theorem at_map {α β : Type} {f : α → β} {xs : List α} {k : Nat} {x : α} (h : xs[k]? = some x) : atI (xs.map f) (k : Int) = some (f x) := DL.atI_nat (by rw [List.getElem?_map, h]; rfl)
theorem lt_of_at {α : Type} {xs : List α} {k : Nat} {x : α} (h : xs[k]? = some x) : k < xs.length := (List.getElem?_eq_some_iff.mp h).1
theorem ctr_more {m : Mk} (hk : ms[k]? = some m) (h6 : ms.length ≤ 6) (h : QR (.dat (.int m.a)) μ) : Sat (F_Counter_more [.dat (ctrD ms), .dat (.int k)] μ) QR E := by
  refine w_Counter_more ?_
  unfold g_Counter_more
  walk_at "sx"
  refine ctr_need (lt_of_at hk) h6 ?_
  walk_at "sx"
  refine l_ixL (at_map hk) ?_
  walk_at "sx"
  exact h
theorem ctr_less {m : Mk} (hk : ms[k]? = some m) (h6 : ms.length ≤ 6) (h : QR (.dat (optD m.l)) μ) : Sat (F_Counter_less [.dat (ctrD ms), .dat (.int k)] μ) QR E := by
  refine w_Counter_less ?_
  unfold g_Counter_less
  walk_at "sx"
  refine ctr_need (lt_of_at hk) h6 ?_
  walk_at "sx"
  refine l_ixL (at_map hk) ?_
  walk_at "sx"
  exact h
/-- a touch: true is more -/
abbrev tD (b : Bool) : D := .str (if b = true then "more" else "less")
def stepM (m : Mk) (b : Bool) : Option Int := if b = true then some m.a else m.l
theorem touched_spec {m : Mk} (hk : ms[k]? = some m) (h6 : ms.length ≤ 6) (h : QR (.dat (optD (stepM m b))) μ) : Sat (F_touched [.dat (ctrD ms), .dat (.int k), .dat (tD b)] μ) QR E := by
  refine w_touched ?_
  unfold g_touched
  cases b
  · walk_at "sx"
    refine ctr_less hk h6 ?_
    walk_at "sx"
    exact h
  · walk_at "sx"
    refine ctr_more hk h6 ?_
    walk_at "sx"
    exact h
def stepO (ms : List Mk) (o : Option Int) (b : Bool) : Option Int := match o with
  | none => none
  | some i => match ms[i.toNat]? with
    | some m => stepM m b
    | none => none
def ledF (ms : List Mk) (ts : List Bool) : Option Int := ts.foldl (stepO ms) (some 0)
def InR (n : Nat) (o : Option Int) : Prop := ∀ i, o = some i → 0 ≤ i ∧ i < n
theorem step_in (hms : MsOk ms) {o : Option Int} (h : InR ms.length o) : InR ms.length (stepO ms o b) := by
  intro i e
  cases o with
  | none => cases e
  | some j =>
    obtain ⟨h1, h2⟩ := h j rfl
    simp only [stepO] at e
    have hl : j.toNat < ms.length := by omega
    rw [List.getElem?_eq_getElem hl] at e
    have ok := hms.ok _ (List.getElem_mem hl)
    simp only [stepM] at e
    by_cases hb : b = true
    · rw [if_pos hb] at e; cases e; exact ok.1
    · rw [if_neg hb] at e; exact ok.2 i e
theorem led_in (hms : MsOk ms) (ts : List Bool) : InR ms.length (ledF ms ts) := by
  have key : ∀ (ts : List Bool) (o : Option Int), InR ms.length o → InR ms.length (ts.foldl (stepO ms) o) := by
    intro ts
    induction ts with
    | nil => intro o h; exact h
    | cons t ts ih => intro o h; exact ih _ (step_in hms h)
  exact key ts _ fun i e => by cases e; have := hms.h1; omega
theorem take_snoc {α : Type} {ts : List α} {k : Nat} {t : α} (h : ts[k]? = some t) : ts.take (k + 1) = ts.take k ++ [t] := by
  rw [List.take_succ, h]; rfl
theorem ledF_snoc (ms : List Mk) (ts : List Bool) (t : Bool) : ledF ms (ts ++ [t]) = stepO ms (ledF ms ts) t := by unfold ledF; rw [List.foldl_append]; rfl
theorem led_spec (hms : MsOk ms) {ts : List Bool} (h : QR (.dat (optD (ledF ms ts))) μ) : Sat (F_led [.dat (ctrD ms), .dat (.int 0), .dat (.lst (ts.map tD))] μ) QR E := by
  refine w_led ?_
  unfold g_led
  walk_at "sx"
  refine ctr_need (k := 0) (by have := hms.h1; omega) hms.h6 ?_
  walk_at "sx"
  refine for_inv (fun k δ μ' => δ = [some (.dat (ctrD ms)), some (.dat (optD (ledF ms (ts.take k)))), some (.dat (.lst (ts.map tD))), none] ∧ μ' = μ) ⟨rfl, rfl⟩ (fun k d hd δ μ' hI => ?_) fun δ μ' hI => ?_
  · obtain ⟨rfl, rfl⟩ := hI
    rw [List.getElem?_map] at hd
    obtain ⟨t, ht, rfl⟩ := Option.map_eq_some_iff.mp hd
    refine ⟨_, rfl, ?_⟩
    unfold b_led_1
    rw [take_snoc ht, ledF_snoc]
    have hin := led_in hms (ts.take k)
    cases e : ledF ms (ts.take k) with
    | none =>
      walk_at "sx"
      exact ⟨rfl, List.take_length⟩
    | some j =>
      obtain ⟨h1, h2⟩ := hin j e
      obtain ⟨j, rfl⟩ := Int.eq_ofNat_of_zero_le h1
      have hl : j < ms.length := by omega
      walk_at "sx"
      refine touched_spec (List.getElem?_eq_getElem hl) hms.h6 ?_
      walk_at "sx"
      refine ⟨?_, List.take_length⟩
      simp only [stepO, Int.toNat_natCast, List.getElem?_eq_getElem hl]
      rfl
  · obtain ⟨rfl, rfl⟩ := hI
    rw [List.length_map, List.take_length]
    walk_at "sx"
    exact h
end
end K32
set_option maxHeartbeats 1000000
namespace K32
open PySem PySem.Spec PyProof.Rows L2 DL
local macro_rules | `(tactic| walk_at "isi") => `(tactic| first
  | (with_reducible refine is_non_int ?_) | (with_reducible refine is_non_bool ?_) | (with_reducible refine is_non_str ?_) | (with_reducible refine is_non_tuple ?_) | (with_reducible refine is_non_list ?_) | (with_reducible refine is_non_dict ?_) | (with_reducible refine is2_non_list_tuple ?_) | (with_reducible refine isC_non ?_) | (with_reducible refine is_bl_int ?_) | (with_reducible refine is_bl_bool ?_) | (with_reducible refine is_bl_str ?_) | (with_reducible refine is_bl_tuple ?_) | (with_reducible refine is_bl_list ?_) | (with_reducible refine is_bl_dict ?_) | (with_reducible refine is2_bl_list_tuple ?_) | (with_reducible refine isC_bl ?_) | (with_reducible refine is_int_int ?_) | (with_reducible refine is_int_bool ?_) | (with_reducible refine is_int_str ?_) | (with_reducible refine is_int_tuple ?_) | (with_reducible refine is_int_list ?_) | (with_reducible refine is_int_dict ?_) | (with_reducible refine is2_int_list_tuple ?_) | (with_reducible refine isC_int ?_) | (with_reducible refine is_str_int ?_) | (with_reducible refine is_str_bool ?_) | (with_reducible refine is_str_str ?_) | (with_reducible refine is_str_tuple ?_) | (with_reducible refine is_str_list ?_) | (with_reducible refine is_str_dict ?_) | (with_reducible refine is2_str_list_tuple ?_) | (with_reducible refine isC_str ?_) | (with_reducible refine is_tup_int ?_) | (with_reducible refine is_tup_bool ?_) | (with_reducible refine is_tup_str ?_) | (with_reducible refine is_tup_tuple ?_) | (with_reducible refine is_tup_list ?_) | (with_reducible refine is_tup_dict ?_) | (with_reducible refine is2_tup_list_tuple ?_) | (with_reducible refine isC_tup ?_) | (with_reducible refine is_lst_int ?_) | (with_reducible refine is_lst_bool ?_) | (with_reducible refine is_lst_str ?_) | (with_reducible refine is_lst_tuple ?_) | (with_reducible refine is_lst_list ?_) | (with_reducible refine is_lst_dict ?_) | (with_reducible refine is2_lst_list_tuple ?_) | (with_reducible refine isC_lst ?_) | (with_reducible refine is_fro_int ?_) | (with_reducible refine is_fro_bool ?_) | (with_reducible refine is_fro_str ?_) | (with_reducible refine is_fro_tuple ?_) | (with_reducible refine is_fro_list ?_) | (with_reducible refine is_fro_dict ?_) | (with_reducible refine is2_fro_list_tuple ?_) | (with_reducible refine isC_fro ?_) | (with_reducible refine is_dct_int ?_) | (with_reducible refine is_dct_bool ?_) | (with_reducible refine is_dct_str ?_) | (with_reducible refine is_dct_tuple ?_) | (with_reducible refine is_dct_list ?_) | (with_reducible refine is_dct_dict ?_) | (with_reducible refine is2_dct_list_tuple ?_) | (with_reducible refine isC_dct ?_) | (with_reducible refine isC_own ?_)
  | (with_reducible refine is2_ins (by simp) ?_) | (with_reducible refine is_ins_int (by simp) ?_) | (with_reducible refine is_ins_bool (by simp) ?_) | (with_reducible refine is_ins_str (by simp) ?_) | (with_reducible refine is_ins_tuple (by simp) ?_) | (with_reducible refine is_ins_list (by simp) ?_) | (with_reducible refine is_ins_dict (by simp) ?_) | fail "isi")
local macro_rules | `(tactic| walk_at "tk") => `(tactic| first | exact List.take_length | exact take_cons | exact take_consA | exact mem_take | exact take_len | fail "tk")
local macro_rules | `(tactic| walk_at "al") => `(tactic| first | exact allDat_mapf _ _ | exact allDat_map _ | (repeat (first | exact al_nil | apply al_cons)))
local macro_rules | `(tactic| walk_at "set") => `(tactic| (simp only [List.set_cons_succ, List.set_cons_zero]; exact rfl))
local macro_rules | `(tactic| walk_at "sxS") => `(tactic| first | (with_reducible refine set_now (by walk_at "set") ?_) | (with_reducible refine s_seq ?_) | (with_reducible refine s_asg ?_) | (with_reducible refine s_ret ?_) | (with_reducible refine s_if ?_) | (with_reducible refine s_drop ?_) | (with_reducible refine s_next ?_) | (with_reducible refine s_new ?_) | (with_reducible refine s_for ?_) | (with_reducible refine s_tgt ?_) | (with_reducible refine s_par ?_) | (with_reducible refine s_disp ?_) | (with_reducible refine s_wh ?_) | (with_reducible refine s_fld ?_) | (with_reducible refine s_set ?_) | (with_reducible refine s_aug rfl ?_) | (with_reducible refine s_par2 ?_) | (with_reducible refine r_dat ?_) | (with_reducible refine r_loc ?_) | fail "sxS")
local macro_rules | `(tactic| walk_at "sxV") => `(tactic| first | (with_reducible refine v_var rfl ?_) | (with_reducible refine v_D ?_) | (with_reducible refine x_fz ?_) | fail "sxV")
local macro_rules | `(tactic| walk_at "sxA") => `(tactic| first | (with_reducible refine a_consK ?_) | (with_reducible refine a_nilK ?_) | (with_reducible refine n_consK ?_) | (with_reducible refine n_nilK ?_) | fail "sxA")
local macro_rules | `(tactic| walk_at "sxT") => `(tactic| first | (with_reducible refine t_B ?_) | (with_reducible refine t_not ?_) | (with_reducible refine t_and ?_) | (with_reducible refine t_or ?_) | (with_reducible refine t_yes ?_) | fail "sxT")
local macro_rules | `(tactic| walk_at "sxO") => `(tactic| first | (with_reducible refine o_noneK ?_) | (with_reducible refine o_someK ?_) | fail "sxO")
local macro_rules | `(tactic| walk_at "sxI") => `(tactic| first | (with_reducible refine i_seq ?_) | (with_reducible refine i_enum ?_) | (with_reducible refine i_rng ?_) | (with_reducible refine i_rng2 ?_) | fail "sxI")
local macro_rules | `(tactic| walk_at "sxF") => `(tactic| first | (with_reducible refine z_dat ?_) | (with_reducible refine z_loc ?_) | (with_reducible refine z_ofD ?_) | (with_reducible refine z_nlm ?_) | (with_reducible refine z_nlf ?_) | (with_reducible refine z_nlc ?_) | (with_reducible refine z_nl (by walk_at "al") ?_) | fail "sxF")
local macro_rules | `(tactic| walk_at "sxC") => `(tactic| first | (with_reducible refine if_T ?_) | (with_reducible refine if_F ?_) | (with_reducible refine if_bT (by with_unfolding_all exact rfl) ?_) | (with_reducible refine if_bF (by with_unfolding_all exact rfl) ?_) | fail "sxC")
local macro_rules | `(tactic| walk_at "sxD") => `(tactic| first | (with_reducible refine l_addI ?_) | (with_reducible refine l_sub ?_) | (with_reducible refine l_neg ?_) | (with_reducible refine l_eqI ?_) | (with_reducible refine l_neI ?_) | (with_reducible refine l_eqS ?_) | (with_reducible refine l_neS ?_) | (with_reducible refine l_lt ?_) | (with_reducible refine l_le ?_) | (with_reducible refine l_gt ?_) | (with_reducible refine l_ge ?_) | (with_reducible refine l_ixT rfl ?_) | (with_reducible refine l_ixL rfl ?_) | (with_reducible refine l_slT ?_) | (with_reducible refine l_slL ?_) | (with_reducible refine l_lenT ?_) | (with_reducible refine l_lenL ?_) | (with_reducible refine l_int ?_) | (with_reducible refine l_intB ?_) | (with_reducible refine l_listT ?_) | (with_reducible refine l_listL ?_) | (with_reducible refine l_tupL ?_) | (with_reducible refine l_tupT ?_) | (with_reducible refine l_inT ?_) | (with_reducible refine l_ninT ?_) | (with_reducible refine l_inL ?_) | (with_reducible refine l_ninL ?_) | (with_reducible refine l_mm ?_) | (walk_at "isi") | fail "sxD")
local macro_rules | `(tactic| walk_at "sxR") => `(tactic| first | (with_reducible refine x_op ?_) | (with_reducible refine x_cb ?_) | (with_reducible refine x_varD rfl ?_) | (with_reducible refine x_varL rfl ?_) | (with_reducible refine x_D ?_) | (with_reducible refine x_if ?_) | (with_reducible refine x_tup ?_) | (with_reducible refine x_lst ?_) | (with_reducible refine x_bm ?_) | (with_reducible refine x_bm0 ?_) | (with_reducible refine x_sl ?_) | (with_reducible refine x_and ?_) | (with_reducible refine x_or ?_) | (with_reducible refine x_not ?_) | (with_reducible refine x_un ?_) | (with_reducible refine x_isN ?_) | (with_reducible refine x_notN ?_) | (with_reducible refine x_chain ?_) | (with_reducible refine x_inK ?_) | (with_reducible refine x_lc ?_) | (with_reducible refine x_fldK ?_) | (with_reducible refine x_meth ?_) | (with_reducible refine x_make ?_) | (with_reducible refine x_lenO ?_) | (with_reducible refine x_eqO ?_) | (with_reducible refine x_inO ?_) | (walk_at "sxD") | fail "sxR")
local macro_rules | `(tactic| walk_at "sxE") => `(tactic| first | (with_reducible refine e_dat (by walk_at "tk") ?_) | (with_reducible refine e_ofD (by walk_at "tk") ?_) | (with_reducible refine e_nlf (by walk_at "tk") ?_) | (with_reducible refine e_nlm (by walk_at "tk") ?_) | (with_reducible refine e_nl (by walk_at "tk") (by with_unfolding_all exact rfl) ?_) | fail "sxE")
local macro_rules | `(tactic| walk_at "sxX") => `(tactic| first | (with_reducible refine b_bl ?_) | (with_reducible refine b_ofD ?_) | (with_reducible refine p_dat ?_) | (with_reducible refine p_loc ?_) | (with_reducible refine ik ?_) | (with_reducible refine stk ?_) | (with_reducible refine sk_l ?_) | (with_reducible refine sk_t ?_) | (with_reducible refine sk_f ?_) | (with_reducible refine pk ?_) | (with_reducible refine gk rfl ?_) | (with_reducible refine tk (by walk_at "al") (sz_lit rfl) ?_) | (with_reducible refine fk1 (by simp) ?_) | (with_reducible refine e_nx (by walk_at "tk") ?_) | (with_reducible refine And.intro (sz_lit rfl) ?_) | (with_reducible refine And.intro ty_l ?_) | (with_reducible refine And.intro ty_s ?_) | (with_reducible refine And.intro (isI_one (by decide)) ?_) | (with_reducible refine And.intro (tyL_loc mem_here) ?_) | fail "sxX")
local macro_rules | `(tactic| walk_at "sx1") => `(tactic| first | (with_reducible refine gS ?_; walk_at "sxS") | (with_reducible refine gV ?_; walk_at "sxV") | (with_reducible refine gR ?_; walk_at "sxR") | (with_reducible refine gA ?_; walk_at "sxA") | (with_reducible refine gT ?_; walk_at "sxT") | (with_reducible refine gF ?_; walk_at "sxF") | (with_reducible refine gC ?_; walk_at "sxC") | (with_reducible refine gRt ?_; walk_at "sxE") | (with_reducible refine gO ?_; walk_at "sxO") | (with_reducible refine gI ?_; walk_at "sxI") | (walk_at "sxX") | fail "sx")
local macro_rules | `(tactic| walk_at "sx") => `(tactic| repeat' (walk_at "sx1"))
local macro_rules | `(tactic| walk_at "sxs") => `(tactic| repeat' (first | (walk_at "sx1") | (with_reducible refine if_dec (fun _ => ?_) (fun _ => ?_)) | (with_reducible refine if_ndec (fun _ => ?_) (fun _ => ?_)) | fail "sxs"))
section
variable {QR : R → Mem → Prop} {E : Xc → Mem → Prop} {μ ν : Mem} {B : Bg} {ms : List Mk} {b : Bool} {k n : Nat}
theorem sz_lit' {n : Nat} (h : n ≤ 1000) : n ≤ sizeLine := Nat.le_trans h (by decide)
theorem fit_opt {o : Option Int} (h : ∀ i, o = some i → i.natAbs < 10 ^ 12) : FitD 0 40 (optD o) := by
  cases o with
  | none => exact fd_non
  | some i => exact fd_int (h i rfl) (by decide)
theorem fit_mark {m : Mk} (h : MkOk n m) (hn : n ≤ 6) : FitD 1 123 (markD m) := by
  obtain ⟨⟨h1, h2⟩, h3⟩ := h
  refine fd_tup (k := 0) (w := 40) (n := 3) (fun d hd => ?_) (by simp)
  simp only [List.mem_cons, List.not_mem_nil, or_false] at hd
  rcases hd with rfl | rfl | rfl
  · exact fd_int (by omega) (by decide)
  · exact fit_opt fun i hi => by have := h3 i hi; omega
  · exact fd_bl
theorem fit_marks (h : MsOk ms) : FitD 2 744 (.lst (ms.map markD)) := by
  refine fd_lst (k := 1) (w := 123) (n := 6) (fun d hd => ?_) (by simpa using h.h6)
  obtain ⟨m, hm, rfl⟩ := List.mem_map.mp hd
  exact fit_mark (h.ok m hm) h.h6
theorem ctr_eq (hms : MsOk ms) (h : QR (.dat (.bl true)) μ) : Sat (F_Counter___eq__ [.dat (ctrD ms), .dat (ctrD ms)] μ) QR E := by
  with_reducible refine w_Counter___eq__ ?_
  unfold g_Counter___eq__
  walk_at "sx"
  refine l_eqSame pk_dat pk_dat (fit_marks hms) (by decide) ?_
  walk_at "sx"
  exact h
def stkM (n k : Nat) : Mk := ⟨if (n : Int) - 1 < (k : Int) + 1 then (n : Int) - 1 else (k : Int) + 1, if (if (k : Int) = (n : Int) - 1 then (k : Int) else (k : Int) - 1) < 0 then none else some (if (k : Int) = (n : Int) - 1 then (k : Int) else (k : Int) - 1), if (0 : Int) < k then true else decide ((n : Int) - 1 = 0)⟩
def stkL (n : Nat) : List Mk := (List.range n).map (stkM n)
theorem stk_ok (h1 : 1 ≤ n) (h6 : n ≤ 6) : MsOk (stkL n) := by
  refine ⟨by simp [stkL]; omega, by simp [stkL]; omega, fun m hm => ?_⟩
  obtain ⟨k, hk, rfl⟩ := List.mem_map.mp hm
  have hk := List.mem_range.mp hk
  rw [show (stkL n).length = n by simp [stkL]]
  refine ⟨?_, fun i hi => ?_⟩
  · simp only [stkM]; split <;> omega
  · simp only [stkM] at hi
    split at hi
    · split at hi
      · cases hi
      · cases hi; omega
    · split at hi
      · cases hi
      · cases hi; omega
theorem range_at {n k : Nat} {d : D} (h : (rngD 0 n)[k]? = some d) : k < n ∧ d = .int k := by
  unfold rngD at h
  rw [List.getElem?_map] at h
  obtain ⟨j, hj, rfl⟩ := Option.map_eq_some_iff.mp h
  have := List.getElem?_eq_some_iff.mp hj
  obtain ⟨h1, h2⟩ := this
  rw [List.getElem_range] at h2
  subst h2
  exact ⟨by simpa using h1, by simp⟩
theorem range_snoc {α : Type} (f : Nat → α) (k : Nat) : (List.range (k + 1)).map f = (List.range k).map f ++ [f k] := by rw [List.range_succ, List.map_append]; rfl
theorem sticking_spec (h1 : 1 ≤ n) (h6 : n ≤ 6) (h : QR (.dat (ctrD (stkL n))) μ) : Sat (F_sticking [.dat (.int n)] μ) QR E := by
  with_reducible refine w_sticking ?_
  unfold g_sticking
  walk_at "sx"
  with_reducible refine r_nl (Nat.le_refl _) ?_
  walk_at "sx"
  refine And.intro ⟨by omega, by omega⟩ ?_
  rw [Int.toNat_natCast]
  with_reducible refine for_inv (fun k δ μ' => δ = [some (.dat (.int n)), some (.dat (.int ((n : Int) - 1))), some (.loc μ.length), none, none] ∧ μ' = μ ++ [.lst (((List.range k).map (stkM n)).map fun m => .dat (markD m))]) ⟨rfl, rfl⟩ (fun k d hd δ μ' hI => ?_) fun δ μ' hI => ?_
  · obtain ⟨rfl, rfl⟩ := hI
    obtain ⟨hk, rfl⟩ := range_at hd
    refine ⟨_, rfl, ?_⟩
    unfold b_sticking_1
    have hsz : (((List.range k).map (stkM n)).map fun m => DV.dat (markD m)).length < sizeLine := by simp; exact Nat.lt_of_lt_of_le (show k < 6 by omega) (by decide)
    have fin : ∀ (d : D) (x y : Option DV), d = markD (stkM n k) → (cut (List.length (μ ++ [Pl.lst []])) [true, true, true, false, false] [some (DV.dat (D.int n)), some (DV.dat (D.int ((n : Int) - 1))), some (DV.loc μ.length), x, y] = [some (DV.dat (D.int n)), some (DV.dat (D.int ((n : Int) - 1))), some (DV.loc μ.length), none, none] ∧
        List.take (List.length (μ ++ [Pl.lst []])) (List.set (μ ++ [.lst (((List.range k).map (stkM n)).map fun m => .dat (markD m))]) μ.length (.lst ((((List.range k).map (stkM n)).map fun m => .dat (markD m)) ++ [.dat d]))) = μ ++ [.lst (((List.range (k + 1)).map (stkM n)).map fun m => .dat (markD m))]) := by
      intro d x y hd
      subst hd
      refine ⟨by simp [cut, DL.cutV], ?_⟩
      rw [range_snoc, List.take_of_length_le (by simp)]
      simp
    walk_at "sxs"
    all_goals
      refine l_app mem_here hsz rfl (fin _ _ _ ?_)
      have hn' : n = 1 ∨ n = 2 ∨ n = 3 ∨ n = 4 ∨ n = 5 ∨ n = 6 := by omega
      have hk' : k = 0 ∨ k = 1 ∨ k = 2 ∨ k = 3 ∨ k = 4 ∨ k = 5 := by omega
      clear fin hsz hd h
      rcases hn' with rfl | rfl | rfl | rfl | rfl | rfl <;> rcases hk' with rfl | rfl | rfl | rfl | rfl | rfl <;> first | rfl | (exfalso; omega)
  · obtain ⟨rfl, rfl⟩ := hI
    have el : (rngD 0 n).length = n := by simp [rngD]
    rw [el]
    walk_at "sx"
    with_reducible refine s_frz (n := μ.length) rfl (Nat.le_refl _) (by simp [noLocE, noLoc]) (by simp) mem_here (allDat_mapf _ _) ?_
    walk_at "sx"
    rw [show List.set (μ ++ [Pl.lst (List.map (fun m => DV.dat (markD m)) (List.map (stkM n) (List.range n)))]) μ.length Pl.gone = μ ++ [Pl.gone] by simp]
    refine init_spec (stk_ok h1 h6) ?_
    walk_at "sx"
    exact h
/-! the law's own marks -/
def lawL (n : Nat) : List Mk := if 1 < n then ⟨1, none, false⟩ :: ((List.range (n - 2)).map fun i => ⟨1 + (i : Int) + 1, some (1 + (i : Int) - 1), true⟩) ++ [⟨(n : Int) - 1, some ((n : Int) - 1), true⟩] else [⟨0, some 0, true⟩]
theorem law_stk : ∀ n, 1 ≤ n → n ≤ 6 → lawL n = stkL n := by
  intro n h1 h6
  have hn' : n = 1 ∨ n = 2 ∨ n = 3 ∨ n = 4 ∨ n = 5 ∨ n = 6 := by omega
  rcases hn' with rfl | rfl | rfl | rfl | rfl | rfl <;> rfl
theorem lsticking_spec (h1 : 1 ≤ n) (h6 : n ≤ 6) (h : QR (.nl ((lawL n).map fun m => .dat (markD m))) μ) : Sat (F__law_sticking [.dat (.int n)] μ) QR E := by
  with_reducible refine w__law_sticking ?_
  unfold g__law_sticking
  walk_at "sx"
  refine And.intro ⟨by omega, by omega, by omega, by omega⟩ (And.intro (sl_sz (by simp [rngD]; omega)) ?_)
  rw [show ((n : Int) - 1 - 1).toNat = n - 2 by omega]
  unfold rngD
  refine lc_mapK (fun i => markD ⟨1 + (i : Int) + 1, some (1 + (i : Int) - 1), true⟩) (fun i hi => ⟨_, rfl, ?_⟩) ?_
  · walk_at "sx"
    exact ⟨rfl, rfl⟩
  · walk_at "sx"
    refine l_addL (sz_lit' (by simp; omega)) ?_
    walk_at "sx"
    refine if_dec (fun e => ?_) (fun e => ?_)
    · walk_at "sx"
      refine l_addL (sz_lit' (by simp; omega)) ?_
      have el : lawL n = ⟨1, none, false⟩ :: ((List.range (n - 2)).map fun i => ⟨1 + (i : Int) + 1, some (1 + (i : Int) - 1), true⟩) ++ [⟨(n : Int) - 1, some ((n : Int) - 1), true⟩] := if_pos (by omega)
      rw [el] at h
      refine e_nlm List.take_length ?_
      simpa [Function.comp_def] using h
    · walk_at "sx"
      have el : lawL n = [⟨0, some 0, true⟩] := if_neg (by omega)
      rw [el] at h
      exact h
end
end K32
set_option maxHeartbeats 1000000
namespace K32
open PySem PySem.Spec PyProof.Rows L2 DL
local macro_rules | `(tactic| walk_at "isi") => `(tactic| first
  | (with_reducible refine is_non_int ?_) | (with_reducible refine is_non_bool ?_) | (with_reducible refine is_non_str ?_) | (with_reducible refine is_non_tuple ?_) | (with_reducible refine is_non_list ?_) | (with_reducible refine is_non_dict ?_) | (with_reducible refine is2_non_list_tuple ?_) | (with_reducible refine isC_non ?_) | (with_reducible refine is_bl_int ?_) | (with_reducible refine is_bl_bool ?_) | (with_reducible refine is_bl_str ?_) | (with_reducible refine is_bl_tuple ?_) | (with_reducible refine is_bl_list ?_) | (with_reducible refine is_bl_dict ?_) | (with_reducible refine is2_bl_list_tuple ?_) | (with_reducible refine isC_bl ?_) | (with_reducible refine is_int_int ?_) | (with_reducible refine is_int_bool ?_) | (with_reducible refine is_int_str ?_) | (with_reducible refine is_int_tuple ?_) | (with_reducible refine is_int_list ?_) | (with_reducible refine is_int_dict ?_) | (with_reducible refine is2_int_list_tuple ?_) | (with_reducible refine isC_int ?_) | (with_reducible refine is_str_int ?_) | (with_reducible refine is_str_bool ?_) | (with_reducible refine is_str_str ?_) | (with_reducible refine is_str_tuple ?_) | (with_reducible refine is_str_list ?_) | (with_reducible refine is_str_dict ?_) | (with_reducible refine is2_str_list_tuple ?_) | (with_reducible refine isC_str ?_) | (with_reducible refine is_tup_int ?_) | (with_reducible refine is_tup_bool ?_) | (with_reducible refine is_tup_str ?_) | (with_reducible refine is_tup_tuple ?_) | (with_reducible refine is_tup_list ?_) | (with_reducible refine is_tup_dict ?_) | (with_reducible refine is2_tup_list_tuple ?_) | (with_reducible refine isC_tup ?_) | (with_reducible refine is_lst_int ?_) | (with_reducible refine is_lst_bool ?_) | (with_reducible refine is_lst_str ?_) | (with_reducible refine is_lst_tuple ?_) | (with_reducible refine is_lst_list ?_) | (with_reducible refine is_lst_dict ?_) | (with_reducible refine is2_lst_list_tuple ?_) | (with_reducible refine isC_lst ?_) | (with_reducible refine is_fro_int ?_) | (with_reducible refine is_fro_bool ?_) | (with_reducible refine is_fro_str ?_) | (with_reducible refine is_fro_tuple ?_) | (with_reducible refine is_fro_list ?_) | (with_reducible refine is_fro_dict ?_) | (with_reducible refine is2_fro_list_tuple ?_) | (with_reducible refine isC_fro ?_) | (with_reducible refine is_dct_int ?_) | (with_reducible refine is_dct_bool ?_) | (with_reducible refine is_dct_str ?_) | (with_reducible refine is_dct_tuple ?_) | (with_reducible refine is_dct_list ?_) | (with_reducible refine is_dct_dict ?_) | (with_reducible refine is2_dct_list_tuple ?_) | (with_reducible refine isC_dct ?_) | (with_reducible refine isC_own ?_)
  | (with_reducible refine is2_ins (by simp) ?_) | (with_reducible refine is_ins_int (by simp) ?_) | (with_reducible refine is_ins_bool (by simp) ?_) | (with_reducible refine is_ins_str (by simp) ?_) | (with_reducible refine is_ins_tuple (by simp) ?_) | (with_reducible refine is_ins_list (by simp) ?_) | (with_reducible refine is_ins_dict (by simp) ?_) | fail "isi")
local macro_rules | `(tactic| walk_at "tk") => `(tactic| first | exact List.take_length | exact take_cons | exact take_consA | exact mem_take | exact take_len | fail "tk")
local macro_rules | `(tactic| walk_at "al") => `(tactic| first | exact allDat_mapf _ _ | exact allDat_map _ | (repeat (first | exact al_nil | apply al_cons)))
local macro_rules | `(tactic| walk_at "set") => `(tactic| (simp only [List.set_cons_succ, List.set_cons_zero]; exact rfl))
local macro_rules | `(tactic| walk_at "sxS") => `(tactic| first | (with_reducible refine set_now (by walk_at "set") ?_) | (with_reducible refine s_seq ?_) | (with_reducible refine s_asg ?_) | (with_reducible refine s_ret ?_) | (with_reducible refine s_if ?_) | (with_reducible refine s_drop ?_) | (with_reducible refine s_next ?_) | (with_reducible refine s_new ?_) | (with_reducible refine s_for ?_) | (with_reducible refine s_tgt ?_) | (with_reducible refine s_par ?_) | (with_reducible refine s_disp ?_) | (with_reducible refine s_wh ?_) | (with_reducible refine s_fld ?_) | (with_reducible refine s_set ?_) | (with_reducible refine s_aug rfl ?_) | (with_reducible refine s_par2 ?_) | (with_reducible refine r_dat ?_) | (with_reducible refine r_loc ?_) | fail "sxS")
local macro_rules | `(tactic| walk_at "sxV") => `(tactic| first | (with_reducible refine v_var rfl ?_) | (with_reducible refine v_D ?_) | (with_reducible refine x_fz ?_) | fail "sxV")
local macro_rules | `(tactic| walk_at "sxA") => `(tactic| first | (with_reducible refine a_consK ?_) | (with_reducible refine a_nilK ?_) | (with_reducible refine n_consK ?_) | (with_reducible refine n_nilK ?_) | fail "sxA")
local macro_rules | `(tactic| walk_at "sxT") => `(tactic| first | (with_reducible refine t_B ?_) | (with_reducible refine t_not ?_) | (with_reducible refine t_and ?_) | (with_reducible refine t_or ?_) | (with_reducible refine t_yes ?_) | fail "sxT")
local macro_rules | `(tactic| walk_at "sxO") => `(tactic| first | (with_reducible refine o_noneK ?_) | (with_reducible refine o_someK ?_) | fail "sxO")
local macro_rules | `(tactic| walk_at "sxI") => `(tactic| first | (with_reducible refine i_seq ?_) | (with_reducible refine i_enum ?_) | (with_reducible refine i_rng ?_) | (with_reducible refine i_rng2 ?_) | fail "sxI")
local macro_rules | `(tactic| walk_at "sxF") => `(tactic| first | (with_reducible refine z_dat ?_) | (with_reducible refine z_loc ?_) | (with_reducible refine z_ofD ?_) | (with_reducible refine z_nlm ?_) | (with_reducible refine z_nlf ?_) | (with_reducible refine z_nlc ?_) | (with_reducible refine z_nl (by walk_at "al") ?_) | fail "sxF")
local macro_rules | `(tactic| walk_at "sxC") => `(tactic| first | (with_reducible refine if_T ?_) | (with_reducible refine if_F ?_) | (with_reducible refine if_bT (by with_unfolding_all exact rfl) ?_) | (with_reducible refine if_bF (by with_unfolding_all exact rfl) ?_) | fail "sxC")
local macro_rules | `(tactic| walk_at "sxD") => `(tactic| first | (with_reducible refine l_addI ?_) | (with_reducible refine l_sub ?_) | (with_reducible refine l_neg ?_) | (with_reducible refine l_eqI ?_) | (with_reducible refine l_neI ?_) | (with_reducible refine l_eqS ?_) | (with_reducible refine l_neS ?_) | (with_reducible refine l_lt ?_) | (with_reducible refine l_le ?_) | (with_reducible refine l_gt ?_) | (with_reducible refine l_ge ?_) | (with_reducible refine l_ixT rfl ?_) | (with_reducible refine l_ixL rfl ?_) | (with_reducible refine l_slT ?_) | (with_reducible refine l_slL ?_) | (with_reducible refine l_lenT ?_) | (with_reducible refine l_lenL ?_) | (with_reducible refine l_int ?_) | (with_reducible refine l_intB ?_) | (with_reducible refine l_listT ?_) | (with_reducible refine l_listL ?_) | (with_reducible refine l_tupL ?_) | (with_reducible refine l_tupT ?_) | (with_reducible refine l_inT ?_) | (with_reducible refine l_ninT ?_) | (with_reducible refine l_inL ?_) | (with_reducible refine l_ninL ?_) | (with_reducible refine l_mm ?_) | (walk_at "isi") | fail "sxD")
local macro_rules | `(tactic| walk_at "sxR") => `(tactic| first | (with_reducible refine x_op ?_) | (with_reducible refine x_cb ?_) | (with_reducible refine x_varD rfl ?_) | (with_reducible refine x_varL rfl ?_) | (with_reducible refine x_D ?_) | (with_reducible refine x_if ?_) | (with_reducible refine x_tup ?_) | (with_reducible refine x_lst ?_) | (with_reducible refine x_bm ?_) | (with_reducible refine x_bm0 ?_) | (with_reducible refine x_sl ?_) | (with_reducible refine x_and ?_) | (with_reducible refine x_or ?_) | (with_reducible refine x_not ?_) | (with_reducible refine x_un ?_) | (with_reducible refine x_isN ?_) | (with_reducible refine x_notN ?_) | (with_reducible refine x_chain ?_) | (with_reducible refine x_inK ?_) | (with_reducible refine x_lc ?_) | (with_reducible refine x_fldK ?_) | (with_reducible refine x_meth ?_) | (with_reducible refine x_make ?_) | (with_reducible refine x_lenO ?_) | (with_reducible refine x_eqO ?_) | (with_reducible refine x_inO ?_) | (walk_at "sxD") | fail "sxR")
local macro_rules | `(tactic| walk_at "sxE") => `(tactic| first | (with_reducible refine e_dat (by walk_at "tk") ?_) | (with_reducible refine e_ofD (by walk_at "tk") ?_) | (with_reducible refine e_nlf (by walk_at "tk") ?_) | (with_reducible refine e_nlm (by walk_at "tk") ?_) | (with_reducible refine e_nl (by walk_at "tk") (by with_unfolding_all exact rfl) ?_) | fail "sxE")
local macro_rules | `(tactic| walk_at "sxX") => `(tactic| first | (with_reducible refine b_bl ?_) | (with_reducible refine b_ofD ?_) | (with_reducible refine p_dat ?_) | (with_reducible refine p_loc ?_) | (with_reducible refine ik ?_) | (with_reducible refine stk ?_) | (with_reducible refine sk_l ?_) | (with_reducible refine sk_t ?_) | (with_reducible refine sk_f ?_) | (with_reducible refine pk ?_) | (with_reducible refine gk rfl ?_) | (with_reducible refine tk (by walk_at "al") (sz_lit rfl) ?_) | (with_reducible refine fk1 (by simp) ?_) | (with_reducible refine e_nx (by walk_at "tk") ?_) | (with_reducible refine And.intro (sz_lit rfl) ?_) | (with_reducible refine And.intro ty_l ?_) | (with_reducible refine And.intro ty_s ?_) | (with_reducible refine And.intro (isI_one (by decide)) ?_) | (with_reducible refine And.intro (tyL_loc mem_here) ?_) | fail "sxX")
local macro_rules | `(tactic| walk_at "sx1") => `(tactic| first | (with_reducible refine gS ?_; walk_at "sxS") | (with_reducible refine gV ?_; walk_at "sxV") | (with_reducible refine gR ?_; walk_at "sxR") | (with_reducible refine gA ?_; walk_at "sxA") | (with_reducible refine gT ?_; walk_at "sxT") | (with_reducible refine gF ?_; walk_at "sxF") | (with_reducible refine gC ?_; walk_at "sxC") | (with_reducible refine gRt ?_; walk_at "sxE") | (with_reducible refine gO ?_; walk_at "sxO") | (with_reducible refine gI ?_; walk_at "sxI") | (walk_at "sxX") | fail "sx")
local macro_rules | `(tactic| walk_at "sx") => `(tactic| repeat' (walk_at "sx1"))
local macro_rules | `(tactic| walk_at "sxs") => `(tactic| repeat' (first | (walk_at "sx1") | (with_reducible refine if_dec (fun _ => ?_) (fun _ => ?_)) | (with_reducible refine if_ndec (fun _ => ?_) (fun _ => ?_)) | fail "sxs"))
section
variable {QR : R → Mem → Prop} {E : Xc → Mem → Prop} {μ ν : Mem} {B : Bg} {ms : List Mk} {b : Bool} {k n : Nat}
/-- the law's own count: the number, and whether it sticks -/
def cstep (n : Nat) (o : Option (Int × Bool)) (b : Bool) : Option (Int × Bool) := match o with
  | none => none
  | some (i, s) =>
    let i' := i + (if b = true then 1 else -1)
    let s' := if s = true then true else decide ((n : Int) ≤ i')
    if i' = 0 ∧ s' = false then none else some (i', s')
def cst (n : Nat) (ts : List Bool) : Option (Int × Bool) := ts.foldl (cstep n) (some (1, decide ((n : Int) = 1)))
def cres (n : Nat) (o : Option (Int × Bool)) : Option Int := o.map fun p => if p.2 = true then (n : Int) - 1 else p.1 - 1
theorem cst_snoc (n : Nat) (ts : List Bool) (t : Bool) : cst n (ts ++ [t]) = cstep n (cst n ts) t := by unfold cst; rw [List.foldl_append]; rfl
theorem cst_none {ts us : List Bool} (h : cst n ts = none) : cst n (ts ++ us) = none := by
  have key : ∀ us : List Bool, us.foldl (cstep n) none = none := by
    intro us
    induction us with
    | nil => rfl
    | cons u us ih => exact ih
  unfold cst at h ⊢; rw [List.foldl_append, h]; exact key us
theorem count_spec {ts : List Bool} (h : QR (.dat (optD (cres n (cst n ts)))) μ) : Sat (F__law_count [.dat (.lst (ts.map tD)), .dat (.int n)] μ) QR E := by
  with_reducible refine w__law_count ?_
  unfold g__law_count
  walk_at "sx"
  with_reducible refine for_inv (fun k δ μ' => ∃ i s, cst n (ts.take k) = some (i, s) ∧ δ = [some (.dat (.lst (ts.map tD))), some (.dat (.int n)), some (.dat (.int i)), some (.dat (.bl s)), none] ∧ μ' = μ) ⟨1, _, rfl, rfl, rfl⟩ (fun k d hd δ μ' hI => ?_) fun δ μ' hI => ?_
  · obtain ⟨i, s, hc, rfl, rfl⟩ := hI
    rw [List.getElem?_map] at hd
    obtain ⟨t, ht, rfl⟩ := Option.map_eq_some_iff.mp hd
    refine ⟨_, rfl, ?_⟩
    unfold b__law_count_1
    have e := cst_snoc n (ts.take k) t
    rw [← take_snoc ht, hc] at e
    have en : cst n (ts.take (k + 1)) = none → cst n ts = none := fun e => by
      have := cst_none (us := ts.drop (k + 1)) e
      rwa [List.take_append_drop] at this
    cases t <;> cases s
    all_goals walk_at "sxs"
    all_goals first
      | (refine ⟨_, _, ?_, rfl, List.take_length⟩
         rw [e]
         refine if_neg (fun hh => ?_)
         simp at hh <;> omega)
      | (have e2 := en (by
           rw [e]
           refine if_pos ?_
           simp <;> omega)
         rw [e2] at h
         exact h)
  · obtain ⟨i, s, hc, rfl, rfl⟩ := hI
    rw [List.length_map, List.take_length] at hc
    rw [hc] at h
    cases s
    · walk_at "sx"
      exact h
    · walk_at "sx"
      exact h
theorem stk_a (hk : k < n) : (stkM n k).a = if k + 1 < n then (k : Int) + 1 else (n : Int) - 1 := by
  show (if (n : Int) - 1 < (k : Int) + 1 then (n : Int) - 1 else (k : Int) + 1) = _
  by_cases h : k + 1 < n
  · rw [if_pos h, if_neg (by omega)]
  · rw [if_neg h, if_pos (by omega)]
theorem stk_last (hk : k + 1 = n) : (stkM n k).l = some (k : Int) := by
  show (if (if (k : Int) = (n : Int) - 1 then (k : Int) else (k : Int) - 1) < 0 then none else some (if (k : Int) = (n : Int) - 1 then (k : Int) else (k : Int) - 1)) = _
  rw [if_pos (show (k : Int) = (n : Int) - 1 by omega), if_neg (show ¬ ((k : Int) < 0) by omega)]
theorem stk_less (hk : k + 1 < n) : (stkM n k).l = if k = 0 then none else some ((k : Int) - 1) := by
  show (if (if (k : Int) = (n : Int) - 1 then (k : Int) else (k : Int) - 1) < 0 then none else some (if (k : Int) = (n : Int) - 1 then (k : Int) else (k : Int) - 1)) = _
  rw [if_neg (show ¬ (k : Int) = (n : Int) - 1 by omega)]
  by_cases h : k = 0
  · rw [if_pos h, if_pos (by omega)]
  · rw [if_neg h, if_neg (by omega)]
/-- the marks behind touches are the count -/
theorem led_count (h1 : 1 ≤ n) (ts : List Bool) : ledF (stkL n) ts = cres n (cst n ts) ∧ ∀ i, cst n ts = some (i, false) → 1 ≤ i ∧ i < n := by
  have key : ∀ (us : List Bool) (o : Option (Int × Bool)), (∀ i, o = some (i, false) → 1 ≤ i ∧ i < n) → us.foldl (stepO (stkL n)) (cres n o) = cres n (us.foldl (cstep n) o) ∧ ∀ i, us.foldl (cstep n) o = some (i, false) → 1 ≤ i ∧ i < n := by
    intro us
    induction us with
    | nil => intro o h; exact ⟨rfl, h⟩
    | cons u us ih =>
      intro o h
      have hs : stepO (stkL n) (cres n o) u = cres n (cstep n o u) ∧ ∀ i, cstep n o u = some (i, false) → 1 ≤ i ∧ i < n := by
        cases o with
        | none => exact ⟨rfl, fun i e => by cases e⟩
        | some p =>
          obtain ⟨i, s⟩ := p
          have at_ : ∀ k : Nat, k < n → (stkL n)[k]? = some (stkM n k) := fun k hk => by
            unfold stkL; rw [List.getElem?_map, List.getElem?_range hk]; rfl
          cases s with
          | true =>
            have e1 : cres n (some (i, true)) = some ((n : Int) - 1) := rfl
            have e2 : ((n : Int) - 1).toNat = n - 1 := by omega
            have e3 : cstep n (some (i, true)) u = some (i + (if u = true then 1 else -1), true) := if_neg (by simp)
            rw [e1, e3]
            refine ⟨?_, fun i e => by cases e⟩
            simp only [stepO, e2]
            rw [at_ (n - 1) (by omega)]
            simp only [stepM]
            rw [stk_last (show n - 1 + 1 = n by omega), stk_a (show n - 1 < n by omega), if_neg (show ¬ n - 1 + 1 < n by omega)]
            have e4 : ((n - 1 : Nat) : Int) = (n : Int) - 1 := by omega
            rw [e4]
            cases u <;> rfl
          | false =>
            obtain ⟨h2, h3⟩ := h i rfl
            have e1 : cres n (some (i, false)) = some (i - 1) := rfl
            obtain ⟨j, rfl⟩ := Int.eq_ofNat_of_zero_le (show 0 ≤ i by omega)
            have e2 : ((j : Int) - 1).toNat = j - 1 := by omega
            have e4 : ((j - 1 : Nat) : Int) = (j : Int) - 1 := by omega
            rw [e1]
            simp only [stepO, e2]
            rw [at_ (j - 1) (by omega)]
            simp only [stepM]
            rw [stk_less (show j - 1 + 1 < n by omega), stk_a (show j - 1 < n by omega), if_pos (show j - 1 + 1 < n by omega), e4]
            cases u
            · have e5 : ¬ ((n : Int) ≤ (j : Int) + -1) := by omega
              by_cases hj : j = 1
              · subst hj
                have e6 : cstep n (some (((1 : Nat) : Int), false)) false = none := if_pos ⟨rfl, by simp; omega⟩
                rw [e6]
                exact ⟨rfl, fun i e => by cases e⟩
              · have e6 : cstep n (some ((j : Int), false)) false = some ((j : Int) + -1, decide ((n : Int) ≤ (j : Int) + -1)) := if_neg (by simp; omega)
                rw [e6, decide_eq_false e5]
                refine ⟨?_, fun i e => ?_⟩
                · show (if j - 1 = 0 then none else some ((j : Int) - 1 - 1)) = some ((j : Int) + -1 - 1)
                  rw [if_neg (by omega)]
                  congr 1
                · cases e; omega
            · have e6 : cstep n (some ((j : Int), false)) true = some ((j : Int) + 1, decide ((n : Int) ≤ (j : Int) + 1)) := by
                show (if (j : Int) + 1 = 0 ∧ decide ((n : Int) ≤ (j : Int) + 1) = false then none else some ((j : Int) + 1, decide ((n : Int) ≤ (j : Int) + 1))) = _
                exact if_neg (by omega)
              rw [e6]
              by_cases hj : (n : Int) ≤ (j : Int) + 1
              · rw [decide_eq_true hj]
                refine ⟨?_, fun i e => by cases e⟩
                show some ((j : Int) - 1 + 1) = some ((n : Int) - 1)
                congr 1
                omega
              · rw [decide_eq_false hj]
                refine ⟨?_, fun i e => ?_⟩
                · show some ((j : Int) - 1 + 1) = some ((j : Int) + 1 - 1)
                  congr 1
                  omega
                · cases e; omega
      obtain ⟨q1, q2⟩ := hs
      rw [List.foldl_cons, List.foldl_cons, q1]
      exact ih _ q2
  have := key ts (some (1, decide ((n : Int) = 1))) (fun i e => by
    simp only [Option.some.injEq, Prod.mk.injEq, decide_eq_false_iff_not] at e
    omega)
  have e0 : cres n (some (1, decide ((n : Int) = 1))) = some 0 := by
    by_cases h : (n : Int) = 1
    · rw [decide_eq_true h]; show some ((n : Int) - 1) = _; congr 1; omega
    · rw [decide_eq_false h]; rfl
  rw [e0] at this
  exact this
end
end K32
set_option maxHeartbeats 2000000
namespace K32
open PySem PySem.Spec PyProof.Rows L2 DL
local macro_rules | `(tactic| walk_at "isi") => `(tactic| first
  | (with_reducible refine is_non_int ?_) | (with_reducible refine is_non_bool ?_) | (with_reducible refine is_non_str ?_) | (with_reducible refine is_non_tuple ?_) | (with_reducible refine is_non_list ?_) | (with_reducible refine is_non_dict ?_) | (with_reducible refine is2_non_list_tuple ?_) | (with_reducible refine isC_non ?_) | (with_reducible refine is_bl_int ?_) | (with_reducible refine is_bl_bool ?_) | (with_reducible refine is_bl_str ?_) | (with_reducible refine is_bl_tuple ?_) | (with_reducible refine is_bl_list ?_) | (with_reducible refine is_bl_dict ?_) | (with_reducible refine is2_bl_list_tuple ?_) | (with_reducible refine isC_bl ?_) | (with_reducible refine is_int_int ?_) | (with_reducible refine is_int_bool ?_) | (with_reducible refine is_int_str ?_) | (with_reducible refine is_int_tuple ?_) | (with_reducible refine is_int_list ?_) | (with_reducible refine is_int_dict ?_) | (with_reducible refine is2_int_list_tuple ?_) | (with_reducible refine isC_int ?_) | (with_reducible refine is_str_int ?_) | (with_reducible refine is_str_bool ?_) | (with_reducible refine is_str_str ?_) | (with_reducible refine is_str_tuple ?_) | (with_reducible refine is_str_list ?_) | (with_reducible refine is_str_dict ?_) | (with_reducible refine is2_str_list_tuple ?_) | (with_reducible refine isC_str ?_) | (with_reducible refine is_tup_int ?_) | (with_reducible refine is_tup_bool ?_) | (with_reducible refine is_tup_str ?_) | (with_reducible refine is_tup_tuple ?_) | (with_reducible refine is_tup_list ?_) | (with_reducible refine is_tup_dict ?_) | (with_reducible refine is2_tup_list_tuple ?_) | (with_reducible refine isC_tup ?_) | (with_reducible refine is_lst_int ?_) | (with_reducible refine is_lst_bool ?_) | (with_reducible refine is_lst_str ?_) | (with_reducible refine is_lst_tuple ?_) | (with_reducible refine is_lst_list ?_) | (with_reducible refine is_lst_dict ?_) | (with_reducible refine is2_lst_list_tuple ?_) | (with_reducible refine isC_lst ?_) | (with_reducible refine is_fro_int ?_) | (with_reducible refine is_fro_bool ?_) | (with_reducible refine is_fro_str ?_) | (with_reducible refine is_fro_tuple ?_) | (with_reducible refine is_fro_list ?_) | (with_reducible refine is_fro_dict ?_) | (with_reducible refine is2_fro_list_tuple ?_) | (with_reducible refine isC_fro ?_) | (with_reducible refine is_dct_int ?_) | (with_reducible refine is_dct_bool ?_) | (with_reducible refine is_dct_str ?_) | (with_reducible refine is_dct_tuple ?_) | (with_reducible refine is_dct_list ?_) | (with_reducible refine is_dct_dict ?_) | (with_reducible refine is2_dct_list_tuple ?_) | (with_reducible refine isC_dct ?_) | (with_reducible refine isC_own ?_)
  | (with_reducible refine is2_ins (by simp) ?_) | (with_reducible refine is_ins_int (by simp) ?_) | (with_reducible refine is_ins_bool (by simp) ?_) | (with_reducible refine is_ins_str (by simp) ?_) | (with_reducible refine is_ins_tuple (by simp) ?_) | (with_reducible refine is_ins_list (by simp) ?_) | (with_reducible refine is_ins_dict (by simp) ?_) | fail "isi")
local macro_rules | `(tactic| walk_at "tk") => `(tactic| first | exact List.take_length | exact take_cons | exact take_consA | exact mem_take | exact take_len | fail "tk")
local macro_rules | `(tactic| walk_at "al") => `(tactic| first | exact allDat_mapf _ _ | exact allDat_map _ | (repeat (first | exact al_nil | apply al_cons)))
local macro_rules | `(tactic| walk_at "set") => `(tactic| (simp only [List.set_cons_succ, List.set_cons_zero]; exact rfl))
local macro_rules | `(tactic| walk_at "sxS") => `(tactic| first | (with_reducible refine set_now (by walk_at "set") ?_) | (with_reducible refine s_seq ?_) | (with_reducible refine s_asg ?_) | (with_reducible refine s_ret ?_) | (with_reducible refine s_if ?_) | (with_reducible refine s_drop ?_) | (with_reducible refine s_next ?_) | (with_reducible refine s_new ?_) | (with_reducible refine s_for ?_) | (with_reducible refine s_tgt ?_) | (with_reducible refine s_par ?_) | (with_reducible refine s_disp ?_) | (with_reducible refine s_wh ?_) | (with_reducible refine s_fld ?_) | (with_reducible refine s_set ?_) | (with_reducible refine s_aug rfl ?_) | (with_reducible refine s_par2 ?_) | (with_reducible refine r_dat ?_) | (with_reducible refine r_loc ?_) | fail "sxS")
local macro_rules | `(tactic| walk_at "sxV") => `(tactic| first | (with_reducible refine v_var rfl ?_) | (with_reducible refine v_D ?_) | (with_reducible refine x_fz ?_) | fail "sxV")
local macro_rules | `(tactic| walk_at "sxA") => `(tactic| first | (with_reducible refine a_consK ?_) | (with_reducible refine a_nilK ?_) | (with_reducible refine n_consK ?_) | (with_reducible refine n_nilK ?_) | fail "sxA")
local macro_rules | `(tactic| walk_at "sxT") => `(tactic| first | (with_reducible refine t_B ?_) | (with_reducible refine t_not ?_) | (with_reducible refine t_and ?_) | (with_reducible refine t_or ?_) | (with_reducible refine t_yes ?_) | fail "sxT")
local macro_rules | `(tactic| walk_at "sxO") => `(tactic| first | (with_reducible refine o_noneK ?_) | (with_reducible refine o_someK ?_) | fail "sxO")
local macro_rules | `(tactic| walk_at "sxI") => `(tactic| first | (with_reducible refine i_seq ?_) | (with_reducible refine i_enum ?_) | (with_reducible refine i_rng ?_) | (with_reducible refine i_rng2 ?_) | fail "sxI")
local macro_rules | `(tactic| walk_at "sxF") => `(tactic| first | (with_reducible refine z_dat ?_) | (with_reducible refine z_loc ?_) | (with_reducible refine z_ofD ?_) | (with_reducible refine z_nlm ?_) | (with_reducible refine z_nlf ?_) | (with_reducible refine z_nlc ?_) | (with_reducible refine z_nl (by walk_at "al") ?_) | fail "sxF")
local macro_rules | `(tactic| walk_at "sxC") => `(tactic| first | (with_reducible refine if_T ?_) | (with_reducible refine if_F ?_) | (with_reducible refine if_bT (by with_unfolding_all exact rfl) ?_) | (with_reducible refine if_bF (by with_unfolding_all exact rfl) ?_) | fail "sxC")
local macro_rules | `(tactic| walk_at "sxD") => `(tactic| first | (with_reducible refine l_addI ?_) | (with_reducible refine l_sub ?_) | (with_reducible refine l_neg ?_) | (with_reducible refine l_eqI ?_) | (with_reducible refine l_neI ?_) | (with_reducible refine l_eqS ?_) | (with_reducible refine l_neS ?_) | (with_reducible refine l_lt ?_) | (with_reducible refine l_le ?_) | (with_reducible refine l_gt ?_) | (with_reducible refine l_ge ?_) | (with_reducible refine l_ixT rfl ?_) | (with_reducible refine l_ixL rfl ?_) | (with_reducible refine l_slT ?_) | (with_reducible refine l_slL ?_) | (with_reducible refine l_lenT ?_) | (with_reducible refine l_lenL ?_) | (with_reducible refine l_int ?_) | (with_reducible refine l_intB ?_) | (with_reducible refine l_listT ?_) | (with_reducible refine l_listL ?_) | (with_reducible refine l_tupL ?_) | (with_reducible refine l_tupT ?_) | (with_reducible refine l_inT ?_) | (with_reducible refine l_ninT ?_) | (with_reducible refine l_inL ?_) | (with_reducible refine l_ninL ?_) | (with_reducible refine l_mm ?_) | (walk_at "isi") | fail "sxD")
local macro_rules | `(tactic| walk_at "sxR") => `(tactic| first | (with_reducible refine x_op ?_) | (with_reducible refine x_cb ?_) | (with_reducible refine x_varD rfl ?_) | (with_reducible refine x_varL rfl ?_) | (with_reducible refine x_D ?_) | (with_reducible refine x_if ?_) | (with_reducible refine x_tup ?_) | (with_reducible refine x_lst ?_) | (with_reducible refine x_bm ?_) | (with_reducible refine x_bm0 ?_) | (with_reducible refine x_sl ?_) | (with_reducible refine x_and ?_) | (with_reducible refine x_or ?_) | (with_reducible refine x_not ?_) | (with_reducible refine x_un ?_) | (with_reducible refine x_isN ?_) | (with_reducible refine x_notN ?_) | (with_reducible refine x_chain ?_) | (with_reducible refine x_inK ?_) | (with_reducible refine x_lc ?_) | (with_reducible refine x_fldK ?_) | (with_reducible refine x_meth ?_) | (with_reducible refine x_make ?_) | (with_reducible refine x_lenO ?_) | (with_reducible refine x_eqO ?_) | (with_reducible refine x_inO ?_) | (walk_at "sxD") | fail "sxR")
local macro_rules | `(tactic| walk_at "sxE") => `(tactic| first | (with_reducible refine e_dat (by walk_at "tk") ?_) | (with_reducible refine e_ofD (by walk_at "tk") ?_) | (with_reducible refine e_nlf (by walk_at "tk") ?_) | (with_reducible refine e_nlm (by walk_at "tk") ?_) | (with_reducible refine e_nl (by walk_at "tk") (by with_unfolding_all exact rfl) ?_) | fail "sxE")
local macro_rules | `(tactic| walk_at "sxX") => `(tactic| first | (with_reducible refine b_bl ?_) | (with_reducible refine b_ofD ?_) | (with_reducible refine p_dat ?_) | (with_reducible refine p_loc ?_) | (with_reducible refine ik ?_) | (with_reducible refine stk ?_) | (with_reducible refine sk_l ?_) | (with_reducible refine sk_t ?_) | (with_reducible refine sk_f ?_) | (with_reducible refine pk ?_) | (with_reducible refine gk rfl ?_) | (with_reducible refine tk (by walk_at "al") (sz_lit rfl) ?_) | (with_reducible refine fk1 (by simp) ?_) | (with_reducible refine e_nx (by walk_at "tk") ?_) | (with_reducible refine And.intro (sz_lit rfl) ?_) | (with_reducible refine And.intro ty_l ?_) | (with_reducible refine And.intro ty_s ?_) | (with_reducible refine And.intro (isI_one (by decide)) ?_) | (with_reducible refine And.intro (tyL_loc mem_here) ?_) | fail "sxX")
local macro_rules | `(tactic| walk_at "sx1") => `(tactic| first | (with_reducible refine gS ?_; walk_at "sxS") | (with_reducible refine gV ?_; walk_at "sxV") | (with_reducible refine gR ?_; walk_at "sxR") | (with_reducible refine gA ?_; walk_at "sxA") | (with_reducible refine gT ?_; walk_at "sxT") | (with_reducible refine gF ?_; walk_at "sxF") | (with_reducible refine gC ?_; walk_at "sxC") | (with_reducible refine gRt ?_; walk_at "sxE") | (with_reducible refine gO ?_; walk_at "sxO") | (with_reducible refine gI ?_; walk_at "sxI") | (walk_at "sxX") | fail "sx")
local macro_rules | `(tactic| walk_at "sx") => `(tactic| repeat' (walk_at "sx1"))
local macro_rules | `(tactic| walk_at "sxs") => `(tactic| repeat' (first | (walk_at "sx1") | (with_reducible refine if_dec (fun _ => ?_) (fun _ => ?_)) | (with_reducible refine if_ndec (fun _ => ?_) (fun _ => ?_)) | fail "sxs"))
section
variable {QR : R → Mem → Prop} {E : Xc → Mem → Prop} {μ ν : Mem} {B : Bg} {ms : List Mk} {b : Bool} {k n : Nat}
theorem bag_s {ns : List Int} (h : QR (.nl [.dat (.int (bag0 ns).a), .dat (.int (bag0 ns).b), .dat (.int (bag0 ns).c), .dat (.lst ((bag0 ns).cs.map D.int))]) μ) : Sat (F__law_bag [.dat (.fro (ns.map D.int))] μ) QR E := by
  rw [e__law_bag, bag_spec]; exact h
theorem take_s {m : Int} (hB : B.ok) (hm : 0 < m) (hm' : m < 1073741824) (h : ∀ (r : Nat) (B' : Bg), B'.ok → (r : Int) < m → QR (.dat (.int r)) (B'.pl :: ν)) : Sat (F__law_take [.loc 0, .dat (.int m)] (B.pl :: ν)) QR E := by
  rw [e__law_take]; exact d_take hB hm hm' h
theorem alike_s {k w : Nat} {d : D} {x y : DV} (hx : peek μ x = some d) (hy : peek μ y = some d) (h : FitD k w d) (hk : k ≤ 64) (hw : w ≤ 2 ^ 20) (q : QR (.dat (.bl true)) μ) : Sat (F__law_alike [x, y] μ) QR E := by
  rw [e__law_alike]; exact alike_same hx hy h hk hw q
theorem fit_res (h1 : 1 ≤ n) (h6 : n ≤ 6) (ts : List Bool) : FitD 0 40 (optD (ledF (stkL n) ts)) := fit_opt fun i hi => by
  have := led_in (stk_ok h1 h6) ts i hi
  rw [show (stkL n).length = n by simp [stkL]] at this
  omega
variable {P : PO} {N : Nat}
theorem three {r : Nat} (h : (r : Int) < 3) : r = 0 ∨ r = 1 ∨ r = 2 := by omega
/-- one more touch is drawn -/
theorem turn1 {s : DV} {c : D} {ts : List Bool} {x7 : Option DV} {a2 a4 a6 : D} (hB : B.ok) (hts : ts.length < 1000)
    (hn : ∀ (B' : Bg) (t : Bool) (x8 : Option DV), B'.ok → P.nx [some s, some (.loc 0), some (.dat a2), some (.dat c), some (.dat a4), some (.loc 1), some (.dat a6), x7, x8, none] [B'.pl, .lst ((ts ++ [t]).map fun b => .dat (tD b))]) :
    SatS (b_law_1 N [some s, some (.loc 0), some (.dat a2), some (.dat c), some (.dat a4), some (.loc 1), some (.dat a6), x7, none, none] [B.pl, .lst (ts.map fun b => .dat (tD b))]) P := by
  unfold b_law_1
  walk_at "sx"
  refine take_s hB (by decide) (by decide) fun r B1 hB1 hr => ?_
  have hl : (ts.map fun b => DV.dat (tD b)).length < sizeLine := by rw [List.length_map]; exact Nat.lt_of_lt_of_le hts (by decide)
  rcases three hr with rfl | rfl | rfl
  · walk_at "sx"
    refine And.intro (tyL_loc rfl) ?_
    walk_at "sx"
    refine l_app rfl hl rfl ?_
    have := hn B1 true (some (.dat (.str "more"))) hB1
    rw [List.map_append] at this
    exact this
  · walk_at "sx"
    refine And.intro (tyL_loc rfl) ?_
    walk_at "sx"
    refine l_app rfl hl rfl ?_
    have := hn B1 false (some (.dat (.str "less"))) hB1
    rw [List.map_append] at this
    exact this
  · walk_at "sx"
    refine And.intro (tyL_loc rfl) ?_
    walk_at "sx"
    refine l_app rfl hl rfl ?_
    have := hn B1 false (some (.dat (.str "less"))) hB1
    rw [List.map_append] at this
    exact this
theorem rep_map {a : Nat} {d : D} : (List.replicate a [DV.dat d]).flatten = (List.replicate a d).map DV.dat := by rw [List.flatten_replicate_singleton, List.map_replicate]
theorem ups (a b : Nat) : List.replicate a (D.str "more") ++ List.replicate b (D.str "less") = (List.replicate a true ++ List.replicate b false).map tD := by
  rw [List.map_append, List.map_replicate, List.map_replicate]; rfl
theorem led_cnt (h1 : 1 ≤ n) (ts : List Bool) : cres n (cst n ts) = ledF (stkL n) ts := (led_count h1 ts).1.symm
/-- one turn of six -/
theorem turn2 {s d4 : D} (h1 : 1 ≤ n) (h6 : n ≤ 6) (hB : B.ok)
    (hn : ∀ (B' : Bg) (x5 x6 x7 x8 x9 : Option DV), B'.ok → P.nx [some (.dat s), some (.loc 0), some (.dat (.int n)), some (.dat (ctrD (stkL n))), some (.dat d4), x5, x6, x7, x8, x9] [B'.pl, .gone]) :
    SatS (b_law_2 0 [some (.dat s), some (.loc 0), some (.dat (.int n)), some (.dat (ctrD (stkL n))), some (.dat d4), none, none, none, none, none] [B.pl]) P := by
  have hms := stk_ok h1 h6
  unfold b_law_2
  walk_at "sx"
  refine ⟨_, _, rfl, ?_⟩
  walk_at "sx"
  refine take_s hB (by decide) (by decide) fun r B1 hB1 hr => ?_
  walk_at "sx"
  refine And.intro ⟨by omega, by omega⟩ ?_
  with_reducible refine for_inv (fun k δ μ' => ∃ (B : Bg) (ts : List Bool), B.ok ∧ ts.length = k ∧ δ = [some (.dat s), some (.loc 0), some (.dat (.int n)), some (.dat (ctrD (stkL n))), some (.dat d4), some (.loc 1), some (.dat (.int 1)), none, none, none] ∧ μ' = [B.pl, .lst (ts.map fun b => .dat (tD b))]) ⟨B1, [], hB1, rfl, rfl, rfl⟩ (fun k d hd δ μ' hI => ?_) fun δ μ' hI => ?_
  · obtain ⟨B2, ts, hB2, hl, rfl, rfl⟩ := hI
    rw [Int.toNat_natCast] at hd
    obtain ⟨hk, rfl⟩ := range_at hd
    refine ⟨_, rfl, turn1 hB2 (by omega) fun B3 t x8 hB3 => ?_⟩
    exact ⟨B3, ts ++ [t], hB3, by simp [hl], rfl, rfl⟩
  · obtain ⟨B2, ts, hB2, hl, rfl, rfl⟩ := hI
    walk_at "sx"
    with_reducible refine s_frz (n := 1) rfl (Nat.zero_le _) rfl rfl rfl (allDat_mapf _ _) ?_
    walk_at "sx"
    refine led_spec hms ?_
    walk_at "sx"
    refine count_spec ?_
    walk_at "sx"
    rw [led_cnt h1]
    refine alike_s pk_dat pk_dat (fit_res h1 h6 ts) (by decide) (by decide) ?_
    walk_at "sx"
    refine take_s (ν := [.gone]) hB2 (by decide) (by decide) fun a B3 hB3 ha => ?_
    walk_at "sx"
    with_reducible refine l_rep (xs := [.dat (.str "more")]) (by with_unfolding_all exact rfl) (by with_unfolding_all exact rfl) ⟨by omega, by omega, sz_lit' (by simp; omega)⟩ ?_
    rw [Int.toNat_natCast, rep_map]
    walk_at "sx"
    refine take_s (ν := [.gone]) hB3 (by decide) (by decide) fun b B4 hB4 hb => ?_
    walk_at "sx"
    with_reducible refine l_rep (xs := [.dat (.str "less")]) (by with_unfolding_all exact rfl) (by with_unfolding_all exact rfl) ⟨by omega, by omega, sz_lit' (by simp; omega)⟩ ?_
    rw [Int.toNat_natCast, rep_map]
    walk_at "sx"
    with_reducible refine l_addL (sz_lit' (by simp; omega)) ?_
    rw [ups]
    walk_at "sx"
    refine led_spec hms ?_
    walk_at "sx"
    refine led_spec hms ?_
    walk_at "sx"
    refine count_spec ?_
    walk_at "sx"
    rw [led_cnt h1]
    with_reducible refine l_rep (xs := [.dat (optD (ledF (stkL n) (List.replicate a true ++ List.replicate b false)))]) (by with_unfolding_all exact rfl) (by with_unfolding_all exact rfl) ⟨by decide, by decide, sz_lit' (by simp)⟩ ?_
    walk_at "sx"
    refine alike_s (d := .lst [optD (ledF (stkL n) _), optD (ledF (stkL n) _)]) pk_dat pk_dat (fd_lst (k := 0) (w := 40) (n := 2) (fun d hd => ?_) (by simp)) (by decide) (by decide) ?_
    · simp only [List.mem_cons, List.not_mem_nil, or_false, or_self] at hd
      subst hd; exact fit_res h1 h6 _
    · walk_at "sx"
      exact hn B4 _ _ _ _ _ hB4
end
end K32
set_option maxHeartbeats 2000000
namespace K32
open PySem PySem.Spec PyProof.Rows L2 DL
local macro_rules | `(tactic| walk_at "isi") => `(tactic| first
  | (with_reducible refine is_non_int ?_) | (with_reducible refine is_non_bool ?_) | (with_reducible refine is_non_str ?_) | (with_reducible refine is_non_tuple ?_) | (with_reducible refine is_non_list ?_) | (with_reducible refine is_non_dict ?_) | (with_reducible refine is2_non_list_tuple ?_) | (with_reducible refine isC_non ?_) | (with_reducible refine is_bl_int ?_) | (with_reducible refine is_bl_bool ?_) | (with_reducible refine is_bl_str ?_) | (with_reducible refine is_bl_tuple ?_) | (with_reducible refine is_bl_list ?_) | (with_reducible refine is_bl_dict ?_) | (with_reducible refine is2_bl_list_tuple ?_) | (with_reducible refine isC_bl ?_) | (with_reducible refine is_int_int ?_) | (with_reducible refine is_int_bool ?_) | (with_reducible refine is_int_str ?_) | (with_reducible refine is_int_tuple ?_) | (with_reducible refine is_int_list ?_) | (with_reducible refine is_int_dict ?_) | (with_reducible refine is2_int_list_tuple ?_) | (with_reducible refine isC_int ?_) | (with_reducible refine is_str_int ?_) | (with_reducible refine is_str_bool ?_) | (with_reducible refine is_str_str ?_) | (with_reducible refine is_str_tuple ?_) | (with_reducible refine is_str_list ?_) | (with_reducible refine is_str_dict ?_) | (with_reducible refine is2_str_list_tuple ?_) | (with_reducible refine isC_str ?_) | (with_reducible refine is_tup_int ?_) | (with_reducible refine is_tup_bool ?_) | (with_reducible refine is_tup_str ?_) | (with_reducible refine is_tup_tuple ?_) | (with_reducible refine is_tup_list ?_) | (with_reducible refine is_tup_dict ?_) | (with_reducible refine is2_tup_list_tuple ?_) | (with_reducible refine isC_tup ?_) | (with_reducible refine is_lst_int ?_) | (with_reducible refine is_lst_bool ?_) | (with_reducible refine is_lst_str ?_) | (with_reducible refine is_lst_tuple ?_) | (with_reducible refine is_lst_list ?_) | (with_reducible refine is_lst_dict ?_) | (with_reducible refine is2_lst_list_tuple ?_) | (with_reducible refine isC_lst ?_) | (with_reducible refine is_fro_int ?_) | (with_reducible refine is_fro_bool ?_) | (with_reducible refine is_fro_str ?_) | (with_reducible refine is_fro_tuple ?_) | (with_reducible refine is_fro_list ?_) | (with_reducible refine is_fro_dict ?_) | (with_reducible refine is2_fro_list_tuple ?_) | (with_reducible refine isC_fro ?_) | (with_reducible refine is_dct_int ?_) | (with_reducible refine is_dct_bool ?_) | (with_reducible refine is_dct_str ?_) | (with_reducible refine is_dct_tuple ?_) | (with_reducible refine is_dct_list ?_) | (with_reducible refine is_dct_dict ?_) | (with_reducible refine is2_dct_list_tuple ?_) | (with_reducible refine isC_dct ?_) | (with_reducible refine isC_own ?_)
  | (with_reducible refine is2_ins (by simp) ?_) | (with_reducible refine is_ins_int (by simp) ?_) | (with_reducible refine is_ins_bool (by simp) ?_) | (with_reducible refine is_ins_str (by simp) ?_) | (with_reducible refine is_ins_tuple (by simp) ?_) | (with_reducible refine is_ins_list (by simp) ?_) | (with_reducible refine is_ins_dict (by simp) ?_) | fail "isi")
local macro_rules | `(tactic| walk_at "tk") => `(tactic| first | exact List.take_length | exact take_cons | exact take_consA | exact mem_take | exact take_len | fail "tk")
local macro_rules | `(tactic| walk_at "al") => `(tactic| first | exact allDat_mapf _ _ | exact allDat_map _ | (repeat (first | exact al_nil | apply al_cons)))
local macro_rules | `(tactic| walk_at "set") => `(tactic| (simp only [List.set_cons_succ, List.set_cons_zero]; exact rfl))
local macro_rules | `(tactic| walk_at "sxS") => `(tactic| first | (with_reducible refine set_now (by walk_at "set") ?_) | (with_reducible refine s_seq ?_) | (with_reducible refine s_asg ?_) | (with_reducible refine s_ret ?_) | (with_reducible refine s_if ?_) | (with_reducible refine s_drop ?_) | (with_reducible refine s_next ?_) | (with_reducible refine s_new ?_) | (with_reducible refine s_for ?_) | (with_reducible refine s_tgt ?_) | (with_reducible refine s_par ?_) | (with_reducible refine s_disp ?_) | (with_reducible refine s_wh ?_) | (with_reducible refine s_fld ?_) | (with_reducible refine s_set ?_) | (with_reducible refine s_aug rfl ?_) | (with_reducible refine s_par2 ?_) | (with_reducible refine r_dat ?_) | (with_reducible refine r_loc ?_) | fail "sxS")
local macro_rules | `(tactic| walk_at "sxV") => `(tactic| first | (with_reducible refine v_var rfl ?_) | (with_reducible refine v_D ?_) | (with_reducible refine x_fz ?_) | fail "sxV")
local macro_rules | `(tactic| walk_at "sxA") => `(tactic| first | (with_reducible refine a_consK ?_) | (with_reducible refine a_nilK ?_) | (with_reducible refine n_consK ?_) | (with_reducible refine n_nilK ?_) | fail "sxA")
local macro_rules | `(tactic| walk_at "sxT") => `(tactic| first | (with_reducible refine t_B ?_) | (with_reducible refine t_not ?_) | (with_reducible refine t_and ?_) | (with_reducible refine t_or ?_) | (with_reducible refine t_yes ?_) | fail "sxT")
local macro_rules | `(tactic| walk_at "sxO") => `(tactic| first | (with_reducible refine o_noneK ?_) | (with_reducible refine o_someK ?_) | fail "sxO")
local macro_rules | `(tactic| walk_at "sxI") => `(tactic| first | (with_reducible refine i_seq ?_) | (with_reducible refine i_enum ?_) | (with_reducible refine i_rng ?_) | (with_reducible refine i_rng2 ?_) | fail "sxI")
local macro_rules | `(tactic| walk_at "sxF") => `(tactic| first | (with_reducible refine z_dat ?_) | (with_reducible refine z_loc ?_) | (with_reducible refine z_ofD ?_) | (with_reducible refine z_nlm ?_) | (with_reducible refine z_nlf ?_) | (with_reducible refine z_nlc ?_) | (with_reducible refine z_nl (by walk_at "al") ?_) | fail "sxF")
local macro_rules | `(tactic| walk_at "sxC") => `(tactic| first | (with_reducible refine if_T ?_) | (with_reducible refine if_F ?_) | (with_reducible refine if_bT (by with_unfolding_all exact rfl) ?_) | (with_reducible refine if_bF (by with_unfolding_all exact rfl) ?_) | fail "sxC")
local macro_rules | `(tactic| walk_at "sxD") => `(tactic| first | (with_reducible refine l_addI ?_) | (with_reducible refine l_sub ?_) | (with_reducible refine l_neg ?_) | (with_reducible refine l_eqI ?_) | (with_reducible refine l_neI ?_) | (with_reducible refine l_eqS ?_) | (with_reducible refine l_neS ?_) | (with_reducible refine l_lt ?_) | (with_reducible refine l_le ?_) | (with_reducible refine l_gt ?_) | (with_reducible refine l_ge ?_) | (with_reducible refine l_ixT rfl ?_) | (with_reducible refine l_ixL rfl ?_) | (with_reducible refine l_slT ?_) | (with_reducible refine l_slL ?_) | (with_reducible refine l_lenT ?_) | (with_reducible refine l_lenL ?_) | (with_reducible refine l_int ?_) | (with_reducible refine l_intB ?_) | (with_reducible refine l_listT ?_) | (with_reducible refine l_listL ?_) | (with_reducible refine l_tupL ?_) | (with_reducible refine l_tupT ?_) | (with_reducible refine l_inT ?_) | (with_reducible refine l_ninT ?_) | (with_reducible refine l_inL ?_) | (with_reducible refine l_ninL ?_) | (with_reducible refine l_mm ?_) | (walk_at "isi") | fail "sxD")
local macro_rules | `(tactic| walk_at "sxR") => `(tactic| first | (with_reducible refine x_op ?_) | (with_reducible refine x_cb ?_) | (with_reducible refine x_varD rfl ?_) | (with_reducible refine x_varL rfl ?_) | (with_reducible refine x_D ?_) | (with_reducible refine x_if ?_) | (with_reducible refine x_tup ?_) | (with_reducible refine x_lst ?_) | (with_reducible refine x_bm ?_) | (with_reducible refine x_bm0 ?_) | (with_reducible refine x_sl ?_) | (with_reducible refine x_and ?_) | (with_reducible refine x_or ?_) | (with_reducible refine x_not ?_) | (with_reducible refine x_un ?_) | (with_reducible refine x_isN ?_) | (with_reducible refine x_notN ?_) | (with_reducible refine x_chain ?_) | (with_reducible refine x_inK ?_) | (with_reducible refine x_lc ?_) | (with_reducible refine x_fldK ?_) | (with_reducible refine x_meth ?_) | (with_reducible refine x_make ?_) | (with_reducible refine x_lenO ?_) | (with_reducible refine x_eqO ?_) | (with_reducible refine x_inO ?_) | (walk_at "sxD") | fail "sxR")
local macro_rules | `(tactic| walk_at "sxE") => `(tactic| first | (with_reducible refine e_dat (by walk_at "tk") ?_) | (with_reducible refine e_ofD (by walk_at "tk") ?_) | (with_reducible refine e_nlf (by walk_at "tk") ?_) | (with_reducible refine e_nlm (by walk_at "tk") ?_) | (with_reducible refine e_nl (by walk_at "tk") (by with_unfolding_all exact rfl) ?_) | fail "sxE")
local macro_rules | `(tactic| walk_at "sxX") => `(tactic| first | (with_reducible refine b_bl ?_) | (with_reducible refine b_ofD ?_) | (with_reducible refine p_dat ?_) | (with_reducible refine p_loc ?_) | (with_reducible refine ik ?_) | (with_reducible refine stk ?_) | (with_reducible refine sk_l ?_) | (with_reducible refine sk_t ?_) | (with_reducible refine sk_f ?_) | (with_reducible refine pk ?_) | (with_reducible refine gk rfl ?_) | (with_reducible refine tk (by walk_at "al") (sz_lit rfl) ?_) | (with_reducible refine fk1 (by simp) ?_) | (with_reducible refine e_nx (by walk_at "tk") ?_) | (with_reducible refine And.intro (sz_lit rfl) ?_) | (with_reducible refine And.intro ty_l ?_) | (with_reducible refine And.intro ty_s ?_) | (with_reducible refine And.intro (isI_one (by decide)) ?_) | (with_reducible refine And.intro (tyL_loc mem_here) ?_) | fail "sxX")
local macro_rules | `(tactic| walk_at "sx1") => `(tactic| first | (with_reducible refine gS ?_; walk_at "sxS") | (with_reducible refine gV ?_; walk_at "sxV") | (with_reducible refine gR ?_; walk_at "sxR") | (with_reducible refine gA ?_; walk_at "sxA") | (with_reducible refine gT ?_; walk_at "sxT") | (with_reducible refine gF ?_; walk_at "sxF") | (with_reducible refine gC ?_; walk_at "sxC") | (with_reducible refine gRt ?_; walk_at "sxE") | (with_reducible refine gO ?_; walk_at "sxO") | (with_reducible refine gI ?_; walk_at "sxI") | (walk_at "sxX") | fail "sx")
local macro_rules | `(tactic| walk_at "sx") => `(tactic| repeat' (walk_at "sx1"))
local macro_rules | `(tactic| walk_at "sxs") => `(tactic| repeat' (first | (walk_at "sx1") | (with_reducible refine if_dec (fun _ => ?_) (fun _ => ?_)) | (with_reducible refine if_ndec (fun _ => ?_) (fun _ => ?_)) | fail "sxs"))
section
variable {QR : R → Mem → Prop} {E : Xc → Mem → Prop} {μ ν : Mem} {B : Bg} {ms : List Mk} {b : Bool} {k n : Nat} {P : PO} {N : Nat}
theorem turn3 {s : D} (h1 : 1 ≤ n) (h6 : n ≤ 6) (hB : B.ok)
    (hn : ∀ (B' : Bg) (x2 x3 x4 x5 x6 x7 x8 x9 : Option DV), B'.ok → P.nx [some (.dat s), some (.loc 0), x2, x3, x4, x5, x6, x7, x8, x9] [B'.pl]) :
    SatS (b_law_3 0 [some (.dat s), some (.loc 0), some (.dat (.int n)), none, none, none, none, none, none, none] [B.pl]) P := by
  have hms := stk_ok h1 h6
  have el := law_stk n h1 h6
  unfold b_law_3
  walk_at "sx"
  refine sticking_spec h1 h6 ?_
  walk_at "sx"
  refine lsticking_spec h1 h6 ?_
  rw [el]
  walk_at "sx"
  refine init_spec (μ := [B.pl]) hms ?_
  walk_at "sx"
  refine And.intro ⟨isI_one (by decide), by with_unfolding_all exact rfl⟩ ?_
  refine ctr_eq hms ?_
  walk_at "sx"
  refine ctr_marks ?_
  walk_at "sx"
  refine lsticking_spec h1 h6 ?_
  rw [el]
  walk_at "sx"
  refine alike_s pk_dat pk_dat (fit_marks hms) (by decide) (by decide) ?_
  walk_at "sx"
  refine And.intro ⟨by decide, by decide⟩ ?_
  with_reducible refine for_inv (fun k δ μ' => ∃ (B : Bg), B.ok ∧ δ = [some (.dat s), some (.loc 0), some (.dat (.int n)), some (.dat (ctrD (stkL n))), none, none, none, none, none, none] ∧ μ' = [B.pl]) ⟨B, hB, rfl, rfl⟩ (fun k d hd δ μ' hI => ?_) fun δ μ' hI => ?_
  · obtain ⟨B2, hB2, rfl, rfl⟩ := hI
    refine ⟨_, rfl, turn2 h1 h6 hB2 fun B3 x5 x6 x7 x8 x9 hB3 => ?_⟩
    exact ⟨B3, hB3, rfl, rfl⟩
  · obtain ⟨B2, hB2, rfl, rfl⟩ := hI
    exact hn B2 _ _ _ _ _ _ _ _ hB2
theorem law_sat (ns : List Int) : Sat (F_law [.dat (.fro (ns.map D.int))] []) (fun r _ => r = .dat (.bl true)) (fun _ _ => False) := by
  with_reducible refine w_law ?_
  unfold g_law
  walk_at "sx"
  with_reducible refine bag_s ?_
  with_reducible refine r_nl (Nat.zero_le _) ?_
  walk_at "sx"
  refine And.intro ⟨by decide, by decide, by decide, by decide⟩ ?_
  with_reducible refine for_inv (fun k δ μ' => ∃ B : Bg, B.ok ∧ δ = [some (.dat (.fro (ns.map D.int))), some (.loc 0), none, none, none, none, none, none, none, none] ∧ μ' = [B.pl]) ⟨bag0 ns, bag0_ok ns, rfl, rfl⟩ (fun k d hd δ μ' hI => ?_) fun δ μ' hI => ?_
  · obtain ⟨B, hB, rfl, rfl⟩ := hI
    have hd : k < 6 ∧ d = .int (k + 1 : Nat) := by
      unfold rngD at hd
      rw [List.getElem?_map] at hd
      obtain ⟨j, hj, rfl⟩ := Option.map_eq_some_iff.mp hd
      obtain ⟨h1, h2⟩ := List.getElem?_eq_some_iff.mp hj
      rw [List.getElem_range] at h2
      subst h2
      exact ⟨by simpa using h1, by congr 1; omega⟩
    obtain ⟨hk, rfl⟩ := hd
    refine ⟨_, rfl, turn3 (n := k + 1) (by omega) (by omega) hB fun B3 x2 x3 x4 x5 x6 x7 x8 x9 hB3 => ?_⟩
    exact ⟨B3, hB3, rfl, rfl⟩
  · obtain ⟨B, hB, rfl, rfl⟩ := hI
    walk_at "sx"
    exact e_dat rfl rfl
theorem law_true (ns : List Int) : ∃ μ', F_law [.dat (.fro (ns.map D.int))] [] = .ok (.dat (.bl true)) μ' := by
  have h := law_sat ns
  cases e : F_law [.dat (.fro (ns.map D.int))] [] with
  | ok r μ' => rw [e] at h; exact ⟨μ', by rw [show r = .dat (.bl true) from h]⟩
  | exc x μ' => rw [e] at h; exact h.elim
  | bad => rw [e] at h; exact h.elim
end
end K32
namespace K32
open PySem PySem.Spec PyProof.Rows L2 DL
theorem all_mk {l : PySem.W.OpenLaw} {w : World} {K : PySem.W.Frag} {h : Heap} {mg : Str → Option Value} {fa : Addr} (X : K.In h) (G : h.Ns mainGlobals mg) (hfa : mg "law" = some (.ref fa))
    {f0 : Addr} {od0 an0 : Option Addr} {sl0 : Array (Option Value)} {oc0 kV0 dc0 pm0 cd0 ct0 : Value}
    {f1 : Addr} {od1 an1 : Option Addr} {sl1 : Array (Option Value)} {oc1 kV1 dc1 pm1 cd1 ct1 : Value}
    {f2 : Addr} {od2 an2 : Option Addr} {sl2 : Array (Option Value)} {oc2 kV2 dc2 pm2 cd2 ct2 : Value}
    {f3 : Addr} {od3 an3 : Option Addr} {sl3 : Array (Option Value)} {oc3 kV3 dc3 pm3 cd3 ct3 : Value}
    {f4 : Addr} {od4 an4 : Option Addr} {sl4 : Array (Option Value)} {oc4 kV4 dc4 pm4 cd4 ct4 : Value}
    {f5 : Addr} {od5 an5 : Option Addr} {sl5 : Array (Option Value)} {oc5 kV5 dc5 pm5 cd5 ct5 : Value}
    {f6 : Addr} {od6 an6 : Option Addr} {sl6 : Array (Option Value)} {oc6 kV6 dc6 pm6 cd6 ct6 : Value}
    {f7 : Addr} {od7 an7 : Option Addr} {sl7 : Array (Option Value)} {oc7 kV7 dc7 pm7 cd7 ct7 : Value}
    {f8 : Addr} {od8 an8 : Option Addr} {sl8 : Array (Option Value)} {oc8 kV8 dc8 pm8 cd8 ct8 : Value}
    {f9 : Addr} {od9 an9 : Option Addr} {sl9 : Array (Option Value)} {oc9 kV9 dc9 pm9 cd9 ct9 : Value}
    {f10 : Addr} {od10 an10 : Option Addr} {sl10 : Array (Option Value)} {oc10 kV10 dc10 pm10 cd10 ct10 : Value}
    {f11 : Addr} {od11 an11 : Option Addr} {sl11 : Array (Option Value)} {oc11 kV11 dc11 pm11 cd11 ct11 : Value}
    {f12 : Addr} {od12 an12 : Option Addr} {sl12 : Array (Option Value)} {oc12 kV12 dc12 pm12 cd12 ct12 : Value}
    {f13 : Addr} {od13 an13 : Option Addr} {sl13 : Array (Option Value)} {oc13 kV13 dc13 pm13 cd13 ct13 : Value}
    {f14 : Addr} {od14 an14 : Option Addr} {sl14 : Array (Option Value)} {oc14 kV14 dc14 pm14 cd14 ct14 : Value}
    {f15 : Addr} {od15 an15 : Option Addr} {sl15 : Array (Option Value)} {oc15 kV15 dc15 pm15 cd15 ct15 : Value}
    {f16 : Addr} {od16 an16 : Option Addr} {sl16 : Array (Option Value)} {oc16 kV16 dc16 pm16 cd16 ct16 : Value}
    {f17 : Addr} {od17 an17 : Option Addr} {sl17 : Array (Option Value)} {oc17 kV17 dc17 pm17 cd17 ct17 : Value}
    {f18 : Addr} {od18 an18 : Option Addr} {sl18 : Array (Option Value)} {oc18 kV18 dc18 pm18 cd18 ct18 : Value}
    {f19 : Addr} {od19 an19 : Option Addr} {sl19 : Array (Option Value)} {oc19 kV19 dc19 pm19 cd19 ct19 : Value}
    {c_Counter : Addr}
    (q_Counter : PySem.W.nsIn K mainGlobals "Counter" = some (some (.ref c_Counter))) (pg_Counter : PySem.W.plainGet K c_Counter Str.empty = true) (hd_Counter : PySem.W.hasDictIn K c_Counter = true) (po_Counter : PySem.W.plainOver K c_Counter = true) (sa_Counter : PySem.W.findIn K (.ref c_Counter) "__setattr__" = some (some (.builtin "object.__setattr__"))) (cc_Counter : PySem.W.findIn K (.ref c_Counter) "__class__" = some (some (.builtin "object.__class__"))) (mo_Counter : PySem.W.mroIn K c_Counter (.type "object") = some true)
    (a0 : PySem.W.findIn K (.ref c_Counter) "__eq__" = some (some (.ref f0))) (i0 : PySem.W.isFn K (.ref f0) = true)
    (l0 : K.lookup f0 = some ⟨oc0, od0, .func (PySem.W.fnOf "__eq__" "Counter.__eq__" (defArgs s_Counter___eq__) (defBody s_Counter___eq__) (defScope s_Counter___eq__) .none kV0 dc0 pm0 an0 cd0 ct0), sl0⟩) (c0 : PySem.W.codeIn K cd0 "Counter.__eq__" = true) (k0 : PySem.W.keepIn K (.ref f0) = true)
    (a1 : PySem.W.nsIn K mainGlobals "is_integer" = some (some (.ref f1)))
    (l1 : K.lookup f1 = some ⟨oc1, od1, .func (PySem.W.fnOf "is_integer" "is_integer" (defArgs s_is_integer) (defBody s_is_integer) (defScope s_is_integer) .none kV1 dc1 pm1 an1 cd1 ct1), sl1⟩) (c1 : PySem.W.codeIn K cd1 "is_integer" = true) (k1 : PySem.W.keepIn K (.ref f1) = true)
    (a2 : PySem.W.nsIn K mainGlobals "is_number" = some (some (.ref f2)))
    (l2 : K.lookup f2 = some ⟨oc2, od2, .func (PySem.W.fnOf "is_number" "is_number" (defArgs s_is_number) (defBody s_is_number) (defScope s_is_number) .none kV2 dc2 pm2 an2 cd2 ct2), sl2⟩) (c2 : PySem.W.codeIn K cd2 "is_number" = true) (k2 : PySem.W.keepIn K (.ref f2) = true)
    (a3 : PySem.W.nsIn K mainGlobals "is_mark" = some (some (.ref f3)))
    (l3 : K.lookup f3 = some ⟨oc3, od3, .func (PySem.W.fnOf "is_mark" "is_mark" (defArgs s_is_mark) (defBody s_is_mark) (defScope s_is_mark) .none kV3 dc3 pm3 an3 cd3 ct3), sl3⟩) (c3 : PySem.W.codeIn K cd3 "is_mark" = true) (k3 : PySem.W.keepIn K (.ref f3) = true)
    (a4 : PySem.W.nsIn K mainGlobals "are_marks" = some (some (.ref f4)))
    (l4 : K.lookup f4 = some ⟨oc4, od4, .func (PySem.W.fnOf "are_marks" "are_marks" (defArgs s_are_marks) (defBody s_are_marks) (defScope s_are_marks) .none kV4 dc4 pm4 an4 cd4 ct4), sl4⟩) (c4 : PySem.W.codeIn K cd4 "are_marks" = true) (k4 : PySem.W.keepIn K (.ref f4) = true)
    (a5 : PySem.W.findIn K (.ref c_Counter) "__init__" = some (some (.ref f5))) (i5 : PySem.W.isFn K (.ref f5) = true)
    (l5 : K.lookup f5 = some ⟨oc5, od5, .func (PySem.W.fnOf "__init__" "Counter.__init__" (defArgs s_Counter___init__) (defBody s_Counter___init__) (defScope s_Counter___init__) .none kV5 dc5 pm5 an5 cd5 ct5), sl5⟩) (c5 : PySem.W.codeIn K cd5 "Counter.__init__" = true) (k5 : PySem.W.keepIn K (.ref f5) = true)
    (a6 : PySem.W.findIn K (.ref c_Counter) "marks" = some (some (.ref f6))) (i6 : PySem.W.isFn K (.ref f6) = true)
    (l6 : K.lookup f6 = some ⟨oc6, od6, .func (PySem.W.fnOf "marks" "Counter.marks" (defArgs s_Counter_marks) (defBody s_Counter_marks) (defScope s_Counter_marks) .none kV6 dc6 pm6 an6 cd6 ct6), sl6⟩) (c6 : PySem.W.codeIn K cd6 "Counter.marks" = true) (k6 : PySem.W.keepIn K (.ref f6) = true)
    (a7 : PySem.W.nsIn K mainGlobals "_law_alike" = some (some (.ref f7)))
    (l7 : K.lookup f7 = some ⟨oc7, od7, .func (PySem.W.fnOf "_law_alike" "_law_alike" (defArgs s__law_alike) (defBody s__law_alike) (defScope s__law_alike) .none kV7 dc7 pm7 an7 cd7 ct7), sl7⟩) (c7 : PySem.W.codeIn K cd7 "_law_alike" = true) (k7 : PySem.W.keepIn K (.ref f7) = true)
    (a8 : PySem.W.nsIn K mainGlobals "_law_bag" = some (some (.ref f8)))
    (l8 : K.lookup f8 = some ⟨oc8, od8, .func (PySem.W.fnOf "_law_bag" "_law_bag" (defArgs s__law_bag) (defBody s__law_bag) (defScope s__law_bag) .none kV8 dc8 pm8 an8 cd8 ct8), sl8⟩) (c8 : PySem.W.codeIn K cd8 "_law_bag" = true) (k8 : PySem.W.keepIn K (.ref f8) = true)
    (a9 : PySem.W.nsIn K mainGlobals "_law_count" = some (some (.ref f9)))
    (l9 : K.lookup f9 = some ⟨oc9, od9, .func (PySem.W.fnOf "_law_count" "_law_count" (defArgs s__law_count) (defBody s__law_count) (defScope s__law_count) .none kV9 dc9 pm9 an9 cd9 ct9), sl9⟩) (c9 : PySem.W.codeIn K cd9 "_law_count" = true) (k9 : PySem.W.keepIn K (.ref f9) = true)
    (a10 : PySem.W.nsIn K mainGlobals "_law_sticking" = some (some (.ref f10)))
    (l10 : K.lookup f10 = some ⟨oc10, od10, .func (PySem.W.fnOf "_law_sticking" "_law_sticking" (defArgs s__law_sticking) (defBody s__law_sticking) (defScope s__law_sticking) .none kV10 dc10 pm10 an10 cd10 ct10), sl10⟩) (c10 : PySem.W.codeIn K cd10 "_law_sticking" = true) (k10 : PySem.W.keepIn K (.ref f10) = true)
    (a11 : PySem.W.nsIn K mainGlobals "_law_take" = some (some (.ref f11)))
    (l11 : K.lookup f11 = some ⟨oc11, od11, .func (PySem.W.fnOf "_law_take" "_law_take" (defArgs s__law_take) (defBody s__law_take) (defScope s__law_take) .none kV11 dc11 pm11 an11 cd11 ct11), sl11⟩) (c11 : PySem.W.codeIn K cd11 "_law_take" = true) (k11 : PySem.W.keepIn K (.ref f11) = true)
    (a12 : PySem.W.findIn K (.ref c_Counter) "__len__" = some (some (.ref f12))) (i12 : PySem.W.isFn K (.ref f12) = true)
    (l12 : K.lookup f12 = some ⟨oc12, od12, .func (PySem.W.fnOf "__len__" "Counter.__len__" (defArgs s_Counter___len__) (defBody s_Counter___len__) (defScope s_Counter___len__) .none kV12 dc12 pm12 an12 cd12 ct12), sl12⟩) (c12 : PySem.W.codeIn K cd12 "Counter.__len__" = true) (k12 : PySem.W.keepIn K (.ref f12) = true)
    (a13 : PySem.W.findIn K (.ref c_Counter) "need_mark" = some (some (.ref f13))) (i13 : PySem.W.isFn K (.ref f13) = true)
    (l13 : K.lookup f13 = some ⟨oc13, od13, .func (PySem.W.fnOf "need_mark" "Counter.need_mark" (defArgs s_Counter_need_mark) (defBody s_Counter_need_mark) (defScope s_Counter_need_mark) .none kV13 dc13 pm13 an13 cd13 ct13), sl13⟩) (c13 : PySem.W.codeIn K cd13 "Counter.need_mark" = true) (k13 : PySem.W.keepIn K (.ref f13) = true)
    (a14 : PySem.W.findIn K (.ref c_Counter) "less" = some (some (.ref f14))) (i14 : PySem.W.isFn K (.ref f14) = true)
    (l14 : K.lookup f14 = some ⟨oc14, od14, .func (PySem.W.fnOf "less" "Counter.less" (defArgs s_Counter_less) (defBody s_Counter_less) (defScope s_Counter_less) .none kV14 dc14 pm14 an14 cd14 ct14), sl14⟩) (c14 : PySem.W.codeIn K cd14 "Counter.less" = true) (k14 : PySem.W.keepIn K (.ref f14) = true)
    (a15 : PySem.W.findIn K (.ref c_Counter) "more" = some (some (.ref f15))) (i15 : PySem.W.isFn K (.ref f15) = true)
    (l15 : K.lookup f15 = some ⟨oc15, od15, .func (PySem.W.fnOf "more" "Counter.more" (defArgs s_Counter_more) (defBody s_Counter_more) (defScope s_Counter_more) .none kV15 dc15 pm15 an15 cd15 ct15), sl15⟩) (c15 : PySem.W.codeIn K cd15 "Counter.more" = true) (k15 : PySem.W.keepIn K (.ref f15) = true)
    (a16 : PySem.W.nsIn K mainGlobals "touched" = some (some (.ref f16)))
    (l16 : K.lookup f16 = some ⟨oc16, od16, .func (PySem.W.fnOf "touched" "touched" (defArgs s_touched) (defBody s_touched) (defScope s_touched) .none kV16 dc16 pm16 an16 cd16 ct16), sl16⟩) (c16 : PySem.W.codeIn K cd16 "touched" = true) (k16 : PySem.W.keepIn K (.ref f16) = true)
    (a17 : PySem.W.nsIn K mainGlobals "led" = some (some (.ref f17)))
    (l17 : K.lookup f17 = some ⟨oc17, od17, .func (PySem.W.fnOf "led" "led" (defArgs s_led) (defBody s_led) (defScope s_led) .none kV17 dc17 pm17 an17 cd17 ct17), sl17⟩) (c17 : PySem.W.codeIn K cd17 "led" = true) (k17 : PySem.W.keepIn K (.ref f17) = true)
    (a18 : PySem.W.nsIn K mainGlobals "sticking" = some (some (.ref f18)))
    (l18 : K.lookup f18 = some ⟨oc18, od18, .func (PySem.W.fnOf "sticking" "sticking" (defArgs s_sticking) (defBody s_sticking) (defScope s_sticking) .none kV18 dc18 pm18 an18 cd18 ct18), sl18⟩) (c18 : PySem.W.codeIn K cd18 "sticking" = true) (k18 : PySem.W.keepIn K (.ref f18) = true)
    (a19 : PySem.W.nsIn K mainGlobals "law" = some (some (.ref f19)))
    (l19 : K.lookup f19 = some ⟨oc19, od19, .func (PySem.W.fnOf "law" "law" (defArgs s_law) (defBody s_law) (defScope s_law) .none kV19 dc19 pm19 an19 cd19 ct19), sl19⟩) (c19 : PySem.W.codeIn K cd19 "law" = true) (k19 : PySem.W.keepIn K (.ref f19) = true)
    (mk_Counter : PySem.W.makesIn K c_Counter = true) (kc_Counter : PySem.W.keepIn K (.ref c_Counter) = true)
    (z_abs : PySem.W.nsIn K mainGlobals "abs" = some none)
    (z_all : PySem.W.nsIn K mainGlobals "all" = some none)
    (z_bool : PySem.W.nsIn K mainGlobals "bool" = some none)
    (z_int : PySem.W.nsIn K mainGlobals "int" = some none)
    (z_isinstance : PySem.W.nsIn K mainGlobals "isinstance" = some none)
    (z_len : PySem.W.nsIn K mainGlobals "len" = some none)
    (z_list : PySem.W.nsIn K mainGlobals "list" = some none)
    (z_min : PySem.W.nsIn K mainGlobals "min" = some none)
    (z_range : PySem.W.nsIn K mainGlobals "range" = some none)
    (z_repr : PySem.W.nsIn K mainGlobals "repr" = some none)
    (z_tuple : PySem.W.nsIn K mainGlobals "tuple" = some none)
    {tk_MOST_MARKS : Tok} (v_MOST_MARKS : PySem.W.nsIn K mainGlobals "MOST_MARKS" = some (some (.int 6 tk_MOST_MARKS)))
    (nf_Counter_its_marks : PySem.W.findIn K (.ref c_Counter) "its_marks" = some none)
    (ns_Counter_bool : PySem.W.subIn K (.ref c_Counter) (.type "bool") = some false)
    (ns_Counter_int : PySem.W.subIn K (.ref c_Counter) (.type "int") = some false)
    (ns_Counter_list : PySem.W.subIn K (.ref c_Counter) (.type "list") = some false)
    (ns_Counter_tuple : PySem.W.subIn K (.ref c_Counter) (.type "tuple") = some false)
    (ic_Counter : PySem.W.isClsIn K c_Counter = true) (tc_Counter : PySem.W.typeIn K (.ref c_Counter) = some (.type "type"))
    (nb_Counter_NoneType : PySem.W.subIn K (.type "NoneType") (.ref c_Counter) = some false)
    (nb_Counter_bool : PySem.W.subIn K (.type "bool") (.ref c_Counter) = some false)
    (nb_Counter_int : PySem.W.subIn K (.type "int") (.ref c_Counter) = some false)
    (nb_Counter_str : PySem.W.subIn K (.type "str") (.ref c_Counter) = some false)
    (nb_Counter_tuple : PySem.W.subIn K (.type "tuple") (.ref c_Counter) = some false)
    (nb_Counter_list : PySem.W.subIn K (.type "list") (.ref c_Counter) = some false)
    (nb_Counter_dict : PySem.W.subIn K (.type "dict") (.ref c_Counter) = some false)
    : ∃ fd : FuncData, (∀ (s : Shared) (v : Value), BindsTo s fd ⟨[v], []⟩ [("_law_script", v)]) ∧ ∀ base : Heap, K.In base → base.Ns mainGlobals mg → FnG l.prog w K mg base CX0 8 fa fd ["_law_script"] (spF K 1 F_law) := by
  have e := hfa.symm.trans (PySem.W.mg_of X G a19)
  cases e
  have cl_Counter : Cls K c_Counter := ⟨pg_Counter, hd_Counter, po_Counter, sa_Counter⟩
  have ty_Counter : ClsTy K "Counter" := ⟨c_Counter, q_Counter, cl_Counter, cc_Counter, mo_Counter⟩
  have t1 : ∀ nm ∈ (["Counter"] : List Str), FldOk K nm "its_marks" := (fun _ h => by
      simp only [List.mem_cons, List.not_mem_nil, or_false] at h
      subst h
      · exact ⟨c_Counter, q_Counter, cl_Counter, nf_Counter_its_marks⟩)
  have t2 : TabOk K (tabC "Counter" []) (fun t b => PySem.W.kitOne K t (.ref c_Counter) = some b) := tabC_ok q_Counter ty_Counter (fun _ h => by
      simp only [List.mem_cons, List.not_mem_nil, or_false] at h
      rcases h with rfl | rfl | rfl | rfl | rfl | rfl | rfl
      · exact kit_noB ic_Counter tc_Counter nb_Counter_NoneType
      · exact kit_noB ic_Counter tc_Counter nb_Counter_bool
      · exact kit_noB ic_Counter tc_Counter nb_Counter_int
      · exact kit_noB ic_Counter tc_Counter nb_Counter_str
      · exact kit_noB ic_Counter tc_Counter nb_Counter_tuple
      · exact kit_noB ic_Counter tc_Counter nb_Counter_list
      · exact kit_noB ic_Counter tc_Counter nb_Counter_dict) (fun _ h => nomatch h)
  have t3 : TabOk K (tabT "bool" ["Counter"]) (fun t b => PySem.W.kitOne K t (.type "bool") = some b) := tabT_ok (fun _ h => by
      simp only [List.mem_cons, List.not_mem_nil, or_false] at h
      subst h
      · exact ⟨ty_Counter, c_Counter, q_Counter, kit_noT ns_Counter_bool (by decide +kernel)⟩)
  have t4 : TabOk K (tabT "int" ["Counter"]) (fun t b => PySem.W.kitOne K t (.type "int") = some b) := tabT_ok (fun _ h => by
      simp only [List.mem_cons, List.not_mem_nil, or_false] at h
      subst h
      · exact ⟨ty_Counter, c_Counter, q_Counter, kit_noT ns_Counter_int (by decide +kernel)⟩)
  have t5 : TabOk K (tabT2 "list" "tuple" ["Counter"]) (fun t b => PySem.W.kitAny K t [.type "list", .type "tuple"] = some b) := tabT2_ok (fun _ h => by
      simp only [List.mem_cons, List.not_mem_nil, or_false] at h
      subst h
      · exact ⟨ty_Counter, ⟨c_Counter, q_Counter, kit_noT ns_Counter_list (by decide +kernel)⟩, ⟨c_Counter, q_Counter, kit_noT ns_Counter_tuple (by decide +kernel)⟩⟩)
  have T : Tx w K mg c_Counter := ⟨PySem.W.mg_none_of X G z_abs, PySem.W.mg_none_of X G z_all, PySem.W.mg_none_of X G z_bool, PySem.W.mg_none_of X G z_int, PySem.W.mg_none_of X G z_isinstance, PySem.W.mg_none_of X G z_len, PySem.W.mg_none_of X G z_list, PySem.W.mg_none_of X G z_min, PySem.W.mg_none_of X G z_range, PySem.W.mg_none_of X G z_repr, PySem.W.mg_none_of X G z_tuple, ⟨tk_MOST_MARKS, PySem.W.mg_of X G v_MOST_MARKS⟩, PySem.W.mg_of X G q_Counter, q_Counter, t1, t2, t3, t4, t5⟩
  refine ⟨PySem.W.fnOf "law" "law" (defArgs s_law) (defBody s_law) (defScope s_law) .none kV19 dc19 pm19 an19 cd19 ct19, fun s v => .of_eq rfl, fun base _ _ => ?_⟩
  have C_Counter___eq__ := ok_Counter___eq__ (P := l.prog) (w := w) (base := base) (fun_mk (st := s_Counter___eq__) l0 c0 k0) cl_Counter ⟨a0, i0, k0⟩ T 
  have C_is_integer := ok_is_integer (P := l.prog) (w := w) (base := base) (fun_mk (st := s_is_integer) l1 c1 k1) (PySem.W.mg_of X G a1) T 
  have C_is_number := ok_is_number (P := l.prog) (w := w) (base := base) (fun_mk (st := s_is_number) l2 c2 k2) (PySem.W.mg_of X G a2) T C_is_integer
  have C_is_mark := ok_is_mark (P := l.prog) (w := w) (base := base) (fun_mk (st := s_is_mark) l3 c3 k3) (PySem.W.mg_of X G a3) T C_is_number
  have C_are_marks := ok_are_marks (P := l.prog) (w := w) (base := base) (fun_mk (st := s_are_marks) l4 c4 k4) (PySem.W.mg_of X G a4) T C_is_mark
  have C_Counter___init__ := ok_Counter___init__ (P := l.prog) (w := w) (base := base) (fun_mk (st := s_Counter___init__) l5 c5 k5) ⟨mk_Counter, a5, i5, kc_Counter⟩ T C_are_marks
  have C_Counter_marks := ok_Counter_marks (P := l.prog) (w := w) (base := base) (fun_mk (st := s_Counter_marks) l6 c6 k6) cl_Counter ⟨a6, i6, k6⟩ T 
  have C__law_alike := ok__law_alike (P := l.prog) (w := w) (base := base) (fun_mk (st := s__law_alike) l7 c7 k7) (PySem.W.mg_of X G a7) T 
  have C__law_bag := ok__law_bag (P := l.prog) (w := w) (base := base) (fun_mk (st := s__law_bag) l8 c8 k8) (PySem.W.mg_of X G a8) T 
  have C__law_count := ok__law_count (P := l.prog) (w := w) (base := base) (fun_mk (st := s__law_count) l9 c9 k9) (PySem.W.mg_of X G a9) T 
  have C__law_sticking := ok__law_sticking (P := l.prog) (w := w) (base := base) (fun_mk (st := s__law_sticking) l10 c10 k10) (PySem.W.mg_of X G a10) T 
  have C__law_take := ok__law_take (P := l.prog) (w := w) (base := base) (fun_mk (st := s__law_take) l11 c11 k11) (PySem.W.mg_of X G a11) T 
  have C_Counter___len__ := ok_Counter___len__ (P := l.prog) (w := w) (base := base) (fun_mk (st := s_Counter___len__) l12 c12 k12) cl_Counter ⟨a12, i12, k12⟩ T 
  have C_Counter_need_mark := ok_Counter_need_mark (P := l.prog) (w := w) (base := base) (fun_mk (st := s_Counter_need_mark) l13 c13 k13) cl_Counter ⟨a13, i13, k13⟩ T C_Counter___len__ C_is_number
  have C_Counter_less := ok_Counter_less (P := l.prog) (w := w) (base := base) (fun_mk (st := s_Counter_less) l14 c14 k14) cl_Counter ⟨a14, i14, k14⟩ T C_Counter_need_mark
  have C_Counter_more := ok_Counter_more (P := l.prog) (w := w) (base := base) (fun_mk (st := s_Counter_more) l15 c15 k15) cl_Counter ⟨a15, i15, k15⟩ T C_Counter_need_mark
  have C_touched := ok_touched (P := l.prog) (w := w) (base := base) (fun_mk (st := s_touched) l16 c16 k16) (PySem.W.mg_of X G a16) T C_Counter_less C_Counter_more
  have C_led := ok_led (P := l.prog) (w := w) (base := base) (fun_mk (st := s_led) l17 c17 k17) (PySem.W.mg_of X G a17) T C_Counter_need_mark C_touched
  have C_sticking := ok_sticking (P := l.prog) (w := w) (base := base) (fun_mk (st := s_sticking) l18 c18 k18) (PySem.W.mg_of X G a18) T C_Counter___init__
  exact ok_law (fun_mk (st := s_law) l19 c19 k19) T C_Counter___eq__ C_Counter___init__ C_Counter_marks C__law_alike C__law_bag C__law_count C__law_sticking C__law_take C_led C_sticking
end K32
open PySem PySem.W PyProof.Rows
set_option maxHeartbeats 0 in
theorem PySem.Challenge.cw_smallcount_k32_sticking_counters_holds : PySem.Challenge.rw_smallcount_k32_sticking_counters.Holds := by
  w_on; o_law; k_head; (case hw => w_witness2)
  k_fill
  refine DL.walk_ofG (l := PySem.Challenge.rw_smallcount_k32_sticking_counters) (n := 63) (k := 8) (x := "_law_script") (cx := fun _ => L2.CX0) (sp := fun w => DL.spF _ 1 K32.F_law) rfl (by decide) rfl ⟨rfl, by decide, by decide⟩ (fun w h Y => PySem.W.kIn_of Y) ?F (fun _ _ a ns _ _ hS => let ⟨_, h⟩ := K32.law_true ns; DL.law_sp hS h) (fun _ _ _ _ _ h => h)
  case F =>
    intro w mg fa h KX G hmg
    refine' K32.all_mk KX G hmg ?q_Counter ?pg_Counter ?hd_Counter ?po_Counter ?sa_Counter ?cc_Counter ?mo_Counter ?a0 ?i0 ?l0 ?c0 ?k0 ?a1 ?l1 ?c1 ?k1 ?a2 ?l2 ?c2 ?k2 ?a3 ?l3 ?c3 ?k3 ?a4 ?l4 ?c4 ?k4 ?a5 ?i5 ?l5 ?c5 ?k5 ?a6 ?i6 ?l6 ?c6 ?k6 ?a7 ?l7 ?c7 ?k7 ?a8 ?l8 ?c8 ?k8 ?a9 ?l9 ?c9 ?k9 ?a10 ?l10 ?c10 ?k10 ?a11 ?l11 ?c11 ?k11 ?a12 ?i12 ?l12 ?c12 ?k12 ?a13 ?i13 ?l13 ?c13 ?k13 ?a14 ?i14 ?l14 ?c14 ?k14 ?a15 ?i15 ?l15 ?c15 ?k15 ?a16 ?l16 ?c16 ?k16 ?a17 ?l17 ?c17 ?k17 ?a18 ?l18 ?c18 ?k18 ?a19 ?l19 ?c19 ?k19 ?mk_Counter ?kc_Counter ?z_abs ?z_all ?z_bool ?z_int ?z_isinstance ?z_len ?z_list ?z_min ?z_range ?z_repr ?z_tuple ?v_MOST_MARKS ?nf_Counter_its_marks ?ns_Counter_bool ?ns_Counter_int ?ns_Counter_list ?ns_Counter_tuple ?ic_Counter ?tc_Counter ?nb_Counter_NoneType ?nb_Counter_bool ?nb_Counter_int ?nb_Counter_str ?nb_Counter_tuple ?nb_Counter_list ?nb_Counter_dict
    (case q_Counter => k_is)
    (case pg_Counter => k_is)
    (case hd_Counter => k_is)
    (case po_Counter => k_is)
    (case sa_Counter => k_is)
    (case cc_Counter => k_is)
    (case mo_Counter => k_is)
    (case a0 => k_is)
    (case i0 => k_is)
    (case l0 => k_is)
    (case c0 => k_is)
    (case k0 => k_is)
    (case a1 => k_is)
    (case l1 => k_is)
    (case c1 => k_is)
    (case k1 => k_is)
    (case a2 => k_is)
    (case l2 => k_is)
    (case c2 => k_is)
    (case k2 => k_is)
    (case a3 => k_is)
    (case l3 => k_is)
    (case c3 => k_is)
    (case k3 => k_is)
    (case a4 => k_is)
    (case l4 => k_is)
    (case c4 => k_is)
    (case k4 => k_is)
    (case a5 => k_is)
    (case i5 => k_is)
    (case l5 => k_is)
    (case c5 => k_is)
    (case k5 => k_is)
    (case a6 => k_is)
    (case i6 => k_is)
    (case l6 => k_is)
    (case c6 => k_is)
    (case k6 => k_is)
    (case a7 => k_is)
    (case l7 => k_is)
    (case c7 => k_is)
    (case k7 => k_is)
    (case a8 => k_is)
    (case l8 => k_is)
    (case c8 => k_is)
    (case k8 => k_is)
    (case a9 => k_is)
    (case l9 => k_is)
    (case c9 => k_is)
    (case k9 => k_is)
    (case a10 => k_is)
    (case l10 => k_is)
    (case c10 => k_is)
    (case k10 => k_is)
    (case a11 => k_is)
    (case l11 => k_is)
    (case c11 => k_is)
    (case k11 => k_is)
    (case a12 => k_is)
    (case i12 => k_is)
    (case l12 => k_is)
    (case c12 => k_is)
    (case k12 => k_is)
    (case a13 => k_is)
    (case i13 => k_is)
    (case l13 => k_is)
    (case c13 => k_is)
    (case k13 => k_is)
    (case a14 => k_is)
    (case i14 => k_is)
    (case l14 => k_is)
    (case c14 => k_is)
    (case k14 => k_is)
    (case a15 => k_is)
    (case i15 => k_is)
    (case l15 => k_is)
    (case c15 => k_is)
    (case k15 => k_is)
    (case a16 => k_is)
    (case l16 => k_is)
    (case c16 => k_is)
    (case k16 => k_is)
    (case a17 => k_is)
    (case l17 => k_is)
    (case c17 => k_is)
    (case k17 => k_is)
    (case a18 => k_is)
    (case l18 => k_is)
    (case c18 => k_is)
    (case k18 => k_is)
    (case a19 => k_is)
    (case l19 => k_is)
    (case c19 => k_is)
    (case k19 => k_is)
    (case mk_Counter => k_is)
    (case kc_Counter => k_is)
    (case z_abs => k_is)
    (case z_all => k_is)
    (case z_bool => k_is)
    (case z_int => k_is)
    (case z_isinstance => k_is)
    (case z_len => k_is)
    (case z_list => k_is)
    (case z_min => k_is)
    (case z_range => k_is)
    (case z_repr => k_is)
    (case z_tuple => k_is)
    (case v_MOST_MARKS => k_is)
    (case nf_Counter_its_marks => k_is)
    (case ns_Counter_bool => k_is)
    (case ns_Counter_int => k_is)
    (case ns_Counter_list => k_is)
    (case ns_Counter_tuple => k_is)
    (case ic_Counter => k_is)
    (case tc_Counter => k_is)
    (case nb_Counter_NoneType => k_is)
    (case nb_Counter_bool => k_is)
    (case nb_Counter_int => k_is)
    (case nb_Counter_str => k_is)
    (case nb_Counter_tuple => k_is)
    (case nb_Counter_list => k_is)
    (case nb_Counter_dict => k_is)
