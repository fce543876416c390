import PyProof.Rows.All
import HandS.ForMost
import HandS.Evl
import HandS.ForExc
import HandS.CallSlots
import HandS.Flow
import HandS.SetKeys
import HandS.More
import HandS.TupAny
import KE.GoesMore
import KE.GoesEnum
import HandS.IsInst
import HandS.Dict
import HandS.Iter
import HandS.WordsDict
import HandS.Zip
import HandS.Exc
import HandS.ExcSuper
import KE.KExcSuper
import KE.KExcIs
import HandS.ExcField
import HandS.ExcIs
import PyProof.ReprRoads
import HandS.DictEq
import HandS.SortInts
import HandS.Conv
import PySem.Challenge.RW_smallcount_k33_marks_that_come
import KE.RegKSuper
set_option Elab.async false
set_option linter.all false
set_option autoImplicit false
set_option maxRecDepth 100000
/-! Defs whose frames run outside any repr: the guards are known to be none. -/
namespace DL
open PySem PySem.Spec PyProof.Rows L2

structure FnG (P : Program) (w : World) (K : PySem.W.Frag) (mg : Str → Option Value) (base : Heap) (cx : CXT)
    (k : Nat) (f : Addr) (fd : FuncData) (ps : List Str) (sp : Sp) : Prop where
  len : ∀ vs H Q E, sp vs H Q E → vs.length = ps.length
  run : ∀ (A : Around) (out : List Env) (s : Shared) (H : Hp) (args : Args) (us : List Value) (vs : List V) (Q : VK) (E : XK),
    Room k A → A.guards = some [] → Env0 P w K mg base A out s H → BindsTo s fd args (ps.zip us) → Vals vs us →
    sp vs H Q E → codeAny (model P w) A (.call (.ref f) args) (CR cx out P w H s Q E) s

theorem FnG.mono {P : Program} {w : World} {K : PySem.W.Frag} {mg : Str → Option Value} {base : Heap} {cx : CXT}
    {j k : Nat} {f : Addr} {fd : FuncData} {ps : List Str} {sp : Sp} (F : FnG P w K mg base cx j f fd ps sp) (h : j ≤ k) :
    FnG P w K mg base cx k f fd ps sp :=
  ⟨F.len, fun A o s H a us vs Q E hr => F.run A o s H a us vs Q E (hr.mono h)⟩

theorem fnG_of {cx : CXT} {P : Program} {w : World} {K : PySem.W.Frag} {mg : Str → Option Value} {base : Heap} {k : Nat}
    {f : Addr} {name qual : Str} {params : Arguments} {body : List Stmt} {sc : Scope} {dV kV doc pm cdv ct oc : Value}
    {an od : Option Addr} {osl : Array (Option Value)} {N ps : List Str} {sp : Sp}
    (lk : K.lookup f = some ⟨oc, od, .func (PySem.W.fnOf name qual params body sc dV kV doc pm an cdv ct), osl⟩)
    (hcd : PySem.W.codeIn K cdv qual = true) (S : FnScope N ps sc)
    (len : ∀ vs H Q E, sp vs H Q E → vs.length = ps.length)
    (hb : ∀ (A : Around) (out : List Env) (s : Shared) (H : Hp) (vs : List V) (Q : VK) (E : XK),
      Room k (A.deeper (envOfC qual sc s.heap.objs.size f cdv)) → A.guards = some [] → sp vs H Q E →
      ∃ t, PSs (cxOf cx P w K mg base N qual sc f cdv A out s H E) body t ∧
        t { nx := fun _ H' => Q .non H', rt := Q } (start N vs) H) :
    FnG P w K mg base cx (k + 1) f (PySem.W.fnOf name qual params body sc dV kV doc pm an cdv ct) ps sp := by
  refine ⟨len, fun A out s H args us vs Q E hr hg e0 bd r hsp => ?_⟩
  have hl := len _ _ _ _ hsp
  have stay : ∀ b o, base.get? b = some o → s.heap.get? b = some o := fun b o e => (e0.bs b o e).1
  have KX : K.In s.heap := e0.mod.kin.keeps stay
  have kinds : ∀ y ∈ ps.zip us, sc.names.lookup y.1 = some .local ∨
      (sc.names.lookup y.1 = some .cell ∧ ((cellsFrom (s.heap.objs.size + 1) sc.names []).lookup y.1).isSome = true) := by
    rintro ⟨n, v⟩ hy
    refine (S.par n (List.of_mem_zip hy).1).imp id fun q => ⟨q, ?_⟩
    exact PySem.W.cellsFrom_some _ _ _ (.inl q)
  refine codeAny_call_function hr.depth (KX _ _ lk) rfl S.co S.gen rfl (PySem.W.codeRec_of KX hcd) (bd _ _ _ _ ?_)
  refine wpAny_newFunctionEnv_cells S.kind kinds fun env he s1 x => ?_
  subst he
  refine ⟨(e0.mod.nolimit.keeps stay).keeps x.toInCall.keep, codeAny_func ?_⟩
  obtain ⟨t, ht, hq⟩ := hb A out s H vs Q E (hr.deeper _) hg hsp
  have I := inv_start (cd := cdv) (qual := qual) (f := f) (CX := cx) (E := E) S hr.hd e0 hl r x
  refine wpAny_mono (ht.run [] s1 (start N vs) H _ I hq) (fun fl s' hs => ?_) fun e s' hs => hs
  match fl, hs with
  | .ret u, ⟨v, _, H', J, rv, q⟩ => exact ⟨v, H', J.os, J.bare, J.base, J.hok, rv, q⟩
  | .next, ⟨_, H', J, q⟩ => exact ⟨V.non, H', J.os, J.bare, J.base, J.hok, rfl, q⟩
  | .brk, ⟨_, _, _, q⟩ => exact False.elim q
  | .cont, ⟨_, _, _, q⟩ => exact False.elim q

section
variable {X : Cx} {cx : CXT} {k : Nat} {f : Addr} {fd : FuncData} {ps : List Str} {sp : Sp} {dvs : List V} {ds : List Value}
  {E : L2.St → XK} {x : Str} {p pos : Pos} {e : Expr} {es : List Expr} {t : TA}
theorem run_fnG {pins : List (Addr × Obj)} {σ : L2.St} {H : Hp} {s : Shared} {Q : VK} {us : List Value} {vs : List V}
    (F : FnG X.prog X.w X.K X.mg X.base cx k f fd ps sp) (hr : Room k X.A) (hgd : X.A.guards = some [])
    (hb : Binds X.K fd ps ds) (hd : Vals dvs ds) (hx : PassesAt cx X σ (E σ)) (I : Inv X pins σ H s) (r : Vals vs us)
    (h : sp (vs ++ dvs) H Q (E σ)) : wpAny (model X.prog X.w) X.A (call (.ref f) us) (EP X pins σ Q) X.xe s := by
  have r2 : Vals (vs ++ dvs) (us ++ ds) := r.append hd
  have hl : (us ++ ds).length = ps.length := r2.length ▸ F.len _ _ _ _ h
  have run := F.run X.A X.stack s H ⟨us, []⟩ (us ++ ds) (vs ++ dvs) Q (E σ) hr hgd I.env0 (hb s us I.kIn hl) r2 h
  refine wpAny_call (codeAny_mono run fun z s' hq => ?_)
  match z, hq with
  | .error e, hq => exact hx pins H s e s' I hq
  | .ok (.ret u), hq => exact I.after hq
  | .ok .next, hq => exact hq.elim
  | .ok .brk, hq => exact hq.elim
  | .ok .cont, hq => exact hq.elim
theorem pe_callG (F : FnG X.prog X.w X.K X.mg X.base cx k f fd ps sp) (hr : Room k X.A) (hgd : X.A.guards = some [])
    (hg : Gl X x) (hm : X.mg x = some (.ref f)) (hk : PySem.W.keepIn X.K (.ref f) = true) (hb : Binds X.K fd ps ds)
    (hd : Vals dvs ds) (hx : ∀ σ, PassesAt cx X σ (E σ)) (ha : PA X (e :: es) t)
    (hdb : (x == ("__debug__" : Str)) = false := by decide)
    (he : starEach (e :: es) X.env = (false, eval e X.env) :: starEach es X.env := by rfl)
    (hpl : (backTo pos (starEach es X.env)).any (·.1) = false := by rfl) :
    PE X (.Call (.Name x p) (e :: es) [] pos) (tCallSD sp dvs E t) := by
  refine ⟨fun pins s σ H Q I h => wpAny_Call_Name_kw (ld_glob I hg hm ?_ hdb)⟩
  refine PySem.W.callWith_K (h₀ := X.base) I.ok.mod.kin hk (thn (ha.run pos pins s σ H _ I h) ?_) he hpl
  rintro us s1 ⟨vs, H1, I1, r, q⟩
  exact ⟨I1.kIn, run_fnG F hr hgd hb hd (hx σ) I1 r q⟩
end

/-- the law's call from outside, by a promise that may lean on the guards -/
theorem law_callG {P : Program} {w : World} {K : PySem.W.Frag} {mg mb : Str → Option Value} {cx : CXT} {k : Nat}
    {fa a : Addr} {fd : FuncData} {x : Str} {sp : Sp} {s₁ : Shared} {vs : List Value} {ns : List Int}
    (KX : K.In s₁.heap) (hns : s₁.heap.Ns mainGlobals mg) (hb : s₁.heap.Ns builtinsNs mb)
    (hbb : ∀ x : Str, x ≠ "__name__" → mb x = bootBuiltins x) (hlim : s₁.heap.NoLimit) (hg : s₁.gens = #[])
    (ha : s₁.heap.get? a = some { cls := .type "list", data := .seq vs.toArray }) (hi : IntsAre vs ns)
    (hl : ns.length ≤ sizeLine) (hr : Room k callerA)
    (F : ∀ base : Heap, K.In base → base.Ns mainGlobals mg → FnG P w K mg base cx k fa fd [x] sp)
    (hbind : ∀ (s : Shared) (u : Value), BindsTo s fd ⟨[u], []⟩ [(x, u)])
    (hsp : ∀ H : Hp, Only H → SqL K H a (ns.map V.int) → sp [.ref a] H (fun v _ => v = .bl true) fun _ _ _ => False)
    (hcx : ∀ H e s', cx [] H s₁ (fun _ _ _ => False) e s' → False) :
    codeAny (model P w) callerA (.call (.ref fa) ⟨[.ref a], []⟩)
      (fun r s' => r = .ok (.ret (.bool true)) ∧ OldK s₁.heap s'.heap ∧ s'.os = s₁.os ∧ AllBare s'.gens) s₁ := by
  have rv := vals_ints hi
  have main : ∀ H : Hp, Only H → SqL K H a (ns.map V.int) → HOk P w H s₁.heap → (∀ b, H b ≠ none → b = a) →
      (H a ≠ none → K.lookup a = none) → codeAny (model P w) callerA (.call (.ref fa) ⟨[.ref a], []⟩)
      (fun r s' => r = .ok (.ret (.bool true)) ∧ OldK s₁.heap s'.heap ∧ s'.os = s₁.os ∧ AllBare s'.gens) s₁ := by
    intro H hO hS hok hA hK
    have onlyA : ∀ {b : Addr} {u : HO}, H b = some u → b = a := fun {b u} q => hA b (by rw [q]; exact fun z => nomatch z)
    have dictFree : ∀ {b : Addr} {o : Obj} {es : Array DictEntry} {ep : Nat},
        s₁.heap.get? b = some o → o.data = .dict es ep → H b = none := by
      intro b o es ep e d
      match q : H b with
      | none => rfl
      | some u =>
        obtain rfl := onlyA q
        rw [ha] at e
        obtain rfl := Option.some.inj e
        exact nomatch (show Data.seq vs.toArray _ = Data.dict es ep from d)
    have ns' : ∀ {b : Addr} {m : Str → Option Value}, s₁.heap.Ns b m → (hidT s₁.heap H).Ns b m :=
      fun ⟨o, es, ep, e, d, r⟩ => ⟨o, es, ep, hidT_get e (dictFree e d), d, r⟩
    have kb : K.In (hidT s₁.heap H) := fun b o e => hidT_get (KX b o e) (by
      match q : H b with
      | none => rfl
      | some u =>
        obtain rfl := onlyA q
        rw [hK (by rw [q]; exact fun z => nomatch z)] at e
        exact nomatch e)
    have md : Mod K mg (hidT s₁.heap H) := ⟨kb, ns' hns, ⟨mb, ns' hb, hbb⟩, by
      obtain ⟨mc, h1, h2⟩ := hlim
      exact ⟨mc, ns' h1, h2⟩⟩
    have nofr : ∀ b : Addr, b ∉ frs [] := fun b z => nomatch (show b ∈ ([] : List Addr) from z)
    have e0 : Env0 P w K mg (hidT s₁.heap H) callerA [] s₁ H :=
      ⟨rfl, md, fun b o e => of_hidT e, Nat.le_of_eq (hidT_size _ _), trivial, fun b hb => absurd hb (nofr b), hok, .of_eq hg⟩
    have run := (F _ kb (ns' hns)).run callerA [] s₁ H ⟨[.ref a], []⟩ [.ref a] [.ref a] _ _ hr rfl e0
      (hbind s₁ (.ref a)) (.cons rfl .nil) (hsp H hO hS)
    refine codeAny_mono run fun r s' h => ?_
    match r, h with
    | .error e, h => exact (hcx H e s' h).elim
    | .ok .next, h => exact h.elim
    | .ok .brk, h => exact h.elim
    | .ok .cont, h => exact h.elim
    | .ok (.ret u), ⟨v, H', os, bare, un, hok', r', q⟩ =>
      obtain rfl : v = .bl true := q
      obtain rfl : u = Value.bool true := r'
      refine ⟨rfl, OldK.of_keep fun b o e => ?_, os, bare⟩
      match q : H b with
      | none => exact un.keep b o e q (nofr b) (fun z => nomatch z)
      | some u =>
        match hO b with
        | .inl z => rw [q] at z; exact nomatch z
        | .inr ⟨ob, xs, z⟩ =>
          have e1 := (hok b _ z).1
          rw [e] at e1
          obtain rfl := Option.some.inj e1
          exact (hok' b _ (un.frzs b _ _ z)).1
  match hk : K.lookup a with
  | some o =>
    have e := KX a o hk
    rw [ha] at e
    obtain rfl := Option.some.inj e
    have hz : vs.toArray.size ≤ sizeLine := by rw [List.size_toArray, hi.length]; exact hl
    refine main (fun _ => none) (fun _ => .inl rfl) (.inr ⟨_, vs.toArray, _, hk, rfl, rfl, rfl, hz, by simpa using rv⟩) ?_ ?_ ?_
    · exact fun b u z => nomatch (show (none : Option HO) = some u from z)
    · exact fun b z => absurd rfl z
    · exact fun z => absurd rfl z
  | none =>
    let so : Obj := { cls := .type "list", data := .seq vs.toArray }
    refine main (fun b => if b = a then some (.frz so (.lst (ns.map V.int))) else none) (fun b => ?_)
      (.inl (.inr ⟨so, if_pos rfl⟩)) (fun b u z => ?_) (fun b z => Classical.byContradiction fun hb => z (if_neg hb)) fun _ => hk
    · by_cases hb : b = a
      · exact .inr ⟨_, _, if_pos hb⟩
      · exact .inl (if_neg hb)
    · by_cases hb : b = a
      · have z' := (if_pos hb).symm.trans z
        obtain rfl := Option.some.inj z'
        subst hb
        exact ⟨ha, by rw [List.length_map]; exact hl, vs, _, rv, ha⟩
      · exact nomatch (if_neg hb).symm.trans z

theorem walk_ofG {l : PySem.W.OpenLaw} {n k : Nat} {q : Program} {loose : List Str} {XP : (Str → Option Value) → Heap → Prop}
    {YP : World → Heap → Prop} {d : DefRec} {K : Params → PySem.W.Frag} {cx : World → CXT} {sp : World → Sp} {x : Str}
    (hn : l.most = some n) (hn2 : n ≤ sizeLine) (hdf : d.params.defaults = []) (hr : Room k callerA)
    (hY : ∀ (w : World) (h : Heap), YP w h → (K w.params).In h)
    (F : ∀ (w : World) (mg : Str → Option Value) (fa : Addr) (h : Heap), (K w.params).In h → h.Ns mainGlobals mg →
      mg d.name = some (.ref fa) → ∃ fd : FuncData, (∀ (s : Shared) (u : Value), BindsTo s fd ⟨[u], []⟩ [(x, u)]) ∧
        ∀ base : Heap, (K w.params).In base → base.Ns mainGlobals mg →
          FnG l.prog w (K w.params) mg base (cx w) k fa fd [x] (sp w))
    (hsp : ∀ (w : World) (H : Hp) (a : Addr) (ns : List Int), ns.length ≤ n → Only H →
      SqL (K w.params) H a (ns.map V.int) → sp w [.ref a] H (fun v _ => v = .bl true) fun _ _ _ => False)
    (hcx : ∀ (w : World) (H : Hp) (s : Shared) (e : Value) (s' : Shared), cx w [] H s (fun _ _ _ => False) e s' → False) :
    PySem.W.WalkO q loose XP YP l.row.toRowW d [] (fun f vs => PySem.call f vs) := by
  refine Att.attach_call hn hdf fun w s₀ s₁ mg mb fa o pm cd doc a vs ns G Y ho hd hcd hmg hobj hints hlen hg => ?_
  obtain ⟨fd, hb, hF⟩ := F w mg fa _ (hY w _ Y) G.T.g hmg
  exact law_callG (hY w _ Y) G.T.g G.T.b G.T.builtins G.T.nolimit hg hobj hints (Nat.le_trans hlen hn2) hr hF hb
    (fun H hO hS => hsp w H a ns hlen hO hS) fun H e s' => hcx w H s₁ e s'
end DL
/-! Data in trees over the abstract heap: what a piece of Python does, as a plain function. -/
namespace DL
open PySem PySem.Spec PyProof.Rows L2
abbrev Slots := L2.St
/-- all that stands goes on standing -/
def Ex (H H' : Hp) : Prop := ∀ a o, H a = some o → H' a = some o
theorem Ex.refl (H : Hp) : Ex H H := fun _ _ h => h
theorem Ex.trans {H H1 H2 : Hp} (a : Ex H H1) (b : Ex H1 H2) : Ex H H2 := fun x o h => b x o (a x o h)
theorem Ex.new {H : Hp} {p : Addr} {o : HO} (h : H p = none) : Ex H (upd H p o) := fun a u e => by
  rw [upd_ne (ne_of_none e h)]; exact e
theorem ex_l {K : PySem.W.Frag} {H H' : Hp} {a : Addr} {xs : List V} (e : Ex H H') (h : SqL K H a xs) : SqL K H' a xs := by
  rcases h with (h | ⟨o, h⟩) | h
  · exact .inl (.inl (e _ _ h))
  · exact .inl (.inr ⟨o, e _ _ h⟩)
  · exact .inr h
theorem ex_t {K : PySem.W.Frag} {H H' : Hp} {a : Addr} {xs : List V} (e : Ex H H') (h : SqT K H a xs) : SqT K H' a xs := by
  rcases h with (h | ⟨o, h⟩) | h
  · exact .inl (.inl (e _ _ h))
  · exact .inl (.inr ⟨o, e _ _ h⟩)
  · exact .inr h

/-- a dict's key: an int, a text, or a tuple of them -/
inductive Ky where
  | k (x : Key) | t (xs : List Key)
deriving DecidableEq
/-- the dict object o has the keys ks and the values vs -/
def DctIs (o : HO) (ks : List Ky) (vs : List V) : Prop :=
  (∃ kvs : List (Key × V), o = .dK kvs ∧ ks = kvs.map (fun p => Ky.k p.1) ∧ vs = kvs.map (·.2)) ∨ ∃ kvs : List (List Key × V), kvs ≠ [] ∧ o = .dT kvs ∧ ks = kvs.map (fun p => Ky.t p.1) ∧ vs = kvs.map (·.2)
/-- the class that the module calls nm -/
def ClsAt (K : PySem.W.Frag) (nm : Str) (C : Addr) : Prop := PySem.W.nsIn K mainGlobals nm = some (some (.ref C))
/-- data that no longer changes (fro: a list that is read only) -/
inductive D where
  | non | bl (b : Bool) | int (i : Int) | str (s : Str) | ty (n : String) | ref (a : Addr)
  | tup (xs : List D) | lst (xs : List D) | fro (xs : List D) | dct (kvs : List (Ky × D)) | ins (nm : Str) (fs : List (Str × D)) | err (a C d : Addr) (nm : Str) (fs : List (Str × D))
/-- data, or a place that may change -/
inductive DV where
  | dat (d : D) | loc (n : Nat)
/-- what stands at a place -/
inductive Pl where
  | lst (xs : List DV) | dct (kvs : List (Ky × DV)) | own | ins (nm : Str) (fs : List (Str × DV)) | gone
/-- what an expression gives: data, a place, a new list, a new dict -/
inductive R where
  | dat (d : D) | loc (n : Nat) | nl (xs : List DV) | nk (kvs : List (Ky × DV))
abbrev Mem := List Pl
abbrev Env := List (Option DV)
abbrev Pm := Nat → Option Addr
structure Xc where
  nm : Str
  fs : List (Str × D)
inductive Res (α : Type) where
  | ok (a : α) (μ : Mem) | exc (x : Xc) (μ : Mem) | bad
def Res.bind {α β : Type} (r : Res α) (k : α → Mem → Res β) : Res β := match r with
  | .ok a μ => k a μ
  | .exc x μ => .exc x μ
  | .bad => .bad
@[simp] theorem Res.bind_ok {α β : Type} (a : α) (μ : Mem) (k : α → Mem → Res β) : (Res.ok a μ).bind k = k a μ := rfl
@[simp] theorem Res.bind_exc {α β : Type} (x : Xc) (μ : Mem) (k : α → Mem → Res β) : (Res.exc x μ).bind k = .exc x μ := rfl
@[simp] theorem Res.bind_bad {α β : Type} (k : α → Mem → Res β) : (Res.bad).bind k = .bad := rfl

mutual
inductive Rp (K : PySem.W.Frag) (G : Hp) : V → D → Prop
  | non : Rp K G .non .non
  | bl (b) : Rp K G (.bl b) (.bl b)
  | int (i) : Rp K G (.int i) (.int i)
  | str (s) : Rp K G (.str s) (.str s)
  | ty (n) : Rp K G (.ty n) (.ty n)
  | ref (a) : Rp K G (.ref a) (.ref a)
  | tup {a vs ds} : SqT K G a vs → RpL K G vs ds → Rp K G (.ref a) (.tup ds)
  | lst {a vs ds} : G a = some (.lst vs) → RpL K G vs ds → Rp K G (.ref a) (.lst ds)
  | fro {a vs ds} : SqL K G a vs → RpL K G vs ds → Rp K G (.ref a) (.fro ds)
  | dct {a o u vs} {ds : List (Ky × D)} : G a = some (.frz o u) → DctIs u (ds.map (·.1)) vs →
      RpL K G vs (ds.map (·.2)) → Rp K G (.ref a) (.dct ds)
  | ins {a dx C nm} {vs : List (Str × V)} {ds : List (Str × D)} : ClsAt K nm C → G a = some (.ins C dx vs) → G dx = some (.own a) →
      vs.map (·.1) = ds.map (·.1) → RpL K G (vs.map (·.2)) (ds.map (·.2)) → Rp K G (.ref a) (.ins nm ds)
  | err {a C d nm} {vs : List (Str × V)} {ds : List (Str × D)} : ClsAt K nm C → G d = some (.xd vs) → vs.map (·.1) = ds.map (·.1) → RpL K G (vs.map (·.2)) (ds.map (·.2)) → Rp K G (.ref a) (.err a C d nm ds)
inductive RpL (K : PySem.W.Frag) (G : Hp) : List V → List D → Prop
  | nil : RpL K G [] []
  | cons {v vs d ds} : Rp K G v d → RpL K G vs ds → RpL K G (v :: vs) (d :: ds)
end
section
variable {K : PySem.W.Frag} {G G' H H' : Hp} {ρ ρ' : Pm}
mutual
theorem Rp.mono (e : Ex G G') : ∀ {v : V} {d : D}, Rp K G v d → Rp K G' v d
  | _, _, .non => .non
  | _, _, .bl b => .bl b
  | _, _, .int i => .int i
  | _, _, .str s => .str s
  | _, _, .ty n => .ty n
  | _, _, .ref a => .ref a
  | _, _, .tup h r => .tup (ex_t e h) (RpL.mono e r)
  | _, _, .lst h r => .lst (e _ _ h) (RpL.mono e r)
  | _, _, .fro h r => .fro (ex_l e h) (RpL.mono e r)
  | _, _, .dct h k r => .dct (e _ _ h) k (RpL.mono e r)
  | _, _, .ins c h o k r => .ins c (e _ _ h) (e _ _ o) k (RpL.mono e r)
  | _, _, .err c h k r => .err c (e _ _ h) k (RpL.mono e r)
theorem RpL.mono (e : Ex G G') : ∀ {vs : List V} {ds : List D}, RpL K G vs ds → RpL K G' vs ds
  | _, _, .nil => .nil
  | _, _, .cons a b => .cons (Rp.mono e a) (RpL.mono e b)
end
theorem RpL.length : ∀ {vs : List V} {ds : List D}, RpL K G vs ds → vs.length = ds.length
  | _, _, .nil => rfl
  | _, _, .cons _ b => congrArg (· + 1) (RpL.length b)
theorem RpL.get : ∀ {vs : List V} {ds : List D} {i : Nat} {v : V}, RpL K G vs ds → vs[i]? = some v → ∃ d, ds[i]? = some d ∧ Rp K G v d
  | _, _, _, _, .nil, h => by simp at h
  | _, _, 0, _, .cons a _, h => by cases h; exact ⟨_, rfl, a⟩
  | _, _, i + 1, v, .cons _ b, h => RpL.get (i := i) b h
theorem RpL.get' : ∀ {vs : List V} {ds : List D} {i : Nat} {d : D}, RpL K G vs ds → ds[i]? = some d → ∃ v, vs[i]? = some v ∧ Rp K G v d
  | _, _, _, _, .nil, h => by simp at h
  | _, _, 0, _, .cons a _, h => by cases h; exact ⟨_, rfl, a⟩
  | _, _, i + 1, v, .cons _ b, h => RpL.get' (i := i) b h
theorem RpL.take : ∀ {vs : List V} {ds : List D} (n : Nat), RpL K G vs ds → RpL K G (vs.take n) (ds.take n)
  | _, _, 0, _ => .nil
  | _, _, _ + 1, .nil => .nil
  | _, _, n + 1, .cons a b => .cons a (RpL.take n b)
theorem RpL.drop : ∀ {vs : List V} {ds : List D} (n : Nat), RpL K G vs ds → RpL K G (vs.drop n) (ds.drop n)
  | _, _, 0, r => r
  | _, _, _ + 1, .nil => .nil
  | _, _, n + 1, .cons _ b => RpL.drop n b
theorem RpL.append : ∀ {vs ws : List V} {ds es : List D}, RpL K G vs ds → RpL K G ws es → RpL K G (vs ++ ws) (ds ++ es)
  | _, _, _, _, .nil, r => r
  | _, _, _, _, .cons a b, r => .cons a (RpL.append b r)

def DvOk (K : PySem.W.Frag) (ρ : Pm) (G : Hp) (v : V) : DV → Prop
  | .dat d => Rp K G v d
  | .loc n => ∃ a, v = .ref a ∧ ρ n = some a
abbrev DvL (K : PySem.W.Frag) (ρ : Pm) (G : Hp) : List V → List DV → Prop := Paired (DvOk K ρ G)
def DV.below (n : Nat) : DV → Prop
  | .dat _ => True
  | .loc m => m < n
theorem DvOk.mono (e : Ex G G') (hρ : ∀ n a, ρ n = some a → ρ' n = some a) {v : V} : ∀ {x : DV}, DvOk K ρ G v x → DvOk K ρ' G' v x
  | .dat _, h => Rp.mono e h
  | .loc _, ⟨a, h, q⟩ => ⟨a, h, hρ _ _ q⟩
theorem DvL.mono (e : Ex G G') (hρ : ∀ n a, ρ n = some a → ρ' n = some a) {vs : List V} {xs : List DV} (h : DvL K ρ G vs xs) : DvL K ρ' G' vs xs :=
  Paired.mapP h fun _ _ q => q.mono e hρ
def PlOk (K : PySem.W.Frag) (ρ : Pm) (G H : Hp) (n : Nat) : Pl → Prop
  | .lst xs => (∀ x ∈ xs, x.below n) ∧ ∃ a vs, ρ n = some a ∧ H a = some (.lst vs) ∧ DvL K ρ G vs xs
  | .dct kvs => (∀ p ∈ kvs, p.2.below n) ∧ ∃ (a : Addr) (o : HO) (vs : List V), ρ n = some a ∧ H a = some o ∧
      DctIs o (kvs.map (·.1)) vs ∧ DvL K ρ G vs (kvs.map (·.2))
  | .own => ∃ a b, ρ n = some a ∧ H a = some (.own b)
  | .ins nm fs => (∀ p ∈ fs, p.2.below n) ∧ ∃ (a dx C : Addr) (vs : List (Str × V)) (m : Nat), (n = m + 1 ∧ ρ m = some dx) ∧ ρ n = some a ∧ H a = some (.ins C dx vs) ∧ ClsAt K nm C ∧ H dx = some (.own a) ∧
      vs.map (·.1) = fs.map (·.1) ∧ DvL K ρ G (vs.map (·.2)) (fs.map (·.2))
  | .gone => ρ n = none
/-- the places and the data as they stand in the heap -/
structure Rel (K : PySem.W.Frag) (ρ : Pm) (G H : Hp) (μ : Mem) : Prop where
  ex : Ex G H
  inj : ∀ m n a, ρ m = some a → ρ n = some a → m = n
  nG : ∀ n a, ρ n = some a → G a = none
  lt : ∀ n a, ρ n = some a → n < μ.length
  hs : ∀ n a, ρ n = some a → H a ≠ none
  pl : ∀ n p, μ[n]? = some p → PlOk K ρ G H n p
/-- from one heap to a later one: data stays, only places change -/
structure Tr (ρ : Pm) (G H G' H' : Hp) : Prop where
  exG : Ex G G'
  keep : ∀ a o, (∀ n, ρ n ≠ some a) → H a = some o → H' a = some o
  th : ∀ a, H' a = none → H a = none
  nG : ∀ a, G' a ≠ none → G a ≠ none ∨ H a = none
theorem Tr.refl (ρ : Pm) (G H : Hp) : Tr ρ G H G H := ⟨Ex.refl _, fun _ _ _ h => h, fun _ h => h, fun _ h => .inl h⟩
theorem Tr.trans {G1 H1 G2 H2 : Hp} (a : Tr ρ G H G1 H1) (b : Tr ρ G1 H1 G2 H2) : Tr ρ G H G2 H2 where
  exG := a.exG.trans b.exG
  keep := fun c o hc h => b.keep c o hc (a.keep c o hc h)
  th := fun c h => a.th c (b.th c h)
  nG := fun c h => (b.nG c h).elim (a.nG c) fun q => .inr (a.th c q)
theorem Rel.pmono {G1 : Hp} {μ : Mem} (r : Rel K ρ G H μ) {n : Nat} {p : Pl} (h : PlOk K ρ G H n p) (e : Ex G G1) : PlOk K ρ G1 H n p := by
  cases p with
  | lst xs => obtain ⟨b, a, vs, h1, h2, h3⟩ := h; exact ⟨b, a, vs, h1, h2, DvL.mono e (fun _ _ q => q) h3⟩
  | dct kvs => obtain ⟨b, a, o, vs, h1, h2, h4, h3⟩ := h; exact ⟨b, a, o, vs, h1, h2, h4, DvL.mono e (fun _ _ q => q) h3⟩
  | own => exact h
  | ins nm fs => obtain ⟨b, a, dx, C, vs, m, hm, h1, h2, c, h4, h5, h3⟩ := h; exact ⟨b, a, dx, C, vs, m, hm, h1, h2, c, h4, h5, DvL.mono e (fun _ _ q => q) h3⟩
  | gone => exact h
/-- a new object is laid (and is not looked at) -/
theorem Rel.lay {μ : Mem} {p : Addr} {o : HO} (r : Rel K ρ G H μ) (hp : H p = none) : Rel K ρ G (upd H p o) μ ∧ Tr ρ G H G (upd H p o) := by
  have nG : G p = none := by
    cases q : G p with
    | none => rfl
    | some u => rw [r.ex _ _ q] at hp; cases hp
  have ne : ∀ a u, H a = some u → a ≠ p := fun a u h e => by rw [e, hp] at h; cases h
  refine ⟨⟨fun a u h => ?_, r.inj, r.nG, r.lt, fun n a h q => ?_, fun n q h => ?_⟩, ⟨Ex.refl _, fun a u _ h => ?_, fun a h => ?_, fun a h => .inl h⟩⟩
  · rw [upd_ne (ne a u (r.ex a u h))]; exact r.ex a u h
  · have z := r.hs n a h
    by_cases e : a = p
    · rw [e] at z; exact z hp
    · rw [upd_ne e] at q; exact z q
  · have z := r.pl n q h
    cases q with
    | lst xs => obtain ⟨b, a, vs, h1, h2, h3⟩ := z; exact ⟨b, a, vs, h1, by rw [upd_ne (ne _ _ h2)]; exact h2, h3⟩
    | dct kvs => obtain ⟨b, a, o, vs, h1, h2, h3⟩ := z; exact ⟨b, a, o, vs, h1, by rw [upd_ne (ne _ _ h2)]; exact h2, h3⟩
    | own => obtain ⟨a, b, h1, h2⟩ := z; exact ⟨a, b, h1, by rw [upd_ne (ne _ _ h2)]; exact h2⟩
    | ins nm fs => obtain ⟨b, a, dx, C, vs, m, hm, h1, h2, c, h4, h3⟩ := z; exact ⟨b, a, dx, C, vs, m, hm, h1, by rw [upd_ne (ne _ _ h2)]; exact h2, c, by rw [upd_ne (ne _ _ h4)]; exact h4, h3⟩
    | gone => exact z
  · rw [upd_ne (ne a u h)]; exact h
  · by_cases e : a = p
    · rw [e]; exact hp
    · rw [upd_ne e] at h; exact h
/-- an object that stands, is no place and was new at H0, is taken for data -/
theorem Rel.freeze {H0 G0 : Hp} {μ : Mem} {p : Addr} {o : HO} (r : Rel K ρ G H μ) (t : Tr ρ G0 H0 G H) (h : H p = some o) (h0 : H0 p = none) (hg : G p = none) (hn : ∀ n, ρ n ≠ some p) :
    Rel K ρ (upd G p o) H μ ∧ Tr ρ G0 H0 (upd G p o) H ∧ Ex G (upd G p o) := by
  have ex : Ex G (upd G p o) := Ex.new hg
  refine ⟨⟨fun a u q => ?_, r.inj, fun n a q => ?_, r.lt, r.hs, fun n q z => r.pmono (r.pl n q z) ex⟩, ⟨t.exG.trans ex, t.keep, t.th, fun a q => ?_⟩, ex⟩
  · by_cases e : a = p
    · subst e; rw [upd_same] at q; cases q; exact h
    · rw [upd_ne e] at q; exact r.ex a u q
  · have e : a ≠ p := fun e => hn n (e ▸ q)
    rw [upd_ne e]; exact r.nG n a q
  · by_cases e : a = p
    · subst e; exact .inr h0
    · rw [upd_ne e] at q; exact t.nG a q
/-- a new object is laid and taken for data -/
theorem Rel.layD {μ : Mem} {p : Addr} {o : HO} (r : Rel K ρ G H μ) (hp : H p = none) : Rel K ρ (upd G p o) (upd H p o) μ ∧ Tr ρ G H (upd G p o) (upd H p o) ∧ Ex G (upd G p o) := by
  have nG : G p = none := by
    cases q : G p with
    | none => rfl
    | some u => rw [r.ex _ _ q] at hp; cases hp
  obtain ⟨r1, t1⟩ := r.lay (o := o) hp
  exact r1.freeze t1 upd_same hp nG fun n q => r.hs n p q hp
end
end DL
namespace DL
open PySem PySem.Spec PyProof.Rows L2

/-- the slots hold what the environment says -/
structure EnvOk (K : PySem.W.Frag) (ρ : Pm) (G : Hp) (σ : Slots) (δ : Env) : Prop where
  len : σ.length = δ.length
  at_ : ∀ (i : Nat) (x : DV), δ[i]? = some (some x) → ∃ v, σ[i]? = some (some v) ∧ DvOk K ρ G v x
def RpR (K : PySem.W.Frag) (ρ : Pm) (G H0 H : Hp) (v : V) : R → Prop
  | .dat d => Rp K G v d
  | .loc n => ∃ a, v = .ref a ∧ ρ n = some a
  | .nl xs => ∃ a vs, v = .ref a ∧ H a = some (.lst vs) ∧ DvL K ρ G vs xs ∧ G a = none ∧ (∀ n, ρ n ≠ some a) ∧ H0 a = none
  | .nk kvs => ∃ (a : Addr) (o : HO) (vs : List V), v = .ref a ∧ H a = some o ∧ DctIs o (kvs.map (·.1)) vs ∧
      DvL K ρ G vs (kvs.map (·.2)) ∧ G a = none ∧ (∀ n, ρ n ≠ some a) ∧ H0 a = none
def XcOk (K : PySem.W.Frag) (G H : Hp) (x : Xc) (cls : Value) (d : Option Addr) : Prop :=
  (∃ C, ClsAt K x.nm C ∧ cls = .ref C) ∧ ((x.fs = [] ∧ d = none) ∨ ∃ (a : Addr) (vs : List (Str × V)), d = some a ∧ G a = some (.xd vs) ∧
    vs.map (·.1) = x.fs.map (·.1) ∧ RpL K G (vs.map (·.2)) (x.fs.map (·.2)))
def PostG {α β : Type} (K : PySem.W.Frag) (W : WX) (ρ : Pm) (G H : Hp) (σ : Slots) (rp : Hp → Hp → β → α → Prop) (Q : β → Hp → Prop) : Res α → Prop
  | .ok r μ' => ∀ G' H' v, Tr ρ G H G' H' → Rel K ρ G' H' μ' → rp G' H' v r → Q v H'
  | .exc x μ' => ∀ G' H' cls d, Tr ρ G H G' H' → Rel K ρ G' H' μ' → XcOk K G' H' x cls d → W cls d σ H'
  | .bad => False
/-- f tells what t does -/
def SndG {α β : Type} (K : PySem.W.Frag) (W : WX) (t : Slots → Hp → (β → Hp → Prop) → Prop) (f : Env → Mem → Res α)
    (rp : Pm → Hp → Hp → Hp → β → α → Prop) : Prop :=
  ∀ (ρ : Pm) (G H : Hp) (σ : Slots) (δ : Env) (μ : Mem) (Q : β → Hp → Prop), Rel K ρ G H μ → EnvOk K ρ G σ δ →
    PostG K W ρ G H σ (fun G' H' => rp ρ G' H H') Q (f δ μ) → t σ H Q
abbrev rpE (K : PySem.W.Frag) : Pm → Hp → Hp → Hp → V → R → Prop := fun ρ G' H H' v r => RpR K ρ G' H H' v r
abbrev rpV (K : PySem.W.Frag) : Pm → Hp → Hp → Hp → V → DV → Prop := fun ρ G' _ _ v x => DvOk K ρ G' v x
abbrev rpA (K : PySem.W.Frag) : Pm → Hp → Hp → Hp → List V → List DV → Prop := fun ρ G' _ _ v x => DvL K ρ G' v x
abbrev rpT {α : Type} : Pm → Hp → Hp → Hp → α → α → Prop := fun _ _ _ _ v x => v = x
abbrev EM := Env → Mem → Res R
abbrev VM := Env → Mem → Res DV
abbrev AM := Env → Mem → Res (List DV)
abbrev TM := Env → Mem → Res Bool
abbrev SndE (K : PySem.W.Frag) (W : WX) (t : TE) (f : EM) : Prop := SndG K W t f (rpE K)
abbrev SndV (K : PySem.W.Frag) (W : WX) (t : TE) (f : VM) : Prop := SndG K W t f (rpV K)
abbrev SndA (K : PySem.W.Frag) (W : WX) (t : TA) (f : AM) : Prop := SndG K W t f (rpA K)
abbrev SndT (K : PySem.W.Frag) (W : WX) (t : TT) (f : TM) : Prop := SndG K W t f rpT

section
variable {K : PySem.W.Frag} {W : WX} {ρ : Pm} {G H G1 H1 : Hp} {σ : Slots} {δ : Env} {μ : Mem}
theorem EnvOk.mono (e : EnvOk K ρ G σ δ) (x : Ex G G1) : EnvOk K ρ G1 σ δ :=
  ⟨e.len, fun i d h => let ⟨v, a, b⟩ := e.at_ i d h; ⟨v, a, b.mono x fun _ _ q => q⟩⟩
theorem RpR.back {G' H' : Hp} {v : V} (h : ∀ a, H1 a = none → H a = none) : ∀ {r : R}, RpR K ρ G' H1 H' v r → RpR K ρ G' H H' v r
  | .dat _, q => q
  | .loc _, q => q
  | .nl _, ⟨a, vs, h1, h2, h3, h4, h5, h6⟩ => ⟨a, vs, h1, h2, h3, h4, h5, h a h6⟩
  | .nk _, ⟨a, o, vs, h1, h2, h2', h3, h4, h5, h6⟩ => ⟨a, o, vs, h1, h2, h2', h3, h4, h5, h a h6⟩
theorem PostG.shift {α β : Type} {rp rp1 : Hp → Hp → β → α → Prop} {Q : β → Hp → Prop} {out : Res α} (t : Tr ρ G H G1 H1)
    (hr : ∀ G' H' v r, rp1 G' H' v r → rp G' H' v r) (h : PostG K W ρ G H σ rp Q out) : PostG K W ρ G1 H1 σ rp1 Q out := by
  cases out with
  | ok r μ' => exact fun G' H' v t' R' q => h G' H' v (t.trans t') R' (hr _ _ _ _ q)
  | exc x μ' => exact fun G' H' cls d t' R' q => h G' H' cls d (t.trans t') R' q
  | bad => exact h
theorem PostG.shiftE {Q : VK} {out : Res R} (t : Tr ρ G H G1 H1) (h : PostG K W ρ G H σ (fun G' H' => rpE K ρ G' H H') Q out) :
    PostG K W ρ G1 H1 σ (fun G' H' => rpE K ρ G' H1 H') Q out := h.shift t fun _ _ _ _ q => q.back t.th
/-- what comes next of what came first -/
theorem SndG.seq {α α' β β' : Type} {t : Slots → Hp → (β → Hp → Prop) → Prop} {f : Env → Mem → Res α} {rp : Pm → Hp → Hp → Hp → β → α → Prop}
    (h : SndG K W t f rp) (R : Rel K ρ G H μ) (E : EnvOk K ρ G σ δ) {rp' : Hp → Hp → β' → α' → Prop} {Q' : β' → Hp → Prop} {k : α → Mem → Res α'}
    (hp : PostG K W ρ G H σ rp' Q' ((f δ μ).bind k)) {Q : β → Hp → Prop}
    (go : ∀ r μ' G' H' v, Tr ρ G H G' H' → Rel K ρ G' H' μ' → EnvOk K ρ G' σ δ → rp ρ G' H H' v r → PostG K W ρ G H σ rp' Q' (k r μ') → Q v H') : t σ H Q := by
  refine h ρ G H σ δ μ Q R E ?_
  cases e : f δ μ with
  | ok r μ' => rw [e] at hp; exact fun G' H' v t' R' q => go r μ' G' H' v t' R' (E.mono t'.exG) q hp
  | exc x μ' => rw [e] at hp; exact hp
  | bad => rw [e] at hp; exact hp

/-! ### freezing -/
def allDat : List DV → Option (List D)
  | [] => some []
  | .dat d :: xs => (allDat xs).map (d :: ·)
  | .loc _ :: _ => none
def frz : R → Option DV
  | .dat d => some (.dat d)
  | .loc n => some (.loc n)
  | .nl xs => (allDat xs).map fun ds => .dat (.lst ds)
  | .nk _ => none
theorem allDat_map (ds : List D) : allDat (ds.map DV.dat) = some ds := by
  induction ds with
  | nil => rfl
  | cons d r ih => simp [allDat, ih]
theorem allDat_ok : ∀ {xs : List DV} {ds : List D} {vs : List V}, allDat xs = some ds → DvL K ρ G vs xs → RpL K G vs ds
  | [], _, _, h, r => by cases h; cases r; exact .nil
  | .dat d :: xs, ds, vs, h, r => by
    cases r with
    | cons r1 r2 =>
      simp only [allDat] at h
      cases e : allDat xs with
      | none => rw [e] at h; cases h
      | some es => rw [e] at h; cases h; exact .cons r1 (allDat_ok e r2)
  | .loc _ :: _, _, _, h, _ => by cases h
theorem allDat_len : ∀ {xs : List DV} {ds : List D}, allDat xs = some ds → xs.length = ds.length
  | [], _, h => by cases h; rfl
  | .dat d :: xs, ds, h => by
    simp only [allDat] at h
    cases e : allDat xs with
    | none => rw [e] at h; cases h
    | some es => rw [e] at h; cases h; simp [allDat_len e]
  | .loc _ :: _, _, h => by cases h
def frzV (f : EM) : VM := fun δ μ => (f δ μ).bind fun r μ' => match frz r with
  | some x => .ok x μ'
  | none => .bad
theorem RpR.frz {G0 H0 : Hp} {v : V} {r : R} {x : DV} (h : RpR K ρ G H0 H v r) (R : Rel K ρ G H μ) (t : Tr ρ G0 H0 G H) (e : frz r = some x) :
    ∃ G', Tr ρ G0 H0 G' H ∧ Rel K ρ G' H μ ∧ DvOk K ρ G' v x ∧ Ex G G' := by
  cases r with
  | dat d => cases e; exact ⟨G, t, R, h, Ex.refl _⟩
  | loc n => cases e; exact ⟨G, t, R, h, Ex.refl _⟩
  | nl xs =>
    obtain ⟨a, vs, rfl, h2, h3, h4, h5, h6⟩ := h
    simp only [DL.frz] at e
    cases q : allDat xs with
    | none => rw [q] at e; cases e
    | some ds =>
      rw [q] at e; cases e
      obtain ⟨R', t', ex⟩ := R.freeze t h2 h6 h4 h5
      exact ⟨_, t', R', Rp.lst upd_same (RpL.mono ex (allDat_ok q h3)), ex⟩
  | nk kvs => cases e
theorem SndE.toV {t : TE} {f : EM} (h : SndE K W t f) : SndV K W t (frzV f) := fun ρ G H σ δ μ Q R E hp => by
  refine SndG.seq (t := t) h R E hp fun r μ' G' H' v t' R' E' q hp' => ?_
  cases e : frz r with
  | none => rw [e] at hp'; exact hp'.elim
  | some x =>
    rw [e] at hp'
    obtain ⟨G2, t2, R2, d2, _⟩ := RpR.frz q R' t' e
    exact hp' G2 H' v t2 R2 d2
def ofV (x : DV) : R := match x with
  | .dat d => .dat d
  | .loc n => .loc n
theorem RpR.ofV {H0 : Hp} {v : V} {x : DV} (h : DvOk K ρ G v x) : RpR K ρ G H0 H v (ofV x) := by
  cases x <;> exact h
end
/-- an expression, its reading, its function -/
structure PM (X : Cx) (W : WX) (e : Expr) (te : TE) (f : EM) : Prop where
  pe : PE X e te
  sd : SndE X.K W te f
structure PMA (X : Cx) (W : WX) (es : List Expr) (ta : TA) (f : AM) : Prop where
  pe : PA X es ta
  sd : SndA X.K W ta f
structure PMT (X : Cx) (W : WX) (e : Expr) (tt : TT) (f : TM) : Prop where
  pe : PT X e tt
  sd : SndT X.K W tt f
section
variable {X : Cx} {W : WX}
/-! ### names, constants, argument lists, displays -/
def eVar (i : Nat) : EM := fun δ μ => match δ[i]? with
  | some (some x) => .ok (ofV x) μ
  | _ => .bad
def eD (d : D) : EM := fun _ μ => .ok (.dat d) μ
theorem snd_var {K : PySem.W.Frag} (i : Nat) : SndE K W (tVar i) (eVar i) := fun ρ G H σ δ μ Q R E hp => by
  unfold eVar at hp
  match e : δ[i]? with
  | none => rw [e] at hp; exact hp.elim
  | some none => rw [e] at hp; exact hp.elim
  | some (some x) =>
    rw [e] at hp
    obtain ⟨v, hv, d⟩ := E.at_ i x e
    exact ⟨v, hv, hp G H v (Tr.refl _ _ _) R (RpR.ofV d)⟩
theorem snd_c {K : PySem.W.Frag} {v : V} {d : D} (h : ∀ G, Rp K G v d) : SndE K W (tC v) (eD d) := fun ρ G H σ δ μ Q R E hp =>
  hp G H v (Tr.refl _ _ _) R (h G)
theorem pm_var (i : Nat) {x : Str} {pos : Pos} (hN : X.N[i]? = some x := by rfl) (hv : Vis X.env.scope x := by first | exact Or.inl rfl | exact Or.inr (Or.inl rfl) | exact Or.inr (Or.inr rfl))
    (hd : (x == ("__debug__" : Str)) = false := by decide) (hcd : (x == ("__classdict__" : Str)) = false := by decide) : PM X W (.Name x pos) (tVar i) (eVar i) := ⟨pe_var hN hv hd hcd, snd_var i⟩
theorem pm_int {i j pos} : PM X W (.Constant (.int i) j pos) (tC (.int i)) (eD (.int i)) := ⟨pe_int, snd_c fun _ => .int i⟩
theorem pm_str {s j pos} : PM X W (.Constant (.str s) j pos) (tC (.str s)) (eD (.str s)) := ⟨pe_str, snd_c fun _ => .str s⟩
theorem pm_bl {b j pos} : PM X W (.Constant (.bool b) j pos) (tC (.bl b)) (eD (.bl b)) := ⟨pe_bl, snd_c fun _ => .bl b⟩
theorem pm_non {j pos} : PM X W (.Constant .none j pos) (tC .non) (eD .non) := ⟨pe_non, snd_c fun _ => .non⟩
/-- a module's own tuple, list, class: known in every heap -/
theorem pm_glob {x : Str} {v : V} {u : Value} {pos : Pos} {d : D} (hg : Gl X x) (hm : X.mg x = some u) (r : RelV v u) (h : ∀ G, Rp X.K G v d) (hd : (x == ("__debug__" : Str)) = false := by decide) : PM X W (.Name x pos) (tC v) (eD d) := ⟨pe_glob hg hm r hd, snd_c h⟩
def aNil : AM := fun _ μ => .ok [] μ
def aCons (f : EM) (g : AM) : AM := fun δ μ => (frzV f δ μ).bind fun x μ1 => (g δ μ1).bind fun xs μ2 => .ok (x :: xs) μ2
theorem snd_nil {K : PySem.W.Frag} : SndA K W tNil aNil := fun ρ G H σ δ μ Q R E hp => hp G H [] (Tr.refl _ _ _) R .nil
theorem snd_cons {K : PySem.W.Frag} {t : TE} {ts : TA} {f : EM} {g : AM} (h : SndE K W t f) (hs : SndA K W ts g) : SndA K W (tCons t ts) (aCons f g) := fun ρ G H σ δ μ Q R E hp => by
  refine SndG.seq (t := t) h.toV R E hp fun x μ1 G1 H1 v t1 R1 E1 d1 hp1 => ?_
  refine SndG.seq (t := ts) hs R1 E1 (hp1.shift t1 fun _ _ _ _ q => q) fun xs μ2 G2 H2 vs t2 R2 E2 d2 hp2 => ?_
  exact hp2 G2 H2 (v :: vs) t2 R2 (.cons (d1.mono t2.exG fun _ _ q => q) d2)
theorem pma_nil : PMA X W [] tNil aNil := ⟨pa_nil, snd_nil⟩
theorem pma_cons {e : Expr} {es : List Expr} {t : TE} {ts : TA} {f : EM} {g : AM} (h : PM X W e t f) (hs : PMA X W es ts g) (hst : starEach (e :: es) X.env = (false, eval e X.env) :: starEach es X.env := by rfl) : PMA X W (e :: es) (tCons t ts) (aCons f g) :=
  ⟨pa_cons h.pe hs.pe hst, snd_cons h.sd hs.sd⟩
def eTup (g : AM) : EM := fun δ μ => (g δ μ).bind fun xs μ1 => match allDat xs with
  | some ds => if ds.length ≤ sizeLine then .ok (.dat (.tup ds)) μ1 else .bad
  | none => .bad
def eLst (g : AM) : EM := fun δ μ => (g δ μ).bind fun xs μ1 => if xs.length ≤ sizeLine then .ok (.nl xs) μ1 else .bad
theorem pm_tup {es : List Expr} {x1} {pos : Pos} {ts : TA} {g : AM} (h : PMA X W es ts g) : PM X W (.Tuple es x1 pos) (tTup ts) (eTup g) := ⟨pe_tup h.pe, fun ρ G H σ δ μ Q R E hp => by
  refine SndG.seq (t := ts) h.sd R E hp fun xs μ1 G1 H1 vs t1 R1 E1 d1 hp1 => ?_
  match e : allDat xs with
  | none => simp only [e] at hp1; exact hp1.elim
  | some ds =>
    simp only [e] at hp1
    have rl := allDat_ok e d1
    by_cases hz : ds.length ≤ sizeLine
    · rw [if_pos hz] at hp1
      refine ⟨by rw [rl.length]; exact hz, fun p hn => ?_⟩
      obtain ⟨R2, t2, ex⟩ := R1.layD (o := .tup vs) hn
      exact hp1 _ _ _ (t1.trans t2) R2 (Rp.tup (.inl (.inl upd_same)) (rl.mono ex))
    · rw [if_neg hz] at hp1; exact hp1.elim⟩
theorem fresh_ne {K : PySem.W.Frag} {ρ : Pm} {G H : Hp} {μ : Mem} {p : Addr} (R : Rel K ρ G H μ) (hp : H p = none) : G p = none ∧ ∀ n, ρ n ≠ some p := by
  refine ⟨?_, fun n q => R.hs n p q hp⟩
  cases q : G p with
  | none => rfl
  | some u => rw [R.ex _ _ q] at hp; cases hp
theorem paired_len {α β : Type} {P : α → β → Prop} : ∀ {l : List α} {m : List β}, Paired P l m → l.length = m.length
  | _, _, .nil => rfl
  | _, _, .cons _ t => congrArg (· + 1) (paired_len t)
/-- a new list is laid at p -/
theorem new_list {K : PySem.W.Frag} {ρ : Pm} {G H G0 H0 : Hp} {μ : Mem} {p : Addr} {vs : List V} {xs : List DV} {σ : Slots} {Q : VK} (R : Rel K ρ G H μ) (t : Tr ρ G0 H0 G H) (hn : H p = none) (d : DvL K ρ G vs xs)
    (hp : PostG K W ρ G0 H0 σ (fun G' H' => rpE K ρ G' H0 H') Q (.ok (.nl xs) μ)) : Q (.ref p) (upd H p (.lst vs)) := by
  obtain ⟨R2, t2⟩ := R.lay (o := .lst vs) hn
  obtain ⟨n1, n2⟩ := fresh_ne R hn
  exact hp _ _ _ (t.trans t2) R2 ⟨p, vs, rfl, upd_same, d, n1, n2, t.th p hn⟩
theorem pm_lst {es : List Expr} {pos : Pos} {ts : TA} {g : AM} (h : PMA X W es ts g) : PM X W (.List es pos) (tLst ts) (eLst g) := ⟨pe_lst h.pe, fun ρ G H σ δ μ Q R E hp => by
  refine SndG.seq (t := ts) h.sd R E hp fun xs μ1 G1 H1 vs t1 R1 E1 d1 hp1 => ?_
  by_cases hz : xs.length ≤ sizeLine
  · rw [if_pos hz] at hp1
    exact ⟨by rw [paired_len d1]; exact hz, fun p hn => new_list R1 t1 hn d1 hp1⟩
  · rw [if_neg hz] at hp1; exact hp1.elim⟩
/-! ### operators and calls by their values -/
/-- r is what g tells of two values -/
def OpD (K : PySem.W.Frag) (r : R2) (g : DV → DV → Mem → Res R) : Prop := ∀ (W : WX) (ρ : Pm) (G H : Hp) (σ : Slots) (μ : Mem) (v w : V) (x y : DV) (Q : VK), Rel K ρ G H μ → DvOk K ρ G v x → DvOk K ρ G w y →
  PostG K W ρ G H σ (fun G' H' => rpE K ρ G' H H') Q (g x y μ) → r v w H Q
def eOp (g : DV → DV → Mem → Res R) (fa fb : EM) : EM := fun δ μ => (frzV fa δ μ).bind fun x μ1 => (frzV fb δ μ1).bind fun y μ2 => g x y μ2
theorem snd_op {K : PySem.W.Frag} {r : R2} {g : DV → DV → Mem → Res R} {ta tb : TE} {fa fb : EM} (ho : OpD K r g) (ha : SndE K W ta fa) (hb : SndE K W tb fb) : SndE K W (tOp r ta tb) (eOp g fa fb) := fun ρ G H σ δ μ Q R E hp => by
  refine SndG.seq (t := ta) ha.toV R E hp fun x μ1 G1 H1 v t1 R1 E1 d1 hp1 => ?_
  refine SndG.seq (t := tb) hb.toV R1 E1 (hp1.shiftE t1) fun y μ2 G2 H2 w t2 R2 E2 d2 hp2 => ?_
  exact ho W ρ G2 H2 σ μ2 v w x y Q R2 (d1.mono t2.exG fun _ _ q => q) d2 (hp2.shiftE t2)
def CallD (K : PySem.W.Frag) (r : List V → Hp → VK → Prop) (g : List DV → Mem → Res R) : Prop := ∀ (W : WX) (ρ : Pm) (G H : Hp) (σ : Slots) (μ : Mem) (vs : List V) (xs : List DV) (Q : VK), Rel K ρ G H μ → DvL K ρ G vs xs →
  PostG K W ρ G H σ (fun G' H' => rpE K ρ G' H H') Q (g xs μ) → r vs H Q
def eCB (g : List DV → Mem → Res R) (fa : AM) : EM := fun δ μ => (fa δ μ).bind fun xs μ1 => g xs μ1
theorem snd_cb {K : PySem.W.Frag} {r : List V → Hp → VK → Prop} {g : List DV → Mem → Res R} {ta : TA} {fa : AM} (ho : CallD K r g) (ha : SndA K W ta fa) : SndE K W (tCB r ta) (eCB g fa) := fun ρ G H σ δ μ Q R E hp => by
  refine SndG.seq (t := ta) ha R E hp fun xs μ1 G1 H1 vs t1 R1 E1 d1 hp1 => ?_
  exact ho W ρ G1 H1 σ μ1 vs xs Q R1 d1 (hp1.shiftE t1)
theorem pm_op {a b : Expr} {op : Operator} {r : R2} {g : DV → DV → Mem → Res R} {ta tb : TE} {fa fb : EM} {pos : Pos} (ho : OpR X (binaryOp op) r) (hd : OpD X.K r g) (ha : PM X W a ta fa) (hb : PM X W b tb fb) : PM X W (.BinOp a op b pos) (tOp r ta tb) (eOp g fa fb) :=
  ⟨pe_op ho ha.pe hb.pe, snd_op hd ha.sd hb.sd⟩
theorem pm_cmp {a b : Expr} {op : CmpOp} {r : R2} {g : DV → DV → Mem → Res R} {ta tb : TE} {fa fb : EM} {pos : Pos} (ho : OpR X (compareOp op) r) (hd : OpD X.K r g) (ha : PM X W a ta fa) (hb : PM X W b tb fb) (hm : behindInMarks op b = false) : PM X W (.Compare a [op] [b] pos) (tOp r ta tb) (eOp g fa fb) :=
  ⟨pe_cmpR ho ha.pe hb.pe hm, snd_op hd ha.sd hb.sd⟩
theorem pm_ix {a b : Expr} {r : R2} {g : DV → DV → Mem → Res R} {ta tb : TE} {fa fb : EM} {pos : Pos} (ho : IxR X r) (hd : OpD X.K r g) (ha : PM X W a ta fa) (hb : PM X W b tb fb) (hs : PlainIx b) : PM X W (.Subscript a b pos) (tOp r ta tb) (eOp g fa fb) :=
  ⟨pe_ix ho ha.pe hb.pe hs, snd_op hd ha.sd hb.sd⟩
end
end DL
namespace DL
open PySem PySem.Spec PyProof.Rows L2

inductive Out where
  | next (δ : Env) (μ : Mem) | ret (r : R) (μ : Mem) | brk (δ : Env) (μ : Mem) | cnt (δ : Env) (μ : Mem)
  | exc (x : Xc) (δ : Env) (μ : Mem) | bad
abbrev SM := Nat → Env → Mem → Out
/-- over statements: places may come and (those from N on) be taken for data -/
structure TrS (N : Nat) (ρ : Pm) (G H : Hp) (ρ' : Pm) (G' H' : Hp) : Prop where
  pre : ∀ n, n < N → ρ' n = ρ n
  exG : Ex G G'
  keep : ∀ a o, (∀ n, ρ n ≠ some a) → H a = some o → H' a = some o
  th : ∀ a, H' a = none → H a = none
  nG : ∀ a, G' a ≠ none → G a ≠ none ∨ H a = none ∨ ∃ n, N ≤ n ∧ ρ n = some a
  nρ : ∀ n a, ρ' n = some a → ρ n = some a ∨ H a = none
section
variable {K : PySem.W.Frag} {W : WX} {N : Nat} {ρ ρ1 ρ2 : Pm} {G H G1 H1 G2 H2 : Hp} {σ : Slots} {δ : Env} {μ : Mem} {D : Ends}
theorem TrS.refl (N : Nat) (ρ : Pm) (G H : Hp) : TrS N ρ G H ρ G H := ⟨fun _ _ => rfl, Ex.refl _, fun _ _ _ h => h, fun _ h => h, fun _ h => .inl h, fun _ _ h => .inl h⟩
theorem TrS.trans (a : TrS N ρ G H ρ1 G1 H1) (b : TrS N ρ1 G1 H1 ρ2 G2 H2) : TrS N ρ G H ρ2 G2 H2 where
  pre := fun n h => (b.pre n h).trans (a.pre n h)
  exG := a.exG.trans b.exG
  keep := fun c o hc h => b.keep c o (fun n q => (a.nρ n c q).elim (hc n) fun z => by rw [z] at h; cases h) (a.keep c o hc h)
  th := fun c h => a.th c (b.th c h)
  nG := fun c h => (b.nG c h).elim (a.nG c) fun q => q.elim (fun q => .inr (.inl (a.th c q))) fun ⟨n, hn, q⟩ => (a.nρ n c q).elim (fun z => .inr (.inr ⟨n, hn, z⟩)) fun z => .inr (.inl z)
  nρ := fun n c h => (b.nρ n c h).elim (a.nρ n c) fun q => .inr (a.th c q)
theorem Tr.toS (t : Tr ρ G H G1 H1) : TrS N ρ G H ρ G1 H1 :=
  ⟨fun _ _ => rfl, t.exG, t.keep, t.th, fun a h => (t.nG a h).elim .inl fun q => .inr (.inl q), fun _ _ h => .inl h⟩
def PostS (K : PySem.W.Frag) (W : WX) (N : Nat) (ρ : Pm) (G H : Hp) (D : Ends) : Out → Prop
  | .next δ' μ' => ∀ ρ' G' H' σ', TrS N ρ G H ρ' G' H' → Rel K ρ' G' H' μ' → EnvOk K ρ' G' σ' δ' → D.nx σ' H'
  | .ret r μ' => ∀ ρ' G' H' v, TrS N ρ G H ρ' G' H' → Rel K ρ' G' H' μ' → RpR K ρ' G' H H' v r → D.rt v H'
  | .brk δ' μ' => ∀ ρ' G' H' σ', TrS N ρ G H ρ' G' H' → Rel K ρ' G' H' μ' → EnvOk K ρ' G' σ' δ' → D.bk σ' H'
  | .cnt δ' μ' => ∀ ρ' G' H' σ', TrS N ρ G H ρ' G' H' → Rel K ρ' G' H' μ' → EnvOk K ρ' G' σ' δ' → D.ct σ' H'
  | .exc x δ' μ' => ∀ ρ' G' H' σ' cls d, TrS N ρ G H ρ' G' H' → Rel K ρ' G' H' μ' → EnvOk K ρ' G' σ' δ' → XcOk K G' H' x cls d → W cls d σ' H'
  | .bad => False
def SndS (K : PySem.W.Frag) (W : WX) (t : TS) (g : SM) : Prop :=
  ∀ (N : Nat) (ρ : Pm) (G H : Hp) (σ : Slots) (δ : Env) (μ : Mem) (D : Ends), Rel K ρ G H μ → EnvOk K ρ G σ δ →
    PostS K W N ρ G H D (g N δ μ) → t D σ H
theorem PostS.shift {out : Out} (t : TrS N ρ G H ρ1 G1 H1) (h : PostS K W N ρ G H D out) : PostS K W N ρ1 G1 H1 D out := by
  cases out with
  | next δ' μ' => exact fun ρ' G' H' σ' t' => h ρ' G' H' σ' (t.trans t')
  | ret r μ' => exact fun ρ' G' H' v t' R' q => h ρ' G' H' v (t.trans t') R' (q.back t.th)
  | brk δ' μ' => exact fun ρ' G' H' σ' t' => h ρ' G' H' σ' (t.trans t')
  | cnt δ' μ' => exact fun ρ' G' H' σ' t' => h ρ' G' H' σ' (t.trans t')
  | exc x δ' μ' => exact fun ρ' G' H' σ' cls d t' => h ρ' G' H' σ' cls d (t.trans t')
  | bad => exact h
/-- a statement that begins with an expression -/
theorem SndG.stm {α β : Type} {t : Slots → Hp → (β → Hp → Prop) → Prop} {f : Env → Mem → Res α} {rp : Pm → Hp → Hp → Hp → β → α → Prop}
    (h : SndG K W t f rp) (R : Rel K ρ G H μ) (E : EnvOk K ρ G σ δ) {k : α → Mem → Out}
    (hp : PostS K W N ρ G H D (match f δ μ with | .ok r μ' => k r μ' | .exc x μ' => .exc x δ μ' | .bad => .bad)) {Q : β → Hp → Prop}
    (go : ∀ r μ' G' H' v, Tr ρ G H G' H' → Rel K ρ G' H' μ' → EnvOk K ρ G' σ δ → rp ρ G' H H' v r → PostS K W N ρ G H D (k r μ') → Q v H') : t σ H Q := by
  refine h ρ G H σ δ μ Q R E ?_
  cases e : f δ μ with
  | ok r μ' => rw [e] at hp; exact fun G' H' v t' R' q => go r μ' G' H' v t' R' (E.mono t'.exG) q hp
  | exc x μ' => rw [e] at hp; exact fun G' H' cls d t' R' q => hp ρ G' H' σ cls d t'.toS R' (E.mono t'.exG) q
  | bad => rw [e] at hp; exact hp
/-! ### blocks -/
def lift {α : Type} (r : Res α) (δ : Env) (k : α → Mem → Out) : Out := match r with
  | .ok a μ => k a μ
  | .exc x μ => .exc x δ μ
  | .bad => .bad
def gNext : SM := fun _ δ μ => .next δ μ
def gSeq (g h : SM) : SM := fun N δ μ => match g N δ μ with
  | .next δ' μ' => h N δ' μ'
  | .ret r μ' => .ret r μ'
  | .brk δ' μ' => .brk δ' μ'
  | .cnt δ' μ' => .cnt δ' μ'
  | .exc x δ' μ' => .exc x δ' μ'
  | .bad => .bad
theorem snd_next : SndS K W tNext gNext := fun N ρ G H σ δ μ D R E hp => hp ρ G H σ (TrS.refl _ _ _ _) R E
theorem snd_seq {t u : TS} {g h : SM} (h1 : SndS K W t g) (h2 : SndS K W u h) : SndS K W (tSeq t u) (gSeq g h) := fun N ρ G H σ δ μ D R E hp => by
  refine h1 N ρ G H σ δ μ { D with nx := u D } R E ?_
  unfold gSeq at hp
  cases e : g N δ μ with
  | next δ' μ' => rw [e] at hp; exact fun ρ' G' H' σ' t' R' E' => h2 N ρ' G' H' σ' δ' μ' D R' E' (hp.shift t')
  | ret r μ' => rw [e] at hp; exact hp
  | brk δ' μ' => rw [e] at hp; exact hp
  | cnt δ' μ' => rw [e] at hp; exact hp
  | exc x δ' μ' => rw [e] at hp; exact hp
  | bad => rw [e] at hp; exact hp
/-! ### simple statements -/
theorem EnvOk.set {v : V} {x : DV} (i : Nat) (E : EnvOk K ρ G σ δ) (h : DvOk K ρ G v x) : EnvOk K ρ G (σ.set i (some v)) (δ.set i (some x)) := by
  refine ⟨by simp [E.len], fun j y hj => ?_⟩
  by_cases e : i = j
  · subst e
    have hl : i < δ.length := by
      by_cases hl : i < δ.length
      · exact hl
      · rw [List.getElem?_eq_none (by simp; omega)] at hj; cases hj
    rw [List.getElem?_set_self hl] at hj
    cases hj
    exact ⟨v, List.getElem?_set_self (by rw [E.len]; exact hl), h⟩
  · rw [List.getElem?_set_ne e] at hj
    obtain ⟨w, h1, h2⟩ := E.at_ j y hj
    exact ⟨w, by rw [List.getElem?_set_ne e]; exact h1, h2⟩
def gAsg (i : Nat) (f : EM) : SM := fun _ δ μ => lift (frzV f δ μ) δ fun x μ' => .next (δ.set i (some x)) μ'
theorem snd_asg {te : TE} {f : EM} (i : Nat) (h : SndE K W te f) : SndS K W (tAsg te (gName i)) (gAsg i f) := fun N ρ G H σ δ μ D R E hp =>
  SndG.stm (t := te) h.toV R E hp fun x μ' G' H' v t' R' E' d hp' => hp' ρ G' H' _ t'.toS R' (E'.set i d)
def gDrop (f : EM) : SM := fun _ δ μ => lift (f δ μ) δ fun _ μ' => .next δ μ'
theorem snd_drop {te : TE} {f : EM} (h : SndE K W te f) : SndS K W (tDrop te) (gDrop f) := fun N ρ G H σ δ μ D R E hp =>
  SndG.stm (t := te) h R E hp fun x μ' G' H' v t' R' E' d hp' => hp' ρ G' H' _ t'.toS R' E'
def gRet (f : EM) : SM := fun _ δ μ => lift (f δ μ) δ fun r μ' => .ret r μ'
theorem snd_ret {te : TE} {f : EM} (h : SndE K W te f) : SndS K W (tRet te) (gRet f) := fun N ρ G H σ δ μ D R E hp =>
  SndG.stm (t := te) h R E hp fun x μ' G' H' v t' R' E' d hp' => hp' ρ G' H' _ t'.toS R' d
def gIf (f : TM) (g h : SM) : SM := fun N δ μ => lift (f δ μ) δ fun b μ' => if b = true then g N δ μ' else h N δ μ'
theorem snd_if {tc : TT} {t u : TS} {f : TM} {g h : SM} (hc : SndT K W tc f) (h1 : SndS K W t g) (h2 : SndS K W u h) : SndS K W (tIfS tc t u) (gIf f g h) := fun N ρ G H σ δ μ D R E hp => by
  refine SndG.stm (t := tc) hc R E hp fun b μ' G' H' v t' R' E' d hp' => ?_
  subst d
  cases v with
  | true => exact h1 N ρ G' H' σ δ μ' D R' E' (PostS.shift t'.toS hp')
  | false => exact h2 N ρ G' H' σ δ μ' D R' E' (PostS.shift t'.toS hp')
def gBrk : SM := fun _ δ μ => .brk δ μ
def gCnt : SM := fun _ δ μ => .cnt δ μ
theorem snd_brk : SndS K W tBreak gBrk := fun N ρ G H σ δ μ D R E hp => hp ρ G H σ (TrS.refl _ _ _ _) R E
theorem snd_cnt : SndS K W tCont gCnt := fun N ρ G H σ δ μ D R E hp => hp ρ G H σ (TrS.refl _ _ _ _) R E
/-! ### a new place -/
theorem DvOk.below {v : V} {x : DV} (R : Rel K ρ G H μ) (h : DvOk K ρ G v x) : x.below μ.length := by
  cases x with
  | dat d => trivial
  | loc n => obtain ⟨a, _, q⟩ := h; exact R.lt n a q
theorem DvL.below {vs : List V} {xs : List DV} (R : Rel K ρ G H μ) (h : DvL K ρ G vs xs) : ∀ x ∈ xs, x.below μ.length := by
  intro x hx
  induction h with
  | nil => cases hx
  | cons r _ ih =>
    rcases List.mem_cons.mp hx with e | e
    · rw [e]; exact DvOk.below R r
    · exact ih e
def addP (ρ : Pm) (n : Nat) (a : Addr) : Pm := fun m => if m = n then some a else ρ m
theorem Rel.alloc {ρ0 : Pm} {G0 H0 : Hp} {a : Addr} {p : Pl} (R : Rel K ρ G H μ) (hN : N ≤ μ.length) (t : TrS N ρ0 G0 H0 ρ G H) (hs : H a ≠ none) (hg : G a = none) (hn : ∀ n, ρ n ≠ some a) (h0 : H0 a = none)
    (hp : PlOk K (addP ρ μ.length a) G H μ.length p) : Rel K (addP ρ μ.length a) G H (μ ++ [p]) ∧ TrS N ρ0 G0 H0 (addP ρ μ.length a) G H ∧ (∀ n b, ρ n = some b → addP ρ μ.length a n = some b) ∧ addP ρ μ.length a μ.length = some a := by
  have up : ∀ n b, ρ n = some b → addP ρ μ.length a n = some b := fun n b q => by
    unfold addP; rw [if_neg (Nat.ne_of_lt (R.lt n b q))]; exact q
  have dn : ∀ n b, addP ρ μ.length a n = some b → (n = μ.length ∧ b = a) ∨ ρ n = some b := fun n b q => by
    unfold addP at q
    by_cases e : n = μ.length
    · rw [if_pos e] at q; exact .inl ⟨e, (Option.some.inj q).symm⟩
    · rw [if_neg e] at q; exact .inr q
  refine ⟨⟨R.ex, fun m n b h1 h2 => ?_, fun n b h => ?_, fun n b h => ?_, fun n b h => ?_, fun n q h => ?_⟩, ⟨fun n h => ?_, t.exG, t.keep, t.th, t.nG, fun n b q => ?_⟩, up, by unfold addP; rw [if_pos rfl]⟩
  · rcases dn m b h1 with ⟨e1, e2⟩ | q1
    · rcases dn n b h2 with ⟨e3, _⟩ | q2
      · rw [e1, e3]
      · exact absurd (e2 ▸ q2) (hn n)
    · rcases dn n b h2 with ⟨_, e4⟩ | q2
      · exact absurd (e4 ▸ q1) (hn m)
      · exact R.inj m n b q1 q2
  · rcases dn n b h with ⟨_, e⟩ | q
    · rw [e]; exact hg
    · exact R.nG n b q
  · rw [List.length_append, List.length_singleton]
    rcases dn n b h with ⟨e, _⟩ | q
    · omega
    · have := R.lt n b q; omega
  · rcases dn n b h with ⟨_, e⟩ | q
    · rw [e]; exact hs
    · exact R.hs n b q
  · by_cases e : n < μ.length
    · rw [List.getElem?_append_left e] at h
      have z := R.pl n q h
      cases q with
      | lst xs => obtain ⟨b, c, vs, h1, h2, h3⟩ := z; exact ⟨b, c, vs, up _ _ h1, h2, DvL.mono (Ex.refl _) up h3⟩
      | dct xs => obtain ⟨b, c, o, vs, h1, h2, h4, h3⟩ := z; exact ⟨b, c, o, vs, up _ _ h1, h2, h4, DvL.mono (Ex.refl _) up h3⟩
      | own => obtain ⟨a, b, h1, h2⟩ := z; exact ⟨a, b, up _ _ h1, h2⟩
      | ins nm fs => obtain ⟨b, c, dx, C, vs, m, hm, h1, h2, cl, h4, h5, h3⟩ := z; exact ⟨b, c, dx, C, vs, m, ⟨hm.1, up _ _ hm.2⟩, up _ _ h1, h2, cl, h4, h5, DvL.mono (Ex.refl _) up h3⟩
      | gone => show addP ρ μ.length a n = none; unfold addP; rw [if_neg (by omega)]; exact z
    · rw [List.getElem?_append_right (by omega)] at h
      have e2 : n = μ.length := by
        cases k : n - μ.length with
        | zero => omega
        | succ j => rw [k] at h; simp at h
      subst e2
      rw [Nat.sub_self] at h
      cases h
      exact hp
  · unfold addP; rw [if_neg (by omega)]; exact t.pre n h
  · rcases dn n b q with ⟨_, e⟩ | q
    · rw [e]; exact .inr h0
    · exact t.nρ n b q
/-- what is given is bound to a name: a new list is a place from now on -/
def bindR (N i : Nat) (r : R) (δ : Env) (μ : Mem) : Out := match r with
  | .dat d => .next (δ.set i (some (.dat d))) μ
  | .loc n => .next (δ.set i (some (.loc n))) μ
  | .nl xs => if N ≤ μ.length then .next (δ.set i (some (.loc μ.length))) (μ ++ [.lst xs]) else .bad
  | .nk kvs => if N ≤ μ.length then .next (δ.set i (some (.loc μ.length))) (μ ++ [.dct kvs]) else .bad
theorem EnvOk.up (E : EnvOk K ρ G σ δ) (x : Ex G G1) (up : ∀ n b, ρ n = some b → ρ1 n = some b) : EnvOk K ρ1 G1 σ δ :=
  ⟨E.len, fun i y h => let ⟨v, a, b⟩ := E.at_ i y h; ⟨v, a, b.mono x up⟩⟩
theorem snd_bindR {r : R} {v : V} {G0 H0 : Hp} (i : Nat) (R' : Rel K ρ G H μ) (E' : EnvOk K ρ G σ δ) (t' : TrS N ρ G0 H0 ρ G H) (d : RpR K ρ G H0 H v r)
    (hp : PostS K W N ρ G0 H0 D (bindR N i r δ μ)) : D.nx (σ.set i (some v)) H := by
  cases r with
  | dat d' => exact hp ρ G H _ t' R' (E'.set i (x := .dat d') d)
  | loc n => exact hp ρ G H _ t' R' (E'.set i (x := .loc n) d)
  | nl xs =>
    obtain ⟨a, vs, rfl, h2, h3, h4, h5, h6⟩ := d
    have up : ∀ n b, ρ n = some b → addP ρ μ.length a n = some b := fun n b q => by
      unfold addP; rw [if_neg (Nat.ne_of_lt (R'.lt n b q))]; exact q
    unfold bindR at hp
    by_cases hN : N ≤ μ.length
    case neg => simp only [if_neg hN] at hp; exact hp.elim
    simp only [if_pos hN] at hp
    obtain ⟨R2, t2, up, at_⟩ := R'.alloc (p := .lst xs) hN t' (by rw [h2]; simp) h4 h5 h6 ⟨DvL.below R' h3, a, vs, by unfold addP; rw [if_pos rfl], h2, DvL.mono (Ex.refl _) up h3⟩
    exact hp _ G H _ t2 R2 ((E'.up (Ex.refl _) up).set i (x := .loc μ.length) ⟨a, rfl, at_⟩)
  | nk kvs =>
    obtain ⟨a, o, vs, rfl, h2, hk, h3, h4, h5, h6⟩ := d
    have up : ∀ n b, ρ n = some b → addP ρ μ.length a n = some b := fun n b q => by
      unfold addP; rw [if_neg (Nat.ne_of_lt (R'.lt n b q))]; exact q
    have bl : ∀ p ∈ kvs, p.2.below μ.length := fun p hp => DvL.below R' h3 p.2 (List.mem_map.mpr ⟨p, hp, rfl⟩)
    unfold bindR at hp
    by_cases hN : N ≤ μ.length
    case neg => simp only [if_neg hN] at hp; exact hp.elim
    simp only [if_pos hN] at hp
    obtain ⟨R2, t2, up, at_⟩ := R'.alloc (p := .dct kvs) hN t' (by rw [h2]; simp) h4 h5 h6 ⟨bl, a, o, vs, by unfold addP; rw [if_pos rfl], h2, hk, DvL.mono (Ex.refl _) up h3⟩
    exact hp _ G H _ t2 R2 ((E'.up (Ex.refl _) up).set i (x := .loc μ.length) ⟨a, rfl, at_⟩)
def gNew (i : Nat) (f : EM) : SM := fun N δ μ => lift (f δ μ) δ fun r μ' => bindR N i r δ μ'
theorem snd_new {te : TE} {f : EM} (i : Nat) (h : SndE K W te f) : SndS K W (tAsg te (gName i)) (gNew i f) := fun N ρ G H σ δ μ D R E hp =>
  SndG.stm (t := te) h R E hp fun x μ' G' H' v t' R' E' d hp' => snd_bindR i R' E' t'.toS d hp'
end
end DL
namespace DL
open PySem PySem.Spec PyProof.Rows L2

/-! ### what is forgotten: places from M on, slots that are not kept -/
def cutV (M : Nat) : Option DV → Option DV
  | some (.loc n) => if n < M then some (.loc n) else none
  | some (.dat d) => some (.dat d)
  | none => none
def cut (M : Nat) : List Bool → Env → Env
  | _, [] => []
  | [], _ :: δ => none :: cut M [] δ
  | b :: bs, x :: δ => (if b = true then cutV M x else none) :: cut M bs δ
def resP (M : Nat) (ρ : Pm) : Pm := fun n => if n < M then ρ n else none
theorem cut_len (M : Nat) : ∀ (bs : List Bool) (δ : Env), (cut M bs δ).length = δ.length
  | [], [] => rfl
  | _ :: _, [] => rfl
  | [], _ :: δ => congrArg (· + 1) (cut_len M [] δ)
  | _ :: bs, _ :: δ => congrArg (· + 1) (cut_len M bs δ)
theorem cutV_some {M : Nat} {o : Option DV} {x : DV} (h : cutV M o = some x) : o = some x ∧ x.below M := by
  match o, h with
  | some (.dat d), h => cases h; exact ⟨rfl, trivial⟩
  | some (.loc n), h =>
    simp only [cutV] at h
    by_cases e : n < M
    · rw [if_pos e] at h; cases h; exact ⟨rfl, e⟩
    · rw [if_neg e] at h; cases h
theorem cut_at (M : Nat) : ∀ (bs : List Bool) (δ : Env) (i : Nat) (x : DV), (cut M bs δ)[i]? = some (some x) → δ[i]? = some (some x) ∧ x.below M
  | [], [], i, x, h => by simp [cut] at h
  | _ :: _, [], i, x, h => by simp [cut] at h
  | [], _ :: δ, 0, x, h => by simp [cut] at h
  | [], _ :: δ, i + 1, x, h => cut_at M [] δ i x (by simpa [cut] using h)
  | b :: bs, y :: δ, 0, x, h => by
    simp only [cut, List.getElem?_cons_zero, Option.some.injEq] at h
    by_cases hb : b = true
    · rw [if_pos hb] at h
      obtain ⟨e, q⟩ := cutV_some h
      exact ⟨by rw [e]; rfl, q⟩
    · rw [if_neg hb] at h; cases h
  | b :: bs, y :: δ, i + 1, x, h => cut_at M bs δ i x (by simpa [cut] using h)
section
variable {K : PySem.W.Frag} {W : WX} {N M : Nat} {ρ ρ0 ρ1 ρ2 : Pm} {G H G0 H0 G1 H1 G2 H2 : Hp} {σ : Slots} {δ : Env} {μ : Mem} {Dn : Ends}
theorem resP_some {n : Nat} {a : Addr} (h : resP M ρ n = some a) : n < M ∧ ρ n = some a := by
  unfold resP at h
  by_cases e : n < M
  · rw [if_pos e] at h; exact ⟨e, h⟩
  · rw [if_neg e] at h; cases h
theorem resP_of {n : Nat} {a : Addr} (e : n < M) (h : ρ n = some a) : resP M ρ n = some a := by unfold resP; rw [if_pos e]; exact h
theorem DvOk.res {v : V} {x : DV} (h : DvOk K ρ G v x) (b : x.below M) : DvOk K (resP M ρ) G v x := by
  cases x with
  | dat d => exact h
  | loc n => obtain ⟨a, e, q⟩ := h; exact ⟨a, e, resP_of b q⟩
theorem DvL.res {vs : List V} {xs : List DV} (h : DvL K ρ G vs xs) (b : ∀ x ∈ xs, x.below M) : DvL K (resP M ρ) G vs xs := by
  induction h with
  | nil => exact .nil
  | cons r _ ih => exact .cons (r.res (b _ List.mem_cons_self)) (ih fun x hx => b x (List.mem_cons_of_mem _ hx))
theorem DV.below.mono {m n : Nat} {x : DV} (h : x.below m) (e : m ≤ n) : x.below n := by
  cases x with
  | dat d => trivial
  | loc k => exact Nat.lt_of_lt_of_le h e
theorem Rel.cut (R : Rel K ρ G H μ) (M : Nat) : Rel K (resP M ρ) G H (μ.take M) := by
  refine ⟨R.ex, fun m n a h1 h2 => R.inj m n a (resP_some h1).2 (resP_some h2).2, fun n a h => R.nG n a (resP_some h).2, fun n a h => ?_, fun n a h => R.hs n a (resP_some h).2, fun n p h => ?_⟩
  · obtain ⟨e, q⟩ := resP_some h
    have := R.lt n a q
    rw [List.length_take]; omega
  · have hn : n < M := by
      by_cases e : n < M
      · exact e
      · rw [List.getElem?_eq_none (by rw [List.length_take]; omega)] at h; cases h
    rw [List.getElem?_take_of_lt hn] at h
    have z := R.pl n p h
    cases p with
    | lst xs => obtain ⟨b, a, vs, h1, h2, h3⟩ := z; exact ⟨b, a, vs, resP_of hn h1, h2, h3.res fun x hx => (b x hx).mono (Nat.le_of_lt hn)⟩
    | dct kvs =>
      obtain ⟨b, a, o, vs, h1, h2, h4, h3⟩ := z
      refine ⟨b, a, o, vs, resP_of hn h1, h2, h4, h3.res fun x hx => ?_⟩
      obtain ⟨p, hp, rfl⟩ := List.mem_map.mp hx
      exact (b p hp).mono (Nat.le_of_lt hn)
    | ins nm fs =>
      obtain ⟨b, a, dx, C, vs, m, hm, h1, h2, cl, h4, h5, h3⟩ := z
      refine ⟨b, a, dx, C, vs, m, ⟨hm.1, resP_of (by omega) hm.2⟩, resP_of hn h1, h2, cl, h4, h5, h3.res fun x hx => ?_⟩
      obtain ⟨p, hp, rfl⟩ := List.mem_map.mp hx
      exact (b p hp).mono (Nat.le_of_lt hn)
    | own => obtain ⟨a, b, h1, h2⟩ := z; exact ⟨a, b, resP_of hn h1, h2⟩
    | gone => show resP M ρ n = none; unfold resP; rw [if_pos hn]; exact z
theorem EnvOk.cut (E : EnvOk K ρ G σ δ) (M : Nat) (bs : List Bool) : EnvOk K (resP M ρ) G σ (cut M bs δ) :=
  ⟨by rw [cut_len]; exact E.len, fun i x h => let ⟨h1, h2⟩ := cut_at M bs δ i x h; let ⟨v, a, b⟩ := E.at_ i x h1; ⟨v, a, b.res h2⟩⟩
theorem TrS.cut (t : TrS N ρ0 G0 H0 ρ G H) (h : ∀ n a, ρ0 n = some a → n < M) : TrS N ρ0 G0 H0 (resP M ρ) G H where
  pre := fun n hn => by
    unfold resP
    by_cases e : n < M
    · rw [if_pos e]; exact t.pre n hn
    · rw [if_neg e]
      cases q : ρ0 n with
      | none => rfl
      | some a => exact absurd (h n a q) e
  exG := t.exG
  keep := t.keep
  th := t.th
  nG := t.nG
  nρ := fun n a q => t.nρ n a (resP_some q).2

/-! ### for -/
def ItOk (K : PySem.W.Frag) (G0 : Hp) (J : It) (xs : List D) : Prop := ∀ (ρ : Pm) (G H : Hp) (μ : Mem), Rel K ρ G H μ → Ex G0 G →
  (∀ (i : Nat) (d : D), xs[i]? = some d → J.go i H ∧ ∀ v H', J.yld i H v H' → ∃ G', Tr ρ G H G' H' ∧ Rel K ρ G' H' μ ∧ Rp K G' v d) ∧ ∀ i, xs.length ≤ i → J.stop i H
abbrev rpI (K : PySem.W.Frag) : Pm → Hp → Hp → Hp → It → List D → Prop := fun _ G' _ _ J xs => ItOk K G' J xs
abbrev IM := Env → Mem → Res (List D)
abbrev SndI (K : PySem.W.Frag) (W : WX) (t : TI) (f : IM) : Prop := SndG K W t f (rpI K)
theorem wipe_in {σ : Slots} {i : Nat} : ∀ {vs : List Nat}, i ∈ vs → i < σ.length → (wipe σ vs)[i]? = some none
  | v :: vs, h, hl => by
    show ((wipe σ vs).set v none)[i]? = some none
    by_cases e : v = i
    · subst e; exact List.getElem?_set_self (by rw [wipe_length]; exact hl)
    · rw [List.getElem?_set_ne e]
      exact wipe_in ((List.mem_cons.mp h).elim (fun q => absurd q.symm e) id) hl
theorem wipe_ext {σ τ : Slots} {vs : List Nat} (hl : σ.length = τ.length) (h : ∀ i, i ∉ vs → σ[i]? = τ[i]?) : wipe σ vs = wipe τ vs := by
  refine List.ext_getElem? fun i => ?_
  by_cases hi : i ∈ vs
  · by_cases e : i < σ.length
    · rw [wipe_in hi e, wipe_in hi (hl ▸ e)]
    · rw [List.getElem?_eq_none (by rw [wipe_length]; omega), List.getElem?_eq_none (by rw [wipe_length]; omega)]
  · rw [wipe_out hi, wipe_out hi]; exact h i hi
/-- g is a target that sets the slots ts -/
def TgOk (K : PySem.W.Frag) (g : TG) (h : D → Env → Option Env) (ts : List Nat) : Prop := ∀ (ρ : Pm) (G H : Hp) (μ : Mem) (σ : Slots) (δ δ' : Env) (v : V) (d : D) (Q : Slots → Hp → Prop), Rel K ρ G H μ → EnvOk K ρ G σ δ → Rp K G v d → h d δ = some δ' →
  (∀ σ', EnvOk K ρ G σ' δ' → σ'.length = σ.length → (∀ i, i ∉ ts → σ'[i]? = σ[i]?) → Q σ' H) → g v σ H Q
def tgName (i : Nat) : D → Env → Option Env := fun d δ => some (δ.set i (some (.dat d)))
theorem tg_name (i : Nat) : TgOk K (gName i) (tgName i) [i] := fun ρ G H μ σ δ δ' v d Q R E h e q => by
  cases e; exact q _ (E.set i (x := .dat d) h) List.length_set fun j hj => List.getElem?_set_ne fun z => hj (by simp [z])
def turnL (M : Nat) (ks : List Bool) (out : Out) (k : Env → Mem → Out) : Out := match out with
  | .next δ' μ' => k (cut M ks δ') (μ'.take M)
  | .cnt δ' μ' => k (cut M ks δ') (μ'.take M)
  | .brk δ' μ' => .next (cut M ks δ') (μ'.take M)
  | .ret r μ' => .ret r μ'
  | .exc x δ' μ' => .exc x δ' μ'
  | .bad => .bad
def forL (M : Nat) (ks : List Bool) (h : D → Env → Option Env) (gb : SM) (N : Nat) : List D → Env → Mem → Out
  | [], δ, μ => .next δ μ
  | d :: ds, δ, μ => match h d δ with
    | none => .bad
    | some δ1 => turnL M ks (gb N δ1 μ) (forL M ks h gb N ds)
def gFor (ks : List Bool) (fi : IM) (h : D → Env → Option Env) (gb : SM) : SM := fun N δ μ => lift (fi δ μ) δ fun xs μ' => forL μ'.length ks h gb N xs δ μ'
/-- one turn of a loop, from what is known at its head (ρ0, G0, H0) -/
theorem turn_ok {tb : TS} {gb : SM} {ks : List Bool} {k : Env → Mem → Out} {Nn : Slots → Hp → Prop} (hb : SndS K W tb gb) (t : TrS N ρ0 G0 H0 ρ G H) (R : Rel K ρ G H μ) (E : EnvOk K ρ G σ δ) (hM : ∀ n a, ρ0 n = some a → n < M) (hM1 : ∀ n a, ρ n = some a → n < M)
    (hp : PostS K W N ρ0 G0 H0 Dn (turnL M ks (gb N δ μ) k))
    (go : ∀ ρ' G' H' σ' δ' μ', TrS N ρ0 G0 H0 ρ' G' H' → Ex G G' → Rel K ρ' G' H' μ' → EnvOk K ρ' G' σ' δ' → (∀ n a, ρ' n = some a → n < M) → PostS K W N ρ0 G0 H0 Dn (k δ' μ') → Nn σ' H') :
    tb { nx := Nn, rt := Dn.rt, bk := Dn.nx, ct := Nn } σ H := by
  refine hb N ρ G H σ δ μ _ R E ?_
  cases e : gb N δ μ with
  | next δ' μ' =>
    rw [e] at hp
    exact fun ρ' G' H' σ' t' R' E' => go _ G' H' σ' _ _ ((t.trans t').cut hM) t'.exG (R'.cut M) (E'.cut M ks) (fun n a q => (resP_some q).1) hp
  | cnt δ' μ' =>
    rw [e] at hp
    exact fun ρ' G' H' σ' t' R' E' => go _ G' H' σ' _ _ ((t.trans t').cut hM) t'.exG (R'.cut M) (E'.cut M ks) (fun n a q => (resP_some q).1) hp
  | brk δ' μ' =>
    rw [e] at hp
    exact fun ρ' G' H' σ' t' R' E' => hp _ G' H' σ' ((t.trans t').cut hM) (R'.cut M) (E'.cut M ks)
  | ret r μ' =>
    rw [e] at hp
    exact fun ρ' G' H' v t' R' q => hp ρ' G' H' v (t.trans t') R' (q.back t.th)
  | exc x δ' μ' =>
    rw [e] at hp
    exact fun ρ' G' H' σ' cls d t' => hp ρ' G' H' σ' cls d (t.trans t')
  | bad => rw [e] at hp; exact hp
theorem drop_cons {α : Type} {xs ds : List α} {i : Nat} {d : α} (h : xs.drop i = d :: ds) : xs[i]? = some d ∧ xs.drop (i + 1) = ds ∧ i < xs.length := by
  have hl : i < xs.length := by
    by_cases e : i < xs.length
    · exact e
    · rw [List.drop_eq_nil_of_le (by omega)] at h; cases h
  rw [List.drop_eq_getElem_cons hl] at h
  injection h with h1 h2
  exact ⟨by rw [List.getElem?_eq_getElem hl, h1], h2, hl⟩
theorem snd_for {wi : TI} {fi : IM} {g : TG} {h : D → Env → Option Env} {tb : TS} {gb : SM} (ks : List Bool) {tv : List Nat} (hi : SndI K W wi fi) (hg : TgOk K g h tv) (hb : SndS K W tb gb) : SndS K W (tFor wi g tb) (gFor ks fi h gb) := fun N ρ G H σ δ μ Dn R E hp => by
  refine SndG.stm (t := wi) hi R E hp fun xs μ0 G0 H0 J t0 R0 E0 it hp0 => ?_
  have hp0 := PostS.shift (t0.toS (N := N)) hp0
  refine ⟨fun i m σ H => ∃ ρ1 G1 δ1 μ1, Ex G0 G1 ∧ Rel K ρ1 G1 H μ1 ∧ EnvOk K ρ1 G1 σ δ1 ∧ (∀ n a, ρ1 n = some a → n < μ0.length) ∧ m = xs.length - i ∧ i ≤ xs.length ∧
    PostS K W N ρ1 G1 H Dn (forL μ0.length ks h gb N (xs.drop i) δ1 μ1), ⟨xs.length, ρ, G0, δ, μ0, Ex.refl _, R0, E0, R0.lt, by omega, by omega, hp0⟩, fun i m σ H hW => ?_⟩
  obtain ⟨ρ1, G1, δ1, μ1, x1, R1, E1, hM1, em, hi', hp1⟩ := hW
  obtain ⟨go, stop⟩ := it ρ1 G1 H μ1 R1 x1
  cases e : xs.drop i with
  | nil =>
    rw [e] at hp1
    have hl : xs.length ≤ i := by
      have := congrArg List.length e
      rw [List.length_drop] at this
      simp at this; omega
    exact .inl ⟨stop i hl, hp1 ρ1 G1 H σ (TrS.refl _ _ _ _) R1 E1⟩
  | cons d ds =>
    rw [e] at hp1
    obtain ⟨hd, hds, hlt⟩ := drop_cons e
    obtain ⟨g1, g2⟩ := go i d hd
    refine .inr ⟨g1, fun σ' H' => ∃ m', m' < m ∧ _, fun σ' H' q => q, fun v H' hy => ?_⟩
    obtain ⟨G2, t2, R2, rp⟩ := g2 v H' hy
    unfold forL at hp1
    cases eh : h d δ1 with
    | none => rw [eh] at hp1; exact hp1.elim
    | some δ2 =>
      rw [eh] at hp1
      refine hg ρ1 G2 H' μ1 σ δ1 δ2 v d _ R2 (E1.mono t2.exG) rp eh fun σ2 E2 _ _ => ?_
      refine turn_ok hb t2.toS R2 E2 hM1 hM1 hp1 fun ρ3 G3 H3 σ3 δ3 μ3 t3 _ R3 E3 hM3 hp3 => ?_
      refine ⟨xs.length - (i + 1), by omega, ρ3, G3, δ3, μ3, x1.trans t3.exG, R3, E3, hM3, rfl, hlt, ?_⟩
      rw [hds]; exact PostS.shift t3 hp3
/-! ### while -/
def whL (M : Nat) (ks : List Bool) (ft : TM) (gb : SM) (N : Nat) : Nat → Env → Mem → Out
  | 0, _, _ => .bad
  | k + 1, δ, μ => lift (ft δ μ) δ fun b μ1 => if b = true then turnL M ks (gb N δ μ1) (whL M ks ft gb N k) else .next δ μ1
def gWh (fuel : Nat) (ks : List Bool) (ft : TM) (gb : SM) : SM := fun N δ μ => whL μ.length ks ft gb N fuel δ μ
theorem snd_while {tc : TT} {ft : TM} {tb : TS} {gb : SM} (fuel : Nat) (ks : List Bool) (hc : SndT K W tc ft) (hb : SndS K W tb gb) : SndS K W (tWhile tc tb) (gWh fuel ks ft gb) := fun N ρ G H σ δ μ Dn R E hp => by
  refine ⟨fun m σ H' => ∃ ρ1 G1 δ1 μ1, Rel K ρ1 G1 H' μ1 ∧ EnvOk K ρ1 G1 σ δ1 ∧ (∀ n a, ρ1 n = some a → n < μ.length) ∧
    PostS K W N ρ1 G1 H' Dn (whL μ.length ks ft gb N m δ1 μ1), ⟨fuel, ρ, G, δ, μ, R, E, R.lt, hp⟩, fun m σ H' hW => ?_⟩
  obtain ⟨ρ1, G1, δ1, μ1, R1, E1, hM1, hp1⟩ := hW
  cases m with
  | zero => exact hp1.elim
  | succ k =>
    refine SndG.stm (t := tc) hc R1 E1 hp1 fun b μ2 G2 H2 v t2 R2 E2 d hp2 => ?_
    subst d
    cases v with
    | false => exact hp2 ρ1 G2 H2 σ t2.toS R2 E2
    | true =>
      refine ⟨fun σ' H'' => ∃ m', m' < k + 1 ∧ _, fun σ' H'' q => q, ?_⟩
      refine turn_ok hb t2.toS R2 E2 hM1 hM1 hp2 fun ρ3 G3 H3 σ3 δ3 μ3 t3 _ R3 E3 hM3 hp4 => ⟨k, by omega, ρ3, G3, δ3, μ3, R3, E3, hM3, PostS.shift t3 hp4⟩
/-! ### a def -/
def belowA (N : Nat) (xs : List DV) : Bool := xs.all fun x => match x with
  | .dat _ => true
  | .loc m => decide (m < N)
theorem belowA_ok {xs : List DV} (h : belowA N xs = true) : ∀ x ∈ xs, x.below N := fun x hx => by
  have := List.all_eq_true.mp h x hx
  cases x with
  | dat d => trivial
  | loc m => exact (of_decide_eq_true this : m < N)
def closeR (N : Nat) (r : R) (μ : Mem) : Res R := match r with
  | .dat d => .ok (.dat d) (μ.take N)
  | .nl xs => if belowA N xs = true then .ok (.nl xs) (μ.take N) else .bad
  | .nk kvs => if belowA N (kvs.map (·.2)) = true then .ok (.nk kvs) (μ.take N) else .bad
  | .loc n => if n < N then .ok (.loc n) (μ.take N) else match μ[n]? with
    | some (.lst xs) => if belowA N xs = true then .ok (.nl xs) (μ.take N) else .bad
    | some (.dct kvs) => if belowA N (kvs.map (·.2)) = true then .ok (.nk kvs) (μ.take N) else .bad
    | _ => .bad
/-- what a body gives, called -/
def callF (g : SM) (m : Nat) (args : List DV) (μ : Mem) : Res R := match g μ.length (args.map some ++ List.replicate m none) μ with
  | .next _ μ' => .ok (.dat .non) (μ'.take μ.length)
  | .ret r μ' => closeR μ.length r μ'
  | .exc x _ μ' => .exc x (μ'.take μ.length)
  | _ => .bad
def spF (K : PySem.W.Frag) (n : Nat) (F : List DV → Mem → Res R) : Sp := fun vs H Q E => vs.length = n ∧ ∃ ρ G μ xs, Rel K ρ G H μ ∧ DvL K ρ G vs xs ∧
  PostG K (fun cls d _ H => E cls d H) ρ G H [] (fun G' H' => rpE K ρ G' H H') Q (F xs μ)
theorem res_back (R : Rel K ρ G H μ) (t : TrS μ.length ρ G H ρ1 G1 H1) : resP μ.length ρ1 = ρ := by
  funext n
  unfold resP
  by_cases e : n < μ.length
  · rw [if_pos e]; exact t.pre n e
  · rw [if_neg e]
    cases q : ρ n with
    | none => rfl
    | some a => exact absurd (R.lt n a q) e
theorem tr_back (R : Rel K ρ G H μ) (t : TrS μ.length ρ G H ρ1 G1 H1) : Tr ρ G H G1 H1 where
  exG := t.exG
  keep := t.keep
  th := t.th
  nG := fun a h => (t.nG a h).elim .inl fun q => q.elim .inr fun ⟨n, hn, z⟩ => absurd (R.lt n a z) (by omega)
theorem RpR.close {μ1 μ2 : Mem} {r r' : R} {v : V} (R : Rel K ρ G H μ) (t : TrS μ.length ρ G H ρ1 G1 H1) (R1 : Rel K ρ1 G1 H1 μ1) (h : RpR K ρ1 G1 H H1 v r) (e : closeR μ.length r μ1 = .ok r' μ2) :
    RpR K ρ G1 H H1 v r' ∧ μ2 = μ1.take μ.length := by
  have eb := res_back R t
  have lst : ∀ {a : Addr} {vs : List V} {xs : List DV}, H1 a = some (.lst vs) → DvL K ρ1 G1 vs xs → G1 a = none → (∀ n, ρ n ≠ some a) → H a = none → belowA μ.length xs = true → RpR K ρ G1 H H1 (.ref a) (.nl xs) := fun {a vs xs} h1 h2 h3 h4 h5 h6 =>
    ⟨a, vs, rfl, h1, by have z := h2.res (belowA_ok h6); rw [eb] at z; exact z, h3, h4, h5⟩
  have dct : ∀ {a : Addr} {o : HO} {vs : List V} {xs : List (Ky × DV)}, H1 a = some o → DctIs o (xs.map (·.1)) vs → DvL K ρ1 G1 vs (xs.map (·.2)) → G1 a = none → (∀ n, ρ n ≠ some a) → H a = none → belowA μ.length (xs.map (·.2)) = true → RpR K ρ G1 H H1 (.ref a) (.nk xs) := fun {a o vs xs} h1 hk h2 h3 h4 h5 h6 =>
    ⟨a, o, vs, rfl, h1, hk, by have z := h2.res (belowA_ok h6); rw [eb] at z; exact z, h3, h4, h5⟩
  have noρ : ∀ a, (∀ n, ρ1 n ≠ some a) → ∀ n, ρ n ≠ some a := fun a h n q => h n ((t.pre n (R.lt n a q)).trans q)
  cases r with
  | dat d => cases e; exact ⟨h, rfl⟩
  | nl xs =>
    obtain ⟨a, vs, rfl, h1, h2, h3, h4, h5⟩ := h
    simp only [closeR] at e
    by_cases hb : belowA μ.length xs = true
    · rw [if_pos hb] at e; cases e
      exact ⟨lst h1 h2 h3 (noρ a h4) h5 hb, rfl⟩
    · rw [if_neg hb] at e; cases e
  | nk kvs =>
    obtain ⟨a, o, vs, rfl, h1, hk, h2, h3, h4, h5⟩ := h
    simp only [closeR] at e
    by_cases hb : belowA μ.length (kvs.map (·.2)) = true
    · rw [if_pos hb] at e; cases e
      exact ⟨dct h1 hk h2 h3 (noρ a h4) h5 hb, rfl⟩
    · rw [if_neg hb] at e; cases e
  | loc n =>
    obtain ⟨a, rfl, q⟩ := h
    simp only [closeR] at e
    by_cases hn : n < μ.length
    · rw [if_pos hn] at e; cases e
      exact ⟨⟨a, rfl, (t.pre n hn).symm.trans q⟩, rfl⟩
    · rw [if_neg hn] at e
      have hne : ∀ m, ρ m ≠ some a := fun m z => by
        have h1 := (t.pre m (R.lt m a z)).trans z
        have h2 := R1.inj m n a h1 q
        exact hn (h2 ▸ R.lt m a z)
      have h0 : H a = none := (t.nρ n a q).elim (fun z => absurd z (hne n)) id
      have hg : G1 a = none := R1.nG n a q
      match em : μ1[n]? with
      | none => rw [em] at e; cases e
      | some .gone => rw [em] at e; cases e
      | some (.ins _ _) => rw [em] at e; cases e
      | some .own => rw [em] at e; cases e
      | some (.lst xs) =>
        rw [em] at e
        obtain ⟨_, b, vs, k1, k2, k3⟩ := R1.pl n _ em
        rw [q] at k1; cases k1
        by_cases hb : belowA μ.length xs = true
        · simp only [if_pos hb] at e; cases e
          exact ⟨lst k2 k3 hg hne h0 hb, rfl⟩
        · simp only [if_neg hb] at e; cases e
      | some (.dct kvs) =>
        rw [em] at e
        obtain ⟨_, b, o, vs, k1, k2, kk, k3⟩ := R1.pl n _ em
        rw [q] at k1; cases k1
        by_cases hb : belowA μ.length (kvs.map (·.2)) = true
        · simp only [if_pos hb] at e; cases e
          exact ⟨dct k2 kk k3 hg hne h0 hb, rfl⟩
        · simp only [if_neg hb] at e; cases e
/-- the body's reading from the promise -/
theorem body_ok {ts : TS} {g : SM} {Q : VK} {E : XK} {vs : List V} {Nm : List Str} {n : Nat} (hb : SndS K (fun cls d _ H => E cls d H) ts g) (hn : n ≤ Nm.length) (h : spF K n (callF g (Nm.length - n)) vs H Q E) :
    ts { nx := fun _ H' => Q .non H', rt := Q } (L2.start Nm vs) H := by
  obtain ⟨hl, ρ, G, μ, xs, R, d, hp⟩ := h
  have hx : xs.length = n := by rw [← paired_len d]; exact hl
  have env : EnvOk K ρ G (L2.start Nm vs) (xs.map some ++ List.replicate (Nm.length - n) none) := by
    refine ⟨by simp [L2.start, hl, hx], fun i x hi => ?_⟩
    have hi1 : i < xs.length := by
      by_cases e : i < xs.length
      · exact e
      · rw [List.getElem?_append_right (by simpa using e), List.getElem?_replicate] at hi
        split at hi <;> cases hi
    rw [List.getElem?_append_left (by simpa using hi1), List.getElem?_map, List.getElem?_eq_getElem hi1] at hi
    simp only [Option.map_some, Option.some.injEq] at hi
    have key : ∀ {vs : List V} {xs : List DV} {i : Nat} (d : DvL K ρ G vs xs) (hi : i < xs.length), ∃ v, vs[i]? = some v ∧ DvOk K ρ G v xs[i] := by
      intro vs xs i d
      induction d generalizing i with
      | nil => intro hi; exact absurd hi (Nat.not_lt_zero _)
      | cons r _ ih =>
        intro hi
        cases i with
        | zero => exact ⟨_, rfl, r⟩
        | succ i => exact ih (Nat.lt_of_succ_lt_succ hi)
    obtain ⟨v, h1, h2⟩ := key d hi1
    refine ⟨v, ?_, hi ▸ h2⟩
    unfold L2.start
    have hv : i < vs.length := by omega
    rw [List.getElem?_append_left (by simpa using hv), List.getElem?_map, h1]
    rfl
  refine hb μ.length ρ G H _ _ μ _ R env ?_
  unfold callF at hp
  cases e : g μ.length (xs.map some ++ List.replicate (Nm.length - n) none) μ with
  | next δ' μ' =>
    rw [e] at hp
    intro ρ' G' H' σ' t R' E'
    have z := R'.cut μ.length
    rw [res_back R t] at z
    exact hp G' H' .non (tr_back R t) z Rp.non
  | ret r μ' =>
    rw [e] at hp
    intro ρ' G' H' v t R' q
    simp only at hp
    cases ec : closeR μ.length r μ' with
    | bad => rw [ec] at hp; exact hp.elim
    | exc x μ2 => exact (by cases r <;> simp only [closeR] at ec <;> (repeat' split at ec) <;> cases ec)
    | ok r' μ2 =>
      rw [ec] at hp
      obtain ⟨q', em⟩ := RpR.close R t R' q ec
      have z := R'.cut μ.length
      rw [res_back R t, ← em] at z
      exact hp G' H' v (tr_back R t) z q'
  | brk δ' μ' => rw [e] at hp; exact hp.elim
  | cnt δ' μ' => rw [e] at hp; exact hp.elim
  | exc x δ' μ' =>
    rw [e] at hp
    intro ρ' G' H' σ' cls d t R' E' q
    have z := R'.cut μ.length
    rw [res_back R t] at z
    exact hp G' H' cls d (tr_back R t) z q
  | bad => rw [e] at hp; exact hp.elim
end
end DL
namespace DL
open PySem PySem.Spec PyProof.Rows L2
structure PSM (X : Cx) (W : WX) (st : Stmt) (ts : TS) (g : SM) : Prop where
  ps : PS X st ts
  sd : SndS X.K W ts g
structure PSMs (X : Cx) (W : WX) (st : List Stmt) (ts : TS) (g : SM) : Prop where
  ps : PSs X st ts
  sd : SndS X.K W ts g
structure PMI (X : Cx) (W : WX) (tg e : Expr) (wi : TI) (f : IM) : Prop where
  pi : PI X tg e wi
  sd : SndI X.K W wi f
structure PMG (X : Cx) (tg : Expr) (g : TG) (h : D → Env → Option Env) (ts : List Nat) : Prop where
  pg : PG X tg g
  ok : TgOk X.K g h ts
section
variable {X : Cx} {W : WX} {pos : Pos} {te : TE} {f : EM} {tt : TT} {ft : TM} {t u : TS} {g h : SM} {st : Stmt} {rest body els : List Stmt} {e : Expr}
theorem ss_nil : PSMs X W [] tNext gNext := ⟨pss_nil, snd_next⟩
theorem ss_cons (h1 : PSM X W st t g) (h2 : PSMs X W rest u h) : PSMs X W (st :: rest) (tSeq t u) (gSeq g h) := ⟨pss_cons h1.ps h2.ps, snd_seq h1.sd h2.sd⟩
theorem ss_one (h1 : PSM X W st t g) : PSMs X W [st] t g := ⟨pss_one h1.ps, h1.sd⟩
theorem sm_expr (h : PM X W e te f) (hs : swapsWith e none pos.line X.env = pure false := by rfl) : PSM X W (.Expr e pos) (tDrop te) (gDrop f) := ⟨ps_expr h.pe hs, snd_drop h.sd⟩
theorem sm_ret (h : PM X W e te f) : PSM X W (.Return (some e) pos) (tRet te) (gRet f) := ⟨ps_ret h.pe, snd_ret h.sd⟩
theorem sm_if (hc : PMT X W e tt ft) (h1 : PSMs X W body t g) (h2 : PSMs X W els u h) : PSM X W (.If e body els pos) (tIfS tt t u) (gIf ft g h) := ⟨ps_if hc.pe h1.ps h2.ps, snd_if hc.sd h1.sd h2.sd⟩
theorem sm_asg {x : Str} {p : Pos} (i : Nat) (hN : X.N.Nodup) (h : PM X W e te f) (hi : X.N[i]? = some x := by rfl) (hx : Loc X.env.scope x := by first | exact Or.inl rfl | exact Or.inr rfl)
    (hf : X.fn x = true ∨ X.env.scope.names.lookup x = some .local := by first | exact .inl rfl | exact .inr rfl)
    (a1 : swapsWithSole [.Name x p] e pos.line X.env = pure false := by rfl) (a2 : swappedStores [.Name x p] e X.env = pure none := by rfl) (a3 : List.map (fun x => x.snd) (assignEach [.Name x p] X.env) = [assign (.Name x p) X.env] := by rfl) :
    PSM X W (.Assign [.Name x p] e pos) (tAsg te (gName i)) (gAsg i f) := ⟨ps_asg h.pe (pg_name hN hi hx hf) a1 a2 a3, snd_asg i h.sd⟩
theorem sm_new {x : Str} {p : Pos} (i : Nat) (hN : X.N.Nodup) (h : PM X W e te f) (hi : X.N[i]? = some x := by rfl) (hx : Loc X.env.scope x := by first | exact Or.inl rfl | exact Or.inr rfl)
    (hf : X.fn x = true ∨ X.env.scope.names.lookup x = some .local := by first | exact .inl rfl | exact .inr rfl)
    (a1 : swapsWithSole [.Name x p] e pos.line X.env = pure false := by rfl) (a2 : swappedStores [.Name x p] e X.env = pure none := by rfl) (a3 : List.map (fun x => x.snd) (assignEach [.Name x p] X.env) = [assign (.Name x p) X.env] := by rfl) :
    PSM X W (.Assign [.Name x p] e pos) (tAsg te (gName i)) (gNew i f) := ⟨ps_asg h.pe (pg_name hN hi hx hf) a1 a2 a3, snd_new i h.sd⟩
theorem sm_brk : PSM X W (.Break pos) tBreak gBrk := ⟨ps_break, snd_brk⟩
theorem sm_cnt : PSM X W (.Continue pos) tCont gCnt := ⟨ps_continue, snd_cnt⟩
theorem sm_pass : PSM X W (.Pass pos) tNext gNext := ⟨ps_pass, snd_next⟩
theorem pg_nm {x : Str} (i : Nat) (hN : X.N.Nodup) (hi : X.N[i]? = some x := by rfl) (hx : Loc X.env.scope x := by first | exact Or.inl rfl | exact Or.inr rfl)
    (hf : X.fn x = true ∨ X.env.scope.names.lookup x = some .local := by first | exact .inl rfl | exact .inr rfl) : PMG X (.Name x pos) (gName i) (tgName i) [i] := ⟨pg_name hN hi hx hf, tg_name i⟩
theorem sm_for {tg iter : Expr} {wi : TI} {fi : IM} {gt : TG} {ht : D → Env → Option Env} {tv : List Nat} (ks : List Bool) (hp : PassesOwn (model X.prog X.w) X.A X.env X.xe) (hc : X.calm = true) (hi : PMI X W tg iter wi fi) (hg : PMG X tg gt ht tv) (hb : PSMs X W body t g)
    (hs : ∀ (x : Value), foldedSetIterable iter X.env x = pure x := by intro _; rfl) : PSM X W (.For tg iter body [] pos) (tFor wi gt t) (gFor ks fi ht g) :=
  ⟨ps_for hp hc hi.pi hg.pg hb.ps hs, snd_for ks hi.sd hg.ok hb.sd⟩
theorem sm_while (fuel : Nat) (ks : List Bool) (hp : PassesOwn (model X.prog X.w) X.A X.env X.xe) (hc : PMT X W e tt ft) (hb : PSMs X W body t g) : PSM X W (.While e body [] pos) (tWhile tt t) (gWh fuel ks ft g) :=
  ⟨ps_while hp hc.pe hb.ps, snd_while fuel ks hc.sd hb.sd⟩
end
/-! ### tests -/
section
variable {X : Cx} {W : WX} {pos : Pos} {te ta tb : TE} {f fa fb : EM} {tt tu : TT} {ft fu : TM} {a b e : Expr} {rest : List Expr}
def tmB (f : EM) : TM := fun δ μ => (f δ μ).bind fun r μ' => match r with
  | .dat (.bl b) => .ok b μ'
  | _ => .bad
theorem snd_tmB {K : PySem.W.Frag} {tt : TT} (h : SndE K W te f) (ht : ∀ σ H Q, tB te σ H Q → tt σ H Q) : SndT K W tt (tmB f) := fun ρ G H σ δ μ Q R E hp => ht σ H Q (by
  refine SndG.seq (t := te) h R E hp fun r μ' G' H' v t' R' E' q hp' => ?_
  match r, q, hp' with
  | .dat (.bl b), q, hp' => cases q; exact ⟨b, rfl, hp' G' H' b t' R' rfl⟩
  | .dat .non, _, hp' => exact hp'.elim
  | .dat (.int _), _, hp' => exact hp'.elim
  | .dat (.str _), _, hp' => exact hp'.elim
  | .dat (.ty _), _, hp' => exact hp'.elim
  | .dat (.ref _), _, hp' => exact hp'.elim
  | .dat (.tup _), _, hp' => exact hp'.elim
  | .dat (.lst _), _, hp' => exact hp'.elim
  | .dat (.fro _), _, hp' => exact hp'.elim
  | .dat (.dct _), _, hp' => exact hp'.elim
  | .dat (.ins _ _), _, hp' => exact hp'.elim
  | .dat (.err _ _ _ _ _), _, hp' => exact hp'.elim
  | .loc _, _, hp' => exact hp'.elim
  | .nl _, _, hp' => exact hp'.elim
  | .nk _, _, hp' => exact hp'.elim)
/-- a comparison, any expression that gives a truth, as a test -/
theorem pt_cmp {op : CmpOp} {r : R2} {g : DV → DV → Mem → Res R} (ho : OpR X (compareOp op) r) (hd : OpD X.K r g) (ha : PM X W a ta fa) (hb : PM X W b tb fb) (hm : behindInMarks op b = false) : PMT X W (.Compare a [op] [b] pos) (tTest (tOp r ta tb)) (tmB (eOp g fa fb)) :=
  ⟨pt_cmpR ho ha.pe hb.pe hm, snd_tmB (snd_op hd ha.sd hb.sd) fun _ _ _ h => h⟩
theorem pt_of (h : PM X W e te f) (he : ∀ whole, isTrue e X.env whole = (do let v ← whole; standAt e.pos; holding [v] (truthy v)) := by intro _; rfl) : PMT X W e (tB te) (tmB f) :=
  ⟨L2.pt_val h.pe he, snd_tmB h.sd fun _ _ _ h => h⟩
def tmNot (f : TM) : TM := fun δ μ => (f δ μ).bind fun b μ' => .ok (!b) μ'
def tmAnd (f g : TM) : TM := fun δ μ => (f δ μ).bind fun b μ' => if b = true then g δ μ' else .ok false μ'
def tmOr (f g : TM) : TM := fun δ μ => (f δ μ).bind fun b μ' => if b = true then .ok true μ' else g δ μ'
theorem pt_no (h : PMT X W a tt ft) : PMT X W (.UnaryOp .Not a pos) (tNot tt) (tmNot ft) := ⟨L2.pt_not h.pe, fun ρ G H σ δ μ Q R E hp =>
  SndG.seq (t := tt) h.sd R E hp fun b μ' G' H' v t' R' E' q hp' => by subst q; exact hp' G' H' (!v) t' R' rfl⟩
structure PMW (X : Cx) (W : WX) (e : Expr) (tt : TT) (f : TM) : Prop where
  pe : PW X e tt
  sd : SndT X.K W tt f
theorem PMW.t (h : PMW X W e tt ft) : PMT X W e tt ft := ⟨h.pe.pt, h.sd⟩
theorem w_and1 (h : PMT X W a tt ft) : PMW X W (.BoolOp .And [a] pos) tt ft := ⟨pw_and1 h.pe, h.sd⟩
theorem w_or1 (h : PMT X W a tt ft) : PMW X W (.BoolOp .Or [a] pos) tt ft := ⟨pw_or1 h.pe, h.sd⟩
theorem w_and (h : PMT X W a tt ft) (hb : PMW X W (.BoolOp .And (b :: rest) pos) tu fu) : PMW X W (.BoolOp .And (a :: b :: rest) pos) (tAnd tt tu) (tmAnd ft fu) := ⟨pw_and h.pe hb.pe, fun ρ G H σ δ μ Q R E hp => by
  refine SndG.seq (t := tt) h.sd R E hp fun b μ' G' H' v t' R' E' q hp' => ?_
  subst q
  cases v with
  | true => exact hb.sd ρ G' H' σ δ μ' Q R' E' (hp'.shift t' fun _ _ _ _ q => q)
  | false => exact hp' G' H' false t' R' rfl⟩
theorem w_or (h : PMT X W a tt ft) (hb : PMW X W (.BoolOp .Or (b :: rest) pos) tu fu) : PMW X W (.BoolOp .Or (a :: b :: rest) pos) (tOr tt tu) (tmOr ft fu) := ⟨pw_or h.pe hb.pe, fun ρ G H σ δ μ Q R E hp => by
  refine SndG.seq (t := tt) h.sd R E hp fun b μ' G' H' v t' R' E' q hp' => ?_
  subst q
  cases v with
  | true => exact hp' G' H' true t' R' rfl
  | false => exact hb.sd ρ G' H' σ δ μ' Q R' E' (hp'.shift t' fun _ _ _ _ q => q)⟩
/-! ### and, or, not, if as values -/
def asB (r : R) : Option Bool := match r with
  | .dat (.bl b) => some b
  | _ => none
theorem asB_ok {K : PySem.W.Frag} {ρ : Pm} {G H0 H : Hp} {v : V} {r : R} {b : Bool} (h : RpR K ρ G H0 H v r) (e : asB r = some b) : v = .bl b := by
  unfold asB at e
  split at e
  · cases e; cases h; rfl
  · cases e
def eAnd (f g : EM) : EM := fun δ μ => (f δ μ).bind fun r μ' => match asB r with
  | some true => g δ μ'
  | some false => .ok (.dat (.bl false)) μ'
  | none => .bad
def eOr (f g : EM) : EM := fun δ μ => (f δ μ).bind fun r μ' => match asB r with
  | some true => .ok (.dat (.bl true)) μ'
  | some false => g δ μ'
  | none => .bad
def eNot (f : EM) : EM := fun δ μ => (f δ μ).bind fun r μ' => match asB r with
  | some b => .ok (.dat (.bl (!b))) μ'
  | none => .bad
theorem pm_one {op} (h : PM X W a te f) : PM X W (.BoolOp op [a] pos) te f := ⟨pe_one h.pe, h.sd⟩
theorem pm_and (ha : PM X W a ta fa) (hb : PM X W (.BoolOp .And (b :: rest) pos) tb fb) : PM X W (.BoolOp .And (a :: b :: rest) pos) (tAndV ta tb) (eAnd fa fb) := ⟨pe_and ha.pe hb.pe, fun ρ G H σ δ μ Q R E hp => by
  refine SndG.seq (t := ta) ha.sd R E hp fun r μ' G' H' v t' R' E' q hp' => ?_
  match e : asB r with
  | none => rw [e] at hp'; exact hp'.elim
  | some c =>
    rw [e] at hp'
    refine ⟨c, asB_ok q e, ?_⟩
    cases c with
    | true => exact hb.sd ρ G' H' σ δ μ' Q R' E' (hp'.shiftE t')
    | false => exact hp' G' H' _ t' R' (Rp.bl false)⟩
theorem pm_or (ha : PM X W a ta fa) (hb : PM X W (.BoolOp .Or (b :: rest) pos) tb fb) : PM X W (.BoolOp .Or (a :: b :: rest) pos) (tOrV ta tb) (eOr fa fb) := ⟨pe_or ha.pe hb.pe, fun ρ G H σ δ μ Q R E hp => by
  refine SndG.seq (t := ta) ha.sd R E hp fun r μ' G' H' v t' R' E' q hp' => ?_
  match e : asB r with
  | none => rw [e] at hp'; exact hp'.elim
  | some c =>
    rw [e] at hp'
    refine ⟨c, asB_ok q e, ?_⟩
    cases c with
    | true => exact hp' G' H' _ t' R' (Rp.bl true)
    | false => exact hb.sd ρ G' H' σ δ μ' Q R' E' (hp'.shiftE t')⟩
theorem pm_not (ha : PM X W a ta fa) : PM X W (.UnaryOp .Not a pos) (tNotV ta) (eNot fa) := ⟨pe_not ha.pe, fun ρ G H σ δ μ Q R E hp => by
  refine SndG.seq (t := ta) ha.sd R E hp fun r μ' G' H' v t' R' E' q hp' => ?_
  match e : asB r with
  | none => rw [e] at hp'; exact hp'.elim
  | some c => rw [e] at hp'; exact ⟨c, asB_ok q e, hp' G' H' _ t' R' (Rp.bl _)⟩⟩
def eIf (f : TM) (g h : EM) : EM := fun δ μ => (f δ μ).bind fun b μ' => if b = true then g δ μ' else h δ μ'
theorem pm_if {c : Expr} (hc : PMT X W c tt ft) (ha : PM X W a ta fa) (hb : PM X W b tb fb) : PM X W (.IfExp c a b pos) (tIf tt ta tb) (eIf ft fa fb) := ⟨pe_ifExp hc.pe ha.pe hb.pe, fun ρ G H σ δ μ Q R E hp => by
  refine SndG.seq (t := tt) hc.sd R E hp fun b μ' G' H' v t' R' E' q hp' => ?_
  subst q
  cases v with
  | true => exact ha.sd ρ G' H' σ δ μ' Q R' E' (hp'.shiftE t')
  | false => exact hb.sd ρ G' H' σ δ μ' Q R' E' (hp'.shiftE t')⟩
end
end DL
namespace DL
open PySem PySem.Spec PyProof.Rows L2
/-! ### comprehensions -/
def wipeE (δ : Env) : List Nat → Env
  | [] => δ
  | v :: vs => (wipeE δ vs).set v none
def WF : WX := fun _ _ _ _ => False
def lcL (h : D → Env → Option Env) (ft : TM) (fe : EM) (δ : Env) : List D → Mem → Res (List DV)
  | [], μ => .ok [] μ
  | d :: ds, μ => match h d δ with
    | none => .bad
    | some δ1 => match ft δ1 μ with
      | .ok true μ1 => match frzV fe δ1 μ1 with
        | .ok y μ2 => (lcL h ft fe δ ds μ2).bind fun ys μ3 => .ok (y :: ys) μ3
        | _ => .bad
      | .ok false μ1 => lcL h ft fe δ ds μ1
      | _ => .bad
def eLc (fi : IM) (h : D → Env → Option Env) (ft : TM) (fe : EM) (vs : List Nat) : EM := fun δ μ => (fi δ μ).bind fun xs μ' =>
  if xs.length ≤ sizeLine then (lcL h ft fe (wipeE δ vs) xs μ').bind fun ys μ2 => .ok (.nl ys) μ2 else .bad
section
variable {K : PySem.W.Frag} {W : WX} {N M : Nat} {ρ ρ0 ρ1 ρ2 : Pm} {G H G0 H0 G1 H1 G2 H2 : Hp} {σ : Slots} {δ : Env} {μ : Mem} {Dn : Ends}
theorem EnvOk.wipe (E : EnvOk K ρ G σ δ) : ∀ vs : List Nat, EnvOk K ρ G (wipe σ vs) (wipeE δ vs)
  | [] => E
  | v :: vs => by
    have E' := EnvOk.wipe E vs
    refine ⟨?_, fun i x hi => ?_⟩
    · show ((L2.wipe σ vs).set v none).length = ((wipeE δ vs).set v none).length
      rw [List.length_set, List.length_set]; exact E'.len
    · have hi : ((wipeE δ vs).set v none)[i]? = some (some x) := hi
      show ∃ w, ((L2.wipe σ vs).set v none)[i]? = some (some w) ∧ _
      by_cases e : v = i
      · subst e
        by_cases hl : v < (wipeE δ vs).length
        · rw [List.getElem?_set_self hl] at hi; cases hi
        · rw [List.getElem?_eq_none (by rw [List.length_set]; omega)] at hi; cases hi
      · rw [List.getElem?_set_ne e] at hi ⊢
        exact E'.at_ i x hi
theorem Rel.poke {p : Addr} {o : HO} (R : Rel K ρ G H μ) (hg : G p = none) (hn : ∀ n, ρ n ≠ some p) : Rel K ρ G (upd H p o) μ := by
  refine ⟨fun a u h => ?_, R.inj, R.nG, R.lt, fun n a h q => ?_, fun n q h => ?_⟩
  · have e : a ≠ p := fun e => by rw [e, hg] at h; cases h
    rw [upd_ne e]; exact R.ex a u h
  · have e : a ≠ p := fun e => hn n (e ▸ h)
    rw [upd_ne e] at q; exact R.hs n a h q
  · have z := R.pl n q h
    cases q with
    | lst xs => obtain ⟨b, a, vs, h1, h2, h3⟩ := z; exact ⟨b, a, vs, h1, by rw [upd_ne (show a ≠ p from fun e => hn n (e ▸ h1))]; exact h2, h3⟩
    | dct kvs => obtain ⟨b, a, o, vs, h1, h2, h3⟩ := z; exact ⟨b, a, o, vs, h1, by rw [upd_ne (show a ≠ p from fun e => hn n (e ▸ h1))]; exact h2, h3⟩
    | own => obtain ⟨a, b, h1, h2⟩ := z; exact ⟨a, b, h1, by rw [upd_ne (show a ≠ p from fun e => hn n (e ▸ h1))]; exact h2⟩
    | ins nm fs => obtain ⟨b, a, dx, C, vs, m, hm, h1, h2, c, h4, h3⟩ := z; exact ⟨b, a, dx, C, vs, m, hm, h1, by rw [upd_ne (show a ≠ p from fun e => hn n (e ▸ h1))]; exact h2, c, by rw [upd_ne (show dx ≠ p from fun e => hn m (e ▸ hm.2))]; exact h4, h3⟩
    | gone => exact z
theorem Tr.poke {p : Addr} {o : HO} (t : Tr ρ G0 H0 G H) (h0 : H0 p = none) : Tr ρ G0 H0 G (upd H p o) where
  exG := t.exG
  keep := fun a u hn h => by rw [upd_ne (ne_of_none h h0)]; exact t.keep a u hn h
  th := fun a h => by
    by_cases e : a = p
    · rw [e]; exact h0
    · rw [upd_ne e] at h; exact t.th a h
  nG := t.nG
theorem paired_snoc {α β : Type} {P : α → β → Prop} : ∀ {l : List α} {m : List β} {a : α} {b : β}, Paired P l m → P a b → Paired P (l ++ [a]) (m ++ [b])
  | _, _, _, _, .nil, h => .cons h .nil
  | _, _, _, _, .cons r t, h => .cons r (paired_snoc t h)
theorem snd_lc {wi : TI} {fi : IM} {g : TG} {h : D → Env → Option Env} {tv vs : List Nat} {tt : TT} {ft : TM} {te : TE} {fe : EM} (hi : SndI K W wi fi) (hg : TgOk K g h tv) (hv : ∀ i ∈ tv, i ∈ vs) (ht : SndT K WF tt ft) (he : SndE K WF te fe) :
    SndE K W (tLc wi g tt te vs) (eLc fi h ft fe vs) := fun ρ G H σ δ μ Q R E hp => by
  refine SndG.seq (t := wi) hi R E hp fun xs μ0 G0 H0 J t0 R0 E0 it hp0 => ?_
  by_cases hz : xs.length ≤ sizeLine
  case neg => rw [if_neg hz] at hp0; exact hp0.elim
  rw [if_pos hz] at hp0
  intro Dl hD
  obtain ⟨nG0, nρ0⟩ := fresh_ne R0 hD
  have hp0 := hp0.shiftE t0
  refine ⟨fun i m H1 => ∃ G1 μ1 accV pre, Tr ρ G0 H0 G1 H1 ∧ Rel K ρ G1 H1 μ1 ∧ G1 Dl = none ∧ H1 Dl = some (.lst accV) ∧ DvL K ρ G1 accV pre ∧ pre.length ≤ i ∧ m = xs.length - i ∧ i ≤ xs.length ∧
    PostG K W ρ G0 H0 σ (fun G' H' => rpE K ρ G' H0 H') Q ((lcL h ft fe (wipeE δ vs) (xs.drop i) μ1).bind fun ys μ2 => .ok (.nl (pre ++ ys)) μ2), ⟨xs.length, G0, μ0, [], [], (Tr.refl _ _ _).poke hD, R0.poke nG0 nρ0, nG0, upd_same, .nil, by simp, by omega, by omega, ?_⟩, fun i m H1 hW => ?_⟩
  · exact hp0
  obtain ⟨G1, μ1, accV, pre, t1, R1, nG1, eD, dl, hlen, em, hle, hp1⟩ := hW
  obtain ⟨go, stop⟩ := it ρ G1 H1 μ1 R1 t1.exG
  cases e : xs.drop i with
  | nil =>
    rw [e] at hp1
    have hl : xs.length ≤ i := by
      have := congrArg List.length e
      rw [List.length_drop] at this
      simp at this; omega
    simp only [lcL, Res.bind_ok, List.append_nil] at hp1
    exact .inl ⟨stop i hl, hp1 G1 H1 _ t1 R1 ⟨Dl, accV, rfl, eD, dl, nG1, nρ0, hD⟩⟩
  | cons d ds =>
    rw [e] at hp1
    obtain ⟨hd, hds, hlt⟩ := drop_cons e
    obtain ⟨g1, g2⟩ := go i d hd
    refine .inr ⟨g1, fun H' => ∃ m', m' < m ∧ _, fun H' q => q, fun v H2 hy => ?_⟩
    obtain ⟨G2, t2, R2, rp⟩ := g2 v H2 hy
    have E2 : EnvOk K ρ G2 (wipe σ vs) (wipeE δ vs) := (E0.mono (t1.exG.trans t2.exG)).wipe vs
    unfold lcL at hp1
    cases eh : h d (wipeE δ vs) with
    | none => simp only [eh] at hp1; exact hp1.elim
    | some δ1 =>
      simp only [eh] at hp1
      refine hg ρ G2 H2 μ1 _ (wipeE δ vs) δ1 v d _ R2 E2 rp eh fun σ2 E3 hl hσ => ⟨?_, ?_⟩
      · refine (wipe_ext (τ := wipe σ vs) hl fun i hi => hσ i fun z => hi (hv i z)).trans ?_
        exact wipe_ext (by rw [wipe_length]) fun i hi => wipe_out hi
      have nG2 : ∀ {G' H'}, Tr ρ G1 H1 G' H' → G' Dl = none := fun {G' H'} t' => by
        cases q : G' Dl with
        | none => rfl
        | some o => exact ((t'.nG Dl (by rw [q]; simp)).elim (fun z => absurd nG1 z) fun z => by rw [eD] at z; cases z)
      refine ht ρ G2 H2 σ2 δ1 μ1 _ R2 E3 ?_
      cases et : ft δ1 μ1 with
      | exc x μ' => simp only [et] at hp1; exact hp1.elim
      | bad => simp only [et] at hp1; exact hp1.elim
      | ok b μ2 =>
        intro G3 H3 bv t3 R3 eb
        subst eb
        simp only [et] at hp1
        have T3 := t2.trans t3
        cases bv with
        | false =>
          refine ⟨xs.length - (i + 1), by omega, G3, μ2, accV, pre, t1.trans T3, R3, nG2 T3, T3.keep _ _ nρ0 eD, DvL.mono T3.exG (fun _ _ q => q) dl, by omega, rfl, hlt, ?_⟩
          rw [hds]; exact hp1
        | true =>
          refine he.toV ρ G3 H3 σ2 δ1 μ2 _ R3 (E3.mono t3.exG) ?_
          simp only at hp1
          cases ee : frzV fe δ1 μ2 with
          | exc x μ' => simp only [ee] at hp1; exact hp1.elim
          | bad => simp only [ee] at hp1; exact hp1.elim
          | ok y μ3 =>
            simp only [ee] at hp1
            intro G4 H4 yv t4 R4 dy
            have T4 := T3.trans t4
            refine ⟨accV, T4.keep _ _ nρ0 eD, ?_, xs.length - (i + 1), by omega, G4, μ3, accV ++ [yv], pre ++ [y], (t1.trans T4).poke hD, R4.poke (nG2 T4) nρ0, nG2 T4, upd_same, paired_snoc (DvL.mono T4.exG (fun _ _ q => q) dl) dy, ?_, rfl, hlt, ?_⟩
            · rw [paired_len dl]; omega
            · rw [List.length_append, List.length_singleton]; omega
            · rw [hds]
              have z : ((lcL h ft fe (wipeE δ vs) ds μ3).bind fun ys μ2 => Res.ok (DL.R.nl (pre ++ [y] ++ ys)) μ2) = (((lcL h ft fe (wipeE δ vs) ds μ3).bind fun ys μ3 => Res.ok (y :: ys) μ3).bind fun ys μ2 => .ok (DL.R.nl (pre ++ ys)) μ2) := by
                cases lcL h ft fe (wipeE δ vs) ds μ3 <;> simp
              rw [z]; exact hp1
theorem snd_yes : SndT K W tYes (fun _ μ => .ok true μ) := fun ρ G H σ δ μ Q R E hp => hp G H true (Tr.refl _ _ _) R rfl
end
section
variable {X : Cx} {W : WX}
structure PMTs (X : Cx) (W : WX) (ifs : List Expr) (tt : TT) (f : TM) : Prop where
  pe : PTs X ifs tt
  sd : SndT X.K W tt f
def tmYes : TM := fun _ μ => .ok true μ
theorem ts_nil : PMTs X W [] tYes tmYes := ⟨pts_nil, snd_yes⟩
theorem ts_one {c : Expr} {t : TT} {f : TM} (h : PMT X W c t f) : PMTs X W [c] t f := ⟨pts_one h.pe, h.sd⟩
theorem pm_lc {elt tg iter : Expr} {ifs : List Expr} {scope : Scope} {own : List (Str × Nat)} {pos : Pos} {wi : TI} {fi : IM} {g : TG} {h : D → Env → Option Env} {tv : List Nat} {tt : TT} {ft : TM} {te : TE} {fe : EM} (hc : X.calm = true) (hN : X.N.Nodup)
    (hi : PMI X W tg iter wi fi) (ok : BlkOk X.N X.env.scope scope own)
    (hg : ∀ (s : Shared) (H : Hp) (C : Addr) (cl : List (Str × Addr)) (fp : List Addr), PMG (X.blk s H scope (compEnvC scope cl C X.env) fp) tg g h tv)
    (hv : ∀ i ∈ tv, i ∈ own.map (·.2))
    (ht : ∀ (s : Shared) (H : Hp) (C : Addr) (cl : List (Str × Addr)) (fp : List Addr), PMTs (X.blk s H scope (compEnvC scope cl C X.env) fp) WF ifs tt ft)
    (he : ∀ (s : Shared) (H : Hp) (C : Addr) (cl : List (Str × Addr)) (fp : List Addr), PM (X.blk s H scope (compEnvC scope cl C X.env) fp) WF elt te fe)
    (hs : ∀ x, foldedSetIterable iter X.env x = pure x := by intro _; rfl) :
    PM X W (.ListComp elt [⟨tg, iter, ifs, 0⟩] scope pos) (tLc wi g tt te (own.map (·.2))) (eLc fi h ft fe (own.map (·.2))) :=
  ⟨pe_lc hc hN hi.pi ok (fun s H C cl fp => (hg s H C cl fp).pg) (fun s H C cl fp => (ht s H C cl fp).pe) (fun s H C cl fp => (he s H C cl fp).pe) hs,
   snd_lc hi.sd (hg X.s_0 X.H_0 0 [] []).ok hv (ht X.s_0 X.H_0 0 [] []).sd (he X.s_0 X.H_0 0 [] []).sd⟩
/-! ### own defs -/
/-- how a call of a def goes on where it raises -/
abbrev EW (W : WX) : Slots → XK := fun σ cls d H => W cls d σ H
theorem snd_call {K : PySem.W.Frag} {F : List DV → Mem → Res R} {n : Nat} {ta : TA} {fa : AM} (ha : SndA K W ta fa) (hn : ∀ xs μ, F xs μ ≠ .bad → xs.length = n) : SndE K W (tCallSD (spF K n F) [] (EW W) ta) (eCB F fa) := fun ρ G H σ δ μ Q R E hp => by
  refine SndG.seq (t := ta) ha R E hp fun xs μ1 G1 H1 vs t1 R1 E1 d1 hp1 => ?_
  have hp2 := hp1.shiftE t1
  have hb : F xs μ1 ≠ .bad := fun e => by rw [e] at hp2; exact hp2
  show spF K n F (vs ++ []) H1 Q (EW W σ)
  rw [List.append_nil]
  refine ⟨by rw [paired_len d1]; exact hn xs μ1 hb, ρ, G1, μ1, xs, R1, d1, ?_⟩
  cases e : F xs μ1 with
  | ok r μ' => rw [e] at hp2; exact hp2
  | exc x μ' => rw [e] at hp2; exact hp2
  | bad => exact hb e
/-- a def of the text by its name: what it gives, as a function -/
structure FnD (P : Program) (w : World) (K : PySem.W.Frag) (mg : Str → Option Value) (base : Heap) (cx : CXT) (k : Nat) (x : Str) (n : Nat) (F : List DV → Mem → Res R) : Prop where
  ar : ∀ xs μ, F xs μ ≠ .bad → xs.length = n
  ex : ∃ (f : Addr) (fd : FuncData) (ps : List Str), ps.length = n ∧ FnG P w K mg base cx k f fd ps (spF K n F) ∧ mg x = some (.ref f) ∧ PySem.W.keepIn K (.ref f) = true ∧ Binds K fd ps []
theorem pm_call {cx : CXT} {k n : Nat} {x : Str} {F : List DV → Mem → Res R} {e : Expr} {es : List Expr} {ta : TA} {fa : AM} {p pos : Pos} (Fn : FnD X.prog X.w X.K X.mg X.base cx k x n F) (hr : Room k X.A) (hgd : X.A.guards = some []) (hg : Gl X x)
    (hx : ∀ σ, PassesAt cx X σ (EW W σ)) (ha : PMA X W (e :: es) ta fa) (hdb : (x == ("__debug__" : Str)) = false := by decide)
    (he : starEach (e :: es) X.env = (false, eval e X.env) :: starEach es X.env := by rfl) (hpl : (backTo pos (starEach es X.env)).any (·.1) = false := by rfl) :
    PM X W (.Call (.Name x p) (e :: es) [] pos) (tCallSD (spF X.K n F) [] (EW W) ta) (eCB F fa) := by
  obtain ⟨f, fd, ps, hn, G, hm, hk, hb⟩ := Fn.ex
  exact ⟨pe_callG G hr hgd hg hm hk hb .nil hx ha.pe hdb he hpl, snd_call ha.sd Fn.ar⟩
/-- what a body gives, called with n arguments -/
def callD (g : SM) (n m : Nat) : List DV → Mem → Res R := fun xs μ => if xs.length = n then callF g m xs μ else .bad
theorem callD_ar {g : SM} {n m : Nat} (xs : List DV) (μ : Mem) (h : callD g n m xs μ ≠ .bad) : xs.length = n := by
  unfold callD at h
  by_cases e : xs.length = n
  · exact e
  · rw [if_neg e] at h; exact absurd rfl h
theorem sp_callD {K : PySem.W.Frag} {g : SM} {n m : Nat} {vs : List V} {H : Hp} {Q : VK} {E : XK} (h : spF K n (callD g n m) vs H Q E) : spF K n (callF g m) vs H Q E := by
  obtain ⟨hl, ρ, G, μ, xs, R, d, hp⟩ := h
  refine ⟨hl, ρ, G, μ, xs, R, d, ?_⟩
  unfold callD at hp
  rw [if_pos (by rw [← paired_len d]; exact hl)] at hp
  exact hp
variable {P : Program} {w : World} {K : PySem.W.Frag} {mg : Str → Option Value} {base : Heap}
/-- a def that lets no exception out, by its body -/
theorem fn_ok {x qual : Str} {st : Stmt} {f : Addr} {fd : FuncData} {Nm ps : List Str} {k n m : Nat} {g : SM} (F : Fun K x qual st f fd) (S : FnScope Nm ps (defScope st)) (hm : mg x = some (.ref f)) (hn : ps.length = n) (hmn : Nm.length = n + m)
    (hb : ∀ (kV doc pm : Value) (an : Option Addr) (cdv ct : Value) (us : List Value), us.length = ps.length → bindArgs (PySem.W.fnOf x qual (defArgs st) (defBody st) (defScope st) .none kV doc pm an cdv ct) ⟨us, []⟩ = pure (ps.zip us))
    (body : ∀ (cdv : Value) (A : Around) (out : List PySem.Env) (s : Shared) (H : Hp) (E : XK), Room k (A.deeper (envOfC qual (defScope st) s.heap.objs.size f cdv)) → A.guards = some [] →
      ∃ ts, PSMs (cxOf CX0 P w K mg base Nm qual (defScope st) f cdv A out s H E).nox (fun cls d _ H => E cls d H) (defBody st) ts g) :
    FnD P w K mg base CX0 (k + 1) x n (callD g n m) := by
  refine ⟨callD_ar, f, fd, ps, hn, ?_, hm, F.kp, F.binds hb⟩
  obtain ⟨oc, od, kV, doc, pm, an, cdv, ct, osl, rfl, lk, hcd⟩ := F.ex
  refine fnG_of lk hcd S (fun vs H Q E h => by rw [h.1, hn]) fun A out s H vs Q E hr hg hsp => ?_
  obtain ⟨ts, b⟩ := body cdv A out s H E hr hg
  refine ⟨ts, b.ps.nox, ?_⟩
  have e : Nm.length - n = m := by omega
  exact body_ok (n := n) b.sd (by omega) (by rw [e]; exact sp_callD hsp)
theorem pass_0 {X : Cx} {E : Slots → XK} (σ : Slots) : PassesAt CX0 X σ (E σ) := fun _ _ _ _ _ _ h => h.elim
end
end DL
namespace DL
open PySem PySem.Spec PyProof.Rows L2
theorem OpR.or {X : Cx} {f : Value → Value → Sem Value} {r r' : R2} (h : OpR X f r) (h' : OpR X f r') : OpR X f (fun x y H Q => r x y H Q ∨ r' x y H Q) :=
  fun pins s σ H x y v u Q I rx ry q => q.elim (h pins s σ H x y v u Q I rx ry) (h' pins s σ H x y v u Q I rx ry)
theorem CallR.or {X : Cx} {f : Value} {r r' : List V → Hp → VK → Prop} (h : CallR X f r) (h' : CallR X f r') : CallR X f (fun x H Q => r x H Q ∨ r' x H Q) :=
  fun pins s σ H x v Q I rx q => q.elim (h pins s σ H x v Q I rx) (h' pins s σ H x v Q I rx)
theorem SlR.or {X : Cx} {r r' : V → Option Int → Option Int → Hp → VK → Prop} (h : SlR X r) (h' : SlR X r') : SlR X (fun x lo hi H Q => r x lo hi H Q ∨ r' x lo hi H Q) :=
  fun pins s σ H x v vl vu lo hi sl Q I rx a b c q => q.elim (h pins s σ H x v vl vu lo hi sl Q I rx a b c) (h' pins s σ H x v vl vu lo hi sl Q I rx a b c)
/-! ### looking at a value -/
def asL (μ : Mem) : DV → Option (List DV)
  | .dat (.lst ds) => some (ds.map DV.dat)
  | .dat (.fro ds) => some (ds.map DV.dat)
  | .loc n => match μ[n]? with
    | some (.lst xs) => some xs
    | _ => none
  | _ => none
/-- a list that the text itself has made -/
def asM (μ : Mem) : DV → Option (List DV)
  | .dat (.lst ds) => some (ds.map DV.dat)
  | .loc n => match μ[n]? with
    | some (.lst xs) => some xs
    | _ => none
  | _ => none
def asT : DV → Option (List D)
  | .dat (.tup ds) => some ds
  | _ => none
/-- the items of a list or a tuple -/
def asS (μ : Mem) (x : DV) : Option (List DV) := match asL μ x with
  | some xs => some xs
  | none => (asT x).map fun ds => ds.map DV.dat
section
variable {K : PySem.W.Frag} {W : WX} {N M : Nat} {ρ : Pm} {G H : Hp} {σ : Slots} {δ : Env} {μ : Mem} {Q : VK} {v : V} {x : DV}
theorem RpL.dv {vs : List V} {ds : List D} : RpL K G vs ds → DvL K ρ G vs (ds.map DV.dat)
  | .nil => .nil
  | .cons a b => .cons a (RpL.dv b)
theorem asL_ok {xs : List DV} (R : Rel K ρ G H μ) (h : DvOk K ρ G v x) (e : asL μ x = some xs) : ∃ a vs, v = .ref a ∧ SqL K H a vs ∧ DvL K ρ G vs xs := by
  unfold asL at e
  split at e
  · cases e
    cases h with
    | lst h r => exact ⟨_, _, rfl, .inl (.inl (R.ex _ _ h)), r.dv⟩
  · cases e
    cases h with
    | fro h r => exact ⟨_, _, rfl, ex_l R.ex h, r.dv⟩
  · rename_i n
    split at e
    · rename_i q
      cases e
      obtain ⟨a, rfl, hn⟩ := h
      obtain ⟨_, b, vs, h1, h2, h3⟩ := R.pl n _ q
      rw [hn] at h1; cases h1
      exact ⟨a, vs, rfl, .inl (.inl h2), h3⟩
    · cases e
  · cases e
theorem asM_ok {xs : List DV} (R : Rel K ρ G H μ) (h : DvOk K ρ G v x) (e : asM μ x = some xs) : ∃ a vs, v = .ref a ∧ H a = some (.lst vs) ∧ DvL K ρ G vs xs := by
  unfold asM at e
  split at e
  · cases e
    cases h with
    | lst h r => exact ⟨_, _, rfl, R.ex _ _ h, r.dv⟩
  · rename_i n
    split at e
    · rename_i q
      cases e
      obtain ⟨a, rfl, hn⟩ := h
      obtain ⟨_, b, vs, h1, h2, h3⟩ := R.pl n _ q
      rw [hn] at h1; cases h1
      exact ⟨a, vs, rfl, h2, h3⟩
    · cases e
  · cases e
theorem asT_ok {ds : List D} (R : Rel K ρ G H μ) (h : DvOk K ρ G v x) (e : asT x = some ds) : ∃ a vs, v = .ref a ∧ SqT K H a vs ∧ RpL K G vs ds := by
  unfold asT at e
  split at e
  · cases e
    cases h with
    | tup h r => exact ⟨_, _, rfl, ex_t R.ex h, r⟩
  · cases e
theorem asT_eq {ds : List D} (e : asT x = some ds) : x = .dat (.tup ds) := by
  unfold asT at e
  split at e
  · cases e; rfl
  · cases e
/-- a new tuple is laid at p -/
theorem new_tup {G0 H0 : Hp} {p : Addr} {vs : List V} {ds : List D} (R : Rel K ρ G H μ) (t : Tr ρ G0 H0 G H) (hn : H p = none) (r : RpL K G vs ds)
    (hp : PostG K W ρ G0 H0 σ (fun G' H' => rpE K ρ G' H0 H') Q (.ok (.dat (.tup ds)) μ)) : Q (.ref p) (upd H p (.tup vs)) := by
  obtain ⟨R2, t2, ex⟩ := R.layD (o := .tup vs) hn
  exact hp _ _ _ (t.trans t2) R2 (Rp.tup (.inl (.inl upd_same)) (r.mono ex))
theorem asS_ok {xs : List DV} (R : Rel K ρ G H μ) (h : DvOk K ρ G v x) (e : asS μ x = some xs) : ∃ a vs, v = .ref a ∧ (SqL K H a vs ∨ SqT K H a vs) ∧ DvL K ρ G vs xs := by
  unfold asS at e
  split at e
  · rename_i q
    cases e
    obtain ⟨a, vs, h1, h2, h3⟩ := asL_ok R h q
    exact ⟨a, vs, h1, .inl h2, h3⟩
  · cases q : asT x with
    | none => rw [q] at e; cases e
    | some ds =>
      rw [q] at e; cases e
      obtain ⟨a, vs, h1, h2, h3⟩ := asT_ok R h q
      exact ⟨a, vs, h1, .inr h2, h3.dv⟩
theorem DvL.get' : ∀ {vs : List V} {xs : List DV} {i : Nat} {y : DV}, DvL K ρ G vs xs → xs[i]? = some y → ∃ w, vs[i]? = some w ∧ DvOk K ρ G w y
  | _, _, _, _, .nil, h => by simp at h
  | _, _, 0, _, .cons a _, h => by cases h; exact ⟨_, rfl, a⟩
  | _, _, i + 1, v, .cons _ b, h => DvL.get' (i := i) b h
theorem DvL.take {vs : List V} {xs : List DV} (h : DvL K ρ G vs xs) (n : Nat) : DvL K ρ G (vs.take n) (xs.take n) := by
  induction h generalizing n with
  | nil => simp; exact .nil
  | cons a _ ih =>
    cases n with
    | zero => exact .nil
    | succ n => exact .cons a (ih n)
theorem DvL.drop {vs : List V} {xs : List DV} (h : DvL K ρ G vs xs) (n : Nat) : DvL K ρ G (vs.drop n) (xs.drop n) := by
  induction h generalizing n with
  | nil => simp; exact .nil
  | cons a b ih =>
    cases n with
    | zero => exact .cons a b
    | succ n => exact ih n
theorem DvL.append {vs ws : List V} {xs ys : List DV} (h : DvL K ρ G vs xs) (h' : DvL K ρ G ws ys) : DvL K ρ G (vs ++ ws) (xs ++ ys) := by
  induction h with
  | nil => exact h'
  | cons a _ ih => exact .cons a ih
theorem PostG.okD {d : D} (h : PostG K W ρ G H σ (fun G' H' => rpE K ρ G' H H') Q (.ok (.dat d) μ)) (R : Rel K ρ G H μ) (r : Rp K G v d) : Q v H := h G H v (Tr.refl _ _ _) R r
theorem PostG.okV {y : DV} (h : PostG K W ρ G H σ (fun G' H' => rpE K ρ G' H H') Q (.ok (ofV y) μ)) (R : Rel K ρ G H μ) (r : DvOk K ρ G v y) : Q v H := h G H v (Tr.refl _ _ _) R (RpR.ofV r)
/-! ### ints -/
def asI : DV → Option Int
  | .dat (.int i) => some i
  | _ => none
def asStr : DV → Option Str
  | .dat (.str i) => some i
  | _ => none
def asBl : DV → Option Bool
  | .dat (.bl i) => some i
  | _ => none
theorem asI_ok {i : Int} (h : DvOk K ρ G v x) (e : asI x = some i) : v = .int i := by
  unfold asI at e
  split at e
  · cases e; cases h; rfl
  · cases e
theorem asStr_ok {i : Str} (h : DvOk K ρ G v x) (e : asStr x = some i) : v = .str i := by
  unfold asStr at e
  split at e
  · cases e; cases h; rfl
  · cases e
theorem asBl_ok {i : Bool} (h : DvOk K ρ G v x) (e : asBl x = some i) : v = .bl i := by
  unfold asBl at e
  split at e
  · cases e; cases h; rfl
  · cases e
def d2I (C : Int → Int → Bool) (g : Int → Int → D) (x y : DV) (μ : Mem) : Res R := match asI x with
  | none => .bad
  | some i => match asI y with
    | none => .bad
    | some j => if C i j = true then .ok (.dat (g i j)) μ else .bad
theorem od_I {C : Int → Int → Prop} {Cb : Int → Int → Bool} {g : Int → Int → V} {gd : Int → Int → D} (hC : ∀ i j, Cb i j = true → C i j) (hg : ∀ G i j, Rp K G (g i j) (gd i j)) : OpD K (rI C g) (d2I Cb gd) := fun W ρ G H σ μ v w x y Q R hx hy hp => by
  unfold d2I at hp
  cases e1 : asI x with
  | none => rw [e1] at hp; exact hp.elim
  | some i =>
    rw [e1] at hp
    cases e2 : asI y with
    | none => rw [e2] at hp; exact hp.elim
    | some j =>
      rw [e2] at hp
      by_cases c : Cb i j = true
      · simp only [if_pos c] at hp; exact ⟨i, j, asI_ok hx e1, asI_ok hy e2, hC i j c, hp.okD R (hg G i j)⟩
      · simp only [if_neg c] at hp; exact hp.elim
theorem od_I0 {g : Int → Int → V} {gd : Int → Int → D} (hg : ∀ G i j, Rp K G (g i j) (gd i j)) : OpD K (rI0 g) (d2I (fun _ _ => true) gd) := fun W ρ G H σ μ v w x y Q R hx hy hp => by
  obtain ⟨i, j, h1, h2, _, q⟩ := od_I (C := fun _ _ => True) (fun _ _ _ => trivial) hg W ρ G H σ μ v w x y Q R hx hy hp
  exact ⟨i, j, h1, h2, q⟩
abbrev dSub : DV → DV → Mem → Res R := d2I (fun _ _ => true) fun i j => .int (i - j)
def cMul (i j : Int) : Bool := decide (-2 ^ 64 < i ∧ i < 2 ^ 64) || decide (-2 ^ 64 < j ∧ j < 2 ^ 64)
abbrev dMul : DV → DV → Mem → Res R := d2I cMul fun i j => .int (i * j)
abbrev dMod : DV → DV → Mem → Res R := d2I (fun _ j => decide (0 < j)) fun i j => .int (i % j)
abbrev dDiv : DV → DV → Mem → Res R := d2I (fun _ j => decide (0 < j ∧ j < 1073741824)) fun i j => .int (i / j)
abbrev dLt : DV → DV → Mem → Res R := d2I (fun _ _ => true) fun i j => .bl (decide (i < j))
abbrev dLe : DV → DV → Mem → Res R := d2I (fun _ _ => true) fun i j => .bl (decide (i ≤ j))
abbrev dGt : DV → DV → Mem → Res R := d2I (fun _ _ => true) fun i j => .bl (decide (j < i))
abbrev dGe : DV → DV → Mem → Res R := d2I (fun _ _ => true) fun i j => .bl (decide (j ≤ i))
theorem od_sub : OpD K (rI0 fun i j => V.int (i - j)) dSub := od_I0 fun _ _ _ => .int _
theorem od_mul : OpD K (rI CMul fun i j => V.int (i * j)) dMul := od_I (fun i j h => by
  unfold cMul at h
  rw [Bool.or_eq_true, decide_eq_true_eq, decide_eq_true_eq] at h
  exact h) fun _ _ _ => .int _
theorem od_mod : OpD K (rI (fun _ j => 0 < j) fun i j => V.int (i % j)) dMod := od_I (fun i j h => of_decide_eq_true h) fun _ _ _ => .int _
theorem od_div : OpD K (rI CDiv fun i j => V.int (i / j)) dDiv := od_I (fun i j h => by
  have := of_decide_eq_true h
  exact ⟨by omega, by omega⟩) fun _ _ _ => .int _
theorem od_lt : OpD K (rI0 fun i j => V.bl (decide (i < j))) dLt := od_I0 fun _ _ _ => .bl _
theorem od_le : OpD K (rI0 fun i j => V.bl (decide (i ≤ j))) dLe := od_I0 fun _ _ _ => .bl _
theorem od_gt : OpD K (rI0 fun i j => V.bl (decide (j < i))) dGt := od_I0 fun _ _ _ => .bl _
theorem od_ge : OpD K (rI0 fun i j => V.bl (decide (j ≤ i))) dGe := od_I0 fun _ _ _ => .bl _
/-! ### + -/
def rPlus (K : PySem.W.Frag) : R2 := fun x y H Q => (rI0 (fun i j => V.int (i + j)) x y H Q ∨ rCat x y H Q) ∨
  (rCatA K x y H Q ∨ ∃ i j, x = V.str i ∧ y = V.str j ∧ i.length + j.length ≤ sizeLine ∧ Q (V.str (i ++ j)) H)
theorem op_plus {X : Cx} : OpR X (binaryOp .Add) (rPlus X.K) := OpR.or (OpR.or op_add op_cat) (OpR.or op_catA op_add_str)
def dAdd (x y : DV) (μ : Mem) : Res R := match asI x, asI y with
  | some i, some j => .ok (.dat (.int (i + j))) μ
  | _, _ => match asStr x, asStr y with
    | some i, some j => if i.length + j.length ≤ sizeLine then .ok (.dat (.str (i ++ j))) μ else .bad
    | _, _ => match asT x, asT y with
      | some a, some b => if a.length + b.length ≤ sizeLine then .ok (.dat (.tup (a ++ b))) μ else .bad
      | _, _ => match asM μ x, asM μ y with
        | some a, some b => if a.length + b.length ≤ sizeLine then .ok (.nl (a ++ b)) μ else .bad
        | _, _ => .bad
theorem od_add : OpD K (rPlus K) dAdd := fun W ρ G H σ μ v w x y Q R hx hy hp => by
  unfold dAdd at hp
  split at hp
  · rename_i i j e1 e2
    exact .inl (.inl ⟨i, j, asI_ok hx e1, asI_ok hy e2, hp.okD R (.int _)⟩)
  split at hp
  · rename_i i j e1 e2
    by_cases c : i.length + j.length ≤ sizeLine
    · rw [if_pos c] at hp; exact .inr (.inr ⟨i, j, asStr_ok hx e1, asStr_ok hy e2, c, hp.okD R (.str _)⟩)
    · rw [if_neg c] at hp; exact hp.elim
  split at hp
  · rename_i a b e1 e2
    by_cases c : a.length + b.length ≤ sizeLine
    · rw [if_pos c] at hp
      obtain ⟨p, vs, rfl, h2, h3⟩ := asT_ok R hx e1
      obtain ⟨q, ws, rfl, k2, k3⟩ := asT_ok R hy e2
      refine .inr (.inl ⟨p, q, vs, ws, rfl, rfl, h2, k2, by rw [h3.length, k3.length]; exact c, fun z => ?_, fun _ z => ?_, fun _ _ t ht => ?_⟩)
      · subst z
        cases h3
        rw [asT_eq e2] at hy
        exact hp.okD R hy
      · subst z
        cases k3
        rw [List.append_nil] at hp
        rw [asT_eq e1] at hx
        exact hp.okD R hx
      · exact new_tup R (Tr.refl _ _ _) ht (h3.append k3) hp
    · rw [if_neg c] at hp; exact hp.elim
  split at hp
  · rename_i a b e1 e2
    by_cases c : a.length + b.length ≤ sizeLine
    · rw [if_pos c] at hp
      obtain ⟨p, vs, rfl, h2, h3⟩ := asM_ok R hx e1
      obtain ⟨q, ws, rfl, k2, k3⟩ := asM_ok R hy e2
      exact .inl (.inr ⟨p, q, vs, ws, rfl, rfl, h2, k2, by rw [paired_len h3, paired_len k3]; exact c, fun t ht => new_list R (Tr.refl _ _ _) ht (h3.append k3) hp⟩)
    · rw [if_neg c] at hp; exact hp.elim
  exact hp.elim
/-! ### subscripts -/
def dIx (x y : DV) (μ : Mem) : Res R := match asI y with
  | none => .bad
  | some i => match asS μ x with
    | some xs => match atI xs i with
      | some z => .ok (ofV z) μ
      | none => .bad
    | none => match asStr x with
      | some z => if z.length ≤ sizeLine then match atI z.cps.toList i with
          | some c => .ok (.dat (.str ⟨#[c]⟩)) μ
          | none => .bad
        else .bad
      | none => .bad
theorem atI_dv {vs : List V} {xs : List DV} {i : Int} {y : DV} (h : DvL K ρ G vs xs) (e : atI xs i = some y) : ∃ w, atI vs i = some w ∧ DvOk K ρ G w y := by
  unfold atI at e ⊢
  rw [paired_len h]
  cases q : ixN xs.length i with
  | none => rw [q] at e; cases e
  | some j => rw [q] at e; exact DvL.get' h e
theorem od_ix : OpD K (rIx K) dIx := fun W ρ G H σ μ v w x y Q R hx hy hp => by
  unfold dIx at hp
  cases e1 : asI y with
  | none => rw [e1] at hp; exact hp.elim
  | some i =>
    rw [e1] at hp
    have ew := asI_ok hy e1
    cases e2 : asS μ x with
    | some xs =>
      simp only [e2] at hp
      obtain ⟨a, vs, rfl, h2, h3⟩ := asS_ok R hx e2
      cases e3 : atI xs i with
      | none => rw [e3] at hp; exact hp.elim
      | some z =>
        rw [e3] at hp
        obtain ⟨u, q1, q2⟩ := atI_dv h3 e3
        rcases h2 with h2 | h2
        · exact .inl ⟨a, vs, i, u, rfl, ew, h2, q1, hp.okV R q2⟩
        · exact .inr (.inl ⟨a, vs, i, u, rfl, ew, h2, q1, hp.okV R q2⟩)
    | none =>
      simp only [e2] at hp
      cases e3 : asStr x with
      | none => rw [e3] at hp; exact hp.elim
      | some z =>
        simp only [e3] at hp
        by_cases c : z.length ≤ sizeLine
        · rw [if_pos c] at hp
          cases e4 : atI z.cps.toList i with
          | none => rw [e4] at hp; exact hp.elim
          | some k => rw [e4] at hp; exact .inr (.inr ⟨z, i, k, asStr_ok hx e3, ew, c, e4, hp.okD R (.str _)⟩)
        · rw [if_neg c] at hp; exact hp.elim
/-! ### slices -/
def cutL {α : Type} (xs : List α) (lo hi : Option Int) : List α := (xs.drop (HT.sIx xs.length 0 lo)).take (HT.sIx xs.length xs.length hi - HT.sIx xs.length 0 lo)
def rSl (K : PySem.W.Frag) : V → Option Int → Option Int → Hp → VK → Prop := fun x lo hi H Q => (rSlL K x lo hi H Q ∨ rSlA K x lo hi H Q) ∨ rSlS x lo hi H Q
theorem sl_any {X : Cx} : SlR X (rSl X.K) := SlR.or (SlR.or sl_list sl_tupA) sl_str
def dSl (x : DV) (lo hi : Option Int) (μ : Mem) : Res R := match asL μ x with
  | some xs => .ok (.nl (cutL xs lo hi)) μ
  | none => match asT x with
    | some ds => .ok (.dat (.tup (cutL ds lo hi))) μ
    | none => match asStr x with
      | some z => if z.length ≤ sizeLine then .ok (.dat (.str (cutS z lo hi))) μ else .bad
      | none => .bad
theorem cutL_full {α : Type} {xs : List α} {lo hi : Option Int} (h : HT.sIx xs.length 0 lo = 0 ∧ HT.sIx xs.length xs.length hi = xs.length) : cutL xs lo hi = xs := by
  unfold cutL; rw [h.1, h.2]; simp
theorem dvl_cut {vs : List V} {xs : List DV} {lo hi : Option Int} (h : DvL K ρ G vs xs) : DvL K ρ G (L2.cutV vs lo hi) (cutL xs lo hi) := by
  unfold L2.cutV cutL
  rw [paired_len h]
  exact (h.drop _).take _
theorem rpl_cut {vs : List V} {xs : List D} {lo hi : Option Int} (h : RpL K G vs xs) : RpL K G (L2.cutV vs lo hi) (cutL xs lo hi) := by
  unfold L2.cutV cutL
  rw [h.length]
  exact (h.drop _).take _
theorem od_sl {lo hi : Option Int} (R : Rel K ρ G H μ) (hx : DvOk K ρ G v x) (hp : PostG K W ρ G H σ (fun G' H' => rpE K ρ G' H H') Q (dSl x lo hi μ)) : rSl K v lo hi H Q := by
  unfold dSl at hp
  split at hp
  · rename_i xs e
    obtain ⟨a, vs, rfl, h2, h3⟩ := asL_ok R hx e
    exact .inl (.inl ⟨a, vs, rfl, h2, fun p hn => new_list R (Tr.refl _ _ _) hn (dvl_cut h3) hp⟩)
  split at hp
  · rename_i ds e
    obtain ⟨a, vs, rfl, h2, h3⟩ := asT_ok R hx e
    refine .inl (.inr ⟨a, vs, rfl, h2, fun z => ?_, fun _ p hn => new_tup R (Tr.refl _ _ _) hn (rpl_cut h3) hp⟩)
    rw [h3.length] at z
    rw [cutL_full z] at hp
    rw [asT_eq e] at hx
    exact hp.okD R hx
  split at hp
  · rename_i z e
    by_cases c : z.length ≤ sizeLine
    · rw [if_pos c] at hp; exact .inr ⟨z, asStr_ok hx e, c, hp.okD R (.str _)⟩
    · rw [if_neg c] at hp; exact hp.elim
  exact hp.elim
abbrev OM := Env → Mem → Res (Option Int)
abbrev SndO (K : PySem.W.Frag) (W : WX) (t : TO) (f : OM) : Prop := SndG K W t f rpT
def oNone : OM := fun _ μ => .ok none μ
def oSome (f : EM) : OM := fun δ μ => (frzV f δ μ).bind fun x μ' => match asI x with
  | some i => .ok (some i) μ'
  | none => .bad
def eSl (f : EM) (lo hi : OM) : EM := fun δ μ => (frzV f δ μ).bind fun x μ1 => (lo δ μ1).bind fun l μ2 => (hi δ μ2).bind fun u μ3 => dSl x l u μ3
end
structure PMO (X : Cx) (W : WX) (e : Option Expr) (t : TO) (f : OM) : Prop where
  po : PO X e t
  sd : SndO X.K W t f
section
variable {X : Cx} {W : WX} {pos p2 : Pos} {e : Expr} {lo hi : Option Expr} {te : TE} {tl th : TO} {f : EM} {fl fh : OM}
theorem mo_none : PMO X W none tNoPart oNone := ⟨po_none, fun ρ G H σ δ μ Q R E hp => hp G H none (Tr.refl _ _ _) R rfl⟩
theorem mo_some (h : PM X W e te f) : PMO X W (some e) (tPart te) (oSome f) := ⟨po_some h.pe, fun ρ G H σ δ μ Q R E hp => by
  refine SndG.seq (t := te) h.sd.toV R E hp fun x μ1 G1 H1 v t1 R1 E1 d1 hp1 => ?_
  cases e : asI x with
  | none => rw [e] at hp1; exact hp1.elim
  | some i => rw [e] at hp1; exact ⟨i, asI_ok d1 e, hp1 G1 H1 _ t1 R1 rfl⟩⟩
theorem pm_sl (h : PM X W e te f) (hl : PMO X W lo tl fl) (hh : PMO X W hi th fh) : PM X W (.Subscript e (.Slice lo hi none p2) pos) (tSl (rSl X.K) te tl th) (eSl f fl fh) := ⟨pe_slice sl_any h.pe hl.po hh.po, fun ρ G H σ δ μ Q R E hp => by
  refine SndG.seq (t := te) h.sd.toV R E hp fun x μ1 G1 H1 v t1 R1 E1 d1 hp1 => ?_
  refine SndG.seq (t := tl) hl.sd R1 E1 (hp1.shiftE t1) fun l μ2 G2 H2 lv t2 R2 E2 d2 hp2 => ?_
  refine SndG.seq (t := th) hh.sd R2 E2 (hp2.shiftE t2) fun u μ3 G3 H3 uv t3 R3 E3 d3 hp3 => ?_
  subst d2 d3
  exact od_sl R3 (d1.mono (t2.exG.trans t3.exG) fun _ _ q => q) (hp3.shiftE t3)⟩
theorem pm_add {a b : Expr} {ta tb : TE} {fa fb : EM} (ha : PM X W a ta fa) (hb : PM X W b tb fb) : PM X W (.BinOp a .Add b pos) (tOp (rPlus X.K) ta tb) (eOp dAdd fa fb) := pm_op op_plus od_add ha hb
theorem pm_sub {a b : Expr} {ta tb : TE} {fa fb : EM} (ha : PM X W a ta fa) (hb : PM X W b tb fb) : PM X W (.BinOp a .Sub b pos) (tOp (rI0 fun i j => V.int (i - j)) ta tb) (eOp dSub fa fb) := pm_op op_sub od_sub ha hb
theorem pm_mul {a b : Expr} {ta tb : TE} {fa fb : EM} (ha : PM X W a ta fa) (hb : PM X W b tb fb) : PM X W (.BinOp a .Mult b pos) (tOp (rI CMul fun i j => V.int (i * j)) ta tb) (eOp dMul fa fb) := pm_op op_mul od_mul ha hb
theorem pm_mod {a b : Expr} {ta tb : TE} {fa fb : EM} (ha : PM X W a ta fa) (hb : PM X W b tb fb) : PM X W (.BinOp a .Mod b pos) (tOp (rI (fun _ j => 0 < j) fun i j => V.int (i % j)) ta tb) (eOp dMod fa fb) := pm_op op_mod od_mod ha hb
theorem pm_div {a b : Expr} {ta tb : TE} {fa fb : EM} (ha : PM X W a ta fa) (hb : PM X W b tb fb) : PM X W (.BinOp a .FloorDiv b pos) (tOp (rI CDiv fun i j => V.int (i / j)) ta tb) (eOp dDiv fa fb) := pm_op op_fdiv od_div ha hb
theorem pm_idx {a b : Expr} {ta tb : TE} {fa fb : EM} (ha : PM X W a ta fa) (hb : PM X W b tb fb) (hs : PlainIx b) : PM X W (.Subscript a b pos) (tOp (rIx X.K) ta tb) (eOp dIx fa fb) := pm_ix ix_seq od_ix ha hb hs
end
end DL
namespace DL
open PySem PySem.Spec PyProof.Rows L2
/-! ### data to be compared and shown -/
mutual
def toPy : D → Option PyData
  | .non => some .none
  | .bl b => some (.bool b)
  | .int i => some (.int i)
  | .str s => some (.str s)
  | .tup xs => (toPyL xs).map .tuple
  | .lst xs => (toPyL xs).map .list
  | .fro xs => (toPyL xs).map .list
  | .ty _ => none
  | .ref _ => none
  | .dct _ => none
  | .ins _ _ => none
  | .err _ _ _ _ _ => none
def toPyL : List D → Option (List PyData)
  | [] => some []
  | x :: xs => match toPy x with
    | none => none
    | some p => (toPyL xs).map (p :: ·)
end
def peekL (f : DV → Option D) : List DV → Option (List D)
  | [] => some []
  | x :: xs => match f x with
    | none => none
    | some d => (peekL f xs).map (d :: ·)
def peekK : Nat → Mem → DV → Option D
  | _, _, .dat d => some d
  | 0, _, .loc _ => none
  | k + 1, μ, .loc n => match μ[n]? with
    | some (.lst xs) => (peekL (peekK k μ) xs).map .lst
    | _ => none
def peek (μ : Mem) (x : DV) : Option D := peekK 5 μ x
def peekPy (μ : Mem) (x : DV) : Option PyData := (peek μ x).bind toPy
section
variable {K : PySem.W.Frag} {W : WX} {N M : Nat} {ρ : Pm} {G H : Hp} {σ : Slots} {δ : Env} {μ : Mem} {Q : VK} {v w : V} {x y : DV}
mutual
theorem Rp.dp : ∀ {v : V} {d : D} {p : PyData}, Rp K G v d → toPy d = some p → Dp K G v p
  | _, _, _, .non, e => by cases e; exact .non
  | _, _, _, .bl b, e => by cases e; exact .bl b
  | _, _, _, .int i, e => by cases e; exact .int i
  | _, _, _, .str s, e => by cases e; exact .str s
  | _, _, _, .ty n, e => by cases e
  | _, _, _, .ref a, e => by cases e
  | _, _, _, .tup (ds := ds) h r, e => by
    simp only [toPy] at e
    cases q : toPyL ds with
    | none => rw [q] at e; cases e
    | some ps => rw [q] at e; cases e; exact .tup h (RpL.dp r q)
  | _, _, _, .lst (ds := ds) h r, e => by
    simp only [toPy] at e
    cases q : toPyL ds with
    | none => rw [q] at e; cases e
    | some ps => rw [q] at e; cases e; exact .lst (.inl (.inl h)) (RpL.dp r q)
  | _, _, _, .fro (ds := ds) h r, e => by
    simp only [toPy] at e
    cases q : toPyL ds with
    | none => rw [q] at e; cases e
    | some ps => rw [q] at e; cases e; exact .lst h (RpL.dp r q)
  | _, _, _, .dct _ _ _, e => by cases e
  | _, _, _, .ins _ _ _ _ _, e => by cases e
  | _, _, _, .err _ _ _ _, e => by cases e
theorem RpL.dp : ∀ {vs : List V} {ds : List D} {ps : List PyData}, RpL K G vs ds → toPyL ds = some ps → DpAll K G vs ps
  | _, _, _, .nil, e => by cases e; exact .nil
  | _, _, _, .cons (d := d) (ds := ds) a b, e => by
    simp only [toPyL] at e
    cases q : toPy d with
    | none => rw [q] at e; cases e
    | some p =>
      rw [q] at e
      cases q2 : toPyL ds with
      | none => rw [q2] at e; cases e
      | some ps => rw [q2] at e; cases e; exact .cons (Rp.dp a q) (RpL.dp b q2)
end
theorem peekL_ok {f : DV → Option D} (hf : ∀ v x d, DvOk K ρ G v x → f x = some d → Rp K H v d) : ∀ {vs : List V} {xs : List DV} {ds : List D}, DvL K ρ G vs xs → peekL f xs = some ds → RpL K H vs ds
  | _, _, _, .nil, e => by cases e; exact .nil
  | _, x :: xs, ds, .cons a b, e => by
    unfold peekL at e
    cases q : f x with
    | none => rw [q] at e; cases e
    | some d =>
      rw [q] at e
      cases q2 : peekL f xs with
      | none => rw [q2] at e; cases e
      | some es => rw [q2] at e; cases e; exact .cons (hf _ _ _ a q) (peekL_ok hf b q2)
theorem peekK_ok (R : Rel K ρ G H μ) : ∀ (k : Nat) (v : V) (x : DV) (d : D), DvOk K ρ G v x → peekK k μ x = some d → Rp K H v d
  | k, v, .dat d', d, h, e => by
    have : peekK k μ (.dat d') = some d' := by cases k <;> rfl
    rw [this] at e; cases e; exact Rp.mono R.ex h
  | 0, v, .loc n, d, h, e => by cases e
  | k + 1, v, .loc n, d, h, e => by
    unfold peekK at e
    split at e
    · rename_i xs q
      cases qa : peekL (peekK k μ) xs with
      | none => rw [qa] at e; cases e
      | some ds =>
        rw [qa] at e; cases e
        obtain ⟨a, rfl, hn⟩ := h
        obtain ⟨_, b, vs, h1, h2, h3⟩ := R.pl n _ q
        rw [hn] at h1; cases h1
        exact Rp.lst h2 (peekL_ok (fun v x d => peekK_ok R k v x d) h3 qa)
    · cases e
theorem peek_ok {d : D} (R : Rel K ρ G H μ) (h : DvOk K ρ G v x) (e : peek μ x = some d) : Rp K H v d := peekK_ok R 5 v x d h e
theorem peekPy_ok {p : PyData} (R : Rel K ρ G H μ) (h : DvOk K ρ G v x) (e : peekPy μ x = some p) : Dp K H v p := by
  unfold peekPy at e
  cases q : peek μ x with
  | none => rw [q] at e; cases e
  | some d => rw [q] at e; exact Rp.dp (peek_ok R h q) e
def dEqB (b : Bool) (x y : DV) (μ : Mem) : Res R := match peekPy μ x with
  | none => .bad
  | some p => match peekPy μ y with
    | none => .bad
    | some q => if SeqAt.shaped p = true ∧ SeqAt.shaped q = true then .ok (.dat (.bl (PyData.eqv p q == b))) μ else .bad
def dEqS (b : Bool) (x y : DV) (μ : Mem) : Res R := match asStr x with
  | none => dEqB b x y μ
  | some s => match asStr y with
    | none => dEqB b x y μ
    | some t => .ok (.dat (.bl (decide (s = t) == b))) μ
abbrev dEq : DV → DV → Mem → Res R := dEqS true
abbrev dNe : DV → DV → Mem → Res R := dEqS false
def rEqQ (K : PySem.W.Frag) : R2 := fun x y H Q => rEq x y H Q ∨ rEqD K x y H Q
def rNeQ (K : PySem.W.Frag) : R2 := fun x y H Q => rNe x y H Q ∨ rNeD K x y H Q
theorem op_eqQ {X : Cx} (h : X.A.units + 64 < cLine) : OpR X (compareOp .Eq) (rEqQ X.K) := OpR.or op_eq (op_eqD h)
theorem op_neQ {X : Cx} (h : X.A.units + 64 < cLine) : OpR X (compareOp .NotEq) (rNeQ X.K) := OpR.or op_ne (op_neD h)
theorem od_eqB (b : Bool) (R : Rel K ρ G H μ) (hx : DvOk K ρ G v x) (hy : DvOk K ρ G w y) (hp : PostG K W ρ G H σ (fun G' H' => rpE K ρ G' H H') Q (dEqB b x y μ)) :
    ∃ d e, Dp K H v d ∧ Dp K H w e ∧ SeqAt.shaped d = true ∧ SeqAt.shaped e = true ∧ Q (.bl (PyData.eqv d e == b)) H := by
  unfold dEqB at hp
  cases e1 : peekPy μ x with
  | none => rw [e1] at hp; exact hp.elim
  | some p =>
    rw [e1] at hp
    cases e2 : peekPy μ y with
    | none => rw [e2] at hp; exact hp.elim
    | some q =>
      rw [e2] at hp
      by_cases c : SeqAt.shaped p = true ∧ SeqAt.shaped q = true
      · simp only [if_pos c] at hp
        exact ⟨p, q, peekPy_ok R hx e1, peekPy_ok R hy e2, c.1, c.2, hp.okD R (.bl _)⟩
      · simp only [if_neg c] at hp; exact hp.elim
theorem od_eqS (b : Bool) (R : Rel K ρ G H μ) (hx : DvOk K ρ G v x) (hy : DvOk K ρ G w y) (hp : PostG K W ρ G H σ (fun G' H' v r => rpE K ρ G' H H' v r) Q (dEqS b x y μ)) :
    (scal v w = true ∧ Q (.bl (decide (v = w) == b)) H) ∨ ∃ d e, Dp K H v d ∧ Dp K H w e ∧ SeqAt.shaped d = true ∧ SeqAt.shaped e = true ∧ Q (.bl (PyData.eqv d e == b)) H := by
  unfold dEqS at hp
  cases e1 : asStr x with
  | none => rw [e1] at hp; exact .inr (od_eqB b R hx hy hp)
  | some s =>
    rw [e1] at hp
    cases e2 : asStr y with
    | none => rw [e2] at hp; exact .inr (od_eqB b R hx hy hp)
    | some t =>
      rw [e2] at hp
      rw [asStr_ok hx e1, asStr_ok hy e2]
      have : decide (V.str s = V.str t) = decide (s = t) := by rw [Bool.eq_iff_iff]; simp
      exact .inl ⟨rfl, by rw [this]; exact hp G H _ (Tr.refl _ _ _) R (Rp.bl _)⟩
theorem od_eq : OpD K (rEqQ K) dEq := fun W ρ G H σ μ v w x y Q R hx hy hp => by
  rcases od_eqS true R hx hy hp with ⟨h1, h2⟩ | ⟨d, e, h1, h2, h3, h4, h5⟩
  · exact .inl ⟨h1, by simpa using h2⟩
  · exact .inr ⟨d, e, h1, h2, h3, h4, by simpa using h5⟩
theorem od_ne : OpD K (rNeQ K) dNe := fun W ρ G H σ μ v w x y Q R hx hy hp => by
  rcases od_eqS false R hx hy hp with ⟨h1, h2⟩ | ⟨d, e, h1, h2, h3, h4, h5⟩
  · exact .inl ⟨h1, by
      have z : ((decide (v = w)) == false) = !decide (v = w) := by cases decide (v = w) <;> rfl
      rw [← z]; exact h2⟩
  · exact .inr ⟨d, e, h1, h2, h3, h4, by
      have z : (PyData.eqv d e == false) = !PyData.eqv d e := by cases PyData.eqv d e <;> rfl
      rw [← z]; exact h5⟩
def isNon : DV → Bool
  | .dat .non => true
  | _ => false
theorem isNon_ok (h : DvOk K ρ G v x) : decide (v = .non) = isNon x := by
  cases x with
  | loc n => obtain ⟨a, rfl, _⟩ := h; rfl
  | dat d => cases h <;> rfl
def eIsN (f : EM) : EM := fun δ μ => (frzV f δ μ).bind fun x μ' => .ok (.dat (.bl (isNon x))) μ'
def eNotN (f : EM) : EM := fun δ μ => (frzV f δ μ).bind fun x μ' => .ok (.dat (.bl (!isNon x))) μ'
theorem snd_isN {ta : TE} {f : EM} (h : SndE K W ta f) : SndE K W (tIsN ta) (eIsN f) := fun ρ G H σ δ μ Q R E hp => by
  refine SndG.seq (t := ta) h.toV R E hp fun x μ1 G1 H1 v t1 R1 E1 d1 hp1 => ?_
  rw [isNon_ok d1]
  exact hp1 G1 H1 _ t1 R1 (Rp.bl _)
theorem snd_notN {ta : TE} {f : EM} (h : SndE K W ta f) : SndE K W (tNotN ta) (eNotN f) := fun ρ G H σ δ μ Q R E hp => by
  refine SndG.seq (t := ta) h.toV R E hp fun x μ1 G1 H1 v t1 R1 E1 d1 hp1 => ?_
  rw [isNon_ok d1]
  exact hp1 G1 H1 _ t1 R1 (Rp.bl _)
/-! ### in -/
def flat : DV → Option V
  | .dat .non => some .non
  | .dat (.bl b) => some (.bl b)
  | .dat (.int i) => some (.int i)
  | .dat (.str s) => some (.str s)
  | _ => none
def flats : List DV → Option (List V)
  | [] => some []
  | x :: xs => match flat x with
    | none => none
    | some v => (flats xs).map (v :: ·)
theorem flat_ok {u : V} (h : DvOk K ρ G v x) (e : flat x = some u) : v = u ∧ flatV u = true := by
  unfold flat at e
  split at e <;> first | cases e | skip
  all_goals (cases h; exact ⟨rfl, rfl⟩)
theorem flats_ok : ∀ {xs : List DV} {vs us : List V}, DvL K ρ G vs xs → flats xs = some us → vs = us ∧ us.all flatV = true
  | [], _, _, h, e => by cases e; cases h; exact ⟨rfl, rfl⟩
  | x :: xs, _, _, h, e => by
    cases h with
    | cons r1 r2 =>
      simp only [flats] at e
      cases q : flat x with
      | none => rw [q] at e; cases e
      | some u =>
        rw [q] at e
        cases q2 : flats xs with
        | none => rw [q2] at e; cases e
        | some us =>
          rw [q2] at e; cases e
          obtain ⟨e1, e2⟩ := flat_ok r1 q
          obtain ⟨e3, e4⟩ := flats_ok r2 q2
          exact ⟨by rw [e1, e3], by rw [List.all_cons, e2, e4]; rfl⟩
def dIn (neg : Bool) (x y : DV) (μ : Mem) : Res R := match flat x with
  | none => .bad
  | some u => match asS μ y with
    | none => .bad
    | some ys => match flats ys with
      | none => .bad
      | some us => .ok (.dat (.bl (if neg = true then !inV u us else inV u us))) μ
theorem od_in (neg : Bool) : OpD K (rIn K neg) (dIn neg) := fun W ρ G H σ μ v w x y Q R hx hy hp => by
  unfold dIn at hp
  cases e1 : flat x with
  | none => rw [e1] at hp; exact hp.elim
  | some u =>
    rw [e1] at hp
    cases e2 : asS μ y with
    | none => simp only [e2] at hp; exact hp.elim
    | some ys =>
      simp only [e2] at hp
      cases e3 : flats ys with
      | none => rw [e3] at hp; exact hp.elim
      | some us =>
        rw [e3] at hp
        obtain ⟨a, vs, rfl, h2, h3⟩ := asS_ok R hy e2
        obtain ⟨q1, q2⟩ := flat_ok hx e1
        obtain ⟨q3, q4⟩ := flats_ok h3 e3
        subst q1 q3
        exact ⟨a, vs, rfl, h2, q2, q4, hp.okD R (.bl _)⟩
/-! ### calls of built-ins -/
theorem DvL.one {vs : List V} (h : DvL K ρ G vs [x]) : ∃ v, vs = [v] ∧ DvOk K ρ G v x := by
  cases h with
  | cons a b => cases b; exact ⟨_, rfl, a⟩
theorem DvL.two {vs : List V} (h : DvL K ρ G vs [x, y]) : ∃ v w, vs = [v, w] ∧ DvOk K ρ G v x ∧ DvOk K ρ G w y := by
  cases h with
  | cons a b => cases b with
    | cons c d => cases d; exact ⟨_, _, rfl, a, c⟩
def d1 (g : DV → Mem → Res R) (xs : List DV) (μ : Mem) : Res R := match xs with
  | [x] => g x μ
  | _ => .bad
theorem cd_1 {r : List V → Hp → VK → Prop} {g : DV → Mem → Res R} (h : ∀ (W : WX) (ρ : Pm) (G H : Hp) (σ : Slots) (μ : Mem) (v : V) (x : DV) (Q : VK), Rel K ρ G H μ → DvOk K ρ G v x → PostG K W ρ G H σ (fun G' H' => rpE K ρ G' H H') Q (g x μ) → r [v] H Q) :
    CallD K r (d1 g) := fun W ρ G H σ μ vs xs Q R hx hp => by
  match xs, hx, hp with
  | [x], hx, hp =>
    obtain ⟨v, rfl, d⟩ := hx.one
    exact h W ρ G H σ μ v x Q R d hp
  | [], _, hp => exact hp.elim
  | _ :: _ :: _, _, hp => exact hp.elim
def dLen (x : DV) (μ : Mem) : Res R := match asS μ x with
  | some xs => .ok (.dat (.int xs.length)) μ
  | none => match asStr x with
    | some z => if z.length ≤ sizeLine then .ok (.dat (.int z.length)) μ else .bad
    | none => .bad
theorem cd_len : CallD K (fun xs H Q => ∃ x n, xs = [x] ∧ LenV K x H n ∧ Q (.int (n : Nat)) H) (d1 dLen) := cd_1 fun W ρ G H σ μ v x Q R hx hp => by
  unfold dLen at hp
  split at hp
  · rename_i xs e
    obtain ⟨a, vs, rfl, h2, h3⟩ := asS_ok R hx e
    refine ⟨_, vs.length, rfl, ?_, ?_⟩
    · rcases h2 with h2 | h2
      · exact .inl ⟨vs, h2, rfl⟩
      · exact .inr ⟨vs, h2, rfl⟩
    · rw [paired_len h3]; exact hp.okD R (.int _)
  split at hp
  · rename_i z e
    by_cases c : z.length ≤ sizeLine
    · rw [if_pos c] at hp
      have ev := asStr_ok hx e
      subst ev
      exact ⟨_, z.length, rfl, ⟨c, rfl⟩, hp.okD R (.int _)⟩
    · rw [if_neg c] at hp; exact hp.elim
  exact hp.elim
def dInt (x : DV) (μ : Mem) : Res R := match asI x with
  | some i => .ok (.dat (.int i)) μ
  | none => match asBl x with
    | some b => .ok (.dat (.int (if b = true then 1 else 0))) μ
    | none => .bad
theorem cd_int : CallD K (fun xs H Q => (∃ i, xs = [V.int i] ∧ Q (V.int i) H) ∨ ∃ k, xs = [V.bl k] ∧ Q (V.int (if k = true then 1 else 0)) H) (d1 dInt) := cd_1 fun W ρ G H σ μ v x Q R hx hp => by
  unfold dInt at hp
  split at hp
  · rename_i i e
    have ev := asI_ok hx e
    subst ev
    exact .inl ⟨i, rfl, hp.okD R (.int _)⟩
  split at hp
  · rename_i b e
    have ev := asBl_ok hx e
    subst ev
    exact .inr ⟨b, rfl, hp.okD R (.int _)⟩
  exact hp.elim
def dAbs (x : DV) (μ : Mem) : Res R := match asI x with
  | some i => .ok (.dat (.int (if i < 0 then -i else i))) μ
  | none => .bad
theorem cd_abs : CallD K (fun xs H Q => ∃ i, xs = [V.int i] ∧ Q (V.int (if i < 0 then -i else i)) H) (d1 dAbs) := cd_1 fun W ρ G H σ μ v x Q R hx hp => by
  unfold dAbs at hp
  split at hp
  · rename_i i e
    have ev := asI_ok hx e
    subst ev
    exact ⟨i, rfl, hp.okD R (.int _)⟩
  exact hp.elim
def dList (x : DV) (μ : Mem) : Res R := match asS μ x with
  | some xs => .ok (.nl xs) μ
  | none => .bad
theorem cd_list : CallD K (fun xs H Q => ∃ p ys, xs = [V.ref p] ∧ (SqL K H p ys ∨ SqT K H p ys) ∧ ∀ l, H l = none → Q (V.ref l) (upd H l (.lst ys))) (d1 dList) := cd_1 fun W ρ G H σ μ v x Q R hx hp => by
  unfold dList at hp
  split at hp
  · rename_i xs e
    obtain ⟨a, vs, rfl, h2, h3⟩ := asS_ok R hx e
    exact ⟨a, vs, rfl, h2, fun l hn => new_list R (Tr.refl _ _ _) hn h3 hp⟩
  exact hp.elim
def dTuple (x : DV) (μ : Mem) : Res R := match asL μ x with
  | some xs => match allDat xs with
    | some ds => .ok (.dat (.tup ds)) μ
    | none => .bad
  | none => match asT x with
    | some ds => .ok (.dat (.tup ds)) μ
    | none => .bad
theorem cd_tuple : CallD K (fun xs H Q => ∃ p ys, xs = [V.ref p] ∧ ((SqL K H p ys ∧ ∀ l, H l = none → Q (V.ref l) (upd H l (.tup ys))) ∨ SqT K H p ys ∧ Q (V.ref p) H)) (d1 dTuple) := cd_1 fun W ρ G H σ μ v x Q R hx hp => by
  unfold dTuple at hp
  split at hp
  · rename_i xs e
    obtain ⟨a, vs, rfl, h2, h3⟩ := asL_ok R hx e
    split at hp
    · rename_i ds e2
      exact ⟨a, vs, rfl, .inl ⟨h2, fun l hn => new_tup R (Tr.refl _ _ _) hn (allDat_ok e2 h3) hp⟩⟩
    · exact hp.elim
  split at hp
  · rename_i ds e
    obtain ⟨a, vs, rfl, h2, h3⟩ := asT_ok R hx e
    rw [asT_eq e] at hx
    exact ⟨a, vs, rfl, .inr ⟨h2, hp.okD R hx⟩⟩
  exact hp.elim
def bools : List DV → Option (List Bool)
  | [] => some []
  | x :: xs => match asBl x with
    | none => none
    | some b => (bools xs).map (b :: ·)
theorem bools_ok : ∀ {xs : List DV} {vs : List V} {bs : List Bool}, DvL K ρ G vs xs → bools xs = some bs → vs = bs.map V.bl
  | [], _, _, h, e => by cases e; cases h; rfl
  | x :: xs, _, _, h, e => by
    cases h with
    | cons r1 r2 =>
      simp only [bools] at e
      cases q : asBl x with
      | none => rw [q] at e; cases e
      | some b =>
        rw [q] at e
        cases q2 : bools xs with
        | none => rw [q2] at e; cases e
        | some bs => rw [q2] at e; cases e; rw [asBl_ok r1 q, bools_ok r2 q2]; rfl
def dAll (f : List Bool → Bool) (x : DV) (μ : Mem) : Res R := match asL μ x with
  | some xs => match bools xs with
    | some bs => .ok (.dat (.bl (f bs))) μ
    | none => .bad
  | none => .bad
theorem cd_all (f : List Bool → Bool) : CallD K (fun vs H Q => ∃ a bs, vs = [V.ref a] ∧ SqL K H a (bs.map V.bl) ∧ Q (V.bl (f bs)) H) (d1 (dAll f)) := cd_1 fun W ρ G H σ μ v x Q R hx hp => by
  unfold dAll at hp
  split at hp
  · rename_i xs e
    obtain ⟨a, vs, rfl, h2, h3⟩ := asL_ok R hx e
    split at hp
    · rename_i bs e2
      have ev := bools_ok h3 e2
      subst ev
      exact ⟨a, bs, rfl, h2, hp.okD R (.bl _)⟩
    · exact hp.elim
  exact hp.elim
/-! ### repr -/
def dRepr (x : DV) (μ : Mem) : Res R := match peekPy μ x with
  | some p => if p.showable = true ∧ SeqAt.shaped p = true ∧ p.shown.length ≤ sizeLine then .ok (.dat (.str p.shown)) μ else .bad
  | none => .bad
def rRepr (K : PySem.W.Frag) : List V → Hp → VK → Prop := fun xs H Q => ∃ v p, xs = [v] ∧ Dp K H v p ∧ p.showable = true ∧ SeqAt.shaped p = true ∧ p.shown.length ≤ sizeLine ∧ Q (.str p.shown) H
theorem cr_repr {X : Cx} {k : Nat} (hr : Room k X.A) (hg : X.A.guards = some []) : CallR X (.builtin "repr") (rRepr X.K) := by
  intro pins s σ H xs us Q I rv h
  obtain ⟨v, p, rfl, hd, hs, hsh, hz, q⟩ := h
  obtain ⟨u, rfl, ru⟩ : ∃ u, us = [u] ∧ L2.RelV v u := by
    cases rv with
    | cons a b => cases b; exact ⟨_, rfl, a⟩
  obtain ⟨as, rd⟩ := Dp.reads I p v u hd ru
  have fin : ∀ h' tk t', (∀ b o, s.heap.get? b = some o → h'.get? b = some o) → EP X pins σ Q (.str p.shown t') { s with heap := h', toks := tk } := fun h' tk t' kp =>
    ⟨.str p.shown, H, I.kept kp, ⟨t', rfl⟩, q⟩
  have hc := SeqAt.canLay_of_shaped hsh
  have hdp : p.depth ≤ 64 := of_decide_eq_true (Bool.and_eq_true_iff.mp hsh).2
  have hu : X.A.units + 200 < cLine := by have := hr.un; omega
  cases rd with
  | none => exact PySem.P.repr_of_none (fin s.heap _ _ fun _ _ e => e)
  | bool b => exact PySem.P.repr_of_bool (fin s.heap _ _ fun _ _ e => e)
  | int i t => exact PySem.P.repr_of_int (of_decide_eq_true hs) (fin s.heap _ _ fun _ _ e => e)
  | str z t => exact PySem.P.repr_of_str (fin s.heap _ _ fun _ _ e => e) hz
  | list ho hcl hda ra => exact repr_of_reads' (.list ho hcl hda ra) hs (PyData.noDict_hsm (PyData.hasDict_of_canLay _ hc)) hg (by omega) (fun _ _ e => e) (fun h' u tk kp => fin h' tk u kp) hz
  | tuple ho hcl hda ra => exact repr_of_reads' (.tuple ho hcl hda ra) hs (PyData.noDict_hsm (PyData.hasDict_of_canLay _ hc)) hg (by omega) (fun _ _ e => e) (fun h' u tk kp => fin h' tk u kp) hz
  | dict _ _ _ _ _ => exact absurd hc Bool.false_ne_true
theorem cd_repr : CallD K (rRepr K) (d1 dRepr) := cd_1 fun W ρ G H σ μ v x Q R hx hp => by
  unfold dRepr at hp
  split at hp
  · rename_i p e
    by_cases c : p.showable = true ∧ SeqAt.shaped p = true ∧ p.shown.length ≤ sizeLine
    · rw [if_pos c] at hp; exact ⟨v, p, rfl, peekPy_ok R hx e, c.1, c.2.1, c.2.2, hp.okD R (.str _)⟩
    · rw [if_neg c] at hp; exact hp.elim
  exact hp.elim
end
end DL
namespace DL
open PySem PySem.Spec PyProof.Rows L2
/-! ### enumerate of a tuple -/
set_option maxHeartbeats 1000000 in
theorem meets_enum_tup (l : Addr) (its : Array Value) (n : Nat) (dct : Option Addr) (sl : Array (Option Value)) :
    Meets (Builtin.«enumerate.__new__» ⟨[.type "enumerate", .ref l], []⟩) (fun _ R s => s.heap.get? l = some { cls := .type "tuple", dict := dct, data := .seq its n, slots := sl } ∧
      R (.ok (.ret (.ref (s.heap.push { cls := .type "tuple_iterator", data := .fields #[.ref l, .int 0 0] }).objs.size)))
        { s with heap := (s.heap.push { cls := .type "tuple_iterator", data := .fields #[.ref l, .int 0 0] }).push { cls := .type "enumerate", data := .fields #[.none, .bool false, .ref s.heap.objs.size, rawInt 0, .none, .none] } }) :=
  .of_wp fun prog w A R s h => by
    obtain ⟨hp, g, d, tk, os⟩ := s
    obtain ⟨hl, h⟩ := h
    have hsub := sub_enumerate
    have hT : Heap.IsTuple (Shared.heap ⟨hp, g, d, tk, os⟩) l its := ⟨_, hl, rfl, n, rfl⟩
    wp_walk using AutoSeq1.wpAny_loadPart' hl
    refine wpAny_stack_any fun st => wpAny_pure ?_
    split
    · rename_i c _ _ _ _ _
      cases (c == Value.type "enumerate")
      all_goals
        wp_walk using AutoSeq1.wpAny_loadPart' hl, wpAny_pyIter_tuple hT
        exact ⟨_, rfl, h⟩
    · wp_walk using AutoSeq1.wpAny_loadPart' hl, wpAny_pyIter_tuple hT
      exact ⟨_, rfl, h⟩
theorem call_enum_tup {prog : Program} {w : World} {A : Around} {E : Value → Shared → Prop} {s : Shared} {l : Addr} {its : Array Value} {Q : Value → Shared → Prop} (hL : s.heap.IsTuple l its)
    (h : ∀ h', IsEnum h' (s.heap.objs.size + 1) s.heap.objs.size 0 .none → h'.IsTupleIter s.heap.objs.size l 0 →
      (∀ b o, s.heap.get? b = some o → h'.get? b = some o) → Q (.ref (s.heap.objs.size + 1)) { s with heap := h' }) :
    wpAny (model prog w) A (call (.type "enumerate") [.ref l]) Q E s := by
  obtain ⟨⟨c, dct, dt, sl⟩, hl, hc, n, hd⟩ := hL
  obtain rfl : c = .type "tuple" := hc
  obtain rfl : dt = .seq its n := hd
  refine callType_new F.called_enumerate (by decide) (F.typeCall_enumerate_1 _) (F.newCall_enumerate_1 _) (fun obj => F.args_object_init_2 obj _) F.entry_enumerate_new (meets_enum_tup l its n dct sl) ⟨hl, ?_⟩
  have hz : (s.heap.push { cls := .type "tuple_iterator", data := .fields #[.ref l, .int 0 0] }).objs.size = s.heap.objs.size + 1 := Heap.size_push ..
  show _ ∧ _
  rw [hz]
  have he : IsEnum ((s.heap.push { cls := .type "tuple_iterator", data := .fields #[.ref l, .int 0 0] }).push
      { cls := .type "enumerate", data := .fields #[.none, .bool false, .ref s.heap.objs.size, rawInt 0, .none, .none] }) (s.heap.objs.size + 1) s.heap.objs.size 0 .none := by
    have q := Heap.get?_push_size (s.heap.push { cls := .type "tuple_iterator", data := .fields #[.ref l, .int 0 0] })
      (o := { cls := .type "enumerate", data := .fields #[.none, .bool false, .ref s.heap.objs.size, rawInt 0, .none, .none] }) rfl
    rw [hz] at q; exact q
  exact ⟨⟨_, he, rfl⟩, h _ he ⟨_, Heap.get?_push_of_some _ (Heap.get?_push_size _ rfl), rfl, rfl⟩ fun b o x => Heap.get?_push_of_some _ (Heap.get?_push_of_some _ x)⟩
/-- the tuple at a, each item in a new pair -/
def ItE (K : PySem.W.Frag) (a : Addr) : It :=
  ⟨fun i H => ∃ (xs : List V) (x : V), SqT K H a xs ∧ xs[i]? = some x,
   fun i H v H' => ∃ T x, v = .ref T ∧ H T = none ∧ H' = upd H T (.tup [.int (i : Nat), x]) ∧ ∀ xs, SqT K H a xs → xs[i]? = some x,
   fun i H => ∃ xs : List V, SqT K H a xs ∧ xs.length ≤ i⟩
section
variable {prog : Program} {w : World} {A : Around} {E : Value → Shared → Prop} {s : Shared}
theorem next_enum_tup_end {e it a : Addr} {its : Array Value} {n : Nat} {i : Int} {old : Value} {Q : Option Value → Shared → Prop} (hh : A.handled = none) (he : IsEnum s.heap e it i old) (hit : s.heap.IsTupleIter it a n) (ht : s.heap.IsTuple a its) (hle : its.size ≤ n)
    (hQ : ∀ h', Heap.ExtBut it s.heap h' → Q none { s with heap := h' }) : wpAny (model prog w) A (pyNext (.ref e)) Q E s := by
  have hT : s.TypeIs (.ref e) "enumerate" := ⟨_, he, rfl⟩
  unfold pyNext
  refine wpAny_bind (wpAny_attempt (wpAny_callSpecial?_slot (name := Str.ofString "__next__") hT F.slot_enumerate_next (wpAny_call_entry F.slot_enumerate_next hT F.entry_enumerate_next ?_ (F.args_enumerate_next_1 _))))
  show wpAny _ _ (field (.ref e) 2 >>= _) _ _ _
  refine wpAny_bind (wpAny_field he rfl (x := .ref it) rfl (wpAny_bind (wpAny_nextOf_tuple_end hh hit ht (Array.getElem?_eq_none hle) fun h' x ext hx => ?_)))
  obtain ⟨o, ho, hc⟩ := hx
  exact wpAny_bind (wpAny_isInstance (T := "StopIteration") (b := true) ⟨o, ho, hc⟩ isSubtype_stop (wpAny_pure (hQ _ ext)))
end
theorem tup_ne_iter {h : Heap} {a it : Addr} {its : Array Value} {n : Nat} (ht : h.IsTuple a its) (hi : h.IsTupleIter it a n) : a ≠ it := by
  intro e
  obtain ⟨o, ho, hc, _⟩ := ht
  obtain ⟨o2, ho2, hc2, _⟩ := hi
  rw [← e, ho] at ho2
  cases ho2
  rw [hc] at hc2
  exact absurd (Value.type.inj hc2) (by decide)
theorem turn_enumT {P : Program} {w : World} {K : PySem.W.Frag} {elts : List Expr} {kk : Nat} {tpos : Pos} (a e it : Addr) :
    Turn P w K (.Tuple elts kk tpos) (ItE K a) [e, it] e (fun i h => (∃ old, IsEnum h e it ((i : Nat) : Int) old) ∧ h.IsTupleIter it a i ∧ e ≠ it) where
  mem := by simp
  obj := fun i h st b hb => by
    obtain ⟨⟨old, he⟩, ⟨o, ho, hc, hd⟩, _⟩ := st
    rcases (by simpa using hb : b = e ∨ b = it) with rfl | rfl
    · exact ⟨_, he, fun v q => nomatch q⟩
    · exact ⟨o, ho, fun v q => by rw [hd] at q; cases q⟩
  keep := fun i h h' st k => by
    obtain ⟨⟨old, he⟩, hi, hne⟩ := st
    exact ⟨⟨old, k e (by simp) _ he⟩, hi.at fun o q => k it (by simp) o q, hne⟩
  item := by
    intro X hP hw hK hc i pins s σ H E I hf st hg
    subst hP hw hK
    obtain ⟨⟨old, he⟩, hit, hne⟩ := st
    obtain ⟨xs, x, hq, hx⟩ := hg
    obtain ⟨its, rv, p, hz⟩ := I.tuple hq
    have ht : s.heap.IsTuple a its.toArray := p
    obtain ⟨u, hu, ru⟩ := rv.get hx
    have hui : i < its.toArray.size := by
      rw [List.size_toArray]
      exact (List.getElem?_eq_some_iff.mp hu).1
    have hel : e < s.heap.objs.size := Heap.lt_size he
    have hil : it < s.heap.objs.size := by obtain ⟨_, q, _⟩ := hit; exact Heap.lt_size q
    have hai := tup_ne_iter ht hit
    have hae : e ≠ a := fun z => by
      obtain ⟨o, ho, hcl, _⟩ := ht
      rw [← z, he] at ho
      cases ho
      exact absurd (Value.type.inj hcl) (by decide)
    refine wpAny_pyNext_enum_itemD (Draws.tuple (A := X.A.in1) (I.ok.hd hc) it a hai its.toArray) he ⟨hit, ht⟩ hui hne (by simp [hne, hae]) fun x' h' tk hP ho st' hT hsz hk => ?_
    have ex : x' = u := by
      have q : its.toArray[i]? = some x' := hP
      rw [List.getElem?_toArray, hu] at q
      exact (Option.some.inj q).symm
    subst ex
    refine ⟨_, rfl, wpAny_letOwnedTupleGo_enum (s := { s with heap := h', toks := tk + 1 }) ho fun h'' he' sb => ?_⟩
    have hT2 : h''.get? s.heap.objs.size = some { cls := .type "tuple", data := .seq #[.int i tk, x'] } := (sb.2 _ (Nat.ne_of_gt hel)).trans hT
    have new : ObjOk X.prog X.w (upd H s.heap.objs.size (.tup [.int (i : Nat), x])) h'' s.heap.objs.size (.tup [.int (i : Nat), x]) :=
      ⟨by show 2 ≤ sizeLine; decide, [.int i tk, x'], .cons ⟨_, rfl⟩ (.cons ru .nil), ⟨_, hT2, rfl, _, rfl⟩⟩
    have I1 : L2.Inv X pins σ (upd H s.heap.objs.size (.tup [.int (i : Nat), x])) { s with heap := h'', toks := tk + 1 } :=
      I.turnedNew (ch := [e, it]) (fun b ob hb q => (sb.2 b (fun z => hb (by simp [z]))).trans (hk b ob (fun z => hb (by simp [z])) (fun z => hb (by simp [z])) q)) hf (Nat.le_refl _) new
    refine ⟨.ref s.heap.objs.size, _, I1, rfl, ⟨_, x, rfl, I.hok.fresh (Nat.le_refl _), rfl, fun ys hy => by rw [I.tuple_inj hy hq]; exact hx⟩, ⟨⟨x', ?_⟩, st'.1.at fun o q => (sb.2 it (Ne.symm hne)).trans q, hne⟩, fun b hb => ?_⟩
    · rw [show ((i + 1 : Nat) : Int) = (i : Int) + 1 by omega]; exact he'
    · have hb' : b < s.heap.objs.size := by
        rcases (by simpa using hb : b = e ∨ b = it) with z | z
        · rw [z]; exact hel
        · rw [z]; exact hil
      rw [upd_ne (Nat.ne_of_lt hb')]
      exact (hf b hb).1
  done := by
    intro X hP hw hK hc i pins s σ H E I hf st hg
    subst hP hw hK
    obtain ⟨⟨old, he⟩, hit, hne⟩ := st
    obtain ⟨xs, hq, hx⟩ := hg
    obtain ⟨its, rv, p, hz⟩ := I.tuple hq
    obtain ⟨f0, f1, f2, f3, f4, f5⟩ := hf it (by simp)
    have hl := rv.length
    exact next_enum_tup_end (I.ok.hd hc) he hit (show s.heap.IsTuple a its.toArray from p) (by simp; omega) fun h' eb => ⟨rfl, I.turned (t' := s.toks) (fun b o hb q => eb b o hb q) f0 f1 f3 f4 f5⟩
  self := fun A i s Q E st h => let ⟨⟨_, he⟩, _⟩ := st; wpAny_pyIter_enum he h
/-- enumerate of a list or of a tuple -/
def iEnumS (K : PySem.W.Frag) (ta : TA) : TI := fun σ H R => ta σ H fun vs H1 => ∃ a xs, vs = [.ref a] ∧ (SqL K H1 a xs ∧ R (Ite K a) H1 ∨ SqT K H1 a xs ∧ R (ItE K a) H1)
theorem pi_enumS {X : Cx} {e : Expr} {ta : TA} {p pos tpos : Pos} {elts : List Expr} {kk : Nat} (hg : Gl X "enumerate") (hm : X.mg "enumerate" = none) (ha : PA X [e] ta) (hs : starEach [e] X.env = [(false, eval e X.env)] := by rfl) :
    PI X (.Tuple elts kk tpos) (.Call (.Name "enumerate" p) [e] [] pos) (iEnumS X.K ta) := by
  refine ⟨fun pins s σ H R I h => Call_ (ld_blt I hg hm boot_enumerate (PyProof.Rows.callWith_type1 (thn (ha.run pos pins s σ H _ I h) ?_) hs rfl))⟩
  rintro us s1 ⟨vs, H1, I1, r1, a, xs, rfl, q1⟩
  obtain ⟨u, rfl, ru⟩ : ∃ u, us = [u] ∧ L2.RelV (.ref a) u := by
    cases r1 with
    | cons r rr => cases rr; exact ⟨_, rfl, r⟩
  cases ru
  have fr : ∀ b, b = s1.heap.objs.size + 1 ∨ b = s1.heap.objs.size → FpOk X pins H1 b := fun b z => by
    have hle : s1.heap.objs.size ≤ b := by
      rcases z with z | z <;> rw [z]
      · exact Nat.le_add_right _ _
      · exact Nat.le_refl _
    exact I1.fpOk hle (I1.hok.fresh hle)
  rcases q1 with ⟨hq, q⟩ | ⟨hq, q⟩
  · obtain ⟨its, rv, p', hz⟩ := I1.list hq
    refine call_enumerate_list p'.isList fun h' he hit hsz hk => wpAny_pyIter_enum he ?_
    exact ⟨s1.heap.objs.size + 1, [s1.heap.objs.size + 1, s1.heap.objs.size], _, _, H1, rfl, I1.kept (t' := s1.toks) hk, turn_enum a (s1.heap.objs.size + 1) s1.heap.objs.size, ⟨⟨.none, he⟩, hit, Nat.succ_ne_self _⟩, fun b hb => fr b (by simpa using hb), q⟩
  · obtain ⟨its, rv, p', hz⟩ := I1.tuple hq
    refine call_enum_tup (show s1.heap.IsTuple a its.toArray from p') fun h' he hit hk => wpAny_pyIter_enum he ?_
    exact ⟨s1.heap.objs.size + 1, [s1.heap.objs.size + 1, s1.heap.objs.size], _, _, H1, rfl, I1.kept (t' := s1.toks) hk, turn_enumT a (s1.heap.objs.size + 1) s1.heap.objs.size, ⟨⟨.none, he⟩, hit, Nat.succ_ne_self _⟩, fun b hb => fr b (by simpa using hb), q⟩
/-- what is walked: a list or a tuple -/
def iSeq (K : PySem.W.Frag) (tl : TE) : TI := fun σ H R => tl σ H fun x H1 => ∃ a, x = .ref a ∧ ((∃ xs, SqL K H1 a xs) ∧ R (Itl K a) H1 ∨ (∃ xs, SqT K H1 a xs) ∧ R (Itt K a) H1)
theorem pi_seq {X : Cx} {tg l : Expr} {tl : TE} (hl : PE X l tl) : PI X tg l (iSeq X.K tl) := by
  refine ⟨fun pins s σ H R I h => thn (hl.run pins s σ H _ I h) ?_⟩
  rintro v s1 ⟨x, H1, I1, r1, a, rfl, q1⟩
  cases r1
  have fr : FpOk X pins H1 s1.heap.objs.size := I1.fpOk (Nat.le_refl _) (I1.hok.fresh (Nat.le_refl _))
  rcases q1 with ⟨⟨xs, hq⟩, q⟩ | ⟨⟨xs, hq⟩, q⟩
  · obtain ⟨its, rv, p, hz⟩ := I1.list hq
    refine wpAny_pyIter_list p.isList ⟨s1.heap.objs.size, [s1.heap.objs.size], _, _, H1, rfl, I1.kept (t' := s1.toks) fun b o e => Heap.get?_push_of_some _ e, turn_list a _, ⟨_, Heap.get?_push_size _ rfl, rfl, rfl⟩, fun b hb => ?_, q⟩
    rw [show b = s1.heap.objs.size by simpa using hb]; exact fr
  · obtain ⟨its, rv, p, hz⟩ := I1.tuple hq
    refine wpAny_pyIter_tuple (show s1.heap.IsTuple a its.toArray from p) ⟨s1.heap.objs.size, [s1.heap.objs.size], _, _, H1, rfl, I1.kept (t' := s1.toks) fun b o e => Heap.get?_push_of_some _ e, turn_tuple a _, ⟨_, Heap.get?_push_size _ rfl, rfl, rfl⟩, fun b hb => ?_, q⟩
    rw [show b = s1.heap.objs.size by simpa using hb]; exact fr
end DL
namespace DL
open PySem PySem.Spec PyProof.Rows L2
section
variable {K : PySem.W.Frag} {W : WX} {N M : Nat} {ρ : Pm} {G H : Hp} {σ : Slots} {δ : Env} {μ : Mem} {Q : VK} {v w : V} {x y : DV}
/-! ### what is walked -/
theorem it_list {a : Addr} {vs : List V} {ds : List D} (h : SqL K G a vs) (r : RpL K G vs ds) : ItOk K G (Itl K a) ds := fun ρ G1 H μ R x => by
  have hq : SqL K H a vs := ex_l (x.trans R.ex) h
  refine ⟨fun i d e => ?_, fun i hi => ⟨vs, hq, by rw [r.length]; exact hi⟩⟩
  obtain ⟨u, h1, h2⟩ := r.get' e
  refine ⟨⟨vs, u, hq, h1⟩, fun v H' hy => ?_⟩
  obtain ⟨rfl, q⟩ := hy
  have e2 := q vs hq
  rw [h1] at e2; cases e2
  exact ⟨G1, Tr.refl _ _ _, R, h2.mono x⟩
theorem it_tup {a : Addr} {vs : List V} {ds : List D} (h : SqT K G a vs) (r : RpL K G vs ds) : ItOk K G (Itt K a) ds := fun ρ G1 H μ R x => by
  have hq : SqT K H a vs := ex_t (x.trans R.ex) h
  refine ⟨fun i d e => ?_, fun i hi => ⟨vs, hq, by rw [r.length]; exact hi⟩⟩
  obtain ⟨u, h1, h2⟩ := r.get' e
  refine ⟨⟨vs, u, hq, h1⟩, fun v H' hy => ?_⟩
  obtain ⟨rfl, q⟩ := hy
  have e2 := q vs hq
  rw [h1] at e2; cases e2
  exact ⟨G1, Tr.refl _ _ _, R, h2.mono x⟩
def enumD : Nat → List D → List D
  | _, [] => []
  | i, d :: ds => .tup [.int i, d] :: enumD (i + 1) ds
theorem enumD_get : ∀ (k : Nat) (ds : List D) (i : Nat) (d : D), (enumD k ds)[i]? = some d → ∃ e, ds[i]? = some e ∧ d = .tup [.int ((k + i : Nat) : Int), e]
  | _, [], i, d, h => by simp [enumD] at h
  | k, e :: ds, 0, d, h => by simp [enumD] at h; exact ⟨e, rfl, h.symm⟩
  | k, _ :: ds, i + 1, d, h => by
    obtain ⟨e, h1, h2⟩ := enumD_get (k + 1) ds i d (by simpa [enumD] using h)
    exact ⟨e, h1, by rw [h2, show k + 1 + i = k + (i + 1) by omega]⟩
theorem enumD_len : ∀ (k : Nat) (ds : List D), (enumD k ds).length = ds.length
  | _, [] => rfl
  | k, _ :: ds => congrArg (· + 1) (enumD_len (k + 1) ds)
theorem it_pair {J : It} {vs : List V} {ds : List D} {G0 : Hp} {C : Hp → List V → Prop} (hC : ∀ ρ G1 H μ, Rel K ρ G1 H μ → Ex G0 G1 → C H vs) (r : RpL K G0 vs ds)
    (go : ∀ i H u, C H vs → vs[i]? = some u → J.go i H) (stop : ∀ i H, C H vs → vs.length ≤ i → J.stop i H)
    (yld : ∀ i H v H', C H vs → J.yld i H v H' → ∃ T u, v = .ref T ∧ H T = none ∧ H' = upd H T (.tup [.int (i : Nat), u]) ∧ vs[i]? = some u) : ItOk K G0 J (enumD 0 ds) := fun ρ G1 H μ R x => by
  have hq := hC ρ G1 H μ R x
  refine ⟨fun i d e => ?_, fun i hi => stop i H hq (by rw [r.length]; rw [enumD_len] at hi; exact hi)⟩
  obtain ⟨e0, he, rfl⟩ := enumD_get 0 ds i d e
  obtain ⟨u, h1, h2⟩ := r.get' he
  refine ⟨go i H u hq h1, fun v H' hy => ?_⟩
  obtain ⟨T, u', rfl, hn, rfl, e3⟩ := yld i H v H' hq hy
  rw [h1] at e3; cases e3
  obtain ⟨R2, t2, ex⟩ := R.layD (o := .tup [.int (i : Nat), u]) hn
  refine ⟨_, t2, R2, ?_⟩
  rw [Nat.zero_add]
  exact Rp.tup (.inl (.inl upd_same)) (.cons (.int _) (.cons ((h2.mono x).mono ex) .nil))
def seqD : DV → Option (List D)
  | .dat (.lst ds) => some ds
  | .dat (.fro ds) => some ds
  | .dat (.tup ds) => some ds
  | _ => none
theorem seqD_ok {ds : List D} (h : DvOk K ρ G v x) (e : seqD x = some ds) : ∃ a vs, v = .ref a ∧ (SqL K G a vs ∨ SqT K G a vs) ∧ RpL K G vs ds := by
  unfold seqD at e
  split at e
  · cases e; cases h with | lst h r => exact ⟨_, _, rfl, .inl (.inl (.inl h)), r⟩
  · cases e; cases h with | fro h r => exact ⟨_, _, rfl, .inl h, r⟩
  · cases e; cases h with | tup h r => exact ⟨_, _, rfl, .inr h, r⟩
  · cases e
def imSeq (f : EM) : IM := fun δ μ => (frzV f δ μ).bind fun x μ' => match seqD x with
  | some ds => .ok ds μ'
  | none => .bad
theorem snd_iseq {te : TE} {f : EM} (h : SndE K W te f) : SndI K W (iSeq K te) (imSeq f) := fun ρ G H σ δ μ Q R E hp => by
  refine SndG.seq (t := te) h.toV R E hp fun x μ1 G1 H1 v t1 R1 E1 d1 hp1 => ?_
  cases e : seqD x with
  | none => rw [e] at hp1; exact hp1.elim
  | some ds =>
    rw [e] at hp1
    obtain ⟨a, vs, rfl, hs, r⟩ := seqD_ok d1 e
    refine ⟨a, rfl, ?_⟩
    rcases hs with hs | hs
    · exact .inl ⟨⟨vs, ex_l R1.ex hs⟩, hp1 G1 H1 _ t1 R1 (it_list hs r)⟩
    · exact .inr ⟨⟨vs, ex_t R1.ex hs⟩, hp1 G1 H1 _ t1 R1 (it_tup hs r)⟩
def imEnum (f : AM) : IM := fun δ μ => (f δ μ).bind fun xs μ' => match xs with
  | [x] => match seqD x with
    | some ds => .ok (enumD 0 ds) μ'
    | none => .bad
  | _ => .bad
theorem snd_ienum {ta : TA} {f : AM} (h : SndA K W ta f) : SndI K W (iEnumS K ta) (imEnum f) := fun ρ G H σ δ μ Q R E hp => by
  refine SndG.seq (t := ta) h R E hp fun xs μ1 G1 H1 vs t1 R1 E1 d1 hp1 => ?_
  match xs, d1, hp1 with
  | [], _, hp1 => exact hp1.elim
  | _ :: _ :: _, _, hp1 => exact hp1.elim
  | [x], d1, hp1 =>
    obtain ⟨v, rfl, d⟩ := d1.one
    simp only at hp1
    cases e : seqD x with
    | none => rw [e] at hp1; exact hp1.elim
    | some ds =>
      rw [e] at hp1
      obtain ⟨a, ws, rfl, hs, r⟩ := seqD_ok d e
      refine ⟨a, ws, rfl, ?_⟩
      rcases hs with hs | hs
      · refine .inl ⟨ex_l R1.ex hs, hp1 G1 H1 _ t1 R1 (it_pair (C := fun H ws => SqL K H a ws) (fun ρ G2 H μ R x => ex_l (x.trans R.ex) hs) r ?_ ?_ ?_)⟩
        · exact fun i H u hq hu => ⟨ws, u, hq, hu⟩
        · exact fun i H hq hl => ⟨ws, hq, hl⟩
        · rintro i H v H' hq ⟨T, u, h1, h2, h3, h4⟩; exact ⟨T, u, h1, h2, h3, h4 ws hq⟩
      · refine .inr ⟨ex_t R1.ex hs, hp1 G1 H1 _ t1 R1 (it_pair (C := fun H ws => SqT K H a ws) (fun ρ G2 H μ R x => ex_t (x.trans R.ex) hs) r ?_ ?_ ?_)⟩
        · exact fun i H u hq hu => ⟨ws, u, hq, hu⟩
        · exact fun i H hq hl => ⟨ws, hq, hl⟩
        · rintro i H v H' hq ⟨T, u, h1, h2, h3, h4⟩; exact ⟨T, u, h1, h2, h3, h4 ws hq⟩
def rngD (lo : Int) (n : Nat) : List D := (List.range n).map fun i => .int (lo + (i : Nat))
theorem it_rng (lo : Int) (n : Nat) : ItOk K G (Itr lo n) (rngD lo n) := fun ρ G1 H μ R x => by
  refine ⟨fun i d e => ?_, fun i hi => ?_⟩
  · unfold rngD at e
    rw [List.getElem?_map] at e
    cases q : (List.range n)[i]? with
    | none => rw [q] at e; cases e
    | some j =>
      rw [q] at e
      simp only [Option.map_some, Option.some.injEq] at e
      obtain ⟨hi, ej⟩ := List.getElem?_eq_some_iff.mp q
      rw [List.getElem_range] at ej
      rw [List.length_range] at hi
      refine ⟨hi, fun v H' hy => ?_⟩
      obtain ⟨rfl, rfl⟩ := hy
      subst ej
      exact ⟨G1, Tr.refl _ _ _, R, e ▸ Rp.int _⟩
  · show n ≤ i
    simpa [rngD] using hi
def imRng (f : AM) : IM := fun δ μ => (f δ μ).bind fun xs μ' => match xs with
  | [x] => match asI x with
    | some j => if -2 ^ 62 ≤ j ∧ j < 2 ^ 62 then .ok (rngD 0 j.toNat) μ' else .bad
    | none => .bad
  | _ => .bad
theorem snd_irng {ta : TA} {f : AM} (h : SndA K W ta f) : SndI K W (iRng1 ta) (imRng f) := fun ρ G H σ δ μ Q R E hp => by
  refine SndG.seq (t := ta) h R E hp fun xs μ1 G1 H1 vs t1 R1 E1 d1 hp1 => ?_
  match xs, d1, hp1 with
  | [], _, hp1 => exact hp1.elim
  | _ :: _ :: _, _, hp1 => exact hp1.elim
  | [x], d1, hp1 =>
    obtain ⟨v, rfl, d⟩ := d1.one
    simp only at hp1
    cases e : asI x with
    | none => rw [e] at hp1; exact hp1.elim
    | some j =>
      rw [e] at hp1
      by_cases c : -2 ^ 62 ≤ j ∧ j < 2 ^ 62
      · simp only [if_pos c] at hp1
        rw [asI_ok d e]
        exact ⟨j, rfl, c.1, c.2, hp1 G1 H1 _ t1 R1 (it_rng 0 _)⟩
      · simp only [if_neg c] at hp1; exact hp1.elim
def imRng2 (f : AM) : IM := fun δ μ => (f δ μ).bind fun xs μ' => match xs with
  | [x, y] => match asI x, asI y with
    | some i, some j => if -2 ^ 62 ≤ i ∧ i < 2 ^ 62 ∧ -2 ^ 62 ≤ j ∧ j < 2 ^ 62 then .ok (rngD i (j - i).toNat) μ' else .bad
    | _, _ => .bad
  | _ => .bad
theorem snd_irng2 {ta : TA} {f : AM} (h : SndA K W ta f) : SndI K W (iRng2 ta) (imRng2 f) := fun ρ G H σ δ μ Q R E hp => by
  refine SndG.seq (t := ta) h R E hp fun xs μ1 G1 H1 vs t1 R1 E1 d1 hp1 => ?_
  match xs, d1, hp1 with
  | [], _, hp1 => exact hp1.elim
  | [_], _, hp1 => exact hp1.elim
  | _ :: _ :: _ :: _, _, hp1 => exact hp1.elim
  | [x, y], d1, hp1 =>
    obtain ⟨v, w, rfl, dx, dy⟩ := d1.two
    simp only at hp1
    split at hp1
    · rename_i i j e1 e2
      by_cases c : -2 ^ 62 ≤ i ∧ i < 2 ^ 62 ∧ -2 ^ 62 ≤ j ∧ j < 2 ^ 62
      · rw [if_pos c] at hp1
        rw [asI_ok dx e1, asI_ok dy e2]
        exact ⟨i, j, rfl, c, hp1 G1 H1 _ t1 R1 (it_rng i _)⟩
      · rw [if_neg c] at hp1; exact hp1.elim
    · exact hp1.elim
/-! ### targets of several names -/
def TgsOk (K : PySem.W.Frag) (g : TGs) (h : List D → Env → Option Env) (ts : List Nat) : Prop := ∀ (ρ : Pm) (G H : Hp) (μ : Mem) (σ : Slots) (δ δ' : Env) (vs : List V) (ds : List D) (Q : Slots → Hp → Prop), Rel K ρ G H μ → EnvOk K ρ G σ δ → RpL K G vs ds → h ds δ = some δ' →
  (∀ σ', EnvOk K ρ G σ' δ' → σ'.length = σ.length → (∀ i, i ∉ ts → σ'[i]? = σ[i]?) → Q σ' H) → g vs σ H Q
def tgNil : List D → Env → Option Env := fun ds δ => match ds with
  | [] => some δ
  | _ :: _ => none
def tgCons (h : D → Env → Option Env) (hs : List D → Env → Option Env) : List D → Env → Option Env := fun ds δ => match ds with
  | [] => none
  | d :: ds => match h d δ with
    | none => none
    | some δ1 => hs ds δ1
def tgTup (n : Nat) (hs : List D → Env → Option Env) : D → Env → Option Env := fun d δ => match d with
  | .tup ds => if ds.length = n then hs ds δ else none
  | _ => none
theorem tgs_nil : TgsOk K gNil tgNil [] := fun ρ G H μ σ δ δ' vs ds Q R E r e q => by
  cases r with
  | nil => cases e; exact ⟨rfl, q σ E rfl fun _ _ => rfl⟩
  | cons _ _ => cases e
theorem tgs_cons {g : TG} {gs : TGs} {h : D → Env → Option Env} {hs : List D → Env → Option Env} {t ts : List Nat} (h1 : TgOk K g h t) (h2 : TgsOk K gs hs ts) : TgsOk K (gCons g gs) (tgCons h hs) (t ++ ts) := fun ρ G H μ σ δ δ' vs ds Q R E r e q => by
  cases r with
  | nil => cases e
  | cons a b =>
    rename_i v vs d ds
    simp only [tgCons] at e
    cases e1 : h d δ with
    | none => rw [e1] at e; cases e
    | some δ1 =>
      rw [e1] at e
      refine ⟨v, vs, rfl, h1 ρ G H μ σ δ δ1 v d _ R E a e1 fun σ1 E1 l1 k1 => h2 ρ G H μ σ1 δ1 δ' vs ds _ R E1 b e fun σ2 E2 l2 k2 => q σ2 E2 (l2.trans l1) fun i hi => ?_⟩
      rw [k2 i fun z => hi (List.mem_append_right _ z), k1 i fun z => hi (List.mem_append_left _ z)]
theorem tg_tup {gs : TGs} {hs : List D → Env → Option Env} {ts : List Nat} {n : Nat} (h : TgsOk K gs hs ts) : TgOk K (gTup K n gs) (tgTup n hs) ts := fun ρ G H μ σ δ δ' v d Q R E r e q => by
  unfold tgTup at e
  split at e
  · rename_i ds
    by_cases c : ds.length = n
    · rw [if_pos c] at e
      cases r with
      | tup h1 r => exact ⟨_, _, rfl, ex_t R.ex h1, by rw [r.length]; exact c, h ρ G H μ σ δ δ' _ ds Q R E r e q⟩
    · rw [if_neg c] at e; cases e
  · cases e
end
section
variable {X : Cx} {W : WX} {pos p tpos : Pos} {tg e : Expr} {te : TE} {f : EM} {ta : TA} {fa : AM} {a b : Expr}
theorem mi_seq (h : PM X W e te f) : PMI X W tg e (iSeq X.K te) (imSeq f) := ⟨pi_seq h.pe, snd_iseq h.sd⟩
theorem mi_rng1 (hg : Gl X "range") (hm : X.mg "range" = none) (h : PMA X W [a] ta fa) (hs : starEach [a] X.env = [(false, eval a X.env)] := by rfl) : PMI X W tg (.Call (.Name "range" p) [a] [] pos) (iRng1 ta) (imRng fa) := ⟨pi_range1 hg hm h.pe hs, snd_irng h.sd⟩
theorem mi_rng2 (hg : Gl X "range") (hm : X.mg "range" = none) (h : PMA X W [a, b] ta fa) (hs : starEach [a, b] X.env = [(false, eval a X.env), (false, eval b X.env)] := by rfl) (hs2 : starEach [b] X.env = [(false, eval b X.env)] := by rfl) : PMI X W tg (.Call (.Name "range" p) [a, b] [] pos) (iRng2 ta) (imRng2 fa) := ⟨pi_range2 hg hm h.pe hs hs2, snd_irng2 h.sd⟩
theorem mi_enum {elts : List Expr} {kk : Nat} (hg : Gl X "enumerate") (hm : X.mg "enumerate" = none) (h : PMA X W [e] ta fa) (hs : starEach [e] X.env = [(false, eval e X.env)] := by rfl) : PMI X W (.Tuple elts kk tpos) (.Call (.Name "enumerate" p) [e] [] pos) (iEnumS X.K ta) (imEnum fa) := ⟨pi_enumS hg hm h.pe hs, snd_ienum h.sd⟩
structure PMGs (X : Cx) (es : List Expr) (g : TGs) (h : List D → Env → Option Env) (ts : List Nat) : Prop where
  pg : PGs X es g
  ok : TgsOk X.K g h ts
theorem gs_nil : PMGs X [] gNil tgNil [] := ⟨pgs_nil, tgs_nil⟩
theorem gs_cons {es : List Expr} {g : TG} {gs : TGs} {h : D → Env → Option Env} {hs : List D → Env → Option Env} {t ts : List Nat} (h1 : PMG X e g h t) (h2 : PMGs X es gs hs ts)
    (ha : List.map (fun x => x.snd) (assignEach (e :: es) X.env) = assign e X.env :: List.map (fun x => x.snd) (assignEach es X.env) := by rfl) : PMGs X (e :: es) (gCons g gs) (tgCons h hs) (t ++ ts) := ⟨pgs_cons h1.pg h2.pg ha, tgs_cons h1.ok h2.ok⟩
theorem pg_tp {es : List Expr} {k n : Nat} {gs : TGs} {hs : List D → Env → Option Env} {ts : List Nat} (hc : X.calm = true) (h : PMGs X es gs hs ts) (h1 : (assignEach es X.env).length = n := by rfl) (h2 : List.findIdx? (fun x => x.fst) (assignEach es X.env) = none := by rfl) :
    PMG X (.Tuple es k pos) (gTup X.K n gs) (tgTup n hs) ts := ⟨pg_tup hc h.pg h1 h2, tg_tup h.ok⟩
end
end DL
namespace DL
open PySem PySem.Spec PyProof.Rows L2
/-! ### list.extend of a tuple -/
theorem meets_ext_tup (l : Addr) (items : Array Value) (n : Nat) (b : Addr) (items2 : Array Value) (n2 : Nat) (dct : Option Addr) (sl : Array (Option Value)) (hs0 : ¬(!items.isEmpty && Builtin.List.listTooLong (items.size + items2.size)) = true) (hs1 : items.size ≤ sizeLine) (hs2 : items.size + items2.size ≤ sizeLine + 1) :
    Meets (Builtin.«list.extend» ⟨[.ref l, .ref b], []⟩) (fun _ R s => s.heap.get? l = some { cls := .type "list", dict := none, data := .seq items n, slots := #[] } ∧ s.heap.get? b = some { cls := .type "tuple", dict := dct, data := .seq items2 n2, slots := sl } ∧
      R (.ok (.ret Value.none)) { s with heap := s.heap.update l (Obj.mapSeq fun x => x ++ items2), toks := s.toks }) :=
  .of_wp fun prog w A R s h => by
    obtain ⟨hp, g, d, tk, os⟩ := s
    obtain ⟨hl, hb, h⟩ := h
    have f1 := AutoSeq1.idx_int
    have f2 := AutoSeq1.sub_tuple_tuple
    have f3 := AutoSeq1.sub_list_list
    have f4 := AutoSeq1.sub_tuple_list
    have f5 := AutoSeq1.sub_list_tuple
    have hz' : (items ++ items2).size ≤ sizeLine + 1 := by rw [Array.size_append]; exact hs2
    wp_walk using (wpAny_updateSeq hl rfl (hz := hs1) (_hz' := hz')), AutoSeq1.wpAny_loadPart' hl, AutoSeq1.wpAny_loadPart' hb
    exact ⟨_, rfl, h⟩
def rExtT (K : PySem.W.Frag) : V → List V → Hp → VK → Prop := fun x vs H Q => ∃ l b xs zs, x = .ref l ∧ vs = [.ref b] ∧ H l = some (.lst xs) ∧ SqT K H b zs ∧ xs.length + zs.length ≤ sizeLine ∧ Q .non (upd H l (.lst (xs ++ zs)))
theorem mt_extT {X : Cx} : MtM X "list.extend" (rExtT X.K) := by
  intro pins s σ H x vs v us Q I rx rv h
  obtain ⟨l, b, xs, zs, rfl, rfl, hH, hB, hz, q⟩ := h
  cases rx
  obtain ⟨u, rfl, ru⟩ := rv.one
  cases ru
  obtain ⟨z, its, n, r, hl, e⟩ := I.lstM hH
  obtain ⟨its2, r2, ⟨⟨c, dct, dt, sl⟩, ho, hc, n2, hd⟩, z2⟩ := I.tuple hB
  obtain rfl : c = .type "tuple" := hc
  obtain rfl : dt = .seq its2.toArray n2 := hd
  have hl2 := r2.length
  have hsz : its.toArray.size + its2.toArray.size ≤ sizeLine := by rw [List.size_toArray, List.size_toArray]; omega
  have hlong : ¬ (!its.toArray.isEmpty && Builtin.List.listTooLong (its.toArray.size + its2.toArray.size)) = true := by
    rw [notLongL hsz, Bool.and_false]
    exact Bool.false_ne_true
  refine call_meets F.slot_list_extend ⟨_, e, rfl⟩ F.entry_list_extend (F.args_list_extend_2 _ _)
    (meets_ext_tup l its.toArray n b its2.toArray n2 dct sl hlong (by rw [List.size_toArray]; omega) (by omega)) ⟨e, ho, ?_⟩
  refine ⟨.non, _, I.lset (its' := its ++ its2) hH e (by simp) (r.append r2) ?_, rfl, q⟩
  rw [List.length_append]
  omega
section
variable {K : PySem.W.Frag} {W : WX} {N M : Nat} {ρ : Pm} {G H : Hp} {σ : Slots} {δ : Env} {μ : Mem} {Q : VK} {v w : V} {x y : DV}
theorem Rel.setL {n : Nat} {a : Addr} {vs' : List V} {xs' ys : List DV} (R : Rel K ρ G H μ) (hn : ρ n = some a) (hm : μ[n]? = some (.lst ys)) (hb : ∀ x ∈ xs', x.below n) (hd : DvL K ρ G vs' xs') :
    Rel K ρ G (upd H a (.lst vs')) (μ.set n (.lst xs')) ∧ Tr ρ G H G (upd H a (.lst vs')) := by
  have hlt : n < μ.length := R.lt n a hn
  refine ⟨⟨fun b o h => ?_, R.inj, R.nG, fun m b h => by rw [List.length_set]; exact R.lt m b h, fun m b h q => ?_, fun m q h => ?_⟩, ⟨Ex.refl _, fun b o hb h => ?_, fun b h => ?_, fun b h => .inl h⟩⟩
  · have e : b ≠ a := fun e => by rw [e, R.nG n a hn] at h; cases h
    rw [upd_ne e]; exact R.ex b o h
  · by_cases e : b = a
    · rw [e, upd_same] at q; cases q
    · rw [upd_ne e] at q; exact R.hs m b h q
  · by_cases e : m = n
    · subst e
      rw [List.getElem?_set_self hlt] at h
      cases h
      exact ⟨hb, a, vs', hn, upd_same, hd⟩
    · rw [List.getElem?_set_ne (fun z => e z.symm)] at h
      have z := R.pl m q h
      have ne : ∀ b, ρ m = some b → b ≠ a := fun b hb z => e (R.inj m n a (z ▸ hb) hn)
      cases q with
      | lst xs => obtain ⟨b, c, vs, h1, h2, h3⟩ := z; exact ⟨b, c, vs, h1, by rw [upd_ne (ne c h1)]; exact h2, h3⟩
      | dct kvs => obtain ⟨b, c, o, vs, h1, h2, h3⟩ := z; exact ⟨b, c, o, vs, h1, by rw [upd_ne (ne c h1)]; exact h2, h3⟩
      | own => obtain ⟨b, c, h1, h2⟩ := z; exact ⟨b, c, h1, by rw [upd_ne (ne b h1)]; exact h2⟩
      | ins nm fs =>
        obtain ⟨b, c, dx, C, vs, k, hk, h1, h2, cl, h4, h3⟩ := z
        have nd : dx ≠ a := fun e => by
          obtain ⟨_, a', vs', k1, k2, _⟩ := R.pl n _ hm
          rw [hn] at k1; cases k1; rw [e, k2] at h4; cases h4
        exact ⟨b, c, dx, C, vs, k, hk, h1, by rw [upd_ne (ne c h1)]; exact h2, cl, by rw [upd_ne nd]; exact h4, h3⟩
      | gone => exact z
  · have e : b ≠ a := fun e => hb n (e ▸ hn)
    rw [upd_ne e]; exact h
  · by_cases e : b = a
    · rw [e, upd_same] at h; cases h
    · rw [upd_ne e] at h; exact h
def MtD (K : PySem.W.Frag) (r : V → List V → Hp → VK → Prop) (g : DV → List DV → Mem → Res R) : Prop := ∀ (W : WX) (ρ : Pm) (G H : Hp) (σ : Slots) (μ : Mem) (v : V) (vs : List V) (x : DV) (xs : List DV) (Q : VK), Rel K ρ G H μ → DvOk K ρ G v x → DvL K ρ G vs xs →
  PostG K W ρ G H σ (fun G' H' => rpE K ρ G' H H') Q (g x xs μ) → r v vs H Q
def TyD (K : PySem.W.Frag) (T : String) (c : DV → Mem → Bool) : Prop := ∀ (ρ : Pm) (G H : Hp) (μ : Mem) (v : V) (x : DV), Rel K ρ G H μ → DvOk K ρ G v x → c x μ = true → tyV K T v H
def tyL (x : DV) (μ : Mem) : Bool := (asL μ x).isSome
def tyS (x : DV) (_ : Mem) : Bool := (asStr x).isSome
theorem td_list : TyD K "list" tyL := fun ρ G H μ v x R h e => by
  unfold tyL at e
  cases q : asL μ x with
  | none => rw [q] at e; cases e
  | some xs =>
    obtain ⟨a, vs, rfl, h2, _⟩ := asL_ok R h q
    exact .inl ⟨rfl, vs, h2⟩
theorem td_str : TyD K "str" tyS := fun ρ G H μ v x R h e => by
  unfold tyS at e
  cases q : asStr x with
  | none => rw [q] at e; cases e
  | some z =>
    rw [asStr_ok h q]
    show "str" = "str"
    rfl
def eBM (c : DV → Mem → Bool) (g : DV → List DV → Mem → Res R) (f : EM) (fa : AM) : EM := fun δ μ => (frzV f δ μ).bind fun x μ1 => if c x μ1 = true then (fa δ μ1).bind fun xs μ2 => g x xs μ2 else .bad
def eBM0 (c : DV → Mem → Bool) (g : DV → List DV → Mem → Res R) (f : EM) : EM := fun δ μ => (frzV f δ μ).bind fun x μ1 => if c x μ1 = true then g x [] μ1 else .bad
theorem snd_bm {T : String} {c : DV → Mem → Bool} {r : V → List V → Hp → VK → Prop} {g : DV → List DV → Mem → Res R} {to : TE} {ta : TA} {f : EM} {fa : AM} (hT : TyD K T c) (hm : MtD K r g) (h : SndE K W to f) (ha : SndA K W ta fa) : SndE K W (tBM K T r to ta) (eBM c g f fa) := fun ρ G H σ δ μ Q R E hp => by
  refine SndG.seq (t := to) h.toV R E hp fun x μ1 G1 H1 v t1 R1 E1 d1 hp1 => ?_
  by_cases hc : c x μ1 = true
  case neg => rw [if_neg hc] at hp1; exact hp1.elim
  rw [if_pos hc] at hp1
  refine ⟨hT ρ G1 H1 μ1 v x R1 d1 hc, ?_⟩
  refine SndG.seq (t := ta) ha R1 E1 (hp1.shiftE t1) fun xs μ2 G2 H2 vs t2 R2 E2 d2 hp2 => ?_
  exact hm W ρ G2 H2 σ μ2 v vs x xs Q R2 (d1.mono t2.exG fun _ _ q => q) d2 (hp2.shiftE t2)
theorem snd_bm0 {T : String} {c : DV → Mem → Bool} {r : V → List V → Hp → VK → Prop} {g : DV → List DV → Mem → Res R} {to : TE} {f : EM} (hT : TyD K T c) (hm : MtD K r g) (h : SndE K W to f) : SndE K W (tBM0 K T r to) (eBM0 c g f) := fun ρ G H σ δ μ Q R E hp => by
  refine SndG.seq (t := to) h.toV R E hp fun x μ1 G1 H1 v t1 R1 E1 d1 hp1 => ?_
  by_cases hc : c x μ1 = true
  case neg => rw [if_neg hc] at hp1; exact hp1.elim
  rw [if_pos hc] at hp1
  exact ⟨hT ρ G1 H1 μ1 v x R1 d1 hc, hm W ρ G1 H1 σ μ1 v [] x [] Q R1 d1 .nil (hp1.shiftE t1)⟩
/-- the list at a place -/
def atPl (μ : Mem) : DV → Option (Nat × List DV)
  | .loc n => match μ[n]? with
    | some (.lst xs) => some (n, xs)
    | _ => none
  | .dat _ => none
theorem atPl_ok {n : Nat} {xs : List DV} (R : Rel K ρ G H μ) (h : DvOk K ρ G v x) (e : atPl μ x = some (n, xs)) : ∃ a vs, v = .ref a ∧ ρ n = some a ∧ H a = some (.lst vs) ∧ DvL K ρ G vs xs ∧ μ[n]? = some (.lst xs) ∧ ∀ x ∈ xs, x.below n := by
  unfold atPl at e
  split at e
  · rename_i m
    split at e
    · rename_i ys q
      cases e
      obtain ⟨a, rfl, hn⟩ := h
      obtain ⟨b, c, vs, h1, h2, h3⟩ := R.pl _ _ q
      rw [hn] at h1; cases h1
      exact ⟨a, vs, rfl, hn, h2, h3, q, b⟩
    · cases e
  · cases e
def belowB (n : Nat) : DV → Bool
  | .dat _ => true
  | .loc m => decide (m < n)
theorem belowB_ok {n : Nat} (h : belowB n x = true) : x.below n := by
  cases x with
  | dat d => trivial
  | loc m => exact (of_decide_eq_true h : m < n)
def dAppend (x : DV) (xs : List DV) (μ : Mem) : Res R := match atPl μ x with
  | none => .bad
  | some (n, ys) => match xs with
    | [y] => if ys.length < sizeLine ∧ belowB n y = true then .ok (.dat .non) (μ.set n (.lst (ys ++ [y]))) else .bad
    | _ => .bad
theorem below_app {n : Nat} {xs ys : List DV} (h1 : ∀ x ∈ xs, x.below n) (h2 : ∀ x ∈ ys, x.below n) : ∀ x ∈ xs ++ ys, x.below n := fun x hx => (List.mem_append.mp hx).elim (h1 x) (h2 x)
theorem md_append : MtD K rAppend dAppend := fun W ρ G H σ μ v vs x xs Q R hx hs hp => by
  unfold dAppend at hp
  cases e : atPl μ x with
  | none => rw [e] at hp; exact hp.elim
  | some q =>
    obtain ⟨n, ys⟩ := q
    rw [e] at hp
    obtain ⟨a, ws, rfl, hn, hH, hd, hm, hb⟩ := atPl_ok R hx e
    match xs, hs, hp with
    | [], _, hp => exact hp.elim
    | _ :: _ :: _, _, hp => exact hp.elim
    | [y], hs, hp =>
      obtain ⟨u, rfl, du⟩ := hs.one
      simp only at hp
      by_cases c : ys.length < sizeLine ∧ belowB n y = true
      · rw [if_pos c] at hp
        obtain ⟨R2, t2⟩ := R.setL hn hm (below_app hb fun x hx => by rw [List.mem_singleton.mp hx]; exact belowB_ok c.2) (hd.append (.cons du .nil))
        exact ⟨a, ws, u, rfl, rfl, hH, by rw [paired_len hd]; exact c.1, hp _ _ _ t2 R2 Rp.non⟩
      · rw [if_neg c] at hp; exact hp.elim
def rExt (K : PySem.W.Frag) : V → List V → Hp → VK → Prop := fun x vs H Q => rExtend x vs H Q ∨ rExtT K x vs H Q
theorem mt_ext {X : Cx} : MtM X "list.extend" (rExt X.K) := fun pins s σ H x xs v us Q I rx rv h => h.elim (mt_extend pins s σ H x xs v us Q I rx rv) (mt_extT pins s σ H x xs v us Q I rx rv)
def dExtend (x : DV) (xs : List DV) (μ : Mem) : Res R := match atPl μ x with
  | none => .bad
  | some (n, ys) => match xs with
    | [y] => match asM μ y with
      | some zs => if ys.length + zs.length ≤ sizeLine ∧ zs.all (belowB n) = true then .ok (.dat .non) (μ.set n (.lst (ys ++ zs))) else .bad
      | none => match asT y with
        | some ds => if ys.length + ds.length ≤ sizeLine then .ok (.dat .non) (μ.set n (.lst (ys ++ ds.map DV.dat))) else .bad
        | none => .bad
    | _ => .bad
theorem md_ext : MtD K (rExt K) dExtend := fun W ρ G H σ μ v vs x xs Q R hx hs hp => by
  unfold dExtend at hp
  cases e : atPl μ x with
  | none => rw [e] at hp; exact hp.elim
  | some q =>
    obtain ⟨n, ys⟩ := q
    rw [e] at hp
    obtain ⟨a, ws, rfl, hn, hH, hd, hm, hb⟩ := atPl_ok R hx e
    match xs, hs, hp with
    | [], _, hp => exact hp.elim
    | _ :: _ :: _, _, hp => exact hp.elim
    | [y], hs, hp =>
      obtain ⟨u, rfl, du⟩ := hs.one
      simp only at hp
      cases e2 : asM μ y with
      | some zs =>
        simp only [e2] at hp
        by_cases c : ys.length + zs.length ≤ sizeLine ∧ zs.all (belowB n) = true
        · rw [if_pos c] at hp
          obtain ⟨b, us, rfl, k2, k3⟩ := asM_ok R du e2
          obtain ⟨R2, t2⟩ := R.setL hn hm (below_app hb fun x hx => belowB_ok (List.all_eq_true.mp c.2 x hx)) (hd.append k3)
          exact .inl ⟨a, b, ws, us, rfl, rfl, hH, k2, by rw [paired_len hd, paired_len k3]; exact c.1, hp _ _ _ t2 R2 Rp.non⟩
        · rw [if_neg c] at hp; exact hp.elim
      | none =>
        simp only [e2] at hp
        cases e3 : asT y with
        | none => rw [e3] at hp; exact hp.elim
        | some ds =>
          simp only [e3] at hp
          by_cases c : ys.length + ds.length ≤ sizeLine
          · rw [if_pos c] at hp
            obtain ⟨b, us, rfl, k2, k3⟩ := asT_ok R du e3
            obtain ⟨R2, t2⟩ := R.setL hn hm (below_app hb fun x hx => by obtain ⟨d, _, rfl⟩ := List.mem_map.mp hx; trivial) (hd.append (k3.dv (ρ := ρ)))
            exact .inr ⟨a, b, ws, us, rfl, rfl, hH, k2, by rw [paired_len hd, k3.length]; exact c, hp _ _ _ t2 R2 Rp.non⟩
          · rw [if_neg c] at hp; exact hp.elim
theorem DvL.erase {vs : List V} {xs : List DV} (h : DvL K ρ G vs xs) (k : Nat) : DvL K ρ G (vs.eraseIdx k) (xs.eraseIdx k) := by
  induction h generalizing k with
  | nil => exact .nil
  | cons a b ih =>
    cases k with
    | zero => exact b
    | succ k => exact .cons a (ih k)
def dPop (x : DV) (xs : List DV) (μ : Mem) : Res R := match atPl μ x with
  | none => .bad
  | some (n, ys) => match xs with
    | [i] => match asI i with
      | some j => if -2 ^ 63 ≤ j ∧ j < 2 ^ 63 then match seqIndex? j ys.length with
          | some k => match ys[k]? with
            | some y => .ok (ofV y) (μ.set n (.lst (ys.eraseIdx k)))
            | none => .bad
          | none => .bad
        else .bad
      | none => .bad
    | _ => .bad
theorem md_popAt : MtD K rPopAt dPop := fun W ρ G H σ μ v vs x xs Q R hx hs hp => by
  unfold dPop at hp
  cases e : atPl μ x with
  | none => rw [e] at hp; exact hp.elim
  | some q =>
    obtain ⟨n, ys⟩ := q
    rw [e] at hp
    obtain ⟨a, ws, rfl, hn, hH, hd, hm, hb⟩ := atPl_ok R hx e
    match xs, hs, hp with
    | [], _, hp => exact hp.elim
    | _ :: _ :: _, _, hp => exact hp.elim
    | [i], hs, hp =>
      obtain ⟨u, rfl, du⟩ := hs.one
      simp only at hp
      cases e2 : asI i with
      | none => rw [e2] at hp; exact hp.elim
      | some j =>
        simp only [e2] at hp
        by_cases c : -2 ^ 63 ≤ j ∧ j < 2 ^ 63
        case neg => rw [if_neg c] at hp; exact hp.elim
        rw [if_pos c] at hp
        cases e3 : seqIndex? j ys.length with
        | none => rw [e3] at hp; exact hp.elim
        | some k =>
          simp only [e3] at hp
          cases e4 : ys[k]? with
          | none => rw [e4] at hp; exact hp.elim
          | some y =>
            rw [e4] at hp
            obtain ⟨z, h1, h2⟩ := DvL.get' hd e4
            obtain ⟨R2, t2⟩ := R.setL hn hm (fun x hx => hb x (List.mem_of_mem_eraseIdx hx)) (hd.erase k)
            rw [asI_ok du e2]
            exact ⟨a, ws, j, k, z, rfl, rfl, hH, c.1, c.2, by rw [paired_len hd]; exact e3, h1, hp _ _ _ t2 R2 (RpR.ofV h2)⟩
def dClear (x : DV) (xs : List DV) (μ : Mem) : Res R := match atPl μ x with
  | none => .bad
  | some (n, _) => match xs with
    | [] => .ok (.dat .non) (μ.set n (.lst []))
    | _ => .bad
theorem md_clear : MtD K rClear dClear := fun W ρ G H σ μ v vs x xs Q R hx hs hp => by
  unfold dClear at hp
  cases e : atPl μ x with
  | none => rw [e] at hp; exact hp.elim
  | some q =>
    obtain ⟨n, ys⟩ := q
    rw [e] at hp
    obtain ⟨a, ws, rfl, hn, hH, hd, hm, hb⟩ := atPl_ok R hx e
    match xs, hs, hp with
    | _ :: _, _, hp => exact hp.elim
    | [], hs, hp =>
      cases hs
      obtain ⟨R2, t2⟩ := R.setL hn hm (xs' := []) (vs' := []) (fun x hx => nomatch hx) .nil
      exact ⟨a, ws, rfl, rfl, hH, hp _ _ _ t2 R2 Rp.non⟩
def dInsert (x : DV) (xs : List DV) (μ : Mem) : Res R := match atPl μ x with
  | none => .bad
  | some (n, ys) => match xs with
    | [i, y] => match asI i with
      | some j => if ys.length < sizeLine ∧ 0 ≤ j ∧ j < 2 ^ 63 ∧ belowB n y = true then .ok (.dat .non) (μ.set n (.lst (ys.take j.toNat ++ [y] ++ ys.drop j.toNat))) else .bad
      | none => .bad
    | _ => .bad
theorem md_insert : MtD K (fun x vs H Q => ∃ (l : Addr) (xs : List V) (i : Int) (y : V), x = V.ref l ∧ vs = [V.int i, y] ∧ H l = some (HO.lst xs) ∧ xs.length < sizeLine ∧ 0 ≤ i ∧ i < 2 ^ 63 ∧ Q V.non (upd H l (HO.lst (xs.take i.toNat ++ [y] ++ xs.drop i.toNat)))) dInsert := fun W ρ G H σ μ v vs x xs Q R hx hs hp => by
  unfold dInsert at hp
  cases e : atPl μ x with
  | none => rw [e] at hp; exact hp.elim
  | some q =>
    obtain ⟨n, ys⟩ := q
    rw [e] at hp
    obtain ⟨a, ws, rfl, hn, hH, hd, hm, hb⟩ := atPl_ok R hx e
    match xs, hs, hp with
    | [], _, hp => exact hp.elim
    | [_], _, hp => exact hp.elim
    | _ :: _ :: _ :: _, _, hp => exact hp.elim
    | [i, y], hs, hp =>
      obtain ⟨u, z, rfl, du, dz⟩ := hs.two
      simp only at hp
      cases e2 : asI i with
      | none => rw [e2] at hp; exact hp.elim
      | some j =>
        simp only [e2] at hp
        by_cases c : ys.length < sizeLine ∧ 0 ≤ j ∧ j < 2 ^ 63 ∧ belowB n y = true
        case neg => rw [if_neg c] at hp; exact hp.elim
        rw [if_pos c] at hp
        obtain ⟨R2, t2⟩ := R.setL hn hm (below_app (below_app (fun x hx => hb x (List.mem_of_mem_take hx)) fun x hx => by rw [List.mem_singleton.mp hx]; exact belowB_ok c.2.2.2) fun x hx => hb x (List.mem_of_mem_drop hx)) (((hd.take j.toNat).append (.cons dz .nil)).append (hd.drop j.toNat))
        rw [asI_ok du e2]
        exact ⟨a, ws, j, z, rfl, rfl, hH, by rw [paired_len hd]; exact c.1, c.2.1, c.2.2.1, hp _ _ _ t2 R2 Rp.non⟩
def dSplit (x : DV) (xs : List DV) (μ : Mem) : Res R := match asStr x with
  | none => .bad
  | some a => match xs with
    | [y] => match asStr y with
      | some b => if (b.length == 0) = false ∧ a.length + 2 ≤ sizeLine then .ok (.nl ((Txt.split a b).map fun s => .dat (.str s))) μ else .bad
      | none => .bad
    | _ => .bad
theorem dvl_strs : ∀ (l : List Str), DvL K ρ G (l.map V.str) (l.map fun s => .dat (.str s))
  | [] => .nil
  | s :: l => .cons (Rp.str s) (dvl_strs l)
theorem md_split : MtD K (fun x xs H Q => ∃ a b, x = V.str a ∧ xs = [V.str b] ∧ (b.length == 0) = false ∧ a.length + 2 ≤ sizeLine ∧ rNewStrs (Txt.split a b) H Q) dSplit := fun W ρ G H σ μ v vs x xs Q R hx hs hp => by
  unfold dSplit at hp
  cases e : asStr x with
  | none => rw [e] at hp; exact hp.elim
  | some a =>
    rw [e] at hp
    match xs, hs, hp with
    | [], _, hp => exact hp.elim
    | _ :: _ :: _, _, hp => exact hp.elim
    | [y], hs, hp =>
      obtain ⟨u, rfl, du⟩ := hs.one
      simp only at hp
      cases e2 : asStr y with
      | none => rw [e2] at hp; exact hp.elim
      | some b =>
        simp only [e2] at hp
        by_cases c : (b.length == 0) = false ∧ a.length + 2 ≤ sizeLine
        case neg => rw [if_neg c] at hp; exact hp.elim
        rw [if_pos c] at hp
        rw [asStr_ok du e2, asStr_ok hx e]
        exact ⟨a, b, rfl, rfl, c.1, c.2, fun p hn => new_list R (Tr.refl _ _ _) hn (dvl_strs _) hp⟩
end
section
variable {X : Cx} {W : WX} {o e : Expr} {es : List Expr} {to : TE} {ta : TA} {name : Str} {apos cpos : Pos} {T id : String} {r : V → List V → Hp → VK → Prop} {c : DV → Mem → Bool} {g : DV → List DV → Mem → Res R} {f : EM} {fa : AM}
theorem pm_bm (hp : PlainAttrs T) (hsl : Slot T name id) (hty : typeOf (Value.builtin id) = pure (Value.type "method_descriptor")) (hm : MtR X id r) (hT : TyD X.K T c) (hd : MtD X.K r g) (ho : PM X W o to f) (ha : PMA X W (e :: es) ta fa)
    (h1 : attributeBase o name X.env (eval o X.env) = eval o X.env := by rfl)
    (h2 : (((((backTo cpos (starEach (e :: es) X.env)).all fun x => !x.fst) && (backToKw cpos (keywordEach [] X.env)).all fun x => x.fst.isSome) && decide (((e :: es).length + ([] : List Keyword).length + if ([] : List Keyword).isEmpty = true then 0 else 1) < 30)) = true) := by rfl)
    (h3 : (apos.endLine == cpos.line) = true := by rfl) (h4 : starEach (e :: es) X.env = (false, eval e X.env) :: starEach es X.env := by rfl) (h5 : ((backTo cpos (starEach es X.env)).any fun x => x.fst) = false := by rfl) :
    PM X W ((o.Attribute name apos).Call (e :: es) [] cpos) (tBM X.K T r to ta) (eBM c g f fa) := ⟨pe_bm hp hsl hty hm ho.pe ha.pe h1 h2 h3 h4 h5, snd_bm hT hd ho.sd ha.sd⟩
theorem pm_bm0 (hp : PlainAttrs T) (hsl : Slot T name id) (hty : typeOf (Value.builtin id) = pure (Value.type "method_descriptor")) (hm : MtR X id r) (hT : TyD X.K T c) (hd : MtD X.K r g) (ho : PM X W o to f)
    (h1 : attributeBase o name X.env (eval o X.env) = eval o X.env := by rfl) (h3 : (apos.endLine == cpos.line) = true := by rfl) :
    PM X W ((o.Attribute name apos).Call [] [] cpos) (tBM0 X.K T r to) (eBM0 c g f) := ⟨pe_bm0 hp hsl hty hm ho.pe h1 h3, snd_bm0 hT hd ho.sd⟩
end
end DL
namespace DL
open PySem PySem.Spec PyProof.Rows L2
/-! ### x[i] = e, x[i] += e -/
def rGetL (K : PySem.W.Frag) : V → V → Hp → VK → Prop := fun o i H Q => ∃ p xs k v, o = .ref p ∧ i = .int k ∧ SqL K H p xs ∧ 0 ≤ k ∧ k < 2 ^ 63 ∧ xs[k.toNat]? = some v ∧ Q v H
theorem pget_list {X : Cx} : PGet X (rGetL X.K) := by
  intro pins s σ H o i ov iv Q I ro ri h
  obtain ⟨p, xs, k, v, rfl, rfl, hq, h0, h1, hx, q⟩ := h
  cases ro
  obtain ⟨t, rfl⟩ := ri
  obtain ⟨its, rv, pl, hz⟩ := I.list hq
  obtain ⟨u, hu, ru⟩ := rv.get hx
  exact wpAny_getItem_list pl.isList h0 h1 (by simpa using hu) ⟨v, H, I, ru, q⟩
section
variable {K : PySem.W.Frag} {W : WX} {N M : Nat} {ρ : Pm} {G H : Hp} {σ : Slots} {δ : Env} {μ : Mem} {Q : VK} {v w : V} {x y : DV}
theorem DvL.set {vs : List V} {xs : List DV} (h : DvL K ρ G vs xs) (k : Nat) (d : DvOk K ρ G v x) : DvL K ρ G (vs.set k v) (xs.set k x) := by
  induction h generalizing k with
  | nil => exact .nil
  | cons a b ih =>
    cases k with
    | zero => exact .cons d b
    | succ k => exact .cons a (ih k)
/-- the place's list with another item -/
def setPl (μ : Mem) (x i y : DV) : Option Mem := match atPl μ x with
  | none => none
  | some (n, ys) => match asI i with
    | none => none
    | some k => match ixN ys.length k with
      | some j => if belowB n y = true then some (μ.set n (.lst (ys.set j y))) else none
      | none => none
theorem setPl_ok {i : DV} {vi : V} {μ' : Mem} {Qh : Hp → Prop} (R : Rel K ρ G H μ) (hx : DvOk K ρ G v x) (hi : DvOk K ρ G vi i) (hy : DvOk K ρ G w y) (e : setPl μ x i y = some μ')
    (go : ∀ H', Tr ρ G H G H' → Rel K ρ G H' μ' → Qh H') : rSetL v vi w H Qh := by
  unfold setPl at e
  cases e1 : atPl μ x with
  | none => rw [e1] at e; cases e
  | some q =>
    obtain ⟨n, ys⟩ := q
    simp only [e1] at e
    obtain ⟨a, ws, rfl, hn, hH, hd, hm, hb⟩ := atPl_ok R hx e1
    cases e2 : asI i with
    | none => rw [e2] at e; cases e
    | some k =>
      simp only [e2] at e
      cases e3 : ixN ys.length k with
      | none => rw [e3] at e; cases e
      | some j =>
        simp only [e3] at e
        by_cases c : belowB n y = true
        · rw [if_pos c] at e; cases e
          obtain ⟨R2, t2⟩ := R.setL hn hm (fun x hx => (List.mem_or_eq_of_mem_set hx).elim (hb x) fun z => by rw [z]; exact belowB_ok c) (hd.set j hy)
          exact ⟨a, ws, k, j, rfl, asI_ok hi e2, hH, by rw [paired_len hd]; exact e3, go _ t2 R2⟩
        · rw [if_neg c] at e; cases e
def gSet (fo fi fe : EM) : SM := fun _ δ μ => lift ((frzV fe δ μ).bind fun y μ1 => (frzV fo δ μ1).bind fun x μ2 => (frzV fi δ μ2).bind fun i μ3 => match setPl μ3 x i y with
  | some μ4 => .ok () μ4
  | none => .bad) δ fun _ μ4 => .next δ μ4
/-- an expression, then more of the same statement -/
theorem SndG.stm2 {α β γ : Type} {t : Slots → Hp → (β → Hp → Prop) → Prop} {f : Env → Mem → Res α} {rp : Pm → Hp → Hp → Hp → β → α → Prop} {Dn : Ends}
    (h : SndG K W t f rp) (R : Rel K ρ G H μ) (E : EnvOk K ρ G σ δ) {k : α → Mem → Res γ} {kk : γ → Mem → Out}
    (hp : PostS K W N ρ G H Dn (lift ((f δ μ).bind k) δ kk)) {Q : β → Hp → Prop}
    (go : ∀ r μ' G' H' v, Tr ρ G H G' H' → Rel K ρ G' H' μ' → EnvOk K ρ G' σ δ → rp ρ G' H H' v r → PostS K W N ρ G' H' Dn (lift (k r μ') δ kk) → Q v H') : t σ H Q := by
  refine h ρ G H σ δ μ Q R E ?_
  cases e : f δ μ with
  | ok r μ' => rw [e] at hp; exact fun G' H' v t' R' q => go r μ' G' H' v t' R' (E.mono t'.exG) q (PostS.shift t'.toS hp)
  | exc x μ' => rw [e] at hp; exact fun G' H' cls d t' R' q => hp ρ G' H' σ cls d t'.toS R' (E.mono t'.exG) q
  | bad => rw [e] at hp; exact hp
theorem snd_set {to ti te : TE} {fo fi fe : EM} (ho : SndE K W to fo) (hi : SndE K W ti fi) (he : SndE K W te fe) : SndS K W (tAsg te (gSub to ti rSetL)) (gSet fo fi fe) := fun N ρ G H σ δ μ Dn R E hp => by
  refine SndG.stm2 (t := te) he.toV R E hp fun y μ1 G1 H1 w t1 R1 E1 d1 hp1 => ?_
  refine SndG.stm2 (t := to) ho.toV R1 E1 hp1 fun x μ2 G2 H2 v t2 R2 E2 d2 hp2 => ?_
  refine SndG.stm2 (t := ti) hi.toV R2 E2 hp2 fun i μ3 G3 H3 vi t3 R3 E3 d3 hp3 => ?_
  cases e : setPl μ3 x i y with
  | none => rw [e] at hp3; exact hp3.elim
  | some μ4 =>
    rw [e] at hp3
    exact setPl_ok R3 (d2.mono t3.exG fun _ _ q => q) d3 (d1.mono (t2.exG.trans t3.exG) fun _ _ q => q) e fun H' t4 R4 => hp3 ρ G3 H' σ t4.toS R4 E3
def getPl (μ : Mem) (x i : DV) : Option Int := match asL μ x with
  | none => none
  | some xs => match asI i with
    | none => none
    | some k => if 0 ≤ k ∧ k < 2 ^ 63 then match xs[k.toNat]? with
        | some y => asI y
        | none => none
      else none
def gAugS (op : Int → Int → Int) (fo fi fe : EM) : SM := fun _ δ μ => lift ((frzV fo δ μ).bind fun x μ1 => (frzV fi δ μ1).bind fun i μ2 => match getPl μ2 x i with
  | none => .bad
  | some a => (frzV fe δ μ2).bind fun y μ3 => match asI y with
    | none => .bad
    | some b => match setPl μ3 x i (.dat (.int (op a b))) with
      | some μ4 => .ok () μ4
      | none => .bad) δ fun _ μ4 => .next δ μ4
theorem snd_augS {to ti te : TE} {fo fi fe : EM} {op : Int → Int → Int} (ho : SndE K W to fo) (hi : SndE K W ti fi) (he : SndE K W te fe) : SndS K W (tAugS to ti te (rGetL K) (ipI op) rSetL) (gAugS op fo fi fe) := fun N ρ G H σ δ μ Dn R E hp => by
  refine SndG.stm2 (t := to) ho.toV R E hp fun x μ1 G1 H1 v t1 R1 E1 d1 hp1 => ?_
  refine SndG.stm2 (t := ti) hi.toV R1 E1 hp1 fun i μ2 G2 H2 vi t2 R2 E2 d2 hp2 => ?_
  cases eg : getPl μ2 x i with
  | none => rw [eg] at hp2; exact hp2.elim
  | some a =>
    simp only [eg] at hp2
    have d1' := d1.mono t2.exG fun _ _ q => q
    unfold getPl at eg
    cases e1 : asL μ2 x with
    | none => rw [e1] at eg; cases eg
    | some xs =>
      simp only [e1] at eg
      cases e2 : asI i with
      | none => rw [e2] at eg; cases eg
      | some k =>
        simp only [e2] at eg
        by_cases c : 0 ≤ k ∧ k < 2 ^ 63
        case neg => rw [if_neg c] at eg; cases eg
        rw [if_pos c] at eg
        cases e3 : xs[k.toNat]? with
        | none => rw [e3] at eg; cases eg
        | some z =>
          simp only [e3] at eg
          obtain ⟨p, vs, rfl, hq, hd⟩ := asL_ok R2 d1' e1
          obtain ⟨u, h1, h2⟩ := DvL.get' hd e3
          refine ⟨p, vs, k, u, rfl, asI_ok d2 e2, hq, c.1, c.2, h1, ?_⟩
          rw [asI_ok h2 eg]
          refine SndG.stm2 (t := te) he.toV R2 E2 hp2 fun y μ3 G3 H3 w t3 R3 E3 d3 hp3 => ?_
          cases e4 : asI y with
          | none => rw [e4] at hp3; exact hp3.elim
          | some b =>
            simp only [e4] at hp3
            refine ⟨a, b, rfl, asI_ok d3 e4, ?_⟩
            cases e5 : setPl μ3 x i (.dat (.int (op a b))) with
            | none => rw [e5] at hp3; exact hp3.elim
            | some μ4 =>
              rw [e5] at hp3
              exact setPl_ok R3 (d1'.mono t3.exG fun _ _ q => q) (d2.mono t3.exG fun _ _ q => q) (y := .dat (.int (op a b))) (Rp.int _) e5 fun H' t4 R4 => hp3 ρ G3 H' σ t4.toS R4 E3
/-- a += b of ints -/
def gAug (i : Nat) (op : Int → Int → Int) (fe : EM) : SM := fun _ δ μ => match δ[i]? with
  | some (some x) => match asI x with
    | some a => lift (frzV fe δ μ) δ fun y μ' => match asI y with
      | some b => .next (δ.set i (some (.dat (.int (op a b))))) μ'
      | none => .bad
    | none => .bad
  | _ => .bad
theorem snd_aug {te : TE} {fe : EM} {op : Int → Int → Int} (i : Nat) (he : SndE K W te fe) : SndS K W (tAug i te (ipI op)) (gAug i op fe) := fun N ρ G H σ δ μ Dn R E hp => by
  unfold gAug at hp
  split at hp
  · rename_i x e
    obtain ⟨v, hv, d⟩ := E.at_ i x e
    split at hp
    · rename_i a ea
      refine ⟨v, hv, ?_⟩
      rw [asI_ok d ea]
      refine SndG.stm (t := te) he.toV R E hp fun y μ' G' H' w t' R' E' d' hp' => ?_
      cases eb : asI y with
      | none => rw [eb] at hp'; exact hp'.elim
      | some b =>
        rw [eb] at hp'
        exact ⟨a, b, rfl, asI_ok d' eb, hp' ρ G' H' _ t'.toS R' (E'.set i (x := .dat (.int (op a b))) (Rp.int _))⟩
    · exact hp.elim
  · exact hp.elim
/-! ### two at once -/
def gPar (i j : Nat) (fa : AM) : SM := fun _ δ μ => lift (fa δ μ) δ fun xs μ' => match xs with
  | [x, y] => .next ((δ.set i (some x)).set j (some y)) μ'
  | _ => .bad
theorem snd_par {ta : TA} {fa : AM} (i j : Nat) (ha : SndA K W ta fa) : SndS K W (tPar i j ta) (gPar i j fa) := fun N ρ G H σ δ μ Dn R E hp => by
  refine SndG.stm (t := ta) ha R E hp fun xs μ' G' H' vs t' R' E' d hp' => ?_
  match xs, d, hp' with
  | [], _, hp' => exact hp'.elim
  | [_], _, hp' => exact hp'.elim
  | _ :: _ :: _ :: _, _, hp' => exact hp'.elim
  | [x, y], d, hp' =>
    obtain ⟨v, w, rfl, dx, dy⟩ := d.two
    exact ⟨v, w, rfl, hp' ρ G' H' _ t'.toS R' ((E'.set i dx).set j dy)⟩
/-- .. both new places -/
def gPar2 (i j : Nat) (f g : EM) : SM := fun N δ μ => lift (f δ μ) δ fun r μ1 => match bindR N i r δ μ1 with
  | .next δ1 μ2 => lift (g δ μ2) δ fun r2 μ3 => bindR N j r2 δ1 μ3
  | _ => .bad
end
section
variable {X : Cx} {W : WX} {pos p tpos px py pt pt2 : Pos} {e o i a b : Expr} {te to ti : TE} {f fo fi : EM} {ta : TA} {fa : AM}
theorem sm_set (ho : PM X W o to fo) (hi : PM X W i ti fi) (he : PM X W e te f)
    (hs : ∀ (v : Value), assign (o.Subscript i p) X.env v = (do
                let ov ← holding [v] (eval o X.env)
                let iv ← holding [v, ov] (eval i X.env)
                standAt p
                holding [v, ov, iv] (setItem ov iv v)
                release [v, ov, iv] []) := by intro _; rfl)
    (a1 : swapsWithSole [o.Subscript i p] e pos.line X.env = pure false := by rfl) (a2 : swappedStores [o.Subscript i p] e X.env = pure none := by rfl) (a3 : List.map (fun x => x.snd) (assignEach [o.Subscript i p] X.env) = [assign (o.Subscript i p) X.env] := by rfl) :
    PSM X W (.Assign [o.Subscript i p] e pos) (tAsg te (gSub to ti rSetL)) (gSet fo fi f) := ⟨ps_asg he.pe (pg_sub ho.pe hi.pe set_list hs) a1 a2 a3, snd_set ho.sd hi.sd he.sd⟩
theorem sm_augS (ho : PM X W o to fo) (hi : PM X W i ti fi) (he : PM X W e te f)
    (hs : ∀ (ov iv new : Value), augStore i ov iv new = (do
                      holding [new, ov, iv] (setItem ov iv new)
                      release [new, ov, iv] []
                      pure Flow.next) := by intro _ _ _; rfl) :
    PSM X W (.AugAssign (o.Subscript i tpos) .Add e pos) (tAugS to ti te (rGetL X.K) (ipI fun i j => i + j) rSetL) (gAugS (fun i j => i + j) fo fi f) := ⟨ps_augS ho.pe hi.pe pget_list he.pe ip_add set_list hs, snd_augS ho.sd hi.sd he.sd⟩
theorem sm_aug {x : Str} (j : Nat) (hN : X.N.Nodup) (he : PM X W e te f) (hi : X.N[j]? = some x := by rfl) (hx : Loc X.env.scope x := by first | exact Or.inl rfl | exact Or.inr rfl)
    (hf : X.fn x = true ∨ X.env.scope.names.lookup x = some .local := by first | exact .inl rfl | exact .inr rfl) :
    PSM X W (.AugAssign (.Name x p) .Add e pos) (tAug j te (ipI fun i j => i + j)) (gAug j (fun i j => i + j) f) := ⟨ps_aug hN hi hx he.pe ip_add hf, snd_aug j he.sd⟩
theorem sm_par {x y : Str} {kt k2 : Nat} (n m : Nat) (hc : X.calm = true) (hN : X.N.Nodup) (ha : PMA X W [a, b] ta fa) (hi : X.N[n]? = some x := by rfl) (hj : X.N[m]? = some y := by rfl) (hne : n ≠ m := by decide)
    (hx : X.env.scope.names.lookup x = some .local := by rfl) (hy : X.env.scope.names.lookup y = some .local := by rfl)
    (hs : swappedStores [Expr.Tuple [Expr.Name x px, Expr.Name y py] kt pt] (Expr.Tuple [a, b] k2 pt2) X.env = pure (some [x, y]) := by rfl)
    (hs2 : swapsWithSole [Expr.Tuple [Expr.Name x px, Expr.Name y py] kt pt] (Expr.Tuple [a, b] k2 pt2) pos.line X.env = pure false := by rfl) :
    PSM X W (.Assign [Expr.Tuple [Expr.Name x px, Expr.Name y py] kt pt] (Expr.Tuple [a, b] k2 pt2) pos) (tPar n m ta) (gPar n m fa) := ⟨ps_par hc hN hi hj hne hx hy ha.pe hs hs2, snd_par n m ha.sd⟩
theorem pm_cb {x : Str} {es : List Expr} {id : String} {r : List V → Hp → VK → Prop} {g : List DV → Mem → Res R} (hr : CallR X (.builtin id) r) (hd : CallD X.K r g) (hg : Gl X x) (hm : X.mg x = none) (hv : bootBuiltins x = some (.builtin id)) (ha : PMA X W (e :: es) ta fa)
    (hn : x ≠ "__name__" := by decide) (hdb : (x == ("__debug__" : Str)) = false := by decide) (he : starEach (e :: es) X.env = (false, eval e X.env) :: starEach es X.env := by rfl) (hpl : (backTo pos (starEach es X.env)).any (·.1) = false := by rfl) :
    PM X W (.Call (.Name x p) (e :: es) [] pos) (tCB r ta) (eCB g fa) := ⟨pe_callB hr hg hm hv ha.pe hn hdb he hpl, snd_cb hd ha.sd⟩
end
end DL
namespace DL
open PySem PySem.Spec PyProof.Rows L2
section
variable {K : PySem.W.Frag} {W : WX} {N M : Nat} {ρ : Pm} {G H : Hp} {σ : Slots} {δ : Env} {μ : Mem} {Q : VK} {v w : V} {x y : DV}
theorem bindR_ok {r : R} {i : Nat} {G0 H0 : Hp} {δ1 : Env} {μ2 : Mem} (R' : Rel K ρ G H μ) (t' : TrS N ρ G0 H0 ρ G H) (d : RpR K ρ G H0 H v r) (e : bindR N i r δ μ = .next δ1 μ2) :
    ∃ ρ1 x, TrS N ρ G0 H0 ρ1 G H ∧ Rel K ρ1 G H μ2 ∧ (∀ n b, ρ n = some b → ρ1 n = some b) ∧ DvOk K ρ1 G v x ∧ δ1 = δ.set i (some x) := by
  cases r with
  | dat d' => cases e; exact ⟨ρ, .dat d', t', R', fun _ _ q => q, d, rfl⟩
  | loc n => cases e; exact ⟨ρ, .loc n, t', R', fun _ _ q => q, d, rfl⟩
  | nl xs =>
    obtain ⟨a, vs, rfl, h2, h3, h4, h5, h6⟩ := d
    have up : ∀ n b, ρ n = some b → addP ρ μ.length a n = some b := fun n b q => by
      unfold addP; rw [if_neg (Nat.ne_of_lt (R'.lt n b q))]; exact q
    unfold bindR at e
    by_cases hN : N ≤ μ.length
    case neg => simp only [if_neg hN] at e; cases e
    simp only [if_pos hN] at e
    cases e
    obtain ⟨R2, t2, up, at_⟩ := R'.alloc (p := .lst xs) hN t' (by rw [h2]; simp) h4 h5 h6 ⟨DvL.below R' h3, a, vs, by unfold addP; rw [if_pos rfl], h2, DvL.mono (Ex.refl _) up h3⟩
    exact ⟨_, .loc μ.length, t2, R2, up, ⟨a, rfl, at_⟩, rfl⟩
  | nk kvs =>
    obtain ⟨a, o, vs, rfl, h2, hk, h3, h4, h5, h6⟩ := d
    have up : ∀ n b, ρ n = some b → addP ρ μ.length a n = some b := fun n b q => by
      unfold addP; rw [if_neg (Nat.ne_of_lt (R'.lt n b q))]; exact q
    have bl : ∀ p ∈ kvs, p.2.below μ.length := fun p hp => DvL.below R' h3 p.2 (List.mem_map.mpr ⟨p, hp, rfl⟩)
    unfold bindR at e
    by_cases hN : N ≤ μ.length
    case neg => simp only [if_neg hN] at e; cases e
    simp only [if_pos hN] at e
    cases e
    obtain ⟨R2, t2, up, at_⟩ := R'.alloc (p := .dct kvs) hN t' (by rw [h2]; simp) h4 h5 h6 ⟨bl, a, o, vs, by unfold addP; rw [if_pos rfl], h2, hk, DvL.mono (Ex.refl _) up h3⟩
    exact ⟨_, .loc μ.length, t2, R2, up, ⟨a, rfl, at_⟩, rfl⟩
theorem bindR_next {r : R} {i : Nat} : (∃ δ1 μ2, bindR N i r δ μ = .next δ1 μ2) ∨ bindR N i r δ μ = .bad := by
  cases r with
  | dat d => exact .inl ⟨_, _, rfl⟩
  | loc d => exact .inl ⟨_, _, rfl⟩
  | nl xs =>
    by_cases h : N ≤ μ.length
    · exact .inl ⟨_, _, if_pos h⟩
    · exact .inr (if_neg h)
  | nk xs =>
    by_cases h : N ≤ μ.length
    · exact .inl ⟨_, _, if_pos h⟩
    · exact .inr (if_neg h)
theorem snd_par2 {t u : TE} {f g : EM} (i j : Nat) (h1 : SndE K W t f) (h2 : SndE K W u g) : SndS K W (tPar i j (tCons t (tCons u tNil))) (gPar2 i j f g) := fun N ρ G H σ δ μ Dn R E hp => by
  refine SndG.stm (t := t) h1 R E hp fun r μ1 G1 H1 v t1 R1 E1 d1 hp1 => ?_
  rcases bindR_next (N := N) (r := r) (i := i) (δ := δ) (μ := μ1) with ⟨δ1, μ2, e⟩ | e
  case inr => rw [e] at hp1; exact hp1.elim
  rw [e] at hp1
  obtain ⟨ρ1, x, T1, R2, up, dx, rfl⟩ := bindR_ok R1 (t1.toS (N := N)) d1 e
  have E2 : EnvOk K ρ1 G1 σ δ := E1.up (Ex.refl _) up
  refine SndG.stm (t := u) h2 R2 E2 (PostS.shift T1 hp1) fun r2 μ3 G3 H3 w t3 R3 E3 d3 hp3 => ?_
  refine ⟨v, w, rfl, ?_⟩
  exact snd_bindR (σ := σ.set i (some v)) j R3 (E3.set i (dx.mono t3.exG fun _ _ q => q)) t3.toS d3 hp3
/-! ### chains -/
def eChain (g g' : DV → DV → Mem → Res R) (fa fb fc : EM) : EM := fun δ μ => (frzV fa δ μ).bind fun x μ1 => (frzV fb δ μ1).bind fun y μ2 => (g x y μ2).bind fun r μ3 => match asB r with
  | some true => (frzV fc δ μ3).bind fun z μ4 => g' y z μ4
  | some false => .ok (.dat (.bl false)) μ3
  | none => .bad
theorem snd_chain {r r' : R2} {g g' : DV → DV → Mem → Res R} {ta tb tc : TE} {fa fb fc : EM} (ho : OpD K r g) (ho' : OpD K r' g') (ha : SndE K W ta fa) (hb : SndE K W tb fb) (hc : SndE K W tc fc) : SndE K W (tChain r r' ta tb tc) (eChain g g' fa fb fc) := fun ρ G H σ δ μ Q R E hp => by
  refine SndG.seq (t := ta) ha.toV R E hp fun x μ1 G1 H1 v t1 R1 E1 d1 hp1 => ?_
  refine SndG.seq (t := tb) hb.toV R1 E1 (hp1.shiftE t1) fun y μ2 G2 H2 w t2 R2 E2 d2 hp2 => ?_
  have hp2 := hp2.shiftE t2
  refine ho W ρ G2 H2 σ μ2 v w x y _ R2 (d1.mono t2.exG fun _ _ q => q) d2 ?_
  cases e : g x y μ2 with
  | exc z μ' => rw [e] at hp2; exact hp2
  | bad => rw [e] at hp2; exact hp2
  | ok r0 μ3 =>
    rw [e] at hp2
    intro G3 H3 u t3 R3 d3
    simp only [Res.bind_ok] at hp2
    cases eb : asB r0 with
    | none => rw [eb] at hp2; exact hp2.elim
    | some b =>
      rw [eb] at hp2
      refine ⟨b, asB_ok d3 eb, ?_⟩
      cases b with
      | false => exact hp2 G3 H3 _ t3 R3 (Rp.bl false)
      | true =>
        refine SndG.seq (t := tc) hc.toV R3 (E2.mono t3.exG) (hp2.shiftE t3) fun z μ4 G4 H4 zv t4 R4 E4 d4 hp4 => ?_
        exact ho' W ρ G4 H4 σ μ4 w zv y z Q R4 (d2.mono (t3.exG.trans t4.exG) fun _ _ q => q) d4 (hp4.shiftE t4)
end
section
variable {X : Cx} {W : WX} {pos p tpos px py pt pt2 spos : Pos} {e o i a b c : Expr} {te to ti ta tb tc : TE} {f fo fi fa fb fc : EM} {tA : TA} {fA : AM}
theorem sm_par2 {x y : Str} {kt k2 : Nat} (n m : Nat) (hc : X.calm = true) (hN : X.N.Nodup) (ha : PM X W a ta fa) (hb : PM X W b tb fb) (hi : X.N[n]? = some x := by rfl) (hj : X.N[m]? = some y := by rfl) (hne : n ≠ m := by decide)
    (hx : X.env.scope.names.lookup x = some .local := by rfl) (hy : X.env.scope.names.lookup y = some .local := by rfl)
    (hs : swappedStores [Expr.Tuple [Expr.Name x px, Expr.Name y py] kt pt] (Expr.Tuple [a, b] k2 pt2) X.env = pure (some [x, y]) := by rfl)
    (hs2 : swapsWithSole [Expr.Tuple [Expr.Name x px, Expr.Name y py] kt pt] (Expr.Tuple [a, b] k2 pt2) pos.line X.env = pure false := by rfl)
    (h1 : starEach [a, b] X.env = (false, eval a X.env) :: starEach [b] X.env := by rfl) (h2 : starEach [b] X.env = (false, eval b X.env) :: starEach [] X.env := by rfl) :
    PSM X W (.Assign [Expr.Tuple [Expr.Name x px, Expr.Name y py] kt pt] (Expr.Tuple [a, b] k2 pt2) pos) (tPar n m (tCons ta (tCons tb tNil))) (gPar2 n m fa fb) := ⟨ps_par hc hN hi hj hne hx hy (pa_cons ha.pe (pa_cons hb.pe pa_nil h2) h1) hs hs2, snd_par2 n m ha.sd hb.sd⟩
theorem pm_ct {x : Str} {es : List Expr} {T : String} {r : List V → Hp → VK → Prop} {g : List DV → Mem → Res R} (hr : CallR X (.type T) r) (hd : CallD X.K r g) (hg : Gl X x) (hm : X.mg x = none) (hv : bootBuiltins x = some (.type T)) (ha : PMA X W (e :: es) tA fA)
    (hn : x ≠ "__name__" := by decide) (hdb : (x == ("__debug__" : Str)) = false := by decide) (he : starEach (e :: es) X.env = (false, eval e X.env) :: starEach es X.env := by rfl) (hpl : (backTo pos (starEach es X.env)).any (·.1) = false := by rfl) :
    PM X W (.Call (.Name x p) (e :: es) [] pos) (tCB r tA) (eCB g fA) := ⟨pe_callTy hr hg hm hv ha.pe hn hdb he hpl, snd_cb hd ha.sd⟩
theorem pm_chain {op op' : CmpOp} {r r' : R2} {g g' : DV → DV → Mem → Res R} (ho : OpR X (compareOp op) r) (hd : OpD X.K r g) (ho' : OpR X (compareOp op') r') (hd' : OpD X.K r' g') (ha : PM X W a ta fa) (hb : PM X W b tb fb) (hc : PM X W c tc fc) (hm : lastMarks [op, op'] [b, c] = false := by rfl) :
    PM X W (.Compare a [op, op'] [b, c] pos) (tChain r r' ta tb tc) (eChain g g' fa fb fc) := ⟨pe_chain ho ho' ha.pe hb.pe hc.pe hm, snd_chain hd hd' ha.sd hb.sd hc.sd⟩
theorem pt_chain {op op' : CmpOp} {r r' : R2} {g g' : DV → DV → Mem → Res R} (ho : OpR X (compareOp op) r) (hd : OpD X.K r g) (ho' : OpR X (compareOp op') r') (hd' : OpD X.K r' g') (ha : PM X W a ta fa) (hb : PM X W b tb fb) (hc : PM X W c tc fc) (hm : lastMarks [op, op'] [b, c] = false := by rfl) :
    PMT X W (.Compare a [op, op'] [b, c] pos) (tTest (tChain r r' ta tb tc)) (tmB (eChain g g' fa fb fc)) := ⟨L2.pt_chain ho ho' ha.pe hb.pe hc.pe hm, snd_tmB (snd_chain hd hd' ha.sd hb.sd hc.sd) fun _ _ _ h => h⟩
/-- name = [.. for ..] on one line -/
theorem sm_lc (fresh : Bool) {j : Nat} {y : Str} {elt tg iter : Expr} {ifs : List Expr} {scope : Scope} {own : List (Str × Nat)} {wi : TI} {fI : IM} {g : TG} {h : D → Env → Option Env} {tv : List Nat} {tt : TT} {ft : TM} {fe : EM} (hc : X.calm = true) (hN : X.N.Nodup) (hy : X.N[j]? = some y) (hyl : X.env.scope.names.lookup y = some .local)
    (hsw : swapsWith (.ListComp elt [⟨tg, iter, ifs, 0⟩] scope pos) (some (.Name y py)) spos.line X.env = pure true)
    (hi : PMI X W tg iter wi fI) (ok : BlkOk X.N X.env.scope scope own)
    (hg : ∀ (s : Shared) (H : Hp) (C : Addr) (cl : List (Str × Addr)) (fp : List Addr), PMG (X.blk s H scope (compEnvC scope cl C X.env) fp) tg g h tv)
    (hv : ∀ i ∈ tv, i ∈ own.map (·.2))
    (ht : ∀ (s : Shared) (H : Hp) (C : Addr) (cl : List (Str × Addr)) (fp : List Addr), PMTs (X.blk s H scope (compEnvC scope cl C X.env) fp) WF ifs tt ft)
    (he : ∀ (s : Shared) (H : Hp) (C : Addr) (cl : List (Str × Addr)) (fp : List Addr), PM (X.blk s H scope (compEnvC scope cl C X.env) fp) WF elt te fe)
    (hs : ∀ x, foldedSetIterable iter X.env x = pure x := by intro _; rfl) :
    PSM X W (.Assign [.Name y py] (.ListComp elt [⟨tg, iter, ifs, 0⟩] scope pos) spos) (tAsg (tLc wi g tt te (own.map (·.2))) (gName j)) (if fresh = true then gNew j (eLc fI h ft fe (own.map (·.2))) else gAsg j (eLc fI h ft fe (own.map (·.2)))) := by
  have sd : SndE X.K W (tLc wi g tt te (own.map (·.2))) (eLc fI h ft fe (own.map (·.2))) := snd_lc hi.sd (hg X.s_0 X.H_0 0 [] []).ok hv (ht X.s_0 X.H_0 0 [] []).sd (he X.s_0 X.H_0 0 [] []).sd
  refine ⟨ps_setLc hc hN hy hyl hsw hi.pi ok (fun s H C cl fp => (hg s H C cl fp).pg) (fun s H C cl fp => (ht s H C cl fp).pe) (fun s H C cl fp => (he s H C cl fp).pe) hs, ?_⟩
  cases fresh with
  | true => exact snd_new j sd
  | false => exact snd_asg j sd
theorem pm_isN {k : Nat} {pc : Pos} (ha : PM X W a ta fa) : PM X W (.Compare a [.Is] [.Constant .none k pc] pos) (tIsN ta) (eIsN fa) := ⟨pe_cmp (pc_isN ha.pe), snd_isN ha.sd⟩
theorem pm_notN {k : Nat} {pc : Pos} (ha : PM X W a ta fa) : PM X W (.Compare a [.IsNot] [.Constant .none k pc] pos) (tNotN ta) (eNotN fa) := ⟨pe_cmp (pc_notN ha.pe), snd_notN ha.sd⟩
end
end DL
namespace DL
open PySem PySem.Spec PyProof.Rows L2
section
variable {K : PySem.W.Frag} {W : WX} {N M : Nat} {ρ : Pm} {G H : Hp} {σ : Slots} {δ : Env} {μ : Mem} {Q : VK} {v w : V} {x y : DV}
/-! ### a target of several names, any value -/
def gTgt (h : D → Env → Option Env) (f : EM) : SM := fun _ δ μ => lift (frzV f δ μ) δ fun x μ' => match x with
  | .dat d => match h d δ with
    | some δ' => .next δ' μ'
    | none => .bad
  | .loc _ => .bad
theorem snd_tgt {te : TE} {f : EM} {g : TG} {h : D → Env → Option Env} {ts : List Nat} (hg : TgOk K g h ts) (he : SndE K W te f) : SndS K W (tAsg te g) (gTgt h f) := fun N ρ G H σ δ μ Dn R E hp => by
  refine SndG.stm (t := te) he.toV R E hp fun x μ' G' H' v t' R' E' d hp' => ?_
  cases x with
  | loc n => exact hp'.elim
  | dat d0 =>
    simp only at hp'
    cases e : h d0 δ with
    | none => rw [e] at hp'; exact hp'.elim
    | some δ' =>
      rw [e] at hp'
      exact hg ρ G' H' μ' σ δ δ' v d0 _ R' E' d e fun σ' E2 _ _ => hp' ρ G' H' σ' t'.toS R' E2
/-! ### a display whose new lists are places -/
def newPl (N : Nat) (r : R) (μ : Mem) : Option (DV × Mem) := match r with
  | .dat d => some (.dat d, μ)
  | .loc n => some (.loc n, μ)
  | .nl xs => if N ≤ μ.length then some (.loc μ.length, μ ++ [.lst xs]) else none
  | .nk kvs => if N ≤ μ.length then some (.loc μ.length, μ ++ [.dct kvs]) else none
theorem newPl_ok {r : R} {G0 H0 : Hp} {μ2 : Mem} (R' : Rel K ρ G H μ) (t' : TrS N ρ G0 H0 ρ G H) (d : RpR K ρ G H0 H v r) (e : newPl N r μ = some (x, μ2)) :
    ∃ ρ1, TrS N ρ G0 H0 ρ1 G H ∧ Rel K ρ1 G H μ2 ∧ (∀ n b, ρ n = some b → ρ1 n = some b) ∧ DvOk K ρ1 G v x := by
  have key : bindR N 0 r [none] μ = .next [some x] μ2 := by
    cases r with
    | dat d => cases e; rfl
    | loc n => cases e; rfl
    | nl xs =>
      simp only [newPl] at e
      by_cases h : N ≤ μ.length
      · rw [if_pos h] at e; cases e; exact if_pos h
      · rw [if_neg h] at e; cases e
    | nk xs =>
      simp only [newPl] at e
      by_cases h : N ≤ μ.length
      · rw [if_pos h] at e; cases e; exact if_pos h
      · rw [if_neg h] at e; cases e
  obtain ⟨ρ1, y, h1, h2, h3, h4, h5⟩ := bindR_ok R' t' d key
  cases h5
  exact ⟨ρ1, h1, h2, h3, h4⟩
abbrev NM := Nat → Env → Mem → Res (List DV)
def nNil : NM := fun _ _ μ => .ok [] μ
def nCons (f : EM) (g : NM) : NM := fun N δ μ => (f δ μ).bind fun r μ1 => match newPl N r μ1 with
  | none => .bad
  | some (x, μ2) => (g N δ μ2).bind fun xs μ3 => .ok (x :: xs) μ3
/-- what is given by items that may be new places -/
def SndN (K : PySem.W.Frag) (W : WX) (t : TA) (f : NM) : Prop := ∀ (N : Nat) (ρ : Pm) (G H : Hp) (σ : Slots) (δ : Env) (μ : Mem) (Q : List V → Hp → Prop), Rel K ρ G H μ → EnvOk K ρ G σ δ →
  (match f N δ μ with
    | .ok xs μ' => ∀ ρ' G' H' vs, TrS N ρ G H ρ' G' H' → Rel K ρ' G' H' μ' → (∀ n b, ρ n = some b → ρ' n = some b) → DvL K ρ' G' vs xs → Q vs H'
    | .exc x μ' => ∀ ρ' G' H' cls d, TrS N ρ G H ρ' G' H' → Rel K ρ' G' H' μ' → (∀ n b, ρ n = some b → ρ' n = some b) → XcOk K G' H' x cls d → W cls d σ H'
    | .bad => False) → t σ H Q
theorem snd_nnil : SndN K W tNil nNil := fun N ρ G H σ δ μ Q R E hp => hp ρ G H [] (TrS.refl _ _ _ _) R (fun _ _ q => q) .nil
theorem snd_ncons {t : TE} {ts : TA} {f : EM} {g : NM} (h : SndE K W t f) (hs : SndN K W ts g) : SndN K W (tCons t ts) (nCons f g) := fun N ρ G H σ δ μ Q R E hp => by
  unfold nCons at hp
  refine h ρ G H σ δ μ _ R E ?_
  cases e : f δ μ with
  | bad => rw [e] at hp; exact hp
  | exc x μ' => rw [e] at hp; exact fun G' H' cls d t' R' q => hp ρ G' H' cls d t'.toS R' (fun _ _ q => q) q
  | ok r μ1 =>
    rw [e] at hp
    intro G1 H1 v t1 R1 d1
    simp only [Res.bind_ok] at hp
    cases e2 : newPl N r μ1 with
    | none => rw [e2] at hp; exact hp.elim
    | some q =>
      obtain ⟨x, μ2⟩ := q
      rw [e2] at hp
      obtain ⟨ρ1, T1, R2, up, dx⟩ := newPl_ok R1 (t1.toS (N := N)) d1 e2
      refine hs N ρ1 G1 H1 σ δ μ2 _ R2 ((E.mono t1.exG).up (Ex.refl _) up) ?_
      simp only at hp
      cases e3 : g N δ μ2 with
      | bad => rw [e3] at hp; exact hp
      | exc z μ3 =>
        rw [e3] at hp
        exact fun ρ' G' H' cls d t' R' up' q => hp ρ' G' H' cls d (T1.trans t') R' (fun n b z => up' n b (up n b z)) q
      | ok xs μ3 =>
        rw [e3] at hp
        exact fun ρ' G' H' vs t' R' up' dl => hp ρ' G' H' (v :: vs) (T1.trans t') R' (fun n b z => up' n b (up n b z)) (.cons (dx.mono t'.exG up') dl)
def gDisp (i : Nat) (f : NM) : SM := fun N δ μ => match f N δ μ with
  | .ok xs μ1 => if xs.length ≤ sizeLine then bindR N i (.nl xs) δ μ1 else .bad
  | .exc x μ1 => .exc x δ μ1
  | .bad => .bad
theorem snd_disp {ta : TA} {f : NM} (i : Nat) (h : SndN K W ta f) : SndS K W (tAsg (tLst ta) (gName i)) (gDisp i f) := fun N ρ G H σ δ μ Dn R E hp => by
  refine h N ρ G H σ δ μ _ R E ?_
  unfold gDisp at hp
  cases e : f N δ μ with
  | bad => rw [e] at hp; exact hp
  | exc x μ' => rw [e] at hp; exact fun ρ' G' H' cls d t' R' up q => hp ρ' G' H' σ cls d t' R' (E.up t'.exG up) q
  | ok xs μ1 =>
    rw [e] at hp
    intro ρ' G' H' vs t' R' up dl
    simp only at hp
    by_cases c : xs.length ≤ sizeLine
    case neg => rw [if_neg c] at hp; exact hp.elim
    rw [if_pos c] at hp
    refine ⟨by rw [paired_len dl]; exact c, fun p hn => ?_⟩
    obtain ⟨n1, n2⟩ := fresh_ne R' hn
    obtain ⟨R2, t2⟩ := R'.lay (o := .lst vs) hn
    refine snd_bindR (σ := σ) i R2 (E.up t'.exG up) (t2.toS (N := N)) (G0 := G') (H0 := H') (r := .nl xs) ⟨p, vs, rfl, upd_same, dl, n1, n2, hn⟩ (PostS.shift t' hp)
/-! ### -x -/
def dNeg (x : DV) (μ : Mem) : Res R := match asI x with
  | some i => .ok (.dat (.int (-i))) μ
  | none => .bad
def eUn (g : DV → Mem → Res R) (f : EM) : EM := fun δ μ => (frzV f δ μ).bind fun x μ' => g x μ'
theorem snd_neg {ta : TE} {f : EM} (h : SndE K W ta f) : SndE K W (tUn (rU fun i => .int (-i)) ta) (eUn dNeg f) := fun ρ G H σ δ μ Q R E hp => by
  refine SndG.seq (t := ta) h.toV R E hp fun x μ1 G1 H1 v t1 R1 E1 d1 hp1 => ?_
  unfold dNeg at hp1
  split at hp1
  · rename_i i e
    exact ⟨i, asI_ok d1 e, hp1 G1 H1 _ t1 R1 (Rp.int _)⟩
  · exact hp1.elim
/-! ### constants of the text -/
def absL : List Value → Option (List V)
  | [] => some []
  | u :: us => match absV u with
    | none => none
    | some v => (absL us).map (v :: ·)
theorem relV_of_abs {u : Value} {v : V} (h : absV u = some v) : L2.RelV v u := by
  cases u with
  | none => cases h; rfl
  | bool b => cases h; rfl
  | int i t => cases h; exact ⟨t, rfl⟩
  | str s t => cases h; exact ⟨t, rfl⟩
  | bytes s t => cases h; exact ⟨t, rfl⟩
  | float s t => cases h; exact ⟨t, rfl⟩
  | ref a => cases h; rfl
  | type n => cases h; rfl
  | _ => cases h
theorem absL_ok : ∀ {us : List Value} {vs : List V}, absL us = some vs → Vals vs us
  | [], _, h => by cases h; exact .nil
  | u :: us, _, h => by
    simp only [absL] at h
    cases e : absV u with
    | none => rw [e] at h; cases h
    | some v =>
      rw [e] at h
      cases e2 : absL us with
      | none => rw [e2] at h; cases h
      | some vs => rw [e2] at h; cases h; exact .cons (relV_of_abs e) (absL_ok e2)
/-- a tuple of texts that the text holds -/
theorem rp_ktup {a : Addr} {oc : Option Addr} {its : Array Value} {n : Nat} {sl : Array (Option Value)} {ss : List Str} (hk : K.lookup a = some ⟨.type "tuple", oc, .seq its n, sl⟩) (hz : its.size ≤ sizeLine) (hv : absL its.toList = some (ss.map V.str)) (G : Hp) :
    Rp K G (.ref a) (.tup (ss.map D.str)) := by
  refine Rp.tup (vs := ss.map V.str) (.inr ⟨_, its, n, hk, rfl, rfl, hz, absL_ok hv⟩) ?_
  clear hv
  induction ss with
  | nil => exact .nil
  | cons s ss ih => exact .cons (.str s) ih
/-- x in d, d a dict of the text whose keys are texts -/
def rInKd (K : PySem.W.Frag) (d : Addr) (neg : Bool) : R2 := fun x y H Q => ∃ (z : Str) (r : Option Value), x = .str z ∧ y = .ref d ∧ PySem.W.nsIn K d z = some r ∧ Q (.bl (if neg = true then !r.isSome else r.isSome)) H
def eInK (neg : Bool) (ks : List Str) (f : EM) : EM := fun δ μ => (frzV f δ μ).bind fun x μ' => match asStr x with
  | some z => .ok (.dat (.bl (if neg = true then !(ks.any fun k => decide (k = z)) else ks.any fun k => decide (k = z)))) μ'
  | none => .bad
theorem snd_inKd {d : Addr} {ks : List Str} {te : TE} {f : EM} {neg : Bool} (hk : ∀ z, ∃ r, PySem.W.nsIn K d z = some r ∧ r.isSome = (ks.any fun k => decide (k = z))) (h : SndE K W te f) : SndE K W (tOp (rInKd K d neg) te (tC (.ref d))) (eInK neg ks f) := fun ρ G H σ δ μ Q R E hp => by
  refine SndG.seq (t := te) h.toV R E hp fun x μ1 G1 H1 v t1 R1 E1 d1 hp1 => ?_
  cases e : asStr x with
  | none => rw [e] at hp1; exact hp1.elim
  | some z =>
    rw [e] at hp1
    obtain ⟨r, h1, h2⟩ := hk z
    exact ⟨z, r, asStr_ok d1 e, rfl, h1, by rw [h2]; exact hp1 G1 H1 _ t1 R1 (Rp.bl _)⟩
theorem nsIn_keys {d : Addr} {es : Array DictEntry} {n : Nat} {ks : List Str} (hl : K.lookup d = some ⟨.type "dict", none, .dict es n, #[]⟩) (he : es.toList.map (fun e => match e.key with | .str x _ => some x | _ => none) = ks.map some) (z : Str) :
    ∃ r, PySem.W.nsIn K d z = some r ∧ r.isSome = (ks.any fun k => decide (k = z)) := by
  have key : ∀ (l : List DictEntry) (ks : List Str), l.map (fun e => match e.key with | .str x _ => some x | _ => none) = ks.map some →
      (∃ e, l.find? (·.key.isStr z) = some e ∧ (ks.any fun k => decide (k = z)) = true) ∨ (l.find? (·.key.isStr z) = none ∧ l.any (·.refKey) = false ∧ (ks.any fun k => decide (k = z)) = false) := by
    intro l
    induction l with
    | nil => intro ks h; cases ks with
      | nil => exact .inr ⟨rfl, rfl, rfl⟩
      | cons _ _ => cases h
    | cons e l ih =>
      intro ks h
      cases ks with
      | nil => cases h
      | cons k ks =>
        simp only [List.map_cons, List.cons.injEq] at h
        obtain ⟨h1, h2⟩ := h
        cases ek : e.key with
        | str x t =>
          rw [ek] at h1
          simp only [Option.some.injEq] at h1
          subst h1
          have es : e.key.isStr z = decide (x = z) := by
            rw [ek]
            show (x == z) = decide (x = z)
            by_cases c : x = z
            · subst c; simp
            · rw [decide_eq_false c]; exact beq_eq_false_iff_ne.mpr c
          by_cases c : x = z
          · refine .inl ⟨e, ?_, by simp [c]⟩
            rw [List.find?_cons_of_pos]
            rw [es]; exact decide_eq_true c
          · have q : ¬ (e.key.isStr z = true) := by rw [es]; simp [c]
            rw [List.find?_cons_of_neg (by simpa using q)]
            rcases ih ks h2 with ⟨f, f1, f2⟩ | ⟨f1, f2, f3⟩
            · exact .inl ⟨f, f1, by rw [List.any_cons, f2, Bool.or_true]⟩
            · refine .inr ⟨f1, ?_, by rw [List.any_cons, f3, decide_eq_false c]; rfl⟩
              rw [List.any_cons, f2, Bool.or_false]
              simp [DictEntry.refKey, ek]
        | _ => rw [ek] at h1; cases h1
  unfold PySem.W.nsIn
  rw [hl]
  rcases key es.toList ks he with ⟨e, h1, h2⟩ | ⟨h1, h2, h3⟩
  · simp only [h1]; exact ⟨_, rfl, by rw [h2]; rfl⟩
  · simp only [h1, h2]; exact ⟨none, rfl, by rw [h3]; rfl⟩
end
structure PMN (X : Cx) (W : WX) (es : List Expr) (ta : TA) (f : NM) : Prop where
  pe : PA X es ta
  sd : SndN X.K W ta f
section
variable {X : Cx} {W : WX} {pos p : Pos} {e a tg : Expr} {es : List Expr} {te ta : TE} {f fa : EM} {tA : TA} {fN : NM}
theorem sm_tgt {g : TG} {h : D → Env → Option Env} {ts : List Nat} (hg : PMG X tg g h ts) (he : PM X W e te f) (a1 : swapsWithSole [tg] e pos.line X.env = pure false := by rfl) (a2 : swappedStores [tg] e X.env = pure none := by rfl) (a3 : List.map (fun x => x.snd) (assignEach [tg] X.env) = [assign tg X.env] := by rfl) :
    PSM X W (.Assign [tg] e pos) (tAsg te g) (gTgt h f) := ⟨ps_asg he.pe hg.pg a1 a2 a3, snd_tgt hg.ok he.sd⟩
theorem n_nil : PMN X W [] tNil nNil := ⟨pa_nil, snd_nnil⟩
theorem n_cons (h : PM X W e te f) (hs : PMN X W es tA fN) (hst : starEach (e :: es) X.env = (false, eval e X.env) :: starEach es X.env := by rfl) : PMN X W (e :: es) (tCons te tA) (nCons f fN) := ⟨pa_cons h.pe hs.pe hst, snd_ncons h.sd hs.sd⟩
theorem sm_disp {x : Str} {q : Pos} (i : Nat) (hN : X.N.Nodup) (h : PMN X W es tA fN) (hi : X.N[i]? = some x := by rfl) (hx : Loc X.env.scope x := by first | exact Or.inl rfl | exact Or.inr rfl)
    (hf : X.fn x = true ∨ X.env.scope.names.lookup x = some .local := by first | exact .inl rfl | exact .inr rfl)
    (a1 : swapsWithSole [.Name x p] (.List es q) pos.line X.env = pure false := by rfl) (a2 : swappedStores [.Name x p] (.List es q) X.env = pure none := by rfl) (a3 : List.map (fun x => x.snd) (assignEach [.Name x p] X.env) = [assign (.Name x p) X.env] := by rfl) :
    PSM X W (.Assign [.Name x p] (.List es q) pos) (tAsg (tLst tA) (gName i)) (gDisp i fN) := ⟨ps_asg (pe_lst h.pe) (pg_name hN hi hx hf) a1 a2 a3, snd_disp i h.sd⟩
theorem pm_inKd {x : Str} {ks : List Str} {d : Addr} {es : Array DictEntry} {n : Nat} (Dd : KDict X.K X.w d es n) (hk : es.toList.map (fun e => match e.key with | .str x _ => some x | _ => none) = ks.map some) (hg : Gl X x) (hm : X.mg x = some (.ref d)) (ha : PM X W a ta fa)
    (hd : (x == ("__debug__" : Str)) = false := by decide) (hb : behindInMarks .In (.Name x p) = false := by rfl) : PM X W (.Compare a [.In] [.Name x p] pos) (tOp (rInKd X.K d false) ta (tC (.ref d))) (eInK false ks fa) :=
  ⟨pe_cmpR (op_in_kd Dd) ha.pe (pe_glob hg hm rfl hd) hb, snd_inKd (nsIn_keys Dd.at_ hk) ha.sd⟩
theorem pm_notInKd {x : Str} {ks : List Str} {d : Addr} {es : Array DictEntry} {n : Nat} (Dd : KDict X.K X.w d es n) (hk : es.toList.map (fun e => match e.key with | .str x _ => some x | _ => none) = ks.map some) (hg : Gl X x) (hm : X.mg x = some (.ref d)) (ha : PM X W a ta fa)
    (hd : (x == ("__debug__" : Str)) = false := by decide) (hb : behindInMarks .NotIn (.Name x p) = false := by rfl) : PM X W (.Compare a [.NotIn] [.Name x p] pos) (tOp (rInKd X.K d true) ta (tC (.ref d))) (eInK true ks fa) :=
  ⟨pe_cmpR (op_notIn_kd Dd) ha.pe (pe_glob hg hm rfl hd) hb, snd_inKd (nsIn_keys Dd.at_ hk) ha.sd⟩
theorem pm_neg (ha : PM X W a ta fa) : PM X W (.UnaryOp .USub a pos) (tUn (rU fun i => .int (-i)) ta) (eUn dNeg fa) := ⟨pe_un un_neg ha.pe, snd_neg ha.sd⟩
end
end DL
namespace DL
open PySem PySem.Spec PyProof.Rows L2
/-! ### the rules again, with the frame named (so that they hold inside a comprehension) -/
section
variable {X : Cx} {W : WX} {pos p p2 q tpos apos cpos : Pos} {a b e o i : Expr} {es : List Expr} {lo hi : Option Expr} {te ta tb to ti : TE} {tA : TA} {fA : AM} {tl th : TO} {f fa fb fo fi : EM} {fl fh : OM}
theorem op_eqK (K : PySem.W.Frag) (h : X.A.units + 64 < cLine) (hK : X.K = K := by rfl) : OpR X (compareOp .Eq) (rEqQ K) := by subst hK; exact op_eqQ h
theorem op_neK (K : PySem.W.Frag) (h : X.A.units + 64 < cLine) (hK : X.K = K := by rfl) : OpR X (compareOp .NotEq) (rNeQ K) := by subst hK; exact op_neQ h
theorem op_inK (K : PySem.W.Frag) (hK : X.K = K := by rfl) : OpR X (compareOp .In) (rIn K false) := by subst hK; exact op_in_seq
theorem op_notInK (K : PySem.W.Frag) (hK : X.K = K := by rfl) : OpR X (compareOp .NotIn) (rIn K true) := by subst hK; exact op_notIn_seq
theorem pm_cmpK {op : CmpOp} {r : R2} {g : DV → DV → Mem → Res R} {K : PySem.W.Frag} (ho : OpR X (compareOp op) r) (hd : OpD K r g) (ha : PM X W a ta fa) (hb : PM X W b tb fb) (hm : behindInMarks op b = false) (hK : X.K = K := by rfl) : PM X W (.Compare a [op] [b] pos) (tOp r ta tb) (eOp g fa fb) := by
  subst hK; exact pm_cmp ho hd ha hb hm
theorem pt_cmpK {op : CmpOp} {r : R2} {g : DV → DV → Mem → Res R} {K : PySem.W.Frag} (ho : OpR X (compareOp op) r) (hd : OpD K r g) (ha : PM X W a ta fa) (hb : PM X W b tb fb) (hm : behindInMarks op b = false) (hK : X.K = K := by rfl) : PMT X W (.Compare a [op] [b] pos) (tTest (tOp r ta tb)) (tmB (eOp g fa fb)) := by
  subst hK; exact pt_cmp ho hd ha hb hm
theorem call_lenK (K : PySem.W.Frag) (hK : X.K = K := by rfl) : CallR X (.builtin "len") (fun xs H Q => ∃ x n, xs = [x] ∧ LenV K x H n ∧ Q (V.int ↑n) H) := by subst hK; exact call_len
theorem call_list_ofK (K : PySem.W.Frag) (hK : X.K = K := by rfl) : CallR X (.type "list") (fun xs H Q => ∃ p ys, xs = [V.ref p] ∧ (SqL K H p ys ∨ SqT K H p ys) ∧ ∀ (l : Addr), H l = none → Q (V.ref l) (upd H l (HO.lst ys))) := by subst hK; exact call_list_of
theorem call_tuple_ofK (K : PySem.W.Frag) (hK : X.K = K := by rfl) : CallR X (.type "tuple") (fun xs H Q => ∃ p ys, xs = [V.ref p] ∧ ((SqL K H p ys ∧ ∀ (l : Addr), H l = none → Q (V.ref l) (upd H l (HO.tup ys))) ∨ SqT K H p ys ∧ Q (V.ref p) H)) := by subst hK; exact call_tuple_of
theorem cr_allK (K : PySem.W.Frag) (h : X.calm = true) (hK : X.K = K := by rfl) : CallR X (.builtin "all") (rAll K) := by subst hK; exact cr_all h
theorem cr_anyK (K : PySem.W.Frag) (h : X.calm = true) (hK : X.K = K := by rfl) : CallR X (.builtin "any") (rAny K) := by subst hK; exact cr_any h
theorem cr_reprK (K : PySem.W.Frag) {k : Nat} (h : Room k X.A) (hg : X.A.guards = some []) (hK : X.K = K := by rfl) : CallR X (.builtin "repr") (rRepr K) := by subst hK; exact cr_repr h hg
theorem pm_cbK {x : Str} {id : String} {r : List V → Hp → VK → Prop} {g : List DV → Mem → Res R} {K : PySem.W.Frag} (hr : CallR X (.builtin id) r) (hd : CallD K r g) (hg : Gl X x) (hm : X.mg x = none) (hv : bootBuiltins x = some (.builtin id)) (ha : PMA X W (e :: es) tA fA) (hK : X.K = K := by rfl)
    (hn : x ≠ "__name__" := by decide) (hdb : (x == ("__debug__" : Str)) = false := by decide) (he : starEach (e :: es) X.env = (false, eval e X.env) :: starEach es X.env := by rfl) (hpl : (backTo pos (starEach es X.env)).any (·.1) = false := by rfl) :
    PM X W (.Call (.Name x p) (e :: es) [] pos) (tCB r tA) (eCB g fA) := by subst hK; exact pm_cb hr hd hg hm hv ha hn hdb he hpl
theorem pm_ctK {x : Str} {T : String} {r : List V → Hp → VK → Prop} {g : List DV → Mem → Res R} {K : PySem.W.Frag} (hr : CallR X (.type T) r) (hd : CallD K r g) (hg : Gl X x) (hm : X.mg x = none) (hv : bootBuiltins x = some (.type T)) (ha : PMA X W (e :: es) tA fA) (hK : X.K = K := by rfl)
    (hn : x ≠ "__name__" := by decide) (hdb : (x == ("__debug__" : Str)) = false := by decide) (he : starEach (e :: es) X.env = (false, eval e X.env) :: starEach es X.env := by rfl) (hpl : (backTo pos (starEach es X.env)).any (·.1) = false := by rfl) :
    PM X W (.Call (.Name x p) (e :: es) [] pos) (tCB r tA) (eCB g fA) := by subst hK; exact pm_ct hr hd hg hm hv ha hn hdb he hpl
theorem pm_callK {P : Program} {w : World} {K : PySem.W.Frag} {mg : Str → Option Value} {base : Heap} {cx : CXT} {k n : Nat} {x : Str} {F : List DV → Mem → Res R} (Fn : FnD P w K mg base cx k x n F) (hr : Room k X.A) (hgd : X.A.guards = some []) (hg : Gl X x)
    (hx : ∀ σ, PassesAt cx X σ (EW W σ)) (ha : PMA X W (e :: es) tA fA) (h1 : X.prog = P := by rfl) (h2 : X.w = w := by rfl) (h3 : X.K = K := by rfl) (h4 : X.mg = mg := by rfl) (h5 : X.base = base := by rfl) (hdb : (x == ("__debug__" : Str)) = false := by decide)
    (he : starEach (e :: es) X.env = (false, eval e X.env) :: starEach es X.env := by rfl) (hpl : (backTo pos (starEach es X.env)).any (·.1) = false := by rfl) :
    PM X W (.Call (.Name x p) (e :: es) [] pos) (tCallSD (spF K n F) [] (EW W) tA) (eCB F fA) := by subst h1 h2 h3 h4 h5; exact pm_call Fn hr hgd hg hx ha hdb he hpl
theorem pm_slK (K : PySem.W.Frag) (h : PM X W e te f) (hl : PMO X W lo tl fl) (hh : PMO X W hi th fh) (hK : X.K = K := by rfl) : PM X W (.Subscript e (.Slice lo hi none p2) pos) (tSl (rSl K) te tl th) (eSl f fl fh) := by subst hK; exact pm_sl h hl hh
theorem pm_addK (K : PySem.W.Frag) (ha : PM X W a ta fa) (hb : PM X W b tb fb) (hK : X.K = K := by rfl) : PM X W (.BinOp a .Add b pos) (tOp (rPlus K) ta tb) (eOp dAdd fa fb) := by subst hK; exact pm_add ha hb
theorem pm_idxK (K : PySem.W.Frag) (ha : PM X W a ta fa) (hb : PM X W b tb fb) (hs : PlainIx b) (hK : X.K = K := by rfl) : PM X W (.Subscript a b pos) (tOp (rIx K) ta tb) (eOp dIx fa fb) := by subst hK; exact pm_idx ha hb hs
theorem mi_seqK (K : PySem.W.Frag) {tg : Expr} (h : PM X W e te f) (hK : X.K = K := by rfl) : PMI X W tg e (iSeq K te) (imSeq f) := by subst hK; exact mi_seq h
theorem mi_enumK (K : PySem.W.Frag) {elts : List Expr} {kk : Nat} (hg : Gl X "enumerate") (hm : X.mg "enumerate" = none) (h : PMA X W [e] tA fA) (hK : X.K = K := by rfl) (hs : starEach [e] X.env = [(false, eval e X.env)] := by rfl) : PMI X W (.Tuple elts kk tpos) (.Call (.Name "enumerate" p) [e] [] pos) (iEnumS K tA) (imEnum fA) := by subst hK; exact mi_enum hg hm h hs
theorem mt_extK (K : PySem.W.Frag) (hK : X.K = K := by rfl) : MtM X "list.extend" (rExt K) := by subst hK; exact mt_ext
theorem pm_bmK (K : PySem.W.Frag) {name : Str} {T id : String} {r : V → List V → Hp → VK → Prop} {c : DV → Mem → Bool} {g : DV → List DV → Mem → Res R} (hp : PlainAttrs T) (hsl : Slot T name id) (hty : typeOf (Value.builtin id) = pure (Value.type "method_descriptor")) (hm : MtR X id r) (hT : TyD K T c) (hd : MtD K r g) (ho : PM X W o to f) (ha : PMA X W (e :: es) tA fA) (hK : X.K = K := by rfl)
    (h1 : attributeBase o name X.env (eval o X.env) = eval o X.env := by rfl)
    (h2 : (((((backTo cpos (starEach (e :: es) X.env)).all fun x => !x.fst) && (backToKw cpos (keywordEach [] X.env)).all fun x => x.fst.isSome) && decide (((e :: es).length + ([] : List Keyword).length + if ([] : List Keyword).isEmpty = true then 0 else 1) < 30)) = true) := by rfl)
    (h3 : (apos.endLine == cpos.line) = true := by rfl) (h4 : starEach (e :: es) X.env = (false, eval e X.env) :: starEach es X.env := by rfl) (h5 : ((backTo cpos (starEach es X.env)).any fun x => x.fst) = false := by rfl) :
    PM X W ((o.Attribute name apos).Call (e :: es) [] cpos) (tBM K T r to tA) (eBM c g f fA) := by subst hK; exact pm_bm hp hsl hty hm hT hd ho ha h1 h2 h3 h4 h5
theorem pm_bm0K (K : PySem.W.Frag) {name : Str} {T id : String} {r : V → List V → Hp → VK → Prop} {c : DV → Mem → Bool} {g : DV → List DV → Mem → Res R} (hp : PlainAttrs T) (hsl : Slot T name id) (hty : typeOf (Value.builtin id) = pure (Value.type "method_descriptor")) (hm : MtR X id r) (hT : TyD K T c) (hd : MtD K r g) (ho : PM X W o to f) (hK : X.K = K := by rfl)
    (h1 : attributeBase o name X.env (eval o X.env) = eval o X.env := by rfl) (h3 : (apos.endLine == cpos.line) = true := by rfl) :
    PM X W ((o.Attribute name apos).Call [] [] cpos) (tBM0 K T r to) (eBM0 c g f) := by subst hK; exact pm_bm0 hp hsl hty hm hT hd ho h1 h3
theorem pm_inKdK {K : PySem.W.Frag} {w : World} {x : Str} {ks : List Str} {d : Addr} {es : Array DictEntry} {n : Nat} (Dd : KDict K w d es n) (hk : es.toList.map (fun e => match e.key with | .str x _ => some x | _ => none) = ks.map some) (hg : Gl X x) (hm : X.mg x = some (.ref d)) (ha : PM X W a ta fa) (hK : X.K = K := by rfl) (hw : X.w = w := by rfl)
    (hd : (x == ("__debug__" : Str)) = false := by decide) (hb : behindInMarks .In (.Name x p) = false := by rfl) : PM X W (.Compare a [.In] [.Name x p] pos) (tOp (rInKd K d false) ta (tC (.ref d))) (eInK false ks fa) := by subst hK hw; exact pm_inKd Dd hk hg hm ha hd hb
theorem pm_notInKdK {K : PySem.W.Frag} {w : World} {x : Str} {ks : List Str} {d : Addr} {es : Array DictEntry} {n : Nat} (Dd : KDict K w d es n) (hk : es.toList.map (fun e => match e.key with | .str x _ => some x | _ => none) = ks.map some) (hg : Gl X x) (hm : X.mg x = some (.ref d)) (ha : PM X W a ta fa) (hK : X.K = K := by rfl) (hw : X.w = w := by rfl)
    (hd : (x == ("__debug__" : Str)) = false := by decide) (hb : behindInMarks .NotIn (.Name x p) = false := by rfl) : PM X W (.Compare a [.NotIn] [.Name x p] pos) (tOp (rInKd K d true) ta (tC (.ref d))) (eInK true ks fa) := by subst hK hw; exact pm_notInKd Dd hk hg hm ha hd hb
theorem pt_inKdK {K : PySem.W.Frag} {w : World} {x : Str} {ks : List Str} {d : Addr} {es : Array DictEntry} {n : Nat} (Dd : KDict K w d es n) (hk : es.toList.map (fun e => match e.key with | .str x _ => some x | _ => none) = ks.map some) (hg : Gl X x) (hm : X.mg x = some (.ref d)) (ha : PM X W a ta fa) (hK : X.K = K := by rfl) (hw : X.w = w := by rfl)
    (hd : (x == ("__debug__" : Str)) = false := by decide) (hb : behindInMarks .In (.Name x p) = false := by rfl) : PMT X W (.Compare a [.In] [.Name x p] pos) (tTest (tOp (rInKd K d false) ta (tC (.ref d)))) (tmB (eInK false ks fa)) := by
  subst hK hw; exact ⟨pt_cmpR (op_in_kd Dd) ha.pe (pe_glob hg hm rfl hd) hb, snd_tmB (snd_inKd (nsIn_keys Dd.at_ hk) ha.sd) fun _ _ _ h => h⟩
theorem pt_notInKdK {K : PySem.W.Frag} {w : World} {x : Str} {ks : List Str} {d : Addr} {es : Array DictEntry} {n : Nat} (Dd : KDict K w d es n) (hk : es.toList.map (fun e => match e.key with | .str x _ => some x | _ => none) = ks.map some) (hg : Gl X x) (hm : X.mg x = some (.ref d)) (ha : PM X W a ta fa) (hK : X.K = K := by rfl) (hw : X.w = w := by rfl)
    (hd : (x == ("__debug__" : Str)) = false := by decide) (hb : behindInMarks .NotIn (.Name x p) = false := by rfl) : PMT X W (.Compare a [.NotIn] [.Name x p] pos) (tTest (tOp (rInKd K d true) ta (tC (.ref d)))) (tmB (eInK true ks fa)) := by
  subst hK hw; exact ⟨pt_cmpR (op_notIn_kd Dd) ha.pe (pe_glob hg hm rfl hd) hb, snd_tmB (snd_inKd (nsIn_keys Dd.at_ hk) ha.sd) fun _ _ _ h => h⟩
theorem pg_tpK (K : PySem.W.Frag) {k n : Nat} {gs : TGs} {hs : List D → Env → Option Env} {ts : List Nat} (hc : X.calm = true) (h : PMGs X es gs hs ts) (hK : X.K = K := by rfl) (h1 : (assignEach es X.env).length = n := by rfl) (h2 : List.findIdx? (fun x => x.fst) (assignEach es X.env) = none := by rfl) :
    PMG X (.Tuple es k pos) (gTup K n gs) (tgTup n hs) ts := by subst hK; exact pg_tp hc h h1 h2
theorem sm_augSK (K : PySem.W.Frag) (ho : PM X W o to fo) (hi : PM X W i ti fi) (he : PM X W e te f) (hK : X.K = K := by rfl)
    (hs : ∀ (ov iv new : Value), augStore i ov iv new = (do
                      holding [new, ov, iv] (setItem ov iv new)
                      release [new, ov, iv] []
                      pure Flow.next) := by intro _ _ _; rfl) :
    PSM X W (.AugAssign (o.Subscript i tpos) .Add e pos) (tAugS to ti te (rGetL K) (ipI fun i j => i + j) rSetL) (gAugS (fun i j => i + j) fo fi f) := by subst hK; exact sm_augS ho hi he hs
end
end DL
/-! Own classes: instances as data, methods, fields, made by a call. -/
namespace DL
open PySem PySem.Spec PyProof.Rows L2
section
variable {X : Cx} {cx : CXT} {k : Nat} {f C : Addr} {fd : FuncData} {ps : List Str} {sp : Sp} {E : L2.St → XK} {x m : Str} {p pos apos : Pos} {e o : Expr} {es : List Expr} {ta : TE} {t : TA}
def tMethG (C : Addr) (m : Str) (sp : Sp) (E : L2.St → XK) (ta : TE) (t : TA) : TE := fun σ H Q => ta σ H fun x H1 => ∃ a dx fs, x = .ref a ∧ H1 a = some (.ins C dx fs) ∧ fs.lookup m = none ∧
  t σ H1 fun vs H2 => sp (x :: vs) H2 Q (E σ)
theorem pe_methG {pl : Sem Bool} (he : PE X o ta) (c : Cls X.K C) (hm : Meth X.K C m f) (F : FnG X.prog X.w X.K X.mg X.base cx k f fd ps sp) (hr : Room k X.A) (hgd : X.A.guards = some []) (hb : Binds X.K fd ps []) (hx : ∀ σ, PassesAt cx X σ (E σ)) (ha : PA X (e :: es) t)
    (hst : starEach (e :: es) X.env = (false, eval e X.env) :: starEach es X.env := by rfl) (hpl : (backTo pos (starEach es X.env)).any (·.1) = false := by rfl)
    (ht : eval (.Call (.Attribute o m apos) (e :: es) [] pos) X.env = (do
      let ov ← eval o X.env
      standAt apos.atName
      let (f, first) ← holding [ov] (getMethod ov m pl)
      callWith pos f first (backTo pos (starEach (e :: es) X.env)) (backToKw pos (keywordEach [] X.env))) := by rfl) :
    PE X (.Call (.Attribute o m apos) (e :: es) [] pos) (tMethG C m sp E ta t) := by
  refine ⟨fun pins s σ H Q I h => ?_⟩
  refine PySem.W.methodCall_KW (pl := pl) (thn (he.run pins s σ H _ I h) fun u s1 ⟨x, H1, I1, rx, a, dx, fs, ex, ea, l, q⟩ => ?_) ht
  subst ex
  obtain rfl : u = Value.ref a := rx
  refine getmeth_ok I1 ea c hm l ?_
  refine PySem.W.callWith_K (first := [.ref a]) (h₀ := X.base) I.ok.mod.kin hm.kp (thn (ha.run pos pins s1 σ H1 _ I1 q) fun us s2 ⟨vs, H2, I2, r, q2⟩ => ⟨I2.kIn, ?_⟩) hst hpl
  exact run_fnG (us := .ref a :: us) (vs := .ref a :: vs) F hr hgd hb .nil (hx σ) I2 (.cons rfl r) (by rw [List.append_nil]; exact q2)
theorem pe_meth0G {pl : Sem Bool} (he : PE X o ta) (c : Cls X.K C) (hm : Meth X.K C m f) (F : FnG X.prog X.w X.K X.mg X.base cx k f fd ps sp) (hr : Room k X.A) (hgd : X.A.guards = some []) (hb : Binds X.K fd ps []) (hx : ∀ σ, PassesAt cx X σ (E σ))
    (ht : eval (.Call (.Attribute o m apos) [] [] pos) X.env = (do
      let ov ← eval o X.env
      standAt apos.atName
      let (f, first) ← holding [ov] (getMethod ov m pl)
      callWith pos f first (backTo pos (starEach [] X.env)) (backToKw pos (keywordEach [] X.env))) := by rfl) :
    PE X (.Call (.Attribute o m apos) [] [] pos) (tMethG C m sp E ta tNil) := by
  refine ⟨fun pins s σ H Q I h => ?_⟩
  refine PySem.W.methodCall_KW (pl := pl) (thn (he.run pins s σ H _ I h) fun u s1 ⟨x, H1, I1, rx, a, dx, fs, ex, ea, l, q⟩ => ?_) ht
  subst ex
  obtain rfl : u = Value.ref a := rx
  refine getmeth_ok I1 ea c hm l ?_
  refine PySem.W.callWith_K0 I1.kIn hm.kp ?_
  exact run_fnG (us := [.ref a]) (vs := [.ref a]) F hr hgd hb .nil (hx σ) I1 (.cons rfl .nil) (by rw [List.append_nil]; exact q)
/-- f() -/
theorem pe_callG0 (F : FnG X.prog X.w X.K X.mg X.base cx k f fd ps sp) (hr : Room k X.A) (hgd : X.A.guards = some []) (hg : Gl X x) (hm : X.mg x = some (.ref f)) (hk : PySem.W.keepIn X.K (.ref f) = true) (hb : Binds X.K fd ps [])
    (hx : ∀ σ, PassesAt cx X σ (E σ)) (hdb : (x == ("__debug__" : Str)) = false := by decide) : PE X (.Call (.Name x p) [] [] pos) (tCallSD sp [] E tNil) := by
  refine ⟨fun pins s σ H Q I h => wpAny_Call_Name_kw (ld_glob I hg hm ?_ hdb)⟩
  exact PySem.W.callWith_K0 I.kIn hk (run_fnG (us := []) (vs := []) F hr hgd hb .nil (hx σ) I .nil h)
/-! ### C(..) -/
def tMakeG (C : Addr) (sp : Sp) (E : L2.St → XK) (t : TA) : TE := fun σ H Q => t σ H fun vs H1 => ∀ x dx, H1 x = none → H1 dx = none → dx ≠ x →
  sp (.ref x :: vs) (upd (upd H1 dx (.own x)) x (.ins C dx [])) (fun v H2 => v = .non ∧ Q (.ref x) H2) (E σ)
theorem run_makeG {pins : List (Addr × Obj)} {σ : L2.St} {H : Hp} {s : Shared} {Q : VK} {us : List Value} {vs : List V} (M : Mk X.K C f) (F : FnG X.prog X.w X.K X.mg X.base cx k f fd ps sp) (hr : Room (k + 1) X.A) (hgd : X.A.guards = some []) (hb : Binds X.K fd ps [])
    (hx : PassesAt cx X σ (E σ)) (I : Inv X pins σ H s) (r : Vals vs us)
    (h : ∀ x dx, H x = none → H dx = none → dx ≠ x → sp (.ref x :: vs) (upd (upd H dx (.own x)) x (.ins C dx [])) (fun v H2 => v = .non ∧ Q (.ref x) H2) (E σ)) :
    wpAny (model X.prog X.w) X.A (call (.ref C) us) (EP X pins σ Q) X.xe s := by
  have hq := h (s.heap.objs.size + 1) s.heap.objs.size (I.hok.fresh (Nat.le_succ _)) (I.hok.fresh (Nat.le_refl _)) (Nat.ne_of_lt (Nat.lt_succ_self _))
  have I2 := Inv.made (C := C) I
  have r2 : Vals (V.ref (s.heap.objs.size + 1) :: vs) (Value.ref (s.heap.objs.size + 1) :: us) := .cons rfl r
  have hl : (Value.ref (s.heap.objs.size + 1) :: us).length = ps.length := by
    have e := r2.length
    rw [F.len _ _ _ _ hq] at e
    exact e.symm
  have bd := hb _ (Value.ref (s.heap.objs.size + 1) :: us) I2.kIn (by rw [List.append_nil]; exact hl)
  rw [List.append_nil] at bd
  refine wpAny_call (make_map (f := f) I.kIn M.makes M.init (beq_iff_eq.mp M.fn) (codeAny_mono (F.run _ X.stack _ _ ⟨Value.ref (s.heap.objs.size + 1) :: us, []⟩ (Value.ref (s.heap.objs.size + 1) :: us) _ _ (E σ) (hr.make C us []) ?_
    (I2.env0.make C us []) bd r2 hq) fun r s' hq' => ?_))
  · exact hgd
  cases r with
  | error e => exact hx pins _ _ e s' I2 hq'
  | ok fl =>
    cases fl with
    | ret u =>
      obtain ⟨v, H', I3, rv, ev, q3⟩ := I2.after hq'
      subst ev
      exact ⟨rv, ⟨V.ref (s.heap.objs.size + 1), H', I3, rfl, q3⟩⟩
    | next => exact False.elim hq'
    | brk => exact False.elim hq'
    | cont => exact False.elim hq'
theorem pe_makeG (M : Mk X.K C f) (F : FnG X.prog X.w X.K X.mg X.base cx k f fd ps sp) (hr : Room (k + 1) X.A) (hgd : X.A.guards = some []) (hg : Gl X x) (hm : X.mg x = some (.ref C)) (hb : Binds X.K fd ps []) (hx : ∀ σ, PassesAt cx X σ (E σ))
    (ha : PA X (e :: es) t) (hdb : (x == ("__debug__" : Str)) = false := by decide) (he : starEach (e :: es) X.env = (false, eval e X.env) :: starEach es X.env := by rfl) (hpl : (backTo pos (starEach es X.env)).any (·.1) = false := by rfl) :
    PE X (.Call (.Name x p) (e :: es) [] pos) (tMakeG C sp E t) := by
  refine ⟨fun pins s σ H Q I h => ?_⟩
  refine wpAny_Call_Name_kw (ld_glob I hg hm ?_ hdb)
  refine PySem.W.callWith_K (h₀ := X.base) I.ok.mod.kin M.kp (thn (ha.run pos pins s σ H _ I h) fun us s1 ⟨vs, H1, I1, r, q⟩ => ⟨I1.kIn, ?_⟩) he hpl
  exact run_makeG M F hr hgd hb (hx σ) I1 r q
end
end DL
/-! Own classes over the plain functions. -/
namespace DL
open PySem PySem.Spec PyProof.Rows L2
/-- an instance: its class and its fields -/
def insAt (μ : Mem) : DV → Option (Str × List (Str × DV))
  | .dat (.ins nm fs) => some (nm, fs.map fun p => (p.1, .dat p.2))
  | .loc n => match μ[n]? with
    | some (.ins nm fs) => some (nm, fs)
    | _ => none
  | _ => none
theorem ClsAt.uniq {K : PySem.W.Frag} {nm : Str} {C C' : Addr} (a : ClsAt K nm C) (b : ClsAt K nm C') : C = C' := by
  unfold ClsAt at a b; rw [a] at b; cases b; rfl
section
variable {K : PySem.W.Frag} {W : WX} {ρ : Pm} {G H : Hp} {μ : Mem} {σ : Slots} {δ : Env}
theorem dvl_dat {vs : List V} {ds : List D} (h : RpL K G vs ds) : DvL K ρ G vs (ds.map DV.dat) := by
  induction h using RpL.rec (motive_1 := fun _ _ _ => True) <;> first | trivial | exact .nil | (rename_i a b c d; exact .cons a d)
theorem insAt_ok {v : V} {x : DV} {nm : Str} {fs : List (Str × DV)} (R : Rel K ρ G H μ) (h : DvOk K ρ G v x) (e : insAt μ x = some (nm, fs)) :
    ∃ a dx C vs, v = .ref a ∧ H a = some (.ins C dx vs) ∧ ClsAt K nm C ∧ vs.map (·.1) = fs.map (·.1) ∧ DvL K ρ G (vs.map (·.2)) (fs.map (·.2)) := by
  cases x with
  | dat d =>
    cases d with
    | ins nm' ds =>
      cases e
      cases h with
      | ins c h1 h2 h3 h4 =>
        refine ⟨_, _, _, _, rfl, R.ex _ _ h1, c, by rw [h3]; simp, ?_⟩
        have := dvl_dat (ρ := ρ) h4
        rw [List.map_map] at this ⊢
        exact this
    | _ => cases e
  | loc n =>
    obtain ⟨a, rfl, q⟩ := h
    unfold insAt at e
    match em : μ[n]? with
    | none => simp only [em] at e; cases e
    | some (.lst _) => simp only [em] at e; cases e
    | some (.dct _) => simp only [em] at e; cases e
    | some .own => simp only [em] at e; cases e
    | some .gone => simp only [em] at e; cases e
    | some (.ins nm' fs') =>
      simp only [em] at e; cases e
      obtain ⟨_, b, dx, C, vs, m, hm, h1, h2, c, h4, h5, h6⟩ := R.pl n _ em
      rw [q] at h1; cases h1
      exact ⟨_, dx, C, vs, rfl, h2, c, h5, h6⟩
theorem look_none {α β : Type} {m : Str} : ∀ {vs : List (Str × α)} {fs : List (Str × β)}, vs.map (·.1) = fs.map (·.1) → fs.lookup m = none → vs.lookup m = none
  | [], [], _, _ => rfl
  | (a, x) :: vs, (b, y) :: fs, h, e => by
    simp only [List.map_cons, List.cons.injEq] at h
    obtain ⟨rfl, h⟩ := h
    simp only [List.lookup] at e ⊢
    cases q : m == a with
    | true => rw [q] at e; cases e
    | false => rw [q] at e; exact look_none h e
  | [], _ :: _, h, _ => by simp at h
  | _ :: _, [], h, _ => by simp at h
theorem look_some {m : Str} : ∀ {vs : List (Str × V)} {fs : List (Str × DV)} {y : DV}, vs.map (·.1) = fs.map (·.1) → DvL K ρ G (vs.map (·.2)) (fs.map (·.2)) → fs.lookup m = some y → ∃ v, vs.lookup m = some v ∧ DvOk K ρ G v y
  | [], [], _, _, _, e => by cases e
  | (a, x) :: vs, (b, y) :: fs, z, h, d, e => by
    simp only [List.map_cons, List.cons.injEq] at h d
    obtain ⟨rfl, h⟩ := h
    cases d with
    | cons d1 d2 =>
      simp only [List.lookup] at e ⊢
      cases q : m == a with
      | true => rw [q] at e; cases e; exact ⟨_, rfl, d1⟩
      | false => rw [q] at e; exact look_some h d2 e
  | [], _ :: _, _, h, _, _ => by simp at h
  | _ :: _, [], _, h, _, _ => by simp at h
/-! ### methods -/
def isI (nm m : Str) (x : DV) (μ : Mem) : Bool := match insAt μ x with
  | some (nm', fs) => decide (nm' = nm) && (fs.lookup m).isNone
  | none => false
def eMeth (nm m : Str) (F : List DV → Mem → Res R) (f : EM) (fa : AM) : EM := fun δ μ => (frzV f δ μ).bind fun x μ1 => if isI nm m x μ1 = true then (fa δ μ1).bind fun xs μ2 => F (x :: xs) μ2 else .bad
theorem isI_ok {nm m : Str} {v : V} {x : DV} {C : Addr} (R : Rel K ρ G H μ) (h : DvOk K ρ G v x) (c : ClsAt K nm C) (e : isI nm m x μ = true) : ∃ a dx vs, v = .ref a ∧ H a = some (.ins C dx vs) ∧ vs.lookup m = none := by
  unfold isI at e
  cases q : insAt μ x with
  | none => rw [q] at e; cases e
  | some p =>
    obtain ⟨nm', fs⟩ := p
    rw [q] at e
    simp only [Bool.and_eq_true, decide_eq_true_eq] at e
    obtain ⟨rfl, e⟩ := e
    obtain ⟨a, dx, C', vs, h1, h2, c', h3, h4⟩ := insAt_ok R h q
    cases c.uniq c'
    exact ⟨a, dx, vs, h1, h2, look_none h3 (by simpa using e)⟩
def tMethN (K : PySem.W.Frag) (nm m : Str) (sp : Sp) (E : L2.St → XK) (ta : TE) (t : TA) : TE := fun σ H Q => ∃ C, ClsAt K nm C ∧ tMethG C m sp E ta t σ H Q
theorem snd_meth {nm m : Str} {F : List DV → Mem → Res R} {n : Nat} {C : Addr} {to : TE} {fo : EM} {ta : TA} {fa : AM} (c : ClsAt K nm C) (ho : SndE K W to fo) (ha : SndA K W ta fa) (hn : ∀ xs μ, F xs μ ≠ .bad → xs.length = n) :
    SndE K W (tMethN K nm m (spF K n F) (EW W) to ta) (eMeth nm m F fo fa) := fun ρ G H σ δ μ Q R E hp => by
  refine ⟨C, c, ?_⟩
  refine SndG.seq (t := to) ho.toV R E hp fun x μ1 G1 H1 v t1 R1 E1 d1 hp1 => ?_
  by_cases hc : isI nm m x μ1 = true
  case neg => rw [if_neg hc] at hp1; exact hp1.elim
  rw [if_pos hc] at hp1
  obtain ⟨a, dx, vs, rfl, ha', hl⟩ := isI_ok R1 d1 c hc
  refine ⟨a, dx, vs, rfl, ha', hl, ?_⟩
  refine SndG.seq (t := ta) ha R1 E1 (hp1.shiftE t1) fun xs μ2 G2 H2 ws t2 R2 E2 d2 hp2 => ?_
  have hp3 := hp2.shiftE t2
  have hb : F (x :: xs) μ2 ≠ .bad := fun e => by rw [e] at hp3; exact hp3
  refine ⟨by have := hn _ _ hb; simp only [List.length_cons] at this ⊢; rw [paired_len d2]; exact this, ρ, G2, μ2, x :: xs, R2, .cons (d1.mono t2.exG fun _ _ q => q) d2, ?_⟩
  cases e : F (x :: xs) μ2 with
  | ok r μ' => rw [e] at hp3; exact hp3
  | exc x μ' => rw [e] at hp3; exact hp3
  | bad => exact hb e
/-- a method of the class that the module calls nm -/
structure MthD (P : Program) (w : World) (K : PySem.W.Frag) (mg : Str → Option Value) (base : Heap) (cx : CXT) (k : Nat) (nm m : Str) (n : Nat) (F : List DV → Mem → Res R) : Prop where
  ar : ∀ xs μ, F xs μ ≠ .bad → xs.length = n
  ex : ∃ (C f : Addr) (fd : FuncData) (ps : List Str), ps.length = n ∧ ClsAt K nm C ∧ FnG P w K mg base cx k f fd ps (spF K n F) ∧ Cls K C ∧ Meth K C m f ∧ Binds K fd ps []
/-! ### fields -/
def eFld (nms : List Str) (m : Str) (f : EM) : EM := fun δ μ => (frzV f δ μ).bind fun x μ1 => match insAt μ1 x with
  | some (nm, fs) => if nm ∈ nms then match fs.lookup m with
      | some y => .ok (ofV y) μ1
      | none => .bad
    else .bad
  | none => .bad
/-- instances of the class nm have the field m by themselves alone -/
def FldOk (K : PySem.W.Frag) (nm m : Str) : Prop := ∃ C, ClsAt K nm C ∧ Cls K C ∧ NoAttr K C m
theorem snd_fld {nms : List Str} {m : Str} {to : TE} {fo : EM} (c : ∀ nm ∈ nms, FldOk K nm m) (ho : SndE K W to fo) : SndE K W (tFld K to m) (eFld nms m fo) := fun ρ G H σ δ μ Q R E hp => by
  refine SndG.seq (t := to) ho.toV R E hp fun x μ1 G1 H1 v t1 R1 E1 d1 hp1 => ?_
  cases q : insAt μ1 x with
  | none => rw [q] at hp1; exact hp1.elim
  | some p =>
    obtain ⟨nm, fs⟩ := p
    rw [q] at hp1
    simp only at hp1
    by_cases hn : nm ∈ nms
    case neg => rw [if_neg hn] at hp1; exact hp1.elim
    rw [if_pos hn] at hp1
    obtain ⟨C, c1, c2, c3⟩ := c nm hn
    obtain ⟨a, dx, C', vs, rfl, h2, c', h3, h4⟩ := insAt_ok R1 d1 q
    cases c1.uniq c'
    cases ql : fs.lookup m with
    | none => rw [ql] at hp1; exact hp1.elim
    | some y =>
      rw [ql] at hp1
      obtain ⟨w, hw, dw⟩ := look_some h3 h4 ql
      exact ⟨a, C, dx, vs, w, rfl, h2, c2, c3, hw, hp1 G1 H1 w t1 R1 (RpR.ofV dw)⟩
/-! ### o.m = e -/
theorem Rel.setP {n : Nat} {a : Addr} {o' : HO} {p p' : Pl} (R : Rel K ρ G H μ) (hn : ρ n = some a) (hm : μ[n]? = some p) (hno : p ≠ .own) (hp' : PlOk K ρ G (upd H a o') n p') :
    Rel K ρ G (upd H a o') (μ.set n p') ∧ Tr ρ G H G (upd H a o') := by
  have hlt : n < μ.length := R.lt n a hn
  have nown : ∀ b, H a ≠ some (.own b) := fun b e => by
    have z := R.pl n p hm
    cases p with
    | lst xs => obtain ⟨_, b, vs, h1, h2, _⟩ := z; rw [hn] at h1; cases h1; rw [e] at h2; cases h2
    | dct kvs => obtain ⟨_, b, o, vs, h1, h2, h3, _⟩ := z; rw [hn] at h1; cases h1; rw [e] at h2; cases h2; rcases h3 with ⟨_, h, _⟩ | ⟨_, _, h, _⟩ <;> cases h
    | ins nm fs => obtain ⟨_, b, dx, C, vs, m, _, h1, h2, _⟩ := z; rw [hn] at h1; cases h1; rw [e] at h2; cases h2
    | own => exact hno rfl
    | gone => rw [show ρ n = none from z] at hn; cases hn
  refine ⟨⟨fun b o h => ?_, R.inj, R.nG, fun m b h => by rw [List.length_set]; exact R.lt m b h, fun m b h q => ?_, fun m q h => ?_⟩, ⟨Ex.refl _, fun b o hb h => ?_, fun b h => ?_, fun b h => .inl h⟩⟩
  · have e : b ≠ a := fun e => by rw [e, R.nG n a hn] at h; cases h
    rw [upd_ne e]; exact R.ex b o h
  · by_cases e : b = a
    · rw [e, upd_same] at q; cases q
    · rw [upd_ne e] at q; exact R.hs m b h q
  · by_cases e : m = n
    · subst e
      rw [List.getElem?_set_self hlt] at h
      cases h
      exact hp'
    · rw [List.getElem?_set_ne (fun z => e z.symm)] at h
      have z := R.pl m q h
      have ne : ∀ b, ρ m = some b → b ≠ a := fun b hb z => e (R.inj m n a (z ▸ hb) hn)
      cases q with
      | lst xs => obtain ⟨b, c, vs, h1, h2, h3⟩ := z; exact ⟨b, c, vs, h1, by rw [upd_ne (ne c h1)]; exact h2, h3⟩
      | dct kvs => obtain ⟨b, c, o, vs, h1, h2, h3⟩ := z; exact ⟨b, c, o, vs, h1, by rw [upd_ne (ne c h1)]; exact h2, h3⟩
      | own => obtain ⟨b, c, h1, h2⟩ := z; exact ⟨b, c, h1, by rw [upd_ne (ne b h1)]; exact h2⟩
      | ins nm fs =>
        obtain ⟨b, c, dx, C, vs, k, hk, h1, h2, cl, h4, h3⟩ := z
        exact ⟨b, c, dx, C, vs, k, hk, h1, by rw [upd_ne (ne c h1)]; exact h2, cl, by rw [upd_ne (show dx ≠ a from fun e => nown c (e ▸ h4))]; exact h4, h3⟩
      | gone => exact z
  · have e : b ≠ a := fun e => hb n (e ▸ hn)
    rw [upd_ne e]; exact h
  · by_cases e : b = a
    · rw [e, upd_same] at h; cases h
    · rw [upd_ne e] at h; exact h
def putD (f : Str) (v : DV) : List (Str × DV) → List (Str × DV)
  | [] => [(f, v)]
  | (g, x) :: r => if g = f then (g, v) :: r else (g, x) :: putD f v r
theorem put_rel {f : Str} {v : V} {y : DV} (d : DvOk K ρ G v y) : ∀ {vs : List (Str × V)} {fs : List (Str × DV)}, vs.map (·.1) = fs.map (·.1) → DvL K ρ G (vs.map (·.2)) (fs.map (·.2)) →
    (putF f v vs).map (·.1) = (putD f y fs).map (·.1) ∧ DvL K ρ G ((putF f v vs).map (·.2)) ((putD f y fs).map (·.2))
  | [], [], _, _ => ⟨rfl, .cons d .nil⟩
  | (a, x) :: vs, (b, z) :: fs, h, dl => by
    simp only [List.map_cons, List.cons.injEq] at h dl
    obtain ⟨rfl, h⟩ := h
    cases dl with
    | cons d1 d2 =>
      simp only [putF, putD]
      by_cases e : a = f
      · rw [if_pos e, if_pos e]; exact ⟨by simp [h], .cons d d2⟩
      · rw [if_neg e, if_neg e]
        obtain ⟨i1, i2⟩ := put_rel d h d2
        exact ⟨by simp [i1], .cons d1 i2⟩
  | [], _ :: _, h, _ => by simp at h
  | _ :: _, [], h, _ => by simp at h
theorem putD_mem {f : Str} {y : DV} {p : Str × DV} : ∀ {fs : List (Str × DV)}, p ∈ putD f y fs → p.2 = y ∨ p ∈ fs
  | [], h => by rcases List.mem_singleton.mp h with rfl; exact .inl rfl
  | (g, x) :: r, h => by
    simp only [putD] at h
    by_cases e : g = f
    · rw [if_pos e] at h
      rcases List.mem_cons.mp h with rfl | h
      · exact .inl rfl
      · exact .inr (List.mem_cons_of_mem _ h)
    · rw [if_neg e] at h
      rcases List.mem_cons.mp h with rfl | h
      · exact .inr List.mem_cons_self
      · exact (putD_mem h).imp id (List.mem_cons_of_mem _)
def setFld (nms : List Str) (μ : Mem) (x : DV) (m : Str) (y : DV) : Option Mem := match x with
  | .loc n => match μ[n]? with
    | some (.ins nm fs) => if nm ∈ nms ∧ fs.length < 1000 ∧ belowB n y = true then some (μ.set n (.ins nm (putD m y fs))) else none
    | _ => none
  | .dat _ => none
def gFld (nms : List Str) (m : Str) (fo fe : EM) : SM := fun _ δ μ => lift ((frzV fe δ μ).bind fun y μ1 => (frzV fo δ μ1).bind fun x μ2 => match setFld nms μ2 x m y with
  | some μ3 => .ok () μ3
  | none => .bad) δ fun _ μ3 => .next δ μ3
theorem setFld_ok {nms : List Str} {m : Str} {x y : DV} {v w : V} {μ' : Mem} (c : ∀ nm ∈ nms, FldOk K nm m) (R : Rel K ρ G H μ) (hx : DvOk K ρ G v x) (hy : DvOk K ρ G w y) (e : setFld nms μ x m y = some μ') :
    ∃ a C dx vs, v = .ref a ∧ H a = some (.ins C dx vs) ∧ Cls K C ∧ NoAttr K C m ∧ vs.length < 1000 ∧ Rel K ρ G (upd H a (.ins C dx (putF m w vs))) μ' ∧ Tr ρ G H G (upd H a (.ins C dx (putF m w vs))) := by
  cases x with
  | dat d => cases e
  | loc n =>
    obtain ⟨a, rfl, q⟩ := hx
    unfold setFld at e
    match em : μ[n]? with
    | none => simp only [em] at e; cases e
    | some (.lst _) => simp only [em] at e; cases e
    | some (.dct _) => simp only [em] at e; cases e
    | some .own => simp only [em] at e; cases e
    | some .gone => simp only [em] at e; cases e
    | some (.ins nm fs) =>
      simp only [em] at e
      by_cases hc : nm ∈ nms ∧ fs.length < 1000 ∧ belowB n y = true
      case neg => rw [if_neg hc] at e; cases e
      rw [if_pos hc] at e; cases e
      obtain ⟨hn, hl, hb⟩ := hc
      obtain ⟨C, c1, c2, c3⟩ := c nm hn
      obtain ⟨bl, b, dx, C', vs, k, hk, h1, h2, c', h4, h5, h6⟩ := R.pl n _ em
      rw [q] at h1; cases h1
      cases c1.uniq c'
      have hlen : vs.length = fs.length := by have := congrArg List.length h5; simpa using this
      obtain ⟨p1, p2⟩ := put_rel (f := m) hy h5 h6
      have hby : y.below n := by
        cases y with
        | dat d => trivial
        | loc m => exact (of_decide_eq_true hb : m < n)
      have nd : dx ≠ a := fun e => by rw [e, h2] at h4; cases h4
      refine ⟨a, C, dx, vs, rfl, h2, c2, c3, by omega, R.setP (p := .ins nm fs) q em (fun z => by cases z) ⟨fun p hp => ?_, a, dx, C, _, k, hk, q, upd_same, c1, by rw [upd_ne nd]; exact h4, p1, p2⟩⟩
      rcases putD_mem hp with e | h
      · rw [e]; exact hby
      · exact bl p h
theorem snd_sfld {nms : List Str} {m : Str} {to te : TE} {fo fe : EM} (c : ∀ nm ∈ nms, FldOk K nm m) (ho : SndE K W to fo) (he : SndE K W te fe) : SndS K W (sFld K to te m) (gFld nms m fo fe) := fun N ρ G H σ δ μ Dn R E hp => by
  have conv : SndG K W (fun σ H Q => te σ H fun y H1 => to σ H1 fun x H2 => ∃ a C dx fs, x = .ref a ∧ H2 a = some (.ins C dx fs) ∧ Cls K C ∧ NoAttr K C m ∧ fs.length < 1000 ∧ Q () (upd H2 a (.ins C dx (putF m y fs))))
      (fun δ μ => (frzV fe δ μ).bind fun y μ1 => (frzV fo δ μ1).bind fun x μ2 => match setFld nms μ2 x m y with | some μ3 => Res.ok () μ3 | none => .bad) (fun _ _ _ _ _ _ => True) := by
    intro ρ G H σ δ μ Q R E hp
    refine SndG.seq (t := te) he.toV R E hp fun y μ1 G1 H1 w t1 R1 E1 d1 hp1 => ?_
    refine SndG.seq (t := to) ho.toV R1 E1 (hp1.shift t1 fun _ _ _ _ q => q) fun x μ2 G2 H2 v t2 R2 E2 d2 hp2 => ?_
    have hp2 := hp2.shift (rp1 := fun _ _ _ _ => True) t2 fun _ _ _ _ q => q
    cases es : setFld nms μ2 x m y with
    | none => rw [es] at hp2; exact hp2.elim
    | some μ3 =>
      rw [es] at hp2
      obtain ⟨a, C, dx, vs, rfl, h2, c2, c3, hl, R3, T3⟩ := setFld_ok c R2 d2 (d1.mono t2.exG fun _ _ q => q) es
      exact ⟨a, C, dx, vs, rfl, h2, c2, c3, hl, hp2 _ _ () T3 R3 trivial⟩
  refine SndG.stm (t := fun σ H Q => te σ H fun y H1 => to σ H1 fun x H2 => ∃ a C dx fs, x = .ref a ∧ H2 a = some (.ins C dx fs) ∧ Cls K C ∧ NoAttr K C m ∧ fs.length < 1000 ∧ Q () (upd H2 a (.ins C dx (putF m y fs)))) conv R E hp (Q := fun _ H' => Dn.nx σ H') fun u μ' G' H' v t' R' E' _ hp' => ?_
  exact hp' ρ G' H' σ t'.toS R' E'
/-! ### C(..) -/
def mkEnd (N : Nat) (μ2 : Mem) : Res R := match μ2[N + 1]? with
  | some (.ins nm fs) => match allDat (fs.map (·.2)) with
    | some ds => .ok (.dat (.ins nm ((fs.map (·.1)).zip ds))) (μ2.take N)
    | none => .bad
  | _ => .bad
def mkRun (F : List DV → Mem → Res R) (nm : Str) (xs : List DV) (μ1 : Mem) : Res R := match F (.loc (μ1.length + 1) :: xs) (μ1 ++ [.own] ++ [.ins nm []]) with
  | .ok (.dat .non) μ2 => mkEnd μ1.length μ2
  | .exc x μ2 => .exc x (μ2.take μ1.length)
  | _ => .bad
def eMake (nm : Str) (F : List DV → Mem → Res R) (fa : AM) : EM := fun δ μ => (fa δ μ).bind fun xs μ1 => mkRun F nm xs μ1
def tMakeN (K : PySem.W.Frag) (nm : Str) (sp : Sp) (E : L2.St → XK) (t : TA) : TE := fun σ H Q => ∃ C, ClsAt K nm C ∧ tMakeG C sp E t σ H Q
theorem snd_make {nm : Str} {F : List DV → Mem → Res R} {n : Nat} {C : Addr} {ta : TA} {fa : AM} (c : ClsAt K nm C) (ha : SndA K W ta fa) (hn : ∀ xs μ, F xs μ ≠ .bad → xs.length = n) :
    SndE K W (tMakeN K nm (spF K n F) (EW W) ta) (eMake nm F fa) := fun ρ G H σ δ μ Q R E hp => by
  refine ⟨C, c, ?_⟩
  refine SndG.seq (t := ta) ha R E hp fun xs μ1 G1 H1 vs t1 R1 E1 d1 hp1 => ?_
  have hp1 := hp1.shiftE t1
  intro x dx hx hdx hne
  obtain ⟨Ra, Ta⟩ := R1.lay (o := .own x) hdx
  have hx2 : upd H1 dx (.own x) x = none := by rw [upd_ne (Ne.symm hne)]; exact hx
  obtain ⟨Rb, Tb⟩ := Ra.lay (o := .ins C dx []) hx2
  have e1 : upd (upd H1 dx (.own x)) x (.ins C dx []) dx = some (.own x) := by rw [upd_ne hne, upd_same]
  have e2 : upd (upd H1 dx (.own x)) x (.ins C dx []) x = some (.ins C dx []) := upd_same
  obtain ⟨n1, n2⟩ := fresh_ne R1 hdx
  obtain ⟨m1, m2⟩ := fresh_ne R1 hx
  have T0 : TrS μ1.length ρ G1 H1 ρ G1 (upd (upd H1 dx (.own x)) x (.ins C dx [])) := (Ta.trans Tb).toS
  obtain ⟨Rc, Tc, upc, atc⟩ := Rb.alloc (N := μ1.length) (p := .own) (Nat.le_refl _) T0 (by rw [e1]; simp) n1 n2 hdx ⟨dx, x, by unfold addP; rw [if_pos rfl], e1⟩
  have hl : (μ1 ++ [Pl.own]).length = μ1.length + 1 := by simp
  have m3 : ∀ n, addP ρ μ1.length dx n ≠ some x := fun n q => by
    unfold addP at q
    by_cases e : n = μ1.length
    · rw [if_pos e] at q; cases q; exact hne rfl
    · rw [if_neg e] at q; exact m2 n q
  obtain ⟨Rd, Td, upd_, atd⟩ := Rc.alloc (N := μ1.length) (p := .ins nm []) (by rw [hl]; omega) Tc (by rw [e2]; simp) m1 m3 hx ⟨fun _ h => by (cases h), x, dx, C, [], μ1.length, ⟨hl, by rw [hl]; unfold addP; rw [if_neg (by omega), if_pos rfl]⟩, by unfold addP; rw [if_pos rfl], e2, c, e1, rfl, .nil⟩
  rw [hl] at Rd Td upd_ atd
  generalize eρ : addP (addP ρ μ1.length dx) (μ1.length + 1) x = ρd at *
  have hb : F (.loc (μ1.length + 1) :: xs) (μ1 ++ [.own] ++ [.ins nm []]) ≠ .bad := fun e => by
    unfold mkRun at hp1; rw [e] at hp1; exact hp1
  have atN : ρd μ1.length = some dx := by rw [← eρ]; unfold addP; rw [if_neg (by omega), if_pos rfl]
  refine ⟨by have := hn _ _ hb; simp only [List.length_cons] at this ⊢; rw [paired_len d1]; exact this, ρd, G1, _, .loc (μ1.length + 1) :: xs, Rd, .cons (show DvOk K ρd G1 (.ref x) (.loc (μ1.length + 1)) from ⟨x, rfl, atd⟩) (DvL.mono (Ex.refl _) (fun n b q => upd_ n b (upc n b q)) d1), ?_⟩
  unfold mkRun at hp1
  cases e : F (.loc (μ1.length + 1) :: xs) (μ1 ++ [.own] ++ [.ins nm []]) with
  | bad => exact hb e
  | exc xx μ2 =>
    rw [e] at hp1
    intro G' H' cls d t' R' q
    have TT := Td.trans (t'.toS (N := μ1.length))
    have z := R'.cut μ1.length
    rw [res_back R1 TT] at z
    exact hp1 G' H' cls d (tr_back R1 TT) z q
  | ok r μ2 =>
    rw [e] at hp1
    intro G' H' v t' R' q
    match r, q, hp1 with
    | .dat .non, q, hp1 =>
      have hv : v = .non := by cases q; rfl
      refine ⟨hv, ?_⟩
      have TT := Td.trans (t'.toS (N := μ1.length))
      have z := R'.cut μ1.length
      rw [res_back R1 TT] at z
      have tb := tr_back R1 TT
      simp only [mkEnd] at hp1
      match em : μ2[μ1.length + 1]? with
      | none => rw [em] at hp1; exact hp1.elim
      | some (.lst _) => rw [em] at hp1; exact hp1.elim
      | some (.dct _) => rw [em] at hp1; exact hp1.elim
      | some .own => rw [em] at hp1; exact hp1.elim
      | some .gone => rw [em] at hp1; exact hp1.elim
      | some (.ins nm' fs) =>
        rw [em] at hp1
        simp only at hp1
        cases ed : allDat (fs.map (·.2)) with
        | none => rw [ed] at hp1; exact hp1.elim
        | some ds =>
          rw [ed] at hp1
          obtain ⟨_, a, dx', C', ws, k, hk, h1, h2, c', h4, h5, h6⟩ := R'.pl _ _ em
          rw [atd] at h1; cases h1
          have hk1 : k = μ1.length := by omega
          rw [hk1, atN] at hk; cases hk.2
          have g1 : G' x = none := R'.nG _ _ atd
          have g2 : G' dx = none := R'.nG _ _ atN
          obtain ⟨R3, t3, x3⟩ := z.freeze tb h2 hx g1 m2
          obtain ⟨R4, t4, x4⟩ := R3.freeze t3 h4 hdx (by rw [upd_ne hne]; exact g2) n2
          have el : (fs.map (·.1)).length = ds.length := by rw [← allDat_len ed]; simp
          refine hp1 _ _ _ t4 R4 (Rp.ins (C := C') (dx := dx) (vs := ws) c' (by rw [upd_ne (Ne.symm hne), upd_same]) upd_same (by rw [h5, List.map_fst_zip (by omega)]) ?_)
          rw [List.map_snd_zip (by omega)]
          exact RpL.mono (x3.trans x4) (allDat_ok ed h6)
    | .dat (.bl _), q, hp1 => exact hp1.elim
    | .dat (.int _), q, hp1 => exact hp1.elim
    | .dat (.str _), q, hp1 => exact hp1.elim
    | .dat (.ty _), q, hp1 => exact hp1.elim
    | .dat (.ref _), q, hp1 => exact hp1.elim
    | .dat (.tup _), q, hp1 => exact hp1.elim
    | .dat (.lst _), q, hp1 => exact hp1.elim
    | .dat (.fro _), q, hp1 => exact hp1.elim
    | .dat (.dct _), q, hp1 => exact hp1.elim
    | .dat (.ins _ _), q, hp1 => exact hp1.elim
    | .loc _, q, hp1 => exact hp1.elim
    | .nl _, q, hp1 => exact hp1.elim
    | .nk _, q, hp1 => exact hp1.elim
structure MakD (P : Program) (w : World) (K : PySem.W.Frag) (mg : Str → Option Value) (base : Heap) (cx : CXT) (k : Nat) (nm : Str) (n : Nat) (F : List DV → Mem → Res R) : Prop where
  ar : ∀ xs μ, F xs μ ≠ .bad → xs.length = n
  ex : ∃ (C f : Addr) (fd : FuncData) (ps : List Str), ps.length = n ∧ ClsAt K nm C ∧ mg nm = some (.ref C) ∧ FnG P w K mg base cx k f fd ps (spF K n F) ∧ Mk K C f ∧ Binds K fd ps []
end
section
variable {X : Cx} {W : WX} {P : Program} {w : World} {K : PySem.W.Frag} {mg : Str → Option Value} {base : Heap} {cx : CXT} {k n : Nat} {nm m x : Str} {F : List DV → Mem → Res R} {e o : Expr} {es : List Expr} {tA : TA} {fA : AM} {to te : TE} {fo fe : EM} {p pos apos : Pos}
theorem pm_meth {pl : Sem Bool} (Fn : MthD P w K mg base cx k nm m n F) (hr : Room k X.A) (hgd : X.A.guards = some []) (hx : ∀ σ, PassesAt cx X σ (EW W σ)) (ho : PM X W o to fo) (ha : PMA X W (e :: es) tA fA) (h1 : X.prog = P := by rfl) (h2 : X.w = w := by rfl) (h3 : X.K = K := by rfl) (h4 : X.mg = mg := by rfl) (h5 : X.base = base := by rfl)
    (hst : starEach (e :: es) X.env = (false, eval e X.env) :: starEach es X.env := by rfl) (hpl : (backTo pos (starEach es X.env)).any (·.1) = false := by rfl)
    (ht : eval (.Call (.Attribute o m apos) (e :: es) [] pos) X.env = (do
      let ov ← eval o X.env
      standAt apos.atName
      let (f, first) ← holding [ov] (getMethod ov m pl)
      callWith pos f first (backTo pos (starEach (e :: es) X.env)) (backToKw pos (keywordEach [] X.env))) := by rfl) : PM X W (.Call (.Attribute o m apos) (e :: es) [] pos) (tMethN K nm m (spF K n F) (EW W) to tA) (eMeth nm m F fo fA) := by
  subst h1 h2 h3 h4 h5
  obtain ⟨C, f, fd, ps, hn, c, G, cl, hm, hb⟩ := Fn.ex
  refine ⟨⟨fun pins s σ H Q I h => ?_⟩, snd_meth c ho.sd ha.sd Fn.ar⟩
  obtain ⟨C', c', h⟩ := h
  cases c.uniq c'
  exact (pe_methG ho.pe cl hm G hr hgd hb hx ha.pe hst hpl ht).run pins s σ H Q I h
theorem pm_meth0 {pl : Sem Bool} (Fn : MthD P w K mg base cx k nm m n F) (hr : Room k X.A) (hgd : X.A.guards = some []) (hx : ∀ σ, PassesAt cx X σ (EW W σ)) (ho : PM X W o to fo) (h1 : X.prog = P := by rfl) (h2 : X.w = w := by rfl) (h3 : X.K = K := by rfl) (h4 : X.mg = mg := by rfl) (h5 : X.base = base := by rfl)
    (ht : eval (.Call (.Attribute o m apos) [] [] pos) X.env = (do
      let ov ← eval o X.env
      standAt apos.atName
      let (f, first) ← holding [ov] (getMethod ov m pl)
      callWith pos f first (backTo pos (starEach [] X.env)) (backToKw pos (keywordEach [] X.env))) := by rfl) : PM X W (.Call (.Attribute o m apos) [] [] pos) (tMethN K nm m (spF K n F) (EW W) to tNil) (eMeth nm m F fo aNil) := by
  subst h1 h2 h3 h4 h5
  obtain ⟨C, f, fd, ps, hn, c, G, cl, hm, hb⟩ := Fn.ex
  refine ⟨⟨fun pins s σ H Q I h => ?_⟩, snd_meth c ho.sd snd_nil Fn.ar⟩
  obtain ⟨C', c', h⟩ := h
  cases c.uniq c'
  exact (pe_meth0G ho.pe cl hm G hr hgd hb hx ht).run pins s σ H Q I h
theorem pm_make (Fn : MakD P w K mg base cx k nm n F) (hr : Room (k + 1) X.A) (hgd : X.A.guards = some []) (hg : Gl X nm) (hx : ∀ σ, PassesAt cx X σ (EW W σ)) (ha : PMA X W (e :: es) tA fA) (h1 : X.prog = P := by rfl) (h2 : X.w = w := by rfl) (h3 : X.K = K := by rfl) (h4 : X.mg = mg := by rfl) (h5 : X.base = base := by rfl)
    (hdb : (nm == ("__debug__" : Str)) = false := by decide) (he : starEach (e :: es) X.env = (false, eval e X.env) :: starEach es X.env := by rfl) (hpl : (backTo pos (starEach es X.env)).any (·.1) = false := by rfl) :
    PM X W (.Call (.Name nm p) (e :: es) [] pos) (tMakeN K nm (spF K n F) (EW W) tA) (eMake nm F fA) := by
  subst h1 h2 h3 h4 h5
  obtain ⟨C, f, fd, ps, hn, c, hm, G, M, hb⟩ := Fn.ex
  refine ⟨⟨fun pins s σ H Q I h => ?_⟩, snd_make c ha.sd Fn.ar⟩
  obtain ⟨C', c', h⟩ := h
  cases c.uniq c'
  exact (pe_makeG M G hr hgd hg hm hb hx ha.pe hdb he hpl).run pins s σ H Q I h
theorem pm_fld {nms : List Str} (K : PySem.W.Frag) (c : ∀ nm ∈ nms, FldOk K nm m) (ho : PM X W o to fo) (h3 : X.K = K := by rfl) (hb : attributeBase o m X.env (eval o X.env) = eval o X.env := by rfl) :
    PM X W (.Attribute o m pos) (tFld K to m) (eFld nms m fo) := by
  subst h3
  exact ⟨pe_fld ho.pe hb, snd_fld c ho.sd⟩
theorem sm_fld {nms : List Str} (K : PySem.W.Frag) (c : ∀ nm ∈ nms, FldOk K nm m) (ho : PM X W o to fo) (he : PM X W e te fe) (h3 : X.K = K := by rfl) (hs : swapsWith e (some (.Attribute o m apos)) pos.line X.env = pure false := by rfl) :
    PSM X W (.Assign [.Attribute o m apos] e pos) (sFld K to te m) (gFld nms m fo fe) := by
  subst h3
  exact ⟨ps_fld ho.pe he.pe hs, snd_sfld c ho.sd he.sd⟩
theorem pm_call0 {p : Pos} (Fn : FnD P w K mg base cx k x n F) (hr : Room k X.A) (hgd : X.A.guards = some []) (hg : Gl X x) (hx : ∀ σ, PassesAt cx X σ (EW W σ)) (h1 : X.prog = P := by rfl) (h2 : X.w = w := by rfl) (h3 : X.K = K := by rfl) (h4 : X.mg = mg := by rfl) (h5 : X.base = base := by rfl)
    (hdb : (x == ("__debug__" : Str)) = false := by decide) : PM X W (.Call (.Name x p) [] [] pos) (tCallSD (spF K n F) [] (EW W) tNil) (eCB F aNil) := by
  subst h1 h2 h3 h4 h5
  obtain ⟨f, fd, ps, hn, G, hm, hk, hb⟩ := Fn.ex
  exact ⟨pe_callG0 G hr hgd hg hm hk hb hx hdb, snd_call snd_nil Fn.ar⟩
end
end DL
/-! isinstance, len, ==, in by own classes. -/
namespace DL
open PySem PySem.Spec PyProof.Rows L2
/-- a value's type: a built-in's name, or an own class's -/
inductive Kd where
  | b (t : String) | c (nm : Str)
def kindOf (μ : Mem) : DV → Option Kd
  | .dat .non => some (.b "NoneType")
  | .dat (.bl _) => some (.b "bool")
  | .dat (.int _) => some (.b "int")
  | .dat (.str _) => some (.b "str")
  | .dat (.tup _) => some (.b "tuple")
  | .dat (.lst _) => some (.b "list")
  | .dat (.fro _) => some (.b "list")
  | .dat (.dct _) => some (.b "dict")
  | .dat (.ins nm _) => some (.c nm)
  | .dat (.ty _) => none
  | .dat (.ref _) => none
  | .dat (.err _ _ _ _ _) => none
  | .loc n => match μ[n]? with
    | some (.lst _) => some (.b "list")
    | some (.dct _) => some (.b "dict")
    | some (.ins nm _) => some (.c nm)
    | _ => none
/-- what isinstance asks of an own class -/
structure ClsTy (K : PySem.W.Frag) (nm : Str) : Prop where
  ex : ∃ C, ClsAt K nm C ∧ Cls K C ∧ PySem.W.findIn K (.ref C) "__class__" = some (some (.builtin "object.__class__")) ∧ PySem.W.mroIn K C (.type "object") = some true
theorem get_class (K : PySem.W.Frag) : PySem.W.specialIn K (.builtin "object.__class__") "__get__" = some (some (.builtin "getset_descriptor.__get__")) ∧ PySem.W.takesIn K (.builtin "object.__class__") = some true := by
  constructor <;> kernel_rfl
def KdIs (K : PySem.W.Frag) : Kd → Value → Prop
  | .b s, t => t = .type s
  | .c nm, t => ∃ C, ClsAt K nm C ∧ t = .ref C
section
variable {K : PySem.W.Frag} {W : WX} {ρ : Pm} {G H : Hp} {μ : Mem} {σ : Slots} {δ : Env}
theorem ty_tup {a : Addr} {xs : List V} (h : SqT K H a xs) : TyX K H (.ref a) (.type "tuple") := by
  rcases h with (h | ⟨o, h⟩) | ⟨o, its, n, h1, h2, _⟩
  · exact .base (.tup h)
  · exact .fTuple h
  · exact .kTuple h1 h2
theorem ty_lst {a : Addr} {xs : List V} (h : SqL K H a xs) : TyX K H (.ref a) (.type "list") := by
  rcases h with (h | ⟨o, h⟩) | ⟨o, its, n, h1, h2, _⟩
  · exact .base (.lst h)
  · exact .base (.frz h)
  · exact .kList h1 h2
/-- a value's type, dicts whose keys are tuples among them -/
def TyZ (K : PySem.W.Frag) (H : Hp) (v : V) (t : Value) : Prop := TyX K H v t ∨ ∃ a o kvs, v = .ref a ∧ H a = some (.frz o (.dT kvs)) ∧ t = .type "dict"
theorem kind_ok {v : V} {x : DV} {kd : Kd} (R : Rel K ρ G H μ) (h : DvOk K ρ G v x) (cs : ∀ nm, kd = .c nm → ClsTy K nm) (e : kindOf μ x = some kd) : ∃ t, KdIs K kd t ∧ TyZ K H v t := by
  have ins : ∀ {a dx C nm fs}, H a = some (.ins C dx fs) → ClsAt K nm C → ClsTy K nm → TyZ K H (.ref a) (.ref C) := fun {a dx C nm fs} h1 h2 ⟨C', c1, c2, c3, c4⟩ => by
    cases h2.uniq c1
    exact .inl (.base (.ins h1 c2 c3 (get_class K).1 (get_class K).2 c4))
  cases x with
  | dat d =>
    cases d with
    | non => cases e; cases h; exact ⟨_, rfl, .inl (.base .non)⟩
    | bl b => cases e; cases h; exact ⟨_, rfl, .inl (.base (.bl b))⟩
    | int i => cases e; cases h; exact ⟨_, rfl, .inl (.base (.int i))⟩
    | str s => cases e; cases h; exact ⟨_, rfl, .inl (.base (.str s))⟩
    | tup ds => cases e; cases h with | tup h1 h2 => exact ⟨_, rfl, .inl (ty_tup (ex_t R.ex h1))⟩
    | lst ds => cases e; cases h with | lst h1 h2 => exact ⟨_, rfl, .inl (.base (.lst (R.ex _ _ h1)))⟩
    | fro ds => cases e; cases h with | fro h1 h2 => exact ⟨_, rfl, .inl (ty_lst (ex_l R.ex h1))⟩
    | dct ds =>
      cases e
      cases h with
      | dct h1 h2 h3 =>
        rcases h2 with ⟨kvs, rfl, _⟩ | ⟨kvs, _, rfl, _⟩
        · exact ⟨_, rfl, .inl (.fDict (R.ex _ _ h1))⟩
        · exact ⟨_, rfl, .inr ⟨_, _, _, rfl, R.ex _ _ h1, rfl⟩⟩
    | ins nm ds => cases e; cases h with | ins c h1 h2 h3 h4 => exact ⟨_, ⟨_, c, rfl⟩, ins (R.ex _ _ h1) c (cs nm rfl)⟩
    | ty n => cases e
    | ref a => cases e
    | err _ _ _ _ _ => cases e
  | loc n =>
    obtain ⟨a, rfl, q⟩ := h
    unfold kindOf at e
    match em : μ[n]? with
    | none => simp only [em] at e; cases e
    | some .own => simp only [em] at e; cases e
    | some .gone => simp only [em] at e; cases e
    | some (.lst xs) =>
      simp only [em] at e; cases e
      obtain ⟨_, b, vs, h1, h2, _⟩ := R.pl n _ em
      rw [q] at h1; cases h1
      exact ⟨_, rfl, .inl (.base (.lst h2))⟩
    | some (.dct kvs) =>
      simp only [em] at e; cases e
      obtain ⟨_, b, o, vs, h1, h2, h3, _⟩ := R.pl n _ em
      rw [q] at h1; cases h1
      rcases h3 with ⟨kvs, rfl, _⟩ | ⟨kvs, _, rfl, _⟩
      · exact ⟨_, rfl, .inl (.base (.dK h2))⟩
      · exact ⟨_, rfl, .inl (.base (.dT h2))⟩
    | some (.ins nm fs) =>
      simp only [em] at e; cases e
      obtain ⟨_, b, dx, C, vs, k, hk, h1, h2, c, _⟩ := R.pl n _ em
      rw [q] at h1; cases h1
      exact ⟨_, ⟨_, c, rfl⟩, ins h2 c (cs nm rfl)⟩
end
section
variable {X : Cx} {pins : List (Addr × Obj)} {σ : L2.St} {H : Hp} {s : Shared}
theorem kit_ofZ {x : V} {u t : Value} (I : Inv X pins σ H s) (rx : RelV x u) (ty : TyZ X.K H x t) : ∃ P : Heap → Prop, PySem.W.KitX X.K u t P ∧ P s.heap ∧ u ≠ .builtin "__main__.__loader__#opaque" := by
  rcases ty with ty | ⟨a, o, kvs, rfl, ea, rfl⟩
  · exact kit_of I rx ty
  · cases (show u = Value.ref a from rx)
    obtain ⟨_, _, _, xs, _, o, es, ep, h1, h2, _⟩ := (show ObjOk X.prog X.w H s.heap a (.frz o (.dT kvs)) from I.hok a _ ea)
    exact ⟨_, PySem.W.kitx_dict, ⟨o, h1, h2.1⟩, fun z => nomatch z⟩
def rIsiZ (K : PySem.W.Frag) : List V → Hp → VK → Prop := fun xs H Q => ∃ (x c : V) (t u : Value) (b : Bool), xs = [x, c] ∧ ClsV c u ∧ TyZ K H x t ∧ PySem.W.kitOne K t u = some b ∧ Q (.bl b) H
def rIsiTZ (K : PySem.W.Frag) : List V → Hp → VK → Prop := fun xs H Q => ∃ (x : V) (tp : Addr) (cs : List V) (t : Value) (us : List Value) (b : Bool), xs = [x, .ref tp] ∧ H tp = some (.tup cs) ∧ Paired ClsV cs us ∧ TyZ K H x t ∧ PySem.W.kitAny K t us = some b ∧ Q (.bl b) H
theorem call_isiZ : CallR X (.builtin "isinstance") (rIsiZ X.K) := by
  intro pins s σ H xs us Q I r h
  obtain ⟨x, c, t, u, b, rfl, k, ty, e, q⟩ := h
  obtain ⟨u1, u2, rfl, r1, r2⟩ := vals2 r
  have e2 := k.eq r2
  subst e2
  obtain ⟨P, Z, p, hx⟩ := kit_ofZ I r1 ty
  exact PySem.W.kia_one Z I.kIn p e hx fun tk => ⟨.bl b, H, I.tok tk, rfl, q⟩
theorem call_isiTZ : CallR X (.builtin "isinstance") (rIsiTZ X.K) := by
  intro pins s σ H xs us Q I r h
  obtain ⟨x, tp, cs, t, ws, b, rfl, hT, k, ty, e, q⟩ := h
  obtain ⟨u1, u2, rfl, r1, r2⟩ := vals2 r
  cases (show u2 = Value.ref tp from r2)
  obtain ⟨P, Z, p, hx⟩ := kit_ofZ I r1 ty
  obtain ⟨_, its, rv, o, h1, h2, n, h3⟩ := (show ObjOk X.prog X.w H s.heap tp (.tup cs) from I.hok tp _ hT)
  have e3 := ClsV.all k rv
  subst e3
  obtain ⟨oc, od, dt, sl⟩ := o
  simp only at h2 h3
  subst h2 h3
  exact PySem.W.kia_tup Z I.kIn p h1 e hx fun tk => ⟨.bl b, H, I.tok tk, rfl, q⟩
end
section
variable {K : PySem.W.Frag} {W : WX} {ρ : Pm} {G H : Hp} {μ : Mem} {σ : Slots} {δ : Env}
/-- isinstance: what it tells by the value's type -/
def dIsi (tab : Kd → Option Bool) (x : DV) (μ : Mem) : Res R := match kindOf μ x with
  | some kd => match tab kd with
    | some b => .ok (.dat (.bl b)) μ
    | none => .bad
  | none => .bad
/-- tab tells what ans says of the types -/
structure TabOk (K : PySem.W.Frag) (tab : Kd → Option Bool) (ans : Value → Bool → Prop) : Prop where
  ok : ∀ kd b t, tab kd = some b → KdIs K kd t → ans t b
  cl : ∀ nm b, tab (.c nm) = some b → ClsTy K nm
theorem isi_ok {tab : Kd → Option Bool} {ans : Value → Bool → Prop} {x : DV} {v : V} {Q : VK} {G0 H0 : Hp} (T : TabOk K tab ans) (R : Rel K ρ G H μ) (t0 : Tr ρ G0 H0 G H) (d : DvOk K ρ G v x) (hp : PostG K W ρ G0 H0 σ (fun G' H' => rpE K ρ G' H0 H') Q (dIsi tab x μ)) :
    ∃ t b, TyZ K H v t ∧ ans t b ∧ Q (.bl b) H := by
  unfold dIsi at hp
  cases ek : kindOf μ x with
  | none => rw [ek] at hp; exact hp.elim
  | some kd =>
    rw [ek] at hp
    simp only at hp
    cases et : tab kd with
    | none => rw [et] at hp; exact hp.elim
    | some b =>
      rw [et] at hp
      obtain ⟨t, k1, k2⟩ := kind_ok R d (fun nm e => T.cl nm b (e ▸ et)) ek
      exact ⟨t, b, k2, T.ok kd b t et k1, hp G H (.bl b) t0 R (Rp.bl b)⟩
theorem snd_isi {tab : Kd → Option Bool} {te : TE} {f : EM} {c : V} {u : Value} (k : ClsV c u) (T : TabOk K tab fun t b => PySem.W.kitOne K t u = some b) (h : SndE K W te f) : SndE K W (tCB (rIsiZ K) (tCons te (tCons (tC c) tNil))) (eUn (dIsi tab) f) := fun ρ G H σ δ μ Q R E hp => by
  refine SndG.seq (t := te) h.toV R E hp fun x μ1 G1 H1 v t1 R1 E1 d1 hp1 => ?_
  obtain ⟨t, b, h1, h2, h3⟩ := isi_ok T R1 t1 d1 hp1
  exact ⟨v, c, t, u, b, rfl, k, h1, h2, h3⟩
theorem TyZ.ext {H' : Hp} {v : V} {t : Value} (e : Ex H H') (h : TyZ K H v t) : TyZ K H' v t := by
  rcases h with h | ⟨a, o, kvs, rfl, h, rfl⟩
  · refine .inl ?_
    cases h with
    | base b =>
      refine .base ?_
      cases b with
      | non => exact .non
      | bl x => exact .bl x
      | int x => exact .int x
      | str x => exact .str x
      | flt x => exact .flt x
      | lst h => exact .lst (e _ _ h)
      | frz h => exact .frz (e _ _ h)
      | tup h => exact .tup (e _ _ h)
      | dK h => exact .dK (e _ _ h)
      | dT h => exact .dT (e _ _ h)
      | ins h a b c d f => exact .ins (e _ _ h) a b c d f
    | byt b => exact .byt b
    | set h => exact .set (e _ _ h)
    | kList h c => exact .kList h c
    | kTuple h c => exact .kTuple h c
    | kDict h c => exact .kDict h c
    | fTuple h => exact .fTuple (e _ _ h)
    | fDict h => exact .fDict (e _ _ h)
  · exact .inr ⟨a, o, kvs, rfl, e _ _ h, rfl⟩
theorem snd_isi2 {tab : Kd → Option Bool} {te : TE} {f : EM} {c1 c2 : V} {u1 u2 : Value} (k1 : ClsV c1 u1) (k2 : ClsV c2 u2) (T : TabOk K tab fun t b => PySem.W.kitAny K t [u1, u2] = some b) (h : SndE K W te f) :
    SndE K W (tCB (rIsiTZ K) (tCons te (tCons (tTup (tCons (tC c1) (tCons (tC c2) tNil))) tNil))) (eUn (dIsi tab) f) := fun ρ G H σ δ μ Q R E hp => by
  refine SndG.seq (t := te) h.toV R E hp fun x μ1 G1 H1 v t1 R1 E1 d1 hp1 => ?_
  refine ⟨by show 2 ≤ sizeLine; decide, fun p hn => ?_⟩
  obtain ⟨R2, t2⟩ := R1.lay (o := .tup [c1, c2]) hn
  obtain ⟨t, b, h1, h2, h3⟩ := isi_ok T R2 (t1.trans t2) d1 hp1
  exact ⟨v, p, [c1, c2], t, [u1, u2], b, rfl, upd_same, .cons k1 (.cons k2 .nil), h1, h2, h3⟩
end
section
variable {X : Cx} {W : WX} {e c1 c2 : Expr} {te : TE} {f : EM} {p pos p1 p2 : Pos}
theorem pm_isi (K : PySem.W.Frag) {tab : Kd → Option Bool} {c : V} {u : Value} (hg : Gl X "isinstance") (hm : X.mg "isinstance" = none) (k : ClsV c u) (T : TabOk K tab fun t b => PySem.W.kitOne K t u = some b) (h : PM X W e te f) (hc : PE X c1 (tC c)) (hK : X.K = K := by rfl)
    (hs : starEach (e :: [c1]) X.env = (false, eval e X.env) :: starEach [c1] X.env := by rfl) (hs1 : starEach [c1] X.env = (false, eval c1 X.env) :: starEach [] X.env := by rfl) (hpl : (backTo pos (starEach [c1] X.env)).any (·.1) = false := by rfl) :
    PM X W (.Call (.Name "isinstance" p) [e, c1] [] pos) (tCB (rIsiZ K) (tCons te (tCons (tC c) tNil))) (eUn (dIsi tab) f) := by
  subst hK
  exact ⟨pe_callB call_isiZ hg hm (by decide +kernel) (pa_cons h.pe (pa_cons hc pa_nil hs1) hs) (he := hs) (hpl := hpl), snd_isi k T h.sd⟩
theorem pm_isi2 (K : PySem.W.Frag) {tab : Kd → Option Bool} {a1 a2 : V} {u1 u2 : Value} {x1} (hg : Gl X "isinstance") (hm : X.mg "isinstance" = none) (k1 : ClsV a1 u1) (k2 : ClsV a2 u2) (T : TabOk K tab fun t b => PySem.W.kitAny K t [u1, u2] = some b) (h : PM X W e te f) (hc1 : PE X c1 (tC a1)) (hc2 : PE X c2 (tC a2)) (hK : X.K = K := by rfl)
    (hs : starEach (e :: [.Tuple [c1, c2] x1 p1]) X.env = (false, eval e X.env) :: starEach [.Tuple [c1, c2] x1 p1] X.env := by rfl) (hs1 : starEach [.Tuple [c1, c2] x1 p1] X.env = (false, eval (.Tuple [c1, c2] x1 p1) X.env) :: starEach [] X.env := by rfl)
    (hs2 : starEach [c1, c2] X.env = (false, eval c1 X.env) :: starEach [c2] X.env := by rfl) (hs3 : starEach [c2] X.env = (false, eval c2 X.env) :: starEach [] X.env := by rfl) (hpl : (backTo pos (starEach [.Tuple [c1, c2] x1 p1] X.env)).any (·.1) = false := by rfl) :
    PM X W (.Call (.Name "isinstance" p) [e, .Tuple [c1, c2] x1 p1] [] pos) (tCB (rIsiTZ K) (tCons te (tCons (tTup (tCons (tC a1) (tCons (tC a2) tNil))) tNil))) (eUn (dIsi tab) f) := by
  subst hK
  exact ⟨pe_callB call_isiTZ hg hm (by decide +kernel) (pa_cons h.pe (pa_cons (pe_tup (pa_cons hc1 (pa_cons hc2 pa_nil hs3) hs2)) pa_nil hs1) hs) (he := hs) (hpl := hpl), snd_isi2 k1 k2 T h.sd⟩
/-- a built-in type by its name -/
theorem pe_tyN {T : String} {x : Str} (hg : Gl X x) (hm : X.mg x = none) (hv : bootBuiltins x = some (.type T)) (hn : x ≠ "__name__" := by decide) (hdb : (x == ("__debug__" : Str)) = false := by decide) : PE X (.Name x pos) (tC (.ty T)) := pe_bltn (v := .ty T) hg hm hv rfl hn hdb
/-! the tables -/
def tabT (T : String) (cls : List Str) : Kd → Option Bool
  | .b t => kitB t T
  | .c nm => if nm ∈ cls then some false else none
def tabT2 (T U : String) (cls : List Str) : Kd → Option Bool
  | .b t => match kitB t T with
    | some true => some true
    | some false => kitB t U
    | none => none
  | .c nm => if nm ∈ cls then some false else none
def tabC (nm0 : Str) (others : List Str) : Kd → Option Bool
  | .b t => if t ∈ ["NoneType", "bool", "int", "str", "tuple", "list", "dict"] then some false else none
  | .c nm => if nm = nm0 then some true else if nm ∈ others then some false else none
/-- instances of the class nm are no instances of the built-in type T -/
def NoSub (K : PySem.W.Frag) (nm : Str) (T : String) : Prop := ∃ C, ClsAt K nm C ∧ PySem.W.kitOne K (.ref C) (.type T) = some false
theorem tabT_ok {K : PySem.W.Frag} {T : String} {cls : List Str} (h : ∀ nm ∈ cls, ClsTy K nm ∧ NoSub K nm T) : TabOk K (tabT T cls) fun t b => PySem.W.kitOne K t (.type T) = some b where
  ok := fun kd b t e k => by
    cases kd with
    | b s => cases k; exact kit_ty e
    | c nm =>
      obtain ⟨C, c1, rfl⟩ := k
      simp only [tabT] at e
      by_cases hn : nm ∈ cls
      · rw [if_pos hn] at e; cases e
        obtain ⟨C', c2, h2⟩ := (h nm hn).2
        cases c1.uniq c2; exact h2
      · rw [if_neg hn] at e; cases e
  cl := fun nm b e => by
    simp only [tabT] at e
    by_cases hn : nm ∈ cls
    · exact (h nm hn).1
    · rw [if_neg hn] at e; cases e
theorem tabT2_ok {K : PySem.W.Frag} {T U : String} {cls : List Str} (h : ∀ nm ∈ cls, ClsTy K nm ∧ NoSub K nm T ∧ NoSub K nm U) : TabOk K (tabT2 T U cls) fun t b => PySem.W.kitAny K t [.type T, .type U] = some b where
  ok := fun kd b t e k => by
    cases kd with
    | b s =>
      cases k
      simp only [tabT2] at e
      cases h1 : kitB s T with
      | none => rw [h1] at e; cases e
      | some r =>
        rw [h1] at e
        cases r with
        | true => cases e; exact kitAny_cons (b := true) (kit_ty h1) (fun z => by cases z) fun _ => rfl
        | false => exact kitAny_cons (b := false) (kit_ty h1) (fun _ => by
            cases b with
            | true => exact kitAny_cons (b := true) (kit_ty e) (fun z => by cases z) fun _ => rfl
            | false => exact kitAny_cons (b := false) (kit_ty e) (fun _ => kitAny_nil) fun z => by cases z) fun z => by cases z
    | c nm =>
      obtain ⟨C, c1, rfl⟩ := k
      simp only [tabT2] at e
      by_cases hn : nm ∈ cls
      · rw [if_pos hn] at e; cases e
        obtain ⟨_, ⟨C', c2, h2⟩, ⟨C'', c3, h3⟩⟩ := h nm hn
        cases c1.uniq c2; cases c1.uniq c3
        exact kitAny_cons (b := false) h2 (fun _ => kitAny_cons (b := false) h3 (fun _ => kitAny_nil) fun z => by cases z) fun z => by cases z
      · rw [if_neg hn] at e; cases e
  cl := fun nm b e => by
    simp only [tabT2] at e
    by_cases hn : nm ∈ cls
    · exact (h nm hn).1
    · rw [if_neg hn] at e; cases e
theorem tabC_ok {K : PySem.W.Frag} {nm0 : Str} {C0 : Addr} {others : List Str} (c0 : ClsAt K nm0 C0) (t0 : ClsTy K nm0) (hb : ∀ t ∈ ["NoneType", "bool", "int", "str", "tuple", "list", "dict"], PySem.W.kitOne K (.type t) (.ref C0) = some false)
    (h : ∀ nm ∈ others, ClsTy K nm ∧ ∃ C, ClsAt K nm C ∧ PySem.W.kitOne K (.ref C) (.ref C0) = some false) : TabOk K (tabC nm0 others) fun t b => PySem.W.kitOne K t (.ref C0) = some b where
  ok := fun kd b t e k => by
    cases kd with
    | b s =>
      cases k
      simp only [tabC] at e
      split at e
      · cases e; rename_i hs; exact hb s hs
      · cases e
    | c nm =>
      obtain ⟨C, c1, rfl⟩ := k
      simp only [tabC] at e
      by_cases hn : nm = nm0
      · rw [if_pos hn] at e; cases e; subst hn
        cases c1.uniq c0
        unfold PySem.W.kitOne; rw [if_pos (by simp)]
      · rw [if_neg hn] at e
        by_cases ho : nm ∈ others
        · rw [if_pos ho] at e; cases e
          obtain ⟨_, C', c2, h2⟩ := h nm ho
          cases c1.uniq c2; exact h2
        · rw [if_neg ho] at e; cases e
  cl := fun nm b e => by
    simp only [tabC] at e
    by_cases hn : nm = nm0
    · subst hn; exact t0
    · rw [if_neg hn] at e
      by_cases ho : nm ∈ others
      · exact (h nm ho).1
      · rw [if_neg ho] at e; cases e
end
end DL
/-! len, ==, in by the special methods of own classes (that raise nothing). -/
namespace DL
open PySem PySem.Spec PyProof.Rows L2
abbrev noE : XK := fun _ _ _ => False
section
variable {X : Cx} {cx : CXT} {k : Nat} {f C : Addr} {fd : FuncData} {ps : List Str} {sp : Sp} {E : XK} {pins : List (Addr × Obj)} {σ : L2.St} {H : Hp} {s : Shared} {Q : VK} {us : List Value} {vs : List V}
theorem run_fnA {A : Around} (F : FnG X.prog X.w X.K X.mg X.base cx k f fd ps sp) (hr : Room k A) (hgd : A.guards = some []) (fr : A.frames = X.A.frames)
    (hb : Binds X.K fd ps []) (hx : PassesAt cx X σ E) (I : Inv X pins σ H s) (r : Vals vs us)
    (h : sp vs H Q E) : wpAny (model X.prog X.w) A (call (.ref f) us) (EP X pins σ Q) X.xe s := by
  have hl : us.length = ps.length := by rw [← r.length]; exact F.len _ _ _ _ h
  have e0 : Env0 X.prog X.w X.K X.mg X.base A X.stack s H := by
    have e := I.env0
    exact ⟨by rw [fr]; exact e.frames, e.mod, e.bs, e.bsz, e.funs, e.frf, e.hok, e.bare⟩
  have bd := hb s us I.kIn (by rw [List.append_nil]; exact hl)
  rw [List.append_nil] at bd
  refine wpAny_call (codeAny_mono (F.run A X.stack s H ⟨us, []⟩ us vs Q E hr hgd e0 bd r h) fun z s' hq => ?_)
  match z, hq with
  | .error e, hq => exact hx pins H s e s' I hq
  | .ok (.ret u), hq => exact I.after hq
  | .ok .next, hq => exact hq.elim
  | .ok .brk, hq => exact hq.elim
  | .ok .cont, hq => exact hq.elim
/-- len(x) by an own __len__ -/
def rLenO (K : PySem.W.Frag) (nm : Str) (sp : Sp) : List V → Hp → VK → Prop := fun xs H Q => ∃ C a dx fs, ClsAt K nm C ∧ xs = [.ref a] ∧ H a = some (.ins C dx fs) ∧ sp [.ref a] H (fun v H' => ∃ n : Int, v = .int n ∧ (0 ≤ n ∧ n < 2 ^ 63) ∧ Q v H') noE
theorem call_lenO {nm : Str} (F : FnG X.prog X.w X.K X.mg X.base CX0 k f fd ps sp) (hr : Room (k + 1) X.A) (hgd : X.A.guards = some []) (c : ClsAt X.K nm C) (hm : Meth X.K C "__len__" f) (hb : Binds X.K fd ps []) : CallR X (.builtin "len") (rLenO X.K nm sp) := by
  intro pins s σ H xs us Q I r h
  obtain ⟨C', a, dx, fs, c', rfl, ha, q⟩ := h
  cases c.uniq c'
  obtain ⟨u, rfl, rx⟩ := vals1 r
  cases rx
  obtain ⟨mA, J, _⟩ := ins_get I.hok ha
  obtain ⟨od, J, _⟩ := J.look
  obtain ⟨m, hF⟩ := I.fr
  refine PySem.W.len_K hF I.ok.mod.kin J hm.at_ hm.fn ?_
  refine wpAny_mono (run_fnA (A := X.A.in1) (us := [.ref a]) (vs := [.ref a]) F hr.in1 hgd rfl hb (pass_0 (E := fun _ => noE) σ) I (.cons rfl .nil) q) (fun u s' z => ?_) fun _ _ z => z
  obtain ⟨v, H', I', rv, n, rfl, hn, q'⟩ := z
  obtain ⟨t, rfl⟩ := (show ∃ t, u = Value.int n t from rv)
  exact ⟨hn, .int n, H', I'.tok _, ⟨_, rfl⟩, q'⟩
/-- x == y by x's own __eq__ -/
def rEqO (K : PySem.W.Frag) (nm : Str) (sp : Sp) : R2 := fun x y H Q => ∃ C a dx fs t, ClsAt K nm C ∧ x = .ref a ∧ H a = some (.ins C dx fs) ∧ TyZ K H y t ∧ PySem.W.notFirst K C t = true ∧ sp [x, y] H (fun v H' => ∃ b : Bool, v = .bl b ∧ Q v H') noE
theorem op_eqO {nm : Str} (F : FnG X.prog X.w X.K X.mg X.base CX0 k f fd ps sp) (hr : Room k X.A) (hgd : X.A.guards = some []) (c : ClsAt X.K nm C) (hm : Meth X.K C "__eq__" f) (hb : Binds X.K fd ps []) : OpR X (compareOp .Eq) (rEqO X.K nm sp) := by
  intro pins s σ H x y u v Q I rx ry h
  obtain ⟨C', a, dx, fs, t, c', rfl, ha, ty, nf, q⟩ := h
  cases c.uniq c'
  cases rx
  obtain ⟨mA, J, _⟩ := ins_get I.hok ha
  obtain ⟨od, J, _⟩ := J.look
  obtain ⟨m, hF⟩ := I.fr
  obtain ⟨P, Z, p, _⟩ := kit_ofZ I ry ty
  show wpAny (model X.prog X.w) X.A (richCompare .Eq (.ref a) v) (EP X pins σ Q) X.xe s
  refine PySem.W.cmp_K (op := .Eq) hr.units0 hF I.ok.mod.kin J (Z.ty _ _ I.kIn p) nf hm.at_ hm.fn ?_
  refine wpAny_mono (run_fnA (A := X.A) (us := [.ref a, v]) (vs := [.ref a, y]) F hr hgd rfl hb (pass_0 (E := fun _ => noE) σ) I (.cons rfl (.cons ry .nil)) q) (fun u s' z => ?_) fun _ _ z => z
  obtain ⟨w, H', I', rv, b, rfl, q'⟩ := z
  cases (show u = Value.bool b from rv)
  exact ⟨.bl b, H', I', rfl, q'⟩
/-- v in x by x's own __contains__ -/
def rInO (K : PySem.W.Frag) (nm : Str) (neg : Bool) (sp : Sp) : R2 := fun y x H Q => ∃ C a dx fs, ClsAt K nm C ∧ x = .ref a ∧ H a = some (.ins C dx fs) ∧ sp [x, y] H (fun v H' => ∃ b : Bool, v = .bl b ∧ Q (.bl (b != neg)) H') noE
theorem op_inO {nm : Str} {neg : Bool} (F : FnG X.prog X.w X.K X.mg X.base CX0 k f fd ps sp) (hr : Room k X.A) (hgd : X.A.guards = some []) (c : ClsAt X.K nm C) (hm : Meth X.K C "__contains__" f) (hb : Binds X.K fd ps []) : OpR X (compareOp (if neg = true then .NotIn else .In)) (rInO X.K nm neg sp) := by
  intro pins s σ H y x v u Q I ry rx h
  obtain ⟨C', a, dx, fs, c', rfl, ha, q⟩ := h
  cases c.uniq c'
  cases rx
  obtain ⟨mA, J, _⟩ := ins_get I.hok ha
  obtain ⟨od, J, _⟩ := J.look
  obtain ⟨m, hF⟩ := I.fr
  have run := run_fnA (A := X.A) (us := [.ref a, v]) (vs := [.ref a, y]) F hr hgd rfl hb (pass_0 (E := fun _ => noE) σ) I (.cons rfl (.cons ry .nil)) q
  cases neg with
  | false =>
    refine PySem.W.in_K hF I.ok.mod.kin J hm.at_ hm.fn (wpAny_mono run (fun u s' z => ?_) fun _ _ z => z)
    obtain ⟨w, H', I', rv, b, rfl, q'⟩ := z
    cases (show u = Value.bool b from rv)
    exact wpAny_pure ⟨.bl b, H', I', rfl, by simpa using q'⟩
  | true =>
    refine PySem.W.notIn_K hF I.ok.mod.kin J hm.at_ hm.fn (wpAny_mono run (fun u s' z => ?_) fun _ _ z => z)
    obtain ⟨w, H', I', rv, b, rfl, q'⟩ := z
    cases (show u = Value.bool b from rv)
    exact wpAny_pure ⟨.bl (!b), H', I', rfl, by cases b <;> exact q'⟩
end
/-! ### over the plain functions -/
section
variable {K : PySem.W.Frag} {W : WX} {F : List DV → Mem → Res R} {n : Nat} {nm : Str} {C : Addr}
def eLenO (nm : Str) (F : List DV → Mem → Res R) (f : EM) : EM := fun δ μ => (frzV f δ μ).bind fun x μ1 => if isI nm "" x μ1 = true then match F [x] μ1 with
    | .ok (.dat (.int n)) μ2 => if 0 ≤ n ∧ n < 2 ^ 63 then .ok (.dat (.int n)) μ2 else .bad
    | _ => .bad
  else .bad
theorem snd_lenO {te : TE} {f : EM} (c : ClsAt K nm C) (h : SndE K W te f) (hn : ∀ xs μ, F xs μ ≠ .bad → xs.length = n) : SndE K W (tCB (rLenO K nm (spF K n F)) (tCons te tNil)) (eLenO nm F f) := fun ρ G H σ δ μ Q R E hp => by
  refine SndG.seq (t := te) h.toV R E hp fun x μ1 G1 H1 v t1 R1 E1 d1 hp1 => ?_
  by_cases hc : isI nm "" x μ1 = true
  case neg => rw [if_neg hc] at hp1; exact hp1.elim
  rw [if_pos hc] at hp1
  obtain ⟨a, dx, vs, rfl, ha', hl⟩ := isI_ok R1 d1 c hc
  refine ⟨C, a, dx, vs, c, rfl, ha', ?_⟩
  have hb : F [x] μ1 ≠ .bad := fun e => by rw [e] at hp1; exact hp1
  refine ⟨hn _ _ hb, ρ, G1, μ1, [x], R1, .cons d1 .nil, ?_⟩
  cases e : F [x] μ1 with
  | bad => exact hb e
  | exc y μ' => rw [e] at hp1; exact hp1.elim
  | ok r μ' =>
    rw [e] at hp1
    intro G' H' v t' R' q
    cases r with
    | dat d =>
      cases d with
      | int i =>
        simp only at hp1
        by_cases hi : 0 ≤ i ∧ i < 2 ^ 63
        · rw [if_pos hi] at hp1; cases q; exact ⟨i, rfl, hi, hp1 G' H' _ (t1.trans t') R' (Rp.int i)⟩
        · rw [if_neg hi] at hp1; exact hp1.elim
      | _ => exact hp1.elim
    | _ => exact hp1.elim
def boolR : Res R → Res R
  | .ok (.dat (.bl b)) μ => .ok (.dat (.bl b)) μ
  | _ => .bad
def eEqO (nm : Str) (others : List Str) (F : List DV → Mem → Res R) (fa fb : EM) : EM := fun δ μ => (frzV fa δ μ).bind fun x μ1 => (frzV fb δ μ1).bind fun y μ2 => if isI nm "" x μ2 = true ∧ ((kindOf μ2 y).bind (tabC nm others)).isSome = true then boolR (F [x, y] μ2) else .bad
theorem notFirst_of {t : Value} {b : Bool} (h : PySem.W.kitOne K t (.ref C) = some b) (hb : b = true → t = .ref C) : PySem.W.notFirst K C t = true := by
  unfold PySem.W.notFirst
  by_cases e : t = .ref C
  · subst e; simp
  · unfold PySem.W.kitOne at h
    rw [if_neg (by simpa using e)] at h
    unfold PySem.W.kitCls at h
    simp only at h
    split at h
    · cases b with
      | true => exact absurd (hb rfl) e
      | false => simp [h]
    · cases h
theorem snd_eqO {ta tb : TE} {fa fb : EM} {others : List Str} (c : ClsAt K nm C) (T : TabOk K (tabC nm others) fun t b => PySem.W.kitOne K t (.ref C) = some b) (ha : SndE K W ta fa) (hb : SndE K W tb fb) (hn : ∀ xs μ, F xs μ ≠ .bad → xs.length = n) : SndE K W (tOp (rEqO K nm (spF K n F)) ta tb) (eEqO nm others F fa fb) := fun ρ G H σ δ μ Q R E hp => by
  refine SndG.seq (t := ta) ha.toV R E hp fun x μ1 G1 H1 v t1 R1 E1 d1 hp1 => ?_
  refine SndG.seq (t := tb) hb.toV R1 E1 (hp1.shiftE t1) fun y μ2 G2 H2 w t2 R2 E2 d2 hp2 => ?_
  have hp2 := hp2.shiftE t2
  have d1 := d1.mono t2.exG fun _ _ q => q
  by_cases hc : isI nm "" x μ2 = true ∧ ((kindOf μ2 y).bind (tabC nm others)).isSome = true
  case neg => rw [if_neg hc] at hp2; exact hp2.elim
  rw [if_pos hc] at hp2
  obtain ⟨hc1, hc2⟩ := hc
  obtain ⟨a, dx, vs, rfl, ha', hl⟩ := isI_ok R2 d1 c hc1
  cases ek : kindOf μ2 y with
  | none => rw [ek] at hc2; cases hc2
  | some kd =>
    rw [ek] at hc2
    simp only [Option.bind_some] at hc2
    cases et : tabC nm others kd with
    | none => rw [et] at hc2; cases hc2
    | some b =>
      obtain ⟨t, k1, k2⟩ := kind_ok R2 d2 (fun nm' e => T.cl nm' b (e ▸ et)) ek
      have hk := T.ok kd b t et k1
      refine ⟨C, a, dx, vs, t, c, rfl, ha', k2, notFirst_of hk (fun hb => ?_), ?_⟩
      · subst hb
        cases kd with
        | b s => simp only [tabC] at et; split at et <;> cases et
        | c nm' =>
          simp only [tabC] at et
          by_cases e : nm' = nm
          · subst e; obtain ⟨C', c', rfl⟩ := k1; rw [c.uniq c']
          · rw [if_neg e] at et; split at et <;> cases et
      · have hbd : F [x, y] μ2 ≠ .bad := fun e => by rw [e] at hp2; exact hp2
        refine ⟨hn _ _ hbd, ρ, G2, μ2, [x, y], R2, .cons d1 (.cons d2 .nil), ?_⟩
        cases e : F [x, y] μ2 with
        | bad => exact hbd e
        | exc y μ' => rw [e] at hp2; exact hp2.elim
        | ok r μ' =>
          rw [e] at hp2
          intro G' H' v t' R' q
          cases r with
          | dat d =>
            cases d with
            | bl i => cases q; exact ⟨i, rfl, hp2 G' H' _ t' R' (Rp.bl i)⟩
            | _ => exact hp2.elim
          | _ => exact hp2.elim
def negR (neg : Bool) : Res R → Res R
  | .ok (.dat (.bl b)) μ => .ok (.dat (.bl (b != neg))) μ
  | _ => .bad
def eInO (nm : Str) (neg : Bool) (F : List DV → Mem → Res R) (fa fb : EM) : EM := fun δ μ => (frzV fa δ μ).bind fun y μ1 => (frzV fb δ μ1).bind fun x μ2 => if isI nm "" x μ2 = true then negR neg (F [x, y] μ2) else .bad
theorem snd_inO {ta tb : TE} {fa fb : EM} {neg : Bool} (c : ClsAt K nm C) (ha : SndE K W ta fa) (hb : SndE K W tb fb) (hn : ∀ xs μ, F xs μ ≠ .bad → xs.length = n) : SndE K W (tOp (rInO K nm neg (spF K n F)) ta tb) (eInO nm neg F fa fb) := fun ρ G H σ δ μ Q R E hp => by
  refine SndG.seq (t := ta) ha.toV R E hp fun y μ1 G1 H1 w t1 R1 E1 d1 hp1 => ?_
  refine SndG.seq (t := tb) hb.toV R1 E1 (hp1.shiftE t1) fun x μ2 G2 H2 v t2 R2 E2 d2 hp2 => ?_
  have hp2 := hp2.shiftE t2
  have d1 := d1.mono t2.exG fun _ _ q => q
  by_cases hc : isI nm "" x μ2 = true
  case neg => rw [if_neg hc] at hp2; exact hp2.elim
  rw [if_pos hc] at hp2
  obtain ⟨a, dx, vs, rfl, ha', hl⟩ := isI_ok R2 d2 c hc
  refine ⟨C, a, dx, vs, c, rfl, ha', ?_⟩
  have hbd : F [x, y] μ2 ≠ .bad := fun e => by rw [e] at hp2; exact hp2
  refine ⟨hn _ _ hbd, ρ, G2, μ2, [x, y], R2, .cons d2 (.cons d1 .nil), ?_⟩
  cases e : F [x, y] μ2 with
  | bad => exact hbd e
  | exc y μ' => rw [e] at hp2; exact hp2.elim
  | ok r μ' =>
    rw [e] at hp2
    intro G' H' v t' R' q
    cases r with
    | dat d =>
      cases d with
      | bl i => cases q; exact ⟨i, rfl, hp2 G' H' _ t' R' (Rp.bl _)⟩
      | _ => exact hp2.elim
    | _ => exact hp2.elim
end
section
variable {X : Cx} {W : WX} {P : Program} {w : World} {K : PySem.W.Frag} {mg : Str → Option Value} {base : Heap} {k n : Nat} {nm : Str} {F : List DV → Mem → Res R} {a b e : Expr} {ta tb te : TE} {fa fb f : EM} {p pos : Pos}
theorem pm_lenO (Fn : MthD P w K mg base CX0 k nm "__len__" n F) (hr : Room (k + 1) X.A) (hgd : X.A.guards = some []) (hg : Gl X "len") (hm : X.mg "len" = none) (h : PM X W e te f) (h1 : X.prog = P := by rfl) (h2 : X.w = w := by rfl) (h3 : X.K = K := by rfl) (h4 : X.mg = mg := by rfl) (h5 : X.base = base := by rfl)
    (hs : starEach [e] X.env = (false, eval e X.env) :: starEach [] X.env := by rfl) (hpl : (backTo pos (starEach [] X.env)).any (·.1) = false := by rfl) :
    PM X W (.Call (.Name "len" p) [e] [] pos) (tCB (rLenO K nm (spF K n F)) (tCons te tNil)) (eLenO nm F f) := by
  subst h1 h2 h3 h4 h5
  obtain ⟨C, f, fd, ps, hn, c, G, cl, hme, hb⟩ := Fn.ex
  exact ⟨pe_callB (call_lenO G hr hgd c hme hb) hg hm PySem.boot_len (pa_cons h.pe pa_nil hs) (he := hs) (hpl := hpl), snd_lenO c h.sd Fn.ar⟩
theorem pm_eqO {others : List Str} (Fn : MthD P w K mg base CX0 k nm "__eq__" n F) (hr : Room k X.A) (hgd : X.A.guards = some []) (T : ∀ C, ClsAt K nm C → TabOk K (tabC nm others) fun t b => PySem.W.kitOne K t (.ref C) = some b) (ha : PM X W a ta fa) (hb : PM X W b tb fb) (h1 : X.prog = P := by rfl) (h2 : X.w = w := by rfl) (h3 : X.K = K := by rfl) (h4 : X.mg = mg := by rfl) (h5 : X.base = base := by rfl) :
    PM X W (.Compare a [.Eq] [b] pos) (tOp (rEqO K nm (spF K n F)) ta tb) (eEqO nm others F fa fb) := by
  subst h1 h2 h3 h4 h5
  obtain ⟨C, f, fd, ps, hn, c, G, cl, hme, hbd⟩ := Fn.ex
  exact ⟨pe_cmpR (op_eqO G hr hgd c hme hbd) ha.pe hb.pe (nomark _), snd_eqO c (T C c) ha.sd hb.sd Fn.ar⟩
theorem pm_inO (Fn : MthD P w K mg base CX0 k nm "__contains__" n F) (hr : Room k X.A) (hgd : X.A.guards = some []) (ha : PM X W a ta fa) (hb : PM X W b tb fb) (h1 : X.prog = P := by rfl) (h2 : X.w = w := by rfl) (h3 : X.K = K := by rfl) (h4 : X.mg = mg := by rfl) (h5 : X.base = base := by rfl) (hmk : behindInMarks .In b = false := by rfl) :
    PM X W (.Compare a [.In] [b] pos) (tOp (rInO K nm false (spF K n F)) ta tb) (eInO nm false F fa fb) := by
  subst h1 h2 h3 h4 h5
  obtain ⟨C, f, fd, ps, hn, c, G, cl, hme, hbd⟩ := Fn.ex
  exact ⟨pe_cmpR (op_inO (neg := false) G hr hgd c hme hbd) ha.pe hb.pe hmk, snd_inO c ha.sd hb.sd Fn.ar⟩
theorem pm_notInO (Fn : MthD P w K mg base CX0 k nm "__contains__" n F) (hr : Room k X.A) (hgd : X.A.guards = some []) (ha : PM X W a ta fa) (hb : PM X W b tb fb) (h1 : X.prog = P := by rfl) (h2 : X.w = w := by rfl) (h3 : X.K = K := by rfl) (h4 : X.mg = mg := by rfl) (h5 : X.base = base := by rfl) (hmk : behindInMarks .NotIn b = false := by rfl) :
    PM X W (.Compare a [.NotIn] [b] pos) (tOp (rInO K nm true (spF K n F)) ta tb) (eInO nm true F fa fb) := by
  subst h1 h2 h3 h4 h5
  obtain ⟨C, f, fd, ps, hn, c, G, cl, hme, hbd⟩ := Fn.ex
  exact ⟨pe_cmpR (op_inO (neg := true) G hr hgd c hme hbd) ha.pe hb.pe hmk, snd_inO c ha.sd hb.sd Fn.ar⟩
end
end DL
/-! More operations; a statement that is not reached; methods by their bodies. -/
namespace DL
open PySem PySem.Spec PyProof.Rows L2
section
variable {K : PySem.W.Frag} {W : WX} {ρ : Pm} {G H : Hp} {μ : Mem} {σ : Slots} {δ : Env}
theorem paired_app {α β : Type} {P : α → β → Prop} : ∀ {a c : List α} {b d : List β}, Paired P a b → Paired P c d → Paired P (a ++ c) (b ++ d)
  | _, _, _, _, .nil, h => h
  | _, _, _, _, .cons r t, h => .cons r (paired_app t h)
theorem paired_rep {α β : Type} {P : α → β → Prop} {a : List α} {b : List β} (h : Paired P a b) : ∀ k : Nat, Paired P (List.replicate k a).flatten (List.replicate k b).flatten
  | 0 => .nil
  | k + 1 => by rw [List.replicate_succ, List.replicate_succ, List.flatten_cons, List.flatten_cons]; exact paired_app h (paired_rep h k)
def rMulX : R2 := fun x y H Q => rI CMul (fun i j => V.int (i * j)) x y H Q ∨ rRep x y H Q
def dMulX (x y : DV) (μ : Mem) : Res R := match asI y with
  | none => .bad
  | some j => match asI x with
    | some i => if cMul i j = true then .ok (.dat (.int (i * j))) μ else .bad
    | none => match asM μ x with
      | some xs => if -(2 ^ 63) ≤ j ∧ j < 2 ^ 63 ∧ xs.length * j.toNat ≤ sizeLine then .ok (.nl (List.replicate j.toNat xs).flatten) μ else .bad
      | none => .bad
theorem od_mulX : OpD K rMulX dMulX := fun W ρ G H σ μ v w x y Q R hx hy hp => by
  unfold dMulX at hp
  cases ej : asI y with
  | none => rw [ej] at hp; exact hp.elim
  | some j =>
    rw [ej] at hp
    simp only at hp
    have ew := asI_ok hy ej
    subst ew
    cases ei : asI x with
    | some i =>
      rw [ei] at hp
      simp only at hp
      have ev := asI_ok hx ei
      subst ev
      by_cases c : cMul i j = true
      · rw [if_pos c] at hp
        refine .inl ⟨i, j, rfl, rfl, ?_, hp.okD R (.int _)⟩
        unfold cMul at c
        rw [Bool.or_eq_true, decide_eq_true_eq, decide_eq_true_eq] at c
        exact c
      · rw [if_neg c] at hp; exact hp.elim
    | none =>
      rw [ei] at hp
      simp only at hp
      cases em : asM μ x with
      | none => rw [em] at hp; exact hp.elim
      | some xs =>
        rw [em] at hp
        simp only at hp
        by_cases c : -(2 ^ 63) ≤ j ∧ j < 2 ^ 63 ∧ xs.length * j.toNat ≤ sizeLine
        · rw [if_pos c] at hp
          obtain ⟨a, vs, rfl, h2, h3⟩ := asM_ok R hx em
          refine .inr ⟨a, j, vs, rfl, rfl, h2, c.1, c.2.1, by rw [paired_len h3]; exact c.2.2, fun p hn => ?_⟩
          exact new_list R (Tr.refl _ _ _) hn (paired_rep h3 _) hp
        · rw [if_neg c] at hp; exact hp.elim
def d2 (g : DV → DV → Mem → Res R) (xs : List DV) (μ : Mem) : Res R := match xs with
  | [x, y] => g x y μ
  | _ => .bad
def dMM (f : Int → Int → Int) (x y : DV) (μ : Mem) : Res R := match asI x with
  | none => .bad
  | some i => match asI y with
    | none => .bad
    | some j => .ok (.dat (.int (f i j))) μ
theorem cd_mm (f : Int → Int → Int) : CallD K (fun xs H Q => ∃ i j, xs = [.int i, .int j] ∧ Q (.int (f i j)) H) (d2 (dMM f)) := fun W ρ G H σ μ vs xs Q R hx hp => by
  unfold d2 at hp
  split at hp
  · rename_i x y
    cases hx with
    | cons h1 h2 =>
      cases h2 with
      | cons h2 h3 =>
        cases h3
        unfold dMM at hp
        cases e1 : asI x with
        | none => rw [e1] at hp; exact hp.elim
        | some i =>
          rw [e1] at hp
          simp only at hp
          cases e2 : asI y with
          | none => rw [e2] at hp; exact hp.elim
          | some j =>
            rw [e2] at hp
            have a1 := asI_ok h1 e1
            have a2 := asI_ok h2 e2
            subst a1 a2
            exact ⟨i, j, rfl, hp.okD R (.int _)⟩
  · exact hp.elim
def gBad : SM := fun _ _ _ => .bad
theorem sm_bad {X : Cx} {W : WX} {st : Stmt} : PSM X W st (fun _ _ _ => False) gBad := ⟨⟨fun _ _ _ _ _ _ h => h.elim⟩, fun _ _ _ _ _ _ _ _ _ _ hp => hp.elim⟩
end
section
variable {X : Cx} {W : WX} {a b : Expr} {ta tb : TE} {fa fb : EM} {pos : Pos}
theorem pm_mulX (ha : PM X W a ta fa) (hb : PM X W b tb fb) : PM X W (.BinOp a .Mult b pos) (tOp rMulX ta tb) (eOp dMulX fa fb) := pm_op (OpR.or op_mul op_rep) od_mulX ha hb
end
section
variable {X : Cx} {W : WX} {P : Program} {w : World} {K : PySem.W.Frag} {mg : Str → Option Value} {base : Heap} {k n : Nat} {nm : Str} {F : List DV → Mem → Res R} {a b e : Expr} {ta tb te : TE} {fa fb f : EM} {p pos : Pos}
theorem pt_isN {k : Nat} {pc : Pos} (ha : PM X W a ta fa) : PMT X W (.Compare a [.Is] [.Constant .none k pc] pos) (tTest (tIsN ta)) (tmB (eIsN fa)) := ⟨L2.pt_cmp (pc_isN ha.pe), snd_tmB (snd_isN ha.sd) fun _ _ _ h => h⟩
theorem pt_notN {k : Nat} {pc : Pos} (ha : PM X W a ta fa) : PMT X W (.Compare a [.IsNot] [.Constant .none k pc] pos) (tTest (tNotN ta)) (tmB (eNotN fa)) := ⟨L2.pt_cmp (pc_notN ha.pe), snd_tmB (snd_notN ha.sd) fun _ _ _ h => h⟩
theorem pt_eqO {others : List Str} (Fn : MthD P w K mg base CX0 k nm "__eq__" n F) (hr : Room k X.A) (hgd : X.A.guards = some []) (T : ∀ C, ClsAt K nm C → TabOk K (tabC nm others) fun t b => PySem.W.kitOne K t (.ref C) = some b) (ha : PM X W a ta fa) (hb : PM X W b tb fb) (h1 : X.prog = P := by rfl) (h2 : X.w = w := by rfl) (h3 : X.K = K := by rfl) (h4 : X.mg = mg := by rfl) (h5 : X.base = base := by rfl) :
    PMT X W (.Compare a [.Eq] [b] pos) (tTest (tOp (rEqO K nm (spF K n F)) ta tb)) (tmB (eEqO nm others F fa fb)) := by
  subst h1 h2 h3 h4 h5
  obtain ⟨C, f, fd, ps, hn, c, G, cl, hme, hbd⟩ := Fn.ex
  exact ⟨pt_cmpR (op_eqO G hr hgd c hme hbd) ha.pe hb.pe (nomark _), snd_tmB (snd_eqO c (T C c) ha.sd hb.sd Fn.ar) fun _ _ _ h => h⟩
theorem pt_inO (Fn : MthD P w K mg base CX0 k nm "__contains__" n F) (hr : Room k X.A) (hgd : X.A.guards = some []) (ha : PM X W a ta fa) (hb : PM X W b tb fb) (h1 : X.prog = P := by rfl) (h2 : X.w = w := by rfl) (h3 : X.K = K := by rfl) (h4 : X.mg = mg := by rfl) (h5 : X.base = base := by rfl) (hmk : behindInMarks .In b = false := by rfl) :
    PMT X W (.Compare a [.In] [b] pos) (tTest (tOp (rInO K nm false (spF K n F)) ta tb)) (tmB (eInO nm false F fa fb)) := by
  subst h1 h2 h3 h4 h5
  obtain ⟨C, f, fd, ps, hn, c, G, cl, hme, hbd⟩ := Fn.ex
  exact ⟨pt_cmpR (op_inO (neg := false) G hr hgd c hme hbd) ha.pe hb.pe hmk, snd_tmB (snd_inO c ha.sd hb.sd Fn.ar) fun _ _ _ h => h⟩
theorem pt_notInO (Fn : MthD P w K mg base CX0 k nm "__contains__" n F) (hr : Room k X.A) (hgd : X.A.guards = some []) (ha : PM X W a ta fa) (hb : PM X W b tb fb) (h1 : X.prog = P := by rfl) (h2 : X.w = w := by rfl) (h3 : X.K = K := by rfl) (h4 : X.mg = mg := by rfl) (h5 : X.base = base := by rfl) (hmk : behindInMarks .NotIn b = false := by rfl) :
    PMT X W (.Compare a [.NotIn] [b] pos) (tTest (tOp (rInO K nm true (spF K n F)) ta tb)) (tmB (eInO nm true F fa fb)) := by
  subst h1 h2 h3 h4 h5
  obtain ⟨C, f, fd, ps, hn, c, G, cl, hme, hbd⟩ := Fn.ex
  exact ⟨pt_cmpR (op_inO (neg := true) G hr hgd c hme hbd) ha.pe hb.pe hmk, snd_tmB (snd_inO c ha.sd hb.sd Fn.ar) fun _ _ _ h => h⟩
end
theorem kit_noT {K : PySem.W.Frag} {C : Addr} {T : String} (h : PySem.W.subIn K (.ref C) (.type T) = some false) (hm : PySem.W.kitMeta T = true) : PySem.W.kitOne K (.ref C) (.type T) = some false := by
  unfold PySem.W.kitOne PySem.W.kitCls; rw [if_neg (by simp)]; simp only; rw [if_pos hm]; exact h
theorem kit_noB {K : PySem.W.Frag} {C : Addr} {t : String} (c : PySem.W.isClsIn K C = true) (ty : PySem.W.typeIn K (.ref C) = some (.type "type")) (h : PySem.W.subIn K (.type t) (.ref C) = some false) : PySem.W.kitOne K (.type t) (.ref C) = some false := by
  unfold PySem.W.kitOne PySem.W.kitCls; rw [if_neg (by simp)]; simp only
  rw [if_pos (by rw [show (PySem.W.clsIn K C).isSome = true from c, ty]; decide)]; exact h
theorem kit_noO {K : PySem.W.Frag} {C C' : Addr} (c : PySem.W.isClsIn K C = true) (ty : PySem.W.typeIn K (.ref C) = some (.type "type")) (ne : (C' == C) = false) (h : PySem.W.subIn K (.ref C') (.ref C) = some false) : PySem.W.kitOne K (.ref C') (.ref C) = some false := by
  unfold PySem.W.kitOne PySem.W.kitCls; rw [if_neg (by simpa using ne)]; simp only
  rw [if_pos (by rw [show (PySem.W.clsIn K C).isSome = true from c, ty]; decide)]; exact h
def clsBody : Stmt → List Stmt
  | .ClassDef _ _ _ body _ _ _ _ _ _ _ => body
  | _ => []
/-! ### methods -/
section
variable {P : Program} {w : World} {K : PySem.W.Frag} {mg : Str → Option Value} {base : Heap}
theorem fn_okB {x qual : Str} {st : Stmt} {f : Addr} {fd : FuncData} {Nm ps : List Str} {k n m : Nat} {g : SM} (F : Fun K x qual st f fd) (S : FnScope Nm ps (defScope st)) (hn : ps.length = n) (hmn : Nm.length = n + m)
    (body : ∀ (cdv : Value) (A : Around) (out : List PySem.Env) (s : Shared) (H : Hp) (E : XK), Room k (A.deeper (envOfC qual (defScope st) s.heap.objs.size f cdv)) → A.guards = some [] →
      ∃ ts, PSMs (cxOf CX0 P w K mg base Nm qual (defScope st) f cdv A out s H E).nox (fun cls d _ H => E cls d H) (defBody st) ts g) :
    FnG P w K mg base CX0 (k + 1) f fd ps (spF K n (callD g n m)) := by
  obtain ⟨oc, od, kV, doc, pm, an, cdv, ct, osl, rfl, lk, hcd⟩ := F.ex
  refine fnG_of lk hcd S (fun vs H Q E h => by rw [h.1, hn]) fun A out s H vs Q E hr hg hsp => ?_
  obtain ⟨ts, b⟩ := body cdv A out s H E hr hg
  refine ⟨ts, b.ps.nox, ?_⟩
  have e : Nm.length - n = m := by omega
  exact body_ok (n := n) b.sd (by omega) (by rw [e]; exact sp_callD hsp)
theorem fn_okM {cn x qual : Str} {st : Stmt} {C f : Addr} {fd : FuncData} {Nm ps : List Str} {k n m : Nat} {g : SM} (F : Fun K x qual st f fd) (S : FnScope Nm ps (defScope st)) (hc : ClsAt K cn C) (cl : Cls K C) (hm : Meth K C x f) (hn : ps.length = n) (hmn : Nm.length = n + m)
    (hb : ∀ (kV doc pm : Value) (an : Option Addr) (cdv ct : Value) (us : List Value), us.length = ps.length → bindArgs (PySem.W.fnOf x qual (defArgs st) (defBody st) (defScope st) .none kV doc pm an cdv ct) ⟨us, []⟩ = pure (ps.zip us))
    (body : ∀ (cdv : Value) (A : Around) (out : List PySem.Env) (s : Shared) (H : Hp) (E : XK), Room k (A.deeper (envOfC qual (defScope st) s.heap.objs.size f cdv)) → A.guards = some [] →
      ∃ ts, PSMs (cxOf CX0 P w K mg base Nm qual (defScope st) f cdv A out s H E).nox (fun cls d _ H => E cls d H) (defBody st) ts g) :
    MthD P w K mg base CX0 (k + 1) cn x n (callD g n m) :=
  ⟨callD_ar, C, f, fd, ps, hn, hc, fn_okB F S hn hmn body, cl, hm, F.binds hb⟩
theorem fn_okI {cn x qual : Str} {st : Stmt} {C f : Addr} {fd : FuncData} {Nm ps : List Str} {k n m : Nat} {g : SM} (F : Fun K x qual st f fd) (S : FnScope Nm ps (defScope st)) (hc : ClsAt K cn C) (hmg : mg cn = some (.ref C)) (M : Mk K C f) (hn : ps.length = n) (hmn : Nm.length = n + m)
    (hb : ∀ (kV doc pm : Value) (an : Option Addr) (cdv ct : Value) (us : List Value), us.length = ps.length → bindArgs (PySem.W.fnOf x qual (defArgs st) (defBody st) (defScope st) .none kV doc pm an cdv ct) ⟨us, []⟩ = pure (ps.zip us))
    (body : ∀ (cdv : Value) (A : Around) (out : List PySem.Env) (s : Shared) (H : Hp) (E : XK), Room k (A.deeper (envOfC qual (defScope st) s.heap.objs.size f cdv)) → A.guards = some [] →
      ∃ ts, PSMs (cxOf CX0 P w K mg base Nm qual (defScope st) f cdv A out s H E).nox (fun cls d _ H => E cls d H) (defBody st) ts g) :
    MakD P w K mg base CX0 (k + 1) cn n (callD g n m) :=
  ⟨callD_ar, C, f, fd, ps, hn, hc, hmg, fn_okB F S hn hmn body, M, F.binds hb⟩
end
end DL
/-! A place of this def that changes no more is taken for data. -/
namespace DL
open PySem PySem.Spec PyProof.Rows L2
def noLoc (n : Nat) : DV → Bool
  | .dat _ => true
  | .loc m => !decide (m = n)
def noLocE (n : Nat) (δ : Env) : Bool := δ.all fun o => match o with
  | none => true
  | some x => noLoc n x
def noLocP (n : Nat) : Pl → Bool
  | .lst xs => xs.all (noLoc n)
  | .dct kvs => kvs.all fun p => noLoc n p.2
  | .ins _ fs => fs.all fun p => noLoc n p.2
  | .own => true
  | .gone => true
def gFrz (i : Nat) : SM := fun N δ μ => match δ[i]? with
  | some (some (.loc n)) => if N ≤ n ∧ noLocE n (δ.set i none) = true ∧ (μ.drop (n + 1)).all (noLocP n) = true then match μ[n]? with
      | some (.lst xs) => match allDat xs with
        | some ds => .next (δ.set i (some (.dat (.lst ds)))) (μ.set n .gone)
        | none => .bad
      | _ => .bad
    else .bad
  | _ => .bad
section
variable {K : PySem.W.Frag} {W : WX} {ρ : Pm} {G H : Hp} {μ : Mem} {σ : Slots} {δ : Env} {N n : Nat} {a : Addr}
def cutP (ρ : Pm) (n : Nat) : Pm := fun m => if m = n then none else ρ m
theorem cutP_some {m : Nat} {b : Addr} (h : cutP ρ n m = some b) : m ≠ n ∧ ρ m = some b := by
  unfold cutP at h
  by_cases e : m = n
  · rw [if_pos e] at h; cases h
  · rw [if_neg e] at h; exact ⟨e, h⟩
theorem cutP_of {m : Nat} {b : Addr} (e : m ≠ n) (h : ρ m = some b) : cutP ρ n m = some b := by unfold cutP; rw [if_neg e]; exact h
theorem noLoc_ok {G' : Hp} {v : V} {x : DV} (ex : Ex G G') (h : DvOk K ρ G v x) (e : noLoc n x = true) : DvOk K (cutP ρ n) G' v x := by
  cases x with
  | dat d => exact Rp.mono ex h
  | loc m =>
    obtain ⟨b, rfl, q⟩ := h
    simp only [noLoc, Bool.not_eq_true', decide_eq_false_iff_not] at e
    exact ⟨b, rfl, cutP_of e q⟩
theorem noLocs_ok {G' : Hp} (ex : Ex G G') : ∀ {vs : List V} {xs : List DV}, DvL K ρ G vs xs → xs.all (noLoc n) = true → DvL K (cutP ρ n) G' vs xs
  | _, _, .nil, _ => .nil
  | _, _, .cons r t, e => by
    simp only [List.all_cons, Bool.and_eq_true] at e
    exact .cons (noLoc_ok ex r e.1) (noLocs_ok ex t e.2)
theorem freeze_place {xs : List DV} {ds : List D} {i : Nat} (R : Rel K ρ G H μ) (E : EnvOk K ρ G σ δ) (hi : δ[i]? = some (some (.loc n))) (hN : N ≤ n) (hE : noLocE n (δ.set i none) = true) (hμ : (μ.drop (n + 1)).all (noLocP n) = true) (hn : μ[n]? = some (.lst xs)) (hd : allDat xs = some ds) :
    ∃ ρ' G', TrS N ρ G H ρ' G' H ∧ Rel K ρ' G' H (μ.set n .gone) ∧ EnvOk K ρ' G' σ (δ.set i (some (.dat (.lst ds)))) := by
  obtain ⟨_, a, vs, h1, h2, h3⟩ := R.pl n _ hn
  have g0 : G a = none := R.nG n a h1
  have ex : Ex G (upd G a (.lst vs)) := Ex.new g0
  have hlt : n < μ.length := R.lt n a h1
  have hv : Rp K (upd G a (.lst vs)) (.ref a) (.lst ds) := Rp.lst upd_same (RpL.mono ex (allDat_ok hd h3))
  refine ⟨cutP ρ n, upd G a (.lst vs), ⟨fun m hm => ?_, ex, fun _ _ _ h => h, fun _ h => h, fun b h => ?_, fun m b h => .inl (cutP_some h).2⟩, ⟨fun b o h => ?_, fun m k b h h' => R.inj m k b (cutP_some h).2 (cutP_some h').2, fun m b h => ?_, fun m b h => ?_, fun m b h => R.hs m b (cutP_some h).2, fun m p h => ?_⟩, ⟨?_, fun j x hj => ?_⟩⟩
  · unfold cutP; rw [if_neg (by omega)]
  · by_cases e : b = a
    · subst e; exact .inr (.inr ⟨n, hN, h1⟩)
    · rw [upd_ne e] at h; exact .inl h
  · by_cases e : b = a
    · subst e; rw [upd_same] at h; cases h; exact h2
    · rw [upd_ne e] at h; exact R.ex b o h
  · obtain ⟨h', q⟩ := cutP_some h
    have e : b ≠ a := fun e => h' (R.inj m n a (e ▸ q) h1)
    rw [upd_ne e]; exact R.nG m b q
  · rw [List.length_set]; exact R.lt m b (cutP_some h).2
  · by_cases e : m = n
    · subst e
      rw [List.getElem?_set_self hlt] at h
      cases h
      show cutP ρ m m = none
      unfold cutP; rw [if_pos rfl]
    · rw [List.getElem?_set_ne (fun z => e z.symm)] at h
      have z := R.pl m p h
      have nb : ∀ x : DV, x.below m → m < n → noLoc n x = true := fun x hx hm => by
        cases x with
        | dat d => rfl
        | loc k => have : k < m := hx; simp only [noLoc, Bool.not_eq_true', decide_eq_false_iff_not]; omega
      have hp : noLocP n p = true := by
        by_cases hm : m < n
        · cases p with
          | lst ys => exact List.all_eq_true.mpr fun x hx => nb x (z.1 x hx) hm
          | dct kvs => exact List.all_eq_true.mpr fun x hx => nb x.2 (z.1 x hx) hm
          | ins nm fs => exact List.all_eq_true.mpr fun x hx => nb x.2 (z.1 x hx) hm
          | own => rfl
          | gone => rfl
        · refine List.all_eq_true.mp hμ p (List.mem_of_getElem? (i := m - (n + 1)) ?_)
          rw [List.getElem?_drop, show n + 1 + (m - (n + 1)) = m by omega]; exact h
      cases p with
      | lst ys => obtain ⟨b, c, us, k1, k2, k3⟩ := z; exact ⟨b, c, us, cutP_of e k1, k2, noLocs_ok ex k3 hp⟩
      | dct kvs =>
        obtain ⟨b, c, o, us, k1, k2, k4, k3⟩ := z
        exact ⟨b, c, o, us, cutP_of e k1, k2, k4, noLocs_ok ex k3 (by rw [List.all_map]; exact hp)⟩
      | own => obtain ⟨b, c, k1, k2⟩ := z; exact ⟨b, c, cutP_of e k1, k2⟩
      | ins nm fs =>
        obtain ⟨b, c, dx, C, us, k, hk, k1, k2, cl, k4, k5, k3⟩ := z
        have hkn : k ≠ n := fun e => by
          rw [e, h1] at hk; cases hk.2; rw [h2] at k4; cases k4
        exact ⟨b, c, dx, C, us, k, ⟨hk.1, cutP_of hkn hk.2⟩, cutP_of e k1, k2, cl, k4, k5, noLocs_ok ex k3 (by rw [List.all_map]; exact hp)⟩
      | gone => show cutP ρ n m = none; unfold cutP; rw [if_neg e]; exact z
  · rw [List.length_set]; exact E.len
  · by_cases e : i = j
    · subst e
      have hl : i < δ.length := (List.getElem?_eq_some_iff.mp hi).1
      rw [List.getElem?_set_self hl] at hj
      cases hj
      obtain ⟨v, k1, b, rfl, k2⟩ := E.at_ i _ hi
      rw [h1] at k2; cases k2
      exact ⟨_, k1, hv⟩
    · rw [List.getElem?_set_ne e] at hj
      obtain ⟨v, k1, k2⟩ := E.at_ j x hj
      have hx : noLoc n x = true := by
        have := List.all_eq_true.mp hE (some x) (List.mem_of_getElem? (i := j) (by rw [List.getElem?_set_ne e]; exact hj))
        exact this
      exact ⟨v, k1, noLoc_ok ex k2 hx⟩
theorem snd_frz {t : TS} {g : SM} (i : Nat) (h : SndS K W t g) : SndS K W t (gSeq (gFrz i) g) := fun N ρ G H σ δ μ D R E hp => by
  unfold gSeq gFrz at hp
  match ei : δ[i]? with
  | none => simp only [ei] at hp; exact hp.elim
  | some none => simp only [ei] at hp; exact hp.elim
  | some (some (.dat _)) => simp only [ei] at hp; exact hp.elim
  | some (some (.loc n)) =>
    simp only [ei] at hp
    by_cases hc : N ≤ n ∧ noLocE n (δ.set i none) = true ∧ (μ.drop (n + 1)).all (noLocP n) = true
    case neg => rw [if_neg hc] at hp; exact hp.elim
    rw [if_pos hc] at hp
    match em : μ[n]? with
    | none => simp only [em] at hp; exact hp.elim
    | some (.dct _) => simp only [em] at hp; exact hp.elim
    | some .own => simp only [em] at hp; exact hp.elim
    | some .gone => simp only [em] at hp; exact hp.elim
    | some (.ins _ _) => simp only [em] at hp; exact hp.elim
    | some (.lst xs) =>
      simp only [em] at hp
      cases ed : allDat xs with
      | none => rw [ed] at hp; exact hp.elim
      | some ds =>
        rw [ed] at hp
        obtain ⟨ρ', G', T', R', E'⟩ := freeze_place R E ei hc.1 hc.2.1 hc.2.2 em ed
        exact h N ρ' G' H σ _ _ D R' E' (PostS.shift T' hp)
end
theorem ss_frz {X : Cx} {W : WX} {ss : List Stmt} {t : TS} {g : SM} (i : Nat) (h : PSMs X W ss t g) : PSMs X W ss t (gSeq (gFrz i) g) := ⟨h.ps, snd_frz i h.sd⟩
end DL
/-! Dicts with int and text keys: get, in, store, lock. -/
namespace DL
open PySem PySem.Spec PyProof.Rows L2
def dval {α : Type} (kvs : List (Ky × α)) (k : Ky) : Option α := (kvs.find? fun p => decide (p.1 = k)).map (·.2)
def dput {α : Type} (kvs : List (Ky × α)) (k : Ky) (v : α) : List (Ky × α) :=
  if (kvs.any fun p => decide (p.1 = k)) = true then kvs.map (fun p => if p.1 = k then (p.1, v) else p) else kvs ++ [(k, v)]
def Ky.isK : Ky → Bool
  | .k _ => true
  | .t _ => false
def allK {α : Type} (kvs : List (Ky × α)) : Bool := kvs.all fun p => p.1.isK
/-- a value as an int or text key -/
def keyD : DV → Option Key
  | .dat (.int i) => some (.inl i)
  | .dat (.str s) => some (.inr s)
  | _ => none
def datP (ds : List (Ky × D)) : List (Ky × DV) := ds.map fun p => (p.1, .dat p.2)
/-- the dict that x is -/
def dctOf (x : DV) (μ : Mem) : Option (List (Ky × DV)) := match x with
  | .dat (.dct ds) => some (datP ds)
  | .dat _ => none
  | .loc n => match μ[n]? with
    | some (.dct kvs) => some kvs
    | _ => none
section
variable {K : PySem.W.Frag} {W : WX} {ρ : Pm} {G H G0 H0 : Hp} {μ : Mem} {σ : Slots} {δ : Env}
theorem RpL.paired : ∀ {vs : List V} {ds : List D}, RpL K G vs ds → DvL K ρ G vs (ds.map DV.dat)
  | _, _, .nil => .nil
  | _, _, .cons a b => .cons a (RpL.paired b)
/-- what stands at a new address that is neither data nor a place is exchanged -/
theorem Rel.swap {p : Addr} {o o' : HO} (r : Rel K ρ G H μ) (t : Tr ρ G0 H0 G H) (h : H p = some o) (hg : G p = none) (hn : ∀ n, ρ n ≠ some p) (h0 : H0 p = none) : Rel K ρ G (upd H p o') μ ∧ Tr ρ G0 H0 G (upd H p o') := by
  have neG : ∀ a u, G a = some u → a ≠ p := fun a u e z => by rw [z, hg] at e; cases e
  have neP : ∀ n a, ρ n = some a → a ≠ p := fun n a e z => hn n (z ▸ e)
  refine ⟨⟨fun a u e => ?_, r.inj, r.nG, r.lt, fun n a e q => ?_, fun n q e => ?_⟩, ⟨t.exG, fun a u k e => ?_, fun a e => ?_, t.nG⟩⟩
  · rw [upd_ne (neG a u e)]; exact r.ex a u e
  · rw [upd_ne (neP n a e)] at q; exact r.hs n a e q
  · have z := r.pl n q e
    cases q with
    | lst xs => obtain ⟨b, a, vs, h1, h2, h3⟩ := z; exact ⟨b, a, vs, h1, by rw [upd_ne (neP _ _ h1)]; exact h2, h3⟩
    | dct kvs => obtain ⟨b, a, o, vs, h1, h2, h3⟩ := z; exact ⟨b, a, o, vs, h1, by rw [upd_ne (neP _ _ h1)]; exact h2, h3⟩
    | own => obtain ⟨a, b, h1, h2⟩ := z; exact ⟨a, b, h1, by rw [upd_ne (neP _ _ h1)]; exact h2⟩
    | ins nm fs => obtain ⟨b, a, dx, C, vs, m, hm, h1, h2, c, h4, h3⟩ := z; exact ⟨b, a, dx, C, vs, m, hm, h1, by rw [upd_ne (neP _ _ h1)]; exact h2, c, by rw [upd_ne (neP _ _ hm.2)]; exact h4, h3⟩
    | gone => exact z
  · have q := t.keep a u k e
    rw [upd_ne (fun z => by rw [z, h0] at e; cases e)]; exact q
  · by_cases z : a = p
    · rw [z, upd_same] at e; cases e
    · rw [upd_ne z] at e; exact t.th a e
theorem datP_1 (ds : List (Ky × D)) : (datP ds).map (·.1) = ds.map (·.1) := by unfold datP; rw [List.map_map]; rfl
theorem datP_2 (ds : List (Ky × D)) : (datP ds).map (·.2) = (ds.map (·.2)).map DV.dat := by unfold datP; rw [List.map_map, List.map_map]; rfl
theorem keyD_ok {v : V} {x : DV} {k : Key} (h : DvOk K ρ G v x) (e : keyD x = some k) : v = kV k := by
  cases x with
  | loc n => cases e
  | dat d => cases d with
    | int i => cases e; cases h; rfl
    | str s => cases e; cases h; rfl
    | _ => cases e
theorem dctOf_ok {v : V} {x : DV} {kvs : List (Ky × DV)} (R : Rel K ρ G H μ) (h : DvOk K ρ G v x) (e : dctOf x μ = some kvs) :
    ∃ a o vs, v = .ref a ∧ Rd H a o ∧ DctIs o (kvs.map (·.1)) vs ∧ DvL K ρ G vs (kvs.map (·.2)) := by
  cases x with
  | dat d => cases d with
    | dct ds =>
      cases e
      cases h with
      | dct h1 h2 h3 => exact ⟨_, _, _, rfl, .inr ⟨_, R.ex _ _ h1⟩, by rw [datP_1]; exact h2, by rw [datP_2]; exact h3.paired⟩
    | _ => cases e
  | loc n =>
    obtain ⟨a, rfl, q⟩ := h
    simp only [dctOf] at e
    match em : μ[n]? with
    | none => simp only [em] at e; cases e
    | some (.lst _) => simp only [em] at e; cases e
    | some .own => simp only [em] at e; cases e
    | some .gone => simp only [em] at e; cases e
    | some (.ins _ _) => simp only [em] at e; cases e
    | some (.dct ks) =>
      simp only [em] at e; cases e
      obtain ⟨_, b, o, vs, h1, h2, h3, h4⟩ := R.pl n _ em
      rw [q] at h1; cases h1
      exact ⟨_, _, _, rfl, .inl h2, h3, h4⟩
/-- keys and values together -/
abbrev PrL (K : PySem.W.Frag) (ρ : Pm) (G : Hp) : List (Key × V) → List (Ky × DV) → Prop := Paired fun p q => q.1 = Ky.k p.1 ∧ DvOk K ρ G p.2 q.2
theorem prl_of : ∀ {ls : List (Key × V)} {kvs : List (Ky × DV)}, kvs.map (·.1) = ls.map (fun p => Ky.k p.1) → DvL K ρ G (ls.map (·.2)) (kvs.map (·.2)) → PrL K ρ G ls kvs
  | [], [], _, _ => .nil
  | [], _ :: _, h, _ => by cases h
  | _ :: _, [], h, _ => by cases h
  | p :: ls, q :: kvs, h, d => by
    simp only [List.map_cons, List.cons.injEq] at h
    cases d with
    | cons a b => exact .cons ⟨h.1, a⟩ (prl_of h.2 b)
theorem prl_to : ∀ {ls : List (Key × V)} {kvs : List (Ky × DV)}, PrL K ρ G ls kvs → kvs.map (·.1) = ls.map (fun p => Ky.k p.1) ∧ DvL K ρ G (ls.map (·.2)) (kvs.map (·.2))
  | _, _, .nil => ⟨rfl, .nil⟩
  | _, _, .cons a b => by
    obtain ⟨h1, h2⟩ := prl_to b
    exact ⟨by simp only [List.map_cons]; rw [h1, a.1], .cons a.2 h2⟩
theorem dK_of {o : HO} {kvs : List (Ky × DV)} {vs : List V} (h : DctIs o (kvs.map (·.1)) vs) (d : DvL K ρ G vs (kvs.map (·.2))) (hk : allK kvs = true) : ∃ ls, o = .dK ls ∧ PrL K ρ G ls kvs := by
  rcases h with ⟨ls, rfl, h2, rfl⟩ | ⟨ls, hne, rfl, h2, rfl⟩
  · exact ⟨ls, rfl, prl_of h2 d⟩
  · cases ls with
    | nil => exact (hne rfl).elim
    | cons p ls =>
      cases kvs with
      | nil => cases h2
      | cons q kvs =>
        simp only [List.map_cons, List.cons.injEq] at h2
        simp only [allK, List.all_cons, Bool.and_eq_true] at hk
        rw [h2.1] at hk
        cases hk.1
theorem prl_dK {ls : List (Key × V)} {kvs : List (Ky × DV)} (h : PrL K ρ G ls kvs) : DctIs (.dK ls) (kvs.map (·.1)) (ls.map (·.2)) ∧ DvL K ρ G (ls.map (·.2)) (kvs.map (·.2)) :=
  ⟨.inl ⟨ls, rfl, (prl_to h).1, rfl⟩, (prl_to h).2⟩
theorem prl_val {k : Key} : ∀ {ls : List (Key × V)} {kvs : List (Ky × DV)}, PrL K ρ G ls kvs → (valV ls k = none ∧ dval kvs (.k k) = none) ∨ ∃ v x, valV ls k = some v ∧ dval kvs (.k k) = some x ∧ DvOk K ρ G v x
  | _, _, .nil => .inl ⟨rfl, rfl⟩
  | p :: ls, q :: kvs, .cons a b => by
    by_cases e : p.1 = k
    · refine .inr ⟨p.2, q.2, valV_pos e, ?_, a.2⟩
      unfold dval
      rw [List.find?_cons_of_pos (by rw [a.1, e]; simp)]
      rfl
    · rw [valV_neg e]
      have : dval (q :: kvs) (.k k) = dval kvs (.k k) := by
        unfold dval
        rw [List.find?_cons_of_neg (by rw [a.1]; simpa using e)]
      rw [this]
      exact prl_val b
theorem prl_any {k : Key} : ∀ {ls : List (Key × V)} {kvs : List (Ky × DV)}, PrL K ρ G ls kvs → (ls.any fun p => decide (p.1 = k)) = kvs.any fun p => decide (p.1 = Ky.k k)
  | _, _, .nil => rfl
  | p :: ls, q :: kvs, .cons a b => by
    simp only [List.any_cons]
    rw [prl_any b, a.1]
    congr 1
    simp
theorem prl_put {k : Key} {v : V} {x : DV} {ls : List (Key × V)} {kvs : List (Ky × DV)} (h : PrL K ρ G ls kvs) (d : DvOk K ρ G v x) : PrL K ρ G (putK ls k v) (dput kvs (.k k) x) := by
  unfold putK dput
  rw [← prl_any h]
  by_cases e : (ls.any fun p => decide (p.1 = k)) = true
  · rw [if_pos e, if_pos e]
    clear e
    induction h with
    | nil => exact .nil
    | cons a b ih =>
      refine .cons ?_ ih
      rename_i p q _ _
      show ((if q.1 = Ky.k k then (q.1, x) else q) : Ky × DV).1 = Ky.k ((if p.1 = k then (p.1, v) else p) : Key × V).1 ∧ DvOk K ρ G ((if p.1 = k then (p.1, v) else p) : Key × V).2 ((if q.1 = Ky.k k then (q.1, x) else q) : Ky × DV).2
      by_cases e : p.1 = k
      · rw [if_pos e, if_pos (by rw [a.1, e])]; exact ⟨a.1, d⟩
      · rw [if_neg e, if_neg (by rw [a.1]; simpa using e)]; exact a
  · rw [if_neg e, if_neg e]
    clear e
    induction h with
    | nil => exact .cons ⟨rfl, d⟩ .nil
    | cons a b ih => exact .cons a ih
theorem prl_mono {G' : Hp} (ex : Ex G G') {ls : List (Key × V)} {kvs : List (Ky × DV)} (h : PrL K ρ G ls kvs) : PrL K ρ G' ls kvs := Paired.mapP h fun _ _ q => ⟨q.1, q.2.mono ex fun _ _ z => z⟩
end
/-! ### d[k] -/
def dGet (x y : DV) (μ : Mem) : Res R := match dctOf x μ, keyD y with
  | some kvs, some k => if allK kvs = true then match dval kvs (.k k) with
      | some z => .ok (ofV z) μ
      | none => .bad
    else .bad
  | _, _ => .bad
def eDGet (fd fy : EM) : EM := eOp dGet fd fy
section
variable {X : Cx} {W : WX}
theorem snd_dget {K : PySem.W.Frag} {td ty : TE} {fd fy : EM} (hd : SndE K W td fd) (hy : SndE K W ty fy) : SndE K W (tDGet td ty) (eDGet fd fy) := fun ρ G H σ δ μ Q R E hp => by
  refine SndG.seq (t := td) hd.toV R E hp fun x μ1 G1 H1 v t1 R1 E1 d1 hp1 => ?_
  refine SndG.seq (t := ty) hy.toV R1 E1 (hp1.shiftE t1) fun y μ2 G2 H2 w t2 R2 E2 d2 hp2 => ?_
  unfold dGet at hp2
  match e1 : dctOf x μ2, e2 : keyD y with
  | none, _ => simp only [e1] at hp2; exact hp2.elim
  | some _, none => simp only [e1, e2] at hp2; exact hp2.elim
  | some kvs, some k =>
    simp only [e1, e2] at hp2
    by_cases hk : allK kvs = true
    case neg => rw [if_neg hk] at hp2; exact hp2.elim
    rw [if_pos hk] at hp2
    have d1' := d1.mono t2.exG fun _ _ q => q
    obtain ⟨a, o, vs, rfl, h1, h2, h3⟩ := dctOf_ok R2 d1' e1
    obtain ⟨ls, rfl, hl⟩ := dK_of h2 h3 hk
    rcases prl_val (k := k) hl with ⟨_, q⟩ | ⟨v, z, q1, q2, q3⟩
    · rw [q] at hp2; exact hp2.elim
    · rw [q2] at hp2
      refine ⟨a, v, rfl, .inl ⟨ls, k, h1, keyD_ok d2 e2, q1.symm⟩, ?_⟩
      exact hp2 G2 H2 v t2 R2 (RpR.ofV q3)
theorem pm_dget {o i : Expr} {td ty : TE} {fd fy : EM} {pos : Pos} (hu : X.A.units + 1 < cLine) (hd : PM X W o td fd) (hy : PM X W i ty fy) (hs : NoSl i) : PM X W (.Subscript o i pos) (tDGet td ty) (eDGet fd fy) := ⟨pe_dget hu hd.pe hy.pe hs, snd_dget hd.sd hy.sd⟩
/-! ### k in d, k not in d -/
def dInD (neg : Bool) (y x : DV) (μ : Mem) : Res R := match dctOf x μ, keyD y with
  | some kvs, some k => if allK kvs = true then .ok (.dat (.bl ((dval kvs (.k k)).isSome != neg))) μ else .bad
  | _, _ => .bad
def eDIn (neg : Bool) (fy fd : EM) : EM := eOp (dInD neg) fy fd
theorem inD_ok {K : PySem.W.Frag} {ρ : Pm} {G H : Hp} {μ : Mem} {σ : Slots} {v w : V} {x y : DV} {neg : Bool} {Q : VK} (R : Rel K ρ G H μ) (d1 : DvOk K ρ G v y) (d2 : DvOk K ρ G w x)
    (hp : PostG K W ρ G H σ (fun G' H' => rpE K ρ G' H H') Q (dInD neg y x μ)) : ∃ a o, w = .ref a ∧ DGet H a v o ∧ Q (.bl (o.isSome != neg)) H := by
  unfold dInD at hp
  match e1 : dctOf x μ, e2 : keyD y with
  | none, _ => simp only [e1] at hp; exact hp.elim
  | some _, none => simp only [e1, e2] at hp; exact hp.elim
  | some kvs, some k =>
    simp only [e1, e2] at hp
    by_cases hk : allK kvs = true
    case neg => rw [if_neg hk] at hp; exact hp.elim
    rw [if_pos hk] at hp
    obtain ⟨a, o, vs, rfl, h1, h2, h3⟩ := dctOf_ok R d2 e1
    obtain ⟨ls, rfl, hl⟩ := dK_of h2 h3 hk
    refine ⟨a, _, rfl, .inl ⟨ls, k, h1, keyD_ok d1 e2, rfl⟩, ?_⟩
    have e : (valV ls k).isSome = (dval kvs (.k k)).isSome := by
      rcases prl_val (k := k) hl with ⟨q, q'⟩ | ⟨v, z, q1, q2, q3⟩
      · rw [q, q']; rfl
      · rw [q1, q2]; rfl
    rw [e]
    exact hp G H _ (Tr.refl _ _ _) R (.bl _)
theorem snd_din {K : PySem.W.Frag} {td ty : TE} {fd fy : EM} (hy : SndE K W ty fy) (hd : SndE K W td fd) : SndE K W (tDIn ty td) (eDIn false fy fd) := fun ρ G H σ δ μ Q R E hp => by
  refine SndG.seq (t := ty) hy.toV R E hp fun y μ1 G1 H1 v t1 R1 E1 d1 hp1 => ?_
  refine SndG.seq (t := td) hd.toV R1 E1 (hp1.shiftE t1) fun x μ2 G2 H2 w t2 R2 E2 d2 hp2 => ?_
  obtain ⟨a, o, h1, h2, h3⟩ := inD_ok R2 (d1.mono t2.exG fun _ _ q => q) d2 (hp2.shiftE t2)
  exact ⟨a, o, h1, h2, by simpa using h3⟩
theorem snd_dnin {K : PySem.W.Frag} {td ty : TE} {fd fy : EM} (hy : SndE K W ty fy) (hd : SndE K W td fd) : SndE K W (tDNotIn ty td) (eDIn true fy fd) := fun ρ G H σ δ μ Q R E hp => by
  refine SndG.seq (t := ty) hy.toV R E hp fun y μ1 G1 H1 v t1 R1 E1 d1 hp1 => ?_
  refine SndG.seq (t := td) hd.toV R1 E1 (hp1.shiftE t1) fun x μ2 G2 H2 w t2 R2 E2 d2 hp2 => ?_
  obtain ⟨a, o, h1, h2, h3⟩ := inD_ok R2 (d1.mono t2.exG fun _ _ q => q) d2 (hp2.shiftE t2)
  exact ⟨a, o, h1, h2, by simpa using h3⟩
/-! ### d.get(k), d.get(k, x) -/
def dGet1 (x y : DV) (μ : Mem) : Res R := match dctOf x μ, keyD y with
  | some kvs, some k => if allK kvs = true then match dval kvs (.k k) with
      | some z => .ok (ofV z) μ
      | none => .ok (.dat .non) μ
    else .bad
  | _, _ => .bad
def isDct (x : DV) (μ : Mem) : Bool := (dctOf x μ).isSome
def eDGet1 (fd fy : EM) : EM := fun δ μ => (frzV fd δ μ).bind fun x μ1 => if isDct x μ1 = true then (frzV fy δ μ1).bind fun y μ2 => dGet1 x y μ2 else .bad
theorem isDct_ok {K : PySem.W.Frag} {ρ : Pm} {G H : Hp} {μ : Mem} {v : V} {x : DV} (R : Rel K ρ G H μ) (d : DvOk K ρ G v x) (e : isDct x μ = true) : ∃ a, v = .ref a ∧ IsD H a := by
  unfold isDct at e
  cases q : dctOf x μ with
  | none => rw [q] at e; cases e
  | some kvs =>
    obtain ⟨a, o, vs, rfl, h1, h2, h3⟩ := dctOf_ok R d q
    rcases h2 with ⟨ls, rfl, _⟩ | ⟨ls, _, rfl, _⟩
    · exact ⟨a, rfl, .inl ⟨ls, h1⟩⟩
    · exact ⟨a, rfl, .inr ⟨ls, h1⟩⟩
theorem snd_dget1 {K : PySem.W.Frag} {td ty : TE} {fd fy : EM} (hd : SndE K W td fd) (hy : SndE K W ty fy) : SndE K W (tDGet1 td ty) (eDGet1 fd fy) := fun ρ G H σ δ μ Q R E hp => by
  refine SndG.seq (t := td) hd.toV R E hp fun x μ1 G1 H1 v t1 R1 E1 d1 hp1 => ?_
  by_cases hi : isDct x μ1 = true
  case neg => rw [if_neg hi] at hp1; exact hp1.elim
  rw [if_pos hi] at hp1
  obtain ⟨a, rfl, ha⟩ := isDct_ok R1 d1 hi
  refine ⟨a, rfl, ha, ?_⟩
  refine SndG.seq (t := ty) hy.toV R1 E1 (hp1.shiftE t1) fun y μ2 G2 H2 w t2 R2 E2 d2 hp2 => ?_
  unfold dGet1 at hp2
  match e1 : dctOf x μ2, e2 : keyD y with
  | none, _ => simp only [e1] at hp2; exact hp2.elim
  | some _, none => simp only [e1, e2] at hp2; exact hp2.elim
  | some kvs, some k =>
    simp only [e1, e2] at hp2
    by_cases hk : allK kvs = true
    case neg => rw [if_neg hk] at hp2; exact hp2.elim
    rw [if_pos hk] at hp2
    have d1' := d1.mono t2.exG fun _ _ q => q
    obtain ⟨a', o, vs, h0, h1, h2, h3⟩ := dctOf_ok R2 d1' e1
    cases h0
    obtain ⟨ls, rfl, hl⟩ := dK_of h2 h3 hk
    refine ⟨_, .inl ⟨ls, k, h1, keyD_ok d2 e2, rfl⟩, ?_⟩
    rcases prl_val (k := k) hl with ⟨q', q⟩ | ⟨v, z, q1, q2, q3⟩
    · rw [q] at hp2; rw [q']; exact hp2 G2 H2 _ t2 R2 .non
    · rw [q2] at hp2; rw [q1]; exact hp2 G2 H2 v t2 R2 (RpR.ofV q3)
theorem pm_dget1 {o e : Expr} {td ty : TE} {fd fy : EM} {apos cpos : Pos} (hu : X.A.units + 1 < cLine) (hd : PM X W o td fd) (hy : PM X W e ty fy) (m : M1 X o "get" apos e cpos) : PM X W (.Call (.Attribute o "get" apos) [e] [] cpos) (tDGet1 td ty) (eDGet1 fd fy) := ⟨pe_dget1 hu hd.pe hy.pe m, snd_dget1 hd.sd hy.sd⟩
/-! ### a new dict is locked and taken for data -/
def allDatK : List (Ky × DV) → Option (List (Ky × D))
  | [] => some []
  | (k, .dat d) :: r => match allDatK r with
    | some ds => some ((k, d) :: ds)
    | none => none
  | (_, .loc _) :: _ => none
theorem allDatK_ok {K : PySem.W.Frag} {ρ : Pm} {G : Hp} : ∀ {kvs : List (Ky × DV)} {ds : List (Ky × D)} {vs : List V}, allDatK kvs = some ds → DvL K ρ G vs (kvs.map (·.2)) → kvs.map (·.1) = ds.map (·.1) ∧ RpL K G vs (ds.map (·.2))
  | [], ds, vs, e, h => by cases e; cases h; exact ⟨rfl, .nil⟩
  | (k, .dat d) :: r, ds, vs, e, h => by
    simp only [allDatK] at e
    cases q : allDatK r with
    | none => rw [q] at e; cases e
    | some es =>
      rw [q] at e; cases e
      cases h with
      | cons a b =>
        obtain ⟨h1, h2⟩ := allDatK_ok q b
        exact ⟨by simp only [List.map_cons]; rw [h1], .cons a h2⟩
  | (_, .loc _) :: _, _, _, e, _ => by cases e
def tLk (t : TE) : TE := fun σ H Q => t σ H fun v H1 => ∃ d u, v = .ref d ∧ H1 d = some u ∧ Mut (some u) ∧ ∀ od, Q v (upd H1 d (.frz od u))
theorem pe_lk {e : Expr} {t : TE} (h : PE X e t) : PE X e (tLk t) := by
  refine ⟨fun pins s σ H Q I hw => ?_⟩
  refine thn (h.run pins s σ _ _ I hw) fun v s1 ⟨x, H1, I2, r, d, u, ex, hd, mu, q⟩ => ?_
  obtain ⟨od, I3⟩ := I2.lock hd mu
  exact ⟨x, _, I3, r, q od⟩
def eLk (f : EM) : EM := fun δ μ => (f δ μ).bind fun r μ1 => match r with
  | .nk kvs => match allDatK kvs with
    | some ds => .ok (.dat (.dct ds)) μ1
    | none => .bad
  | _ => .bad
theorem dct_mut {o : HO} {ks : List Ky} {vs : List V} (h : DctIs o ks vs) : Mut (some o) := by
  rcases h with ⟨ls, rfl, _⟩ | ⟨ls, _, rfl, _⟩ <;> trivial
theorem snd_lk {K : PySem.W.Frag} {t : TE} {f : EM} (h : SndE K W t f) : SndE K W (tLk t) (eLk f) := fun ρ G H σ δ μ Q R E hp => by
  refine SndG.seq (t := t) h R E hp fun r μ1 G1 H1 v t1 R1 E1 d1 hp1 => ?_
  match r with
  | .dat _ => exact hp1.elim
  | .loc _ => exact hp1.elim
  | .nl _ => exact hp1.elim
  | .nk kvs =>
    cases q : allDatK kvs with
    | none => simp only [q] at hp1; exact hp1.elim
    | some ds =>
      simp only [q] at hp1
      obtain ⟨a, o, vs, rfl, h2, h3, h4, h5, h6, h7⟩ := d1
      obtain ⟨k1, k2⟩ := allDatK_ok q h4
      refine ⟨a, o, rfl, h2, dct_mut h3, fun od => ?_⟩
      obtain ⟨R2, t2⟩ := R1.swap (o' := .frz od o) t1 h2 h5 h6 h7
      obtain ⟨R3, t3, ex⟩ := R2.freeze t2 upd_same h7 h5 h6
      exact hp1 _ _ _ t3 R3 (Rp.dct upd_same (by rw [← k1]; exact h3) (k2.mono ex))
end
end DL
/-! Dicts with int and text keys: new ones, stores, dict(pairs), len, list, walks. -/
namespace DL
open PySem PySem.Spec PyProof.Rows L2
def kyD : Key → D
  | .inl i => .int i
  | .inr s => .str s
def Ky.dat : Ky → D
  | .k x => kyD x
  | .t xs => .tup (xs.map kyD)
def mergeD {α : Type} (kvs more : List (Ky × α)) : List (Ky × α) := more.foldl (fun acc p => dput acc p.1 p.2) kvs
section
variable {K : PySem.W.Frag} {W : WX} {N : Nat} {ρ : Pm} {G H G0 H0 : Hp} {μ : Mem} {σ : Slots} {δ : Env} {Q : VK}
theorem rp_key (k : Key) : Rp K G (kV k) (kyD k) := by cases k <;> constructor
theorem prl_merge : ∀ {more : List (Key × V)} {more' : List (Ky × DV)} {ls : List (Key × V)} {kvs : List (Ky × DV)}, PrL K ρ G more more' → PrL K ρ G ls kvs → PrL K ρ G (mergeK ls more) (mergeD kvs more')
  | _, _, _, _, .nil, h => h
  | _, _, _, _, .cons a b, h => by
    rename_i p q _ _
    show PrL K ρ G (mergeK (putK _ p.1 p.2) _) (mergeD (dput _ q.1 q.2) _)
    rw [a.1]
    exact prl_merge b (prl_put h a.2)
theorem new_dct {p : Addr} {ls : List (Key × V)} {kvs : List (Ky × DV)} (R : Rel K ρ G H μ) (t : Tr ρ G0 H0 G H) (hn : H p = none) (d : PrL K ρ G ls kvs)
    (hp : PostG K W ρ G0 H0 σ (fun G' H' => rpE K ρ G' H0 H') Q (.ok (.nk kvs) μ)) : Q (.ref p) (upd H p (.dK ls)) := by
  obtain ⟨R2, t2⟩ := R.lay (o := .dK ls) hn
  obtain ⟨n1, n2⟩ := fresh_ne R hn
  obtain ⟨k1, k2⟩ := prl_dK d
  exact hp _ _ _ (t.trans t2) R2 ⟨p, _, _, rfl, upd_same, k1, k2, n1, n2, t.th p hn⟩
/-! ### {} -/
def eDNew : EM := fun _ μ => .ok (.nk []) μ
theorem snd_dnew : SndE K W tDNewK eDNew := fun ρ G H σ δ μ Q R E hp p hn => new_dct R (Tr.refl _ _ _) hn .nil hp
/-! ### {k: v, ..} -/
abbrev PsM := Env → Mem → Res (List (Ky × DV))
def psNil : PsM := fun _ μ => .ok [] μ
def psCons (fk fv : EM) (r : PsM) : PsM := fun δ μ => (frzV fk δ μ).bind fun k μ1 => (frzV fv δ μ1).bind fun v μ2 => (r δ μ2).bind fun ps μ3 => match keyD k with
  | some kk => .ok ((.k kk, v) :: ps) μ3
  | none => .bad
abbrev rpP (K : PySem.W.Frag) : Pm → Hp → Hp → Hp → List (V × V) → List (Ky × DV) → Prop := fun ρ G' _ _ vs ps => ∃ ls : List (Key × V), vs = ls.map (fun kv => (kV kv.1, kv.2)) ∧ PrL K ρ G' ls ps
abbrev SndP (K : PySem.W.Frag) (W : WX) (trs : List (TE × TE)) (f : PsM) : Prop := SndG K W (tPairs trs) f (rpP K)
theorem snd_psNil : SndP K W [] psNil := fun ρ G H σ δ μ Q R E hp => hp G H [] (Tr.refl _ _ _) R ⟨[], rfl, .nil⟩
theorem PostG.shiftP {Q : List (V × V) → Hp → Prop} {out : Res (List (Ky × DV))} {G1 H1 : Hp} (t : Tr ρ G H G1 H1) (h : PostG K W ρ G H σ (fun G' H' => rpP K ρ G' H H') Q out) :
    PostG K W ρ G1 H1 σ (fun G' H' => rpP K ρ G' H1 H') Q out := h.shift t fun _ _ _ _ q => q
theorem snd_psCons {tk tv : TE} {trs : List (TE × TE)} {fk fv : EM} {r : PsM} (hk : SndE K W tk fk) (hv : SndE K W tv fv) (hr : SndP K W trs r) : SndP K W ((tk, tv) :: trs) (psCons fk fv r) := fun ρ G H σ δ μ Q R E hp => by
  refine SndG.seq (t := tk) hk.toV R E hp fun x μ1 G1 H1 v t1 R1 E1 d1 hp1 => ?_
  refine SndG.seq (t := tv) hv.toV R1 E1 (hp1.shiftP t1) fun y μ2 G2 H2 w t2 R2 E2 d2 hp2 => ?_
  refine SndG.seq (t := tPairs trs) hr R2 E2 (hp2.shiftP t2) fun ps μ3 G3 H3 ws t3 R3 E3 d3 hp3 => ?_
  cases e : keyD x with
  | none => simp only [e] at hp3; exact hp3.elim
  | some kk =>
    simp only [e] at hp3
    obtain ⟨ls, rfl, hl⟩ := d3
    have ek := keyD_ok d1 e
    subst ek
    exact hp3 G3 H3 _ t3 R3 ⟨(kk, w) :: ls, rfl, .cons ⟨rfl, d2.mono t3.exG fun _ _ q => q⟩ hl⟩
def eDisK (f : PsM) : EM := fun δ μ => (f δ μ).bind fun ps μ1 => if ps.length ≤ 15 then .ok (.nk (mergeD [] ps)) μ1 else .bad
theorem snd_disK {trs : List (TE × TE)} {f : PsM} (h : SndP K W trs f) : SndE K W (tDisp trs) (eDisK f) := fun ρ G H σ δ μ Q R E hp p hn => by
  obtain ⟨R2, t2⟩ := R.lay (o := .dK []) hn
  obtain ⟨n1, n2⟩ := fresh_ne R hn
  refine h ρ G _ σ δ μ _ R2 E ?_
  unfold eDisK at hp
  cases e : f δ μ with
  | bad => rw [e] at hp; exact hp
  | exc x μ1 => rw [e] at hp; exact fun G1 H1 cls d t1 R1 q => hp G1 H1 cls d (t2.trans t1) R1 q
  | ok ps μ1 =>
    rw [e] at hp
    intro G1 H1 ws t1 R1 d1
    obtain ⟨ls, rfl, hl⟩ := d1
    have k1 := t1.keep p _ n2 upd_same
    have g1 : G1 p = none := by
      cases q : G1 p with
      | none => rfl
      | some u =>
        rcases t1.nG p (by rw [q]; exact fun z => nomatch z) with z | z
        · exact (z n1).elim
        · rw [upd_same] at z; cases z
    simp only [Res.bind_ok] at hp
    by_cases hz : ps.length ≤ 15
    · rw [if_pos hz] at hp
      refine ⟨k1, ls, rfl, by rw [paired_len hl]; exact hz, ?_⟩
      obtain ⟨R3, t3⟩ := R1.swap (o' := .dK (mergeK [] ls)) (t2.trans t1) k1 g1 n2 hn
      obtain ⟨q1, q2⟩ := prl_dK (prl_merge hl (.nil : PrL K ρ G1 [] []))
      exact hp G1 _ (.ref p) t3 R3 ⟨p, _, _, rfl, upd_same, q1, q2, g1, n2, hn⟩
    · rw [if_neg hz] at hp; exact hp.elim
/-! ### dict(pairs) -/
def pairsD : List DV → Option (List (Ky × DV))
  | [] => some []
  | .dat (.tup [k, v]) :: r => match keyD (.dat k), pairsD r with
    | some kk, some ps => some ((.k kk, .dat v) :: ps)
    | _, _ => none
  | _ :: _ => none
theorem pairsD_ok (ex : Ex G H) : ∀ {xs : List DV} {vs : List V} {ps : List (Ky × DV)}, DvL K ρ G vs xs → pairsD xs = some ps →
    ∃ (as : List Addr) (ls : List (Key × V)), vs = as.map V.ref ∧ Paired (fun p kv => SqT K H p [kV kv.1, kv.2]) as ls ∧ PrL K ρ G ls ps
  | [], _, _, h, e => by cases h; cases e; exact ⟨[], [], rfl, .nil, .nil⟩
  | .dat (.tup [k, v]) :: r, _, ps, h, e => by
    cases h with
    | cons a b =>
      simp only [pairsD] at e
      cases e1 : keyD (.dat k) with
      | none => simp only [e1] at e; cases e
      | some kk =>
        cases e2 : pairsD r with
        | none => simp only [e1, e2] at e; cases e
        | some qs =>
          simp only [e1, e2] at e; cases e
          obtain ⟨as, ls, rfl, h2, h3⟩ := pairsD_ok ex b e2
          cases a with
          | tup s r =>
            cases r with
            | cons r1 r =>
              cases r with
              | cons r2 r =>
                cases r
                have ek := keyD_ok (ρ := ρ) (x := .dat k) r1 e1
                subst ek
                exact ⟨_ :: as, (kk, _) :: ls, rfl, .cons (ex_t ex s) h2, .cons ⟨rfl, r2⟩ h3⟩
  | .loc _ :: _, _, _, _, e => by simp [pairsD] at e
  | .dat .non :: _, _, _, _, e => by simp [pairsD] at e
  | .dat (.bl _) :: _, _, _, _, e => by simp [pairsD] at e
  | .dat (.int _) :: _, _, _, _, e => by simp [pairsD] at e
  | .dat (.str _) :: _, _, _, _, e => by simp [pairsD] at e
  | .dat (.ty _) :: _, _, _, _, e => by simp [pairsD] at e
  | .dat (.ref _) :: _, _, _, _, e => by simp [pairsD] at e
  | .dat (.lst _) :: _, _, _, _, e => by simp [pairsD] at e
  | .dat (.fro _) :: _, _, _, _, e => by simp [pairsD] at e
  | .dat (.dct _) :: _, _, _, _, e => by simp [pairsD] at e
  | .dat (.ins _ _) :: _, _, _, _, e => by simp [pairsD] at e
  | .dat (.err _ _ _ _ _) :: _, _, _, _, e => by simp [pairsD] at e
  | .dat (.tup []) :: _, _, _, _, e => by simp [pairsD] at e
  | .dat (.tup [_]) :: _, _, _, _, e => by simp [pairsD] at e
  | .dat (.tup (_ :: _ :: _ :: _)) :: _, _, _, _, e => by simp [pairsD] at e
def dDict (x : DV) (μ : Mem) : Res R := match asL μ x with
  | some xs => match pairsD xs with
    | some ps => .ok (.nk (mergeD [] ps)) μ
    | none => .bad
  | none => .bad
def rDictP (K : PySem.W.Frag) : List V → Hp → VK → Prop := fun xs H Q => ∃ (a : Addr) (ps : List Addr) (kvs : List (Key × V)), xs = [.ref a] ∧ SqL K H a (ps.map V.ref) ∧ Paired (fun p kv => SqT K H p [kV kv.1, kv.2]) ps kvs ∧
    ∀ p, H p = none → Q (.ref p) (upd H p (.dK (mergeK [] kvs)))
theorem cd_dict : CallD K (rDictP K) (d1 dDict) := cd_1 fun W ρ G H σ μ v x Q R hx hp => by
  unfold dDict at hp
  split at hp
  · rename_i xs e
    obtain ⟨a, vs, rfl, h2, h3⟩ := asL_ok R hx e
    split at hp
    · rename_i ps e2
      obtain ⟨as, ls, rfl, q2, q3⟩ := pairsD_ok R.ex h3 e2
      exact ⟨a, as, ls, rfl, h2, q2, fun p hn => new_dct R (Tr.refl _ _ _) hn (prl_merge q3 .nil) hp⟩
    · exact hp.elim
  · exact hp.elim
/-! ### len(d), list(d) -/
def dLenK (x : DV) (μ : Mem) : Res R := match dctOf x μ with
  | some kvs => if allK kvs = true then .ok (.dat (.int kvs.length)) μ else .bad
  | none => .bad
def rLenK : List V → Hp → VK → Prop := fun xs H Q => ∃ a kvs, xs = [V.ref a] ∧ Rd H a (.dK kvs) ∧ Q (.int kvs.length) H
theorem cr_lenK {X : Cx} : CallR X (.builtin "len") rLenK := by
  intro pins s σ H xs us Q I r h
  obtain ⟨a, kvs, rfl, ha, q⟩ := h
  obtain ⟨u, rfl, ru⟩ := vals1 r
  cases ru
  exact d_len I ha fun t s' I' => ⟨.int kvs.length, H, I', ⟨t, rfl⟩, q⟩
theorem cd_lenK : CallD K rLenK (d1 dLenK) := cd_1 fun W ρ G H σ μ v x Q R hx hp => by
  unfold dLenK at hp
  split at hp
  · rename_i kvs e
    by_cases hk : allK kvs = true
    case neg => rw [if_neg hk] at hp; exact hp.elim
    rw [if_pos hk] at hp
    obtain ⟨a, o, vs, rfl, h1, h2, h3⟩ := dctOf_ok R hx e
    obtain ⟨ls, rfl, hl⟩ := dK_of h2 h3 hk
    rw [← paired_len hl] at hp
    exact ⟨a, ls, rfl, h1, hp.okD R (.int _)⟩
  · exact hp.elim
def keysD {α : Type} (kvs : List (Ky × α)) : List D := kvs.map fun p => p.1.dat
theorem keysD_ok : ∀ {ls : List (Key × V)} {kvs : List (Ky × DV)}, PrL K ρ G ls kvs → RpL K G (ls.map fun kv => kV kv.1) (keysD kvs)
  | _, _, .nil => .nil
  | _, _, .cons a b => .cons (by show Rp K G _ (Ky.dat _); rw [a.1]; exact rp_key _) (keysD_ok b)
def dListK (x : DV) (μ : Mem) : Res R := match dctOf x μ with
  | some kvs => if allK kvs = true then .ok (.nl ((keysD kvs).map DV.dat)) μ else .bad
  | none => .bad
def rListK : List V → Hp → VK → Prop := fun xs H Q => ∃ (a : Addr) (kvs : List (Key × V)), xs = [.ref a] ∧ Rd H a (.dK kvs) ∧ ∀ p, H p = none → Q (.ref p) (upd H p (.lst (kvs.map fun kv => kV kv.1)))
theorem cd_listK : CallD K rListK (d1 dListK) := cd_1 fun W ρ G H σ μ v x Q R hx hp => by
  unfold dListK at hp
  split at hp
  · rename_i kvs e
    by_cases hk : allK kvs = true
    case neg => rw [if_neg hk] at hp; exact hp.elim
    rw [if_pos hk] at hp
    obtain ⟨a, o, vs, rfl, h1, h2, h3⟩ := dctOf_ok R hx e
    obtain ⟨ls, rfl, hl⟩ := dK_of h2 h3 hk
    exact ⟨a, ls, rfl, h1, fun p hn => new_list R (Tr.refl _ _ _) hn (keysD_ok hl).dv hp⟩
  · exact hp.elim
/-! ### for k in d, for k, v in d.items() -/
def pairsOf (ds : List (Ky × D)) : List D := ds.map fun p => .tup [p.1.dat, p.2]
def allKD (ds : List (Ky × D)) : Bool := ds.all fun p => p.1.isK
theorem dat_dK {v : V} {ds : List (Ky × D)} (h : Rp K G v (.dct ds)) (hk : allKD ds = true) : ∃ a o ls, v = .ref a ∧ G a = some (.frz o (.dK ls)) ∧ PrL K ρ G ls (datP ds) := by
  cases h with
  | dct h1 h2 h3 =>
    rename_i a' o' u' vs'
    have d : DvL K ρ G vs' ((datP ds).map (·.2)) := by rw [datP_2]; exact h3.dv
    obtain ⟨ls, rfl, hl⟩ := dK_of (by rw [datP_1]; exact h2) d (by unfold allK datP; rw [List.all_map]; exact hk)
    exact ⟨_, _, ls, rfl, h1, hl⟩
theorem prl_get {ls : List (Key × V)} {i : Nat} : ∀ {ds : List (Ky × D)} {p : Ky × D}, PrL K ρ G ls (datP ds) → ds[i]? = some p → ∃ k v, ls[i]? = some (k, v) ∧ p.1 = .k k ∧ Rp K G v p.2 := by
  induction ls generalizing i with
  | nil => intro ds p h e; cases ds with
    | nil => simp at e
    | cons => cases h
  | cons l ls ih => intro ds p h e; cases ds with
    | nil => cases h
    | cons q ds =>
      cases h with
      | cons a b =>
        cases i with
        | zero => cases e; exact ⟨l.1, l.2, rfl, a.1, a.2⟩
        | succ i => exact ih b e
theorem prl_len {ls : List (Key × V)} {ds : List (Ky × D)} (h : PrL K ρ G ls (datP ds)) : ls.length = ds.length := by rw [paired_len h]; unfold datP; rw [List.length_map]
theorem it_keys {a : Addr} {o : Obj} {ls : List (Key × V)} {ds : List (Ky × D)} (h : G a = some (.frz o (.dK ls))) (r : PrL K ρ G ls (datP ds)) : ItOk K G (Itk a o ls) (keysD ds) := fun ρ' G1 H μ R x => by
  have hq := R.ex _ _ (x _ _ h)
  refine ⟨fun i d e => ?_, fun i hi => ⟨hq, by rw [prl_len r]; unfold keysD at hi; rw [List.length_map] at hi; exact hi⟩⟩
  unfold keysD at e
  rw [List.getElem?_map] at e
  cases q : ds[i]? with
  | none => rw [q] at e; cases e
  | some p =>
    rw [q] at e; cases e
    obtain ⟨k, v, h1, h2, h3⟩ := prl_get r q
    refine ⟨⟨hq, (List.getElem?_eq_some_iff.mp h1).1⟩, fun v' H' hy => ?_⟩
    obtain ⟨rfl, k', v'', h4, rfl⟩ := hy
    rw [h1] at h4; cases h4
    exact ⟨G1, Tr.refl _ _ _, R, by show Rp K G1 _ (Ky.dat _); rw [h2]; exact rp_key _⟩
theorem it_items {a : Addr} {o : Obj} {ls : List (Key × V)} {ds : List (Ky × D)} (h : G a = some (.frz o (.dK ls))) (r : PrL K ρ G ls (datP ds)) : ItOk K G (Iti a o ls) (pairsOf ds) := fun ρ' G1 H μ R x => by
  have hq := R.ex _ _ (x _ _ h)
  refine ⟨fun i d e => ?_, fun i hi => ⟨hq, by rw [prl_len r]; unfold pairsOf at hi; rw [List.length_map] at hi; exact hi⟩⟩
  unfold pairsOf at e
  rw [List.getElem?_map] at e
  cases q : ds[i]? with
  | none => rw [q] at e; cases e
  | some p =>
    rw [q] at e; cases e
    obtain ⟨k, v, h1, h2, h3⟩ := prl_get r q
    refine ⟨⟨hq, (List.getElem?_eq_some_iff.mp h1).1⟩, fun v' H' hy => ?_⟩
    obtain ⟨T, k', v'', h4, rfl, hn, rfl⟩ := hy
    rw [h1] at h4; cases h4
    obtain ⟨R2, t2, ex⟩ := R.layD (o := .tup [kV k, v]) hn
    refine ⟨_, t2, R2, ?_⟩
    show Rp K _ _ (.tup [Ky.dat _, _])
    rw [h2]
    exact Rp.tup (.inl (.inl upd_same)) (.cons (rp_key _) (.cons ((h3.mono x).mono ex) .nil))
def imKeys (f : EM) : IM := fun δ μ => (frzV f δ μ).bind fun x μ' => match x with
  | .dat (.dct ds) => if allKD ds = true then .ok (keysD ds) μ' else .bad
  | _ => .bad
def imItems (f : EM) : IM := fun δ μ => (frzV f δ μ).bind fun x μ' => match x with
  | .dat (.dct ds) => if allKD ds = true then .ok (pairsOf ds) μ' else .bad
  | _ => .bad
theorem snd_ikeys {te : TE} {f : EM} (h : SndE K W te f) : SndI K W (iKeys te) (imKeys f) := fun ρ G H σ δ μ Q R E hp => by
  refine SndG.seq (t := te) h.toV R E hp fun x μ1 G1 H1 v t1 R1 E1 d1 hp1 => ?_
  split at hp1
  · rename_i ds
    by_cases hk : allKD ds = true
    case neg => rw [if_neg hk] at hp1; exact hp1.elim
    rw [if_pos hk] at hp1
    obtain ⟨a, o, ls, rfl, h1, h2⟩ := dat_dK (ρ := ρ) d1 hk
    exact ⟨a, o, rfl, .inl ⟨ls, R1.ex _ _ h1, hp1 G1 H1 _ t1 R1 (it_keys h1 h2)⟩⟩
  · exact hp1.elim
theorem snd_iitems {te : TE} {f : EM} (h : SndE K W te f) : SndI K W (iItems te) (imItems f) := fun ρ G H σ δ μ Q R E hp => by
  refine SndG.seq (t := te) h.toV R E hp fun x μ1 G1 H1 v t1 R1 E1 d1 hp1 => ?_
  split at hp1
  · rename_i ds
    by_cases hk : allKD ds = true
    case neg => rw [if_neg hk] at hp1; exact hp1.elim
    rw [if_pos hk] at hp1
    obtain ⟨a, o, ls, rfl, h1, h2⟩ := dat_dK (ρ := ρ) d1 hk
    exact ⟨a, o, ls, rfl, R1.ex _ _ h1, hp1 G1 H1 _ t1 R1 (it_items h1 h2)⟩
  · exact hp1.elim
end
end DL
/-! Dicts: d[k] = v; zip. -/
namespace DL
open PySem PySem.Spec PyProof.Rows L2 RZ
def setDct (μ : Mem) (x i y : DV) : Option Mem := match x with
  | .dat _ => none
  | .loc n => match μ[n]?, keyD i with
    | some (.dct kvs), some k => if allK kvs = true ∧ kvs.length < sizeLine ∧ belowB n y = true then some (μ.set n (.dct (dput kvs (.k k) y))) else none
    | _, _ => none
def gDPut (fo fi fe : EM) : SM := fun _ δ μ => lift ((frzV fe δ μ).bind fun y μ1 => (frzV fo δ μ1).bind fun x μ2 => (frzV fi δ μ2).bind fun i μ3 => match setDct μ3 x i y with
  | some μ4 => .ok () μ4
  | none => .bad) δ fun _ μ4 => .next δ μ4
section
variable {K : PySem.W.Frag} {W : WX} {N : Nat} {ρ : Pm} {G H G0 H0 : Hp} {μ : Mem} {σ : Slots} {δ : Env} {Q : VK} {v w : V} {x y : DV}
theorem dput_mem {α : Type} {kvs : List (Ky × α)} {k : Ky} {z : α} {p : Ky × α} (h : p ∈ dput kvs k z) : p ∈ kvs ∨ p.2 = z := by
  unfold dput at h
  split at h
  · obtain ⟨q, hq, e⟩ := List.mem_map.mp h
    by_cases c : q.1 = k
    · rw [if_pos c] at e; exact .inr (by rw [← e])
    · rw [if_neg c] at e; exact .inl (e ▸ hq)
  · rcases List.mem_append.mp h with h | h
    · exact .inl h
    · exact .inr (by rw [List.mem_singleton.mp h])
theorem setDct_ok {i : DV} {vi : V} {μ' : Mem} (R : Rel K ρ G H μ) (hx : DvOk K ρ G v x) (hi : DvOk K ρ G vi i) (hy : DvOk K ρ G w y) (e : setDct μ x i y = some μ') :
    ∃ a H', v = .ref a ∧ DPut H a vi w H' ∧ Tr ρ G H G H' ∧ Rel K ρ G H' μ' := by
  cases x with
  | dat d => cases e
  | loc n =>
    obtain ⟨a, rfl, ha⟩ := hx
    simp only [setDct] at e
    match em : μ[n]?, ek : keyD i with
    | none, _ => simp only [em] at e; cases e
    | some (.lst _), _ => simp only [em] at e; cases e
    | some .own, _ => simp only [em] at e; cases e
    | some .gone, _ => simp only [em] at e; cases e
    | some (.ins _ _), _ => simp only [em] at e; cases e
    | some (.dct kvs), none => simp only [em, ek] at e; cases e
    | some (.dct kvs), some k =>
      simp only [em, ek] at e
      by_cases c : allK kvs = true ∧ kvs.length < sizeLine ∧ belowB n y = true
      case neg => rw [if_neg c] at e; cases e
      rw [if_pos c] at e; cases e
      obtain ⟨hb, a', o, vs, h1, h2, h3, h4⟩ := R.pl n _ em
      rw [ha] at h1; cases h1
      obtain ⟨ls, rfl, hl⟩ := dK_of h3 h4 c.1
      have ei := keyD_ok hi ek
      subst ei
      have hp := prl_put (k := k) hl hy
      obtain ⟨q1, q2⟩ := prl_dK hp
      obtain ⟨R2, t2⟩ := R.setP (o' := .dK (putK ls k w)) (p' := .dct (dput kvs (.k k) y)) ha em (fun z => nomatch z)
        ⟨fun p hm => (dput_mem hm).elim (hb p) fun z => by rw [z]; exact belowB_ok c.2.2, a, _, _, ha, upd_same, q1, q2⟩
      exact ⟨a, _, rfl, .inl ⟨ls, k, h2, rfl, by rw [paired_len hl]; exact c.2.1, rfl⟩, t2, R2⟩
theorem snd_dput {to ti te : TE} {fo fi fe : EM} (ho : SndE K W to fo) (hi : SndE K W ti fi) (he : SndE K W te fe) : SndS K W (sDPut to ti te) (gDPut fo fi fe) := fun N ρ G H σ δ μ Dn R E hp => by
  refine SndG.stm2 (t := te) he.toV R E hp fun y μ1 G1 H1 w t1 R1 E1 d1 hp1 => ?_
  refine SndG.stm2 (t := to) ho.toV R1 E1 hp1 fun x μ2 G2 H2 v t2 R2 E2 d2 hp2 => ?_
  refine SndG.stm2 (t := ti) hi.toV R2 E2 hp2 fun i μ3 G3 H3 vi t3 R3 E3 d3 hp3 => ?_
  cases e : setDct μ3 x i y with
  | none => rw [e] at hp3; exact hp3.elim
  | some μ4 =>
    rw [e] at hp3
    obtain ⟨a, H', h1, h2, t4, R4⟩ := setDct_ok R3 (d2.mono t3.exG fun _ _ q => q) d3 (d1.mono (t2.exG.trans t3.exG) fun _ _ q => q) e
    exact ⟨a, H', h1, h2, hp3 ρ G3 H' σ t4.toS R4 E3⟩
/-! ### zip of two lists or two tuples -/
def zipD : List D → List D → List D
  | a :: as, b :: bs => .tup [a, b] :: zipD as bs
  | _, _ => []
theorem zipD_get : ∀ (as bs : List D) (i : Nat) (d : D), (zipD as bs)[i]? = some d → ∃ a b, as[i]? = some a ∧ bs[i]? = some b ∧ d = .tup [a, b]
  | a :: as, b :: bs, 0, d, h => by simp [zipD] at h; exact ⟨a, b, rfl, rfl, h.symm⟩
  | _ :: as, _ :: bs, i + 1, d, h => zipD_get as bs i d (by simpa [zipD] using h)
  | [], _, i, d, h => by simp [zipD] at h
  | _ :: _, [], i, d, h => by simp [zipD] at h
theorem zipD_end : ∀ (as bs : List D) (i : Nat), (zipD as bs).length ≤ i → as.length ≤ i ∨ bs.length ≤ i
  | a :: as, b :: bs, 0, h => by simp [zipD] at h
  | _ :: as, _ :: bs, i + 1, h => by
    rcases zipD_end as bs i (by simpa [zipD] using h) with q | q
    · exact .inl (by simp; exact q)
    · exact .inr (by simp; exact q)
  | [], _, i, h => .inl (Nat.zero_le _)
  | _ :: _, [], i, h => .inr (Nat.zero_le _)
def imZip (f : AM) : IM := fun δ μ => (f δ μ).bind fun xs μ' => match xs with
  | [.dat (.tup as), .dat (.tup bs)] => .ok (zipD as bs) μ'
  | [.dat (.lst as), .dat (.lst bs)] => .ok (zipD as bs) μ'
  | _ => .bad
theorem it_zip {J : It} {xs ys : List V} {as bs : List D} {G0 : Hp} {C : Hp → Prop} (hC : ∀ ρ G1 H μ, Rel K ρ G1 H μ → Ex G0 G1 → C H) (r : RpL K G0 xs as) (r2 : RpL K G0 ys bs)
    (go : ∀ i H u u2, C H → xs[i]? = some u → ys[i]? = some u2 → J.go i H) (stop : ∀ i H, C H → (xs.length ≤ i ∨ ys.length ≤ i) → J.stop i H)
    (yld : ∀ i H v H', C H → J.yld i H v H' → ∃ T u u2, v = .ref T ∧ H T = none ∧ H' = upd H T (.tup [u, u2]) ∧ xs[i]? = some u ∧ ys[i]? = some u2) : ItOk K G0 J (zipD as bs) := fun ρ G1 H μ R x => by
  have hq := hC ρ G1 H μ R x
  refine ⟨fun i d e => ?_, fun i hi => stop i H hq (by rw [r.length, r2.length]; exact zipD_end _ _ _ hi)⟩
  obtain ⟨a, b, ea, eb, rfl⟩ := zipD_get _ _ i d e
  obtain ⟨u, h1, h2⟩ := r.get' ea
  obtain ⟨u2, k1, k2⟩ := r2.get' eb
  refine ⟨go i H u u2 hq h1 k1, fun v H' hy => ?_⟩
  obtain ⟨T, u', u2', rfl, hn, rfl, e3, e4⟩ := yld i H v H' hq hy
  rw [h1] at e3; cases e3
  rw [k1] at e4; cases e4
  obtain ⟨R2, t2, ex⟩ := R.layD (o := .tup [u, u2]) hn
  exact ⟨_, t2, R2, Rp.tup (.inl (.inl upd_same)) (.cons ((h2.mono x).mono ex) (.cons ((k2.mono x).mono ex) .nil))⟩
theorem snd_izip {ta : TA} {f : AM} (h : SndA K W ta f) : SndI K W (iZipA K ta) (imZip f) := fun ρ G H σ δ μ Q R E hp => by
  refine SndG.seq (t := ta) h R E hp fun xs μ1 G1 H1 vs t1 R1 E1 d1 hp1 => ?_
  split at hp1
  · rename_i as bs
    cases d1 with
    | cons a r => cases r with
      | cons b r =>
        cases r
        cases a with
        | tup h1 r1 =>
          cases b with
          | tup h2 r2 =>
            refine ⟨_, _, _, _, rfl, .inr ⟨ex_t R1.ex h1, ex_t R1.ex h2, hp1 G1 H1 _ t1 R1 ?_⟩⟩
            refine it_zip (C := fun H => SqT K H _ _ ∧ SqT K H _ _) (fun ρ G2 H μ R x => ⟨ex_t (x.trans R.ex) h1, ex_t (x.trans R.ex) h2⟩) r1 r2 (fun i H u u2 c e1 e2 => ⟨_, _, u, u2, c.1, c.2, e1, e2⟩) (fun i H c e => ⟨_, _, c.1, c.2, e⟩) ?_
            rintro i H v H' c ⟨T, u, u2, e1, e2, e3, e4, e5⟩
            exact ⟨T, u, u2, e1, e2, e3, e4 _ c.1, e5 _ c.2⟩
  · rename_i as bs
    cases d1 with
    | cons a r => cases r with
      | cons b r =>
        cases r
        cases a with
        | lst h1' r1 =>
          cases b with
          | lst h2' r2 =>
            have h1 : SqL K G1 _ _ := .inl (.inl h1')
            have h2 : SqL K G1 _ _ := .inl (.inl h2')
            refine ⟨_, _, _, _, rfl, .inl ⟨ex_l R1.ex h1, ex_l R1.ex h2, hp1 G1 H1 _ t1 R1 ?_⟩⟩
            refine it_zip (C := fun H => SqL K H _ _ ∧ SqL K H _ _) (fun ρ G2 H μ R x => ⟨ex_l (x.trans R.ex) h1, ex_l (x.trans R.ex) h2⟩) r1 r2 (fun i H u u2 c e1 e2 => ⟨_, _, u, u2, c.1, c.2, e1, e2⟩) (fun i H c e => ⟨_, _, c.1, c.2, e⟩) ?_
            rintro i H v H' c ⟨T, u, u2, e1, e2, e3, e4, e5⟩
            exact ⟨T, u, u2, e1, e2, e3, e4 _ c.1, e5 _ c.2⟩
  · exact hp1.elim
end
end DL
/-! get on a dict of texts that the text holds -/
namespace DL
open PySem PySem.Spec PyProof.Rows L2
def tKGet (K : PySem.W.Frag) (d : Addr) (te : TE) : TE := fun σ H Q => te σ H fun y H1 => ∃ (z : Str) (r : Option Value) (v : V), y = .str z ∧ PySem.W.nsIn K d z = some r ∧ L2.RelV v (r.getD .none) ∧ Q v H1
theorem pe_kget {X : Cx} {x : Str} {p apos cpos : Pos} {e : Expr} {te : TE} {d : Addr} {es : Array DictEntry} {n : Nat} (D : KDict X.K X.w d es n) (hg : Gl X x) (hm : X.mg x = some (.ref d)) (he : PE X e te) (m : M1 X (.Name x p) "get" apos e cpos)
    (hd : (x == ("__debug__" : Str)) = false := by decide) : PE X (.Call (.Attribute (.Name x p) "get" apos) [e] [] cpos) (tKGet X.K d te) := by
  have ho : PE X (.Name x p) (tC (.ref d)) := pe_glob hg hm rfl hd
  refine ⟨fun pins s σ H Q I h => ?_⟩
  refine wpAny_Call_method m.base m.few m.line PySem.F.plainAttrs_dict PySem.F.slot_dict_get PySem.F.type_dict_get (thn (ho.run pins s σ H (fun v H1 => v = .ref d ∧ H1 = H) I ⟨rfl, rfl⟩) fun u s1 ⟨x, H1, I1, rx, ex, eh⟩ => ?_)
  subst ex eh
  obtain rfl : u = Value.ref d := rx
  have hM := PySem.W.mapOf_K (prog := X.prog) (w := X.w) I1.kIn D.at_ D.lit
  refine ⟨hM.typeIs, hM.noDict, ?_⟩
  rw [m.trees]
  refine Calls.callWith_builtin rfl (Calls.evalArgs_plain (Calls.spliced_cons (thn (he.run pins s1 σ _ _ I1 h) fun iv s2 ⟨y, H2, I2, ry, z, r, v, ey, e1, rv, q2⟩ => Calls.spliced_nil ?_)))
  subst ey
  obtain ⟨t, rfl⟩ := ry
  have hM2 := PySem.W.mapOf_K (prog := X.prog) (w := X.w) I2.kIn D.at_ D.lit
  refine call_meetsIn PySem.F.slot_dict_get hM2.typeIs PySem.F.entry_dict_get (PySem.F.args_dict_get_2 _ _) (meets_dict_get (PySem.strKind X.prog X.w) d (PySem.strKind_is X.prog X.w z t) D.low) ⟨_, hM2, ?_⟩
  rw [PySem.W.find_K D.at_ e1]
  exact ⟨v, _, I2.tok _, rv, q2⟩
def strs2 (e : DictEntry) : Option (Str × Str) := match e.key, e.val with
  | .str x _, .str y _ => some (x, y)
  | _, _ => none
section
variable {K : PySem.W.Frag} {W : WX}
theorem nsIn_tab {d : Addr} {es : Array DictEntry} {n : Nat} {tab : List (Str × Str)} (hl : K.lookup d = some ⟨.type "dict", none, .dict es n, #[]⟩) (he : es.toList.map strs2 = tab.map some) (z : Str) :
    ∃ r, PySem.W.nsIn K d z = some r ∧ ((r = none ∧ tab.lookup z = none) ∨ ∃ y t, r = some (.str y t) ∧ tab.lookup z = some y) := by
  have key : ∀ (l : List DictEntry) (tab : List (Str × Str)), l.map strs2 = tab.map some →
      (∃ e y t, l.find? (·.key.isStr z) = some e ∧ e.val = .str y t ∧ tab.lookup z = some y) ∨ (l.find? (·.key.isStr z) = none ∧ l.any (·.refKey) = false ∧ tab.lookup z = none) := by
    intro l
    induction l with
    | nil => intro tab h; cases tab with
      | nil => exact .inr ⟨rfl, rfl, rfl⟩
      | cons _ _ => cases h
    | cons e l ih =>
      intro tab h
      cases tab with
      | nil => cases h
      | cons k tab =>
        simp only [List.map_cons, List.cons.injEq] at h
        obtain ⟨h1, h2⟩ := h
        unfold strs2 at h1
        split at h1
        · rename_i x t y t' ek ev
          simp only [Option.some.injEq] at h1
          subst h1
          have es : e.key.isStr z = decide (x = z) := by
            rw [ek]
            show (x == z) = decide (x = z)
            by_cases c : x = z
            · subst c; simp
            · rw [decide_eq_false c]; exact beq_eq_false_iff_ne.mpr c
          by_cases c : x = z
          · refine .inl ⟨e, y, t', ?_, ev, ?_⟩
            · rw [List.find?_cons_of_pos]
              rw [es]; exact decide_eq_true c
            · subst c; simp [List.lookup]
          · have q : ¬ (e.key.isStr z = true) := by rw [es]; simp [c]
            rw [List.find?_cons_of_neg (by simpa using q)]
            have el : ((x, y) :: tab).lookup z = tab.lookup z := by
              rw [List.lookup_cons]
              rw [show (z == x) = false from beq_eq_false_iff_ne.mpr fun q => c q.symm]
            rw [el]
            rcases ih tab h2 with ⟨f, y', t'', f1, f2, f3⟩ | ⟨f1, f2, f3⟩
            · exact .inl ⟨f, y', t'', f1, f2, f3⟩
            · refine .inr ⟨f1, ?_, f3⟩
              rw [List.any_cons, f2, Bool.or_false]
              simp [DictEntry.refKey, ek]
        · cases h1
  unfold PySem.W.nsIn
  rw [hl]
  rcases key es.toList tab he with ⟨e, y, t, h1, h2, h3⟩ | ⟨h1, h2, h3⟩
  · simp only [h1]; exact ⟨_, rfl, .inr ⟨y, t, by rw [h2], h3⟩⟩
  · simp only [h1, h2]; exact ⟨none, rfl, .inl ⟨rfl, h3⟩⟩
def eKGet (tab : List (Str × Str)) (f : EM) : EM := fun δ μ => (frzV f δ μ).bind fun x μ' => match asStr x with
  | some z => match tab.lookup z with
    | some y => .ok (.dat (.str y)) μ'
    | none => .ok (.dat .non) μ'
  | none => .bad
theorem snd_kget {d : Addr} {tab : List (Str × Str)} {te : TE} {f : EM} (hk : ∀ z, ∃ r, PySem.W.nsIn K d z = some r ∧ ((r = none ∧ tab.lookup z = none) ∨ ∃ y t, r = some (.str y t) ∧ tab.lookup z = some y)) (h : SndE K W te f) :
    SndE K W (tKGet K d te) (eKGet tab f) := fun ρ G H σ δ μ Q R E hp => by
  refine SndG.seq (t := te) h.toV R E hp fun x μ1 G1 H1 v t1 R1 E1 d1 hp1 => ?_
  cases e : asStr x with
  | none => rw [e] at hp1; exact hp1.elim
  | some z =>
    rw [e] at hp1
    obtain ⟨r, h1, ⟨rfl, h2⟩ | ⟨y, t, rfl, h2⟩⟩ := hk z
    · simp only [h2] at hp1
      exact ⟨z, none, .non, asStr_ok d1 e, h1, rfl, hp1 G1 H1 _ t1 R1 Rp.non⟩
    · simp only [h2] at hp1
      exact ⟨z, _, .str y, asStr_ok d1 e, h1, ⟨t, rfl⟩, hp1 G1 H1 _ t1 R1 (Rp.str _)⟩
end
theorem pm_kget {X : Cx} {W : WX} {x : Str} {p apos cpos : Pos} {e : Expr} {te : TE} {f : EM} {tab : List (Str × Str)} {d : Addr} {es : Array DictEntry} {n : Nat} (D : KDict X.K X.w d es n) (hk : es.toList.map strs2 = tab.map some) (hg : Gl X x) (hm : X.mg x = some (.ref d)) (he : PM X W e te f) (m : M1 X (.Name x p) "get" apos e cpos)
    (hd : (x == ("__debug__" : Str)) = false := by decide) : PM X W (.Call (.Attribute (.Name x p) "get" apos) [e] [] cpos) (tKGet X.K d te) (eKGet tab f) := ⟨pe_kget D hg hm he.pe m hd, snd_kget (nsIn_tab D.at_ hk) he.sd⟩
end DL
/-! Dicts: the rules -/
namespace DL
open PySem PySem.Spec PyProof.Rows L2 RZ
section
variable {X : Cx} {W : WX} {a b o i e : Expr} {td ty te : TE} {fd fy fe : EM} {pos pos' p : Pos}
theorem pm_lk (h : PM X W e te fe) : PM X W e (tLk te) (eLk fe) := ⟨pe_lk h.pe, snd_lk h.sd⟩
theorem pm_din (hu : X.A.units + 1 < cLine) (hy : PM X W i ty fy) (hd : PM X W o td fd) (h1 : behindInMarks .In o = false := by rfl) : PM X W (.Compare i [.In] [o] pos) (tDIn ty td) (eDIn false fy fd) := ⟨pe_cmp (pc_din hu hy.pe hd.pe) h1, snd_din hy.sd hd.sd⟩
theorem pm_dnin (hu : X.A.units + 1 < cLine) (hy : PM X W i ty fy) (hd : PM X W o td fd) (h1 : behindInMarks .NotIn o = false := by rfl) : PM X W (.Compare i [.NotIn] [o] pos) (tDNotIn ty td) (eDIn true fy fd) := ⟨pe_cmp (pc_dnotin hu hy.pe hd.pe) h1, snd_dnin hy.sd hd.sd⟩
theorem pt_din (hu : X.A.units + 1 < cLine) (hy : PM X W i ty fy) (hd : PM X W o td fd) (h1 : behindInMarks .In o = false := by rfl) : PMT X W (.Compare i [.In] [o] pos) (tB (tDIn ty td)) (tmB (eDIn false fy fd)) := ⟨L2.pt_cmp (pc_din hu hy.pe hd.pe) h1, snd_tmB (snd_din hy.sd hd.sd) fun _ _ _ h => h⟩
theorem pt_dnin (hu : X.A.units + 1 < cLine) (hy : PM X W i ty fy) (hd : PM X W o td fd) (h1 : behindInMarks .NotIn o = false := by rfl) : PMT X W (.Compare i [.NotIn] [o] pos) (tB (tDNotIn ty td)) (tmB (eDIn true fy fd)) := ⟨L2.pt_cmp (pc_dnotin hu hy.pe hd.pe) h1, snd_tmB (snd_dnin hy.sd hd.sd) fun _ _ _ h => h⟩
theorem pm_dnew : PM X W (.Dict [] [] pos) tDNewK eDNew := ⟨pe_dnewK, snd_dnew⟩
structure PMP (X : Cx) (W : WX) (pos : Pos) (keys : List (Option Expr)) (values : List Expr) (trs : List (TE × TE)) (f : PsM) : Prop where
  pp : PPs X pos keys values trs
  sd : SndP X.K W trs f
theorem pp_nil : PMP X W pos [] [] [] psNil := ⟨pps_nil, snd_psNil⟩
theorem pp_cons {ks : List (Option Expr)} {vs : List Expr} {trs : List (TE × TE)} {f : PsM} (hk : PM X W i ty fy) (hv : PM X W e te fe) (hr : PMP X W pos ks vs trs f) : PMP X W pos (some i :: ks) (e :: vs) ((ty, te) :: trs) (psCons fy fe f) :=
  ⟨pps_cons hk.pe hv.pe hr.pp, snd_psCons hk.sd hv.sd hr.sd⟩
theorem pm_disK {ks : List (Option Expr)} {vs : List Expr} {trs : List (TE × TE)} {f : PsM} (h : PMP X W pos ks vs trs f) (hall : ks.all (·.isSome) = true := by rfl) (hl : ks.length = vs.length := by rfl) (h0 : ks ≠ [] := by exact fun z => nomatch z) (h15 : ks.length ≤ 15 := by decide) :
    PM X W (.Dict ks vs pos) (tDisp trs) (eDisK f) := ⟨pe_disp h.pp hall hl h0 h15, snd_disK h.sd⟩
theorem sm_dput {fo fi : EM} {to ti : TE} (hu : X.A.units + 1 < cLine) (ho : PM X W o to fo) (hi : PM X W i ti fi) (hv : PM X W e te fe) (hs : swapsWith e (some (.Subscript o i pos')) pos.line X.env = pure false := by rfl) :
    PSM X W (.Assign [.Subscript o i pos'] e pos) (sDPut to ti te) (gDPut fo fi fe) := ⟨ps_dput hu ho.pe hi.pe hv.pe hs, snd_dput ho.sd hi.sd he⟩
  where he := hv.sd
end
theorem call_dictK (K : PySem.W.Frag) {X : Cx} (hc : X.calm = true) (hK : X.K = K := by rfl) : CallR X (.type "dict") (rDictP K) := by subst hK; exact call_dictP hc
theorem call_listDK {X : Cx} (hc : X.calm = true) : CallR X (.type "list") rListK := call_listD hc
section
variable {X : Cx} {W : WX} {tg e : Expr} {te : TE} {f : EM}
theorem pi_dkeys (h : PM X W e te f) : PMI X W tg e (iKeys te) (imKeys f) := ⟨pi_keys h.pe, snd_ikeys h.sd⟩
end
end DL
set_option maxHeartbeats 2000000
/-! An own error over an own error over ValueError, whose initialiser hands its one argument to the class above and keeps it in a field of the same name. -/
namespace DX
open PySem PySem.W PySem.Calls PyProof.Rows PySem.HandSPX
def eArgs (f : Str) (p1 p2 : Pos) : Arguments := { posonlyargs := [], args := [{ arg := "self", annotation := none, pos := p1 }, { arg := f, annotation := none, pos := p2 }], vararg := none, kwonlyargs := [], kw_defaults := [], kwarg := none, defaults := [] }
def eBody (f : Str) (q1 q2 q3 q4 q5 q6 q7 q8 q9 q10 : Pos) : List Stmt :=
  [.Expr (.Call (.Attribute (.Call (.Name "super" q1) [] [] q2) "__init__" q3) [.Name f q4] [] q5) q6, .Assign [.Attribute (.Name "self" q7) f q8] (.Name f q9) q10]
def eScope (f : Str) : Scope := { kind := .function, names := [(PySem.Str.ofString "self", .local), (f, .local), (PySem.Str.ofString "__class__", .free), (PySem.Str.ofString "super", .globalImplicit)], isGenerator := false, isCoroutine := false, more := [] }
structure ErrTxt (prog : Program) (K : Frag) (mg : Str → Option Value) (nm f : Str) (C fI : Addr) : Prop where
  gC : mg nm = some (.ref C)
  cls : ∃ nm q N bs bm sn sub ab col dd k0 k1 k2 k3 k5, K.lookup C = some (excClassObj nm q C N bs bm true sn sub ab col dd k0 k1 k2 k3 k5 "ValueError.__new__") ∧ refsVE bm = true
  sa : findIn K (.ref C) "__setattr__" = some (some (.builtin "object.__setattr__"))
  ga : findIn K (.ref C) "__getattribute__" = some (some (.builtin "BaseException.__getattribute__"))
  gg : findIn K (.ref C) "__getattr__" = some none
  noN : findIn K (.ref C) f = some none
  iC : findIn K (.ref C) "__init__" = some (some (.ref fI))
  tC : typeIn K (.ref fI) = some (.type "function")
  kC : keepIn K (.ref C) = true
  exC : subIn K (.ref C) (.type "BaseException") = some true
  exV : subIn K (.ref C) (.type "ValueError") = some true
  tyC : typeIn K (.ref C) = some (.type "type")
  hdC : hasDictIn K C = true
  su : ks_superIn K C C "__init__" = some (some (.builtin "ValueError.__init__"))
  mr : mroIn K C (.ref C) = some true
  op : nsIn K cStatics "thirdparty.any" = some none
  ms : mg "super" = none
  top : (prog.main.scope.names.lookup ("super" : Str)).isSome = false
  fs : (f == ("self" : Str)) = false
  fd : (f == ("__debug__" : Str)) = false
  lf : (eScope f).names.lookup f = some .local
  lc : (eScope f).names.lookup ("__class__" : Str) = some .free
  ls : (eScope f).names.lookup ("super" : Str) = some .globalImplicit
  bd : ∀ (qual : Str) (p1 p2 : Pos) (bo : List Stmt) (doc pm : Value) (an : Option Addr) (cd ct : Value) (cc : Addr) (a b : Value), bindArgs (ksFn "__init__" qual (eArgs f p1 p2) bo (eScope f) .none .none doc pm an cd ct cc) ⟨[a, b], []⟩ = pure [(PySem.Str.ofString "self", a), (f, b)]
  fn : ∃ (oc : Value) (od : Option Addr) (doc pm : Value) (an : Option Addr) (ct : Value) (osl : Array (Option Value)) (qual : Str) (p1 p2 q1 q2 q3 q4 q5 q6 q7 q8 q9 q10 : Pos) (cda cc : Addr) (ccl cl : Value) (cdd cld : Option Addr) (vs : Array Value) (ccs csl : Array (Option Value)) (file : Str) (tf : Tok) (pl : Sem Bool),
    K.lookup fI = some ⟨oc, od, .func (ksFn "__init__" qual (eArgs f p1 p2) (eBody f q1 q2 q3 q4 q5 q6 q7 q8 q9 q10) (eScope f) .none .none doc pm an (.ref cda) ct cc), osl⟩ ∧ codeIn K (.ref cda) qual = true ∧
    K.lookup cda = some ⟨ccl, cdd, .fields vs, ccs⟩ ∧ vs[2]? = some (.str file tf) ∧ ((prog.main.file : Str) == file) = true ∧ K.lookup cc = some ⟨cl, cld, .cell (some (.ref C)), csl⟩ ∧
    (∀ env : Env, eval (.Call (.Attribute (.Call (.Name "super" q1) [] [] q2) "__init__" q3) [.Name f q4] [] q5) env = (do
      let ov ← attributeBase (.Call (.Name "super" q1) [] [] q2) "__init__" env (eval (.Call (.Name "super" q1) [] [] q2) env)
      standAt q3.atName
      let (f1, first) ← holding [ov] (getMethod ov "__init__" pl)
      callWith q5 f1 first (backTo q5 (starEach [.Name f q4] env)) [])) ∧
    (∀ env : Env, swapsWith (.Call (.Attribute (.Call (.Name "super" q1) [] [] q2) "__init__" q3) [.Name f q4] [] q5) none q6.line env = pure false) ∧
    (∀ env : Env, swapsWith (.Name f q9) (some (.Attribute (.Name "self" q7) f q8)) q10.line env = pure false)
structure InitEnd (h h' : Heap) (f : Str) (x C dx t1 : Addr) (v : Value) : Prop where
  keep : ∀ b o, b ≠ x → h.get? b = some o → h'.get? b = some o
  obj : h'.get? x = some { cls := .ref C, dict := some dx, data := .fields #[.ref t1, .none, .none, .none, .bool false, .none] }
  dbig : h.objs.size ≤ dx
  dne : dx ≠ x
  ns : h'.Ns1 dx (fun y => if y = f then some v else none)
section
variable {prog : Program} {w : World} {A : Around} {E : Value → Shared → Prop} {R : Result → Shared → Prop} {s : Shared} {K : Frag} {mg : Str → Option Value} {nm f : Str} {C fI : Addr}
theorem call_mw {h : Heap} {g : Array GenState} {d : Drawn} {t : Nat} {os : OsState} {nm q : Str} {C N : Addr} {bs bm : List Value} {hdct : Bool} {sn : List Str} {sub : List Value} {ab : Bool} {col : Option Bool} {dd : Option Addr} {k0 k1 k2 k3 k5 : Option Value} {u e t0 : Addr} {rest : List Value} {Q : Value → Shared → Prop}
    (hC : h.get? C = some (excClassObj nm q C N bs bm hdct sn sub ab col dd k0 k1 k2 k3 k5 "ValueError.__new__")) (he : h.get? e = some (excO C t0)) (hu : h.get? u = some (kxs_mw "ValueError.__init__" e)) (hrest : rest.length ≤ sizeLine)
    (hq : ∀ h' t1, (∀ b o, b ≠ e → h.get? b = some o → h'.get? b = some o) → h'.get? e = some (excO C t1) → Q .none ⟨h', g, d, t, os⟩) :
    wpAny (model prog w) A (call (.ref u) rest) Q E ⟨h, g, d, t, os⟩ := by
  have hm : (Value.type "method-wrapper" == Value.type "method" || Value.type "method-wrapper" == Value.type "builtin_function_or_method" || Value.type "method-wrapper" == Value.type "method-wrapper") = true := by decide
  refine wpAny_call (codeAny_of_tree ?_)
  show wpAny _ (Around.in1 A) (callAny (Value.ref u) { pos := rest, kw := [] }) _ _ _
  simp only [callAny]
  refine wpAny_bind (wpAny_load hu ?_)
  simp only [kxs_mw, hm, if_true]
  refine KFB.if_so (by decide) (wpAny_bind (ESX.check_bound F.excBase_ValueError hC he rfl (wpAny_bind (wpAny_pure (wpAny_pure ?_)))))
  refine And.intro (Code.quiet_builtin _ (by decide +kernel)) (codeAny_builtin F.excBase_ValueError.initEntry ?_)
  rw [Around.under_plainId F.excBase_ValueError.init.plain _]
  wp_walk
  refine hq _ h.objs.size (fun b o nb ob => ?_) ?_
  · rw [Heap.get?_update_other _ _ (Ne.symm nb)]; exact Heap.get?_push_of_some _ ob
  · rw [Heap.get?_update_self _ (Heap.get?_push_of_some _ he) rfl]; rfl
theorem init_ok (T : ErrTxt prog K mg nm f C fI) {x t0 : Addr} {v : Value} (X : K.In s.heap) (hlim : s.heap.NoLimit) (G : s.heap.Ns mainGlobals mg) (hb : ∃ mb, s.heap.Ns builtinsNs mb ∧ ∀ x : Str, x ≠ "__name__" → mb x = bootBuiltins x) (hx : s.heap.get? x = some (excO C t0)) (hnx : K.lookup x = none) (hroom : A.depth < recursionLimit)
    (hq : ∀ h' tk dx t1, InitEnd s.heap h' f x C dx t1 v → R (.ok (.ret .none)) { s with heap := h', toks := tk }) :
    codeAny (model prog w) A (.call (.ref fI) ⟨[.ref x, v], []⟩) R s := by
  obtain ⟨oc, od, doc, pm, an, ct, osl, qual, p1, p2, q1, q2, q3, q4, q5, q6, q7, q8, q9, q10, cda, cc, ccl, cl, cdd, cld, vs, ccs, csl, file, tf, pl, ho, hcd, hcode, hvs, hfile, hcell, hev, hsw, hsw2⟩ := T.fn
  obtain ⟨nm', q, N, bs, bm, sn, sub, ab, col, dd, k0, k1, k2, k3, k5, hC, hbm⟩ := T.cls
  have hcl : clsIn K C = some { name := nm', bases := bs, mro := .ref C :: bm, ns := N, qualname := q, hasDict := true, slotNames := sn, subclasses := sub, abstract := ab, collection := col, hasDel := false } := by unfold clsIn; rw [hC] <;> rfl
  have lf := T.lf
  refine ks_codeAny_call_defAt (binds := [("self", .ref x), (f, v)]) hroom (X _ _ ho) rfl hlim (codeRec_of X hcd) rfl ?_ ?_ ?_ (fun h₁ hns k₁ => ?_)
  · exact BindsTo.of_eq (T.bd _ _ _ _ _ _ _ _ _ _ _ _)
  · intro y hy
    have hy' : y ∈ (eScope f).names := hy
    simp only [eScope, List.mem_cons, List.not_mem_nil, or_false] at hy'
    rcases hy' with rfl | rfl | rfl | rfl <;> exact fun z => by cases z
  · intro y hy
    simp only [List.mem_cons, List.not_mem_nil, or_false] at hy
    rcases hy with rfl | rfl
    · rfl
    · exact lf
  have X₁ : K.In h₁ := X.keeps k₁
  have hx₁ := k₁ _ _ hx
  have I₁ : InstAt h₁ x (excO C t0) C none := ⟨hx₁, rfl, rfl, trivial⟩
  have mx : (fun y => ([("self", Value.ref x), (f, v)] : List (Str × Value)).reverse.lookup y) f = some v := by simp [List.lookup]
  have ms : (fun y => ([("self", Value.ref x), (f, v)] : List (Str × Value)).reverse.lookup y) ("self" : Str) = some (.ref x) := by
    have : ((PySem.Str.ofString "self") == f) = false := by
      have := T.fs
      rw [Bool.eq_false_iff] at this ⊢
      intro z; exact this (by simpa using (eq_of_beq z).symm)
    simp [List.lookup, this]
  refine ks_wpAt_execs_cons (ks_wpAt_Expr_any (ks_wpAt_MethodCall ?_ (hev _)) rfl (hsw _))
  refine ks_wpAt_super_base (f := fI) (cc := cda) T.ls T.lc rfl rfl (X₁ _ _ ho) rfl rfl rfl (X₁ _ _ hcode) rfl hvs hfile T.top ?_
  obtain ⟨mb, g1, g2⟩ := hb
  refine ks_loadName_global rfl T.ls (loadGlobal_builtin (G.keeps k₁) T.ms (g1.keeps k₁) ((g2 "super" (by decide)).trans (by decide +kernel)) ⟨rfl, ?_⟩)
  refine wpAny_loadName_free rfl T.lc rfl ⟨_, X₁ _ _ hcell, rfl⟩ ?_
  refine wpAny_loadName_local rfl rfl hns ms ?_
  refine ks_wpAny_isType_cls (X₁ _ _ hC) rfl ⟨rfl, ?_⟩
  refine ks_wpAny_call_super (X₁ _ _ hC) rfl hx₁ rfl (fun c e => by cases e) (looks_mroIn X₁ T.mr) (fun h₂ e₂ k₂ => ?_)
  have X₂ : K.In h₂ := X₁.keeps k₂
  have hx₂ := k₂ _ _ hx₁
  have I₂ : InstAt h₂ x (excO C t0) C none := ⟨hx₂, rfl, rfl, trivial⟩
  have su := T.su
  unfold ks_superIn at su
  rw [hcl] at su
  refine kxs_getMethod kxs_ValueError e₂ (looks_opaque X₂ T.op) (l₀ := .ref C :: bm) ?_ rfl X₂ su (I₂.type.andThen (looks_subIn X₂ T.exV)) (ks_ne X₂ I₂ hcl) rfl ?_
  · exact fun A Q E s k q => wpAny_bind ((looks_clsIn X₂ hcl) A _ E s k (wpAny_pure q))
  have k₃ : ∀ b o, h₂.get? b = some o → (h₂.push (kxs_mw "ValueError.__init__" x)).get? b = some o := fun b o e => Heap.get?_push_of_some _ e
  have X₃ := X₂.keeps k₃
  have hx₃ := k₃ _ _ hx₂
  have hns₃ := (hns.keeps k₂).keeps k₃
  refine kxs_callWith (i := "ValueError.__init__") (x := x) rfl (evalArgs_plain (x := eval (.Name f q4) _) (rest := []) (Calls.spliced_cons (wpAny_Name (wpAny_loadName_local rfl T.lf hns₃ mx (Calls.spliced_nil ⟨Heap.get?_push_at rfl rfl, ?_⟩)) T.fd)))
  have hC₃ := X₃ _ _ hC
  refine call_mw (e := x) (t0 := t0) hC₃ hx₃ (Heap.get?_push_at rfl rfl) (show [v].length ≤ sizeLine by rw [sizeLine_eq]; exact (by decide : 1 ≤ 16777216)) (fun h₄ t1 k₄ hx₄ => ?_)
  have hxL : s.heap.objs.size ≠ x := Nat.ne_of_gt (Heap.lt_size hx)
  have hns₄ : h₄.Ns s.heap.objs.size (fun y => ([("self", Value.ref x), (f, v)] : List (Str × Value)).reverse.lookup y) := let ⟨o, es, ep, ho, r⟩ := hns₃; ⟨o, es, ep, k₄ _ o hxL ho, r⟩
  show PySem.wpAt _ _ _ (execs _ _) _ _ _
  refine ks_wpAt_execs_cons (wpAt_of_wpAny (plainObj_wpAny_Assign_Attribute ?_ (hsw2 _)))
  refine wpAny_Name (wpAny_loadName_local rfl T.lf hns₄ mx ?_) T.fd
  refine wpAny_Name (wpAny_loadName_local rfl rfl hns₄ ms ?_) (by decide)
  have X₄ : K.In h₄ := fun a o e => k₄ a o (fun z => by rw [z, hnx] at e; cases e) (X₃ a o e)
  refine set_plain X₄ (ox := excO C t1) (od := none) ⟨hx₄, rfl, rfl, trivial⟩ T.sa ?_
  refine exc_osa X₄ hx₄ hcl (show refsVE (.ref C :: bm) = true from hbm) rfl T.noN (fun h₅ tk₅ dx k₅ dn dne hx₅ hn₅ => ?_)
  have z : s.heap.objs.size < h₁.objs.size := hns.lt
  have z2 : s.heap.objs.size < h₄.objs.size := hns₄.lt
  refine wpAt_of_wpAny (wpAny_execs_nil ?_)
  exact hq h₅ tk₅ dx t1 ⟨fun b o hb e => k₅ b o hb (k₄ b o hb (k₃ b o (k₂ b o (k₁ b o e)))), hx₅, Nat.le_of_lt (Nat.lt_of_lt_of_le z2 dn), dne, hn₅⟩
end
end DX
set_option maxHeartbeats 2000000
namespace DX
open PySem PySem.W PySem.Calls PyProof.Rows PySem.HandSPX
structure OwnMade (h h' : Heap) (f : Str) (e C d : Addr) (v : Value) : Prop where
  keep : ∀ b o, h.get? b = some o → h'.get? b = some o
  new : h.objs.size ≤ e
  obj : ∃ oe vs, h'.get? e = some oe ∧ oe.cls = .ref C ∧ oe.dict = some d ∧ oe.data = .fields vs ∧ vs[1]? = some .none
  dbig : h.objs.size ≤ d
  dne : d ≠ e
  ns : h'.Ns1 d (fun y => if y = f then some v else none)
section
variable {prog : Program} {w : World} {A : Around} {E : Value → Shared → Prop} {R : Result → Shared → Prop} {s : Shared} {K : Frag} {mg : Str → Option Value} {nm f : Str} {C fI : Addr}
theorem made_ok (T : ErrTxt prog K mg nm f C fI) {v : Value} (X : K.In s.heap) (hlim : s.heap.NoLimit) (G : s.heap.Ns mainGlobals mg) (hb : ∃ mb, s.heap.Ns builtinsNs mb ∧ ∀ x : Str, x ≠ "__name__" → mb x = bootBuiltins x) (hroom : A.depth + 1 < recursionLimit)
    (hq : ∀ h' tk e d, OwnMade s.heap h' f e C d v → R (.ok (.ret (.ref e))) { s with heap := h', toks := tk }) :
    codeAny (model prog w) A (.call (.ref C) ⟨[v], []⟩) R s := by
  obtain ⟨nm', q, N, bs, bm, sn, sub, ab, col, dd, k0, k1, k2, k3, k5, hC, hbm⟩ := T.cls
  obtain ⟨hp, g, dr, tk, os⟩ := s
  have k : ∀ b o, hp.get? b = some o → ((hp.push (kdv_tup [v])).push (excO C hp.objs.size)).get? b = some o := fun b o e => Heap.get?_push_of_some _ (Heap.get?_push_of_some _ e)
  have hget : ((hp.push (kdv_tup [v])).push (excO C hp.objs.size)).get? (hp.objs.size + 1) = some (excO C hp.objs.size) := by heap_get
  have hnx : K.lookup (hp.objs.size + 1) = none := by
    cases e : K.lookup (hp.objs.size + 1) with
    | none => rfl
    | some o =>
      have z : hp.get? (hp.objs.size + 1) = some o := X _ _ e
      exact absurd (Nat.lt_of_succ_lt (Heap.lt_size z)) (Nat.lt_irrefl _)
  refine call_own F.excBase_ValueError (fun X => refsVE_contains X bm hbm) (X _ _ hC) (looks_findIn X T.iC) (fun self => bind_fn X self T.tC) (show [v].length ≤ sizeLine by rw [sizeLine_eq]; exact (by decide : 1 ≤ 16777216)) ?_
  have hb' : ∃ mb, ((hp.push (kdv_tup [v])).push (excO C hp.objs.size)).Ns builtinsNs mb ∧ ∀ x : Str, x ≠ "__name__" → mb x = bootBuiltins x := by
    obtain ⟨mb, b1, b2⟩ := hb
    exact ⟨mb, Heap.Ns.keeps b1 k, b2⟩
  refine init_ok (s := ⟨(hp.push (kdv_tup [v])).push (excO C hp.objs.size), g, dr, tk, os⟩) T (X.keeps k) (hlim.keeps k) (Heap.Ns.keeps G k) hb' hget hnx ?_ fun h' tk' dx t1 ⟨k', hx, dn, dne, hns⟩ => ?_
  · show A.depth + 1 < recursionLimit
    exact hroom
  · have old : ∀ b o, hp.get? b = some o → h'.get? b = some o := fun b o e => k' b o (Nat.ne_of_lt (Nat.lt_succ_of_lt (Heap.lt_size e))) (k b o e)
    have z : hp.objs.size + 1 + 1 ≤ dx := by
      first
        | (simpa only [Heap.size_push] using dn)
        | exact dn
        | (have q := dn; rw [Heap.size_push, Heap.size_push] at q; exact q)
    exact ⟨rfl, hq h' tk' (hp.objs.size + 1) dx ⟨old, Nat.le_succ _, ⟨_, _, hx, rfl, rfl, rfl, rfl⟩, Nat.le_trans (Nat.le_trans (Nat.le_succ _) (Nat.le_succ _)) z, dne, hns⟩⟩
end
end DX
namespace DL
open PySem PySem.Spec PyProof.Rows L2
theorem relO_one {v : V} {v' : Value} (r : L2.RelV v v') (g f : Str) : RelO (List.lookup f [(g, v)]) (if f = g then some v' else none) := by
  by_cases hw : f = g
  · subst hw
    rw [if_pos rfl]
    have q : List.lookup f [(f, v)] = some v := by simp [List.lookup]
    rw [q]
    exact r
  · rw [if_neg hw]
    have qw : (f == g) = false := by simpa using hw
    have q2 : List.lookup f [(g, v)] = none := by simp [List.lookup, qw]
    rw [q2]
    trivial
section
variable {X : Cx} {C fI : Addr} {nm f : Str}
def tMkErr (C : Addr) (f : Str) (ta : TA) : L2.St → Hp → XK → Prop := fun σ H Q => ta σ H fun vs H1 => ∃ v, vs = [v] ∧ ∀ d, H1 d = none → Q (.ref C) (some d) (upd H1 d (.xd [(f, v)]))
theorem pmk_err {a : Expr} {ta : TA} {p pos : Pos} {k : Nat} (T : DX.ErrTxt X.prog X.K X.mg nm f C fI) (hr : Room k X.A) (ha : PA X [a] ta) (hg : Gl X nm) (hdb : (nm == ("__debug__" : Str)) = false := by decide)
    (he : starEach (a :: []) X.env = (false, eval a X.env) :: starEach [] X.env := by rfl) (hpl : (backTo pos (starEach [] X.env)).any (·.1) = false := by rfl) :
    PMk X (.Call (.Name nm p) [a] [] pos) (tMkErr C f ta) := by
  intro pins s σ H Q I h
  refine wpAny_Call_Name_kw (ld_glob I hg T.gC ?_ hdb)
  refine PySem.W.callWith_K (h₀ := X.base) I.ok.mod.kin T.kC (thn (ha.run pos pins s σ H _ I h) fun us s1 hh => ?_) he hpl
  obtain ⟨vs, H1, I1, r1, v, ev, q1⟩ := hh
  subst ev
  refine ⟨I1.kIn, ?_⟩
  cases r1 with
  | cons rv rn =>
    rename_i v' us'
    cases rn
    show wpAny _ _ (call (.ref C) [v']) _ _ _
    have hlim := I1.nolimit
    have G1 : s1.heap.Ns mainGlobals X.mg := I1.mod.glob.keeps I1.bk
    have hb1 : ∃ mb, s1.heap.Ns builtinsNs mb ∧ ∀ x : Str, x ≠ "__name__" → mb x = bootBuiltins x := by
      obtain ⟨mb, b1, b2⟩ := I1.mod.blt
      exact ⟨mb, b1.keeps I1.bk, b2⟩
    obtain ⟨hp, g, dr, tk, os⟩ := s1
    refine wpAny_call (DX.made_ok T I1.kIn hlim G1 hb1 (by have := hr.dp; omega) fun h' tk' e d M => ?_)
    show MkP X pins σ Q (.ref e) ⟨h', g, dr, tk', os⟩
    obtain ⟨oe, fv, hoe, hc, hd, hdat, h1⟩ := M.obj
    have hns := M.ns
    obtain ⟨G', g1, g2⟩ := restrict h' fun b => decide (b ≠ e)
    have gk : ∀ b, b ≠ e → G'.get? b = h'.get? b := fun b hb => g1 b (decide_eq_true hb)
    have ge : G'.get? e = none := g2 e (by simp)
    have old : ∀ b o, hp.get? b = some o → G'.get? b = some o := fun b o q => (gk b (Nat.ne_of_lt (Nat.lt_of_lt_of_le (Heap.lt_size q) M.new))).trans (M.keep b o q)
    have ob : ObjOk X.prog X.w (upd H1 d (.xd [(f, v)])) G' d (.xd [(f, v)]) :=
      ⟨_, hns.at (fun o q => (gk d M.dne).trans q), fun g => relO_one rv f g⟩
    have J : Inv X pins σ (upd H1 d (.xd [(f, v)])) ⟨G', g, dr, tk', os⟩ := I1.laid (t' := tk') old M.dbig ob
    refine ⟨e, oe, fv, ⟨G', g, dr, tk', os⟩, _, .ref C, some d, rfl, J, fun b o q => ?_, ge, hoe, ⟨hc, hd⟩, hdat, h1, ?_, rfl, I1.bare, raises_own T.exC T.tyC, q1 d (I1.hok.fresh M.dbig)⟩
    · by_cases hb : b = e
      · have q' : G'.get? b = some o := q
        rw [hb, ge] at q'; cases q'
      · exact (gk b hb).symm.trans q
    · rw [upd_ne (Ne.symm M.dne)]
      exact I1.hok.fresh M.new
end
end DL
/-! raise E(x) -/
namespace DL
open PySem PySem.Spec PyProof.Rows L2
def gRaise (nm f : Str) (fe : EM) : SM := fun _ δ μ => lift (frzV fe δ μ) δ fun x μ' => match x with
  | .dat d => .exc ⟨nm, [(f, d)]⟩ δ μ'
  | .loc _ => .bad
section
variable {K : PySem.W.Frag} {W : WX} {C : Addr} {nm f : Str}
theorem snd_raise {te : TE} {fe : EM} (hC : ClsAt K nm C) (h : SndE K W te fe) : SndS K W (fun _ σ H => tMkErr C f (tCons te tNil) σ H fun cls d H' => W cls d σ H') (gRaise nm f fe) := fun N ρ G H σ δ μ D R E hp => by
  refine SndG.stm (t := te) h.toV R E hp fun x μ1 G1 H1 v t1 R1 E1 d1 hp1 => ?_
  cases x with
  | loc n => exact hp1.elim
  | dat d =>
    refine ⟨v, rfl, fun a hn => ?_⟩
    obtain ⟨R2, t2, ex⟩ := R1.layD (o := .xd [(f, v)]) hn
    exact hp1 ρ _ _ σ _ _ (t1.trans t2).toS R2 (E1.mono ex) ⟨⟨C, hC, rfl⟩, .inr ⟨a, [(f, v)], rfl, upd_same, rfl, .cons (Rp.mono ex d1) .nil⟩⟩
end
theorem sm_raise {X : Cx} {W : WX} {C fI : Addr} {nm f : Str} {a : Expr} {te : TE} {fe : EM} {p pos pos' : Pos} {k : Nat} (hc : X.calm = true) (tk : Takes X W) (T : DX.ErrTxt X.prog X.K X.mg nm f C fI) (hC : ClsAt X.K nm C) (hr : Room k X.A) (ha : PM X W a te fe) (hg : Gl X nm) (hdb : (nm == ("__debug__" : Str)) = false := by decide)
    (he : starEach (a :: []) X.env = (false, eval a X.env) :: starEach [] X.env := by rfl) (hpl : (backTo pos (starEach [] X.env)).any (·.1) = false := by rfl) :
    PSM X W (.Raise (some (.Call (.Name nm p) [a] [] pos)) none pos') (fun _ σ H => tMkErr C f (tCons te tNil) σ H fun cls d H' => W cls d σ H') (gRaise nm f fe) :=
  ⟨ps_raise hc tk (pmk_err T hr (pa_cons ha.pe pa_nil he) hg hdb he hpl), snd_raise hC ha.sd⟩
end DL
/-! an error that the suite holds: isinstance(e, C), e.f -/
namespace DL
open PySem PySem.Spec PyProof.Rows L2
def rIsX (K : PySem.W.Frag) (C a : Addr) (dd : Addr) : List V → Hp → VK → Prop := fun xs H Q => ∃ (c : V) (cv : Value) (b : Bool) (fs : List (Str × V)), xs = [.ref a, c] ∧ (∀ u, L2.RelV c u → u = cv) ∧ H dd = some (.xd fs) ∧ ExcC K C ∧ PySem.W.kitOne K (.ref C) cv = some b ∧ Q (.bl b) H
theorem call_isX {X : Cx} {a C dd : Addr} {oe : Obj} {pn : List (Addr × Obj)} (hz : Zc (.ref C) (some dd) oe) (hf : ∃ vs, oe.data = .fields vs) : CallR (X.suite a ((a, oe) :: pn)) (.builtin "isinstance") (rIsX X.K C a dd) := by
  intro pins s σ H xs us Q I r h
  obtain ⟨c, cv, b, fs, rfl, hcv, ea, EC, e, q⟩ := h
  cases r with
  | cons rx rr =>
    cases rr with
    | cons rt rr =>
      cases rr
      cases rx
      have ec := hcv _ rt
      subst ec
      obtain ⟨hget, _⟩ := I.pin (a, oe) (List.mem_append.mpr (.inl List.mem_cons_self))
      obtain ⟨vs, hv⟩ := hf
      have hx : ObjOk X.prog X.w H s.heap dd (.xd fs) := I.hok dd _ ea
      obtain ⟨mA, hns, hr⟩ := hx
      obtain ⟨od, ho, hl⟩ := lookIn_ns hns
      have J : PySem.W.InstAt s.heap a oe C (some od) := ⟨hget, hz.1, by unfold PySem.W.notCls; rw [hv] <;> rfl, by rw [hz.2]; exact ho⟩
      exact PySem.W.kia_one (PySem.W.kitx_exc (by obtain ⟨cd, hc, _⟩ := PySem.W.any_some EC.hd; rw [hc]; rfl) EC.hg EC.hk EC.hs EC.ha EC.hn EC.ht EC.hm) I.kIn J e (fun z => nomatch z) fun tk => ⟨.bl b, H, I.kept (t' := tk) fun _ _ z => z, rfl, q⟩
/-- the error in slot i -/
def errAt (i : Nat) (δ : Env) : Option (Addr × Addr × Addr × Str × List (Str × D)) := match δ[i]? with
  | some (some (.dat (.err a C d nm fs))) => some (a, C, d, nm, fs)
  | _ => none
section
variable {K : PySem.W.Frag} {W : WX} {ρ : Pm} {G H : Hp} {σ : Slots} {δ : Env} {μ : Mem}
theorem errAt_ok {i : Nat} {a C d : Addr} {nm : Str} {fs : List (Str × D)} (E : EnvOk K ρ G σ δ) (e : errAt i δ = some (a, C, d, nm, fs)) :
    σ[i]? = some (some (.ref a)) ∧ ClsAt K nm C ∧ ∃ vs : List (Str × V), G d = some (.xd vs) ∧ vs.map (·.1) = fs.map (·.1) ∧ RpL K G (vs.map (·.2)) (fs.map (·.2)) := by
  unfold errAt at e
  split at e
  · rename_i h
    cases e
    obtain ⟨v, h1, h2⟩ := E.at_ i _ h
    cases h2 with
    | err c h k r => exact ⟨h1, c, _, h, k, r⟩
  · cases e
/-- isinstance(e, c): by the error's name -/
def eIsE (i : Nat) (a C d : Addr) (tab : List (Str × Bool)) : EM := fun δ μ => match errAt i δ with
  | some (a', C', d', nm, _) => if a' = a ∧ C' = C ∧ d' = d then match tab.lookup nm with
      | some b => .ok (.dat (.bl b)) μ
      | none => .bad
    else .bad
  | none => .bad
/-- what isinstance(e, cv) answers, for each name of the table -/
def TabE (K : PySem.W.Frag) (cv : Value) (tab : List (Str × Bool)) : Prop := ∀ nm b, tab.lookup nm = some b → ∀ C, ClsAt K nm C → ExcC K C ∧ PySem.W.kitOne K (.ref C) cv = some b
theorem snd_isE {i : Nat} {a C d : Addr} {c : V} {cv : Value} {tab : List (Str × Bool)} (hc : ∀ u, L2.RelV c u → u = cv) (T : TabE K cv tab) :
    SndE K W (tCB (rIsX K C a d) (tCons (tVar i) (tCons (tC c) tNil))) (eIsE i a C d tab) := fun ρ G H σ δ μ Q R E hp => by
  unfold eIsE at hp
  cases e : errAt i δ with
  | none => rw [e] at hp; exact hp.elim
  | some p =>
    obtain ⟨a', C', d', nm, fs⟩ := p
    simp only [e] at hp
    by_cases q : a' = a ∧ C' = C ∧ d' = d
    case neg => rw [if_neg q] at hp; exact hp.elim
    rw [if_pos q] at hp
    obtain ⟨rfl, rfl, rfl⟩ := q
    obtain ⟨h1, h2, vs, h3, h4, h5⟩ := errAt_ok E e
    cases et : tab.lookup nm with
    | none => rw [et] at hp; exact hp.elim
    | some b =>
      rw [et] at hp
      obtain ⟨T1, T2⟩ := T nm b et C' h2
      exact ⟨.ref a', h1, c, cv, b, vs, rfl, hc, R.ex _ _ h3, T1, T2, hp G H _ (Tr.refl _ _ _) R (.bl b)⟩
/-- e.f, e of the class nm0 -/
def eXf (i : Nat) (a C d : Addr) (nm0 f : Str) : EM := fun δ μ => match errAt i δ with
  | some (a', C', d', nm, fs) => if a' = a ∧ C' = C ∧ d' = d ∧ nm = nm0 then match fs.lookup f with
      | some v => .ok (.dat v) μ
      | none => .bad
    else .bad
  | none => .bad
theorem lookD_ok {f : Str} {v : D} : ∀ {vs : List (Str × V)} {fs : List (Str × D)}, vs.map (·.1) = fs.map (·.1) → RpL K G (vs.map (·.2)) (fs.map (·.2)) → fs.lookup f = some v → ∃ w, vs.lookup f = some w ∧ Rp K G w v
  | [], [], _, _, e => by cases e
  | [], _ :: _, h, _, _ => by cases h
  | _ :: _, [], h, _, _ => by cases h
  | (g, x) :: vs, (g', y) :: fs, h, r, e => by
    simp only [List.map_cons, List.cons.injEq] at h
    obtain ⟨rfl, h⟩ := h
    cases r with
    | cons r1 r2 =>
      rw [List.lookup_cons] at e ⊢
      cases q : f == g with
      | true => rw [q] at e; cases e; exact ⟨x, rfl, r1⟩
      | false => rw [q] at e; exact lookD_ok h r2 e
theorem snd_xf {i : Nat} {a C d C0 : Addr} {nm0 f : Str} (hC : ClsAt K nm0 C0) : SndE K W (tXf a (.ref C) (some d) C0 f (tVar i)) (eXf i a C d nm0 f) := fun ρ G H σ δ μ Q R E hp => by
  unfold eXf at hp
  cases e : errAt i δ with
  | none => rw [e] at hp; exact hp.elim
  | some p =>
    obtain ⟨a', C', d', nm, fs⟩ := p
    simp only [e] at hp
    by_cases q : a' = a ∧ C' = C ∧ d' = d ∧ nm = nm0
    case neg => rw [if_neg q] at hp; exact hp.elim
    rw [if_pos q] at hp
    obtain ⟨rfl, rfl, rfl, rfl⟩ := q
    obtain ⟨h1, h2, vs, h3, h4, h5⟩ := errAt_ok E e
    cases el : fs.lookup f with
    | none => rw [el] at hp; exact hp.elim
    | some v =>
      rw [el] at hp
      obtain ⟨w, k1, k2⟩ := lookD_ok h4 h5 el
      cases h2.uniq hC
      exact ⟨.ref a', h1, rfl, rfl, d', vs, w, rfl, R.ex _ _ h3, k1, hp G H _ (Tr.refl _ _ _) R k2⟩
end
end DL
/-! try: .. except C as e: .. -/
namespace DL
open PySem PySem.Spec PyProof.Rows L2
def unset (i : Nat) : Out → Out
  | .next δ μ => .next (δ.set i none) μ
  | .brk δ μ => .brk (δ.set i none) μ
  | .cnt δ μ => .cnt (δ.set i none) μ
  | .ret r μ => .ret r μ
  | .exc _ _ _ => .bad
  | .bad => .bad
open Classical in
/-- what the suite does, whatever the error's addresses are -/
noncomputable def suiteOut (i : Nat) (k : Addr → Addr → Addr → Out) : Out := if h : ∃ o, ∀ a C d, k a C d = o then unset i h.choose else .bad
theorem suiteOut_of {i : Nat} {k : Addr → Addr → Addr → Out} {o : Out} (h : ∀ a C d, k a C d = o) : suiteOut i k = unset i o := by
  have e : ∃ o, ∀ a C d, k a C d = o := ⟨o, h⟩
  unfold suiteOut
  rw [dif_pos e]
  rw [← e.choose_spec 0 0 0, h 0 0 0]
theorem suiteOut_ok {i : Nat} {k : Addr → Addr → Addr → Out} (h : suiteOut i k ≠ .bad) : ∃ o, (∀ a C d, k a C d = o) ∧ suiteOut i k = unset i o := by
  by_cases e : ∃ o, ∀ a C d, k a C d = o
  · obtain ⟨o, e⟩ := e; exact ⟨o, e, suiteOut_of e⟩
  · exact absurd (by unfold suiteOut; rw [dif_neg e]) h
noncomputable def gTry (cat : List (Str × Bool)) (i : Nat) (gb : SM) (gs : Addr → Addr → Addr → SM) : SM := fun N δ μ => match gb N δ μ with
  | .exc x δ' μ' => match cat.lookup x.nm with
    | some true => if x.fs ≠ [] then suiteOut i fun a C d => gs a C d N (δ'.set i (some (.dat (.err a C d x.nm x.fs)))) μ' else .bad
    | some false => .exc x δ' μ'
    | none => .bad
  | o => o
/-- which errors the clause takes -/
def CatOk (K : PySem.W.Frag) (c : Value) (cat : List (Str × Bool)) : Prop := ∀ nm b, cat.lookup nm = some b → ∀ C, ClsAt K nm C → PySem.W.exmOne K (.ref C) c = some b
def tsOf (ts : Addr → Addr → Addr → TS) : Addr → Value → Option Addr → TS := fun a cls d => match cls, d with
  | .ref C, some dd => ts a C dd
  | _, _ => fun _ _ _ => False
section
variable {K : PySem.W.Frag} {W : WX} {ρ : Pm} {G H : Hp} {σ : Slots} {δ : Env} {μ : Mem}
theorem EnvOk.unset (i : Nat) (E : EnvOk K ρ G σ δ) : EnvOk K ρ G (σ.set i none) (δ.set i none) := by
  refine ⟨by rw [List.length_set, List.length_set]; exact E.len, fun j x h => ?_⟩
  by_cases e : i = j
  · subst e
    by_cases hl : i < δ.length
    · rw [List.getElem?_set_self hl] at h; cases h
    · rw [List.getElem?_eq_none (by rw [List.length_set]; omega)] at h; cases h
  · rw [List.getElem?_set_ne e] at h
    obtain ⟨v, h1, h2⟩ := E.at_ j x h
    exact ⟨v, by rw [List.getElem?_set_ne e]; exact h1, h2⟩
theorem PostS.unset {N : Nat} {D : Ends} {o : Out} (i : Nat) (h : PostS K W N ρ G H D (unset i o)) :
    PostS K W N ρ G H { nx := fun σ' H' => D.nx (σ'.set i none) H', rt := D.rt, bk := fun σ' H' => D.bk (σ'.set i none) H', ct := fun σ' H' => D.ct (σ'.set i none) H' } o := by
  cases o with
  | next δ' μ' => exact fun ρ' G' H' σ' t R E => h ρ' G' H' _ t R (E.unset i)
  | ret r μ' => exact h
  | brk δ' μ' => exact fun ρ' G' H' σ' t R E => h ρ' G' H' _ t R (E.unset i)
  | cnt δ' μ' => exact fun ρ' G' H' σ' t R E => h ρ' G' H' _ t R (E.unset i)
  | exc x δ' μ' => exact h.elim
  | bad => exact h
theorem snd_try {c : Value} {i : Nat} {cat : List (Str × Bool)} {tb : WX → TS} {ts : Addr → Addr → Addr → TS} {gb : SM} {gs : Addr → Addr → Addr → SM} (hcat : CatOk K c cat)
    (hb : ∀ W', SndS K W' (tb W') gb) (hs : ∀ a C d, SndS K W (ts a C d) (gs a C d)) :
    SndS K W (fun D σ H => tb (wAs K c i (tsOf ts) W D) D σ H) (gTry cat i gb gs) := fun N ρ G H σ δ μ D R E hp => by
  refine hb _ N ρ G H σ δ μ D R E ?_
  unfold gTry at hp
  cases e : gb N δ μ with
  | next δ' μ' => rw [e] at hp; exact hp
  | ret r μ' => rw [e] at hp; exact hp
  | brk δ' μ' => rw [e] at hp; exact hp
  | cnt δ' μ' => rw [e] at hp; exact hp
  | bad => rw [e] at hp; exact hp
  | exc x δ' μ' =>
    simp only [e] at hp
    intro ρ' G' H' σ' cls d t' R' E' X'
    obtain ⟨⟨C, hC, rfl⟩, hd⟩ := X'
    cases q : cat.lookup x.nm with
    | none => simp only [q] at hp; exact hp.elim
    | some b =>
      refine ⟨b, hcat _ _ q C hC, fun hb => ?_, fun hb => ?_⟩
      · subst hb
        simp only [q] at hp
        by_cases hne : x.fs ≠ []
        case neg => rw [if_neg hne] at hp; exact hp.elim
        rw [if_pos hne] at hp
        intro a ha
        rcases hd with ⟨z, _⟩ | ⟨dd, vs, rfl, h3, h4, h5⟩
        · exact absurd z hne
        · show ts a C dd _ _ _
          obtain ⟨o, ho, eo⟩ := suiteOut_ok (fun z => by rw [z] at hp; exact hp)
          rw [eo] at hp
          have hp2 := PostS.unset i (PostS.shift t' hp)
          refine hs a C dd N ρ' G' H' _ (δ'.set i (some (.dat (.err a C dd x.nm x.fs)))) μ' _ R' (E'.set i (x := .dat (.err a C dd x.nm x.fs)) (Rp.err hC h3 h4 h5)) ?_
          rw [ho a C dd]
          exact hp2
      · subst hb
        simp only [q] at hp
        exact hp ρ' G' H' σ' _ _ t' R' E' ⟨⟨C, hC, rfl⟩, hd⟩
end
theorem sm_try {X : Cx} {W : WX} {x n : Str} {c : Value} {i : Nat} {body suite : List Stmt} {b₀ : Stmt} {np pos pos' : Pos} {tb : WX → TS} {ts : Addr → Addr → Addr → TS} {gb : SM} {gs : Addr → Addr → Addr → SM} {cat : List (Str × Bool)}
    (hs : X.stack = X.env :: X.outer) (hf : X.env.frame = some X.env.locals) (hN : X.N.Nodup) (hi : X.N[i]? = some n) (hln : X.env.kindOf n = some .local) (hc : Names X x c) (tk : Takes X W) (hcat : CatOk X.K c cat)
    (hb : ∀ (W' : WX) (pn : List (Addr × Obj)) (xe : Value → Shared → Prop), Takes (X.tr pn xe) W' → PassesOwn (model X.prog X.w) X.A X.env xe → PSMs (X.tr pn xe) W' body (tb W') gb)
    (hbs : ∀ W', SndS X.K W' (tb W') gb)
    (hsu : ∀ (a : Addr) (oe : Obj) (C dd : Addr) (pn : List (Addr × Obj)), Zc (.ref C) (some dd) oe → (∃ vs, oe.data = .fields vs) → PSMs (X.suite a ((a, oe) :: pn)) W (b₀ :: suite) (ts a C dd) (gs a C dd)) :
    PSM X W (.Try body [.ExceptHandler (some (.Name x np)) (some n) (b₀ :: suite) pos'] [] [] pos) (fun D σ H => tb (wAs X.K c i (tsOf ts) W D) D σ H) (gTry cat i gb gs) := by
  refine ⟨ps_try_as hs hf hN hi hln hc tk (fun W' pn xe t p => (hb W' pn xe t p).ps) (fun a oe cls d pn hz hv => ?_), snd_try hcat hbs fun a C d => (hsu a { cls := .ref C, dict := some d, data := .fields #[] } C d [] ⟨rfl, rfl⟩ ⟨_, rfl⟩).sd⟩
  unfold tsOf
  split
  · exact (hsu a oe _ _ pn hz hv).ps
  · exact ⟨fun _ _ _ _ _ _ h => h.elim⟩
end DL
namespace DL
open PySem PySem.Spec PyProof.Rows L2
/-! ### the bag of draws -/
structure Bg where
  a : Int
  b : Int
  c : Int
  cs : List Int
def Bg.pl (B : Bg) : Pl := .lst [.dat (.int B.a), .dat (.int B.b), .dat (.int B.c), .dat (.lst (B.cs.map D.int))]
structure Bg.ok (B : Bg) : Prop where
  a : 0 ≤ B.a
  b : 0 ≤ B.b
  b' : B.b < 2147483647
  c : 0 ≤ B.c
  cs : ∀ z ∈ B.cs, 0 ≤ z
def Bg.cell (B : Bg) : Int := if B.c < B.cs.length then B.cs.getD B.c.toNat 0 else 0
def Bg.fill (B : Bg) : Bg := if B.a = 0 then ⟨if 1000000000000000000 ≤ B.cell then B.cell else 0, (B.b * 48271 + B.cell % 2147483647 + 7919 * (B.c + 1)) % 2147483647, B.c + 1, B.cs⟩ else B
def Bg.low (B : Bg) (m : Int) : Int := ((B.b + 1) * 39373 % 1000000007 * ((B.b + 1) * 39373 % 1000000007) % 998244353 * 30011) % 998244353 / 7 % m
def takeB (B : Bg) (m : Int) : Int × Bg := if 0 < B.fill.a then (B.fill.a % m, { B.fill with a := B.fill.a / m }) else (B.fill.low m, B.fill)
def gTake : SM :=
    (gSeq (gIf (tmB (eOp dEq (eOp dIx (eVar 0) (eD (.int 0))) (eD (.int 0)))) (gSeq (gAsg 2 (eD (.int 0)))
    (gSeq (gIf (tmB (eOp dLt (eOp dIx (eVar 0) (eD (.int 2))) (eCB (d1 dLen) (aCons (eOp dIx (eVar 0) (eD (.int 3))) aNil)))) (gAsg 2 (eOp dIx (eOp dIx (eVar 0) (eD (.int 3))) (eOp dIx (eVar 0) (eD (.int 2))))) gNext)
    (gSeq (gAugS (fun i j => i + j) (eVar 0) (eD (.int 2)) (eD (.int 1)))
    (gSeq (gIf (tmB (eOp dGe (eVar 2) (eD (.int 1000000000000000000)))) (gSet (eVar 0) (eD (.int 0)) (eVar 2)) gNext)
    (gSeq (gAsg 3 (eOp dAdd (eOp dAdd (eOp dMul (eOp dIx (eVar 0) (eD (.int 1))) (eD (.int 48271))) (eOp dMod (eCB (d1 dInt) (aCons (eVar 2) aNil)) (eD (.int 2147483647)))) (eOp dMul (eD (.int 7919)) (eOp dIx (eVar 0) (eD (.int 2))))))
    (gSet (eVar 0) (eD (.int 1)) (eOp dMod (eCB (d1 dInt) (aCons (eVar 3) aNil)) (eD (.int 2147483647))))))))) gNext)
    (gSeq (gIf (tmB (eOp dGt (eOp dIx (eVar 0) (eD (.int 0))) (eD (.int 0)))) (gSeq (gAsg 4 (eOp dMod (eCB (d1 dInt) (aCons (eOp dIx (eVar 0) (eD (.int 0))) aNil)) (eVar 1)))
    (gSeq (gSet (eVar 0) (eD (.int 0)) (eOp dDiv (eCB (d1 dInt) (aCons (eOp dIx (eVar 0) (eD (.int 0))) aNil)) (eVar 1)))
    (gRet (eVar 4)))) gNext)
    (gSeq (gAsg 5 (eOp dMod (eCB (d1 dInt) (aCons (eOp dMul (eOp dAdd (eOp dIx (eVar 0) (eD (.int 1))) (eD (.int 1))) (eD (.int 39373))) aNil)) (eD (.int 1000000007))))
    (gSeq (gAsg 6 (eOp dMod (eCB (d1 dInt) (aCons (eOp dMul (eOp dMod (eCB (d1 dInt) (aCons (eOp dMul (eVar 5) (eVar 5)) aNil)) (eD (.int 998244353))) (eD (.int 30011))) aNil)) (eD (.int 998244353))))
    (gRet (eOp dMod (eCB (d1 dInt) (aCons (eOp dDiv (eVar 6) (eD (.int 7))) aNil)) (eVar 1)))))))
theorem dEqB_int (b : Bool) (i j : Int) (μ : Mem) : dEqS b (.dat (.int i)) (.dat (.int j)) μ = .ok (.dat (.bl ((i == j) == b))) μ := by
  simp [dEqS, asStr, dEqB, peekPy, peek, peekK, toPy, SeqAt.shaped, PyData.eqv, PyData.canLay0, PyData.depth]
theorem frz_ofV (x : DV) : frz (ofV x) = some x := by cases x <;> rfl
/-- the first part: a new cell when the last is used up -/
theorem fill_ok {B : Bg} (h : B.ok) : B.fill.ok := by
  unfold Bg.fill
  split
  · rename_i e
    have hc : 0 ≤ B.cell := by
      unfold Bg.cell
      split
      · rw [List.getD_eq_getElem?_getD]
        cases q : B.cs[B.c.toNat]? with
        | none => exact Int.le_refl 0
        | some z => exact h.cs z (List.mem_of_getElem? q)
      · exact Int.le_refl 0
    exact ⟨by dsimp only; split <;> omega, by dsimp only; omega, by dsimp only; omega, by dsimp only; have := h.c; omega, h.cs⟩
  · exact h
theorem takeB_ok {B : Bg} (h : B.ok) {m : Int} (hm : 0 < m) : (takeB B m).2.ok ∧ 0 ≤ (takeB B m).1 ∧ (takeB B m).1 < m := by
  have f := fill_ok h
  unfold takeB
  split
  · exact ⟨⟨Int.ediv_nonneg f.a (by omega), f.b, f.b', f.c, f.cs⟩, Int.emod_nonneg _ (by omega), Int.emod_lt_of_pos _ hm⟩
  · exact ⟨f, Int.emod_nonneg _ (by omega), Int.emod_lt_of_pos _ hm⟩

def gFill : SM := (gIf (tmB (eOp dEq (eOp dIx (eVar 0) (eD (.int 0))) (eD (.int 0)))) (gSeq (gAsg 2 (eD (.int 0)))
    (gSeq (gIf (tmB (eOp dLt (eOp dIx (eVar 0) (eD (.int 2))) (eCB (d1 dLen) (aCons (eOp dIx (eVar 0) (eD (.int 3))) aNil)))) (gAsg 2 (eOp dIx (eOp dIx (eVar 0) (eD (.int 3))) (eOp dIx (eVar 0) (eD (.int 2))))) gNext)
    (gSeq (gAugS (fun i j => i + j) (eVar 0) (eD (.int 2)) (eD (.int 1)))
    (gSeq (gIf (tmB (eOp dGe (eVar 2) (eD (.int 1000000000000000000)))) (gSet (eVar 0) (eD (.int 0)) (eVar 2)) gNext)
    (gSeq (gAsg 3 (eOp dAdd (eOp dAdd (eOp dMul (eOp dIx (eVar 0) (eD (.int 1))) (eD (.int 48271))) (eOp dMod (eCB (d1 dInt) (aCons (eVar 2) aNil)) (eD (.int 2147483647)))) (eOp dMul (eD (.int 7919)) (eOp dIx (eVar 0) (eD (.int 2))))))
    (gSet (eVar 0) (eD (.int 1)) (eOp dMod (eCB (d1 dInt) (aCons (eVar 3) aNil)) (eD (.int 2147483647))))))))) gNext)
theorem pl_lt {μ : Mem} {n : Nat} {p : Pl} (h : μ[n]? = some p) : n < μ.length := (List.getElem?_eq_some_iff.mp h).1
theorem asL_loc {μ : Mem} {n : Nat} {xs : List DV} (h : μ[n]? = some (.lst xs)) : asL μ (.loc n) = some xs := by simp [asL, h]
theorem dIx_loc {μ : Mem} {n : Nat} {xs : List DV} {i : Int} {x : DV} (h : μ[n]? = some (.lst xs)) (hx : atI xs i = some x) : dIx (.loc n) (.dat (.int i)) μ = .ok (ofV x) μ := by
  simp [dIx, asI, asS, asL, h, hx]
theorem dIx_lst {μ : Mem} {ds : List D} {i : Int} {d : D} (h : atI ds i = some d) : dIx (.dat (.lst ds)) (.dat (.int i)) μ = .ok (.dat d) μ := by
  have : atI (ds.map DV.dat) i = some (.dat d) := by
    unfold atI at h ⊢
    rw [List.length_map]
    cases q : ixN ds.length i with
    | none => rw [q] at h; cases h
    | some j => rw [q] at h; simp only [Option.bind_some] at h ⊢; rw [List.getElem?_map, h]; rfl
  simp [dIx, asI, asS, asL, this, ofV]
theorem atI_nat {α : Type} {xs : List α} {k : Nat} {x : α} (h : xs[k]? = some x) : atI xs (k : Int) = some x := by
  have : k < xs.length := (List.getElem?_eq_some_iff.mp h).1
  unfold atI ixN
  rw [if_pos (by omega), if_pos (by omega)]
  simpa using h
theorem ev_var {δ : Env} {i : Nat} {x : DV} {μ : Mem} (h : δ[i]? = some (some x)) : eVar i δ μ = .ok (ofV x) μ := by unfold eVar; rw [h]
theorem fz_var {δ : Env} {i : Nat} {x : DV} {μ : Mem} (h : δ[i]? = some (some x)) : frzV (eVar i) δ μ = .ok x μ := by unfold frzV; rw [ev_var h]; simp [Res.bind, frz_ofV]
theorem fz_D {δ : Env} {d : D} {μ : Mem} : frzV (eD d) δ μ = .ok (.dat d) μ := rfl
theorem fz_of {f : EM} {δ : Env} {μ μ' : Mem} {x : DV} (h : f δ μ = .ok (ofV x) μ') : frzV f δ μ = .ok x μ' := by unfold frzV; rw [h]; simp [Res.bind, frz_ofV]
theorem fz_ofD {f : EM} {δ : Env} {μ μ' : Mem} {x : D} (h : f δ μ = .ok (.dat x) μ') : frzV f δ μ = .ok (.dat x) μ' := fz_of (x := .dat x) h
theorem ev_op {g : DV → DV → Mem → Res R} {f h : EM} {δ : Env} {μ μ1 μ2 : Mem} {x y : DV} {r : Res R} (h1 : frzV f δ μ = .ok x μ1) (h2 : frzV h δ μ1 = .ok y μ2) (h3 : g x y μ2 = r) : eOp g f h δ μ = r := by unfold eOp; rw [h1]; simp only [Res.bind]; rw [h2]; exact h3
theorem ev_cb1 {g : List DV → Mem → Res R} {f : EM} {δ : Env} {μ μ1 : Mem} {x : DV} {r : Res R} (h1 : frzV f δ μ = .ok x μ1) (h2 : g [x] μ1 = r) : eCB g (aCons f aNil) δ μ = r := by unfold eCB aCons aNil; rw [h1]; simp only [Res.bind]; exact h2
theorem ev_cb2 {g : List DV → Mem → Res R} {f h : EM} {δ : Env} {μ μ1 μ2 : Mem} {x y : DV} {r : Res R} (h1 : frzV f δ μ = .ok x μ1) (h2 : frzV h δ μ1 = .ok y μ2) (h3 : g [x, y] μ2 = r) : eCB g (aCons f (aCons h aNil)) δ μ = r := by unfold eCB aCons aNil; rw [h1]; simp only [Res.bind]; rw [h2]; exact h3
theorem sq_next {g h : SM} {N : Nat} {δ δ' : Env} {μ μ' : Mem} {o : Out} (e : g N δ μ = .next δ' μ') (k : h N δ' μ' = o) : gSeq g h N δ μ = o := by unfold gSeq; rw [e]; exact k
theorem sq_ret {g h : SM} {N : Nat} {δ : Env} {μ μ' : Mem} {r : R} (e : g N δ μ = .ret r μ') : gSeq g h N δ μ = .ret r μ' := by unfold gSeq; rw [e]
theorem tm_of {f : EM} {δ : Env} {μ μ' : Mem} {b : Bool} (h : f δ μ = .ok (.dat (.bl b)) μ') : tmB f δ μ = .ok b μ' := by unfold tmB; rw [h]; rfl
theorem if_true {ft : TM} {g h : SM} {N : Nat} {δ : Env} {μ μ' : Mem} {o : Out} (e : ft δ μ = .ok true μ') (k : g N δ μ' = o) : gIf ft g h N δ μ = o := by unfold gIf; rw [e]; exact k
theorem if_false {ft : TM} {g h : SM} {N : Nat} {δ : Env} {μ μ' : Mem} {o : Out} (e : ft δ μ = .ok false μ') (k : h N δ μ' = o) : gIf ft g h N δ μ = o := by unfold gIf; rw [e]; exact k
theorem asg_ok {f : EM} {i : Nat} {N : Nat} {δ : Env} {μ μ' : Mem} {x : DV} (e : frzV f δ μ = .ok x μ') : gAsg i f N δ μ = .next (δ.set i (some x)) μ' := by unfold gAsg; rw [e]; rfl
theorem ret_ok {f : EM} {N : Nat} {δ : Env} {μ μ' : Mem} {r : R} (e : f δ μ = .ok r μ') : gRet f N δ μ = .ret r μ' := by unfold gRet; rw [e]; rfl
theorem drop_ok {f : EM} {N : Nat} {δ : Env} {μ μ' : Mem} {r : R} (e : f δ μ = .ok r μ') : gDrop f N δ μ = .next δ μ' := by unfold gDrop; rw [e]; rfl
theorem set_lp {μ : Mem} {n : Nat} {xs : List DV} {k : Int} {j : Nat} {y : DV} (h : μ[n]? = some (.lst xs)) (hk : ixN xs.length k = some j) (hb : belowB n y = true) : setPl μ (.loc n) (.dat (.int k)) y = some (μ.set n (.lst (xs.set j y))) := by
  simp [setPl, atPl, h, asI, hk, hb]
theorem set_at {μ : Mem} {n : Nat} {p q : Pl} (h : μ[n]? = some p) : (μ.set n q)[n]? = some q := by rw [List.getElem?_set_self (pl_lt h)]
theorem mul_ok {i j : Int} {μ : Mem} (h : cMul i j = true) : dMul (.dat (.int i)) (.dat (.int j)) μ = .ok (.dat (.int (i * j))) μ := by simp [d2I, asI, h]
theorem mod_ok {i j : Int} {μ : Mem} (h : 0 < j) : dMod (.dat (.int i)) (.dat (.int j)) μ = .ok (.dat (.int (i % j))) μ := by simp [d2I, asI, h]
theorem div_ok {i j : Int} {μ : Mem} (h : 0 < j) (h' : j < 1073741824) : dDiv (.dat (.int i)) (.dat (.int j)) μ = .ok (.dat (.int (i / j))) μ := by simp [d2I, asI, h, h']
theorem add_ok {i j : Int} {μ : Mem} : dAdd (.dat (.int i)) (.dat (.int j)) μ = .ok (.dat (.int (i + j))) μ := by simp [dAdd, asI]
theorem lt_ok {i j : Int} {μ : Mem} : dLt (.dat (.int i)) (.dat (.int j)) μ = .ok (.dat (.bl (decide (i < j)))) μ := by simp [d2I, asI]
theorem ge_ok {i j : Int} {μ : Mem} : dGe (.dat (.int i)) (.dat (.int j)) μ = .ok (.dat (.bl (decide (j ≤ i)))) μ := by simp [d2I, asI]
theorem gt_ok {i j : Int} {μ : Mem} : dGt (.dat (.int i)) (.dat (.int j)) μ = .ok (.dat (.bl (decide (j < i)))) μ := by simp [d2I, asI]
theorem int_ok {i : Int} {μ : Mem} : d1 dInt [.dat (.int i)] μ = .ok (.dat (.int i)) μ := rfl
theorem cMul_r {i j : Int} (h : -2 ^ 64 < j ∧ j < 2 ^ 64) : cMul i j = true := by unfold cMul; rw [decide_eq_true (p := _ ∧ _) h]; simp
theorem cMul_l {i j : Int} (h : -2 ^ 64 < i ∧ i < 2 ^ 64) : cMul i j = true := by unfold cMul; rw [decide_eq_true (p := _ ∧ _) h]; simp
theorem ev_int {f : EM} {δ : Env} {μ μ1 : Mem} {i : Int} (h : frzV f δ μ = .ok (.dat (.int i)) μ1) : frzV (eCB (d1 dInt) (aCons f aNil)) δ μ = .ok (.dat (.int i)) μ1 := fz_ofD (ev_cb1 h int_ok)
theorem ixN_nat {n k : Nat} (h : k < n) : ixN n (k : Int) = some k := by unfold ixN; rw [if_pos (by omega), if_pos (by omega)]; simp
/-- an item of the bag -/
theorem bag_at {μ : Mem} {n : Nat} {xs : List DV} {d : D} {δ : Env} {i : Int} (k : Nat) (h : μ[n]? = some (.lst xs)) (hd : δ[0]? = some (some (.loc n))) (hk : xs[k]? = some (.dat d)) (hi : i = (k : Int) := by rfl) : frzV (eOp dIx (eVar 0) (eD (.int i))) δ μ = .ok (.dat d) μ := by
  subst hi; exact fz_ofD (ev_op (fz_var hd) fz_D (dIx_loc h (atI_nat hk)))
theorem gset_ok {fe : EM} {δ : Env} {μ μ1 : Mem} {n N : Nat} {xs : List DV} {y : D} {i : Int} (k : Nat) (e : frzV fe δ μ = .ok (.dat y) μ1) (h : μ1[n]? = some (.lst xs)) (hd : δ[0]? = some (some (.loc n))) (hk : k < xs.length) (hi : i = (k : Int) := by rfl) : gSet (eVar 0) (eD (.int i)) fe N δ μ = .next δ (μ1.set n (.lst (xs.set k (.dat y)))) := by
  subst hi
  unfold gSet
  rw [e]; simp only [Res.bind]; rw [fz_var hd]; simp only [Res.bind]; rw [fz_D]; simp only []
  rw [set_lp (j := k) h (ixN_nat hk) rfl]; rfl
theorem faug_ok {δ : Env} {μ : Mem} {n N : Nat} {xs : List DV} {i j ki : Int} (k : Nat) (h : μ[n]? = some (.lst xs)) (hd : δ[0]? = some (some (.loc n))) (hk : xs[k]? = some (.dat (.int i))) (hk3 : k < 2 ^ 63) (hi : ki = (k : Int) := by rfl) : gAugS (fun i j => i + j) (eVar 0) (eD (.int ki)) (eD (.int j)) N δ μ = .next δ (μ.set n (.lst (xs.set k (.dat (.int (i + j)))))) := by
  subst hi
  have hl : k < xs.length := (List.getElem?_eq_some_iff.mp hk).1
  have g : getPl μ (.loc n) (.dat (.int k)) = some i := by
    have : (0 : Int) ≤ (k : Int) ∧ (k : Int) < 2 ^ 63 := ⟨by omega, by exact_mod_cast hk3⟩
    simp [getPl, asL, h, asI, this, hk]; omega
  unfold gAugS
  rw [fz_var hd]; simp only [Res.bind]; rw [fz_D]; simp only []; rw [g]; simp only []; rw [fz_D]; simp only [asI]
  rw [set_lp (j := k) h (ixN_nat hl) rfl]; rfl
theorem fill_spec {B : Bg} (hB : B.ok) {μ : Mem} {n N : Nat} {m : DV} (h : μ[n]? = some B.pl) : ∃ y z, gFill N [some (.loc n), some m, none, none, none, none, none] μ = .next [some (.loc n), some m, y, z, none, none, none] (μ.set n B.fill.pl) := by
  have e0 : eOp dEq (eOp dIx (eVar 0) (eD (.int 0))) (eD (.int 0)) [some (.loc n), some m, none, none, none, none, none] μ = .ok (.dat (.bl ((B.a == 0) == true))) μ := ev_op (bag_at 0 h rfl rfl) fz_D (dEqB_int _ _ _ _)
  unfold gFill
  by_cases ha : B.a = 0
  · have e1 : ((B.a == 0) == true) = true := by simp [ha]
    rw [e1] at e0
    have e2 : gIf (tmB (eOp dLt (eOp dIx (eVar 0) (eD (.int 2))) (eCB (d1 dLen) (aCons (eOp dIx (eVar 0) (eD (.int 3))) aNil)))) (gAsg 2 (eOp dIx (eOp dIx (eVar 0) (eD (.int 3))) (eOp dIx (eVar 0) (eD (.int 2))))) gNext N [some (.loc n), some m, some (.dat (.int 0)), none, none, none, none] μ =
        .next [some (.loc n), some m, some (.dat (.int B.cell)), none, none, none, none] μ := by
      have l : eCB (d1 dLen) (aCons (eOp dIx (eVar 0) (eD (.int 3))) aNil) [some (.loc n), some m, some (.dat (.int 0)), none, none, none, none] μ = .ok (.dat (.int B.cs.length)) μ :=
        ev_cb1 (bag_at 3 h rfl rfl) (by simp [d1, dLen, asS, asL])
      have t : eOp dLt (eOp dIx (eVar 0) (eD (.int 2))) (eCB (d1 dLen) (aCons (eOp dIx (eVar 0) (eD (.int 3))) aNil)) [some (.loc n), some m, some (.dat (.int 0)), none, none, none, none] μ = .ok (.dat (.bl (decide (B.c < B.cs.length)))) μ :=
        ev_op (bag_at 2 h rfl rfl) (fz_ofD l) lt_ok
      by_cases c : B.c < B.cs.length
      · rw [decide_eq_true c] at t
        have hc := hB.c
        have hl : B.c.toNat < B.cs.length := by omega
        have g : B.cs[B.c.toNat]? = some B.cell := by
          unfold Bg.cell; rw [if_pos c, List.getD_eq_getElem?_getD, List.getElem?_eq_getElem hl]; rfl
        have w : dIx (.dat (.lst (B.cs.map D.int))) (.dat (.int B.c)) μ = .ok (.dat (.int B.cell)) μ := by
          have : B.c = ((B.c.toNat : Nat) : Int) := by omega
          rw [this]
          exact dIx_lst (atI_nat (by rw [List.getElem?_map, g]; rfl))
        exact if_true (tm_of t) (asg_ok (fz_ofD (ev_op (bag_at 3 h rfl rfl) (bag_at 2 h rfl rfl) w)))
      · rw [decide_eq_false c] at t
        have : B.cell = 0 := by unfold Bg.cell; rw [if_neg c]
        rw [this]
        exact if_false (tm_of t) rfl
    have h2 := set_at (q := .lst [.dat (.int B.a), .dat (.int B.b), .dat (.int (B.c + 1)), .dat (.lst (B.cs.map D.int))]) h
    have e3 : gIf (tmB (eOp dGe (eVar 2) (eD (.int 1000000000000000000)))) (gSet (eVar 0) (eD (.int 0)) (eVar 2)) gNext N [some (.loc n), some m, some (.dat (.int B.cell)), none, none, none, none] (μ.set n (.lst [.dat (.int B.a), .dat (.int B.b), .dat (.int (B.c + 1)), .dat (.lst (B.cs.map D.int))])) =
        .next [some (.loc n), some m, some (.dat (.int B.cell)), none, none, none, none] (μ.set n (.lst [.dat (.int (if 1000000000000000000 ≤ B.cell then B.cell else 0)), .dat (.int B.b), .dat (.int (B.c + 1)), .dat (.lst (B.cs.map D.int))])) := by
      have t : eOp dGe (eVar 2) (eD (.int 1000000000000000000)) [some (.loc n), some m, some (.dat (.int B.cell)), none, none, none, none] (μ.set n (.lst [.dat (.int B.a), .dat (.int B.b), .dat (.int (B.c + 1)), .dat (.lst (B.cs.map D.int))])) = .ok (.dat (.bl (decide (1000000000000000000 ≤ B.cell)))) (μ.set n (.lst [.dat (.int B.a), .dat (.int B.b), .dat (.int (B.c + 1)), .dat (.lst (B.cs.map D.int))])) :=
        ev_op (fz_var (i := 2) rfl) fz_D ge_ok
      by_cases c : 1000000000000000000 ≤ B.cell
      · rw [decide_eq_true c] at t
        rw [if_pos c]
        refine if_true (tm_of t) ((gset_ok 0 (fz_var (i := 2) (x := .dat (.int B.cell)) rfl) h2 rfl (by simp)).trans ?_)
        rw [List.set_set]; rfl
      · rw [decide_eq_false c] at t
        rw [if_neg c]
        rw [ha] at t ⊢
        exact if_false (tm_of t) rfl
    have h3 := set_at (q := .lst [.dat (.int (if 1000000000000000000 ≤ B.cell then B.cell else 0)), .dat (.int B.b), .dat (.int (B.c + 1)), .dat (.lst (B.cs.map D.int))]) h
    refine ⟨some (.dat (.int B.cell)), some (.dat (.int (B.b * 48271 + B.cell % 2147483647 + 7919 * (B.c + 1)))), ?_⟩
    refine if_true (tm_of e0) (sq_next (asg_ok fz_D) (sq_next e2 (sq_next (faug_ok 2 h rfl rfl (by decide)) (sq_next e3 ?_))))
    have fe : B.fill.pl = .lst [.dat (.int (if 1000000000000000000 ≤ B.cell then B.cell else 0)), .dat (.int ((B.b * 48271 + B.cell % 2147483647 + 7919 * (B.c + 1)) % 2147483647)), .dat (.int (B.c + 1)), .dat (.lst (B.cs.map D.int))] := by
      unfold Bg.fill; rw [if_pos ha]; rfl
    rw [fe]
    generalize hz : μ.set n (.lst [.dat (.int (if 1000000000000000000 ≤ B.cell then B.cell else 0)), .dat (.int B.b), .dat (.int (B.c + 1)), .dat (.lst (B.cs.map D.int))]) = μ3 at h3
    refine sq_next (asg_ok (x := .dat (.int (B.b * 48271 + B.cell % 2147483647 + 7919 * (B.c + 1)))) (fz_ofD (ev_op (fz_ofD (ev_op (fz_ofD (ev_op (bag_at 1 h3 rfl rfl) fz_D (mul_ok (cMul_r (by decide)))))
      (fz_ofD (ev_op (ev_int (fz_var (i := 2) (x := .dat (.int B.cell)) rfl)) fz_D (mod_ok (by decide)))) add_ok)) (fz_ofD (ev_op fz_D (bag_at 2 h3 rfl rfl) (mul_ok (cMul_l (by decide))))) add_ok))) ?_
    refine (gset_ok 1 (fz_ofD (ev_op (ev_int (fz_var (i := 3) (x := .dat (.int (B.b * 48271 + B.cell % 2147483647 + 7919 * (B.c + 1)))) rfl)) fz_D (mod_ok (by decide)))) h3 rfl (by simp)).trans ?_
    rw [← hz, List.set_set]; rfl
  · have e1 : ((B.a == 0) == true) = false := by simp [ha]
    rw [e1] at e0
    refine ⟨none, none, if_false (tm_of e0) ?_⟩
    unfold Bg.fill; rw [if_neg ha]
    show Out.next _ μ = _
    rw [show μ.set n B.pl = μ from by
      apply List.ext_getElem?
      intro i
      by_cases c : n = i
      · subst c; rw [set_at h, h]
      · rw [List.getElem?_set_ne c]]
theorem take_len {μ : Mem} {n : Nat} {p : Pl} : (μ.set n p).take μ.length = μ.set n p := List.take_of_length_le (by rw [List.length_set]; exact Nat.le_refl _)
theorem call_ret {g : SM} {k m : Nat} {xs : List DV} {μ μ' : Mem} {r : R} {o : Res R} (hk : xs.length = k) (h : g μ.length (xs.map some ++ List.replicate m none) μ = .ret r μ') (hc : closeR μ.length r μ' = o) : callD g k m xs μ = o := by
  unfold callD; rw [if_pos hk]; unfold callF; rw [h]; exact hc
theorem take_spec {B : Bg} (hB : B.ok) {μ : Mem} {n : Nat} {m : Int} (h : μ[n]? = some B.pl) (hm : 0 < m) (hm' : m < 1073741824) :
    callD gTake 2 5 [.loc n, .dat (.int m)] μ = .ok (.dat (.int (takeB B m).1)) (μ.set n (takeB B m).2.pl) := by
  obtain ⟨y, z, hf⟩ := fill_spec hB (N := μ.length) (m := .dat (.int m)) h
  have h1 := set_at (q := B.fill.pl) h
  have f := fill_ok hB
  have key : gTake μ.length [some (.loc n), some (.dat (.int m)), none, none, none, none, none] μ = .ret (.dat (.int (takeB B m).1)) (μ.set n (takeB B m).2.pl) := by
    refine sq_next hf ?_
    have t : eOp dGt (eOp dIx (eVar 0) (eD (.int 0))) (eD (.int 0)) [some (.loc n), some (.dat (.int m)), y, z, none, none, none] (μ.set n B.fill.pl) = .ok (.dat (.bl (decide (0 < B.fill.a)))) (μ.set n B.fill.pl) :=
      ev_op (bag_at 0 h1 rfl rfl) fz_D gt_ok
    by_cases c : 0 < B.fill.a
    · rw [decide_eq_true c] at t
      have tk : takeB B m = (B.fill.a % m, { B.fill with a := B.fill.a / m }) := by unfold takeB; rw [if_pos c]
      rw [tk]
      refine sq_ret (if_true (tm_of t) (sq_next (asg_ok (fz_ofD (ev_op (ev_int (bag_at 0 h1 rfl rfl)) (fz_var (i := 1) (x := .dat (.int m)) rfl) (mod_ok hm))))
        (sq_next (gset_ok 0 (fz_ofD (ev_op (ev_int (bag_at 0 h1 rfl rfl)) (fz_var (i := 1) (x := .dat (.int m)) rfl) (div_ok hm hm'))) h1 rfl (by simp [Bg.pl]))
          ((ret_ok (ev_var (i := 4) (x := .dat (.int (B.fill.a % m))) rfl)).trans ?_))))
      rw [List.set_set]; rfl
    · rw [decide_eq_false c] at t
      have tk : takeB B m = (B.fill.low m, B.fill) := by unfold takeB; rw [if_neg c]
      rw [tk]
      refine sq_next (if_false (tm_of t) rfl) ?_
      have hb := f.b
      have hb' := f.b'
      have q1 : 0 ≤ (B.fill.b + 1) * 39373 % 1000000007 ∧ (B.fill.b + 1) * 39373 % 1000000007 < 1000000007 := by omega
      refine sq_next (asg_ok (fz_ofD (ev_op (ev_int (fz_ofD (ev_op (fz_ofD (ev_op (bag_at 1 h1 rfl rfl) fz_D add_ok)) fz_D (mul_ok (cMul_r (by decide)))))) fz_D (mod_ok (by decide))))) ?_
      unfold Bg.low
      generalize (B.fill.b + 1) * 39373 % 1000000007 = e at q1
      refine sq_next (asg_ok (fz_ofD (ev_op (ev_int (fz_ofD (ev_op (fz_ofD (ev_op (ev_int (fz_ofD (ev_op (fz_var (i := 5) (x := .dat (.int e)) rfl) (fz_var (i := 5) (x := .dat (.int e)) rfl) (mul_ok (cMul_r (by omega)))))) fz_D (mod_ok (by decide)))) fz_D (mul_ok (cMul_r (by decide)))))) fz_D (mod_ok (by decide))))) ?_
      exact ret_ok (ev_op (ev_int (fz_ofD (ev_op (fz_var (i := 6) (x := .dat (.int (e * e % 998244353 * 30011 % 998244353))) rfl) fz_D (div_ok (by decide) (by decide))))) (fz_var (i := 1) (x := .dat (.int m)) rfl) (mod_ok hm))
  refine call_ret rfl key ?_
  show Res.ok _ (List.take _ _) = _
  rw [take_len]
end DL
namespace DL
open PySem PySem.Spec PyProof.Rows L2
/-! ### data that == and repr take -/
structure Fit (k w : Nat) (p : PyData) : Prop where
  lay : p.canLay0 = true
  dep : p.depth ≤ k
  wt : p.weight ≤ w
  sh : p.showable = true
  is : p.intsShort 13 = true
theorem Fit.mono {k k' w w' : Nat} {p : PyData} (h : Fit k w p) (hk : k ≤ k') (hw : w ≤ w') : Fit k' w' p := ⟨h.lay, Nat.le_trans h.dep hk, Nat.le_trans h.wt hw, h.sh, h.is⟩
theorem fitAll {k w : Nat} : ∀ (ps : List PyData), (∀ p ∈ ps, Fit k w p) → PyData.canLayAll0 ps = true ∧ PyData.depthAll ps ≤ k ∧ PyData.weightAll ps ≤ ps.length * (w + 1) ∧ PyData.showableAll ps = true ∧ PyData.intsShortAll 13 ps = true
  | [], _ => ⟨rfl, Nat.zero_le _, Nat.zero_le _, rfl, rfl⟩
  | p :: ps, h => by
    obtain ⟨a, b, c, d, e⟩ := fitAll ps fun q hq => h q (List.mem_cons_of_mem _ hq)
    have f := h p List.mem_cons_self
    have g1 := f.dep
    have g2 := f.wt
    refine ⟨by simp [PyData.canLayAll0, a, f.lay], by simp only [PyData.depthAll]; omega, ?_, by simp [PyData.showableAll, d, f.sh], by simp [PyData.intsShortAll, e, f.is]⟩
    simp only [PyData.weightAll, List.length_cons, Nat.succ_mul]; omega
theorem fit_list {k w n : Nat} {ps : List PyData} (h : ∀ p ∈ ps, Fit k w p) (hn : ps.length ≤ n) : Fit (k + 1) (n * (w + 1)) (.list ps) := by
  obtain ⟨a, b, c, d, e⟩ := fitAll ps h
  exact ⟨a, by simp only [PyData.depth]; omega, by simp only [PyData.weight]; exact Nat.le_trans c (Nat.mul_le_mul_right _ hn), d, e⟩
theorem fit_tuple {k w n : Nat} {ps : List PyData} (h : ∀ p ∈ ps, Fit k w p) (hn : ps.length ≤ n) : Fit (k + 1) (n * (w + 1)) (.tuple ps) := by
  obtain ⟨a, b, c, d, e⟩ := fitAll ps h
  exact ⟨a, by simp only [PyData.depth]; omega, by simp only [PyData.weight]; exact Nat.le_trans c (Nat.mul_le_mul_right _ hn), d, e⟩
theorem fit_bool (b : Bool) : Fit 0 0 (.bool b) := ⟨rfl, Nat.zero_le _, Nat.zero_le _, rfl, rfl⟩
theorem fit_none : Fit 0 0 .none := ⟨rfl, Nat.zero_le _, Nat.zero_le _, rfl, rfl⟩
theorem fit_str {s : Str} {w : Nat} (h : PyData.strOk s = true) (hw : s.cps.size ≤ w) : Fit 0 w (.str s) := ⟨h, Nat.zero_le _, hw, rfl, rfl⟩
theorem Fit.shaped {k w : Nat} {p : PyData} (h : Fit k w p) (hk : k ≤ 64) : SeqAt.shaped p = true := by
  unfold SeqAt.shaped; rw [h.lay, decide_eq_true (Nat.le_trans h.dep hk)]; rfl
theorem Fit.shown {k w : Nat} {p : PyData} (h : Fit k w p) (hk : k ≤ 64) (hw : w ≤ 2 ^ 20) : p.shown.length ≤ sizeLine :=
  PyData.shown_fits_of_layable0 (B := 13) (by decide) (by decide) (by unfold PyData.layable0; rw [h.lay, decide_eq_true (Nat.le_trans h.dep hk), decide_eq_true (Nat.le_trans h.wt hw)]; rfl) h.is
theorem eq_anyB {μ : Mem} {x y : DV} {p q : PyData} {k w k' w' : Nat} (b : Bool) (hx : peekPy μ x = some p) (hy : peekPy μ y = some q) (h : Fit k w p) (h' : Fit k' w' q) (hk : k ≤ 64) (hk' : k' ≤ 64) : dEqB b x y μ = .ok (.dat (.bl (PyData.eqv p q == b))) μ := by
  unfold dEqB; rw [hx]; simp only; rw [hy]; simp only; rw [if_pos ⟨h.shaped hk, h'.shaped hk'⟩]
theorem str_beq (s t : Str) : (s == t) = decide (s = t) := by
  by_cases c : s = t
  · subst c; simp
  · rw [decide_eq_false c]; exact beq_false_of_ne c
theorem asStr_dat {x : DV} {s : Str} (h : asStr x = some s) : x = .dat (.str s) := by
  unfold asStr at h; split at h <;> cases h; rfl
theorem eq_str {b : Bool} {s t : Str} {μ : Mem} : dEqS b (.dat (.str s)) (.dat (.str t)) μ = .ok (.dat (.bl (decide (s = t) == b))) μ := rfl
theorem eq_any {μ : Mem} {x y : DV} {p q : PyData} {k w k' w' : Nat} (b : Bool) (hx : peekPy μ x = some p) (hy : peekPy μ y = some q) (h : Fit k w p) (h' : Fit k' w' q) (hk : k ≤ 64) (hk' : k' ≤ 64) : dEqS b x y μ = .ok (.dat (.bl (PyData.eqv p q == b))) μ := by
  have e := eq_anyB b hx hy h h' hk hk'
  unfold dEqS
  cases e1 : asStr x with
  | none => exact e
  | some s =>
    cases e2 : asStr y with
    | none => exact e
    | some t =>
      rw [asStr_dat e1] at hx
      rw [asStr_dat e2] at hy
      have hx' : some (PyData.str s) = some p := by rw [← hx]; unfold peekPy peek; cases s; rfl
      have hy' : some (PyData.str t) = some q := by rw [← hy]; unfold peekPy peek; cases t; rfl
      cases hx'; cases hy'
      simp only [PyData.eqv, str_beq]
theorem eq_same {μ : Mem} {x y : DV} {p : PyData} {k w : Nat} (hx : peekPy μ x = some p) (hy : peekPy μ y = some p) (h : Fit k w p) (hk : k ≤ 64) : dEq x y μ = .ok (.dat (.bl true)) μ := by
  refine (eq_any true hx hy h h hk hk).trans ?_
  rw [SeqAt.eqv_refl p h.lay]; rfl
theorem repr_same {μ : Mem} {x : DV} {p : PyData} {k w : Nat} (hx : peekPy μ x = some p) (h : Fit k w p) (hk : k ≤ 64) (hw : w ≤ 2 ^ 20) : d1 dRepr [x] μ = .ok (.dat (.str p.shown)) μ := by
  show dRepr x μ = _
  unfold dRepr; rw [hx]; simp only; rw [if_pos ⟨h.sh, h.shaped hk, h.shown hk hw⟩]
theorem toPyL_map {α : Type} {f : α → D} {g : α → PyData} : ∀ (xs : List α), (∀ x ∈ xs, toPy (f x) = some (g x)) → toPyL (xs.map f) = some (xs.map g)
  | [], _ => rfl
  | x :: xs, h => by
    have h1 := h x List.mem_cons_self
    have h2 := toPyL_map xs fun y hy => h y (List.mem_cons_of_mem _ hy)
    simp [toPyL, h1, h2]
theorem peekL_dat {f : DV → Option D} (hf : ∀ d, f (.dat d) = some d) : ∀ ds : List D, peekL f (ds.map DV.dat) = some ds
  | [] => rfl
  | d :: ds => by simp [peekL, hf, peekL_dat hf ds]
theorem peekK_dat (k : Nat) (μ : Mem) (d : D) : peekK k μ (.dat d) = some d := by cases k <;> rfl
theorem peekK_loc {k n : Nat} {μ : Mem} {ds : List D} (h : μ[n]? = some (.lst (ds.map DV.dat))) : peekK (k + 1) μ (.loc n) = some (.lst ds) := by
  unfold peekK; rw [h]; simp only; rw [peekL_dat (peekK_dat k μ)]; rfl
theorem peek_loc {n : Nat} {μ : Mem} {ds : List D} (h : μ[n]? = some (.lst (ds.map DV.dat))) : peek μ (.loc n) = some (.lst ds) := peekK_loc h
theorem peekPy_loc {n : Nat} {μ : Mem} {ds : List D} {ps : List PyData} (h : μ[n]? = some (.lst (ds.map DV.dat))) (hp : toPyL ds = some ps) : peekPy μ (.loc n) = some (.list ps) := by
  unfold peekPy; rw [peek_loc h]; simp [toPy, hp]
theorem peekPy_dat {μ : Mem} {d : D} {p : PyData} (h : toPy d = some p) : peekPy μ (.dat d) = some p := by unfold peekPy peek; rw [peekK_dat]; exact h
/-! ### methods -/
theorem ev_bm1 {c : DV → Mem → Bool} {g : DV → List DV → Mem → Res R} {f h : EM} {δ : Env} {μ μ1 μ2 : Mem} {x y : DV} {r : Res R} (h1 : frzV f δ μ = .ok x μ1) (hc : c x μ1 = true) (h2 : frzV h δ μ1 = .ok y μ2) (h3 : g x [y] μ2 = r) : eBM c g f (aCons h aNil) δ μ = r := by
  unfold eBM; rw [h1]; simp only [Res.bind]; rw [if_pos hc]; unfold aCons aNil; rw [h2]; simp only [Res.bind]; exact h3
theorem ev_bm0 {c : DV → Mem → Bool} {g : DV → List DV → Mem → Res R} {f : EM} {δ : Env} {μ μ1 : Mem} {x : DV} {r : Res R} (h1 : frzV f δ μ = .ok x μ1) (hc : c x μ1 = true) (h3 : g x [] μ1 = r) : eBM0 c g f δ μ = r := by
  unfold eBM0; rw [h1]; simp only [Res.bind]; rw [if_pos hc]; exact h3
theorem tyL_loc {μ : Mem} {n : Nat} {xs : List DV} (h : μ[n]? = some (.lst xs)) : tyL (.loc n) μ = true := by unfold tyL; rw [asL_loc h]; rfl
theorem pop_ok {μ : Mem} {n k : Nat} {ys : List DV} {y : DV} (h : μ[n]? = some (.lst ys)) (hk : ys[k]? = some y) (hb : k < 2 ^ 63) : dPop (.loc n) [.dat (.int k)] μ = .ok (ofV y) (μ.set n (.lst (ys.eraseIdx k))) := by
  have hl : k < ys.length := (List.getElem?_eq_some_iff.mp hk).1
  have e : seqIndex? (k : Int) ys.length = some k := by
    have : ¬ ((k : Int) < 0) := by omega
    simp [seqIndex?, this, hl]
  have c : -2 ^ 63 ≤ (k : Int) ∧ (k : Int) < 2 ^ 63 := ⟨by omega, by exact_mod_cast hb⟩
  simp only [dPop, atPl, h, asI]
  rw [if_pos c]
  simp only [e, hk]
theorem app_ok {μ : Mem} {n : Nat} {ys : List DV} {y : DV} (h : μ[n]? = some (.lst ys)) (hl : ys.length < sizeLine) (hb : belowB n y = true) : dAppend (.loc n) [y] μ = .ok (.dat .non) (μ.set n (.lst (ys ++ [y]))) := by
  simp only [dAppend, atPl, h]; rw [if_pos ⟨hl, hb⟩]
theorem clear_ok {μ : Mem} {n : Nat} {ys : List DV} (h : μ[n]? = some (.lst ys)) : dClear (.loc n) [] μ = .ok (.dat .non) (μ.set n (.lst [])) := by
  simp only [dClear, atPl, h]
theorem len_loc {μ : Mem} {n : Nat} {ys : List DV} (h : μ[n]? = some (.lst ys)) : d1 dLen [.loc n] μ = .ok (.dat (.int ys.length)) μ := by simp [d1, dLen, asS, asL, h]
theorem len_lst {μ : Mem} {ds : List D} : d1 dLen [.dat (.lst ds)] μ = .ok (.dat (.int ds.length)) μ := by simp [d1, dLen, asS, asL]
/-! ### the mixed list -/
def gMixed : SM :=
    (gSeq (gPar2 2 3 (eCB (d1 dList) (aCons (eVar 1) aNil)) (eLst aNil))
    (gSeq (gWh 100000 [true, true, true, true] (tmB (eOp dNe (eVar 2) (eLst aNil))) (gDrop (eBM tyL dAppend (eVar 3) (aCons (eBM tyL dPop (eVar 2) (aCons (eCB (callD gTake 2 5) (aCons (eVar 0) (aCons (eCB (d1 dLen) (aCons (eVar 2) aNil)) aNil))) aNil)) aNil))))
    (gRet (eVar 3))))
theorem map_erase {α β : Type} (f : α → β) : ∀ (l : List α) (k : Nat), (l.map f).eraseIdx k = (l.eraseIdx k).map f
  | [], k => by simp
  | a :: l, 0 => by simp
  | a :: l, k + 1 => by simp [map_erase f l k]
theorem ap0 {μ : Mem} {a b : Pl} : (μ ++ [a, b])[μ.length]? = some a := by simp
theorem ap1 {μ : Mem} {a b : Pl} : (μ ++ [a, b])[μ.length + 1]? = some b := by simp
theorem st0 {μ : Mem} {a b c : Pl} : (μ ++ [a, b]).set μ.length c = μ ++ [c, b] := by simp [List.set_append]
theorem st1 {μ : Mem} {a b c : Pl} : (μ ++ [a, b]).set (μ.length + 1) c = μ ++ [a, c] := by simp [List.set_append]
theorem apn {μ X : Mem} {n : Nat} {p : Pl} (h : μ[n]? = some p) : (μ ++ X)[n]? = some p := by rw [List.getElem?_append_left (pl_lt h)]; exact h
theorem stn {μ X : Mem} {n : Nat} {p q : Pl} (h : μ[n]? = some p) : (μ ++ X).set n q = μ.set n q ++ X := by rw [List.set_append_left _ _ (pl_lt h)]
theorem toPyL_fit {k w : Nat} : ∀ (ds : List D), (∀ d ∈ ds, ∃ p, toPy d = some p ∧ Fit k w p) → ∃ ps, toPyL ds = some ps ∧ ps.length = ds.length ∧ ∀ p ∈ ps, Fit k w p
  | [], _ => ⟨[], rfl, rfl, fun _ h => by cases h⟩
  | d :: ds, h => by
    obtain ⟨p, h1, h2⟩ := h d List.mem_cons_self
    obtain ⟨ps, h3, h4, h5⟩ := toPyL_fit ds fun e he => h e (List.mem_cons_of_mem _ he)
    refine ⟨p :: ps, by simp [toPyL, h1, h3], by simp [h4], fun q hq => ?_⟩
    rcases List.mem_cons.mp hq with rfl | hq
    · exact h2
    · exact h5 q hq
theorem ne_nil {μ : Mem} {n k w : Nat} {ds : List D} (hk : k < 64) (h : μ[n]? = some (.lst (ds.map DV.dat))) (hd : ∀ d ∈ ds, ∃ p, toPy d = some p ∧ Fit k w p) : dNe (.loc n) (.dat (.lst [])) μ = .ok (.dat (.bl (!ds.isEmpty))) μ := by
  obtain ⟨ps, h1, h2, h3⟩ := toPyL_fit ds hd
  have f := fit_list h3 (Nat.le_refl _)
  have f0 : Fit 1 0 (.list []) := (fit_list (k := 0) (w := 0) (n := 0) (ps := []) (fun _ h => by cases h) (Nat.le_refl _)).mono (Nat.le_refl _) (Nat.le_refl _)
  refine (eq_any false (peekPy_loc h h1) (peekPy_dat (d := .lst []) (p := .list []) rfl) f f0 (by omega) (by omega)).trans ?_
  cases ds with
  | nil => cases ps with
    | nil => rfl
    | cons _ _ => cases h2
  | cons d ds => cases ps with
    | nil => cases h2
    | cons _ _ => rfl
theorem mixed_turn {n : Nat} {th : DV} {left found : List D} {B : Bg} {μ : Mem} {N : Nat} (hB : B.ok) (h : μ[n]? = some B.pl) (hl : 0 < left.length) (hs : left.length + found.length < 16777216) :
    ∃ (k : Nat) (d : D), left[k]? = some d ∧ gDrop (eBM tyL dAppend (eVar 3) (aCons (eBM tyL dPop (eVar 2) (aCons (eCB (callD gTake 2 5) (aCons (eVar 0) (aCons (eCB (d1 dLen) (aCons (eVar 2) aNil)) aNil))) aNil)) aNil))
        N [some (.loc n), some th, some (.loc μ.length), some (.loc (μ.length + 1))] (μ ++ [.lst (left.map DV.dat), .lst (found.map DV.dat)]) =
      .next [some (.loc n), some th, some (.loc μ.length), some (.loc (μ.length + 1))] (μ.set n (takeB B left.length).2.pl ++ [.lst ((left.eraseIdx k).map DV.dat), .lst ((found ++ [d]).map DV.dat)]) := by
  obtain ⟨o1, o2, o3⟩ := takeB_ok hB (m := (left.length : Int)) (by omega)
  have e1 : eCB (callD gTake 2 5) (aCons (eVar 0) (aCons (eCB (d1 dLen) (aCons (eVar 2) aNil)) aNil)) [some (.loc n), some th, some (.loc μ.length), some (.loc (μ.length + 1))] (μ ++ [.lst (left.map DV.dat), .lst (found.map DV.dat)]) =
      .ok (.dat (.int (takeB B left.length).1)) (μ.set n (takeB B left.length).2.pl ++ [.lst (left.map DV.dat), .lst (found.map DV.dat)]) := by
    have l : eCB (d1 dLen) (aCons (eVar 2) aNil) [some (.loc n), some th, some (.loc μ.length), some (.loc (μ.length + 1))] (μ ++ [.lst (left.map DV.dat), .lst (found.map DV.dat)]) = .ok (.dat (.int left.length)) (μ ++ [.lst (left.map DV.dat), .lst (found.map DV.dat)]) := by
      refine (ev_cb1 (fz_var (i := 2) rfl) (len_loc ap0)).trans ?_; rw [List.length_map]
    refine (ev_cb2 (fz_var (i := 0) rfl) (fz_ofD l) (take_spec hB (apn h) (by omega) (by omega))).trans ?_
    rw [stn h]
  generalize (takeB B left.length).1 = t at *
  generalize (takeB B left.length).2 = B2 at *
  obtain ⟨k, rfl⟩ := Int.eq_ofNat_of_zero_le o2
  have hk : k < left.length := by omega
  have hk' : left[k]? = some (left[k]'hk) := List.getElem?_eq_getElem hk
  generalize left[k]'hk = d at hk'
  refine ⟨k, d, hk', ?_⟩
  have hL : μ.length = (μ.set n B2.pl).length := (List.length_set ..).symm
  have e2 : eBM tyL dPop (eVar 2) (aCons (eCB (callD gTake 2 5) (aCons (eVar 0) (aCons (eCB (d1 dLen) (aCons (eVar 2) aNil)) aNil))) aNil) [some (.loc n), some th, some (.loc μ.length), some (.loc (μ.length + 1))] (μ ++ [.lst (left.map DV.dat), .lst (found.map DV.dat)]) =
      .ok (ofV (.dat d)) (μ.set n B2.pl ++ [.lst ((left.eraseIdx k).map DV.dat), .lst (found.map DV.dat)]) := by
    refine (ev_bm1 (fz_var (i := 2) rfl) (tyL_loc ap0) (fz_ofD e1) (pop_ok (k := k) (y := .dat d) (ys := left.map DV.dat) (by rw [hL]; exact ap0) (by rw [List.getElem?_map, hk']; rfl) (by omega))).trans ?_
    rw [hL, st0, map_erase]
  refine drop_ok (r := .dat .non) ((ev_bm1 (fz_var (i := 3) rfl) (tyL_loc ap1) (fz_of e2) (app_ok (ys := found.map DV.dat) (by rw [hL]; exact ap1) (by rw [List.length_map]; exact Nat.lt_of_lt_of_le (show found.length < 16777216 by omega) (by decide)) rfl)).trans ?_)
  rw [hL, st1, List.map_append]; rfl
theorem erase_perm {α : Type} : ∀ (l : List α) (k : Nat) (d : α), l[k]? = some d → (d :: l.eraseIdx k).Perm l
  | [], k, d, h => by simp at h
  | a :: l, 0, d, h => by simp at h; subst h; exact List.Perm.refl _
  | a :: l, k + 1, d, h => by
    have := erase_perm l k d (by simpa using h)
    exact (List.Perm.swap a d _).trans (List.Perm.cons a this)
theorem mixed_loop {n : Nat} {th : D} {k w : Nat} (hk : k < 64) : ∀ (m : Nat) (left found : List D) (B : Bg) (μ : Mem) (fuel N : Nat), B.ok → μ[n]? = some B.pl → left.length = m → m < fuel → left.length + found.length < 16777216 →
    (∀ d ∈ left, ∃ p, toPy d = some p ∧ Fit k w p) →
    ∃ (ys : List D) (B' : Bg), B'.ok ∧ ys.Perm (found ++ left) ∧
      whL (μ.length + 2) [true, true, true, true] (tmB (eOp dNe (eVar 2) (eLst aNil))) (gDrop (eBM tyL dAppend (eVar 3) (aCons (eBM tyL dPop (eVar 2) (aCons (eCB (callD gTake 2 5) (aCons (eVar 0) (aCons (eCB (d1 dLen) (aCons (eVar 2) aNil)) aNil))) aNil)) aNil)))
        N fuel [some (.loc n), some (.dat th), some (.loc μ.length), some (.loc (μ.length + 1))] (μ ++ [.lst (left.map DV.dat), .lst (found.map DV.dat)]) =
      .next [some (.loc n), some (.dat th), some (.loc μ.length), some (.loc (μ.length + 1))] (μ.set n B'.pl ++ [.lst [], .lst (ys.map DV.dat)]) := by
  intro m
  induction m with
  | zero =>
    intro left found B μ fuel N hB h hm hf hs hd
    cases left with
    | cons _ _ => cases hm
    | nil =>
      cases fuel with
      | zero => omega
      | succ fuel =>
        refine ⟨found, B, hB, by simp, ?_⟩
        have t : tmB (eOp dNe (eVar 2) (eLst aNil)) [some (.loc n), some (.dat th), some (.loc μ.length), some (.loc (μ.length + 1))] (μ ++ [.lst (([] : List D).map DV.dat), .lst (found.map DV.dat)]) = .ok false (μ ++ [.lst (([] : List D).map DV.dat), .lst (found.map DV.dat)]) :=
          tm_of (ev_op (fz_var (i := 2) rfl) (show frzV (eLst aNil) _ _ = .ok (.dat (.lst [])) _ from rfl) (ne_nil hk (ds := []) ap0 hd))
        unfold whL
        rw [t]
        have : μ.set n B.pl = μ := by
          apply List.ext_getElem?
          intro i
          by_cases c : n = i
          · subst c; rw [set_at h, h]
          · rw [List.getElem?_set_ne c]
        rw [this]; rfl
  | succ m ih =>
    intro left found B μ fuel N hB h hm hf hs hd
    cases fuel with
    | zero => omega
    | succ fuel =>
      obtain ⟨j, d, hj, e⟩ := mixed_turn (th := .dat th) (N := N) (left := left) (found := found) hB h (by omega) hs
      obtain ⟨o1, o2, o3⟩ := takeB_ok hB (m := (left.length : Int)) (by omega)
      have hjl : j < left.length := (List.getElem?_eq_some_iff.mp hj).1
      have hl : (left.eraseIdx j).length = m := by rw [List.length_eraseIdx, if_pos hjl]; omega
      obtain ⟨ys, B', oB, pm, eq⟩ := ih (left.eraseIdx j) (found ++ [d]) (takeB B left.length).2 (μ.set n (takeB B left.length).2.pl) fuel N o1 (set_at h) hl (by omega) (by rw [List.length_append, hl]; simp; omega) (fun x hx => hd x (List.mem_of_mem_eraseIdx hx))
      refine ⟨ys, B', oB, pm.trans ?_, ?_⟩
      · rw [List.append_assoc]
        exact List.Perm.append_left found (erase_perm left j d hj)
      · have t : tmB (eOp dNe (eVar 2) (eLst aNil)) [some (.loc n), some (.dat th), some (.loc μ.length), some (.loc (μ.length + 1))] (μ ++ [.lst (left.map DV.dat), .lst (found.map DV.dat)]) = .ok true (μ ++ [.lst (left.map DV.dat), .lst (found.map DV.dat)]) := by
          refine tm_of ((ev_op (fz_var (i := 2) rfl) (show frzV (eLst aNil) _ _ = .ok (.dat (.lst [])) _ from rfl) (ne_nil hk (ds := left) ap0 hd)).trans ?_)
          cases left with
          | nil => cases hm
          | cons _ _ => rfl
        unfold whL
        rw [t]
        show turnL _ _ (gDrop _ _ _ _) _ = _
        rw [e]
        have hn := pl_lt h
        have c1 : n < μ.length + 2 := by omega
        have c2 : μ.length < μ.length + 2 := by omega
        have c3 : μ.length + 1 < μ.length + 2 := by omega
        rw [List.length_set, List.set_set] at eq
        rw [← eq]
        simp only [turnL, cut, cutV, if_pos c1, if_pos c2, if_pos c3, if_true]
        congr 1
        exact List.take_of_length_le (by simp)
theorem mixed_spec {n : Nat} {ds : List D} {k w : Nat} {B : Bg} {μ : Mem} (hk : k < 64) (hB : B.ok) (h : μ[n]? = some B.pl) (hs : ds.length < 100000) (hd : ∀ d ∈ ds, ∃ p, toPy d = some p ∧ Fit k w p) :
    ∃ (ys : List D) (B' : Bg), B'.ok ∧ ys.Perm ds ∧ callD gMixed 2 2 [.loc n, .dat (.lst ds)] μ = .ok (.nl (ys.map DV.dat)) (μ.set n B'.pl) := by
  obtain ⟨ys, B', oB, pm, eq⟩ := mixed_loop (th := .lst ds) (n := n) hk ds.length ds [] B μ 100000 μ.length hB h rfl hs (by simp; omega) hd
  refine ⟨ys, B', oB, by simpa using pm, ?_⟩
  have hL : μ.length = (μ.set n B'.pl).length := (List.length_set ..).symm
  have g1 : gPar2 2 3 (eCB (d1 dList) (aCons (eVar 1) aNil)) (eLst aNil) μ.length [some (.loc n), some (.dat (.lst ds)), none, none] μ = .next [some (.loc n), some (.dat (.lst ds)), some (.loc μ.length), some (.loc (μ.length + 1))] (μ ++ [.lst (ds.map DV.dat), .lst []]) := by
    have e1 : eCB (d1 dList) (aCons (eVar 1) aNil) [some (.loc n), some (.dat (.lst ds)), none, none] μ = .ok (.nl (ds.map DV.dat)) μ := ev_cb1 (fz_var (i := 1) rfl) (by simp [d1, dList, asS, asL])
    have e2 : eLst aNil [some (.loc n), some (.dat (.lst ds)), none, none] (μ ++ [.lst (ds.map DV.dat)]) = .ok (.nl []) (μ ++ [.lst (ds.map DV.dat)]) := rfl
    unfold gPar2
    rw [e1]
    simp only [lift, bindR, if_pos (Nat.le_refl μ.length)]
    rw [e2]
    simp only [lift, bindR]
    rw [if_pos (by simp)]
    simp
  refine call_ret (r := .loc (μ.length + 1)) rfl (sq_next g1 (sq_next (μ' := μ.set n B'.pl ++ [.lst [], .lst (ys.map DV.dat)]) (δ' := [some (.loc n), some (.dat (.lst ds)), some (.loc μ.length), some (.loc (μ.length + 1))]) ?_ (ret_ok (ev_var (i := 3) (x := .loc (μ.length + 1)) rfl)))) ?_
  · show whL (μ ++ _).length _ _ _ _ _ _ _ = _
    rw [show (μ ++ [Pl.lst (ds.map DV.dat), Pl.lst []]).length = μ.length + 2 by simp]
    exact eq
  · unfold closeR
    simp only
    rw [if_neg (by omega)]
    rw [hL, ap1]
    simp only
    have : belowA (μ.set n B'.pl).length (ys.map DV.dat) = true := by
      unfold belowA; rw [List.all_eq_true]; intro x hx
      obtain ⟨d, _, rfl⟩ := List.mem_map.mp hx; rfl
    rw [if_pos this, List.take_left]
/-! ### one of a list -/
def gOne : SM := (gRet (eOp dIx (eVar 1) (eCB (callD gTake 2 5) (aCons (eVar 0) (aCons (eCB (d1 dLen) (aCons (eVar 1) aNil)) aNil)))))
theorem one_spec {n : Nat} {ds : List D} {B : Bg} {μ : Mem} (hB : B.ok) (h : μ[n]? = some B.pl) (h0 : 0 < ds.length) (hs : ds.length < 1073741824) :
    ∃ (d : D) (B' : Bg), B'.ok ∧ d ∈ ds ∧ callD gOne 2 0 [.loc n, .dat (.lst ds)] μ = .ok (.dat d) (μ.set n B'.pl) := by
  obtain ⟨o1, o2, o3⟩ := takeB_ok hB (m := (ds.length : Int)) (by omega)
  have e1 := take_spec hB h (m := (ds.length : Int)) (by omega) (by omega)
  generalize (takeB B ds.length).1 = t at *
  generalize (takeB B ds.length).2 = B2 at *
  obtain ⟨k, rfl⟩ := Int.eq_ofNat_of_zero_le o2
  have hk : k < ds.length := by omega
  have hk' : ds[k]? = some (ds[k]'hk) := List.getElem?_eq_getElem hk
  refine ⟨ds[k], B2, o1, List.getElem_mem hk, call_ret rfl (ret_ok (ev_op (fz_var (i := 1) rfl) (fz_ofD (ev_cb2 (fz_var (i := 0) rfl) (fz_ofD (ev_cb1 (fz_var (i := 1) rfl) len_lst)) e1)) (dIx_lst (atI_nat hk')))) ?_⟩
  show Res.ok _ (List.take _ _) = _
  rw [take_len]
/-! ### the bag at the start -/
def gBag : SM := (gRet (eLst (aCons (eD (.int 0)) (aCons (eD (.int 1234567891)) (aCons (eD (.int 0)) (aCons (eLc (imSeq (eSl (eVar 0) oNone (oSome (eD (.int 63))))) (tgName 1) tmYes (eCB (d1 dAbs) (aCons (eVar 1) aNil)) [1]) aNil))))))
def bag0 (ns : List Int) : Bg := ⟨0, 1234567891, 0, (ns.take 63).map fun i => if i < 0 then -i else i⟩
theorem bag0_ok (ns : List Int) : (bag0 ns).ok := ⟨Int.le_refl 0, by show (0 : Int) ≤ 1234567891; decide, by show (1234567891 : Int) < 2147483647; decide, Int.le_refl 0, fun z hz => by
  obtain ⟨i, _, rfl⟩ := List.mem_map.mp hz
  split <;> omega⟩
theorem lc_bag {d0 : D} {μ : Mem} : ∀ (is : List Int), lcL (tgName 1) tmYes (eCB (d1 dAbs) (aCons (eVar 1) aNil)) [some (.dat d0), none] (is.map D.int) μ = .ok (is.map fun i => .dat (.int (if i < 0 then -i else i))) μ
  | [] => rfl
  | i :: is => by
    have e : frzV (eCB (d1 dAbs) (aCons (eVar 1) aNil)) [some (.dat d0), some (.dat (.int i))] μ = .ok (.dat (.int (if i < 0 then -i else i))) μ := fz_ofD (ev_cb1 (fz_var (i := 1) rfl) rfl)
    have ih := lc_bag (d0 := d0) (μ := μ) is
    simp only [List.map_cons, lcL, tgName, tmYes, List.set_cons_succ, List.set_cons_zero, e, ih, Res.bind]
theorem bag_spec {ns : List Int} {μ : Mem} : callD gBag 1 1 [.dat (.fro (ns.map D.int))] μ = .ok (.nl [.dat (.int (bag0 ns).a), .dat (.int (bag0 ns).b), .dat (.int (bag0 ns).c), .dat (.lst ((bag0 ns).cs.map D.int))]) μ := by
  have e1 : eLc (imSeq (eSl (eVar 0) oNone (oSome (eD (.int 63))))) (tgName 1) tmYes (eCB (d1 dAbs) (aCons (eVar 1) aNil)) [1] [some (.dat (.fro (ns.map D.int))), none] μ = .ok (.nl ((bag0 ns).cs.map fun i => .dat (.int i))) μ := by
    have s : imSeq (eSl (eVar 0) oNone (oSome (eD (.int 63)))) [some (.dat (.fro (ns.map D.int))), none] μ = .ok ((ns.take 63).map D.int) μ := by
      have q : eSl (eVar 0) oNone (oSome (eD (.int 63))) [some (.dat (.fro (ns.map D.int))), none] μ = .ok (.nl (((ns.take 63).map D.int).map DV.dat)) μ := by
        unfold eSl; rw [fz_var (i := 0) (x := .dat (.fro (ns.map D.int))) rfl]
        simp only [Res.bind, oNone, oSome, fz_D, asI, dSl, asL]
        congr 2
        unfold cutL
        rw [HT.sIx_none, show (some (63 : Int)) = some ((63 : Nat) : Int) from rfl, HT.sIx_nat]
        simp [List.map_take]
      unfold imSeq frzV
      rw [q]
      simp only [Res.bind, frz]
      rw [allDat_map]
      rfl
    unfold eLc
    rw [s]
    simp only [Res.bind]
    rw [if_pos (by simp; exact Nat.le_trans (Nat.min_le_left _ _) (by decide))]
    show Res.bind (lcL _ _ _ [some (.dat (.fro (ns.map D.int))), none] _ _) _ = _
    rw [lc_bag]
    simp [Res.bind, bag0, Function.comp_def]
  refine call_ret rfl (ret_ok (r := .nl [.dat (.int (bag0 ns).a), .dat (.int (bag0 ns).b), .dat (.int (bag0 ns).c), .dat (.lst ((bag0 ns).cs.map D.int))]) (μ' := μ) ?_) ?_
  · have e2 : frzV (eLc (imSeq (eSl (eVar 0) oNone (oSome (eD (.int 63))))) (tgName 1) tmYes (eCB (d1 dAbs) (aCons (eVar 1) aNil)) [1]) [some (.dat (.fro (ns.map D.int))), none] μ = .ok (.dat (.lst ((bag0 ns).cs.map D.int))) μ := by
      unfold frzV; rw [e1]; simp only [Res.bind, frz]
      rw [show ((bag0 ns).cs.map fun i => DV.dat (D.int i)) = ((bag0 ns).cs.map D.int).map DV.dat by simp, allDat_map]; rfl
    show eLst _ [some (.dat (.fro (ns.map D.int))), none] μ = _
    generalize (eLc (imSeq (eSl (eVar 0) oNone (oSome (eD (.int 63))))) (tgName 1) tmYes (eCB (d1 dAbs) (aCons (eVar 1) aNil)) [1]) = ff at *
    unfold eLst aCons aNil
    simp only [fz_D, Res.bind, e2]
    rw [if_pos (by simp; decide)]
    rfl
  · unfold closeR
    simp only
    rw [if_pos (show belowA _ _ = true from rfl), List.take_length]
end DL
namespace DL
open PySem PySem.Spec PyProof.Rows L2
/-! ### more evaluation -/
theorem ev_lc {fi : IM} {h : D → Env → Option Env} {ft : TM} {fe : EM} {vs : List Nat} {δ : Env} {μ μ1 μ2 : Mem} {ds : List D} {ys : List DV} (hi : fi δ μ = .ok ds μ1) (hl : ds.length ≤ sizeLine) (hp : lcL h ft fe (wipeE δ vs) ds μ1 = .ok ys μ2) : eLc fi h ft fe vs δ μ = .ok (.nl ys) μ2 := by
  unfold eLc; rw [hi]; simp only [Res.bind]; rw [if_pos hl, hp]
theorem lc_pure {h : D → Env → Option Env} {ft : TM} {fe : EM} {δ : Env} {μ : Mem} (δ1 : D → Env) (c : D → Bool) (y : D → DV) : ∀ (ds : List D), (∀ d ∈ ds, h d δ = some (δ1 d) ∧ ft (δ1 d) μ = .ok (c d) μ ∧ (c d = true → frzV fe (δ1 d) μ = .ok (y d) μ)) → lcL h ft fe δ ds μ = .ok ((ds.filter c).map y) μ
  | [], _ => rfl
  | d :: ds, H => by
    obtain ⟨h1, h2, h3⟩ := H d List.mem_cons_self
    have ih := lc_pure (h := h) (ft := ft) (fe := fe) (δ := δ) (μ := μ) δ1 c y ds fun e he => H e (List.mem_cons_of_mem _ he)
    cases hc : c d with
    | true => simp only [lcL, h1, h2, hc, h3 hc, ih, Res.bind, List.filter_cons, if_true, if_pos trivial, List.map_cons]
    | false => simp [lcL, h1, h2, hc, ih, List.filter_cons]
theorem lc_all {h : D → Env → Option Env} {fe : EM} {δ : Env} {μ : Mem} (δ1 : D → Env) (y : D → DV) (ds : List D) (H : ∀ d ∈ ds, h d δ = some (δ1 d) ∧ frzV fe (δ1 d) μ = .ok (y d) μ) : lcL h tmYes fe δ ds μ = .ok (ds.map y) μ := by
  refine (lc_pure δ1 (fun _ => true) y ds fun d hd => ⟨(H d hd).1, rfl, fun _ => (H d hd).2⟩).trans ?_
  rw [List.filter_eq_self.mpr (fun _ _ => rfl)]
theorem im_seq {f : EM} {δ : Env} {μ μ' : Mem} {x : DV} {ds : List D} (h : frzV f δ μ = .ok x μ') (hs : seqD x = some ds) : imSeq f δ μ = .ok ds μ' := by unfold imSeq; rw [h]; simp only [Res.bind, hs]
theorem im_rng {f : EM} {δ : Env} {μ μ' : Mem} {j : Int} (h : frzV f δ μ = .ok (.dat (.int j)) μ') (hj : -2 ^ 62 ≤ j ∧ j < 2 ^ 62) : imRng (aCons f aNil) δ μ = .ok (rngD 0 j.toNat) μ' := by
  unfold imRng aCons aNil; rw [h]; simp only [Res.bind, asI]; rw [if_pos hj]
theorem im_enum {f : EM} {δ : Env} {μ μ' : Mem} {x : DV} {ds : List D} (h : frzV f δ μ = .ok x μ') (hs : seqD x = some ds) : imEnum (aCons f aNil) δ μ = .ok (enumD 0 ds) μ' := by
  unfold imEnum aCons aNil; rw [h]; simp only [Res.bind, hs]
theorem ev_sl {f : EM} {lo hi : OM} {δ : Env} {μ μ1 μ2 μ3 : Mem} {x : DV} {l u : Option Int} {r : Res R} (h : frzV f δ μ = .ok x μ1) (hl : lo δ μ1 = .ok l μ2) (hh : hi δ μ2 = .ok u μ3) (hr : dSl x l u μ3 = r) : eSl f lo hi δ μ = r := by
  unfold eSl; rw [h]; simp only [Res.bind]; rw [hl]; simp only; rw [hh]; exact hr
theorem o_some {f : EM} {δ : Env} {μ μ' : Mem} {i : Int} (h : frzV f δ μ = .ok (.dat (.int i)) μ') : oSome f δ μ = .ok (some i) μ' := by unfold oSome; rw [h]; simp only [Res.bind, asI]
theorem fz_nl {f : EM} {δ : Env} {μ μ' : Mem} {ds : List D} (h : f δ μ = .ok (.nl (ds.map DV.dat)) μ') : frzV f δ μ = .ok (.dat (.lst ds)) μ' := by unfold frzV; rw [h]; simp only [Res.bind, frz]; rw [allDat_map]; rfl
theorem sl_lst {ds : List D} {l u : Option Int} {μ : Mem} : dSl (.dat (.lst ds)) l u μ = .ok (.nl ((cutL ds l u).map DV.dat)) μ := by
  simp only [dSl, asL]; congr 2; unfold cutL; simp [List.map_drop, List.map_take]
theorem sl_tup {ds : List D} {l u : Option Int} {μ : Mem} : dSl (.dat (.tup ds)) l u μ = .ok (.dat (.tup (cutL ds l u))) μ := rfl
theorem cut_from {α : Type} (xs : List α) (k : Nat) {i : Int} (hi : i = (k : Int) := by rfl) : cutL xs (some i) none = xs.drop k := by
  subst hi
  unfold cutL; rw [HT.sIx_none, HT.sIx_nat]
  by_cases c : k ≤ xs.length
  · rw [Nat.min_eq_left c]; exact List.take_of_length_le (by simp)
  · rw [Nat.min_eq_right (by omega), List.drop_of_length_le (Nat.le_refl _), List.drop_of_length_le (by omega)]; simp
theorem cut_to {α : Type} (xs : List α) (k : Nat) : cutL xs none (some (k : Int)) = xs.take k := by
  unfold cutL; rw [HT.sIx_none, HT.sIx_nat, List.drop_zero, Nat.sub_zero]
  by_cases c : k ≤ xs.length
  · rw [Nat.min_eq_left c]
  · rw [Nat.min_eq_right (by omega), List.take_of_length_le (Nat.le_refl _), List.take_of_length_le (by omega)]
theorem cut_at2 {α : Type} (xs : List α) (a b : Nat) (h : a ≤ b) (hb : b ≤ xs.length) : cutL xs (some (a : Int)) (some (b : Int)) = (xs.drop a).take (b - a) := by
  unfold cutL; rw [HT.sIx_nat, HT.sIx_nat, Nat.min_eq_left (show a ≤ xs.length by omega), Nat.min_eq_left hb]
theorem cutL_mem {α : Type} {xs : List α} {l u : Option Int} {x : α} (h : x ∈ cutL xs l u) : x ∈ xs := List.mem_of_mem_drop (List.mem_of_mem_take h)
theorem dIx_tup {μ : Mem} {ds : List D} {i : Int} {d : D} (h : atI ds i = some d) : dIx (.dat (.tup ds)) (.dat (.int i)) μ = .ok (.dat d) μ := by
  have : atI (ds.map DV.dat) i = some (.dat d) := by
    unfold atI at h ⊢
    rw [List.length_map]
    cases q : ixN ds.length i with
    | none => rw [q] at h; cases h
    | some j => rw [q] at h; simp only [Option.bind_some] at h ⊢; rw [List.getElem?_map, h]; rfl
  simp [dIx, asI, asS, asL, asT, this, ofV]
theorem flats_str : ∀ ss : List Str, flats (ss.map fun s => .dat (.str s)) = some (ss.map V.str)
  | [] => rfl
  | s :: ss => by simp [flats, flat, flats_str ss]
theorem inV_str (s : Str) (ss : List Str) : inV (.str s) (ss.map V.str) = decide (s ∈ ss) := by
  induction ss with
  | nil => rfl
  | cons t ss ih =>
    unfold inV at ih ⊢
    rw [List.map_cons, List.any_cons, ih]
    have : eqV (V.str t) (V.str s) = decide (t = s) := by
      show (t == s) = _
      by_cases c : t = s
      · subst c; simp
      · rw [decide_eq_false c]; exact beq_false_of_ne c
    rw [this]
    by_cases c : t = s
    · subst c; simp
    · have c' : ¬ s = t := fun h => c h.symm
      simp [c, c']
theorem in_tup {neg : Bool} {s : Str} {ss : List Str} {μ : Mem} : dIn neg (.dat (.str s)) (.dat (.tup (ss.map D.str))) μ = .ok (.dat (.bl (if neg = true then !decide (s ∈ ss) else decide (s ∈ ss)))) μ := by
  have : (ss.map D.str).map DV.dat = ss.map fun s => .dat (.str s) := by simp
  simp only [dIn, flat, asS, asL, asT, Option.map, this, flats_str, inV_str]
theorem tup_ok {g : AM} {δ : Env} {μ μ' : Mem} {ds : List D} (h : g δ μ = .ok (ds.map DV.dat) μ') (hl : ds.length ≤ sizeLine) : eTup g δ μ = .ok (.dat (.tup ds)) μ' := by
  unfold eTup; rw [h]; simp only [Res.bind, allDat_map]; rw [if_pos hl]
theorem a_cons {f : EM} {g : AM} {δ : Env} {μ μ1 μ2 : Mem} {x : DV} {xs : List DV} (h : frzV f δ μ = .ok x μ1) (hs : g δ μ1 = .ok xs μ2) : aCons f g δ μ = .ok (x :: xs) μ2 := by unfold aCons; rw [h]; simp only [Res.bind]; rw [hs]
theorem a_nil {δ : Env} {μ : Mem} : aNil δ μ = .ok [] μ := rfl
theorem ev_cb {g : List DV → Mem → Res R} {fa : AM} {δ : Env} {μ μ1 : Mem} {xs : List DV} {r : Res R} (h : fa δ μ = .ok xs μ1) (hr : g xs μ1 = r) : eCB g fa δ μ = r := by unfold eCB; rw [h]; exact hr
theorem lst_ok {g : AM} {δ : Env} {μ μ' : Mem} {xs : List DV} (h : g δ μ = .ok xs μ') (hl : xs.length ≤ sizeLine) : eLst g δ μ = .ok (.nl xs) μ' := by unfold eLst; rw [h]; simp only [Res.bind]; rw [if_pos hl]
theorem add_lst {a b : List D} {μ : Mem} (h : a.length + b.length ≤ sizeLine) : dAdd (.dat (.lst a)) (.dat (.lst b)) μ = .ok (.nl ((a ++ b).map DV.dat)) μ := by
  simp only [dAdd, asI, asStr, asT, asM, List.length_map]; rw [if_pos h, List.map_append]
theorem if_ev {ft : TM} {g h : EM} {δ : Env} {μ μ' : Mem} {b : Bool} {r : Res R} (e : ft δ μ = .ok b μ') (k : (if b = true then g δ μ' else h δ μ') = r) : eIf ft g h δ μ = r := by unfold eIf; rw [e]; exact k
theorem close_dat {d : D} {μ μ' : Mem} {N : Nat} (h : μ'.take N = μ) : closeR N (.dat d) μ' = .ok (.dat d) μ := by unfold closeR; simp only; rw [h]
theorem close_nl {ds : List D} {μ μ' : Mem} {N : Nat} (h : μ'.take N = μ) : closeR N (.nl (ds.map DV.dat)) μ' = .ok (.nl (ds.map DV.dat)) μ := by
  have : belowA N (ds.map DV.dat) = true := by
    unfold belowA; rw [List.all_eq_true]; intro x hx
    obtain ⟨d, _, rfl⟩ := List.mem_map.mp hx; rfl
  unfold closeR; simp only; rw [if_pos this, h]
theorem tgt_ok {h : D → Env → Option Env} {f : EM} {N : Nat} {δ δ' : Env} {μ μ' : Mem} {d : D} (e : frzV f δ μ = .ok (.dat d) μ') (k : h d δ = some δ') : gTgt h f N δ μ = .next δ' μ' := by unfold gTgt; rw [e]; simp only [lift, k]
theorem new_nl {f : EM} {i N : Nat} {δ : Env} {μ μ' : Mem} {xs : List DV} (e : f δ μ = .ok (.nl xs) μ') (hN : N ≤ μ'.length) : gNew i f N δ μ = .next (δ.set i (some (.loc μ'.length))) (μ' ++ [.lst xs]) := by unfold gNew; rw [e]; simp only [lift, bindR]; rw [if_pos hN]
theorem ext_tup {μ : Mem} {n : Nat} {ys : List DV} {ds : List D} (h : μ[n]? = some (.lst ys)) (hl : ys.length + ds.length ≤ sizeLine) : dExtend (.loc n) [.dat (.tup ds)] μ = .ok (.dat .non) (μ.set n (.lst (ys ++ ds.map DV.dat))) := by
  simp only [dExtend, atPl, h, asM, asT]; rw [if_pos hl]
theorem tuple_lst {ds : List D} {μ : Mem} : d1 dTuple [.dat (.lst ds)] μ = .ok (.dat (.tup ds)) μ := by simp only [d1, dTuple, asL, allDat_map]
end DL
namespace DL
open PySem PySem.Spec PyProof.Rows L2
/-! ### the law's def itself, and its promise -/
section
variable {P : Program} {w : World} {K : PySem.W.Frag} {mg : Str → Option Value} {base : Heap}
theorem fn_okG {x qual : Str} {st : Stmt} {f : Addr} {fd : FuncData} {Nm ps : List Str} {k n m : Nat} {g : SM} (F : Fun K x qual st f fd) (S : FnScope Nm ps (defScope st)) (hn : ps.length = n) (hmn : Nm.length = n + m)
    (body : ∀ (cdv : Value) (A : Around) (out : List PySem.Env) (s : Shared) (H : Hp) (E : XK), Room k (A.deeper (envOfC qual (defScope st) s.heap.objs.size f cdv)) → A.guards = some [] →
      ∃ ts, PSMs (cxOf CX0 P w K mg base Nm qual (defScope st) f cdv A out s H E).nox (fun cls d _ H => E cls d H) (defBody st) ts g) :
    FnG P w K mg base CX0 (k + 1) f fd ps (spF K n (callD g n m)) := by
  obtain ⟨oc, od, kV, doc, pm, an, cdv, ct, osl, rfl, lk, hcd⟩ := F.ex
  refine fnG_of lk hcd S (fun vs H Q E h => by rw [h.1, hn]) fun A out s H vs Q E hr hg hsp => ?_
  obtain ⟨ts, b⟩ := body cdv A out s H E hr hg
  refine ⟨ts, b.ps.nox, ?_⟩
  have e : Nm.length - n = m := by omega
  exact body_ok (n := n) b.sd (by omega) (by rw [e]; exact sp_callD hsp)
theorem rpl_ints {G : Hp} : ∀ ns : List Int, RpL K G (ns.map V.int) (ns.map D.int)
  | [] => .nil
  | i :: ns => .cons (.int i) (rpl_ints ns)
theorem law_sp {H : Hp} {a : Addr} {ns : List Int} {F : List DV → Mem → Res R} (hS : SqL K H a (ns.map V.int)) {μ' : Mem} (h : F [.dat (.fro (ns.map D.int))] [] = .ok (.dat (.bl true)) μ') :
    spF K 1 F [.ref a] H (fun v _ => v = .bl true) (fun _ _ _ => False) := by
  refine ⟨rfl, fun _ => none, H, [], [.dat (.fro (ns.map D.int))], ⟨Ex.refl _, (fun _ _ _ h => by cases h), (fun _ _ h => by cases h), (fun _ _ h => by cases h), (fun _ _ h => by cases h), (fun _ _ h => by simp at h)⟩, .cons (Rp.fro hS (rpl_ints ns)) .nil, ?_⟩
  rw [h]
  intro G' H' v t R q
  cases q; rfl
theorem dict_mk {d : Addr} {es : Array DictEntry} {n : Nat} (h1 : K.lookup d = some ⟨.type "dict", none, .dict es n, #[]⟩) (h2 : PySem.W.KeysLit w.params es.toList) (h3 : (d == sysModules) = false) : KDict K w d es n := ⟨h1, h2, h3⟩
end
end DL
/-! defs that let exceptions out (CX), defs that catch them all (CX0, callD0) -/
namespace DL
open PySem PySem.Spec PyProof.Rows L2
theorem takesWF {X : Cx} : Takes X WF := fun u s' x => by
  obtain ⟨a, B, sI, pins, σ, H, cls, d, e, I, nb, up, sky, na, os, ag, w⟩ := x
  exact False.elim w
theorem passWF {X : Cx} {P : Program} {w : World} (σ : Slots) : PassesAt (L2.CX P w) X σ (EW WF σ) := fun _ _ _ _ _ _ h => by
  obtain ⟨a, B, H', cls, d, e1, e2, e3, e4, e5, e6, e7, e8⟩ := h
  exact False.elim e8
def callD0 (g : SM) (n m : Nat) : List DV → Mem → Res R := fun xs μ => match callD g n m xs μ with
  | .exc _ _ => .bad
  | r => r
theorem callD0_ar {g : SM} {n m : Nat} (xs : List DV) (μ : Mem) (h : callD0 g n m xs μ ≠ .bad) : xs.length = n := by
  refine callD_ar (g := g) (m := m) xs μ fun e => h ?_
  unfold callD0; rw [e]
theorem sp_callD0 {K : PySem.W.Frag} {g : SM} {n m : Nat} {vs : List V} {H : Hp} {Q : VK} {E : XK} (h : spF K n (callD0 g n m) vs H Q E) : spF K n (callF g m) vs H Q (fun _ _ _ => False) := by
  refine sp_callD ?_
  obtain ⟨hl, ρ, G, μ, xs, R, d, hp⟩ := h
  refine ⟨hl, ρ, G, μ, xs, R, d, ?_⟩
  unfold callD0 at hp
  cases e : callD g n m xs μ with
  | ok r μ' => rw [e] at hp; exact hp
  | exc x μ' => rw [e] at hp; exact hp.elim
  | bad => rw [e] at hp; exact hp
section
variable {P : Program} {w : World} {K : PySem.W.Frag} {mg : Str → Option Value} {base : Heap}
/-- a body that lets exceptions out -/
theorem fn_okXB {x qual : Str} {st : Stmt} {f : Addr} {fd : FuncData} {Nm ps : List Str} {k n m : Nat} {g : SM} (F : Fun K x qual st f fd) (S : FnScope Nm ps (defScope st)) (hn : ps.length = n) (hmn : Nm.length = n + m)
    (body : ∀ (cdv : Value) (A : Around) (out : List PySem.Env) (s : Shared) (H : Hp) (E : XK), Room k (A.deeper (envOfC qual (defScope st) s.heap.objs.size f cdv)) → A.guards = some [] →
      ∃ ts, PSMs (cxOf (L2.CX P w) P w K mg base Nm qual (defScope st) f cdv A out s H E) (fun cls d _ H => E cls d H) (defBody st) ts g) :
    FnG P w K mg base (L2.CX P w) (k + 1) f fd ps (spF K n (callD g n m)) := by
  obtain ⟨oc, od, kV, doc, pm, an, cdv, ct, osl, rfl, lk, hcd⟩ := F.ex
  refine fnG_of lk hcd S (fun vs H Q E h => by rw [h.1, hn]) fun A out s H vs Q E hr hg hsp => ?_
  obtain ⟨ts, b⟩ := body cdv A out s H E hr hg
  refine ⟨ts, b.ps, ?_⟩
  have e : Nm.length - n = m := by omega
  exact body_ok (n := n) b.sd (by omega) (by rw [e]; exact sp_callD hsp)
theorem tk_of {Nm : List Str} {qual : Str} {sc : Scope} {f : Addr} {cdv : Value} {A : Around} {out : List PySem.Env} {s : Shared} {H : Hp} {E : XK} :
    Takes (cxOf (L2.CX P w) P w K mg base Nm qual sc f cdv A out s H E) (fun cls d _ H => E cls d H) := takes_of rfl rfl rfl rfl
theorem po_of {Nm : List Str} {qual : Str} {sc : Scope} {f : Addr} {cdv : Value} {A : Around} {out : List PySem.Env} {s : Shared} {H : Hp} {E : XK} :
    PassesOwn (model P w) (cxOf (L2.CX P w) P w K mg base Nm qual sc f cdv A out s H E).A (cxOf (L2.CX P w) P w K mg base Nm qual sc f cdv A out s H E).env (cxOf (L2.CX P w) P w K mg base Nm qual sc f cdv A out s H E).xe :=
  passes_of (X := cxOf (L2.CX P w) P w K mg base Nm qual sc f cdv A out s H E) rfl
theorem fn_okX {x qual : Str} {st : Stmt} {f : Addr} {fd : FuncData} {Nm ps : List Str} {k n m : Nat} {g : SM} (F : Fun K x qual st f fd) (S : FnScope Nm ps (defScope st)) (hm : mg x = some (.ref f)) (hn : ps.length = n) (hmn : Nm.length = n + m)
    (hb : ∀ (kV doc pm : Value) (an : Option Addr) (cdv ct : Value) (us : List Value), us.length = ps.length → bindArgs (PySem.W.fnOf x qual (defArgs st) (defBody st) (defScope st) .none kV doc pm an cdv ct) ⟨us, []⟩ = pure (ps.zip us))
    (body : ∀ (cdv : Value) (A : Around) (out : List PySem.Env) (s : Shared) (H : Hp) (E : XK), Room k (A.deeper (envOfC qual (defScope st) s.heap.objs.size f cdv)) → A.guards = some [] →
      ∃ ts, PSMs (cxOf (L2.CX P w) P w K mg base Nm qual (defScope st) f cdv A out s H E) (fun cls d _ H => E cls d H) (defBody st) ts g) :
    FnD P w K mg base (L2.CX P w) (k + 1) x n (callD g n m) :=
  ⟨callD_ar, f, fd, ps, hn, fn_okXB F S hn hmn body, hm, F.kp, F.binds hb⟩
theorem fn_okMX {cn x qual : Str} {st : Stmt} {C f : Addr} {fd : FuncData} {Nm ps : List Str} {k n m : Nat} {g : SM} (F : Fun K x qual st f fd) (S : FnScope Nm ps (defScope st)) (hc : ClsAt K cn C) (cl : Cls K C) (hm : Meth K C x f) (hn : ps.length = n) (hmn : Nm.length = n + m)
    (hb : ∀ (kV doc pm : Value) (an : Option Addr) (cdv ct : Value) (us : List Value), us.length = ps.length → bindArgs (PySem.W.fnOf x qual (defArgs st) (defBody st) (defScope st) .none kV doc pm an cdv ct) ⟨us, []⟩ = pure (ps.zip us))
    (body : ∀ (cdv : Value) (A : Around) (out : List PySem.Env) (s : Shared) (H : Hp) (E : XK), Room k (A.deeper (envOfC qual (defScope st) s.heap.objs.size f cdv)) → A.guards = some [] →
      ∃ ts, PSMs (cxOf (L2.CX P w) P w K mg base Nm qual (defScope st) f cdv A out s H E) (fun cls d _ H => E cls d H) (defBody st) ts g) :
    MthD P w K mg base (L2.CX P w) (k + 1) cn x n (callD g n m) :=
  ⟨callD_ar, C, f, fd, ps, hn, hc, fn_okXB F S hn hmn body, cl, hm, F.binds hb⟩
theorem fn_okIX {cn x qual : Str} {st : Stmt} {C f : Addr} {fd : FuncData} {Nm ps : List Str} {k n m : Nat} {g : SM} (F : Fun K x qual st f fd) (S : FnScope Nm ps (defScope st)) (hc : ClsAt K cn C) (hmg : mg cn = some (.ref C)) (M : Mk K C f) (hn : ps.length = n) (hmn : Nm.length = n + m)
    (hb : ∀ (kV doc pm : Value) (an : Option Addr) (cdv ct : Value) (us : List Value), us.length = ps.length → bindArgs (PySem.W.fnOf x qual (defArgs st) (defBody st) (defScope st) .none kV doc pm an cdv ct) ⟨us, []⟩ = pure (ps.zip us))
    (body : ∀ (cdv : Value) (A : Around) (out : List PySem.Env) (s : Shared) (H : Hp) (E : XK), Room k (A.deeper (envOfC qual (defScope st) s.heap.objs.size f cdv)) → A.guards = some [] →
      ∃ ts, PSMs (cxOf (L2.CX P w) P w K mg base Nm qual (defScope st) f cdv A out s H E) (fun cls d _ H => E cls d H) (defBody st) ts g) :
    MakD P w K mg base (L2.CX P w) (k + 1) cn n (callD g n m) :=
  ⟨callD_ar, C, f, fd, ps, hn, hc, hmg, fn_okXB F S hn hmn body, M, F.binds hb⟩
/-- a body that lets none out, though it calls what does -/
theorem fn_ok0B {x qual : Str} {st : Stmt} {f : Addr} {fd : FuncData} {Nm ps : List Str} {k n m : Nat} {g : SM} (F : Fun K x qual st f fd) (S : FnScope Nm ps (defScope st)) (hn : ps.length = n) (hmn : Nm.length = n + m)
    (body : ∀ (cdv : Value) (A : Around) (out : List PySem.Env) (s : Shared) (H : Hp) (E : XK), Room k (A.deeper (envOfC qual (defScope st) s.heap.objs.size f cdv)) → A.guards = some [] →
      ∃ ts, PSMs (cxOf CX0 P w K mg base Nm qual (defScope st) f cdv A out s H E).nox WF (defBody st) ts g) :
    FnG P w K mg base CX0 (k + 1) f fd ps (spF K n (callD0 g n m)) := by
  obtain ⟨oc, od, kV, doc, pm, an, cdv, ct, osl, rfl, lk, hcd⟩ := F.ex
  refine fnG_of lk hcd S (fun vs H Q E h => by rw [h.1, hn]) fun A out s H vs Q E hr hg hsp => ?_
  obtain ⟨ts, b⟩ := body cdv A out s H E hr hg
  refine ⟨ts, b.ps.nox, ?_⟩
  have e : Nm.length - n = m := by omega
  exact body_ok (n := n) (E := fun _ _ _ => False) b.sd (by omega) (by rw [e]; exact sp_callD0 hsp)
theorem fn_ok0 {x qual : Str} {st : Stmt} {f : Addr} {fd : FuncData} {Nm ps : List Str} {k n m : Nat} {g : SM} (F : Fun K x qual st f fd) (S : FnScope Nm ps (defScope st)) (hm : mg x = some (.ref f)) (hn : ps.length = n) (hmn : Nm.length = n + m)
    (hb : ∀ (kV doc pm : Value) (an : Option Addr) (cdv ct : Value) (us : List Value), us.length = ps.length → bindArgs (PySem.W.fnOf x qual (defArgs st) (defBody st) (defScope st) .none kV doc pm an cdv ct) ⟨us, []⟩ = pure (ps.zip us))
    (body : ∀ (cdv : Value) (A : Around) (out : List PySem.Env) (s : Shared) (H : Hp) (E : XK), Room k (A.deeper (envOfC qual (defScope st) s.heap.objs.size f cdv)) → A.guards = some [] →
      ∃ ts, PSMs (cxOf CX0 P w K mg base Nm qual (defScope st) f cdv A out s H E).nox WF (defBody st) ts g) :
    FnD P w K mg base CX0 (k + 1) x n (callD0 g n m) :=
  ⟨callD0_ar, f, fd, ps, hn, fn_ok0B F S hn hmn body, hm, F.kp, F.binds hb⟩
end
end DL
/-! the rules of a suite; what the tables rest on -/
namespace DL
open PySem PySem.Spec PyProof.Rows L2
section
variable {X : Cx} {W : WX} {a C d : Addr} {oe : Obj} {pn : List (Addr × Obj)} {n : Str} {p p1 p2 pos : Pos}
theorem pm_isE (K : PySem.W.Frag) {tab : List (Str × Bool)} {cn : Str} {ct : Addr} (i : Nat) (hz : Zc (.ref C) (some d) oe) (hf : ∃ vs, oe.data = .fields vs) (hg : Gl X "isinstance") (hm : X.mg "isinstance" = none) (T : TabE K (.ref ct) tab) (hc : Gl X cn) (hmc : X.mg cn = some (.ref ct))
    (hN : X.N[i]? = some n := by rfl) (hv : Vis X.env.scope n := by first | exact Or.inl rfl | exact Or.inr (Or.inl rfl) | exact Or.inr (Or.inr rfl))
    (hd : (n == ("__debug__" : Str)) = false := by decide) (hcd : (n == ("__classdict__" : Str)) = false := by decide) (hdc : (cn == ("__debug__" : Str)) = false := by decide) (hK : X.K = K := by rfl)
    (hs : starEach (.Name n p1 :: [.Name cn p2]) X.env = (false, eval (.Name n p1) X.env) :: starEach [.Name cn p2] X.env := by rfl) (hs1 : starEach [.Name cn p2] X.env = (false, eval (.Name cn p2) X.env) :: starEach [] X.env := by rfl) (hpl : (backTo pos (starEach [.Name cn p2] X.env)).any (·.1) = false := by rfl) :
    PM (X.suite a ((a, oe) :: pn)) W (.Call (.Name "isinstance" p) [.Name n p1, .Name cn p2] [] pos) (tCB (rIsX K C a d) (tCons (tVar i) (tCons (tC (.ref ct)) tNil))) (eIsE i a C d tab) := by
  subst hK
  refine ⟨pe_callB (X := X.suite a ((a, oe) :: pn)) (call_isX hz hf) hg hm (by decide +kernel) (pa_cons (pe_var hN hv hd hcd) (pa_cons (pe_glob hc hmc rfl hdc) pa_nil hs1) hs) (he := hs) (hpl := hpl), snd_isE (fun u h => ?_) T⟩
  exact h
theorem pm_xf (K : PySem.W.Frag) {nm0 f : Str} {C0 : Addr} (i : Nat) (hz : Zc (.ref C) (some d) oe) (hf : ∃ vs, oe.data = .fields vs) (T : XfC K C0) (hno : PySem.W.findIn K (.ref C0) f = some none) (hC : ClsAt K nm0 C0)
    (hN : X.N[i]? = some n := by rfl) (hv : Vis X.env.scope n := by first | exact Or.inl rfl | exact Or.inr (Or.inl rfl) | exact Or.inr (Or.inr rfl))
    (hd : (n == ("__debug__" : Str)) = false := by decide) (hcd : (n == ("__classdict__" : Str)) = false := by decide) (hK : X.K = K := by rfl) (hb : attributeBase (.Name n p1) f X.env (eval (.Name n p1) X.env) = eval (.Name n p1) X.env := by rfl) :
    PM (X.suite a ((a, oe) :: pn)) W (.Attribute (.Name n p1) f pos) (tXf a (.ref C) (some d) C0 f (tVar i)) (eXf i a C d nm0 f) := by
  subst hK
  exact ⟨pe_xf T hno hz hf (pe_var (X := X.suite a ((a, oe) :: pn)) hN hv hd hcd) hb, snd_xf hC⟩
end
/-! ### the tables -/
theorem tabE_nil {K : PySem.W.Frag} {cv : Value} : TabE K cv [] := fun _ _ e => by cases e
theorem tabE_cons {K : PySem.W.Frag} {cv : Value} {nm : Str} {b : Bool} {C : Addr} {r : List (Str × Bool)} (hC : ClsAt K nm C) (h1 : ExcC K C) (h2 : PySem.W.kitOne K (.ref C) cv = some b) (h : TabE K cv r) : TabE K cv ((nm, b) :: r) := fun nm' b' e C' hC' => by
  rw [List.lookup_cons] at e
  cases q : nm' == nm with
  | true => rw [q] at e; cases e; cases eq_of_beq q; cases hC.uniq hC'; exact ⟨h1, h2⟩
  | false => rw [q] at e; exact h nm' b' e C' hC'
theorem catOk_nil {K : PySem.W.Frag} {c : Value} : CatOk K c [] := fun _ _ e => by cases e
theorem catOk_cons {K : PySem.W.Frag} {c : Value} {nm : Str} {b : Bool} {C : Addr} {r : List (Str × Bool)} (hC : ClsAt K nm C) (h2 : PySem.W.exmOne K (.ref C) c = some b) (h : CatOk K c r) : CatOk K c ((nm, b) :: r) := fun nm' b' e C' hC' => by
  rw [List.lookup_cons] at e
  cases q : nm' == nm with
  | true => rw [q] at e; cases e; cases eq_of_beq q; cases hC.uniq hC'; exact h2
  | false => rw [q] at e; exact h nm' b' e C' hC'
theorem kit_same {K : PySem.W.Frag} {C : Addr} : PySem.W.kitOne K (.ref C) (.ref C) = some true := by
  unfold PySem.W.kitOne; rw [if_pos (by simp)]
end DL
/-! repr of data with dicts: sysModules is asked about at dicts only -/
namespace DR
open PySem PyProof.Rows
mutual
inductive Rs (h : Heap) : Value → PyData → Prop
  | none : Rs h .none .none
  | bool (b) : Rs h (.bool b) (.bool b)
  | int (i t) : Rs h (.int i t) (.int i)
  | str (x t) : Rs h (.str x t) (.str x)
  | list {a o vs n xs} : h.get? a = some o → o.cls = .type "list" → o.data = .seq vs n → RsAll h vs.toList xs → Rs h (.ref a) (.list xs)
  | tuple {a o vs n xs} : h.get? a = some o → o.cls = .type "tuple" → o.data = .seq vs n → RsAll h vs.toList xs → Rs h (.ref a) (.tuple xs)
  | dict {a o es n} {kvs : List (PyData × PyData)} : h.get? a = some o → o.cls = .type "dict" → o.data = .dict es n → (a == sysModules) = false → RsAll h (es.toList.map (·.key)) (kvs.map (·.1)) →
      RsAll h (es.toList.map (·.val)) (kvs.map (·.2)) → Rs h (.ref a) (.dict kvs)
inductive RsAll (h : Heap) : List Value → List PyData → Prop
  | nil : RsAll h [] []
  | cons {v vs d ds} : Rs h v d → RsAll h vs ds → RsAll h (v :: vs) (d :: ds)
end
section
variable {h : Heap} {prog : Program} {w : World}
mutual
theorem Rs.reads : ∀ {v : Value} {d : PyData}, Rs h v d → ∃ as, Reads h v d as
  | _, _, .none => ⟨_, .none⟩
  | _, _, .bool b => ⟨_, .bool b⟩
  | _, _, .int i t => ⟨_, .int i t⟩
  | _, _, .str x t => ⟨_, .str x t⟩
  | _, _, .list h1 h2 h3 h4 => let ⟨_, r⟩ := RsAll.reads h4; ⟨_, .list h1 h2 h3 r⟩
  | _, _, .tuple h1 h2 h3 h4 => let ⟨_, r⟩ := RsAll.reads h4; ⟨_, .tuple h1 h2 h3 r⟩
  | _, _, .dict h1 h2 h3 _ h4 h5 => let ⟨_, r⟩ := RsAll.reads h4; let ⟨_, r'⟩ := RsAll.reads h5; ⟨_, .dict h1 h2 h3 r r'⟩
theorem RsAll.reads : ∀ {vs : List Value} {ds : List PyData}, RsAll h vs ds → ∃ as, ReadsAll h vs ds as
  | _, _, .nil => ⟨_, .nil⟩
  | _, _, .cons a b => let ⟨_, r⟩ := Rs.reads a; let ⟨_, r'⟩ := RsAll.reads b; ⟨_, .cons r r'⟩
end
mutual
theorem Rs.reprK : ∀ {v : Value} {d : PyData}, Rs h v d → d.showable = true → d.shown.length ≤ sizeLine → ∃ bs, ReadAtMost h d.depth bs ∧ ReprK prog w bs h d.depth v d.shown
  | _, _, .none, _, _ => ⟨[], (fun _ h => nomatch h), by simp only [PyData.shown]; exact .of_is ReprIs.none _ _ _⟩
  | _, _, .bool b, _, _ => ⟨[], (fun _ h => nomatch h), by simp only [PyData.shown]; exact .of_is (ReprIs.bool b) _ _ _⟩
  | _, _, .int i t, hs, _ => ⟨[], (fun _ h => nomatch h), by simp only [PyData.shown]; exact .of_is (ReprIs.int t (by simpa [PyData.showable] using hs)) _ _ _⟩
  | _, _, .str x t, _, hz => ⟨[], (fun _ h => nomatch h), by simp only [PyData.shown]; exact .of_is (ReprIs.str x t (by simpa only [PyData.shown] using hz)) _ _ _⟩
  | _, _, .list (a := a) (vs := vs) (xs := xs) h1 h2 h3 h4, hs, hz => by
    have hz' : (listText (PyData.shownAll xs)).length ≤ sizeLine := by simpa only [PyData.shown] using hz
    obtain ⟨bs, hb, hk⟩ := RsAll.reprK h4 (by simpa [PyData.showable] using hs) fun t ht => Nat.le_trans (listText_mem_le ht) hz'
    obtain ⟨as, r4⟩ := RsAll.reads h4
    have r : Reads h (.ref a) (.list xs) _ := .list h1 h2 h3 r4
    have hna : a ∉ bs := not_mem_of_deeper r (by simp only [PyData.depth]; omega) hb
    refine ⟨a :: bs, ReadAtMost.cons r (by simp only [PyData.depth]; omega) hb, ?_⟩
    simp only [PyData.depth, PyData.shown]
    obtain ⟨l⟩ := vs
    cases l with
    | nil =>
      have h4' : RsAll h [] xs := h4
      cases h4'
      simp only [PyData.shownAll, listText_nil]
      exact ReprK.listEmpty h1 h2 h3
    | cons x l => exact ReprK.list h1 h2 h3 hna (by simpa using hk.length_eq) (fun i y e => hk.item i y (by simpa using e))
  | _, _, .tuple (a := a) (xs := xs) h1 h2 h3 h4, hs, hz => by
    have hz' : (tupleText (PyData.shownAll xs)).length ≤ sizeLine := by simpa only [PyData.shown] using hz
    obtain ⟨bs, hb, hk⟩ := RsAll.reprK h4 (by simpa [PyData.showable] using hs) fun t ht => Nat.le_trans (tupleText_mem_le ht) hz'
    obtain ⟨as, r4⟩ := RsAll.reads h4
    have r : Reads h (.ref a) (.tuple xs) _ := .tuple h1 h2 h3 r4
    have hna : a ∉ bs := not_mem_of_deeper r (by simp only [PyData.depth]; omega) hb
    refine ⟨a :: bs, ReadAtMost.cons r (by simp only [PyData.depth]; omega) hb, ?_⟩
    simp only [PyData.depth, PyData.shown]
    exact ReprK.tuple h1 h2 h3 hna hk
  | _, _, .dict (a := a) (es := es) (kvs := kvs) h1 h2 h3 hsys h4 h5, hs, hz => by
    have hz' : (dictText (PyData.shownKv kvs)).length ≤ sizeLine := by simpa only [PyData.shown] using hz
    obtain ⟨hs1, hs2⟩ := PyData.showableKv_split kvs (by simpa [PyData.showable] using hs)
    obtain ⟨b1, hb1, k1⟩ := RsAll.reprK h4 hs1 fun t ht => let ⟨p, hp, hl⟩ := PyData.shownKv_key_le kvs t ht; Nat.le_trans hl (Nat.le_trans (dictText_mem_le hp) hz')
    obtain ⟨b2, hb2, k2⟩ := RsAll.reprK h5 hs2 fun t ht => let ⟨p, hp, hl⟩ := PyData.shownKv_val_le kvs t ht; Nat.le_trans hl (Nat.le_trans (dictText_mem_le hp) hz')
    obtain ⟨as4, r4⟩ := RsAll.reads h4
    obtain ⟨as5, r5⟩ := RsAll.reads h5
    have r : Reads h (.ref a) (.dict kvs) _ := .dict h1 h2 h3 r4 r5
    have hb : ReadAtMost h (PyData.depthKv kvs) (b1 ++ b2) := (hb1.mono (PyData.depthAll_keys_le kvs)).append (hb2.mono (PyData.depthAll_vals_le kvs))
    have hna : a ∉ b1 ++ b2 := not_mem_of_deeper r (by simp only [PyData.depth]; omega) hb
    refine ⟨a :: (b1 ++ b2), ReadAtMost.cons r (by simp only [PyData.depth]; omega) hb, ?_⟩
    simp only [PyData.depth, PyData.shown, PyData.shownKv_eq]
    exact ReprK.dict h1 h2 h3 hsys hna (ReprEntriesK.of_two es.toList _ _
      (k1.more_le (fun b hb => List.mem_append_left _ hb) (PyData.depthAll_keys_le kvs)) (k2.more_le (fun b hb => List.mem_append_right _ hb) (PyData.depthAll_vals_le kvs)))
theorem RsAll.reprK : ∀ {vs : List Value} {ds : List PyData}, RsAll h vs ds → PyData.showableAll ds = true → (∀ t ∈ PyData.shownAll ds, t.length ≤ sizeLine) →
    ∃ bs, ReadAtMost h (PyData.depthAll ds) bs ∧ ReprAllK prog w bs h (PyData.depthAll ds) vs (PyData.shownAll ds)
  | _, _, .nil, _, _ => ⟨[], (fun _ h => nomatch h), by simp only [PyData.shownAll]; exact .nil⟩
  | _, _, .cons (d := d) (ds := ds) r rs, hs, hz => by
    have hs' : d.showable = true ∧ PyData.showableAll ds = true := by simpa [PyData.showableAll] using hs
    obtain ⟨b1, hb1, k1⟩ := Rs.reprK r hs'.1 (hz _ (by simp only [PyData.shownAll]; exact List.mem_cons_self ..))
    obtain ⟨b2, hb2, k2⟩ := RsAll.reprK rs hs'.2 fun t ht => hz t (by simp only [PyData.shownAll]; exact List.mem_cons_of_mem _ ht)
    refine ⟨b1 ++ b2, ?_, ?_⟩
    · intro b hm
      simp only [PyData.depthAll]
      rcases List.mem_append.mp hm with hm | hm
      · obtain ⟨d', as', r', hd'⟩ := hb1 b hm
        exact ⟨d', as', r', Nat.le_trans hd' (Nat.le_max_left _ _)⟩
      · obtain ⟨d', as', r', hd'⟩ := hb2 b hm
        exact ⟨d', as', r', Nat.le_trans hd' (Nat.le_max_right _ _)⟩
    · simp only [PyData.depthAll, PyData.shownAll]
      exact .cons ((k1.more fun b hb => List.mem_append_left _ hb).level_le (Nat.le_max_left _ _)) (k2.more_le (fun b hb => List.mem_append_right _ hb) (Nat.le_max_right _ _))
end
end
end DR
namespace DR
open PySem PyProof.Rows
section
variable {prog : Program} {w : World} {h₀ : Heap} {a : Addr} {d : PyData}
theorem Rs.shows (r : Rs h₀ (.ref a) d) (hs : d.showable = true) (hsz : d.shown.length ≤ sizeLine) : ∃ T idr, ShowsBy prog w h₀ a d T idr := by
  cases r with
  | list h1 h2 h3 h4 =>
    rename_i o vs n xs
    have hz' : (listText (PyData.shownAll xs)).length ≤ sizeLine := by simpa only [PyData.shown] using hsz
    obtain ⟨bs, hb, hk⟩ := RsAll.reprK (prog := prog) (w := w) h4 (by simpa [PyData.showable] using hs) fun t ht => Nat.le_trans (listText_mem_le ht) hz'
    obtain ⟨as, r4⟩ := RsAll.reads h4
    have hna : a ∉ bs := not_mem_of_deeper (.list h1 h2 h3 r4) (by simp only [PyData.depth]; omega) hb
    refine ⟨"list", "list.__repr__", F.slot_list_repr.toG, F.slot_list_str, F.slot_list_format, fun s hk0 => ⟨o, hk0 _ _ h1, h2⟩, fun A E s Q hg hu hk0 hQ => ?_⟩
    simp only [PyData.depth] at hu
    simp only [PyData.shown] at hQ
    obtain ⟨l⟩ := vs
    cases l with
    | nil =>
      have h4' : RsAll h₀ [] xs := h4
      cases h4'
      simp only [PyData.shownAll, listText_nil] at hQ
      exact call_list_repr_empty ⟨o, hk0 _ _ h1, h2⟩ (hk0 _ _ h1) h3 (hQ s.heap _ _ fun _ _ e => e)
    | cons x l =>
      exact call_list_reprK h1 h2 h3 hna (by simpa using hk.length_eq) (fun i y e => hk.item i y (by simpa using e)) hg (fun b _ => Clear.nil b) hu hk0 hQ hz'
  | tuple h1 h2 h3 h4 =>
    rename_i o vs n xs
    have hz' : (tupleText (PyData.shownAll xs)).length ≤ sizeLine := by simpa only [PyData.shown] using hsz
    obtain ⟨bs, hb, hk⟩ := RsAll.reprK (prog := prog) (w := w) h4 (by simpa [PyData.showable] using hs) fun t ht => Nat.le_trans (tupleText_mem_le ht) hz'
    obtain ⟨as, r4⟩ := RsAll.reads h4
    have hna : a ∉ bs := not_mem_of_deeper (.tuple h1 h2 h3 r4) (by simp only [PyData.depth]; omega) hb
    refine ⟨"tuple", "tuple.__repr__", F.slot_tuple_repr, F.slot_tuple_str, F.slot_tuple_format, fun s hk0 => ⟨o, hk0 _ _ h1, h2⟩, fun A E s Q hg hu hk0 hQ => ?_⟩
    simp only [PyData.depth] at hu
    simp only [PyData.shown] at hQ
    exact call_tuple_reprK h1 h2 h3 hna hk hg (fun b _ => Clear.nil b) hu hk0 hQ hz'
  | dict h1 h2 h3 hsys h4 h5 =>
    rename_i o es n kvs
    have hz' : (dictText (PyData.shownKv kvs)).length ≤ sizeLine := by simpa only [PyData.shown] using hsz
    obtain ⟨hs1, hs2⟩ := PyData.showableKv_split kvs (by simpa [PyData.showable] using hs)
    obtain ⟨b1, hb1, k1⟩ := RsAll.reprK (prog := prog) (w := w) h4 hs1 fun t ht => let ⟨p, hp, hl⟩ := PyData.shownKv_key_le kvs t ht; Nat.le_trans hl (Nat.le_trans (dictText_mem_le hp) hz')
    obtain ⟨b2, hb2, k2⟩ := RsAll.reprK (prog := prog) (w := w) h5 hs2 fun t ht => let ⟨p, hp, hl⟩ := PyData.shownKv_val_le kvs t ht; Nat.le_trans hl (Nat.le_trans (dictText_mem_le hp) hz')
    obtain ⟨as4, r4⟩ := RsAll.reads h4
    obtain ⟨as5, r5⟩ := RsAll.reads h5
    have hb : ReadAtMost h₀ (PyData.depthKv kvs) (b1 ++ b2) := (hb1.mono (PyData.depthAll_keys_le kvs)).append (hb2.mono (PyData.depthAll_vals_le kvs))
    have hna : a ∉ b1 ++ b2 := not_mem_of_deeper (.dict h1 h2 h3 r4 r5) (by simp only [PyData.depth]; omega) hb
    refine ⟨"dict", "dict.__repr__", F.slot_dict_repr, F.slot_dict_str, F.slot_dict_format, fun s hk0 => ⟨o, hk0 _ _ h1, h2⟩, fun A E s Q hg hu hk0 hQ => ?_⟩
    simp only [PyData.depth] at hu
    simp only [PyData.shown, PyData.shownKv_eq] at hQ
    exact call_dict_reprK h1 h2 h3 hsys hna (ReprEntriesK.of_two es.toList _ _
      (k1.more_le (fun b hb => List.mem_append_left _ hb) (PyData.depthAll_keys_le kvs)) (k2.more_le (fun b hb => List.mem_append_right _ hb) (PyData.depthAll_vals_le kvs))) hg (fun b _ => Clear.nil b) hu hk0 hQ (by rw [← PyData.shownKv_eq]; exact hz')
theorem Rs.repr {A : Around} {E : Value → Shared → Prop} {s : Shared} {Q : Value → Shared → Prop} (r : Rs s.heap (.ref a) d) (hs : d.showable = true) (hg : A.guards = some []) (hu : A.units + (d.depth + 1) < cLine)
    (hQ : ∀ h' u tk, (∀ b o, s.heap.get? b = some o → h'.get? b = some o) → Q (.str d.shown u) { s with heap := h', toks := tk })
    (hsz : d.shown.length ≤ sizeLine) : wpAny (model prog w) A (call (.builtin "repr") [.ref a]) Q E s := by
  obtain ⟨T, idr, S⟩ := r.shows (prog := prog) (w := w) hs hsz
  exact call_repr_slot (by omega) (S.typeIs s fun _ _ e => e) S.slotRepr (S.call A.in1 E s _ hg (by show A.units + 1 + d.depth < cLine; omega) (fun _ _ e => e) fun h' u tk hk => ⟨_, _, rfl, hQ h' u tk hk⟩)
end
end DR
namespace DL
open PySem PySem.Spec PyProof.Rows L2 DR
def keyPy : Key → PyData
  | .inl i => .int i
  | .inr s => .str s
mutual
def toPyK : D → Option PyData
  | .non => some .none
  | .bl b => some (.bool b)
  | .int i => some (.int i)
  | .str s => some (.str s)
  | .tup xs => (toPyKL xs).map .tuple
  | .lst xs => (toPyKL xs).map .list
  | .fro xs => (toPyKL xs).map .list
  | .dct kvs => (toPyKv kvs).map .dict
  | .ty _ => none
  | .ref _ => none
  | .ins _ _ => none
  | .err _ _ _ _ _ => none
def toPyKL : List D → Option (List PyData)
  | [] => some []
  | x :: xs => match toPyK x with
    | none => none
    | some p => (toPyKL xs).map (p :: ·)
def toPyKv : List (Ky × D) → Option (List (PyData × PyData))
  | [] => some []
  | (.k k, x) :: xs => match toPyK x with
    | none => none
    | some p => (toPyKv xs).map ((keyPy k, p) :: ·)
  | (.t _, _) :: _ => none
end
theorem map_k_inj : ∀ {a b : List Key}, a.map Ky.k = b.map Ky.k → a = b
  | [], [], _ => rfl
  | [], _ :: _, h => by cases h
  | _ :: _, [], h => by cases h
  | x :: a, y :: b, h => by
    simp only [List.map_cons, List.cons.injEq] at h
    cases h.1
    rw [map_k_inj h.2]
theorem toPyKv_ok : ∀ {ds : List (Ky × D)} {ps : List (PyData × PyData)}, toPyKv ds = some ps → toPyKL (ds.map (·.2)) = some (ps.map (·.2)) ∧ ∃ ks : List Key, ds.map (·.1) = ks.map Ky.k ∧ ps.map (·.1) = ks.map keyPy
  | [], ps, e => by simp only [toPyKv] at e; cases e; exact ⟨by simp [toPyKL], [], rfl, rfl⟩
  | (.t _, _) :: _, ps, e => by simp only [toPyKv] at e; cases e
  | (.k k, x) :: xs, ps, e => by
    simp only [toPyKv] at e
    cases q : toPyK x with
    | none => rw [q] at e; cases e
    | some p =>
      rw [q] at e
      cases q2 : toPyKv xs with
      | none => rw [q2] at e; cases e
      | some qs =>
        rw [q2] at e; cases e
        obtain ⟨h1, ks, h2, h3⟩ := toPyKv_ok q2
        refine ⟨?_, k :: ks, ?_, ?_⟩
        · simp only [List.map_cons, toPyKL, q, h1]; rfl
        · simp only [List.map_cons, h2]
        · simp only [List.map_cons, h3]
section
variable {X : Cx} {pins : List (Addr × Obj)} {σ : L2.St} {H : Hp} {s : Shared}
theorem key_rs {k : Key} {u : Value} (h : (mixKind X.prog X.w).is k u = true) : Rs s.heap u (keyPy k) := by
  have r : L2.RelV (kV k) u := relV_key h
  cases k with
  | inl i => obtain ⟨t, rfl⟩ := r; exact .int i t
  | inr x => obtain ⟨t, rfl⟩ := r; exact .str x t
theorem pairs_keys {es : List DictEntry} {kvs : List (Key × Value)} (h : Pairs (mixKind X.prog X.w) es kvs) : RsAll s.heap (es.map (·.key)) (kvs.map fun p => keyPy p.1) ∧ es.map (·.val) = kvs.map (·.2) := by
  induction h with
  | nil => exact ⟨.nil, rfl⟩
  | cons h1 h2 _ ih => exact ⟨.cons (key_rs h1) ih.1, by simp only [List.map_cons]; rw [h2, ih.2]⟩
theorem kv_vals {ls : List (Key × V)} {vs : List (Key × Value)} (h : KV ls vs) : Vals (ls.map (·.2)) (vs.map (·.2)) := by
  unfold KV at h
  induction h with
  | nil => exact .nil
  | cons a _ ih => exact .cons a.2 ih
mutual
theorem Rp.rs (I : Inv X pins σ H s) : ∀ {v : V} {d : D} {p : PyData} {u : Value}, Rp X.K H v d → toPyK d = some p → L2.RelV v u → Rs s.heap u p
  | _, _, _, _, .non, e, r => by simp only [toPyK] at e; cases e; cases r; exact .none
  | _, _, _, _, .bl b, e, r => by simp only [toPyK] at e; cases e; cases r; exact .bool b
  | _, _, _, _, .int i, e, r => by simp only [toPyK] at e; cases e; obtain ⟨t, rfl⟩ := r; exact .int i t
  | _, _, _, _, .str i, e, r => by simp only [toPyK] at e; cases e; obtain ⟨t, rfl⟩ := r; exact .str i t
  | _, _, _, _, .ty _, e, r => by simp only [toPyK] at e; cases e
  | _, _, _, _, .ref _, e, r => by simp only [toPyK] at e; cases e
  | _, _, _, _, .ins _ _ _ _ _, e, r => by simp only [toPyK] at e; cases e
  | _, _, _, _, .err _ _ _ _, e, r => by simp only [toPyK] at e; cases e
  | _, _, _, _, .tup (ds := ds) h l, e, r => by
    simp only [toPyK] at e
    cases q : toPyKL ds with
    | none => rw [q] at e; cases e
    | some ps =>
      rw [q] at e; cases e; cases r
      obtain ⟨its, rv, ⟨o, ho, hc, n, hd⟩, _⟩ := I.tuple h
      exact .tuple ho hc hd (by simpa using RpL.rs I l q rv)
  | _, _, _, _, .lst (ds := ds) h l, e, r => by
    simp only [toPyK] at e
    cases q : toPyKL ds with
    | none => rw [q] at e; cases e
    | some ps =>
      rw [q] at e; cases e; cases r
      obtain ⟨its, rv, ⟨o, n, ho, hc, hd, hdat⟩, _⟩ := I.list (.inl (.inl h))
      exact .list ho hc hdat (by simpa using RpL.rs I l q rv)
  | _, _, _, _, .fro (ds := ds) h l, e, r => by
    simp only [toPyK] at e
    cases q : toPyKL ds with
    | none => rw [q] at e; cases e
    | some ps =>
      rw [q] at e; cases e; cases r
      obtain ⟨its, rv, ⟨o, n, ho, hc, hd, hdat⟩, _⟩ := I.list h
      exact .list ho hc hdat (by simpa using RpL.rs I l q rv)
  | _, _, _, _, .dct (ds := ds) h k l, e, r => by
    simp only [toPyK] at e
    cases q : toPyKv ds with
    | none => rw [q] at e; cases e
    | some ps =>
      rw [q] at e; cases e; cases r
      obtain ⟨h1, ks, h2, h3⟩ := toPyKv_ok q
      have step : ∀ us, Vals _ us → RsAll s.heap us (ps.map (·.2)) := fun us rv => RpL.rs I l h1 rv
      rcases k with ⟨ls, rfl, k2, rfl⟩ | ⟨ls, hne, rfl, k2, rfl⟩
      · obtain ⟨_, hsys, vs', rel, o', es, ep, ho, hx, hdat, _, hp, _⟩ := dk_rd I.hok (.inr ⟨_, h⟩)
        obtain ⟨p1, p2⟩ := pairs_keys (X := X) (s := s) hp
        have ek : ks = ls.map (·.1) := by
          have e2 : ks.map Ky.k = (ls.map (·.1)).map Ky.k := by rw [← h2, k2, List.map_map]; rfl
          exact map_k_inj e2
        refine .dict ho hx.1 hdat hsys ?_ ?_
        · have e3 : ps.map (·.1) = vs'.map fun p => keyPy p.1 := by
            rw [h3, ek, rel.keys, List.map_map]; rfl
          rw [e3]; exact p1
        · rw [p2]; exact step _ (kv_vals rel)
      · cases ls with
        | nil => exact absurd rfl hne
        | cons p ls =>
          rw [h2] at k2
          cases ks with
          | nil => cases k2
          | cons k ks => simp at k2
theorem RpL.rs (I : Inv X pins σ H s) : ∀ {vs : List V} {ds : List D} {ps : List PyData} {us : List Value}, RpL X.K H vs ds → toPyKL ds = some ps → Vals vs us → RsAll s.heap us ps
  | _, _, _, _, .nil, e, r => by simp only [toPyKL] at e; cases e; cases r; exact .nil
  | _, _, _, _, .cons (d := d) (ds := ds) a b, e, r => by
    simp only [toPyKL] at e
    cases q : toPyK d with
    | none => rw [q] at e; cases e
    | some p =>
      rw [q] at e
      cases q2 : toPyKL ds with
      | none => rw [q2] at e; cases e
      | some ps =>
        rw [q2] at e; cases e
        cases r with
        | cons r1 r2 => exact .cons (Rp.rs I a q r1) (RpL.rs I b q2 r2)
end
end
end DL
/-! repr of data with dicts -/
namespace DL
open PySem PySem.Spec PyProof.Rows L2 DR
def dReprD (x : DV) (μ : Mem) : Res R := match (peek μ x).bind toPyK with
  | some p => if p.showable = true ∧ p.depth ≤ 64 ∧ p.shown.length ≤ sizeLine then .ok (.dat (.str p.shown)) μ else .bad
  | none => .bad
def rReprD (K : PySem.W.Frag) : List V → Hp → VK → Prop := fun xs H Q => ∃ v d p, xs = [v] ∧ Rp K H v d ∧ toPyK d = some p ∧ p.showable = true ∧ p.depth ≤ 64 ∧ p.shown.length ≤ sizeLine ∧ Q (.str p.shown) H
theorem cr_reprD {X : Cx} {k : Nat} (hr : Room k X.A) (hg : X.A.guards = some []) : CallR X (.builtin "repr") (rReprD X.K) := by
  intro pins s σ H xs us Q I rv h
  obtain ⟨v, d, p, rfl, hd, hp, hs, hdp, hz, q⟩ := h
  obtain ⟨u, rfl, ru⟩ : ∃ u, us = [u] ∧ L2.RelV v u := by
    cases rv with
    | cons a b => cases b; exact ⟨_, rfl, a⟩
  have rd := Rp.rs I hd hp ru
  have fin : ∀ h' tk t', (∀ b o, s.heap.get? b = some o → h'.get? b = some o) → EP X pins σ Q (.str p.shown t') { s with heap := h', toks := tk } := fun h' tk t' kp =>
    ⟨.str p.shown, H, I.kept kp, ⟨t', rfl⟩, q⟩
  have hu : X.A.units + 200 < cLine := by have := hr.un; omega
  have all : ∀ a, u = .ref a → wpAny (model X.prog X.w) X.A (call (.builtin "repr") [u]) (EP X pins σ Q) X.xe s := fun a e => by
    subst e
    exact rd.repr hs hg (by omega) (fun h' t' tk kp => fin h' tk t' kp) hz
  cases rd with
  | none => exact PySem.P.repr_of_none (fin s.heap _ _ fun _ _ e => e)
  | bool b => exact PySem.P.repr_of_bool (fin s.heap _ _ fun _ _ e => e)
  | int i t => exact PySem.P.repr_of_int (of_decide_eq_true hs) (fin s.heap _ _ fun _ _ e => e)
  | str z t => exact PySem.P.repr_of_str (fin s.heap _ _ fun _ _ e => e) hz
  | list _ _ _ _ => exact all _ rfl
  | tuple _ _ _ _ => exact all _ rfl
  | dict _ _ _ _ _ _ => exact all _ rfl
theorem cd_reprD {K : PySem.W.Frag} : CallD K (rReprD K) (d1 dReprD) := cd_1 fun W ρ G H σ μ v x Q R hx hp => by
  unfold dReprD at hp
  cases e : peek μ x with
  | none => rw [e] at hp; exact hp.elim
  | some d =>
    rw [e] at hp
    simp only [Option.bind_some] at hp
    cases e2 : toPyK d with
    | none => rw [e2] at hp; exact hp.elim
    | some p =>
      simp only [e2] at hp
      by_cases c : p.showable = true ∧ p.depth ≤ 64 ∧ p.shown.length ≤ sizeLine
      · rw [if_pos c] at hp; exact ⟨v, d, p, rfl, peek_ok R hx e, e2, c.1, c.2.1, c.2.2, hp.okD R (.str _)⟩
      · rw [if_neg c] at hp; exact hp.elim
theorem cr_reprDK (K : PySem.W.Frag) {X : Cx} {k : Nat} (h : Room k X.A) (hg : X.A.guards = some []) (hK : X.K = K := by rfl) : CallR X (.builtin "repr") (rReprD K) := by subst hK; exact cr_reprD h hg
end DL
/-! == of two values that read as the same data, dicts among it -/
namespace DR
open PySem PySem.SeqAt PyProof.Rows
open AutoSeq1 (wpAny_loadPart')
open MeetsSeq MeetsSeq2 MeetsSeq3 SeqRoads2
section
variable {prog : Program} {w : World}
theorem tup_same (p q : Addr) (us vs : Array Value) (m m2 : Nat) (f f2 : Option Addr) (t t2 : Array (Option Value)) (hz : us.size = vs.size) :
    MeetsIn prog w (Builtin.«tuple.__eq__» ⟨[.ref p, .ref q], []⟩)
      (fun A R s => s.heap.get? p = some { cls := .type "tuple", dict := f, data := .seq us m, slots := t } ∧
        s.heap.get? q = some { cls := .type "tuple", dict := f2, data := .seq vs m2, slots := t2 } ∧
        (∀ j (h1 : j < us.size) (h2 : j < vs.size), EqP prog w A.in1 s us[j] vs[j] true) ∧ R (.ok (.ret (.bool true))) s) := by
  intro A R s h
  obtain ⟨hp, g, d, tk, os⟩ := s
  obtain ⟨hl, hb, he, h⟩ := h
  have st := AutoSeq1.sub_tuple_tuple
  have hZ : (us.toList.zip vs.toList).length = us.size := by simp [hz]
  wp_walk using wpAny_loadPart' hl, wpAny_loadPart' hb, wpAny_forIn_list _ (fun rest b s' => b.1 = none ∧ s' = ⟨hp, g, d, tk, os⟩ ∧ ∃ i, rest = (us.toList.zip vs.toList).drop i) _
  case turn =>
    rintro ⟨y, x⟩ rest b s' ⟨hb', rfl, i, hzz⟩
    have hlt : i < (us.toList.zip vs.toList).length := by
      rcases Nat.lt_or_ge i (us.toList.zip vs.toList).length with z | z
      · exact z
      · rw [List.drop_of_length_le z] at hzz; cases hzz
    have i1 : i < us.size := hZ ▸ hlt
    have i2 : i < vs.size := hz ▸ i1
    rw [List.drop_eq_getElem_cons hlt] at hzz
    injection hzz with hyx hrest
    obtain rfl : y = us[i] := by have := congrArg Prod.fst hyx; simpa using this
    obtain rfl : x = vs[i] := by have := congrArg Prod.snd hyx; simpa using this
    refine wpAny_bind (he i i1 i2 _ _ ?_)
    wp_walk
    exact ⟨rfl, rfl, i + 1, hrest⟩
  case fin =>
    rintro ⟨b1, b2⟩ s' ⟨hb', rfl, i, hzz⟩
    simp only at hb'
    subst hb'
    wp_walk
    simpa [Builtin.Tuple.tupleCompareSizes, hz] using h
  case h =>
    exact ⟨rfl, rfl, 0, rfl⟩
theorem rcP_tups {A : Around} {s : Shared} {p q : Addr} {us vs : Array Value} (hp : s.heap.IsTuple p us) (hq : s.heap.IsTuple q vs) (hz : us.size = vs.size) (hu : A.units < cLine)
    (he : ∀ j (h1 : j < us.size) (h2 : j < vs.size), EqP prog w A.in1 s us[j] vs[j] true) (E Q : Value → Shared → Prop) (h : Q (.bool true) s) : wpAny (model prog w) A (richCompare .Eq (.ref p) (.ref q)) Q E s := by
  obtain ⟨⟨c1, f1, k1, t1⟩, o1, e1, m1, g1⟩ := id hp
  obtain ⟨⟨c2, f2, k2, t2⟩, o2, e2, m2, g2⟩ := id hq
  simp only at e1 g1 e2 g2
  subst e1 g1 e2 g2
  have ta : s.TypeIs (.ref p) "tuple" := ⟨_, o1, rfl⟩
  have tb : s.TypeIs (.ref q) "tuple" := ⟨_, o2, rfl⟩
  exact wpAny_richCompare_same_room (op := .Eq) ta tb F.slot_tuple_eq (call_meetsIn F.slot_tuple_eq ta F.entry_tuple_eq (F.args_tuple_eq_2 _ _) (tup_same p q us vs m1 m2 f1 f2 t1 t2 hz)
    ⟨o1, o2, he, show Value.bool true ≠ Value.notImplemented ∧ Q (.bool true) s from ⟨(fun x => nomatch x), h⟩⟩) hu
end
end DR
namespace DR
open PySem PySem.Spec PySem.SeqAt PyProof.Rows L2 DL
mutual
/-- as Rs, but a dict by its pairs -/
inductive Rq (P : Program) (w : World) (h : Heap) : Value → PyData → Prop
  | none : Rq P w h .none .none
  | bool (b) : Rq P w h (.bool b) (.bool b)
  | int (i t) : Rq P w h (.int i t) (.int i)
  | str (x t) : Rq P w h (.str x t) (.str x)
  | list {a vs xs} : h.IsList a vs → RqAll P w h vs.toList xs → Rq P w h (.ref a) (.list xs)
  | tuple {a vs xs} : h.IsTuple a vs → RqAll P w h vs.toList xs → Rq P w h (.ref a) (.tuple xs)
  | dict {a} {vs : List (Key × Value)} {kvs : List (PyData × PyData)} : (a == sysModules) = false → h.DictOf (mixKind P w) a vs → kvs.map (·.1) = vs.map (fun p => keyPy p.1) → RqAll P w h (vs.map (·.2)) (kvs.map (·.2)) → Rq P w h (.ref a) (.dict kvs)
inductive RqAll (P : Program) (w : World) (h : Heap) : List Value → List PyData → Prop
  | nil : RqAll P w h [] []
  | cons {v vs d ds} : Rq P w h v d → RqAll P w h vs ds → RqAll P w h (v :: vs) (d :: ds)
end
section
variable {P : Program} {w : World} {s : Shared}
theorem RqAll.length {h : Heap} : ∀ {vs : List Value} {ds : List PyData}, RqAll P w h vs ds → vs.length = ds.length
  | _, _, .nil => rfl
  | _, _, .cons _ b => congrArg (· + 1) (RqAll.length b)
theorem depthKv_snd : ∀ kvs : List (PyData × PyData), PyData.depthAll (kvs.map (·.2)) ≤ PyData.depthKv kvs
  | [] => Nat.le_refl _
  | (a, b) :: r => by
    have := depthKv_snd r
    simp only [List.map_cons, PyData.depthAll, PyData.depthKv]
    omega
theorem keyPy_inj : ∀ {a b : List Key}, a.map keyPy = b.map keyPy → a = b
  | [], [], _ => rfl
  | [], _ :: _, h => by cases h
  | _ :: _, [], h => by cases h
  | x :: a, y :: b, h => by
    simp only [List.map_cons, List.cons.injEq] at h
    have e : x = y := by
      rcases x with x | x <;> rcases y with y | y
      · have := h.1; simp only [keyPy, PyData.int.injEq] at this; rw [this]
      · have := h.1; simp [keyPy] at this
      · have := h.1; simp [keyPy] at this
      · have := h.1; simp only [keyPy, PyData.str.injEq] at this; rw [this]
    rw [e, keyPy_inj h.2]
theorem hits_same {A : Around} {kb : List (Key × Value)} : ∀ {ka : List (Key × Value)}, (∀ (i : Nat) (k : Key) (v : Value), ka[i]? = some (k, v) → ∃ y, PySem.valueAt kb k = some y ∧ EqP P w A s v y true) → PySem.W.KeqHitsP P w A s kb ka true
  | [], _ => .nil
  | (k, v) :: r, h => by
    obtain ⟨y, h1, h2⟩ := h 0 k v rfl
    exact .hit (e := true) (b := true) h1 h2 (hits_same fun i k' v' q => h (i + 1) k' v' q)
theorem hits_zip {A : Around} {a : Addr} {vs vs' : List (Key × Value)} (ek : vs.map (·.1) = vs'.map (·.1)) (this : ∀ (j : Nat) (h1 : j < (vs.map (·.2)).length) (h2 : j < (vs'.map (·.2)).length), EqP P w A s (vs.map (·.2))[j] (vs'.map (·.2))[j] true)
    (k2 : s.heap.DictOf (mixKind P w) a vs') : PySem.W.KeqHitsP P w A s vs' vs true := by
  have hl : vs.length = vs'.length := by simpa using congrArg List.length ek
  have nd : (vs'.map (·.1)).Nodup := by obtain ⟨o, es, ep, _, _, _, _, _, z⟩ := k2; exact z
  refine hits_same fun i k v q => ?_
  have hi : i < vs.length := (List.getElem?_eq_some_iff.mp q).1
  have hi' : i < vs'.length := hl ▸ hi
  have e1 : vs[i] = (k, v) := (List.getElem?_eq_some_iff.mp q).2
  have e2 : (vs'[i]).1 = k := by
    have := congrArg (fun l => l[i]?) ek
    simp only [List.getElem?_map, List.getElem?_eq_getElem hi, List.getElem?_eq_getElem hi', Option.map_some, Option.some.injEq] at this
    rw [← this, e1]
  refine ⟨(vs'[i]).2, PySem.valueAt_of_get nd (i := i) (by rw [List.getElem?_eq_getElem hi', ← e2]), ?_⟩
  have z := this i (by simpa using hi) (by simpa using hi')
  simpa [e1] using z
mutual
theorem Rq.same : ∀ {u u' : Value} {p : PyData} (A : Around), Rq P w s.heap u p → Rq P w s.heap u' p → A.units + p.depth < cLine → EqP P w A s u u' true
  | _, _, _, A, .none, r, hu => by cases r; exact (EqAt.same _).eqP
  | _, _, _, A, .bool b, r, hu => by cases r; exact (EqAt.same _).eqP
  | _, _, _, A, .int i t, r, hu => by
    cases r with
    | int _ t' => have := EqAt.int_int (A := A) (s := s) i t i t'; simpa using this.eqP (prog := P) (w := w)
  | _, _, _, A, .str x t, r, hu => by
    cases r with
    | str _ t' => have := EqAt.str_str (A := A) (s := s) x t x t'; simpa using this.eqP (prog := P) (w := w)
  | _, _, _, A, .list (a := a) (vs := vs) h1 h2, r, hu => by
    cases r with
    | list k1 k2 =>
      rename_i a' vs'
      by_cases e : a = a'
      · subst e; exact (EqAt.same _).eqP
      · have hz : vs.size = vs'.size := by have := h2.length; have := k2.length; simp at *; omega
        have := RqAll.same A.in1 h2 k2 (by simp only [PyData.depth] at hu; show A.units + 1 + _ < cLine; omega)
        refine eqP_refs e fun E Q q => rcP_lists h1 k1 hz (by omega) (e := fun _ => true) (fun j h1 h2 => ?_) E Q (by rw [show ((List.range vs.size).all fun _ => true) = true from List.all_eq_true.mpr fun _ _ => rfl]; exact q)
        have z := this j (by simpa using h1) (by simpa using h2)
        rw [Array.getElem_toList, Array.getElem_toList] at z; exact z
  | _, _, _, A, .tuple (a := a) (vs := vs) h1 h2, r, hu => by
    cases r with
    | tuple k1 k2 =>
      rename_i a' vs'
      by_cases e : a = a'
      · subst e; exact (EqAt.same _).eqP
      · have hz : vs.size = vs'.size := by have := h2.length; have := k2.length; simp at *; omega
        have := RqAll.same A.in1 h2 k2 (by simp only [PyData.depth] at hu; show A.units + 1 + _ < cLine; omega)
        refine eqP_refs e fun E Q q => rcP_tups h1 k1 hz (by omega) (fun j h1 h2 => ?_) E Q q
        have z := this j (by simpa using h1) (by simpa using h2)
        rw [Array.getElem_toList, Array.getElem_toList] at z; exact z
  | _, _, _, A, .dict (a := a) (vs := vs) (kvs := kvs) h1 h2 h3 h4, r, hu => by
    cases r with
    | dict k1 k2 k3 k4 =>
      rename_i a' vs'
      by_cases e : a = a'
      · subst e; exact (EqAt.same _).eqP
      · have ek : vs.map (·.1) = vs'.map (·.1) := keyPy_inj (by rw [List.map_map, List.map_map]; exact h3.symm.trans k3)
        have hl : vs.length = vs'.length := by simpa using congrArg List.length ek
        have := RqAll.same A.in1 h4 k4 (by have := depthKv_snd kvs; simp only [PyData.depth] at hu; show A.units + 1 + _ < cLine; omega)
        exact eqP_refs e fun E Q q => PySem.W.rcP_dicts h1 k1 h2 k2 (by omega) (r := true) (fun _ => hits_zip ek this k2) E Q (by simpa [hl] using q)
theorem RqAll.same : ∀ {us us' : List Value} {ps : List PyData} (A : Around), RqAll P w s.heap us ps → RqAll P w s.heap us' ps → A.units + PyData.depthAll ps < cLine → ∀ (j : Nat) (h1 : j < us.length) (h2 : j < us'.length), EqP P w A s us[j] us'[j] true
  | _, _, _, A, .nil, r, hu, j, h1, h2 => absurd h1 (Nat.not_lt_zero _)
  | _, _, _, A, .cons a b, r, hu, j, h1, h2 => by
    cases r with
    | cons a' b' =>
      have hd := hu
      simp only [PyData.depthAll] at hd
      cases j with
      | zero => exact Rq.same A a a' (by omega)
      | succ j => exact RqAll.same A b b' (by omega) j (Nat.lt_of_succ_lt_succ h1) (Nat.lt_of_succ_lt_succ h2)
end
end
end DR
namespace DL
open PySem PySem.Spec PyProof.Rows L2 DR
section
variable {X : Cx} {pins : List (Addr × Obj)} {σ : L2.St} {H : Hp} {s : Shared}
mutual
theorem Rp.rq (I : Inv X pins σ H s) : ∀ {v : V} {d : D} {p : PyData} {u : Value}, Rp X.K H v d → toPyK d = some p → L2.RelV v u → Rq X.prog X.w s.heap u p
  | _, _, _, _, .non, e, r => by simp only [toPyK] at e; cases e; cases r; exact .none
  | _, _, _, _, .bl b, e, r => by simp only [toPyK] at e; cases e; cases r; exact .bool b
  | _, _, _, _, .int i, e, r => by simp only [toPyK] at e; cases e; obtain ⟨t, rfl⟩ := r; exact .int i t
  | _, _, _, _, .str i, e, r => by simp only [toPyK] at e; cases e; obtain ⟨t, rfl⟩ := r; exact .str i t
  | _, _, _, _, .ty _, e, r => by simp only [toPyK] at e; cases e
  | _, _, _, _, .ref _, e, r => by simp only [toPyK] at e; cases e
  | _, _, _, _, .ins _ _ _ _ _, e, r => by simp only [toPyK] at e; cases e
  | _, _, _, _, .err _ _ _ _, e, r => by simp only [toPyK] at e; cases e
  | _, _, _, _, .tup (ds := ds) h l, e, r => by
    simp only [toPyK] at e
    cases q : toPyKL ds with
    | none => rw [q] at e; cases e
    | some ps =>
      rw [q] at e; cases e; cases r
      obtain ⟨its, rv, hi, _⟩ := I.tuple h
      exact .tuple hi (by simpa using RpL.rq I l q rv)
  | _, _, _, _, .lst (ds := ds) h l, e, r => by
    simp only [toPyK] at e
    cases q : toPyKL ds with
    | none => rw [q] at e; cases e
    | some ps =>
      rw [q] at e; cases e; cases r
      obtain ⟨its, rv, ⟨o, n, ho, hc, hd, hdat⟩, _⟩ := I.list (.inl (.inl h))
      exact .list ⟨o, ho, hc, n, hdat⟩ (by simpa using RpL.rq I l q rv)
  | _, _, _, _, .fro (ds := ds) h l, e, r => by
    simp only [toPyK] at e
    cases q : toPyKL ds with
    | none => rw [q] at e; cases e
    | some ps =>
      rw [q] at e; cases e; cases r
      obtain ⟨its, rv, ⟨o, n, ho, hc, hd, hdat⟩, _⟩ := I.list h
      exact .list ⟨o, ho, hc, n, hdat⟩ (by simpa using RpL.rq I l q rv)
  | _, _, _, _, .dct (ds := ds) h k l, e, r => by
    simp only [toPyK] at e
    cases q : toPyKv ds with
    | none => rw [q] at e; cases e
    | some ps =>
      rw [q] at e; cases e; cases r
      obtain ⟨h1, ks, h2, h3⟩ := toPyKv_ok q
      have step : ∀ us, Vals _ us → RqAll X.prog X.w s.heap us (ps.map (·.2)) := fun us rv => RpL.rq I l h1 rv
      rcases k with ⟨ls, rfl, k2, rfl⟩ | ⟨ls, hne, rfl, k2, rfl⟩
      · obtain ⟨_, hsys, vs', rel, dd⟩ := dk_rd I.hok (.inr ⟨_, h⟩)
        have ek : ks = ls.map (·.1) := by
          have e2 : ks.map Ky.k = (ls.map (·.1)).map Ky.k := by rw [← h2, k2, List.map_map]; rfl
          exact map_k_inj e2
        refine .dict hsys dd ?_ (step _ (kv_vals rel))
        rw [h3, ek, rel.keys, List.map_map]; rfl
      · cases ls with
        | nil => exact absurd rfl hne
        | cons p ls =>
          rw [h2] at k2
          cases ks with
          | nil => cases k2
          | cons k ks => simp at k2
theorem RpL.rq (I : Inv X pins σ H s) : ∀ {vs : List V} {ds : List D} {ps : List PyData} {us : List Value}, RpL X.K H vs ds → toPyKL ds = some ps → Vals vs us → RqAll X.prog X.w s.heap us ps
  | _, _, _, _, .nil, e, r => by simp only [toPyKL] at e; cases e; cases r; exact .nil
  | _, _, _, _, .cons (d := d) (ds := ds) a b, e, r => by
    simp only [toPyKL] at e
    cases q : toPyK d with
    | none => rw [q] at e; cases e
    | some p =>
      rw [q] at e
      cases q2 : toPyKL ds with
      | none => rw [q2] at e; cases e
      | some ps =>
        rw [q2] at e; cases e
        cases r with
        | cons r1 r2 => exact .cons (Rp.rq I a q r1) (RpL.rq I b q2 r2)
end
end
end DL
namespace DR
open PySem PySem.Spec PySem.SeqAt PyProof.Rows L2 DL
theorem Rq.rc {P : Program} {w : World} {A : Around} {s : Shared} {u v : Value} {p : PyData} {Q : Value → Shared → Prop} {E : Value → Shared → Prop} (a : Rq P w s.heap u p) (b : Rq P w s.heap v p) (hu : A.units + p.depth < cLine) (q : Q (.bool true) s) :
    wpAny (model P w) A (compareOp .Eq u v) Q E s := by
  cases a with
  | none => cases b; exact RcAt.none_none P w E Q q
  | bool x => cases b; exact RcAt.bool_bool x x P w E Q (by simpa using q)
  | int x t =>
    cases b with
    | int _ t' => exact RcAt.int_int x t x t' P w E Q (by simpa using q)
  | str x t =>
    cases b with
    | str _ t' => exact RcAt.str_str x t x t' P w E Q (by simpa using q)
  | list h1 h2 =>
    cases b with
    | list k1 k2 =>
      rename_i a vs xs a' vs'
      have hz : vs.size = vs'.size := by have := h2.length; have := k2.length; simp at *; omega
      have := RqAll.same A.in1 h2 k2 (by simp only [PyData.depth] at hu; show A.units + 1 + _ < cLine; omega)
      refine rcP_lists h1 k1 hz (by omega) (e := fun _ => true) (fun j h1 h2 => ?_) E Q (by rw [show ((List.range vs.size).all fun _ => true) = true from List.all_eq_true.mpr fun _ _ => rfl]; exact q)
      have z := this j (by simpa using h1) (by simpa using h2)
      rw [Array.getElem_toList, Array.getElem_toList] at z; exact z
  | tuple h1 h2 =>
    cases b with
    | tuple k1 k2 =>
      rename_i a vs xs a' vs'
      have hz : vs.size = vs'.size := by have := h2.length; have := k2.length; simp at *; omega
      have := RqAll.same A.in1 h2 k2 (by simp only [PyData.depth] at hu; show A.units + 1 + _ < cLine; omega)
      refine rcP_tups h1 k1 hz (by omega) (fun j h1 h2 => ?_) E Q q
      have z := this j (by simpa using h1) (by simpa using h2)
      rw [Array.getElem_toList, Array.getElem_toList] at z; exact z
  | dict h1 h2 h3 h4 =>
    cases b with
    | dict k1 k2 k3 k4 =>
      rename_i a vs kvs a' vs'
      have ek : vs.map (·.1) = vs'.map (·.1) := keyPy_inj (by rw [List.map_map, List.map_map]; exact h3.symm.trans k3)
      have hl : vs.length = vs'.length := by simpa using congrArg List.length ek
      have := RqAll.same A.in1 h4 k4 (by have := depthKv_snd kvs; simp only [PyData.depth] at hu; show A.units + 1 + _ < cLine; omega)
      exact PySem.W.rcP_dicts h1 k1 h2 k2 (by omega) (r := true) (fun _ => hits_zip ek this k2) E Q (by simpa [hl] using q)
end DR
namespace DL
open PySem PySem.Spec PyProof.Rows L2 DR
/-- two values that read alike -/
def rSame (K : PySem.W.Frag) : R2 := fun x y H Q => ∃ d d' p, Rp K H x d ∧ Rp K H y d' ∧ toPyK d = some p ∧ toPyK d' = some p ∧ p.depth ≤ 64 ∧ Q (.bl true) H
theorem op_same {X : Cx} (hu : X.A.units + 64 < cLine) : OpR X (compareOp .Eq) (rSame X.K) := by
  intro pins s σ H x y v u Q I rx ry h
  obtain ⟨d, d', p, h1, h2, e1, e2, hp, q⟩ := h
  exact (Rp.rq I h1 e1 rx).rc (Rp.rq I h2 e2 ry) (by omega) ⟨.bl true, H, I, rfl, q⟩
theorem op_sameK (K : PySem.W.Frag) {X : Cx} (hu : X.A.units + 64 < cLine) (hK : X.K = K := by rfl) : OpR X (compareOp .Eq) (rSame K) := by subst hK; exact op_same hu
open Classical in
noncomputable def dSame (x y : DV) (μ : Mem) : Res R := match (peek μ x).bind toPyK with
  | some p => if (peek μ y).bind toPyK = some p ∧ p.depth ≤ 64 then .ok (.dat (.bl true)) μ else .bad
  | none => .bad
theorem od_same {K : PySem.W.Frag} : OpD K (rSame K) dSame := fun W ρ G H σ μ v w x y Q R hx hy hp => by
  unfold dSame at hp
  cases e : peek μ x with
  | none => rw [e] at hp; exact hp.elim
  | some d =>
    rw [e] at hp
    simp only [Option.bind_some] at hp
    cases e2 : toPyK d with
    | none => rw [e2] at hp; exact hp.elim
    | some p =>
      simp only [e2] at hp
      by_cases c : (peek μ y).bind toPyK = some p ∧ p.depth ≤ 64
      · rw [if_pos c] at hp
        obtain ⟨c1, c2⟩ := c
        cases e3 : peek μ y with
        | none => rw [e3] at c1; cases c1
        | some d' =>
          rw [e3] at c1
          exact ⟨d, d', p, peek_ok R hx e, peek_ok R hy e3, e2, c1, c2, hp.okD R (.bl _)⟩
      · rw [if_neg c] at hp; exact hp.elim
end DL
/-! wide operators: what a value is decides -/
namespace DL
open PySem PySem.Spec PyProof.Rows L2 DR
def altR {α : Type} (a b : Res α) : Res α := match a with
  | .bad => b
  | r => r
def alt2 (g g' : DV → DV → Mem → Res R) (x y : DV) (μ : Mem) : Res R := altR (g x y μ) (g' x y μ)
def alt1 (g g' : List DV → Mem → Res R) (xs : List DV) (μ : Mem) : Res R := altR (g xs μ) (g' xs μ)
theorem OpD.alt {K : PySem.W.Frag} {r r' : R2} {g g' : DV → DV → Mem → Res R} (h : OpD K r g) (h' : OpD K r' g') : OpD K (fun x y H Q => r x y H Q ∨ r' x y H Q) (alt2 g g') := fun W ρ G H σ μ v w x y Q R hx hy hp => by
  unfold alt2 altR at hp
  cases e : g x y μ with
  | bad => rw [e] at hp; exact .inr (h' W ρ G H σ μ v w x y Q R hx hy hp)
  | ok a m => rw [e] at hp; exact .inl (h W ρ G H σ μ v w x y Q R hx hy (by rw [e]; exact hp))
  | exc a m => rw [e] at hp; exact .inl (h W ρ G H σ μ v w x y Q R hx hy (by rw [e]; exact hp))
theorem CallD.alt {K : PySem.W.Frag} {r r' : List V → Hp → VK → Prop} {g g' : List DV → Mem → Res R} (h : CallD K r g) (h' : CallD K r' g') : CallD K (fun x H Q => r x H Q ∨ r' x H Q) (alt1 g g') := fun W ρ G H σ μ vs xs Q R hx hp => by
  unfold alt1 altR at hp
  cases e : g xs μ with
  | bad => rw [e] at hp; exact .inr (h' W ρ G H σ μ vs xs Q R hx hp)
  | ok a m => rw [e] at hp; exact .inl (h W ρ G H σ μ vs xs Q R hx (by rw [e]; exact hp))
  | exc a m => rw [e] at hp; exact .inl (h W ρ G H σ μ vs xs Q R hx (by rw [e]; exact hp))
theorem IxR.or {X : Cx} {r r' : R2} (h : IxR X r) (h' : IxR X r') : IxR X (fun x y H Q => r x y H Q ∨ r' x y H Q) :=
  fun a b pins s σ H x y v u Q I rx ry q => q.elim (h a b pins s σ H x y v u Q I rx ry) (h' a b pins s σ H x y v u Q I rx ry)
/-! ### d[k] by values -/
def rDG : R2 := fun x y H Q => ∃ a v, x = .ref a ∧ DGet H a y (some v) ∧ Q v H
theorem ix_dict {X : Cx} (hu : X.A.units + 1 < cLine) : IxR X rDG := by
  intro value slice pins s σ H x y v u Q I rx ry h hs
  obtain ⟨a, z, rfl, g, q⟩ := h
  obtain rfl : v = Value.ref a := rx
  have hT := dict_typeIs I g
  unfold subscriptTail
  refine wpAny_bind ?_
  rw [getitemInPython_of_ne hT.not_modules]
  refine wpAny_bind (wpAny_specialOf hT PySem.F.slot_dict_getitem.lookup ?_)
  have last : wpAny (model X.prog X.w) X.A (subscripted slice false (.ref a) u) (fun r s3 => wpAny (model X.prog X.w) X.A (letTemporaryGo value (.ref a) r >>= fun _ => pure r) (EP X pins σ Q) X.xe s3) X.xe s := by
    rw [hs]
    exact wpAny_operating (wpAny_mono (d_getItem hu I g ry fun w' s3 I3 rw' => ⟨z, H, I3, rw', q⟩) (fun r s3 h3 => wpAny_bind (wpAny_letTemporaryGo (wpAny_pure h3))) fun _ _ x => x)
  first
    | exact wpAny_pure (wpAny_bind last)
    | exact wpAny_bind (wpAny_pure (wpAny_bind last))
    | exact wpAny_bind last
theorem od_dget {K : PySem.W.Frag} : OpD K rDG dGet := fun W ρ G H σ μ v w x y Q R hx hy hp => by
  unfold dGet at hp
  match e1 : dctOf x μ, e2 : keyD y with
  | none, _ => simp only [e1] at hp; exact hp.elim
  | some _, none => simp only [e1, e2] at hp; exact hp.elim
  | some kvs, some k =>
    simp only [e1, e2] at hp
    by_cases hk : allK kvs = true
    case neg => rw [if_neg hk] at hp; exact hp.elim
    rw [if_pos hk] at hp
    obtain ⟨a, o, vs, rfl, h1, h2, h3⟩ := dctOf_ok R hx e1
    obtain ⟨ls, rfl, hl⟩ := dK_of h2 h3 hk
    rcases prl_val (k := k) hl with ⟨_, q⟩ | ⟨v, z, q1, q2, q3⟩
    · rw [q] at hp; exact hp.elim
    · rw [q2] at hp
      exact ⟨a, v, rfl, .inl ⟨ls, k, h1, keyD_ok hy e2, q1.symm⟩, hp.okV R q3⟩
def dIxA : DV → DV → Mem → Res R := alt2 dIx dGet
theorem pm_idxA (K : PySem.W.Frag) {X : Cx} {W : WX} {a b : Expr} {ta tb : TE} {fa fb : EM} {pos : Pos} (hu : X.A.units + 64 < cLine) (ha : PM X W a ta fa) (hb : PM X W b tb fb) (hs : PlainIx b) (hK : X.K = K := by rfl) :
    PM X W (.Subscript a b pos) (tOp (fun x y H Q => rIx K x y H Q ∨ rDG x y H Q) ta tb) (eOp dIxA fa fb) := by
  subst hK; exact pm_ix (IxR.or ix_seq (ix_dict (by omega))) (OpD.alt od_ix od_dget) ha hb hs
/-! ### k in d, c in s by values -/
def rDI (neg : Bool) : R2 := fun y x H Q => ∃ a o, x = .ref a ∧ DGet H a y o ∧ Q (.bl (o.isSome != neg)) H
theorem op_din {X : Cx} (hu : X.A.units + 1 < cLine) : OpR X (compareOp .In) (rDI false) := by
  intro pins s σ H x y v u Q I rx ry h
  obtain ⟨a, o, rfl, g, q⟩ := h
  obtain rfl : u = Value.ref a := ry
  exact d_in hu I g rx fun s3 I3 => ⟨.bl o.isSome, H, I3, rfl, by simpa using q⟩
theorem op_dnin {X : Cx} (hu : X.A.units + 1 < cLine) : OpR X (compareOp .NotIn) (rDI true) := by
  intro pins s σ H x y v u Q I rx ry h
  obtain ⟨a, o, rfl, g, q⟩ := h
  obtain rfl : u = Value.ref a := ry
  exact d_notIn hu I g rx fun s3 I3 => ⟨.bl (!o.isSome), H, I3, rfl, by simpa using q⟩
theorem od_din {K : PySem.W.Frag} (neg : Bool) : OpD K (rDI neg) (dInD neg) := fun W ρ G H σ μ v w x y Q R hx hy hp => inD_ok R hx hy hp
def rSgn (neg : Bool) : R2 := fun x y H Q => ∃ (c : Nat) (z : Str), x = .str ⟨#[c]⟩ ∧ y = .str z ∧ Q (.bl (decide (c ∈ z.cps.toList) != neg)) H
theorem op_sgn {X : Cx} : OpR X (compareOp .In) (rSgn false) := fun pins s σ H x y v u Q I rx ry ⟨c, z, h1, h2, q⟩ => op_in_sign pins s σ H x y v u Q I rx ry ⟨c, z, h1, h2, by simpa using q⟩
theorem op_nsgn {X : Cx} : OpR X (compareOp .NotIn) (rSgn true) := fun pins s σ H x y v u Q I rx ry ⟨c, z, h1, h2, q⟩ => op_notIn_sign pins s σ H x y v u Q I rx ry ⟨c, z, h1, h2, by simpa using q⟩
def sgn : Str → Option Nat
  | ⟨⟨[c]⟩⟩ => some c
  | _ => none
def dSgn (neg : Bool) (x y : DV) (μ : Mem) : Res R := match (asStr x).bind sgn, asStr y with
  | some c, some z => .ok (.dat (.bl (decide (c ∈ z.cps.toList) != neg))) μ
  | _, _ => .bad
theorem sgn_ok {x : Str} {c : Nat} (h : sgn x = some c) : x = ⟨#[c]⟩ := by
  unfold sgn at h
  split at h
  · cases h; rfl
  · cases h
theorem od_sgn {K : PySem.W.Frag} (neg : Bool) : OpD K (rSgn neg) (dSgn neg) := fun W ρ G H σ μ v w x y Q R hx hy hp => by
  unfold dSgn at hp
  cases e1 : asStr x with
  | none => rw [e1] at hp; exact hp.elim
  | some a =>
    rw [e1] at hp
    simp only [Option.bind_some] at hp
    cases e3 : sgn a with
    | none => rw [e3] at hp; exact hp.elim
    | some c =>
      cases e2 : asStr y with
      | none => rw [e3, e2] at hp; exact hp.elim
      | some z =>
        rw [e3, e2] at hp
        have := asStr_ok hx e1
        rw [sgn_ok e3] at this
        exact ⟨c, z, this, asStr_ok hy e2, hp.okD R (.bl _)⟩
def dInA (neg : Bool) : DV → DV → Mem → Res R := alt2 (dIn neg) (alt2 (dInD neg) (dSgn neg))
def rInA (K : PySem.W.Frag) (neg : Bool) : R2 := fun x y H Q => rIn K neg x y H Q ∨ (fun x y H Q => rDI neg x y H Q ∨ rSgn neg x y H Q) x y H Q
theorem od_inA {K : PySem.W.Frag} (neg : Bool) : OpD K (rInA K neg) (dInA neg) := OpD.alt (od_in neg) (OpD.alt (od_din neg) (od_sgn neg))
theorem op_inA (K : PySem.W.Frag) {X : Cx} (hu : X.A.units + 64 < cLine) (hK : X.K = K := by rfl) : OpR X (compareOp .In) (rInA K false) := by subst hK; exact OpR.or op_in_seq (OpR.or (op_din (by omega)) op_sgn)
theorem op_ninA (K : PySem.W.Frag) {X : Cx} (hu : X.A.units + 64 < cLine) (hK : X.K = K := by rfl) : OpR X (compareOp .NotIn) (rInA K true) := by subst hK; exact OpR.or op_notIn_seq (OpR.or (op_dnin (by omega)) op_nsgn)
/-! ### ==, len, repr, list, ** -/
noncomputable def dEqA : DV → DV → Mem → Res R := alt2 dEq dSame
theorem od_eqA {K : PySem.W.Frag} : OpD K (fun x y H Q => rEqQ K x y H Q ∨ rSame K x y H Q) dEqA := OpD.alt od_eq od_same
theorem op_eqA (K : PySem.W.Frag) {X : Cx} (h : X.A.units + 64 < cLine) (hK : X.K = K := by rfl) : OpR X (compareOp .Eq) (fun x y H Q => rEqQ K x y H Q ∨ rSame K x y H Q) := by subst hK; exact OpR.or (op_eqQ h) (op_same h)
def dLenA : List DV → Mem → Res R := alt1 (d1 dLen) (d1 dLenK)
theorem call_lenA (K : PySem.W.Frag) {X : Cx} (hK : X.K = K := by rfl) : CallR X (.builtin "len") (fun xs H Q => (∃ x n, xs = [x] ∧ LenV K x H n ∧ Q (V.int ↑n) H) ∨ rLenK xs H Q) := CallR.or (call_lenK K hK) cr_lenK
theorem cd_lenA {K : PySem.W.Frag} : CallD K (fun xs H Q => (∃ x n, xs = [x] ∧ LenV K x H n ∧ Q (V.int (n : Nat)) H) ∨ rLenK xs H Q) dLenA := CallD.alt cd_len cd_lenK
def dReprA : List DV → Mem → Res R := alt1 (d1 dRepr) (d1 dReprD)
theorem cr_reprA (K : PySem.W.Frag) {X : Cx} {k : Nat} (h : Room k X.A) (hg : X.A.guards = some []) (hK : X.K = K := by rfl) : CallR X (.builtin "repr") (fun xs H Q => rRepr K xs H Q ∨ rReprD K xs H Q) := CallR.or (cr_reprK K h hg hK) (cr_reprDK K h hg hK)
theorem cd_reprA {K : PySem.W.Frag} : CallD K (fun xs H Q => rRepr K xs H Q ∨ rReprD K xs H Q) dReprA := CallD.alt cd_repr cd_reprD
def dListA : List DV → Mem → Res R := alt1 (d1 dList) (d1 dListK)
theorem call_listA (K : PySem.W.Frag) {X : Cx} (hc : X.calm = true) (hK : X.K = K := by rfl) : CallR X (.type "list") (fun xs H Q => (∃ p ys, xs = [V.ref p] ∧ (SqL K H p ys ∨ SqT K H p ys) ∧ ∀ (l : Addr), H l = none → Q (V.ref l) (upd H l (HO.lst ys))) ∨ rListK xs H Q) := CallR.or (call_list_ofK K hK) (call_listDK hc)
theorem cd_listA {K : PySem.W.Frag} : CallD K (fun xs H Q => (∃ p ys, xs = [V.ref p] ∧ (SqL K H p ys ∨ SqT K H p ys) ∧ ∀ (l : Addr), H l = none → Q (V.ref l) (upd H l (HO.lst ys))) ∨ rListK xs H Q) dListA := CallD.alt cd_list cd_listK
def dPow : DV → DV → Mem → Res R := d2I (fun i j => decide (0 ≤ j ∧ j ≤ 1000000 ∧ i.natAbs < 2 ^ 64)) fun i j => .int (i ^ j.toNat)
theorem od_pow {K : PySem.W.Frag} : OpD K (rI (fun i j => 0 ≤ j ∧ j ≤ 1000000 ∧ i.natAbs < 2 ^ 64) fun i j => V.int (i ^ j.toNat)) dPow := od_I (fun i j h => of_decide_eq_true h) fun _ _ _ => .int _
/-! ### walks -/
theorem pi_or {X : Cx} {tg e : Expr} {w1 w2 : TI} (h1 : PI X tg e w1) (h2 : PI X tg e w2) : PI X tg e (fun σ H R => w1 σ H R ∨ w2 σ H R) := ⟨fun pins s σ H R I h => h.elim (h1.run pins s σ H R I) (h2.run pins s σ H R I)⟩
def altI (f g : IM) : IM := fun δ μ => altR (f δ μ) (g δ μ)
theorem snd_altI {K : PySem.W.Frag} {W : WX} {w1 w2 : TI} {f g : IM} (h1 : SndI K W w1 f) (h2 : SndI K W w2 g) : SndI K W (fun σ H R => w1 σ H R ∨ w2 σ H R) (altI f g) := fun ρ G H σ δ μ Q R E hp => by
  unfold altI altR at hp
  cases e : f δ μ with
  | bad => rw [e] at hp; exact .inr (h2 ρ G H σ δ μ Q R E hp)
  | ok a m => rw [e] at hp; exact .inl (h1 ρ G H σ δ μ Q R E (by rw [e]; exact hp))
  | exc a m => rw [e] at hp; exact .inl (h1 ρ G H σ δ μ Q R E (by rw [e]; exact hp))
theorem mi_or {X : Cx} {W : WX} {tg e : Expr} {w1 w2 : TI} {f g : IM} (h1 : PMI X W tg e w1 f) (h2 : PMI X W tg e w2 g) : PMI X W tg e (fun σ H R => w1 σ H R ∨ w2 σ H R) (altI f g) := ⟨pi_or h1.pi h2.pi, snd_altI h1.sd h2.sd⟩
/-! ### d.get, d[k] = v with the room as it is given -/
theorem pm_dg1 {X : Cx} {W : WX} {o e : Expr} {td ty : TE} {fd fy : EM} {apos cpos : Pos} (hu : X.A.units + 64 < cLine) (hd : PM X W o td fd) (hy : PM X W e ty fy) (m : M1 X o "get" apos e cpos := by exact ⟨rfl, rfl, rfl, rfl⟩) :
    PM X W (.Call (.Attribute o "get" apos) [e] [] cpos) (tDGet1 td ty) (eDGet1 fd fy) := pm_dget1 (by omega) hd hy m
theorem sm_dpt {X : Cx} {W : WX} {o i e : Expr} {to ti te : TE} {fo fi fe : EM} {pos pos' : Pos} (hu : X.A.units + 64 < cLine) (ho : PM X W o to fo) (hi : PM X W i ti fi) (hv : PM X W e te fe) (hs : swapsWith e (some (.Subscript o i pos')) pos.line X.env = pure false := by rfl) :
    PSM X W (.Assign [.Subscript o i pos'] e pos) (sDPut to ti te) (gDPut fo fi fe) := sm_dput (by omega) ho hi hv hs
/-! ### try with what the body's reading rests on -/
theorem takesT {X : Cx} {W : WX} {pn : List (Addr × Obj)} : Takes (X.tr pn fun _ _ => True) W := fun _ _ _ => trivial
/-! ### statements -/
theorem ps_or {X : Cx} {st : Stmt} {t u : TS} (h1 : PS X st t) (h2 : PS X st u) : PS X st (fun D σ H => t D σ H ∨ u D σ H) := ⟨fun pins s σ H D I h => h.elim (h1.run pins s σ H D I) (h2.run pins s σ H D I)⟩
def altS (f g : SM) : SM := fun N δ μ => match f N δ μ with
  | .bad => g N δ μ
  | o => o
theorem snd_altS {K : PySem.W.Frag} {W : WX} {t u : TS} {f g : SM} (h1 : SndS K W t f) (h2 : SndS K W u g) : SndS K W (fun D σ H => t D σ H ∨ u D σ H) (altS f g) := fun N ρ G H σ δ μ D R E hp => by
  unfold altS at hp
  cases e : f N δ μ with
  | bad => rw [e] at hp; exact .inr (h2 N ρ G H σ δ μ D R E hp)
  | _ => rw [e] at hp; exact .inl (h1 N ρ G H σ δ μ D R E (by rw [e]; exact hp))
theorem sm_or {X : Cx} {W : WX} {st : Stmt} {t u : TS} {f g : SM} (h1 : PSM X W st t f) (h2 : PSM X W st u g) : PSM X W st (fun D σ H => t D σ H ∨ u D σ H) (altS f g) := ⟨ps_or h1.ps h2.ps, snd_altS h1.sd h2.sd⟩
end DL
namespace DL
open PySem PySem.Spec PyProof.Rows L2
/-- an exception in a try's body: noted, then on the ground -/
abbrev xeL (X : Cx) : Value → Shared → Prop := fun e s1 => wpAny (model X.prog X.w) X.A (noteFrame e X.env) (fun _ s2 => wpAny (model X.prog X.w) X.A (setFlight e none) (fun _ _ => True) (fun _ _ => True) s2) (fun _ _ => True) s1
theorem takesL {X : Cx} {W : WX} {pn : List (Addr × Obj)} (hs : X.stack = X.env :: X.outer) (hf : X.env.frame = some X.env.locals) : Takes (X.tr pn (xeL X)) W := fun u s' xx => by
  obtain ⟨a, B, sI, pins, σ, H, cls, d, rfl, J, nb, up, sky, na, os, ag, w⟩ := xx
  have fr : X.A.frames = some (X.env :: X.outer) := by rw [← hs]; exact J.ok.frames
  have sky' : Sky B (X.env :: X.outer) a (Zc cls d) X.env.locals s'.heap := by rw [← hs]; exact sky
  exact Sky.land Zc.steady fr hf sky' fun _ _ _ => trivial
theorem sm_try2 {X : Cx} {W : WX} {x n : Str} {c : Value} {i : Nat} {body suite : List Stmt} {b₀ : Stmt} {np pos pos' : Pos} {tb : WX → TS} {ts : Addr → Addr → Addr → TS} {gb : SM} {gs : Addr → Addr → Addr → SM} {cat : List (Str × Bool)}
    (hs : X.stack = X.env :: X.outer) (hf : X.env.frame = some X.env.locals) (hN : X.N.Nodup) (hi : X.N[i]? = some n) (hln : X.env.kindOf n = some .local) (hc : Names X x c) (tk : Takes X W) (hcat : CatOk X.K c cat)
    (hb : ∀ (W' : WX) (pn : List (Addr × Obj)) (xe : Value → Shared → Prop), Takes (X.tr pn xe) W' → PassesOwn (model X.prog X.w) X.A X.env xe → PSMs (X.tr pn xe) W' body (tb W') gb)
    (hsu : ∀ (a : Addr) (oe : Obj) (C dd : Addr) (pn : List (Addr × Obj)), Zc (.ref C) (some dd) oe → (∃ vs, oe.data = .fields vs) → PSMs (X.suite a ((a, oe) :: pn)) W (b₀ :: suite) (ts a C dd) (gs a C dd)) :
    PSM X W (.Try body [.ExceptHandler (some (.Name x np)) (some n) (b₀ :: suite) pos'] [] [] pos) (fun D σ H => tb (wAs X.K c i (tsOf ts) W D) D σ H) (gTry cat i gb gs) :=
  sm_try hs hf hN hi hln hc tk hcat hb (fun W' => (hb W' [] (xeL X) (takesL hs hf) PassesOwn.looking).sd) hsu
end DL
/-! Symbolic execution of the plain functions: what holds of what they give. -/
namespace DL
open PySem PySem.Spec PyProof.Rows L2
def Sat {α : Type} (r : Res α) (Q : α → Mem → Prop) (E : Xc → Mem → Prop) : Prop := match r with
  | .ok a μ => Q a μ
  | .exc x μ => E x μ
  | .bad => False
structure PO where
  nx : Env → Mem → Prop
  rt : R → Mem → Prop
  bk : Env → Mem → Prop
  ct : Env → Mem → Prop
  ex : Xc → Env → Mem → Prop
def SatS (o : Out) (P : PO) : Prop := match o with
  | .next δ μ => P.nx δ μ
  | .ret r μ => P.rt r μ
  | .brk δ μ => P.bk δ μ
  | .cnt δ μ => P.ct δ μ
  | .exc x δ μ => P.ex x δ μ
  | .bad => False
def TupK (xs : List DV) (Q : D → Prop) : Prop := ∃ ds, allDat xs = some ds ∧ ds.length ≤ sizeLine ∧ Q (.tup ds)
def SeqK (x : DV) (Q : List D → Prop) : Prop := ∃ ds, seqD x = some ds ∧ Q ds
def IntK (x : DV) (Q : Int → Prop) : Prop := ∃ i, asI x = some i ∧ Q i
def StrK (x : DV) (Q : Str → Prop) : Prop := ∃ i, asStr x = some i ∧ Q i
def ParK (xs : List DV) (Q : DV → DV → Prop) : Prop := ∃ x y, xs = [x, y] ∧ Q x y
def TgtK (h : D → Env → Option Env) (δ : Env) (x : DV) (Q : Env → Prop) : Prop := ∃ d δ', x = .dat d ∧ h d δ = some δ' ∧ Q δ'
section
variable {α β : Type} {Q : α → Mem → Prop} {QR : R → Mem → Prop} {QV : DV → Mem → Prop} {QA : List DV → Mem → Prop} {QB : Bool → Mem → Prop} {QO : Option Int → Mem → Prop} {QI : List D → Mem → Prop} {E : Xc → Mem → Prop} {P : PO} {δ : Env} {μ : Mem} {N : Nat}
theorem Sat.mono {r : Res α} {Q' : α → Mem → Prop} {E' : Xc → Mem → Prop} (h : Sat r Q E) (hq : ∀ a μ, Q a μ → Q' a μ) (he : ∀ x μ, E x μ → E' x μ) : Sat r Q' E' := by
  cases r with
  | ok a μ => exact hq a μ h
  | exc x μ => exact he x μ h
  | bad => exact h
theorem Sat.of_eq {r : Res α} {a : α} (e : r = .ok a μ) (h : Q a μ) : Sat r Q E := by rw [e]; exact h
theorem Sat.eq {r : Res α} {a : α} (h : Sat r (fun x μ' => x = a ∧ μ' = μ) (fun _ _ => False)) : r = .ok a μ := by
  cases r with
  | ok b μ1 => obtain ⟨rfl, rfl⟩ := h; rfl
  | exc x μ1 => exact h.elim
  | bad => exact h.elim
theorem sat_bind {r : Res α} {k : α → Mem → Res β} {Q' : β → Mem → Prop} (h : Sat r (fun a μ => Sat (k a μ) Q' E) E) : Sat (r.bind k) Q' E := by
  cases r with
  | ok a μ => exact h
  | exc x μ => exact h
  | bad => exact h
theorem sat_lift {r : Res α} {k : α → Mem → Out} (h : Sat r (fun a μ => SatS (k a μ) P) (fun x μ => P.ex x δ μ)) : SatS (lift r δ k) P := by
  cases r with
  | ok a μ => exact h
  | exc x μ => exact h
  | bad => exact h
/-! ### expressions -/
def FzK (r : R) (μ : Mem) (QV : DV → Mem → Prop) : Prop := match frz r with
  | some x => QV x μ
  | none => False
theorem x_fz {f : EM} (h : Sat (f δ μ) (fun r μ' => FzK r μ' QV) E) : Sat (frzV f δ μ) QV E := by
  refine sat_bind (h.mono (fun r μ' q => ?_) fun _ _ q => q)
  unfold FzK at q
  cases e : frz r with
  | none => rw [e] at q; exact q.elim
  | some x => rw [e] at q; exact q
theorem z_dat {d : D} (h : QV (.dat d) μ) : FzK (.dat d) μ QV := h
theorem z_loc {n : Nat} (h : QV (.loc n) μ) : FzK (.loc n) μ QV := h
theorem z_ofV {x : DV} (h : QV x μ) : FzK (ofV x) μ QV := by unfold FzK; rw [frz_ofV]; exact h
theorem z_nl {xs : List DV} {ds : List D} (e : allDat xs = some ds) (h : QV (.dat (.lst ds)) μ) : FzK (.nl xs) μ QV := by unfold FzK frz; simp only; rw [e]; exact h
theorem z_nlm {ds : List D} (h : QV (.dat (.lst ds)) μ) : FzK (.nl (ds.map DV.dat)) μ QV := z_nl (allDat_map ds) h
theorem allDat_mapf {γ : Type} (f : γ → D) (ys : List γ) : allDat (ys.map fun y => .dat (f y)) = some (ys.map f) := by
  have := allDat_map (ys.map f); rw [List.map_map] at this; exact this
theorem z_nlf {γ : Type} {f : γ → D} {ys : List γ} (h : QV (.dat (.lst (ys.map f))) μ) : FzK (.nl (ys.map fun y => .dat (f y))) μ QV := z_nl (allDat_mapf f ys) h
theorem z_nlc {γ : Type} {f : γ → D} {ys : List γ} (h : QV (.dat (.lst (ys.map f))) μ) : FzK (.nl (ys.map (DV.dat ∘ f))) μ QV := z_nl (allDat_mapf f ys) h
theorem v_var {i : Nat} {x : DV} (e : δ[i]? = some (some x)) (h : QV x μ) : Sat (frzV (eVar i) δ μ) QV E := by rw [fz_var e]; exact h
theorem v_D {d : D} (h : QV (.dat d) μ) : Sat (frzV (eD d) δ μ) QV E := h
theorem x_var {i : Nat} {x : DV} (e : δ[i]? = some (some x)) (h : QR (ofV x) μ) : Sat (eVar i δ μ) QR E := by rw [ev_var e]; exact h
theorem x_D {d : D} (h : QR (.dat d) μ) : Sat (eD d δ μ) QR E := h
theorem a_nilK (h : QA [] μ) : Sat (aNil δ μ) QA E := h
theorem a_consK {f : EM} {g : AM} (h : Sat (frzV f δ μ) (fun x μ1 => Sat (g δ μ1) (fun xs μ2 => QA (x :: xs) μ2) E) E) : Sat (aCons f g δ μ) QA E :=
  sat_bind (h.mono (fun x μ1 q => sat_bind q) fun _ _ q => q)
theorem x_tup {g : AM} (h : Sat (g δ μ) (fun xs μ1 => TupK xs fun d => QR (.dat d) μ1) E) : Sat (eTup g δ μ) QR E := by
  refine sat_bind (h.mono (fun xs μ1 q => ?_) fun _ _ q => q)
  obtain ⟨ds, e, hl, q⟩ := q
  rw [e]; simp only; rw [if_pos hl]; exact q
theorem x_lst {g : AM} (h : Sat (g δ μ) (fun xs μ1 => xs.length ≤ sizeLine ∧ QR (.nl xs) μ1) E) : Sat (eLst g δ μ) QR E := by
  refine sat_bind (h.mono (fun xs μ1 q => ?_) fun _ _ q => q)
  rw [if_pos q.1]; exact q.2
theorem x_op {g : DV → DV → Mem → Res R} {fa fb : EM} (h : Sat (frzV fa δ μ) (fun x μ1 => Sat (frzV fb δ μ1) (fun y μ2 => Sat (g x y μ2) QR E) E) E) : Sat (eOp g fa fb δ μ) QR E :=
  sat_bind (h.mono (fun x μ1 q => sat_bind q) fun _ _ q => q)
theorem x_cb {g : List DV → Mem → Res R} {fa : AM} (h : Sat (fa δ μ) (fun xs μ1 => Sat (g xs μ1) QR E) E) : Sat (eCB g fa δ μ) QR E := sat_bind h
theorem x_un {g : DV → Mem → Res R} {f : EM} (h : Sat (frzV f δ μ) (fun x μ1 => Sat (g x μ1) QR E) E) : Sat (eUn g f δ μ) QR E := sat_bind h
theorem x_bm {c : DV → Mem → Bool} {g : DV → List DV → Mem → Res R} {f : EM} {fa : AM} (h : Sat (frzV f δ μ) (fun x μ1 => c x μ1 = true ∧ Sat (fa δ μ1) (fun xs μ2 => Sat (g x xs μ2) QR E) E) E) : Sat (eBM c g f fa δ μ) QR E := by
  refine sat_bind (h.mono (fun x μ1 q => ?_) fun _ _ q => q)
  rw [if_pos q.1]; exact sat_bind q.2
theorem x_bm0 {c : DV → Mem → Bool} {g : DV → List DV → Mem → Res R} {f : EM} (h : Sat (frzV f δ μ) (fun x μ1 => c x μ1 = true ∧ Sat (g x [] μ1) QR E) E) : Sat (eBM0 c g f δ μ) QR E := by
  refine sat_bind (h.mono (fun x μ1 q => ?_) fun _ _ q => q)
  rw [if_pos q.1]; exact q.2
def BlK (r : R) (μ : Mem) (QB : Bool → Mem → Prop) : Prop := match asB r with
  | some b => QB b μ
  | none => False
theorem b_bl {b : Bool} (h : QB b μ) : BlK (.dat (.bl b)) μ QB := h
theorem BlK.ex {r : R} (h : BlK r μ QB) : ∃ b, r = .dat (.bl b) ∧ asB r = some b ∧ QB b μ := by
  unfold BlK at h
  match r with
  | .dat (.bl b) => exact ⟨b, rfl, rfl, h⟩
  | .dat .non => exact h.elim
  | .dat (.int _) => exact h.elim
  | .dat (.str _) => exact h.elim
  | .dat (.ty _) => exact h.elim
  | .dat (.ref _) => exact h.elim
  | .dat (.tup _) => exact h.elim
  | .dat (.lst _) => exact h.elim
  | .dat (.fro _) => exact h.elim
  | .dat (.dct _) => exact h.elim
  | .dat (.ins _ _) => exact h.elim
  | .loc _ => exact h.elim
  | .nl _ => exact h.elim
  | .nk _ => exact h.elim
theorem t_B {f : EM} (h : Sat (f δ μ) (fun r μ' => BlK r μ' QB) E) : Sat (tmB f δ μ) QB E := by
  refine sat_bind (h.mono (fun r μ1 q => ?_) fun _ _ q => q)
  obtain ⟨b, rfl, _, q⟩ := q.ex; exact q
theorem t_not {f : TM} (h : Sat (f δ μ) (fun b μ' => QB (!b) μ') E) : Sat (tmNot f δ μ) QB E := sat_bind h
theorem t_and {f g : TM} (h : Sat (f δ μ) (fun b μ' => if b = true then Sat (g δ μ') QB E else QB false μ') E) : Sat (tmAnd f g δ μ) QB E := by
  refine sat_bind (h.mono (fun b μ1 q => ?_) fun _ _ q => q)
  cases b <;> exact q
theorem t_or {f g : TM} (h : Sat (f δ μ) (fun b μ' => if b = true then QB true μ' else Sat (g δ μ') QB E) E) : Sat (tmOr f g δ μ) QB E := by
  refine sat_bind (h.mono (fun b μ1 q => ?_) fun _ _ q => q)
  cases b <;> exact q
theorem t_yes (h : QB true μ) : Sat (tmYes δ μ) QB E := h
theorem x_and {f g : EM} (h : Sat (f δ μ) (fun r μ' => BlK r μ' fun b μ' => if b = true then Sat (g δ μ') QR E else QR (.dat (.bl false)) μ') E) : Sat (eAnd f g δ μ) QR E := by
  refine sat_bind (h.mono (fun r μ1 q => ?_) fun _ _ q => q)
  obtain ⟨b, rfl, _, q⟩ := q.ex; cases b <;> exact q
theorem x_or {f g : EM} (h : Sat (f δ μ) (fun r μ' => BlK r μ' fun b μ' => if b = true then QR (.dat (.bl true)) μ' else Sat (g δ μ') QR E) E) : Sat (eOr f g δ μ) QR E := by
  refine sat_bind (h.mono (fun r μ1 q => ?_) fun _ _ q => q)
  obtain ⟨b, rfl, _, q⟩ := q.ex; cases b <;> exact q
theorem x_not {f : EM} (h : Sat (f δ μ) (fun r μ' => BlK r μ' fun b μ' => QR (.dat (.bl (!b))) μ') E) : Sat (eNot f δ μ) QR E := by
  refine sat_bind (h.mono (fun r μ1 q => ?_) fun _ _ q => q)
  obtain ⟨b, rfl, _, q⟩ := q.ex; exact q
theorem x_if {f : TM} {g h : EM} (k : Sat (f δ μ) (fun b μ' => if b = true then Sat (g δ μ') QR E else Sat (h δ μ') QR E) E) : Sat (eIf f g h δ μ) QR E := by
  refine sat_bind (k.mono (fun b μ1 q => ?_) fun _ _ q => q)
  cases b <;> exact q
theorem x_isN {f : EM} (h : Sat (frzV f δ μ) (fun x μ' => QR (.dat (.bl (isNon x))) μ') E) : Sat (eIsN f δ μ) QR E := sat_bind h
theorem x_notN {f : EM} (h : Sat (frzV f δ μ) (fun x μ' => QR (.dat (.bl (!isNon x))) μ') E) : Sat (eNotN f δ μ) QR E := sat_bind h
theorem o_noneK (h : QO none μ) : Sat (oNone δ μ) QO E := h
theorem o_someK {f : EM} (h : Sat (frzV f δ μ) (fun x μ' => IntK x fun i => QO (some i) μ') E) : Sat (oSome f δ μ) QO E := by
  refine sat_bind (h.mono (fun x μ1 q => ?_) fun _ _ q => q)
  obtain ⟨i, e, q⟩ := q; rw [e]; exact q
theorem x_sl {f : EM} {lo hi : OM} (h : Sat (frzV f δ μ) (fun x μ1 => Sat (lo δ μ1) (fun l μ2 => Sat (hi δ μ2) (fun u μ3 => Sat (dSl x l u μ3) QR E) E) E) E) : Sat (eSl f lo hi δ μ) QR E :=
  sat_bind (h.mono (fun _ _ q => sat_bind (q.mono (fun _ _ q => sat_bind q) fun _ _ q => q)) fun _ _ q => q)
theorem x_chain {g g' : DV → DV → Mem → Res R} {fa fb fc : EM} (h : Sat (frzV fa δ μ) (fun x μ1 => Sat (frzV fb δ μ1) (fun y μ2 => Sat (g x y μ2) (fun r μ3 => BlK r μ3 fun b μ3 => if b = true then Sat (frzV fc δ μ3) (fun z μ4 => Sat (g' y z μ4) QR E) E else QR (.dat (.bl false)) μ3) E) E) E) :
    Sat (eChain g g' fa fb fc δ μ) QR E := by
  refine sat_bind (h.mono (fun _ _ q => sat_bind (q.mono (fun _ _ q => sat_bind (q.mono (fun r _ q => ?_) fun _ _ q => q)) fun _ _ q => q)) fun _ _ q => q)
  obtain ⟨b, rfl, _, q⟩ := q.ex; cases b
  · exact q
  · exact sat_bind q
theorem x_inK {neg : Bool} {ks : List Str} {f : EM} (h : Sat (frzV f δ μ) (fun x μ' => StrK x fun z => QR (.dat (.bl (if neg = true then !(ks.any fun k => decide (k = z)) else ks.any fun k => decide (k = z)))) μ') E) : Sat (eInK neg ks f δ μ) QR E := by
  refine sat_bind (h.mono (fun x μ1 q => ?_) fun _ _ q => q)
  obtain ⟨i, e, q⟩ := q; rw [e]; exact q
/-! ### what is walked -/
theorem i_seq {f : EM} (h : Sat (frzV f δ μ) (fun x μ' => SeqK x fun ds => QI ds μ') E) : Sat (imSeq f δ μ) QI E := by
  refine sat_bind (h.mono (fun x μ1 q => ?_) fun _ _ q => q)
  obtain ⟨ds, e, q⟩ := q; rw [e]; exact q
theorem i_enum {f : EM} (h : Sat (frzV f δ μ) (fun x μ' => SeqK x fun ds => QI (enumD 0 ds) μ') E) : Sat (imEnum (aCons f aNil) δ μ) QI E := by
  refine sat_bind (sat_bind (h.mono (fun x μ1 q => ?_) fun _ _ q => q))
  obtain ⟨ds, e, q⟩ := q
  show Sat (match seqD x with | some ds => _ | none => _) _ _
  rw [e]; exact q
theorem i_rng {f : EM} (h : Sat (frzV f δ μ) (fun x μ' => IntK x fun j => (-2 ^ 62 ≤ j ∧ j < 2 ^ 62) ∧ QI (rngD 0 j.toNat) μ') E) : Sat (imRng (aCons f aNil) δ μ) QI E := by
  refine sat_bind (sat_bind (h.mono (fun x μ1 q => ?_) fun _ _ q => q))
  obtain ⟨j, e, hj, q⟩ := q
  show Sat (match asI x with | some j => _ | none => _) _ _
  rw [e]; simp only; rw [if_pos hj]; exact q
theorem i_rng2 {f g : EM} (h : Sat (frzV f δ μ) (fun x μ1 => Sat (frzV g δ μ1) (fun y μ' => IntK x fun i => IntK y fun j => (-2 ^ 62 ≤ i ∧ i < 2 ^ 62 ∧ -2 ^ 62 ≤ j ∧ j < 2 ^ 62) ∧ QI (rngD i (j - i).toNat) μ') E) E) : Sat (imRng2 (aCons f (aCons g aNil)) δ μ) QI E := by
  refine sat_bind (sat_bind (h.mono (fun x μ1 q => sat_bind (sat_bind (q.mono (fun y μ2 q => ?_) fun _ _ q => q))) fun _ _ q => q))
  obtain ⟨i, e, j, e2, hj, q⟩ := q
  show Sat (match asI x, asI y with | some i, some j => _ | _, _ => _) _ _
  rw [e, e2]; simp only; rw [if_pos hj]; exact q
/-! ### comprehensions -/
theorem x_lc {fi : IM} {h : D → Env → Option Env} {ft : TM} {fe : EM} {vs : List Nat} (k : Sat (fi δ μ) (fun ds μ1 => ds.length ≤ sizeLine ∧ Sat (lcL h ft fe (wipeE δ vs) ds μ1) (fun ys μ2 => QR (.nl ys) μ2) E) E) : Sat (eLc fi h ft fe vs δ μ) QR E := by
  refine sat_bind (k.mono (fun ds μ1 q => ?_) fun _ _ q => q)
  rw [if_pos q.1]; exact sat_bind q.2
/-- each item without a change of the memory; xs: what the items stand for -/
theorem lc_mapK {γ : Type} {h : D → Env → Option Env} {fe : EM} {xs : List γ} {enc : γ → D} (y : γ → D) (hx : ∀ x ∈ xs, ∃ δ1, h (enc x) δ = some δ1 ∧ Sat (frzV fe δ1 μ) (fun r μ' => r = .dat (y x) ∧ μ' = μ) (fun _ _ => False)) (hq : QA (xs.map fun x => .dat (y x)) μ) : Sat (lcL h tmYes fe δ (xs.map enc) μ) QA E := by
  have : lcL h tmYes fe δ (xs.map enc) μ = .ok (xs.map fun x => .dat (y x)) μ := by
    clear hq
    induction xs with
    | nil => rfl
    | cons x xs ih =>
      obtain ⟨δ1, h1, h2⟩ := hx x List.mem_cons_self
      have h2 := h2.eq
      simp only [List.map_cons, lcL, h1, tmYes, h2, ih fun z hz => hx z (List.mem_cons_of_mem _ hz), Res.bind]
  rw [this]; exact hq
theorem lc_filK {γ : Type} {h : D → Env → Option Env} {ft : TM} {fe : EM} {xs : List γ} {enc : γ → D} (c : γ → Bool) (y : γ → D) (hx : ∀ x ∈ xs, ∃ δ1, h (enc x) δ = some δ1 ∧ Sat (ft δ1 μ) (fun b μ' => b = c x ∧ μ' = μ) (fun _ _ => False) ∧ (c x = true → Sat (frzV fe δ1 μ) (fun r μ' => r = .dat (y x) ∧ μ' = μ) (fun _ _ => False))) (hq : QA ((xs.filter c).map fun x => .dat (y x)) μ) : Sat (lcL h ft fe δ (xs.map enc) μ) QA E := by
  have : lcL h ft fe δ (xs.map enc) μ = .ok ((xs.filter c).map fun x => .dat (y x)) μ := by
    clear hq
    induction xs with
    | nil => rfl
    | cons x xs ih =>
      obtain ⟨δ1, h1, h2, h3⟩ := hx x List.mem_cons_self
      have h2 := h2.eq
      have ih := ih fun z hz => hx z (List.mem_cons_of_mem _ hz)
      cases hc : c x with
      | true =>
        have h3 := (h3 hc).eq
        simp only [List.map_cons, lcL, h1, h2, hc, h3, ih, Res.bind, List.filter_cons, if_pos]
      | false => simp [lcL, h1, h2, hc, ih, List.filter_cons]
  rw [this]; exact hq
/-- items by an invariant of the memory -/
theorem lc_inv {h : D → Env → Option Env} {ft : TM} {fe : EM} {ds : List D} (I : List DV → Mem → Prop) (h0 : I [] μ)
    (ht : ∀ d ∈ ds, ∀ ys μ, I ys μ → ∃ δ1, h d δ = some δ1 ∧ Sat (ft δ1 μ) (fun b μ1 => if b = true then Sat (frzV fe δ1 μ1) (fun y μ2 => I (ys ++ [y]) μ2) (fun _ _ => False) else I ys μ1) (fun _ _ => False)) (hq : ∀ ys μ, I ys μ → QA ys μ) : Sat (lcL h ft fe δ ds μ) QA E := by
  have key : ∀ (es : List D), (∀ d ∈ es, d ∈ ds) → ∀ zs μ, I zs μ → Sat (lcL h ft fe δ es μ) (fun ys μ' => I (zs ++ ys) μ') (fun _ _ => False) := by
    intro es
    induction es with
    | nil => intro _ zs μ hz; show I (zs ++ []) μ; rw [List.append_nil]; exact hz
    | cons d es ih =>
      intro hm zs μ hz
      obtain ⟨δ1, h1, h2⟩ := ht d (hm d List.mem_cons_self) zs μ hz
      simp only [lcL, h1]
      cases e : ft δ1 μ with
      | ok b μ1 =>
        rw [e] at h2
        cases b with
        | true =>
          simp only at h2 ⊢
          have h2 : Sat (frzV fe δ1 μ1) (fun y μ2 => I (zs ++ [y]) μ2) (fun _ _ => False) := h2
          cases e2 : frzV fe δ1 μ1 with
          | ok y μ2 =>
            rw [e2] at h2
            refine sat_bind ((ih (fun x hx => hm x (List.mem_cons_of_mem _ hx)) (zs ++ [y]) μ2 h2).mono (fun ys μ3 q => ?_) fun _ _ q => q)
            show I (zs ++ y :: ys) μ3
            rw [List.append_cons]; exact q
          | exc x μ2 => rw [e2] at h2; exact h2.elim
          | bad => rw [e2] at h2; exact h2.elim
        | false => exact ih (fun x hx => hm x (List.mem_cons_of_mem _ hx)) zs μ1 h2
      | exc x μ1 => rw [e] at h2; exact h2.elim
      | bad => rw [e] at h2; exact h2.elim
  exact (key ds (fun _ h => h) [] μ h0).mono (fun ys μ' q => hq ys μ' q) fun _ _ q => q.elim
/-! ### statements -/
theorem s_seq {g h : SM} (k : SatS (g N δ μ) { P with nx := fun δ μ => SatS (h N δ μ) P }) : SatS (gSeq g h N δ μ) P := by
  unfold gSeq
  cases e : g N δ μ <;> rw [e] at k <;> exact k
theorem s_next (h : P.nx δ μ) : SatS (gNext N δ μ) P := h
theorem s_asg {i : Nat} {f : EM} (h : Sat (frzV f δ μ) (fun x μ' => P.nx (δ.set i (some x)) μ') (fun x μ => P.ex x δ μ)) : SatS (gAsg i f N δ μ) P := sat_lift h
theorem s_drop {f : EM} (h : Sat (f δ μ) (fun _ μ' => P.nx δ μ') (fun x μ => P.ex x δ μ)) : SatS (gDrop f N δ μ) P := sat_lift h
theorem s_ret {f : EM} (h : Sat (f δ μ) (fun r μ' => P.rt r μ') (fun x μ => P.ex x δ μ)) : SatS (gRet f N δ μ) P := sat_lift h
theorem s_if {f : TM} {g h : SM} (k : Sat (f δ μ) (fun b μ' => if b = true then SatS (g N δ μ') P else SatS (h N δ μ') P) (fun x μ => P.ex x δ μ)) : SatS (gIf f g h N δ μ) P := by
  refine sat_lift (k.mono (fun b μ' q => ?_) fun _ _ q => q)
  cases b <;> exact q
theorem s_brk (h : P.bk δ μ) : SatS (gBrk N δ μ) P := h
theorem s_cnt (h : P.ct δ μ) : SatS (gCnt N δ μ) P := h
theorem s_new {i : Nat} {f : EM} (h : Sat (f δ μ) (fun r μ' => SatS (bindR N i r δ μ') P) (fun x μ => P.ex x δ μ)) : SatS (gNew i f N δ μ) P := sat_lift h
theorem r_dat {i : Nat} {d : D} (h : P.nx (δ.set i (some (.dat d))) μ) : SatS (bindR N i (.dat d) δ μ) P := h
theorem r_loc {i n : Nat} (h : P.nx (δ.set i (some (.loc n))) μ) : SatS (bindR N i (.loc n) δ μ) P := h
theorem r_nl {i : Nat} {xs : List DV} (hN : N ≤ μ.length) (h : P.nx (δ.set i (some (.loc μ.length))) (μ ++ [.lst xs])) : SatS (bindR N i (.nl xs) δ μ) P := by
  unfold bindR; simp only; rw [if_pos hN]; exact h
theorem s_tgt {h : D → Env → Option Env} {f : EM} (k : Sat (frzV f δ μ) (fun x μ' => TgtK h δ x fun δ' => P.nx δ' μ') (fun x μ => P.ex x δ μ)) : SatS (gTgt h f N δ μ) P := by
  refine sat_lift (k.mono (fun x μ' q => ?_) fun _ _ q => q)
  obtain ⟨d, δ', rfl, e, q⟩ := q
  simp only; rw [e]; exact q
theorem s_par {i j : Nat} {fa : AM} (h : Sat (fa δ μ) (fun xs μ' => ParK xs fun x y => P.nx ((δ.set i (some x)).set j (some y)) μ') (fun x μ => P.ex x δ μ)) : SatS (gPar i j fa N δ μ) P := by
  refine sat_lift (h.mono (fun xs μ' q => ?_) fun _ _ q => q)
  obtain ⟨x, y, rfl, q⟩ := q; exact q
theorem s_par2 {i j : Nat} {f g : EM} (h : Sat (f δ μ) (fun r μ1 => ∃ δ1 μ2, bindR N i r δ μ1 = .next δ1 μ2 ∧ Sat (g δ μ2) (fun r2 μ3 => SatS (bindR N j r2 δ1 μ3) P) (fun x μ => P.ex x δ μ)) (fun x μ => P.ex x δ μ)) : SatS (gPar2 i j f g N δ μ) P := by
  refine sat_lift (h.mono (fun r μ' q => ?_) fun _ _ q => q)
  obtain ⟨δ1, μ2, e, q⟩ := q
  rw [e]; exact sat_lift q
theorem s_aug {i : Nat} {op : Int → Int → Int} {fe : EM} {a : Int} (e : δ[i]? = some (some (.dat (.int a)))) (h : Sat (frzV fe δ μ) (fun y μ' => IntK y fun b => P.nx (δ.set i (some (.dat (.int (op a b))))) μ') (fun x μ => P.ex x δ μ)) : SatS (gAug i op fe N δ μ) P := by
  unfold gAug; rw [e]
  show SatS (lift (frzV fe δ μ) δ fun y μ' => match asI y with | some b => Out.next (δ.set i (some (.dat (.int (op a b))))) μ' | none => .bad) P
  refine sat_lift (h.mono (fun y μ' q => ?_) fun _ _ q => q)
  obtain ⟨b, e, q⟩ := q; rw [e]; exact q
theorem s_set {fo fi fe : EM} (h : Sat (frzV fe δ μ) (fun y μ1 => Sat (frzV fo δ μ1) (fun x μ2 => Sat (frzV fi δ μ2) (fun i μ3 => ∃ μ4, setPl μ3 x i y = some μ4 ∧ P.nx δ μ4) (fun x μ => P.ex x δ μ)) (fun x μ => P.ex x δ μ)) (fun x μ => P.ex x δ μ)) : SatS (gSet fo fi fe N δ μ) P := by
  refine sat_lift (sat_bind (h.mono (fun y μ1 q => sat_bind (q.mono (fun x μ2 q => sat_bind (q.mono (fun i μ3 q => ?_) fun _ _ q => q)) fun _ _ q => q)) fun _ _ q => q))
  obtain ⟨μ4, e, q⟩ := q; rw [e]; exact q
theorem s_disp {i : Nat} {f : NM} (h : Sat (f N δ μ) (fun xs μ1 => xs.length ≤ sizeLine ∧ SatS (bindR N i (.nl xs) δ μ1) P) (fun x μ => P.ex x δ μ)) : SatS (gDisp i f N δ μ) P := by
  unfold gDisp
  cases e : f N δ μ with
  | ok xs μ1 => rw [e] at h; simp only; rw [if_pos h.1]; exact h.2
  | exc x μ1 => rw [e] at h; exact h
  | bad => rw [e] at h; exact h.elim
def NpK (N : Nat) (r : R) (μ : Mem) (QV : DV → Mem → Prop) : Prop := match newPl N r μ with
  | none => False
  | some (x, μ2) => QV x μ2
theorem n_nilK (h : QA [] μ) : Sat (nNil N δ μ) QA E := h
theorem n_consK {f : EM} {g : NM} (h : Sat (f δ μ) (fun r μ1 => NpK N r μ1 fun x μ2 => Sat (g N δ μ2) (fun xs μ3 => QA (x :: xs) μ3) E) E) : Sat (nCons f g N δ μ) QA E := by
  refine sat_bind (h.mono (fun r μ1 q => ?_) fun _ _ q => q)
  unfold NpK at q
  cases e : newPl N r μ1 with
  | none => rw [e] at q; exact q.elim
  | some p => rw [e] at q; exact sat_bind q
theorem p_dat {d : D} (h : QV (.dat d) μ) : NpK N (.dat d) μ QV := h
theorem p_loc {n : Nat} (h : QV (.loc n) μ) : NpK N (.loc n) μ QV := h
theorem p_nl {xs : List DV} (hN : N ≤ μ.length) (h : QV (.loc μ.length) (μ ++ [.lst xs])) : NpK N (.nl xs) μ QV := by
  unfold NpK newPl; simp only; rw [if_pos hN]; exact h
/-! ### calls -/
def ClK (N : Nat) (r : R) (μ : Mem) (QR : R → Mem → Prop) (E : Xc → Mem → Prop) : Prop := Sat (closeR N r μ) QR E
abbrev endP (N : Nat) (QR : R → Mem → Prop) (E : Xc → Mem → Prop) : PO :=
  { nx := fun _ μ' => QR (.dat .non) (μ'.take N), rt := fun r μ' => ClK N r μ' QR E, bk := fun _ _ => False, ct := fun _ _ => False, ex := fun x _ μ' => E x (μ'.take N) }
theorem x_call {g : SM} {n m : Nat} {args : List DV} (hn : args.length = n) (h : SatS (g μ.length (args.map some ++ List.replicate m none) μ) (endP μ.length QR E)) : Sat (callD g n m args μ) QR E := by
  unfold callD; rw [if_pos hn]; unfold callF
  cases e : g μ.length (args.map some ++ List.replicate m none) μ <;> rw [e] at h <;> exact h
theorem k_dat {d : D} {μ' : Mem} (e : μ'.take N = μ) (h : QR (.dat d) μ) : ClK N (.dat d) μ' QR E := by unfold ClK; rw [close_dat e]; exact h
theorem k_nl {xs : List DV} {μ' : Mem} (e : μ'.take N = μ) (hb : belowA N xs = true) (h : QR (.nl xs) μ) : ClK N (.nl xs) μ' QR E := by
  unfold ClK closeR; simp only; rw [if_pos hb, e]; exact h
theorem below_map (ds : List D) : belowA N (ds.map DV.dat) = true := by
  unfold belowA; rw [List.all_eq_true]; intro x hx
  obtain ⟨d, _, rfl⟩ := List.mem_map.mp hx; rfl
theorem below_mapf {γ : Type} (f : γ → D) (ys : List γ) : belowA N (ys.map fun y => .dat (f y)) = true := by
  unfold belowA; rw [List.all_eq_true]; intro x hx
  obtain ⟨d, _, rfl⟩ := List.mem_map.mp hx; rfl
theorem k_nlf {γ : Type} {f : γ → D} {ys : List γ} {μ' : Mem} (e : μ'.take N = μ) (h : QR (.nl (ys.map fun y => .dat (f y))) μ) : ClK N (.nl (ys.map fun y => .dat (f y))) μ' QR E := k_nl e (below_mapf f ys) h
theorem k_locO {n : Nat} {μ' : Mem} (e : μ'.take N = μ) (hn : n < N) (h : QR (.loc n) μ) : ClK N (.loc n) μ' QR E := by
  unfold ClK closeR; simp only; rw [if_pos hn, e]; exact h
theorem k_locN {n : Nat} {xs : List DV} {μ' : Mem} (e : μ'.take N = μ) (hn : N ≤ n) (hx : μ'[n]? = some (.lst xs)) (hb : belowA N xs = true) (h : QR (.nl xs) μ) : ClK N (.loc n) μ' QR E := by
  unfold ClK closeR; simp only; rw [if_neg (by omega), hx]; simp only; rw [if_pos hb, e]; exact h
theorem k_ofD {d : D} {μ' : Mem} (e : μ'.take N = μ) (h : QR (.dat d) μ) : ClK N (ofV (.dat d)) μ' QR E := k_dat e h
/-! ### loops -/
theorem s_for {ks : List Bool} {fi : IM} {h : D → Env → Option Env} {gb : SM} (k : Sat (fi δ μ) (fun ds μ' => SatS (forL μ'.length ks h gb N ds δ μ') P) (fun x μ => P.ex x δ μ)) : SatS (gFor ks fi h gb N δ μ) P := sat_lift k
/-- an invariant: what is still to come, the slots, the memory -/
theorem for_inv {M : Nat} {ks : List Bool} {h : D → Env → Option Env} {gb : SM} {ds : List D} (I : Nat → Env → Mem → Prop) (h0 : I 0 δ μ)
    (ht : ∀ i d, ds[i]? = some d → ∀ δ μ, I i δ μ → ∃ δ1, h d δ = some δ1 ∧ SatS (gb N δ1 μ) { nx := fun δ' μ' => I (i + 1) (cut M ks δ') (μ'.take M), ct := fun δ' μ' => I (i + 1) (cut M ks δ') (μ'.take M), bk := fun δ' μ' => P.nx (cut M ks δ') (μ'.take M), rt := P.rt, ex := P.ex })
    (he : ∀ δ μ, I ds.length δ μ → P.nx δ μ) : SatS (forL M ks h gb N ds δ μ) P := by
  have key : ∀ (n : Nat) (i : Nat) (δ : Env) (μ : Mem), i + n = ds.length → I i δ μ → SatS (forL M ks h gb N (ds.drop i) δ μ) P := by
    intro n
    induction n with
    | zero =>
      intro i δ μ hi hI
      rw [List.drop_of_length_le (by omega)]
      have : i = ds.length := by omega
      subst this
      exact he δ μ hI
    | succ n ih =>
      intro i δ μ hi hI
      have hl : i < ds.length := by omega
      rw [List.drop_eq_getElem_cons hl]
      obtain ⟨δ1, h1, h2⟩ := ht i ds[i] (List.getElem?_eq_getElem hl) δ μ hI
      simp only [forL, h1]
      cases e : gb N δ1 μ with
      | next δ' μ' => rw [e] at h2; exact ih (i + 1) _ _ (by omega) h2
      | cnt δ' μ' => rw [e] at h2; exact ih (i + 1) _ _ (by omega) h2
      | brk δ' μ' => rw [e] at h2; exact h2
      | ret r μ' => rw [e] at h2; exact h2
      | exc x δ' μ' => rw [e] at h2; exact h2
      | bad => rw [e] at h2; exact h2
  have := key ds.length 0 δ μ (by omega) h0
  rw [List.drop_zero] at this; exact this
theorem s_wh {fuel : Nat} {ks : List Bool} {ft : TM} {gb : SM} (k : SatS (whL μ.length ks ft gb N fuel δ μ) P) : SatS (gWh fuel ks ft gb N δ μ) P := k
/-- an invariant with a number of turns at most -/
theorem wh_inv {M fuel : Nat} {ks : List Bool} {ft : TM} {gb : SM} (I : Nat → Env → Mem → Prop) (m : Nat) (hm : m < fuel) (h0 : I m δ μ)
    (ht : ∀ m δ μ, I m δ μ → Sat (ft δ μ) (fun b μ1 => if b = true then 0 < m ∧ SatS (gb N δ μ1) { nx := fun δ' μ' => ∃ m', m' < m ∧ I m' (cut M ks δ') (μ'.take M), ct := fun δ' μ' => ∃ m', m' < m ∧ I m' (cut M ks δ') (μ'.take M), bk := fun δ' μ' => P.nx (cut M ks δ') (μ'.take M), rt := P.rt, ex := P.ex } else P.nx δ μ1) (fun x μ => P.ex x δ μ)) : SatS (whL M ks ft gb N fuel δ μ) P := by
  have key : ∀ (fuel m : Nat) (δ : Env) (μ : Mem), m < fuel → I m δ μ → SatS (whL M ks ft gb N fuel δ μ) P := by
    intro fuel
    induction fuel with
    | zero => intro m δ μ hm; omega
    | succ f ih =>
      intro m δ μ hm hI
      unfold whL
      refine sat_lift ((ht m δ μ hI).mono (fun b μ1 q => ?_) fun _ _ q => q)
      cases b with
      | false => exact q
      | true =>
        simp only [if_true] at q ⊢
        obtain ⟨h0, q⟩ := q
        cases e : gb N δ μ1 with
        | next δ' μ' => rw [e] at q; obtain ⟨m', h1, q⟩ := q; exact ih m' _ _ (by omega) q
        | cnt δ' μ' => rw [e] at q; obtain ⟨m', h1, q⟩ := q; exact ih m' _ _ (by omega) q
        | brk δ' μ' => rw [e] at q; exact q
        | ret r μ' => rw [e] at q; exact q
        | exc x δ' μ' => rw [e] at q; exact q
        | bad => rw [e] at q; exact q
  exact key fuel m δ μ hm h0
end
end DL
/-! Symbolic execution: the operations by the forms of their values. -/
namespace DL
open PySem PySem.Spec PyProof.Rows L2
section
variable {QR : R → Mem → Prop} {E : Xc → Mem → Prop} {P : PO} {δ : Env} {μ : Mem} {N n : Nat} {i j : Int} {s t : Str} {ds es : List D} {xs ys : List DV} {Q Q' : Prop}
theorem sl_sz {α : Type} {l : List α} (h : l.length ≤ 1000000) : l.length ≤ sizeLine := Nat.le_trans h (by decide)
theorem sz_lit {n : Nat} (h : Nat.ble n 1000000 = true) : n ≤ sizeLine := Nat.le_trans (Nat.le_of_ble_eq_true h) (by decide)
theorem if_T (h : Q) : if true = true then Q else Q' := h
theorem if_F (h : Q') : if false = true then Q else Q' := h
theorem if_by {b : Bool} (h1 : b = true → Q) (h2 : b = false → Q') : if b = true then Q else Q' := by
  cases b
  · exact h2 rfl
  · exact h1 rfl
theorem if_dec {p : Prop} [Decidable p] (h1 : p → Q) (h2 : ¬ p → Q') : if decide p = true then Q else Q' := by
  by_cases h : p
  · rw [if_pos (decide_eq_true h)]; exact h1 h
  · rw [if_neg (by simpa using h)]; exact h2 h
theorem if_ndec {p : Prop} [Decidable p] (h1 : ¬ p → Q) (h2 : p → Q') : if (!decide p) = true then Q else Q' := by
  by_cases h : p
  · rw [if_neg (by simpa using h)]; exact h2 h
  · rw [if_pos (by simpa using h)]; exact h1 h
/-! forms -/
theorem tk {ds : List D} {Q : D → Prop} (e : allDat xs = some ds) (hl : ds.length ≤ sizeLine) (h : Q (.tup ds)) : TupK xs Q := ⟨ds, e, hl, h⟩
theorem sk_l {Q : List D → Prop} (h : Q ds) : SeqK (.dat (.lst ds)) Q := ⟨ds, rfl, h⟩
theorem sk_f {Q : List D → Prop} (h : Q ds) : SeqK (.dat (.fro ds)) Q := ⟨ds, rfl, h⟩
theorem sk_t {Q : List D → Prop} (h : Q ds) : SeqK (.dat (.tup ds)) Q := ⟨ds, rfl, h⟩
theorem ik {Q : Int → Prop} (h : Q i) : IntK (.dat (.int i)) Q := ⟨i, rfl, h⟩
theorem stk {Q : Str → Prop} (h : Q s) : StrK (.dat (.str s)) Q := ⟨s, rfl, h⟩
theorem pk {x y : DV} {Q : DV → DV → Prop} (h : Q x y) : ParK [x, y] Q := ⟨x, y, rfl, h⟩
theorem gk {h : D → Env → Option Env} {d : D} {δ' : Env} {Q : Env → Prop} (e : h d δ = some δ') (k : Q δ') : TgtK h δ (.dat d) Q := ⟨d, δ', rfl, e, k⟩
/-! arithmetic -/
theorem l_addI (h : QR (.dat (.int (i + j))) μ) : Sat (dAdd (.dat (.int i)) (.dat (.int j)) μ) QR E := h
theorem l_addS (hl : s.length + t.length ≤ sizeLine) (h : QR (.dat (.str (s ++ t))) μ) : Sat (dAdd (.dat (.str s)) (.dat (.str t)) μ) QR E := by
  unfold dAdd; simp only [asI, asStr]; rw [if_pos hl]; exact h
theorem l_addT (hl : ds.length + es.length ≤ sizeLine) (h : QR (.dat (.tup (ds ++ es))) μ) : Sat (dAdd (.dat (.tup ds)) (.dat (.tup es)) μ) QR E := by
  unfold dAdd; simp only [asI, asStr, asT]; rw [if_pos hl]; exact h
theorem l_addL (hl : ds.length + es.length ≤ sizeLine) (h : QR (.nl ((ds ++ es).map DV.dat)) μ) : Sat (dAdd (.dat (.lst ds)) (.dat (.lst es)) μ) QR E := by
  rw [add_lst hl]; exact h
theorem l_sub (h : QR (.dat (.int (i - j))) μ) : Sat (dSub (.dat (.int i)) (.dat (.int j)) μ) QR E := h
theorem l_mul (hc : cMul i j = true) (h : QR (.dat (.int (i * j))) μ) : Sat (dMul (.dat (.int i)) (.dat (.int j)) μ) QR E := by rw [mul_ok hc]; exact h
theorem l_mod (hc : 0 < j) (h : QR (.dat (.int (i % j))) μ) : Sat (dMod (.dat (.int i)) (.dat (.int j)) μ) QR E := by rw [mod_ok hc]; exact h
theorem l_div (hc : 0 < j) (hc' : j < 1073741824) (h : QR (.dat (.int (i / j))) μ) : Sat (dDiv (.dat (.int i)) (.dat (.int j)) μ) QR E := by rw [div_ok hc hc']; exact h
theorem l_lt (h : QR (.dat (.bl (decide (i < j)))) μ) : Sat (dLt (.dat (.int i)) (.dat (.int j)) μ) QR E := h
theorem l_le (h : QR (.dat (.bl (decide (i ≤ j)))) μ) : Sat (dLe (.dat (.int i)) (.dat (.int j)) μ) QR E := h
theorem l_gt (h : QR (.dat (.bl (decide (j < i)))) μ) : Sat (dGt (.dat (.int i)) (.dat (.int j)) μ) QR E := h
theorem l_ge (h : QR (.dat (.bl (decide (j ≤ i)))) μ) : Sat (dGe (.dat (.int i)) (.dat (.int j)) μ) QR E := h
theorem l_neg (h : QR (.dat (.int (-i))) μ) : Sat (dNeg (.dat (.int i)) μ) QR E := h
/-! equality -/
theorem int_beq (i j : Int) : (i == j) = decide (i = j) := by
  by_cases h : i = j
  · subst h; simp
  · rw [decide_eq_false h]; exact beq_false_of_ne h
theorem l_eqI (h : QR (.dat (.bl (decide (i = j)))) μ) : Sat (dEq (.dat (.int i)) (.dat (.int j)) μ) QR E := by
  rw [show dEq (.dat (.int i)) (.dat (.int j)) μ = .ok (.dat (.bl (decide (i = j)))) μ from (dEqB_int true i j μ).trans (by rw [int_beq]; cases decide (i = j) <;> rfl)]; exact h
theorem l_neI (h : QR (.dat (.bl (!decide (i = j)))) μ) : Sat (dNe (.dat (.int i)) (.dat (.int j)) μ) QR E := by
  rw [show dNe (.dat (.int i)) (.dat (.int j)) μ = .ok (.dat (.bl (!decide (i = j)))) μ from (dEqB_int false i j μ).trans (by rw [int_beq]; cases decide (i = j) <;> rfl)]; exact h
theorem l_eqS (h : QR (.dat (.bl (decide (s = t)))) μ) : Sat (dEq (.dat (.str s)) (.dat (.str t)) μ) QR E := by
  rw [show dEq (.dat (.str s)) (.dat (.str t)) μ = .ok (.dat (.bl (decide (s = t)))) μ from eq_str.trans (by cases decide (s = t) <;> rfl)]; exact h
theorem l_neS (h : QR (.dat (.bl (!decide (s = t)))) μ) : Sat (dNe (.dat (.str s)) (.dat (.str t)) μ) QR E := by
  rw [show dNe (.dat (.str s)) (.dat (.str t)) μ = .ok (.dat (.bl (!decide (s = t)))) μ from eq_str.trans (by cases decide (s = t) <;> rfl)]; exact h
/-! items -/
theorem l_ixT {d : D} (e : atI ds i = some d) (h : QR (.dat d) μ) : Sat (dIx (.dat (.tup ds)) (.dat (.int i)) μ) QR E := by rw [dIx_tup e]; exact h
theorem l_ixL {d : D} (e : atI ds i = some d) (h : QR (.dat d) μ) : Sat (dIx (.dat (.lst ds)) (.dat (.int i)) μ) QR E := by rw [dIx_lst e]; exact h
theorem l_ixM {x : DV} (e : μ[n]? = some (.lst xs)) (e2 : atI xs i = some x) (h : QR (ofV x) μ) : Sat (dIx (.loc n) (.dat (.int i)) μ) QR E := by rw [dIx_loc e e2]; exact h
theorem l_slT {lo hi : Option Int} (h : QR (.dat (.tup (cutL ds lo hi))) μ) : Sat (dSl (.dat (.tup ds)) lo hi μ) QR E := h
theorem l_slL {lo hi : Option Int} (h : QR (.nl ((cutL ds lo hi).map DV.dat)) μ) : Sat (dSl (.dat (.lst ds)) lo hi μ) QR E := by rw [sl_lst]; exact h
theorem l_slS {lo hi : Option Int} (hl : s.length ≤ sizeLine) (h : QR (.dat (.str (cutS s lo hi))) μ) : Sat (dSl (.dat (.str s)) lo hi μ) QR E := by
  unfold dSl; simp only [asL, asT, asStr]; rw [if_pos hl]; exact h
theorem l_lenT (h : QR (.dat (.int ds.length)) μ) : Sat (d1 dLen [.dat (.tup ds)] μ) QR E := by
  have : d1 dLen [.dat (.tup ds)] μ = .ok (.dat (.int ds.length)) μ := by simp [d1, dLen, asS, asL, asT]
  rw [this]; exact h
theorem l_lenL (h : QR (.dat (.int ds.length)) μ) : Sat (d1 dLen [.dat (.lst ds)] μ) QR E := by rw [len_lst]; exact h
theorem l_lenM (e : μ[n]? = some (.lst xs)) (h : QR (.dat (.int xs.length)) μ) : Sat (d1 dLen [.loc n] μ) QR E := by rw [len_loc e]; exact h
theorem l_lenS (hl : s.length ≤ sizeLine) (h : QR (.dat (.int s.length)) μ) : Sat (d1 dLen [.dat (.str s)] μ) QR E := by
  unfold d1; simp only; unfold dLen; simp only [asS, asL, asT, Option.map, asStr]; rw [if_pos hl]; exact h
theorem l_int (h : QR (.dat (.int i)) μ) : Sat (d1 dInt [.dat (.int i)] μ) QR E := h
theorem l_intB {b : Bool} (h : QR (.dat (.int (if b = true then 1 else 0))) μ) : Sat (d1 dInt [.dat (.bl b)] μ) QR E := h
theorem l_listT (h : QR (.nl (ds.map DV.dat)) μ) : Sat (d1 dList [.dat (.tup ds)] μ) QR E := h
theorem l_listL (h : QR (.nl (ds.map DV.dat)) μ) : Sat (d1 dList [.dat (.lst ds)] μ) QR E := h
theorem l_listM (e : μ[n]? = some (.lst xs)) (h : QR (.nl xs) μ) : Sat (d1 dList [.loc n] μ) QR E := by
  unfold d1; simp only; unfold dList asS; rw [asL_loc e]; exact h
theorem l_tupL (h : QR (.dat (.tup ds)) μ) : Sat (d1 dTuple [.dat (.lst ds)] μ) QR E := by rw [tuple_lst]; exact h
theorem l_tupT (h : QR (.dat (.tup ds)) μ) : Sat (d1 dTuple [.dat (.tup ds)] μ) QR E := h
theorem l_tupM (e : μ[n]? = some (.lst xs)) (e2 : allDat xs = some ds) (h : QR (.dat (.tup ds)) μ) : Sat (d1 dTuple [.loc n] μ) QR E := by
  unfold d1; simp only; unfold dTuple; rw [asL_loc e]; simp only; rw [e2]; exact h
theorem bools_map {γ : Type} (f : γ → Bool) (xs : List γ) : bools (xs.map fun x => .dat (.bl (f x))) = some (xs.map f) := by
  induction xs with
  | nil => rfl
  | cons x xs ih => simp [bools, asBl, ih]
theorem l_all {γ : Type} {f : γ → Bool} {g : List Bool → Bool} {xs : List γ} (h : QR (.dat (.bl (g (xs.map f)))) μ) : Sat (d1 (dAll g) [.dat (.lst (xs.map fun x => .bl (f x)))] μ) QR E := by
  have : asL μ (.dat (.lst (xs.map fun x => .bl (f x)))) = some (xs.map fun x => .dat (.bl (f x))) := by simp [asL]
  unfold d1; simp only; unfold dAll; rw [this]; simp only; rw [bools_map]; exact h
/-! methods -/
theorem l_app {y : DV} (e : μ[n]? = some (.lst xs)) (hl : xs.length < sizeLine) (hb : belowB n y = true) (h : QR (.dat .non) (μ.set n (.lst (xs ++ [y])))) : Sat (dAppend (.loc n) [y] μ) QR E := by rw [app_ok e hl hb]; exact h
theorem l_extT (e : μ[n]? = some (.lst xs)) (hl : xs.length + ds.length ≤ sizeLine) (h : QR (.dat .non) (μ.set n (.lst (xs ++ ds.map DV.dat)))) : Sat (dExtend (.loc n) [.dat (.tup ds)] μ) QR E := by rw [ext_tup e hl]; exact h
theorem l_extL (e : μ[n]? = some (.lst xs)) (hl : xs.length + ds.length ≤ sizeLine) (h : QR (.dat .non) (μ.set n (.lst (xs ++ ds.map DV.dat)))) : Sat (dExtend (.loc n) [.dat (.lst ds)] μ) QR E := by
  have hb : (ds.map DV.dat).all (belowB n) = true := by
    rw [List.all_eq_true]; intro x hx; obtain ⟨d, _, rfl⟩ := List.mem_map.mp hx; rfl
  unfold dExtend; simp only [atPl, e, asM]; rw [if_pos ⟨by simpa using hl, hb⟩]; exact h
theorem l_clear (e : μ[n]? = some (.lst xs)) (h : QR (.dat .non) (μ.set n (.lst []))) : Sat (dClear (.loc n) [] μ) QR E := by rw [clear_ok e]; exact h
theorem l_pop {k : Nat} {y : DV} (e : μ[n]? = some (.lst xs)) (hk : xs[k]? = some y) (hb : k < 2 ^ 63) (h : QR (ofV y) (μ.set n (.lst (xs.eraseIdx k)))) : Sat (dPop (.loc n) [.dat (.int k)] μ) QR E := by rw [pop_ok e hk hb]; exact h
theorem l_insert {y : DV} {j : Int} (e : μ[n]? = some (.lst xs)) (hl : xs.length < sizeLine) (h0 : 0 ≤ j) (hj : j < 2 ^ 63) (hb : belowB n y = true) (h : QR (.dat .non) (μ.set n (.lst (xs.take j.toNat ++ [y] ++ xs.drop j.toNat)))) : Sat (dInsert (.loc n) [.dat (.int j), y] μ) QR E := by
  unfold dInsert; simp only [atPl, e, asI]; rw [if_pos ⟨hl, h0, hj, hb⟩]; exact h
theorem l_split (hb : (t.length == 0) = false ∧ s.length + 2 ≤ sizeLine) (h : QR (.nl ((Txt.split s t).map fun s => .dat (.str s))) μ) : Sat (dSplit (.dat (.str s)) [.dat (.str t)] μ) QR E := by
  unfold dSplit; simp only [asStr]; rw [if_pos hb]; exact h
theorem l_in {neg : Bool} {u : V} {us : List V} {x y : DV} (e : flat x = some u) (e2 : asS μ y = some ys) (e3 : flats ys = some us) (h : QR (.dat (.bl (if neg = true then !inV u us else inV u us))) μ) : Sat (dIn neg x y μ) QR E := by
  unfold dIn; rw [e]; simp only; rw [e2]; simp only; rw [e3]; exact h
theorem l_inT {ss : List Str} (h : QR (.dat (.bl (decide (s ∈ ss)))) μ) : Sat (dIn false (.dat (.str s)) (.dat (.tup (ss.map D.str))) μ) QR E := by rw [in_tup]; exact h
theorem l_ninT {ss : List Str} (h : QR (.dat (.bl (!decide (s ∈ ss)))) μ) : Sat (dIn true (.dat (.str s)) (.dat (.tup (ss.map D.str))) μ) QR E := by rw [in_tup]; exact h
theorem in_lst {neg : Bool} {s : Str} {ss : List Str} {μ : Mem} : dIn neg (.dat (.str s)) (.dat (.lst (ss.map D.str))) μ = .ok (.dat (.bl (if neg = true then !decide (s ∈ ss) else decide (s ∈ ss)))) μ := by
  have : (ss.map D.str).map DV.dat = ss.map fun s => .dat (.str s) := by simp
  simp only [dIn, flat, asS, asL, asT, Option.map, this, flats_str, inV_str]
theorem l_inL {ss : List Str} (h : QR (.dat (.bl (decide (s ∈ ss)))) μ) : Sat (dIn false (.dat (.str s)) (.dat (.lst (ss.map D.str))) μ) QR E := by rw [in_lst]; exact h
theorem l_ninL {ss : List Str} (h : QR (.dat (.bl (!decide (s ∈ ss)))) μ) : Sat (dIn true (.dat (.str s)) (.dat (.lst (ss.map D.str))) μ) QR E := by rw [in_lst]; exact h
theorem ty_l : tyL (.dat (.lst ds)) μ = true := rfl
theorem ty_s : tyS (.dat (.str s)) μ = true := rfl
/-! the bag at the place 0 -/
theorem d_take {B : Bg} {ν : Mem} {m : Int} (hB : B.ok) (hm : 0 < m) (hm' : m < 1073741824) (h : ∀ (r : Nat) (B' : Bg), B'.ok → (r : Int) < m → QR (.dat (.int r)) (B'.pl :: ν)) : Sat (callD gTake 2 5 [.loc 0, .dat (.int m)] (B.pl :: ν)) QR E := by
  obtain ⟨o1, o2, o3⟩ := takeB_ok hB hm
  rw [take_spec (n := 0) (μ := B.pl :: ν) hB rfl hm hm']
  generalize (takeB B m).1 = t at *
  generalize (takeB B m).2 = B2 at *
  obtain ⟨k, rfl⟩ := Int.eq_ofNat_of_zero_le o2
  exact h k B2 o1 o3
theorem d_one {B : Bg} {ν : Mem} (hB : B.ok) (h0 : 0 < ds.length) (hs : ds.length < 1073741824) (h : ∀ (d : D) (B' : Bg), B'.ok → d ∈ ds → QR (.dat d) (B'.pl :: ν)) : Sat (callD gOne 2 0 [.loc 0, .dat (.lst ds)] (B.pl :: ν)) QR E := by
  obtain ⟨d, B', o, hd, e⟩ := one_spec (n := 0) (μ := B.pl :: ν) hB rfl h0 hs
  rw [e]; exact h d B' o hd
theorem d_mixed {B : Bg} {ν : Mem} {k w : Nat} (hk : k < 64) (hB : B.ok) (hs : ds.length < 100000) (hd : ∀ d ∈ ds, ∃ p, toPy d = some p ∧ Fit k w p) (h : ∀ (ys : List D) (B' : Bg), B'.ok → ys.Perm ds → QR (.nl (ys.map DV.dat)) (B'.pl :: ν)) : Sat (callD gMixed 2 2 [.loc 0, .dat (.lst ds)] (B.pl :: ν)) QR E := by
  obtain ⟨ys, B', o, pm, e⟩ := mixed_spec (n := 0) (μ := B.pl :: ν) hk hB rfl hs hd
  rw [e]; exact h ys B' o pm
end
end DL
namespace DL
open PySem PySem.Spec PyProof.Rows L2
section
variable {QR : R → Mem → Prop} {QV : DV → Mem → Prop} {QB : Bool → Mem → Prop} {E : Xc → Mem → Prop} {P : PO} {δ δ' : Env} {μ μ' : Mem} {N n i : Nat} {x : Option DV} {d : D} {ds : List D} {xs : List DV}
theorem al_nil : allDat [] = some [] := rfl
theorem al_cons (h : allDat xs = some ds) : allDat (.dat d :: xs) = some (d :: ds) := by simp only [allDat, h]; rfl
theorem set_now {g : SM} (e : δ.set i x = δ') (h : SatS (g N δ' μ) P) : SatS (g N (δ.set i x) μ) P := e ▸ h
theorem x_varD (e : δ[i]? = some (some (.dat d))) (h : QR (.dat d) μ) : Sat (eVar i δ μ) QR E := x_var e h
theorem x_varL (e : δ[i]? = some (some (.loc n))) (h : QR (.loc n) μ) : Sat (eVar i δ μ) QR E := x_var e h
theorem ofV_dat : ofV (.dat d) = .dat d := rfl
theorem z_ofD (h : QV (.dat d) μ) : FzK (ofV (.dat d)) μ QV := h
theorem b_ofD {b : Bool} (h : QB b μ) : BlK (ofV (.dat (.bl b))) μ QB := h
theorem mem_now {g : SM} (e : μ = μ') (h : SatS (g N δ μ') P) : SatS (g N δ μ) P := e ▸ h
end
end DL
/-! Symbolic execution: own classes. -/
namespace DL
open PySem PySem.Spec PyProof.Rows L2
/-- what an initialiser must leave -/
def MkK (N : Nat) (QR : R → Mem → Prop) : R → Mem → Prop := fun r μ2 => ∃ nm' gs ds, r = .dat .non ∧ μ2[N + 1]? = some (.ins nm' gs) ∧ allDat (gs.map (·.2)) = some ds ∧ QR (.dat (.ins nm' ((gs.map (·.1)).zip ds))) (μ2.take N)
section
variable {QR : R → Mem → Prop} {E : Xc → Mem → Prop} {P : PO} {δ : Env} {μ : Mem} {N n : Nat} {nm m : Str} {F : List DV → Mem → Res R} {f fa fb fo fe : EM} {g : AM} {x : DV} {d : D} {fs : List (Str × D)} {gs : List (Str × DV)} {tab : Kd → Option Bool} {i j : Int} {ds : List D} {xs : List DV}
theorem x_fld {nms : List Str} (h : Sat (frzV f δ μ) (fun x μ1 => ∃ nm fs y, insAt μ1 x = some (nm, fs) ∧ nm ∈ nms ∧ fs.lookup m = some y ∧ QR (ofV y) μ1) E) : Sat (eFld nms m f δ μ) QR E := by
  refine sat_bind (h.mono (fun x μ1 q => ?_) fun _ _ q => q)
  obtain ⟨nm, fs, y, e1, e2, e3, q⟩ := q
  rw [e1]; simp only; rw [if_pos e2, e3]; exact q
theorem x_meth (h : Sat (frzV f δ μ) (fun x μ1 => isI nm m x μ1 = true ∧ Sat (g δ μ1) (fun xs μ2 => Sat (F (x :: xs) μ2) QR E) E) E) : Sat (eMeth nm m F f g δ μ) QR E := by
  refine sat_bind (h.mono (fun x μ1 q => ?_) fun _ _ q => q)
  rw [if_pos q.1]; exact sat_bind q.2
theorem x_make (h : Sat (g δ μ) (fun xs μ1 => Sat (F (.loc (μ1.length + 1) :: xs) (μ1 ++ [.own] ++ [.ins nm []])) (MkK μ1.length QR) (fun x μ2 => E x (μ2.take μ1.length))) E) : Sat (eMake nm F g δ μ) QR E := by
  refine sat_bind (h.mono (fun xs μ1 q => ?_) fun _ _ q => q)
  unfold mkRun
  cases e : F (.loc (μ1.length + 1) :: xs) (μ1 ++ [.own] ++ [.ins nm []]) with
  | ok r μ2 =>
    rw [e] at q
    obtain ⟨nm', gs, ds, rfl, e1, e2, q⟩ := q
    simp only [mkEnd, e1, e2]; exact q
  | exc x μ2 => rw [e] at q; exact q
  | bad => rw [e] at q; exact q
theorem x_lenO (h : Sat (frzV f δ μ) (fun x μ1 => isI nm "" x μ1 = true ∧ Sat (F [x] μ1) (fun r μ2 => ∃ n : Int, r = .dat (.int n) ∧ (0 ≤ n ∧ n < 2 ^ 63) ∧ QR (.dat (.int n)) μ2) (fun _ _ => False)) E) : Sat (eLenO nm F f δ μ) QR E := by
  refine sat_bind (h.mono (fun x μ1 q => ?_) fun _ _ q => q)
  rw [if_pos q.1]
  have q := q.2
  cases e : F [x] μ1 with
  | ok r μ2 => rw [e] at q; obtain ⟨n, rfl, hn, q⟩ := q; simp only; rw [if_pos hn]; exact q
  | exc x μ2 => rw [e] at q; exact q.elim
  | bad => rw [e] at q; exact q.elim
theorem x_eqO {others : List Str} (h : Sat (frzV fa δ μ) (fun x μ1 => Sat (frzV fb δ μ1) (fun y μ2 => (isI nm "" x μ2 = true ∧ ((kindOf μ2 y).bind (tabC nm others)).isSome = true) ∧ Sat (F [x, y] μ2) (fun r μ3 => BlK r μ3 fun b μ3 => QR (.dat (.bl b)) μ3) (fun _ _ => False)) E) E) : Sat (eEqO nm others F fa fb δ μ) QR E := by
  refine sat_bind (h.mono (fun x μ1 q => sat_bind (q.mono (fun y μ2 q => ?_) fun _ _ q => q)) fun _ _ q => q)
  rw [if_pos q.1]
  have q := q.2
  cases e : F [x, y] μ2 with
  | ok r μ3 => rw [e] at q; obtain ⟨b, rfl, _, q⟩ := BlK.ex q; exact q
  | exc x μ2 => rw [e] at q; exact q.elim
  | bad => rw [e] at q; exact q.elim
theorem x_inO {neg : Bool} (h : Sat (frzV fa δ μ) (fun y μ1 => Sat (frzV fb δ μ1) (fun x μ2 => isI nm "" x μ2 = true ∧ Sat (F [x, y] μ2) (fun r μ3 => BlK r μ3 fun b μ3 => QR (.dat (.bl (b != neg))) μ3) (fun _ _ => False)) E) E) : Sat (eInO nm neg F fa fb δ μ) QR E := by
  refine sat_bind (h.mono (fun y μ1 q => sat_bind (q.mono (fun x μ2 q => ?_) fun _ _ q => q)) fun _ _ q => q)
  rw [if_pos q.1]
  have q := q.2
  cases e : F [x, y] μ2 with
  | ok r μ3 => rw [e] at q; obtain ⟨b, rfl, _, q⟩ := BlK.ex q; exact q
  | exc x μ2 => rw [e] at q; exact q.elim
  | bad => rw [e] at q; exact q.elim
theorem l_isi {kd : Kd} {b : Bool} (e : kindOf μ x = some kd) (e2 : tab kd = some b) (h : QR (.dat (.bl b)) μ) : Sat (dIsi tab x μ) QR E := by
  unfold dIsi; rw [e]; simp only; rw [e2]; exact h
theorem s_fld {nms : List Str} (h : Sat (frzV fe δ μ) (fun y μ1 => Sat (frzV fo δ μ1) (fun x μ2 => ∃ μ3, setFld nms μ2 x m y = some μ3 ∧ P.nx δ μ3) (fun x μ => P.ex x δ μ)) (fun x μ => P.ex x δ μ)) : SatS (gFld nms m fo fe N δ μ) P := by
  refine sat_lift (sat_bind (h.mono (fun y μ1 q => sat_bind (q.mono (fun x μ2 q => ?_) fun _ _ q => q)) fun _ _ q => q))
  obtain ⟨μ3, e, q⟩ := q; rw [e]; exact q
theorem l_mulX (hc : cMul i j = true) (h : QR (.dat (.int (i * j))) μ) : Sat (dMulX (.dat (.int i)) (.dat (.int j)) μ) QR E := by
  unfold dMulX; simp only [asI]; rw [if_pos hc]; exact h
theorem l_rep {xs : List DV} (e : asM μ x = some xs) (ei : asI x = none) (hj : -(2 ^ 63) ≤ j ∧ j < 2 ^ 63 ∧ xs.length * j.toNat ≤ sizeLine) (h : QR (.nl (List.replicate j.toNat xs).flatten) μ) : Sat (dMulX x (.dat (.int j)) μ) QR E := by
  unfold dMulX; simp only [asI.eq_1]; rw [ei, e]; simp only; rw [if_pos hj]; exact h
theorem l_mm {f : Int → Int → Int} (h : QR (.dat (.int (f i j))) μ) : Sat (d2 (dMM f) [.dat (.int i), .dat (.int j)] μ) QR E := h
end
end DL
namespace DL
open PySem PySem.Spec PyProof.Rows L2
section
variable {QR : R → Mem → Prop} {QV : DV → Mem → Prop} {E : Xc → Mem → Prop} {P : PO} {δ δ' : Env} {μ μ' : Mem} {N n i : Nat} {nm m m' : Str} {f : EM} {x : DV} {d : D} {ds : List D} {xs : List DV} {nms : List Str}
theorem s_frz (ei : δ[i]? = some (some (.loc n))) (hN : N ≤ n) (hE : noLocE n (δ.set i none) = true) (hμ : (μ.drop (n + 1)).all (noLocP n) = true) (em : μ[n]? = some (.lst xs)) (ed : allDat xs = some ds) (h : P.nx (δ.set i (some (.dat (.lst ds)))) (μ.set n .gone)) : SatS (gFrz i N δ μ) P := by
  unfold gFrz; rw [ei]; simp only; rw [if_pos ⟨hN, hE, hμ⟩, em]; simp only; rw [ed]; exact h
def FldK (nms : List Str) (m : Str) (x : DV) (μ : Mem) (Q : DV → Prop) : Prop := ∃ nm fs y, insAt μ x = some (nm, fs) ∧ nm ∈ nms ∧ fs.lookup m = some y ∧ Q y
theorem x_fldK (h : Sat (frzV f δ μ) (fun x μ1 => FldK nms m x μ1 fun y => QR (ofV y) μ1) E) : Sat (eFld nms m f δ μ) QR E := x_fld h
theorem fk1 {Q : DV → Prop} (hn : nm ∈ nms) (h : Q (.dat d)) : FldK nms m (.dat (.ins nm [(m, d)])) μ Q := ⟨nm, _, .dat d, rfl, hn, by simp [List.lookup], h⟩
theorem isI_one (h : (m == m') = false) : isI nm m (.dat (.ins nm [(m', d)])) μ = true := by
  unfold isI; simp [insAt, List.lookup, h]
theorem r_D {i : Nat} (h : QR (.dat d) μ) : QR (ofV (.dat d)) μ := h
end
/-! the memory -/
theorem mem_here {μ : Mem} {p : Pl} {X : Mem} : (μ ++ p :: X)[μ.length]? = some p := by simp
theorem mem_set {μ : Mem} {p q : Pl} {X : Mem} : (μ ++ p :: X).set μ.length q = μ ++ q :: X := by simp
theorem mem_take {μ X : Mem} : (μ ++ X).take μ.length = μ := by simp
end DL
/-! Symbolic execution: isinstance by the forms of values; ends. -/
namespace DL
open PySem PySem.Spec PyProof.Rows L2
section
variable {QR : R → Mem → Prop} {E : Xc → Mem → Prop} {P : PO} {δ δ' : Env} {μ μ' : Mem} {N n : Nat} {cls others : List Str} {nm : Str} {d : D} {x : DV}
theorem kb_NoneType_int : kitB "NoneType" "int" = some false := by decide +kernel
theorem kb_NoneType_bool : kitB "NoneType" "bool" = some false := by decide +kernel
theorem kb_NoneType_str : kitB "NoneType" "str" = some false := by decide +kernel
theorem kb_NoneType_tuple : kitB "NoneType" "tuple" = some false := by decide +kernel
theorem kb_NoneType_list : kitB "NoneType" "list" = some false := by decide +kernel
theorem kb_NoneType_dict : kitB "NoneType" "dict" = some false := by decide +kernel
theorem kb_bool_int : kitB "bool" "int" = some true := by decide +kernel
theorem kb_bool_bool : kitB "bool" "bool" = some true := by decide +kernel
theorem kb_bool_str : kitB "bool" "str" = some false := by decide +kernel
theorem kb_bool_tuple : kitB "bool" "tuple" = some false := by decide +kernel
theorem kb_bool_list : kitB "bool" "list" = some false := by decide +kernel
theorem kb_bool_dict : kitB "bool" "dict" = some false := by decide +kernel
theorem kb_int_int : kitB "int" "int" = some true := by decide +kernel
theorem kb_int_bool : kitB "int" "bool" = some false := by decide +kernel
theorem kb_int_str : kitB "int" "str" = some false := by decide +kernel
theorem kb_int_tuple : kitB "int" "tuple" = some false := by decide +kernel
theorem kb_int_list : kitB "int" "list" = some false := by decide +kernel
theorem kb_int_dict : kitB "int" "dict" = some false := by decide +kernel
theorem kb_str_int : kitB "str" "int" = some false := by decide +kernel
theorem kb_str_bool : kitB "str" "bool" = some false := by decide +kernel
theorem kb_str_str : kitB "str" "str" = some true := by decide +kernel
theorem kb_str_tuple : kitB "str" "tuple" = some false := by decide +kernel
theorem kb_str_list : kitB "str" "list" = some false := by decide +kernel
theorem kb_str_dict : kitB "str" "dict" = some false := by decide +kernel
theorem kb_tuple_int : kitB "tuple" "int" = some false := by decide +kernel
theorem kb_tuple_bool : kitB "tuple" "bool" = some false := by decide +kernel
theorem kb_tuple_str : kitB "tuple" "str" = some false := by decide +kernel
theorem kb_tuple_tuple : kitB "tuple" "tuple" = some true := by decide +kernel
theorem kb_tuple_list : kitB "tuple" "list" = some false := by decide +kernel
theorem kb_tuple_dict : kitB "tuple" "dict" = some false := by decide +kernel
theorem kb_list_int : kitB "list" "int" = some false := by decide +kernel
theorem kb_list_bool : kitB "list" "bool" = some false := by decide +kernel
theorem kb_list_str : kitB "list" "str" = some false := by decide +kernel
theorem kb_list_tuple : kitB "list" "tuple" = some false := by decide +kernel
theorem kb_list_list : kitB "list" "list" = some true := by decide +kernel
theorem kb_list_dict : kitB "list" "dict" = some false := by decide +kernel
theorem kb_dict_int : kitB "dict" "int" = some false := by decide +kernel
theorem kb_dict_bool : kitB "dict" "bool" = some false := by decide +kernel
theorem kb_dict_str : kitB "dict" "str" = some false := by decide +kernel
theorem kb_dict_tuple : kitB "dict" "tuple" = some false := by decide +kernel
theorem kb_dict_list : kitB "dict" "list" = some false := by decide +kernel
theorem kb_dict_dict : kitB "dict" "dict" = some true := by decide +kernel
theorem is_non_int (h : QR (.dat (.bl false)) μ) : Sat (dIsi (tabT "int" cls) (.dat .non) μ) QR E := l_isi rfl (show tabT "int" cls (.b "NoneType") = some false from kb_NoneType_int) h
theorem is_non_bool (h : QR (.dat (.bl false)) μ) : Sat (dIsi (tabT "bool" cls) (.dat .non) μ) QR E := l_isi rfl (show tabT "bool" cls (.b "NoneType") = some false from kb_NoneType_bool) h
theorem is_non_str (h : QR (.dat (.bl false)) μ) : Sat (dIsi (tabT "str" cls) (.dat .non) μ) QR E := l_isi rfl (show tabT "str" cls (.b "NoneType") = some false from kb_NoneType_str) h
theorem is_non_tuple (h : QR (.dat (.bl false)) μ) : Sat (dIsi (tabT "tuple" cls) (.dat .non) μ) QR E := l_isi rfl (show tabT "tuple" cls (.b "NoneType") = some false from kb_NoneType_tuple) h
theorem is_non_list (h : QR (.dat (.bl false)) μ) : Sat (dIsi (tabT "list" cls) (.dat .non) μ) QR E := l_isi rfl (show tabT "list" cls (.b "NoneType") = some false from kb_NoneType_list) h
theorem is_non_dict (h : QR (.dat (.bl false)) μ) : Sat (dIsi (tabT "dict" cls) (.dat .non) μ) QR E := l_isi rfl (show tabT "dict" cls (.b "NoneType") = some false from kb_NoneType_dict) h
theorem is2_non_list_tuple (h : QR (.dat (.bl false)) μ) : Sat (dIsi (tabT2 "list" "tuple" cls) (.dat .non) μ) QR E := l_isi rfl (show tabT2 "list" "tuple" cls (.b "NoneType") = some false from by simp only [tabT2, kb_NoneType_list, kb_NoneType_tuple]) h
theorem isC_non (h : QR (.dat (.bl false)) μ) : Sat (dIsi (tabC nm others) (.dat .non) μ) QR E := l_isi rfl (show tabC nm others (.b "NoneType") = some false from by simp [tabC]) h
theorem is_bl_int {b : Bool} (h : QR (.dat (.bl true)) μ) : Sat (dIsi (tabT "int" cls) (.dat (.bl b)) μ) QR E := l_isi rfl (show tabT "int" cls (.b "bool") = some true from kb_bool_int) h
theorem is_bl_bool {b : Bool} (h : QR (.dat (.bl true)) μ) : Sat (dIsi (tabT "bool" cls) (.dat (.bl b)) μ) QR E := l_isi rfl (show tabT "bool" cls (.b "bool") = some true from kb_bool_bool) h
theorem is_bl_str {b : Bool} (h : QR (.dat (.bl false)) μ) : Sat (dIsi (tabT "str" cls) (.dat (.bl b)) μ) QR E := l_isi rfl (show tabT "str" cls (.b "bool") = some false from kb_bool_str) h
theorem is_bl_tuple {b : Bool} (h : QR (.dat (.bl false)) μ) : Sat (dIsi (tabT "tuple" cls) (.dat (.bl b)) μ) QR E := l_isi rfl (show tabT "tuple" cls (.b "bool") = some false from kb_bool_tuple) h
theorem is_bl_list {b : Bool} (h : QR (.dat (.bl false)) μ) : Sat (dIsi (tabT "list" cls) (.dat (.bl b)) μ) QR E := l_isi rfl (show tabT "list" cls (.b "bool") = some false from kb_bool_list) h
theorem is_bl_dict {b : Bool} (h : QR (.dat (.bl false)) μ) : Sat (dIsi (tabT "dict" cls) (.dat (.bl b)) μ) QR E := l_isi rfl (show tabT "dict" cls (.b "bool") = some false from kb_bool_dict) h
theorem is2_bl_list_tuple {b : Bool} (h : QR (.dat (.bl false)) μ) : Sat (dIsi (tabT2 "list" "tuple" cls) (.dat (.bl b)) μ) QR E := l_isi rfl (show tabT2 "list" "tuple" cls (.b "bool") = some false from by simp only [tabT2, kb_bool_list, kb_bool_tuple]) h
theorem isC_bl {b : Bool} (h : QR (.dat (.bl false)) μ) : Sat (dIsi (tabC nm others) (.dat (.bl b)) μ) QR E := l_isi rfl (show tabC nm others (.b "bool") = some false from by simp [tabC]) h
theorem is_int_int {i : Int} (h : QR (.dat (.bl true)) μ) : Sat (dIsi (tabT "int" cls) (.dat (.int i)) μ) QR E := l_isi rfl (show tabT "int" cls (.b "int") = some true from kb_int_int) h
theorem is_int_bool {i : Int} (h : QR (.dat (.bl false)) μ) : Sat (dIsi (tabT "bool" cls) (.dat (.int i)) μ) QR E := l_isi rfl (show tabT "bool" cls (.b "int") = some false from kb_int_bool) h
theorem is_int_str {i : Int} (h : QR (.dat (.bl false)) μ) : Sat (dIsi (tabT "str" cls) (.dat (.int i)) μ) QR E := l_isi rfl (show tabT "str" cls (.b "int") = some false from kb_int_str) h
theorem is_int_tuple {i : Int} (h : QR (.dat (.bl false)) μ) : Sat (dIsi (tabT "tuple" cls) (.dat (.int i)) μ) QR E := l_isi rfl (show tabT "tuple" cls (.b "int") = some false from kb_int_tuple) h
theorem is_int_list {i : Int} (h : QR (.dat (.bl false)) μ) : Sat (dIsi (tabT "list" cls) (.dat (.int i)) μ) QR E := l_isi rfl (show tabT "list" cls (.b "int") = some false from kb_int_list) h
theorem is_int_dict {i : Int} (h : QR (.dat (.bl false)) μ) : Sat (dIsi (tabT "dict" cls) (.dat (.int i)) μ) QR E := l_isi rfl (show tabT "dict" cls (.b "int") = some false from kb_int_dict) h
theorem is2_int_list_tuple {i : Int} (h : QR (.dat (.bl false)) μ) : Sat (dIsi (tabT2 "list" "tuple" cls) (.dat (.int i)) μ) QR E := l_isi rfl (show tabT2 "list" "tuple" cls (.b "int") = some false from by simp only [tabT2, kb_int_list, kb_int_tuple]) h
theorem isC_int {i : Int} (h : QR (.dat (.bl false)) μ) : Sat (dIsi (tabC nm others) (.dat (.int i)) μ) QR E := l_isi rfl (show tabC nm others (.b "int") = some false from by simp [tabC]) h
theorem is_str_int {s : Str} (h : QR (.dat (.bl false)) μ) : Sat (dIsi (tabT "int" cls) (.dat (.str s)) μ) QR E := l_isi rfl (show tabT "int" cls (.b "str") = some false from kb_str_int) h
theorem is_str_bool {s : Str} (h : QR (.dat (.bl false)) μ) : Sat (dIsi (tabT "bool" cls) (.dat (.str s)) μ) QR E := l_isi rfl (show tabT "bool" cls (.b "str") = some false from kb_str_bool) h
theorem is_str_str {s : Str} (h : QR (.dat (.bl true)) μ) : Sat (dIsi (tabT "str" cls) (.dat (.str s)) μ) QR E := l_isi rfl (show tabT "str" cls (.b "str") = some true from kb_str_str) h
theorem is_str_tuple {s : Str} (h : QR (.dat (.bl false)) μ) : Sat (dIsi (tabT "tuple" cls) (.dat (.str s)) μ) QR E := l_isi rfl (show tabT "tuple" cls (.b "str") = some false from kb_str_tuple) h
theorem is_str_list {s : Str} (h : QR (.dat (.bl false)) μ) : Sat (dIsi (tabT "list" cls) (.dat (.str s)) μ) QR E := l_isi rfl (show tabT "list" cls (.b "str") = some false from kb_str_list) h
theorem is_str_dict {s : Str} (h : QR (.dat (.bl false)) μ) : Sat (dIsi (tabT "dict" cls) (.dat (.str s)) μ) QR E := l_isi rfl (show tabT "dict" cls (.b "str") = some false from kb_str_dict) h
theorem is2_str_list_tuple {s : Str} (h : QR (.dat (.bl false)) μ) : Sat (dIsi (tabT2 "list" "tuple" cls) (.dat (.str s)) μ) QR E := l_isi rfl (show tabT2 "list" "tuple" cls (.b "str") = some false from by simp only [tabT2, kb_str_list, kb_str_tuple]) h
theorem isC_str {s : Str} (h : QR (.dat (.bl false)) μ) : Sat (dIsi (tabC nm others) (.dat (.str s)) μ) QR E := l_isi rfl (show tabC nm others (.b "str") = some false from by simp [tabC]) h
theorem is_tup_int {ds : List D} (h : QR (.dat (.bl false)) μ) : Sat (dIsi (tabT "int" cls) (.dat (.tup ds)) μ) QR E := l_isi rfl (show tabT "int" cls (.b "tuple") = some false from kb_tuple_int) h
theorem is_tup_bool {ds : List D} (h : QR (.dat (.bl false)) μ) : Sat (dIsi (tabT "bool" cls) (.dat (.tup ds)) μ) QR E := l_isi rfl (show tabT "bool" cls (.b "tuple") = some false from kb_tuple_bool) h
theorem is_tup_str {ds : List D} (h : QR (.dat (.bl false)) μ) : Sat (dIsi (tabT "str" cls) (.dat (.tup ds)) μ) QR E := l_isi rfl (show tabT "str" cls (.b "tuple") = some false from kb_tuple_str) h
theorem is_tup_tuple {ds : List D} (h : QR (.dat (.bl true)) μ) : Sat (dIsi (tabT "tuple" cls) (.dat (.tup ds)) μ) QR E := l_isi rfl (show tabT "tuple" cls (.b "tuple") = some true from kb_tuple_tuple) h
theorem is_tup_list {ds : List D} (h : QR (.dat (.bl false)) μ) : Sat (dIsi (tabT "list" cls) (.dat (.tup ds)) μ) QR E := l_isi rfl (show tabT "list" cls (.b "tuple") = some false from kb_tuple_list) h
theorem is_tup_dict {ds : List D} (h : QR (.dat (.bl false)) μ) : Sat (dIsi (tabT "dict" cls) (.dat (.tup ds)) μ) QR E := l_isi rfl (show tabT "dict" cls (.b "tuple") = some false from kb_tuple_dict) h
theorem is2_tup_list_tuple {ds : List D} (h : QR (.dat (.bl true)) μ) : Sat (dIsi (tabT2 "list" "tuple" cls) (.dat (.tup ds)) μ) QR E := l_isi rfl (show tabT2 "list" "tuple" cls (.b "tuple") = some true from by simp only [tabT2, kb_tuple_list, kb_tuple_tuple]) h
theorem isC_tup {ds : List D} (h : QR (.dat (.bl false)) μ) : Sat (dIsi (tabC nm others) (.dat (.tup ds)) μ) QR E := l_isi rfl (show tabC nm others (.b "tuple") = some false from by simp [tabC]) h
theorem is_lst_int {ds : List D} (h : QR (.dat (.bl false)) μ) : Sat (dIsi (tabT "int" cls) (.dat (.lst ds)) μ) QR E := l_isi rfl (show tabT "int" cls (.b "list") = some false from kb_list_int) h
theorem is_lst_bool {ds : List D} (h : QR (.dat (.bl false)) μ) : Sat (dIsi (tabT "bool" cls) (.dat (.lst ds)) μ) QR E := l_isi rfl (show tabT "bool" cls (.b "list") = some false from kb_list_bool) h
theorem is_lst_str {ds : List D} (h : QR (.dat (.bl false)) μ) : Sat (dIsi (tabT "str" cls) (.dat (.lst ds)) μ) QR E := l_isi rfl (show tabT "str" cls (.b "list") = some false from kb_list_str) h
theorem is_lst_tuple {ds : List D} (h : QR (.dat (.bl false)) μ) : Sat (dIsi (tabT "tuple" cls) (.dat (.lst ds)) μ) QR E := l_isi rfl (show tabT "tuple" cls (.b "list") = some false from kb_list_tuple) h
theorem is_lst_list {ds : List D} (h : QR (.dat (.bl true)) μ) : Sat (dIsi (tabT "list" cls) (.dat (.lst ds)) μ) QR E := l_isi rfl (show tabT "list" cls (.b "list") = some true from kb_list_list) h
theorem is_lst_dict {ds : List D} (h : QR (.dat (.bl false)) μ) : Sat (dIsi (tabT "dict" cls) (.dat (.lst ds)) μ) QR E := l_isi rfl (show tabT "dict" cls (.b "list") = some false from kb_list_dict) h
theorem is2_lst_list_tuple {ds : List D} (h : QR (.dat (.bl true)) μ) : Sat (dIsi (tabT2 "list" "tuple" cls) (.dat (.lst ds)) μ) QR E := l_isi rfl (show tabT2 "list" "tuple" cls (.b "list") = some true from by simp only [tabT2, kb_list_list]) h
theorem isC_lst {ds : List D} (h : QR (.dat (.bl false)) μ) : Sat (dIsi (tabC nm others) (.dat (.lst ds)) μ) QR E := l_isi rfl (show tabC nm others (.b "list") = some false from by simp [tabC]) h
theorem is_fro_int {ds : List D} (h : QR (.dat (.bl false)) μ) : Sat (dIsi (tabT "int" cls) (.dat (.fro ds)) μ) QR E := l_isi rfl (show tabT "int" cls (.b "list") = some false from kb_list_int) h
theorem is_fro_bool {ds : List D} (h : QR (.dat (.bl false)) μ) : Sat (dIsi (tabT "bool" cls) (.dat (.fro ds)) μ) QR E := l_isi rfl (show tabT "bool" cls (.b "list") = some false from kb_list_bool) h
theorem is_fro_str {ds : List D} (h : QR (.dat (.bl false)) μ) : Sat (dIsi (tabT "str" cls) (.dat (.fro ds)) μ) QR E := l_isi rfl (show tabT "str" cls (.b "list") = some false from kb_list_str) h
theorem is_fro_tuple {ds : List D} (h : QR (.dat (.bl false)) μ) : Sat (dIsi (tabT "tuple" cls) (.dat (.fro ds)) μ) QR E := l_isi rfl (show tabT "tuple" cls (.b "list") = some false from kb_list_tuple) h
theorem is_fro_list {ds : List D} (h : QR (.dat (.bl true)) μ) : Sat (dIsi (tabT "list" cls) (.dat (.fro ds)) μ) QR E := l_isi rfl (show tabT "list" cls (.b "list") = some true from kb_list_list) h
theorem is_fro_dict {ds : List D} (h : QR (.dat (.bl false)) μ) : Sat (dIsi (tabT "dict" cls) (.dat (.fro ds)) μ) QR E := l_isi rfl (show tabT "dict" cls (.b "list") = some false from kb_list_dict) h
theorem is2_fro_list_tuple {ds : List D} (h : QR (.dat (.bl true)) μ) : Sat (dIsi (tabT2 "list" "tuple" cls) (.dat (.fro ds)) μ) QR E := l_isi rfl (show tabT2 "list" "tuple" cls (.b "list") = some true from by simp only [tabT2, kb_list_list]) h
theorem isC_fro {ds : List D} (h : QR (.dat (.bl false)) μ) : Sat (dIsi (tabC nm others) (.dat (.fro ds)) μ) QR E := l_isi rfl (show tabC nm others (.b "list") = some false from by simp [tabC]) h
theorem is_dct_int {kvs : List (Ky × D)} (h : QR (.dat (.bl false)) μ) : Sat (dIsi (tabT "int" cls) (.dat (.dct kvs)) μ) QR E := l_isi rfl (show tabT "int" cls (.b "dict") = some false from kb_dict_int) h
theorem is_dct_bool {kvs : List (Ky × D)} (h : QR (.dat (.bl false)) μ) : Sat (dIsi (tabT "bool" cls) (.dat (.dct kvs)) μ) QR E := l_isi rfl (show tabT "bool" cls (.b "dict") = some false from kb_dict_bool) h
theorem is_dct_str {kvs : List (Ky × D)} (h : QR (.dat (.bl false)) μ) : Sat (dIsi (tabT "str" cls) (.dat (.dct kvs)) μ) QR E := l_isi rfl (show tabT "str" cls (.b "dict") = some false from kb_dict_str) h
theorem is_dct_tuple {kvs : List (Ky × D)} (h : QR (.dat (.bl false)) μ) : Sat (dIsi (tabT "tuple" cls) (.dat (.dct kvs)) μ) QR E := l_isi rfl (show tabT "tuple" cls (.b "dict") = some false from kb_dict_tuple) h
theorem is_dct_list {kvs : List (Ky × D)} (h : QR (.dat (.bl false)) μ) : Sat (dIsi (tabT "list" cls) (.dat (.dct kvs)) μ) QR E := l_isi rfl (show tabT "list" cls (.b "dict") = some false from kb_dict_list) h
theorem is_dct_dict {kvs : List (Ky × D)} (h : QR (.dat (.bl true)) μ) : Sat (dIsi (tabT "dict" cls) (.dat (.dct kvs)) μ) QR E := l_isi rfl (show tabT "dict" cls (.b "dict") = some true from kb_dict_dict) h
theorem is2_dct_list_tuple {kvs : List (Ky × D)} (h : QR (.dat (.bl false)) μ) : Sat (dIsi (tabT2 "list" "tuple" cls) (.dat (.dct kvs)) μ) QR E := l_isi rfl (show tabT2 "list" "tuple" cls (.b "dict") = some false from by simp only [tabT2, kb_dict_list, kb_dict_tuple]) h
theorem isC_dct {kvs : List (Ky × D)} (h : QR (.dat (.bl false)) μ) : Sat (dIsi (tabC nm others) (.dat (.dct kvs)) μ) QR E := l_isi rfl (show tabC nm others (.b "dict") = some false from by simp [tabC]) h
theorem isC_own {fs : List (Str × D)} (h : QR (.dat (.bl true)) μ) : Sat (dIsi (tabC nm others) (.dat (.ins nm fs)) μ) QR E := l_isi rfl (show tabC nm others (.c nm) = some true from by simp [tabC]) h
theorem is_ins_int {fs : List (Str × D)} (hn : nm ∈ cls) (h : QR (.dat (.bl false)) μ) : Sat (dIsi (tabT "int" cls) (.dat (.ins nm fs)) μ) QR E := l_isi rfl (show tabT "int" cls (.c nm) = some false from by simp [tabT, tabT2, hn]) h
theorem is_ins_bool {fs : List (Str × D)} (hn : nm ∈ cls) (h : QR (.dat (.bl false)) μ) : Sat (dIsi (tabT "bool" cls) (.dat (.ins nm fs)) μ) QR E := l_isi rfl (show tabT "bool" cls (.c nm) = some false from by simp [tabT, tabT2, hn]) h
theorem is_ins_str {fs : List (Str × D)} (hn : nm ∈ cls) (h : QR (.dat (.bl false)) μ) : Sat (dIsi (tabT "str" cls) (.dat (.ins nm fs)) μ) QR E := l_isi rfl (show tabT "str" cls (.c nm) = some false from by simp [tabT, tabT2, hn]) h
theorem is_ins_tuple {fs : List (Str × D)} (hn : nm ∈ cls) (h : QR (.dat (.bl false)) μ) : Sat (dIsi (tabT "tuple" cls) (.dat (.ins nm fs)) μ) QR E := l_isi rfl (show tabT "tuple" cls (.c nm) = some false from by simp [tabT, tabT2, hn]) h
theorem is_ins_list {fs : List (Str × D)} (hn : nm ∈ cls) (h : QR (.dat (.bl false)) μ) : Sat (dIsi (tabT "list" cls) (.dat (.ins nm fs)) μ) QR E := l_isi rfl (show tabT "list" cls (.c nm) = some false from by simp [tabT, tabT2, hn]) h
theorem is_ins_dict {fs : List (Str × D)} (hn : nm ∈ cls) (h : QR (.dat (.bl false)) μ) : Sat (dIsi (tabT "dict" cls) (.dat (.ins nm fs)) μ) QR E := l_isi rfl (show tabT "dict" cls (.c nm) = some false from by simp [tabT, tabT2, hn]) h
theorem is2_ins {T U : String} {fs : List (Str × D)} (hn : nm ∈ cls) (h : QR (.dat (.bl false)) μ) : Sat (dIsi (tabT2 T U cls) (.dat (.ins nm fs)) μ) QR E := l_isi rfl (show tabT2 T U cls (.c nm) = some false from by simp [tabT, tabT2, hn]) h
/-! ends of a def -/
theorem e_dat (e : μ'.take N = μ) (h : QR (.dat d) μ) : (endP N QR E).rt (.dat d) μ' := k_dat (E := E) e h
theorem e_ofD (e : μ'.take N = μ) (h : QR (.dat d) μ) : (endP N QR E).rt (ofV (.dat d)) μ' := k_dat (E := E) e h
theorem e_nlf {γ : Type} {f : γ → D} {ys : List γ} (e : μ'.take N = μ) (h : QR (.nl (ys.map fun y => .dat (f y))) μ) : (endP N QR E).rt (.nl (ys.map fun y => .dat (f y))) μ' := k_nlf (E := E) e h
theorem e_nlm {ds : List D} (e : μ'.take N = μ) (h : QR (.nl (ds.map DV.dat)) μ) : (endP N QR E).rt (.nl (ds.map DV.dat)) μ' := k_nl (E := E) e (below_map ds) h
theorem e_nl {xs : List DV} (e : μ'.take N = μ) (hb : belowA N xs = true) (h : QR (.nl xs) μ) : (endP N QR E).rt (.nl xs) μ' := k_nl (E := E) e hb h
theorem e_nx (e : μ'.take N = μ) (h : QR (.dat .non) μ) : (endP N QR E).nx δ μ' := by show QR (.dat .non) (μ'.take N); rw [e]; exact h
theorem take_cons {p q : Pl} {ν : Mem} : (p :: ν).take (q :: ν).length = p :: ν := List.take_of_length_le (by simp)
theorem take_consA {p q : Pl} {ν X : Mem} : (p :: (ν ++ X)).take (q :: ν).length = p :: ν := by simp
end
end DL
namespace DL
section
variable {Q Q' : Prop} {b : Bool}
theorem if_bT (e : b = true) (h : Q) : if b = true then Q else Q' := by rw [if_pos e]; exact h
theorem if_bF (e : b = false) (h : Q') : if b = true then Q else Q' := by rw [if_neg (by rw [e]; exact Bool.false_ne_true)]; exact h
end
end DL
namespace DL
open PySem PySem.Spec PyProof.Rows L2
section
variable {E : Xc → Mem → Prop} {P : PO} {δ δ' : Env} {μ μ' : Mem} {N : Nat} {nm m : Str} {d : D} {nms : List Str}
theorem gS {o : Out} (h : SatS o P) : SatS o P := h
theorem gR {r : Res R} {Q : R → Mem → Prop} (h : Sat r Q E) : Sat r Q E := h
theorem gV {r : Res DV} {Q : DV → Mem → Prop} (h : Sat r Q E) : Sat r Q E := h
theorem gA {r : Res (List DV)} {Q : List DV → Mem → Prop} (h : Sat r Q E) : Sat r Q E := h
theorem gT {r : Res Bool} {Q : Bool → Mem → Prop} (h : Sat r Q E) : Sat r Q E := h
theorem gO {r : Res (Option Int)} {Q : Option Int → Mem → Prop} (h : Sat r Q E) : Sat r Q E := h
theorem gI {r : Res (List D)} {Q : List D → Mem → Prop} (h : Sat r Q E) : Sat r Q E := h
theorem gF {r : R} {Q : DV → Mem → Prop} (h : FzK r μ Q) : FzK r μ Q := h
theorem gC {b : Bool} {Q Q' : Prop} (h : if b = true then Q else Q') : if b = true then Q else Q' := h
theorem gRt {r : R} {QR : R → Mem → Prop} (h : (endP N QR E).rt r μ) : (endP N QR E).rt r μ := h
theorem gNx {QR : R → Mem → Prop} (h : (endP N QR E).nx δ μ) : (endP N QR E).nx δ μ := h
theorem init1 (h : nm ∈ nms) : setFld nms (μ ++ [.own] ++ [.ins nm []]) (.loc (μ.length + 1)) m (.dat d) = some (μ ++ [.own] ++ [.ins nm [(m, .dat d)]]) := by
  have e : (μ ++ [.own] ++ [Pl.ins nm []])[μ.length + 1]? = some (.ins nm []) := by simp
  unfold setFld; simp only [e]; rw [if_pos ⟨h, by decide, rfl⟩]; simp [putD]
theorem init1_end {QR : R → Mem → Prop} (h : QR (.dat (.ins nm [(m, d)])) μ) : MkK μ.length QR (.dat .non) (μ ++ [.own] ++ [.ins nm [(m, .dat d)]]) :=
  ⟨nm, [(m, .dat d)], [d], rfl, by simp, rfl, by simpa using h⟩
end
end DL
/-! Data that == and repr take, by its form; alike. -/
namespace DL
open PySem PySem.Spec PyProof.Rows L2
def FitD (k w : Nat) (d : D) : Prop := ∃ p, toPy d = some p ∧ Fit k w p
section
variable {k k' w w' n : Nat} {d : D} {ds : List D} {i : Int} {s : Str} {μ : Mem} {x y : DV} {QR : R → Mem → Prop} {E : Xc → Mem → Prop}
theorem FitD.mono (h : FitD k w d) (hk : k ≤ k') (hw : w ≤ w') : FitD k' w' d := let ⟨p, a, b⟩ := h; ⟨p, a, b.mono hk hw⟩
theorem fd_non : FitD k w .non := ⟨_, rfl, fit_none.mono (Nat.zero_le _) (Nat.zero_le _)⟩
theorem fd_bl {b : Bool} : FitD k w (.bl b) := ⟨_, rfl, (fit_bool b).mono (Nat.zero_le _) (Nat.zero_le _)⟩
theorem fd_str (h : PyData.strOk s = true) (hw : s.cps.size ≤ w) : FitD k w (.str s) := ⟨_, rfl, (fit_str h hw).mono (Nat.zero_le _) (Nat.le_refl _)⟩
theorem fit_int (h : i.natAbs < 10 ^ 12) : Fit 0 40 (.int i) := by
  refine ⟨rfl, Nat.zero_le _, ?_, ?_, ?_⟩
  · simp only [PyData.weight]
    split
    · exact Nat.zero_le _
    · rename_i h0
      have h1 : i.natAbs ≠ 0 := by simpa using h0
      have := (Nat.log2_lt h1 (k := 40)).mpr (Nat.lt_of_lt_of_le h (by decide))
      omega
  · simp only [PyData.showable, decide_eq_true_eq]
    by_cases h1 : i.natAbs = 0
    · rw [h1]; decide
    · have := (Nat.log2_lt h1 (k := 40)).mpr (Nat.lt_of_lt_of_le h (by decide))
      omega
  · simp only [PyData.intsShort, decide_eq_true_eq]; exact PyData.shown_int_le h
theorem fd_int (h : i.natAbs < 10 ^ 12) (hw : 40 ≤ w) : FitD k w (.int i) := ⟨_, rfl, (fit_int h).mono (Nat.zero_le _) hw⟩
theorem toPyL_fitD : ∀ {ds : List D}, (∀ d ∈ ds, FitD k w d) → ∃ ps, toPyL ds = some ps ∧ ps.length = ds.length ∧ ∀ p ∈ ps, Fit k w p := fun {ds} h => toPyL_fit ds h
theorem fd_tup (h : ∀ d ∈ ds, FitD k w d) (hn : ds.length ≤ n) : FitD (k + 1) (n * (w + 1)) (.tup ds) := by
  obtain ⟨ps, e, el, hp⟩ := toPyL_fitD h
  exact ⟨.tuple ps, by simp only [toPy, e]; rfl, fit_tuple hp (by omega)⟩
theorem fd_lst (h : ∀ d ∈ ds, FitD k w d) (hn : ds.length ≤ n) : FitD (k + 1) (n * (w + 1)) (.lst ds) := by
  obtain ⟨ps, e, el, hp⟩ := toPyL_fitD h
  exact ⟨.list ps, by simp only [toPy, e]; rfl, fit_list hp (by omega)⟩
theorem pk_dat : peek μ (.dat d) = some d := peekK_dat 5 μ d
theorem peekPy_of {p : PyData} (h : peek μ x = some d) (hp : toPy d = some p) : peekPy μ x = some p := by unfold peekPy; rw [h]; exact hp
theorem l_eqSame (hx : peek μ x = some d) (hy : peek μ y = some d) (h : FitD k w d) (hk : k ≤ 64) (q : QR (.dat (.bl true)) μ) : Sat (dEq x y μ) QR E := by
  obtain ⟨p, hp, hf⟩ := h
  rw [eq_same (peekPy_of hx hp) (peekPy_of hy hp) hf hk]; exact q
theorem l_repr {p : PyData} (hx : peek μ x = some d) (hp : toPy d = some p) (h : Fit k w p) (hk : k ≤ 64) (hw : w ≤ 2 ^ 20) (q : QR (.dat (.str p.shown)) μ) : Sat (d1 dRepr [x] μ) QR E := by
  rw [repr_same (peekPy_of hx hp) h hk hw]; exact q
/-! alike -/
def gAlike : SM := (gRet (eAnd (eOp dEq (eVar 0) (eVar 1)) (eOp dEq (eCB (d1 dRepr) (aCons (eVar 0) aNil)) (eCB (d1 dRepr) (aCons (eVar 1) aNil)))))
theorem alike_same (hx : peek μ x = some d) (hy : peek μ y = some d) (h : FitD k w d) (hk : k ≤ 64) (hw : w ≤ 2 ^ 20) (q : QR (.dat (.bl true)) μ) : Sat (callD gAlike 2 0 [x, y] μ) QR E := by
  obtain ⟨p, hp, hf⟩ := h
  refine x_call rfl ?_
  show SatS (gAlike μ.length [some x, some y] μ) _
  unfold gAlike
  refine s_ret (x_and (x_op (v_var rfl (v_var rfl (l_eqSame hx hy ⟨p, hp, hf⟩ hk (b_bl (if_T ?_)))))))
  refine x_op (x_fz (x_cb (a_consK (v_var rfl (a_nilK (l_repr hx hp hf hk hw (z_dat ?_)))))))
  refine x_fz (x_cb (a_consK (v_var rfl (a_nilK (l_repr hy hp hf hk hw (z_dat (l_eqS ?_)))))))
  rw [decide_eq_true rfl]
  exact e_dat List.take_length q
end
end DL
/-! what an error's class is known by -/
namespace DX
open PySem PySem.W PySem.Calls PyProof.Rows PySem.HandSPX
theorem errTxt_mk {prog : Program} {K : Frag} {mg : Str → Option Value} {nm f : Str} {C fI : Addr} {nm' q' : Str} {N : Addr} {bs bm : List Value} {sn : List Str} {sub : List Value} {ab : Bool} {col : Option Bool} {dd : Option Addr} {k0 k1 k2 k3 k5 : Option Value}
    {oc : Value} {od : Option Addr} {doc pm : Value} {an : Option Addr} {ct : Value} {osl : Array (Option Value)} {qual : Str} {p1 p2 q1 q2 q3 q4 q5 q6 q7 q8 q9 q10 : Pos} {cda cc : Addr} {ccl cl : Value} {cdd cld : Option Addr} {vs : Array Value} {ccs csl : Array (Option Value)} {file : Str} {tf : Tok} {pl : Sem Bool}
    (gC : mg nm = some (.ref C)) (lk : K.lookup C = some (excClassObj nm' q' C N bs bm true sn sub ab col dd k0 k1 k2 k3 k5 "ValueError.__new__"))
    (sa : findIn K (.ref C) "__setattr__" = some (some (.builtin "object.__setattr__")))
    (ga : findIn K (.ref C) "__getattribute__" = some (some (.builtin "BaseException.__getattribute__")))
    (gg : findIn K (.ref C) "__getattr__" = some none) (noN : findIn K (.ref C) f = some none) (iC : findIn K (.ref C) "__init__" = some (some (.ref fI)))
    (tC : typeIn K (.ref fI) = some (.type "function")) (kC : keepIn K (.ref C) = true) (exC : subIn K (.ref C) (.type "BaseException") = some true)
    (exV : subIn K (.ref C) (.type "ValueError") = some true) (tyC : typeIn K (.ref C) = some (.type "type")) (hdC : hasDictIn K C = true)
    (su : ks_superIn K C C "__init__" = some (some (.builtin "ValueError.__init__"))) (mr : mroIn K C (.ref C) = some true)
    (op : nsIn K cStatics "thirdparty.any" = some none) (ms : mg "super" = none)
    (lfn : K.lookup fI = some ⟨oc, od, .func (ksFn "__init__" qual (eArgs f p1 p2) (eBody f q1 q2 q3 q4 q5 q6 q7 q8 q9 q10) (eScope f) .none .none doc pm an (.ref cda) ct cc), osl⟩)
    (cod : codeIn K (.ref cda) qual = true) (lcd : K.lookup cda = some ⟨ccl, cdd, .fields vs, ccs⟩) (lcc : K.lookup cc = some ⟨cl, cld, .cell (some (.ref C)), csl⟩)
    (rv : refsVE bm = true) (top : (prog.main.scope.names.lookup ("super" : Str)).isSome = false) (fs : (f == ("self" : Str)) = false) (fd : (f == ("__debug__" : Str)) = false)
    (lf : (eScope f).names.lookup f = some .local) (lc : (eScope f).names.lookup ("__class__" : Str) = some .free) (ls : (eScope f).names.lookup ("super" : Str) = some .globalImplicit)
    (bd : ∀ (qual : Str) (p1 p2 : Pos) (bo : List Stmt) (doc pm : Value) (an : Option Addr) (cd ct : Value) (cc : Addr) (a b : Value), bindArgs (ksFn "__init__" qual (eArgs f p1 p2) bo (eScope f) .none .none doc pm an cd ct cc) ⟨[a, b], []⟩ = pure [(PySem.Str.ofString "self", a), (f, b)])
    (v2 : vs[2]? = some (.str file tf)) (fl : ((prog.main.file : Str) == file) = true)
    (ev : ∀ env : Env, eval (.Call (.Attribute (.Call (.Name "super" q1) [] [] q2) "__init__" q3) [.Name f q4] [] q5) env = (do
      let ov ← attributeBase (.Call (.Name "super" q1) [] [] q2) "__init__" env (eval (.Call (.Name "super" q1) [] [] q2) env)
      standAt q3.atName
      let (f1, first) ← holding [ov] (getMethod ov "__init__" pl)
      callWith q5 f1 first (backTo q5 (starEach [.Name f q4] env)) []))
    (s1 : ∀ env : Env, swapsWith (.Call (.Attribute (.Call (.Name "super" q1) [] [] q2) "__init__" q3) [.Name f q4] [] q5) none q6.line env = pure false)
    (s2 : ∀ env : Env, swapsWith (.Name f q9) (some (.Attribute (.Name "self" q7) f q8)) q10.line env = pure false) : ErrTxt prog K mg nm f C fI :=
  ⟨gC, ⟨nm', q', N, bs, bm, sn, sub, ab, col, dd, k0, k1, k2, k3, k5, lk, rv⟩, sa, ga, gg, noN, iC, tC, kC, exC, exV, tyC, hdC, su, mr, op, ms, top, fs, fd, lf, lc, ls, bd,
   ⟨oc, od, doc, pm, an, ct, osl, qual, p1, p2, q1, q2, q3, q4, q5, q6, q7, q8, q9, q10, cda, cc, ccl, cl, cdd, cld, vs, ccs, csl, file, tf, pl, lfn, cod, lcd, v2, fl, lcc, ev, s1, s2⟩⟩
end DX
namespace DL
open PySem PySem.Spec PyProof.Rows L2 DR
theorem pm_kgetK {K : PySem.W.Frag} {w : World} {X : Cx} {W : WX} {x : Str} {p apos cpos : Pos} {e : Expr} {te : TE} {f : EM} {tab : List (Str × Str)} {d : Addr} {es : Array DictEntry} {n : Nat} (D : KDict K w d es n) (hk : es.toList.map strs2 = tab.map some) (hg : Gl X x) (hm : X.mg x = some (.ref d)) (he : PM X W e te f)
    (hK : X.K = K := by rfl) (hw : X.w = w := by rfl) (m : M1 X (.Name x p) "get" apos e cpos := by exact ⟨rfl, rfl, rfl, rfl⟩) (hd : (x == ("__debug__" : Str)) = false := by decide) : PM X W (.Call (.Attribute (.Name x p) "get" apos) [e] [] cpos) (tKGet K d te) (eKGet tab f) := by
  subst hK hw; exact pm_kget D hk hg hm he m hd
/-- one of two rules -/
def altE (f g : EM) : EM := fun δ μ => altR (f δ μ) (g δ μ)
theorem pm_alt {X : Cx} {W : WX} {e : Expr} {t u : TE} {f g : EM} (h1 : PM X W e t f) (h2 : PM X W e u g) : PM X W e (fun σ H Q => t σ H Q ∨ u σ H Q) (altE f g) :=
  ⟨⟨fun pins s σ H Q I h => h.elim (h1.pe.run pins s σ H Q I) (h2.pe.run pins s σ H Q I)⟩, fun ρ G H σ δ μ Q R E hp => by
    unfold altE altR at hp
    cases e : f δ μ with
    | bad => rw [e] at hp; exact .inr (h2.sd ρ G H σ δ μ Q R E hp)
    | ok a m => rw [e] at hp; exact .inl (h1.sd ρ G H σ δ μ Q R E (by rw [e]; exact hp))
    | exc a m => rw [e] at hp; exact .inl (h1.sd ρ G H σ δ μ Q R E (by rw [e]; exact hp))⟩
/-! ### how they run -/
section
variable {α : Type} {Q : α → Mem → Prop} {QR : R → Mem → Prop} {QI : List D → Mem → Prop} {E : Xc → Mem → Prop} {μ ν : Mem} {δ : Env} {N : Nat} {P : PO}
theorem sat_alt {a b : Res α} (h : Sat a Q E) : Sat (altR a b) Q E := by
  cases a with
  | bad => exact h.elim
  | ok x m => exact h
  | exc x m => exact h
theorem sat_altR {a b : Res α} (e : a = .bad) (h : Sat b Q E) : Sat (altR a b) Q E := by subst e; exact h
theorem l_alt {g g' : DV → DV → Mem → Res R} {x y : DV} (h : Sat (g x y μ) QR E) : Sat (alt2 g g' x y μ) QR E := sat_alt h
theorem l_altR {g g' : DV → DV → Mem → Res R} {x y : DV} (e : g x y μ = .bad) (h : Sat (g' x y μ) QR E) : Sat (alt2 g g' x y μ) QR E := sat_altR e h
theorem l_alt1 {g g' : List DV → Mem → Res R} {xs : List DV} (h : Sat (g xs μ) QR E) : Sat (alt1 g g' xs μ) QR E := sat_alt h
theorem l_alt1R {g g' : List DV → Mem → Res R} {xs : List DV} (e : g xs μ = .bad) (h : Sat (g' xs μ) QR E) : Sat (alt1 g g' xs μ) QR E := sat_altR e h
theorem w_ix {x y : DV} (h : Sat (dIx x y μ) QR E) : Sat (dIxA x y μ) QR E := sat_alt h
theorem w_in {neg : Bool} {x y : DV} (h : Sat (dIn neg x y μ) QR E) : Sat (dInA neg x y μ) QR E := sat_alt h
theorem w_eq {x y : DV} (h : Sat (dEq x y μ) QR E) : Sat (dEqA x y μ) QR E := sat_alt h
theorem w_len {xs : List DV} (h : Sat (d1 dLen xs μ) QR E) : Sat (dLenA xs μ) QR E := sat_alt h
theorem w_list {xs : List DV} (h : Sat (d1 dList xs μ) QR E) : Sat (dListA xs μ) QR E := sat_alt h
theorem w_repr {xs : List DV} (h : Sat (d1 dRepr xs μ) QR E) : Sat (dReprA xs μ) QR E := sat_alt h
theorem x_alt {f g : EM} (h : Sat (f δ μ) QR E) : Sat (altE f g δ μ) QR E := sat_alt h
theorem x_altR {f g : EM} (e : f δ μ = .bad) (h : Sat (g δ μ) QR E) : Sat (altE f g δ μ) QR E := sat_altR e h
/-! dicts as data -/
theorem dK_in {neg : Bool} {k : Key} {kvs : List (Ky × D)} {y : DV} (hy : keyD y = some k) (hk : allKD kvs = true) (h : QR (.dat (.bl ((dval kvs (.k k)).isSome != neg))) μ) : Sat (dInA neg y (.dat (.dct kvs)) μ) QR E := by
  have e0 : dIn neg y (.dat (.dct kvs)) μ = .bad := by
    unfold dIn
    cases flat y <;> rfl
  refine sat_altR e0 (sat_alt ?_)
  unfold dInD
  have e1 : dctOf (.dat (.dct kvs)) μ = some (datP kvs) := rfl
  rw [e1, hy]
  have e2 : allK (datP kvs) = true := by
    unfold allKD at hk; unfold allK datP; rw [List.all_map]; exact hk
  simp only [e2, if_true]
  have e3 : (dval (datP kvs) (.k k)).isSome = (dval kvs (.k k)).isSome := by
    unfold dval datP
    rw [List.find?_map]
    cases e : kvs.find? fun p => decide (p.1 = .k k) <;> simp [Function.comp_def, e]
  rw [e3]; exact h
theorem dK_get {k : Key} {kvs : List (Ky × D)} {y : DV} {d : D} (hy : keyD y = some k) (hk : allKD kvs = true) (hv : dval kvs (.k k) = some d) (h : QR (.dat d) μ) : Sat (dIxA (.dat (.dct kvs)) y μ) QR E := by
  have e0 : dIx (.dat (.dct kvs)) y μ = .bad := by
    unfold dIx
    cases asI y <;> rfl
  refine sat_altR e0 ?_
  unfold dGet
  have e1 : dctOf (.dat (.dct kvs)) μ = some (datP kvs) := rfl
  rw [e1, hy]
  have e2 : allK (datP kvs) = true := by
    unfold allKD at hk; unfold allK datP; rw [List.all_map]; exact hk
  simp only [e2, if_true]
  have e3 : dval (datP kvs) (.k k) = some (.dat d) := by
    unfold dval datP at *
    rw [List.find?_map]
    cases e : kvs.find? fun p => decide (p.1 = .k k) with
    | none => rw [e] at hv; cases hv
    | some p =>
      rw [e] at hv
      simp only [Option.map_some, Option.some.injEq] at hv
      simp [Function.comp_def, e, hv]
  rw [e3]; exact h
/-! a call of what catches all -/
theorem x_call0 {g : SM} {n m : Nat} {args : List DV} (hn : args.length = n) (h : SatS (g μ.length (args.map some ++ List.replicate m none) μ) (endP μ.length QR (fun _ _ => False))) : Sat (callD0 g n m args μ) QR E := by
  have z := x_call (E := fun _ _ => False) hn h
  unfold callD0
  cases e : callD g n m args μ with
  | ok r m' => rw [e] at z; exact z
  | exc r m' => rw [e] at z; exact z.elim
  | bad => rw [e] at z; exact z.elim
/-! raise, try -/
theorem s_raise {nm f : Str} {fe : EM} (h : Sat (frzV fe δ μ) (fun x μ' => ∃ d, x = .dat d ∧ P.ex ⟨nm, [(f, d)]⟩ δ μ') (fun x μ => P.ex x δ μ)) : SatS (gRaise nm f fe N δ μ) P := by
  refine sat_lift (Sat.mono h (fun x m ⟨d, e, q⟩ => ?_) fun _ _ q => q)
  subst e; exact q
theorem rk {nm f : Str} {d : D} {Qe : Xc → Prop} (h : Qe ⟨nm, [(f, d)]⟩) : ∃ d', DV.dat d = .dat d' ∧ Qe ⟨nm, [(f, d')]⟩ := ⟨d, rfl, h⟩
/-- that an outcome is a known one -/
abbrev IsP (o : Out) : PO := ⟨fun δ μ => o = .next δ μ, fun r μ => o = .ret r μ, fun δ μ => o = .brk δ μ, fun δ μ => o = .cnt δ μ, fun x δ μ => o = .exc x δ μ⟩
theorem isP {o o' : Out} (h : SatS o' (IsP o)) : o' = o := by
  cases o' with
  | next δ μ => exact (show o = _ from h).symm
  | ret r μ => exact (show o = _ from h).symm
  | brk δ μ => exact (show o = _ from h).symm
  | cnt δ μ => exact (show o = _ from h).symm
  | exc x δ μ => exact (show o = _ from h).symm
  | bad => exact h.elim
/-- what the clause does of an error -/
def TryK (cat : List (Str × Bool)) (i : Nat) (gs : Addr → Addr → Addr → SM) (N : Nat) (P : PO) (x : Xc) (δ : Env) (μ : Mem) : Prop :=
  (cat.lookup x.nm = some true ∧ x.fs ≠ []) ∧ ∃ o, (∀ a C d, SatS (gs a C d N (δ.set i (some (.dat (.err a C d x.nm x.fs)))) μ) (IsP o)) ∧ SatS (unset i o) P
theorem s_try {cat : List (Str × Bool)} {i : Nat} {gb : SM} {gs : Addr → Addr → Addr → SM} (h : SatS (gb N δ μ) { P with ex := fun x δ' μ' => TryK cat i gs N P x δ' μ' }) : SatS (gTry cat i gb gs N δ μ) P := by
  unfold gTry
  cases e : gb N δ μ with
  | exc x δ' μ' =>
    rw [e] at h
    obtain ⟨⟨h1, h2⟩, o, h3, h4⟩ := h
    simp only [h1, if_pos h2]
    rw [suiteOut_of fun a C d => isP (h3 a C d)]
    exact h4
  | next _ _ => rw [e] at h; exact h
  | ret _ _ => rw [e] at h; exact h
  | brk _ _ => rw [e] at h; exact h
  | cnt _ _ => rw [e] at h; exact h
  | bad => rw [e] at h; exact h
theorem x_isE {i : Nat} {a C d : Addr} {tab : List (Str × Bool)} {nm : Str} {fs : List (Str × D)} {b : Bool} (e : δ[i]? = some (some (.dat (.err a C d nm fs)))) (hb : tab.lookup nm = some b) (h : QR (.dat (.bl b)) μ) : Sat (eIsE i a C d tab δ μ) QR E := by
  unfold eIsE errAt
  simp only [e, true_and, if_true, hb]
  exact h
theorem x_xf {i : Nat} {a C d : Addr} {nm f : Str} {fs : List (Str × D)} {v : D} (e : δ[i]? = some (some (.dat (.err a C d nm fs)))) (hb : fs.lookup f = some v) (h : QR (.dat v) μ) : Sat (eXf i a C d nm f δ μ) QR E := by
  unfold eXf errAt
  simp only [e, true_and, if_true, hb]
  exact h
theorem x_kget {tab : List (Str × Str)} {f : EM} (h : Sat (frzV f δ μ) (fun x μ' => StrK x fun z => QR (.dat (match tab.lookup z with | some y => .str y | none => .non)) μ') E) : Sat (eKGet tab f δ μ) QR E := by
  unfold eKGet
  refine sat_bind (Sat.mono h (fun x m ⟨z, e, q⟩ => ?_) fun _ _ q => q)
  rw [e]
  cases e2 : tab.lookup z with
  | none => simp only [e2] at q ⊢; exact q
  | some y => simp only [e2] at q ⊢; exact q
theorem x_lk {f : EM} (h : Sat (f δ μ) (fun r μ1 => ∃ kvs ds, r = .nk kvs ∧ allDatK kvs = some ds ∧ QR (.dat (.dct ds)) μ1) E) : Sat (eLk f δ μ) QR E := by
  unfold eLk
  refine sat_bind (Sat.mono h (fun r m ⟨kvs, ds, e, e2, q⟩ => ?_) fun _ _ q => q)
  subst e
  simp only [e2]
  exact q
theorem x_disK {f : PsM} (h : Sat (f δ μ) (fun ps μ1 => ps.length ≤ 15 ∧ QR (.nk (mergeD [] ps)) μ1) E) : Sat (eDisK f δ μ) QR E := by
  unfold eDisK
  refine sat_bind (Sat.mono h (fun ps m ⟨hl, q⟩ => ?_) fun _ _ q => q)
  rw [if_pos hl]; exact q
theorem x_dnew (h : QR (.nk []) μ) : Sat (eDNew δ μ) QR E := h
theorem p_nilK {QP : List (Ky × DV) → Mem → Prop} (h : QP [] μ) : Sat (psNil δ μ) QP E := h
theorem p_consK {QP : List (Ky × DV) → Mem → Prop} {fk fv : EM} {r : PsM} (h : Sat (frzV fk δ μ) (fun k μ1 => Sat (frzV fv δ μ1) (fun v μ2 => Sat (r δ μ2) (fun ps μ3 => ∃ key, keyD k = some key ∧ QP ((.k key, v) :: ps) μ3) E) E) E) : Sat (psCons fk fv r δ μ) QP E := by
  unfold psCons
  refine sat_bind (Sat.mono h (fun k m1 h1 => ?_) fun _ _ q => q)
  refine sat_bind (Sat.mono h1 (fun v m2 h2 => ?_) fun _ _ q => q)
  refine sat_bind (Sat.mono h2 (fun ps m3 ⟨key, e, q⟩ => ?_) fun _ _ q => q)
  rw [e]; exact q
theorem l_pow {i j : Int} (hc : 0 ≤ j ∧ j ≤ 1000000 ∧ i.natAbs < 2 ^ 64) (h : QR (.dat (.int (i ^ j.toNat))) μ) : Sat (dPow (.dat (.int i)) (.dat (.int j)) μ) QR E := by
  unfold dPow d2I
  simp only [asI, decide_eq_true hc, if_true]
  exact h
end
end DL
noncomputable section
namespace DL
open PySem PySem.Spec PyProof.Rows L2 DR
section
variable {QR : R → Mem → Prop} {E : Xc → Mem → Prop} {μ ν : Mem} {δ : Env} {N : Nat} {P : PO} {d : D} {x y : DV} {k w : Nat}
theorem gP {r : Res (List (Ky × DV))} {Q : List (Ky × DV) → Mem → Prop} (h : Sat r Q E) : Sat r Q E := h
theorem w_ix' {x y : DV} (h : Sat (dIx x y μ) QR E) : Sat (alt2 dIx dGet x y μ) QR E := sat_alt h
/-- data with dicts: that it can be shown -/
def Fk (k w : Nat) (d : D) : Prop := ∃ p, toPyK d = some p ∧ p.showable = true ∧ p.depth ≤ k ∧ p.shown.length ≤ w
theorem l_same (hx : peek μ x = some d) (hy : peek μ y = some d) (h : Fk k w d) (hk : k ≤ 64) (q : QR (.dat (.bl true)) μ) : Sat (dSame x y μ) QR E := by
  obtain ⟨p, e, _, h2, _⟩ := h
  unfold dSame
  rw [hx, hy]
  simp only [Option.bind_some, e]
  rw [if_pos ⟨trivial, by omega⟩]
  exact q
theorem l_reprD {p : PyData} (hx : peek μ x = some d) (hp : toPyK d = some p) (h1 : p.showable = true) (h2 : p.depth ≤ 64) (h3 : p.shown.length ≤ 2 ^ 20) (q : QR (.dat (.str p.shown)) μ) : Sat (d1 dReprD [x] μ) QR E := by
  show Sat (dReprD x μ) QR E
  unfold dReprD
  rw [hx]
  simp only [Option.bind_some, hp]
  rw [if_pos ⟨h1, h2, Nat.le_trans h3 (by decide)⟩]
  exact q
theorem peek_str {t : Str} (h : peek μ y = some (.str t)) : y = .dat (.str t) := by
  cases y with
  | dat d => rw [pk_dat] at h; cases h; rfl
  | loc n =>
    unfold peek peekK at h
    split at h
    · rename_i xs _
      cases e : peekL (peekK 4 μ) xs <;> rw [e] at h <;> cases h
    · cases h
theorem eqA_same (hx : peek μ x = some d) (hy : peek μ y = some d) (h : Fk k w d) (hk : k ≤ 64) (q : QR (.dat (.bl true)) μ) : Sat (dEqA x y μ) QR E := by
  unfold dEqA alt2
  have key : dEq x y μ = .bad ∨ dEq x y μ = .ok (.dat (.bl true)) μ := by
    unfold dEq dEqS
    cases e : asStr x with
    | some s =>
      have ex : x = .dat (.str s) := by unfold asStr at e; split at e <;> cases e; rfl
      subst ex
      rw [pk_dat] at hx; cases hx
      have ey := peek_str hy
      subst ey
      right
      simp [asStr]
    | none =>
      simp only
      unfold dEqB peekPy
      rw [hx, hy]
      simp only [Option.bind_some]
      cases e2 : toPy d with
      | none => left; rfl
      | some p =>
        simp only
        by_cases c : SeqAt.shaped p = true
        · right
          rw [if_pos ⟨c, c⟩, SeqAt.eqv_refl p (SeqAt.canLay_of_shaped c)]; rfl
        · left
          rw [if_neg (fun z => c z.1)]
  rcases key with e | e
  · rw [e]; exact l_same hx hy h hk q
  · rw [e]; exact q
def gAlikeA : SM := (gRet (eAnd (eOp dEqA (eVar 0) (eVar 1)) (eOp dEqA (eCB dReprA (aCons (eVar 0) aNil)) (eCB dReprA (aCons (eVar 1) aNil)))))
mutual
theorem toPyK_of : ∀ (d : D) (p : PyData), toPy d = some p → toPyK d = some p
  | .non, _, h => by simp only [toPy] at h; cases h; rfl
  | .bl _, _, h => by simp only [toPy] at h; cases h; rfl
  | .int _, _, h => by simp only [toPy] at h; cases h; rfl
  | .str _, _, h => by simp only [toPy] at h; cases h; rfl
  | .tup xs, _, h => by
    simp only [toPy] at h
    cases e : toPyL xs with
    | none => rw [e] at h; cases h
    | some ps => rw [e] at h; cases h; simp only [toPyK, toPyKL_of xs ps e]; rfl
  | .lst xs, _, h => by
    simp only [toPy] at h
    cases e : toPyL xs with
    | none => rw [e] at h; cases h
    | some ps => rw [e] at h; cases h; simp only [toPyK, toPyKL_of xs ps e]; rfl
  | .fro xs, _, h => by
    simp only [toPy] at h
    cases e : toPyL xs with
    | none => rw [e] at h; cases h
    | some ps => rw [e] at h; cases h; simp only [toPyK, toPyKL_of xs ps e]; rfl
  | .ty _, _, h => by simp only [toPy] at h; cases h
  | .ref _, _, h => by simp only [toPy] at h; cases h
  | .dct _, _, h => by simp only [toPy] at h; cases h
  | .ins _ _, _, h => by simp only [toPy] at h; cases h
  | .err _ _ _ _ _, _, h => by simp only [toPy] at h; cases h
theorem toPyKL_of : ∀ (ds : List D) (ps : List PyData), toPyL ds = some ps → toPyKL ds = some ps
  | [], _, h => by simp only [toPyL] at h; cases h; rfl
  | d :: ds, _, h => by
    simp only [toPyL] at h
    cases e : toPy d with
    | none => rw [e] at h; cases h
    | some p =>
      rw [e] at h
      cases e2 : toPyL ds with
      | none => rw [e2] at h; cases h
      | some ps => rw [e2] at h; cases h; simp only [toPyKL, toPyK_of d p e, toPyKL_of ds ps e2]; rfl
end
theorem reprA_ok {p : PyData} (hx : peek μ x = some d) (hp : toPyK d = some p) (h1 : p.showable = true) (h2 : p.depth ≤ 64) (h3 : p.shown.length ≤ 2 ^ 20) (q : QR (.dat (.str p.shown)) μ) : Sat (dReprA [x] μ) QR E := by
  unfold dReprA alt1
  have key : d1 dRepr [x] μ = .bad ∨ d1 dRepr [x] μ = .ok (.dat (.str p.shown)) μ := by
    show dRepr x μ = .bad ∨ dRepr x μ = _
    unfold dRepr peekPy
    rw [hx]
    simp only [Option.bind_some]
    cases e : toPy d with
    | none => left; rfl
    | some p' =>
      have e2 := toPyK_of d p' e
      rw [hp] at e2; cases e2
      simp only
      by_cases c : p.showable = true ∧ SeqAt.shaped p = true ∧ p.shown.length ≤ sizeLine
      · right; rw [if_pos c]
      · left; rw [if_neg c]
  rcases key with e | e
  · rw [e]; exact l_reprD hx hp h1 h2 h3 q
  · rw [e]; exact q
theorem alikeA (hx : peek μ x = some d) (hy : peek μ y = some d) (h : Fk k w d) (hk : k ≤ 64) (hw : w ≤ 2 ^ 20) (q : QR (.dat (.bl true)) μ) : Sat (callD gAlikeA 2 0 [x, y] μ) QR E := by
  obtain ⟨p, hp, h1, h2, h3⟩ := h
  have h : Fk k w d := ⟨p, hp, h1, h2, h3⟩
  refine x_call rfl ?_
  show SatS (gAlikeA μ.length [some x, some y] μ) _
  unfold gAlikeA
  refine s_ret (x_and (x_op (v_var rfl (v_var rfl (eqA_same hx hy h hk (b_bl (if_T ?_)))))))
  refine x_op (x_fz (x_cb (a_consK (v_var rfl (a_nilK (reprA_ok hx hp h1 (by omega) (by omega) (z_dat ?_)))))))
  refine x_fz (x_cb (a_consK (v_var rfl (a_nilK (reprA_ok hy hp h1 (by omega) (by omega) (z_dat (w_eq (l_eqS ?_))))))))
  rw [decide_eq_true rfl]
  exact e_dat List.take_length q
theorem ne_nilL {ds : List D} (hk : k < 64) (h : ∀ d ∈ ds, ∃ p, toPy d = some p ∧ Fit k w p) (q : QR (.dat (.bl (!ds.isEmpty))) μ) : Sat (dNe (.dat (.lst ds)) (.dat (.lst [])) μ) QR E := by
  obtain ⟨ps, e1, e2, e3⟩ := toPyL_fit ds h
  have f1 : Fit (k + 1) (ps.length * (w + 1)) (.list ps) := fit_list e3 (Nat.le_refl _)
  have f0 : Fit (k + 1) 0 (.list []) := (fit_list (k := k) (w := 0) (n := 0) (ps := []) (fun _ h => by cases h) (Nat.le_refl _)).mono (Nat.le_refl _) (Nat.le_refl _)
  have := eq_any (μ := μ) false (x := .dat (.lst ds)) (y := .dat (.lst [])) (p := .list ps) (q := .list []) (by unfold peekPy; rw [pk_dat]; simp only [Option.bind_some, toPy, e1]; rfl) (by unfold peekPy; rw [pk_dat]; rfl) f1 f0 (by omega) (by omega)
  rw [show dNe (.dat (.lst ds)) (.dat (.lst [])) μ = dEqS false (.dat (.lst ds)) (.dat (.lst [])) μ from rfl, this]
  cases ds with
  | nil => cases e1; exact q
  | cons d ds =>
    cases ps with
    | nil => simp at e2
    | cons p ps => exact q
theorem eq_nilL {ds : List D} (hk : k < 64) (h : ∀ d ∈ ds, ∃ p, toPy d = some p ∧ Fit k w p) (q : QR (.dat (.bl ds.isEmpty)) μ) : Sat (dEqA (.dat (.lst ds)) (.dat (.lst [])) μ) QR E := by
  obtain ⟨ps, e1, e2, e3⟩ := toPyL_fit ds h
  have f1 : Fit (k + 1) (ps.length * (w + 1)) (.list ps) := fit_list e3 (Nat.le_refl _)
  have f0 : Fit (k + 1) 0 (.list []) := (fit_list (k := k) (w := 0) (n := 0) (ps := []) (fun _ h => by cases h) (Nat.le_refl _)).mono (Nat.le_refl _) (Nat.le_refl _)
  have := eq_any (μ := μ) true (x := .dat (.lst ds)) (y := .dat (.lst [])) (p := .list ps) (q := .list []) (by unfold peekPy; rw [pk_dat]; simp only [Option.bind_some, toPy, e1]; rfl) (by unfold peekPy; rw [pk_dat]; rfl) f1 f0 (by omega) (by omega)
  refine w_eq ?_
  rw [show dEq (.dat (.lst ds)) (.dat (.lst [])) μ = dEqS true (.dat (.lst ds)) (.dat (.lst [])) μ from rfl, this]
  cases ds with
  | nil => cases e1; exact q
  | cons d ds =>
    cases ps with
    | nil => simp at e2
    | cons p ps => exact q
/-! ### how long data is when it is shown -/
theorem Fk.mono {k' w' : Nat} (h : Fk k w d) (hk : k ≤ k') (hw : w ≤ w') : Fk k' w' d := let ⟨p, a, b, c, e⟩ := h; ⟨p, a, b, Nat.le_trans c hk, Nat.le_trans e hw⟩
theorem fk_non : Fk 0 4 .non := ⟨.none, rfl, rfl, Nat.le_refl _, by decide⟩
theorem fk_bl {b : Bool} : Fk 0 5 (.bl b) := ⟨.bool b, rfl, rfl, Nat.le_refl _, by cases b <;> decide⟩
theorem fk_int {i : Int} (h : i.natAbs < 10 ^ 12) : Fk 0 13 (.int i) := ⟨.int i, rfl, (fit_int h).sh, Nat.le_refl _, PyData.shown_int_le h⟩
theorem fk_str {s : Str} {m : Nat} (h : PyData.strOk s = true) (hm : s.cps.size ≤ m) : Fk 0 (15 * m + 13) (.str s) := by
  refine ⟨.str s, rfl, rfl, Nat.le_refl _, ?_⟩
  have := PyData.shown_le 13 (by decide) (.str s) (PyData.leavesShort_of_canLay0 13 (.str s) h rfl)
  simp only [PyData.weight] at this
  have : (13 + 2) * s.cps.size ≤ 15 * m := Nat.mul_le_mul_left 15 hm
  omega
theorem fk_all {ds : List D} (h : ∀ d ∈ ds, Fk k w d) : ∃ ps, toPyKL ds = some ps ∧ ps.length = ds.length ∧ PyData.showableAll ps = true ∧ PyData.depthAll ps ≤ k ∧ ((PyData.shownAll ps).map (·.length)).sum ≤ ds.length * w ∧ (PyData.shownAll ps).length = ds.length := by
  induction ds with
  | nil => exact ⟨[], rfl, rfl, rfl, Nat.zero_le _, Nat.zero_le _, rfl⟩
  | cons d ds ih =>
    obtain ⟨ps, a1, a2, a3, a4, a5, a6⟩ := ih fun x hx => h x (List.mem_cons_of_mem _ hx)
    obtain ⟨p, b1, b2, b3, b4⟩ := h d List.mem_cons_self
    refine ⟨p :: ps, by simp only [toPyKL, b1, a1]; rfl, by simp [a2], by simp [PyData.showableAll, b2, a3], by simp only [PyData.depthAll]; omega, ?_, by simp [PyData.shownAll, a6]⟩
    simp only [PyData.shownAll, List.map_cons, List.sum_cons, List.length_cons, Nat.succ_mul]
    omega
theorem fk_tup {ds : List D} {n : Nat} (h : ∀ d ∈ ds, Fk k w d) (hn : ds.length ≤ n) : Fk (k + 1) (n * (w + 2) + 3) (.tup ds) := by
  obtain ⟨ps, a1, a2, a3, a4, a5, a6⟩ := fk_all h
  refine ⟨.tuple ps, by simp only [toPyK, a1]; rfl, by simpa [PyData.showable] using a3, by simp only [PyData.depth]; omega, ?_⟩
  have := tupleText_len_le (PyData.shownAll ps)
  simp only [PyData.shown]
  have : ds.length * (w + 2) ≤ n * (w + 2) := Nat.mul_le_mul_right _ hn
  have e : ds.length * (w + 2) = ds.length * w + 2 * ds.length := by rw [Nat.mul_add, Nat.mul_comm ds.length 2]
  omega
theorem fk_lst {ds : List D} {n : Nat} (h : ∀ d ∈ ds, Fk k w d) (hn : ds.length ≤ n) : Fk (k + 1) (n * (w + 2) + 3) (.lst ds) := by
  obtain ⟨ps, a1, a2, a3, a4, a5, a6⟩ := fk_all h
  refine ⟨.list ps, by simp only [toPyK, a1]; rfl, by simpa [PyData.showable] using a3, by simp only [PyData.depth]; omega, ?_⟩
  have := listText_len_le (PyData.shownAll ps)
  simp only [PyData.shown]
  have : ds.length * (w + 2) ≤ n * (w + 2) := Nat.mul_le_mul_right _ hn
  have e : ds.length * (w + 2) = ds.length * w + 2 * ds.length := by rw [Nat.mul_add, Nat.mul_comm ds.length 2]
  omega
theorem fk_dct0 : Fk 1 2 (.dct []) := ⟨.dict [], rfl, rfl, by decide, by decide⟩
end
end DL
/-! a call of a def with data alone: a list that it gives is new, if it is none of the arguments' -/
namespace DL
open PySem PySem.Spec PyProof.Rows L2
mutual
/-- the lists in data -/
def lnodes : D → List (List D)
  | .lst xs => xs :: lnodesL xs
  | .fro xs => xs :: lnodesL xs
  | .tup xs => lnodesL xs
  | .dct kvs => lnodesK kvs
  | .ins _ fs => lnodesF fs
  | .err _ _ _ _ fs => lnodesF fs
  | .non => []
  | .bl _ => []
  | .int _ => []
  | .str _ => []
  | .ty _ => []
  | .ref _ => []
def lnodesL : List D → List (List D)
  | [] => []
  | x :: xs => lnodes x ++ lnodesL xs
def lnodesK : List (Ky × D) → List (List D)
  | [] => []
  | (_, x) :: xs => lnodes x ++ lnodesK xs
def lnodesF : List (Str × D) → List (List D)
  | [] => []
  | (_, x) :: xs => lnodes x ++ lnodesF xs
end
theorem lnodesK_eq : ∀ kvs : List (Ky × D), lnodesK kvs = lnodesL (kvs.map (·.2))
  | [] => rfl
  | (_, x) :: xs => by simp only [lnodesK, List.map_cons, lnodesL, lnodesK_eq xs]
theorem lnodesF_eq : ∀ kvs : List (Str × D), lnodesF kvs = lnodesL (kvs.map (·.2))
  | [] => rfl
  | (_, x) :: xs => by simp only [lnodesF, List.map_cons, lnodesL, lnodesF_eq xs]
/-- which kind of value stands for data -/
def vk : D → Nat
  | .non => 0
  | .bl _ => 1
  | .int _ => 2
  | .str _ => 3
  | .ty _ => 4
  | _ => 5
def vkV : V → Nat
  | .non => 0
  | .bl _ => 1
  | .int _ => 2
  | .str _ => 3
  | .ty _ => 4
  | .ref _ => 5
  | _ => 6
theorem Rp.vk {K : PySem.W.Frag} {G : Hp} {v : V} {d : D} (h : Rp K G v d) : vkV v = vk d := by cases h <;> rfl
/-- two lists that are not one and the same -/
def apart (ds es : List D) : Bool := decide (ds.length ≠ es.length) || match ds, es with
  | d :: _, e :: _ => decide (vk d ≠ vk e)
  | _, _ => false
theorem apart_ok {K : PySem.W.Frag} {G G' : Hp} {vs : List V} {ds es : List D} (h : apart ds es = true) (a : RpL K G vs ds) (b : RpL K G' vs es) : False := by
  unfold apart at h
  rw [Bool.or_eq_true] at h
  rcases h with h | h
  · exact of_decide_eq_true h (by rw [← a.length, ← b.length])
  · cases a with
    | nil => cases b; exact Bool.false_ne_true h
    | cons a1 a2 =>
      cases b with
      | cons b1 b2 => exact of_decide_eq_true h (by rw [← a1.vk, ← b1.vk])
open Classical in
/-- the data without the lists that are not among L -/
noncomputable def only (K : PySem.W.Frag) (L : List (List D)) (G : Hp) : Hp := fun a => match G a with
  | some (.lst vs) => if ∃ es ∈ L, RpL K G vs es then some (.lst vs) else none
  | o => o
theorem only_sub {K : PySem.W.Frag} {L : List (List D)} {G : Hp} : Ex (only K L G) G := fun a o h => by
  unfold only at h
  split at h
  · rename_i vs e
    split at h
    · cases h; exact e
    · cases h
  · exact h
theorem only_at {K : PySem.W.Frag} {L : List (List D)} {G : Hp} {a : Addr} {o : HO} (h : G a = some o) (hn : ∀ vs, o ≠ .lst vs) : only K L G a = some o := by
  unfold only
  rw [h]
  split
  · rename_i vs e; cases e; exact absurd rfl (hn vs)
  · rfl
theorem only_lst {K : PySem.W.Frag} {L : List (List D)} {G : Hp} {a : Addr} {vs : List V} {es : List D} (h : G a = some (.lst vs)) (hm : es ∈ L) (r : RpL K G vs es) : only K L G a = some (.lst vs) := by
  unfold only
  rw [h]
  simp only
  rw [if_pos ⟨es, hm, r⟩]
theorem only_inv {K : PySem.W.Frag} {L : List (List D)} {G : Hp} {a : Addr} {vs : List V} (h : only K L G a = some (.lst vs)) : ∃ es ∈ L, RpL K G vs es := by
  unfold only at h
  split at h
  · split at h
    · rename_i c; cases h; exact c
    · cases h
  · rename_i hn; exact absurd h (hn vs)
mutual
theorem Rp.only {K : PySem.W.Frag} {L : List (List D)} {G : Hp} : ∀ {v : V} {d : D}, Rp K G v d → (∀ es ∈ lnodes d, es ∈ L) → Rp K (DL.only K L G) v d
  | _, _, .non, _ => .non
  | _, _, .bl b, _ => .bl b
  | _, _, .int i, _ => .int i
  | _, _, .str s, _ => .str s
  | _, _, .ty n, _ => .ty n
  | _, _, .ref a, _ => .ref a
  | _, _, .tup h r, hl => .tup (by
      rcases h with (h | ⟨o, h⟩) | h
      · exact .inl (.inl (only_at h fun _ z => by cases z))
      · exact .inl (.inr ⟨o, only_at h fun _ z => by cases z⟩)
      · exact .inr h) (RpL.only r (by simpa only [lnodes] using hl))
  | _, _, .lst h r, hl => .lst (only_lst h (hl _ (by simp only [lnodes]; exact List.mem_cons_self)) r) (RpL.only r fun es he => hl es (by simp only [lnodes]; exact List.mem_cons_of_mem _ he))
  | _, _, .fro h r, hl => .fro (by
      rcases h with (h | ⟨o, h⟩) | h
      · exact .inl (.inl (only_lst h (hl _ (by simp only [lnodes]; exact List.mem_cons_self)) r))
      · exact .inl (.inr ⟨o, only_at h fun _ z => by cases z⟩)
      · exact .inr h) (RpL.only r fun es he => hl es (by simp only [lnodes]; exact List.mem_cons_of_mem _ he))
  | _, _, .dct h k r, hl => .dct (only_at h fun _ z => by cases z) k (RpL.only r (by simpa only [lnodes, lnodesK_eq] using hl))
  | _, _, .ins c h o k r, hl => .ins c (only_at h fun _ z => by cases z) (only_at o fun _ z => by cases z) k (RpL.only r (by simpa only [lnodes, lnodesF_eq] using hl))
  | _, _, .err c h k r, hl => .err c (only_at h fun _ z => by cases z) k (RpL.only r (by simpa only [lnodes, lnodesF_eq] using hl))
theorem RpL.only {K : PySem.W.Frag} {L : List (List D)} {G : Hp} : ∀ {vs : List V} {ds : List D}, RpL K G vs ds → (∀ es ∈ lnodesL ds, es ∈ L) → RpL K (DL.only K L G) vs ds
  | _, _, .nil, _ => .nil
  | _, _, .cons a b, hl => .cons (Rp.only a fun es he => hl es (by simp only [lnodesL]; exact List.mem_append_left _ he)) (RpL.only b fun es he => hl es (by simp only [lnodesL]; exact List.mem_append_right _ he))
end
/-- the data of both, but for one address -/
noncomputable def both (G G' : Hp) (a : Option Addr) : Hp := fun b => if some b = a then none else match G b with
  | some o => some o
  | none => G' b
section
variable {K : PySem.W.Frag} {G G' : Hp} {a : Addr} {oa : Option Addr} {us : List V}
theorem both_l (h : ∀ b, some b = oa → G b = none) : Ex G (both G G' oa) := fun b o e => by
  unfold both
  have : ¬ some b = oa := fun z => by rw [h b z] at e; cases e
  rw [if_neg this, e]
theorem both_r {b : Addr} {o : HO} (hc : ∀ b o, G b = some o → ∀ o', G' b = some o' → o = o') (hb : some b ≠ oa) (e : G' b = some o) : both G G' oa b = some o := by
  unfold both
  rw [if_neg hb]
  cases q : G b with
  | none => exact e
  | some u => simp only; rw [hc b u q o e]
mutual
/-- data without lists does not look at a list's address -/
theorem Rp.off (hc : ∀ b o, G b = some o → ∀ o', G' b = some o' → o = o') (ha : G' a = some (.lst us)) : ∀ {v : V} {d : D}, Rp K G' v d → lnodes d = [] → Rp K (both G G' (some a)) v d
  | _, _, .non, _ => .non
  | _, _, .bl b, _ => .bl b
  | _, _, .int i, _ => .int i
  | _, _, .str s, _ => .str s
  | _, _, .ty n, _ => .ty n
  | _, _, .ref a, _ => .ref a
  | _, _, .tup h r, hl => .tup (by
      rcases h with (h | ⟨o, h⟩) | h
      · exact .inl (.inl (both_r hc (fun z => by cases z; rw [ha] at h; cases h) h))
      · exact .inl (.inr ⟨o, both_r hc (fun z => by cases z; rw [ha] at h; cases h) h⟩)
      · exact .inr h) (RpL.off hc ha r (by simpa only [lnodes] using hl))
  | _, _, .lst h r, hl => by simp only [lnodes] at hl; cases hl
  | _, _, .fro h r, hl => by simp only [lnodes] at hl; cases hl
  | _, _, .dct h k r, hl => .dct (both_r hc (fun z => by cases z; rw [ha] at h; cases h) h) k (RpL.off hc ha r (by simpa only [lnodes, lnodesK_eq] using hl))
  | _, _, .ins c h o k r, hl => .ins c (both_r hc (fun z => by cases z; rw [ha] at h; cases h) h) (both_r hc (fun z => by cases z; rw [ha] at o; cases o) o) k (RpL.off hc ha r (by simpa only [lnodes, lnodesF_eq] using hl))
  | _, _, .err c h k r, hl => .err c (both_r hc (fun z => by cases z; rw [ha] at h; cases h) h) k (RpL.off hc ha r (by simpa only [lnodes, lnodesF_eq] using hl))
theorem RpL.off (hc : ∀ b o, G b = some o → ∀ o', G' b = some o' → o = o') (ha : G' a = some (.lst us)) : ∀ {vs : List V} {ds : List D}, RpL K G' vs ds → lnodesL ds = [] → RpL K (both G G' (some a)) vs ds
  | _, _, .nil, _ => .nil
  | _, _, .cons x y, hl => by
    simp only [lnodesL, List.append_eq_nil_iff] at hl
    exact .cons (Rp.off hc ha x hl.1) (RpL.off hc ha y hl.2)
end
end
/-- a list in it that is new is told as one -/
def thaw (args : List D) (μ : Mem) : Res R → Res R
  | .ok (.dat (.lst ds)) _ => if (lnodesL args).all (apart ds) = true ∧ (lnodesL ds).isEmpty = true then .ok (.nl (ds.map DV.dat)) μ else .bad
  | .ok (.dat .non) _ => .ok (.dat .non) μ
  | .ok (.dat (.bl b)) _ => .ok (.dat (.bl b)) μ
  | .ok (.dat (.int b)) _ => .ok (.dat (.int b)) μ
  | .ok (.dat (.str b)) _ => .ok (.dat (.str b)) μ
  | .exc x _ => if x.fs.all (fun p => (lnodes p.2).isEmpty) = true then .exc x μ else .bad
  | _ => .bad
def eCBT (F : List DV → Mem → Res R) (fa : AM) : EM := fun δ μ => (fa δ μ).bind fun xs μ1 => match allDat xs with
  | some ds => thaw ds μ1 (F xs [])
  | none => .bad
end DL
namespace DL
open PySem PySem.Spec PyProof.Rows L2
section
variable {K : PySem.W.Frag} {W : WX} {ρ : Pm} {G H : Hp} {μ : Mem} {σ : Slots} {δ : Env}
theorem dat_only {L : List (List D)} : ∀ {xs : List DV} {ds : List D} {vs : List V}, allDat xs = some ds → DvL K ρ G vs xs → (∀ es ∈ lnodesL ds, es ∈ L) → DvL K (fun _ => none) (only K L G) vs xs
  | [], _, _, h, r, _ => by cases h; cases r; exact .nil
  | .dat d :: xs, ds, vs, h, r, hl => by
    cases r with
    | cons r1 r2 =>
      simp only [allDat] at h
      cases e : allDat xs with
      | none => rw [e] at h; cases h
      | some es =>
        rw [e] at h; cases h
        exact .cons (Rp.only r1 fun z hz => hl z (by simp only [lnodesL]; exact List.mem_append_left _ hz)) (dat_only e r2 fun z hz => hl z (by simp only [lnodesL]; exact List.mem_append_right _ hz))
  | .loc _ :: _, _, _, h, _, _ => by cases h
theorem rel_small (R : Rel K ρ G H μ) {G0 : Hp} (ex : Ex G0 G) : Rel K (fun _ => none) G0 H [] :=
  ⟨ex.trans R.ex, fun _ _ _ h => (by cases h), fun _ _ h => (by cases h), fun _ _ h => (by cases h), fun _ _ h => (by cases h), fun n p h => by simp at h⟩
/-- what came of the small call, in the large one -/
theorem rel_big {G0 G' H' : Hp} {a : Option Addr} (R : Rel K ρ G H μ) (ex : Ex G0 G) (t : Tr (fun _ => none) G0 H G' H') (R' : Rel K (fun _ => none) G' H' []) (ha : ∀ b, some b = a → G b = none) :
    Rel K ρ (both G G' a) H' μ ∧ Tr ρ G H (both G G' a) H' ∧ (∀ b o, G b = some o → ∀ o', G' b = some o' → o = o') := by
  have keep : ∀ b o, H b = some o → H' b = some o := fun b o h => t.keep b o (fun _ z => by cases z) h
  have cons : ∀ b o, G b = some o → ∀ o', G' b = some o' → o = o' := fun b o h o' h' => by
    have h1 := keep b o (R.ex b o h)
    have h2 := R'.ex b o' h'
    rw [h1] at h2; cases h2; rfl
  have eG : Ex G (both G G' a) := both_l ha
  have inB : ∀ b o, both G G' a b = some o → G b = some o ∨ (G b = none ∧ G' b = some o) := fun b o h => by
    unfold both at h
    split at h
    · cases h
    · cases q : G b with
      | none => rw [q] at h; exact .inr ⟨rfl, h⟩
      | some u => rw [q] at h; exact .inl h
  have newG : ∀ b, G' b ≠ none → G b ≠ none ∨ H b = none := fun b h => (t.nG b h).imp (fun z => by
    cases q : G0 b with
    | none => exact absurd q z
    | some u => rw [ex b u q]; simp) id
  refine ⟨⟨fun b o h => ?_, R.inj, fun n b h => ?_, R.lt, fun n b h z => ?_, fun n p h => ?_⟩, ⟨eG, fun b o _ h => keep b o h, fun b h => ?_, fun b h => ?_⟩, cons⟩
  · rcases inB b o h with h1 | ⟨_, h1⟩
    · exact keep b o (R.ex b o h1)
    · exact R'.ex b o h1
  · cases q : both G G' a b with
    | none => rfl
    | some o =>
      rcases inB b o q with h1 | ⟨h0, h1⟩
      · rw [R.nG n b h] at h1; cases h1
      · rcases newG b (by rw [h1]; simp) with z | z
        · exact absurd h0 z
        · exact absurd z (R.hs n b h)
  · have := R.hs n b h
    cases q : H b with
    | none => exact this q
    | some o => rw [keep b o q] at z; cases z
  · have z := R.pl n p h
    have z2 : PlOk K ρ G H' n p := by
      cases p with
      | lst xs => obtain ⟨b, c, vs, h1, h2, h3⟩ := z; exact ⟨b, c, vs, h1, keep _ _ h2, h3⟩
      | dct kvs => obtain ⟨b, c, o, vs, h1, h2, h3⟩ := z; exact ⟨b, c, o, vs, h1, keep _ _ h2, h3⟩
      | own => obtain ⟨c, b, h1, h2⟩ := z; exact ⟨c, b, h1, keep _ _ h2⟩
      | ins nm fs => obtain ⟨b, c, dx, C, vs, m, hm, h1, h2, cl, h4, h3⟩ := z; exact ⟨b, c, dx, C, vs, m, hm, h1, keep _ _ h2, cl, keep _ _ h4, h3⟩
      | gone => exact z
    cases p with
    | lst xs => obtain ⟨b, c, vs, h1, h2, h3⟩ := z2; exact ⟨b, c, vs, h1, h2, DvL.mono eG (fun _ _ q => q) h3⟩
    | dct kvs => obtain ⟨b, c, o, vs, h1, h2, h4, h3⟩ := z2; exact ⟨b, c, o, vs, h1, h2, h4, DvL.mono eG (fun _ _ q => q) h3⟩
    | own => exact z2
    | ins nm fs => obtain ⟨b, c, dx, C, vs, m, hm, h1, h2, cl, h4, h5, h3⟩ := z2; exact ⟨b, c, dx, C, vs, m, hm, h1, h2, cl, h4, h5, DvL.mono eG (fun _ _ q => q) h3⟩
    | gone => exact z2
  · cases q : H b with
    | none => rfl
    | some o => rw [keep b o q] at h; cases h
  · cases q : both G G' a b with
    | none => exact absurd q h
    | some o =>
      rcases inB b o q with h1 | ⟨_, h1⟩
      · left; rw [h1]; simp
      · exact newG b (by rw [h1]; simp)
theorem ex_both {G G' : Hp} (hc : ∀ b o, G b = some o → ∀ o', G' b = some o' → o = o') : Ex G' (both G G' none) := fun b o h => both_r hc (fun z => by cases z) h
theorem snd_callT {F : List DV → Mem → Res R} {n : Nat} {ta : TA} {fa : AM} (ha : SndA K W ta fa) (hn : ∀ xs μ, F xs μ ≠ .bad → xs.length = n) : SndE K W (tCallSD (spF K n F) [] (EW W) ta) (eCBT F fa) := fun ρ G H σ δ μ Q R E hp => by
  refine SndG.seq (t := ta) ha R E hp fun xs μ1 G1 H1 vs t1 R1 E1 d1 hp1 => ?_
  have hp2 := hp1.shiftE t1
  show spF K n F (vs ++ []) H1 Q (EW W σ)
  rw [List.append_nil]
  cases ea : allDat xs with
  | none => simp only [ea] at hp2; exact hp2.elim
  | some ds =>
    simp only [ea] at hp2
    have hb : F xs [] ≠ .bad := fun e => by rw [e] at hp2; exact hp2
    refine ⟨by rw [paired_len d1]; exact hn xs [] hb, fun _ => none, only K (lnodesL ds) G1, [], xs, rel_small R1 only_sub, dat_only ea d1 fun _ h => h, ?_⟩
    have flat : ∀ {d : D} {m : Mem}, (∀ G v, Rp K G v d → ∀ G', Rp K G' v d) → PostG K W ρ G1 H1 σ (fun G' H' => rpE K ρ G' H1 H') Q (.ok (.dat d) μ1) →
        PostG K (fun cls d _ H => EW W σ cls d H) (fun _ => none) (only K (lnodesL ds) G1) H1 [] (fun G' H' => rpE K (fun _ => none) G' H1 H') Q (.ok (.dat d) m) := fun {d m} hf hq G' H' v t' R' q => by
      obtain ⟨m', em⟩ : ∃ m', m' = m := ⟨_, rfl⟩
      have R'' : Rel K (fun _ => none) G' H' [] := ⟨R'.ex, fun _ _ _ h => (by cases h), fun _ _ h => (by cases h), fun _ _ h => (by cases h), fun _ _ h => (by cases h), fun n p h => by simp at h⟩
      obtain ⟨Rb, tb, cb⟩ := rel_big (a := none) R1 only_sub t' R'' (fun _ h => by cases h)
      exact hq _ _ v tb Rb (hf _ _ q _)
    cases e : F xs [] with
    | bad => exact absurd e hb
    | exc x m =>
      rw [e] at hp2
      simp only [thaw] at hp2
      by_cases c : x.fs.all (fun p => (lnodes p.2).isEmpty) = true
      case neg => rw [if_neg c] at hp2; exact hp2.elim
      rw [if_pos c] at hp2
      intro G' H' cls d t' R' q
      have R'' : Rel K (fun _ => none) G' H' [] := ⟨R'.ex, fun _ _ _ h => (by cases h), fun _ _ h => (by cases h), fun _ _ h => (by cases h), fun _ _ h => (by cases h), fun n p h => by simp at h⟩
      obtain ⟨Rb, tb, cb⟩ := rel_big (a := none) R1 only_sub t' R'' (fun _ h => by cases h)
      refine hp2 _ _ cls d tb Rb ⟨q.1, q.2.imp id fun ⟨b, ws, z1, z2, z3, z4⟩ => ⟨b, ws, z1, ex_both cb _ _ z2, z3, RpL.mono (ex_both cb) z4⟩⟩
    | ok r m =>
      rw [e] at hp2
      cases r with
      | loc _ => simp only [thaw] at hp2; exact hp2.elim
      | nl _ => simp only [thaw] at hp2; exact hp2.elim
      | nk _ => simp only [thaw] at hp2; exact hp2.elim
      | dat d =>
        cases d with
        | non => exact flat (fun G v h G' => by cases h; exact .non) hp2
        | bl b => exact flat (fun G v h G' => by cases h; exact .bl b) hp2
        | int b => exact flat (fun G v h G' => by cases h; exact .int b) hp2
        | str b => exact flat (fun G v h G' => by cases h; exact .str b) hp2
        | ty _ => simp only [thaw] at hp2; exact hp2.elim
        | ref _ => simp only [thaw] at hp2; exact hp2.elim
        | tup _ => simp only [thaw] at hp2; exact hp2.elim
        | fro _ => simp only [thaw] at hp2; exact hp2.elim
        | dct _ => simp only [thaw] at hp2; exact hp2.elim
        | ins _ _ => simp only [thaw] at hp2; exact hp2.elim
        | err _ _ _ _ _ => simp only [thaw] at hp2; exact hp2.elim
        | lst es =>
          simp only [thaw] at hp2
          by_cases c : (lnodesL ds).all (apart es) = true ∧ (lnodesL es).isEmpty = true
          case neg => rw [if_neg c] at hp2; exact hp2.elim
          rw [if_pos c] at hp2
          intro G' H' v t' R' q
          have R'' : Rel K (fun _ => none) G' H' [] := ⟨R'.ex, fun _ _ _ h => (by cases h), fun _ _ h => (by cases h), fun _ _ h => (by cases h), fun _ _ h => (by cases h), fun n p h => by simp at h⟩
          cases q with
          | lst hg hr =>
            rename_i a us
            have new : H1 a = none := (t'.nG a (by rw [hg]; simp)).elim (fun z => by
              cases q0 : only K (lnodesL ds) G1 a with
              | none => exact absurd q0 z
              | some o =>
                have := t'.exG a o q0
                rw [hg] at this; cases this
                obtain ⟨gs, hm, hr2⟩ := only_inv q0
                exact (apart_ok (List.all_eq_true.mp c.1 gs hm) hr hr2).elim) id
            have g1 : G1 a = none := by
              cases q0 : G1 a with
              | none => rfl
              | some o => rw [R1.ex a o q0] at new; cases new
            obtain ⟨Rb, tb, cb⟩ := rel_big (a := some a) R1 only_sub t' R'' (fun b h => by cases h; exact g1)
            refine hp2 _ _ _ tb Rb ⟨a, us, rfl, R'.ex a _ hg, ?_, by unfold both; rw [if_pos rfl], fun n z => R1.hs n a z new, new⟩
            exact RpL.paired (RpL.off cb hg hr (List.isEmpty_iff.mp c.2))
end
theorem pm_callT {X : Cx} {W : WX} {P : Program} {w : World} {K : PySem.W.Frag} {mg : Str → Option Value} {base : Heap} {cx : CXT} {k n : Nat} {x : Str} {F : List DV → Mem → Res R} {e : Expr} {es : List Expr} {tA : TA} {fA : AM} {p pos : Pos} (Fn : FnD P w K mg base cx k x n F) (hr : Room k X.A) (hgd : X.A.guards = some []) (hg : Gl X x)
    (hx : ∀ σ, PassesAt cx X σ (EW W σ)) (ha : PMA X W (e :: es) tA fA) (h1 : X.prog = P := by rfl) (h2 : X.w = w := by rfl) (h3 : X.K = K := by rfl) (h4 : X.mg = mg := by rfl) (h5 : X.base = base := by rfl) (hdb : (x == ("__debug__" : Str)) = false := by decide)
    (he : starEach (e :: es) X.env = (false, eval e X.env) :: starEach es X.env := by rfl) (hpl : (backTo pos (starEach es X.env)).any (·.1) = false := by rfl) :
    PM X W (.Call (.Name x p) (e :: es) [] pos) (tCallSD (spF K n F) [] (EW W) tA) (eCBT F fA) := by
  subst h1 h2 h3 h4 h5
  obtain ⟨f, fd, ps, hn, G, hm, hk, hb⟩ := Fn.ex
  exact ⟨pe_callG G hr hgd hg hm hk hb .nil hx ha.pe hdb he hpl, snd_callT ha.sd Fn.ar⟩
end DL
namespace DL
open PySem PySem.Spec PyProof.Rows L2
/-! ### texts in order -/
def ltS (a b : Str) : Bool := ltCps a.cps.toList b.cps.toList
theorem ltC_irrefl : ∀ a : List Nat, ltCps a a = false
  | [] => rfl
  | x :: r => by simp [ltCps, ltC_irrefl r]
theorem ltC_trans : ∀ {a b c : List Nat}, ltCps a b = true → ltCps b c = true → ltCps a c = true
  | [], [], _, h, _ => by cases h
  | [], _ :: _, [], _, h => by cases h
  | [], _ :: _, _ :: _, _, _ => rfl
  | _ :: _, [], _, h, _ => by cases h
  | _ :: _, _ :: _, [], _, h => by cases h
  | x :: a, y :: b, z :: c, h, h' => by
    simp only [ltCps, Bool.or_eq_true, decide_eq_true_eq, Bool.and_eq_true, beq_iff_eq] at h h' ⊢
    rcases h with h | ⟨rfl, h⟩
    · rcases h' with h' | ⟨rfl, h'⟩
      · exact .inl (Nat.lt_trans h h')
      · exact .inl h
    · rcases h' with h' | ⟨rfl, h'⟩
      · exact .inl h'
      · exact .inr ⟨rfl, ltC_trans h h'⟩
theorem ltC_total : ∀ {a b : List Nat}, ltCps a b = false → ltCps b a = false → a = b
  | [], [], _, _ => rfl
  | [], _ :: _, h, _ => by cases h
  | _ :: _, [], _, h => by cases h
  | x :: a, y :: b, h, h' => by
    simp only [ltCps, Bool.or_eq_false_iff, decide_eq_false_iff_not, Bool.and_eq_false_iff] at h h'
    obtain rfl : x = y := by omega
    have h1 : ltCps a b = false := h.2.elim (fun z => by simp at z) id
    have h2 : ltCps b a = false := h'.2.elim (fun z => by simp at z) id
    rw [ltC_total h1 h2]
theorem str_ext {a b : Str} (h : a.cps.toList = b.cps.toList) : a = b := by
  cases a; cases b
  have : (_ : Array Nat) = _ := Array.toList_inj.mp h
  simp_all
theorem ltS_irrefl (a : Str) : ltS a a = false := ltC_irrefl _
theorem ltS_trans {a b c : Str} (h : ltS a b = true) (h' : ltS b c = true) : ltS a c = true := ltC_trans h h'
theorem ltS_total {a b : Str} (h : ltS a b = false) (h' : ltS b a = false) : a = b := str_ext (ltC_total h h')
/-- ascending, each once -/
def insU (x : Str) : List Str → List Str
  | [] => [x]
  | y :: ys => if ltS x y = true then x :: y :: ys else if ltS y x = true then y :: insU x ys else y :: ys
def sortU : List Str → List Str
  | [] => []
  | x :: xs => insU x (sortU xs)
theorem insU_mem (x y : Str) : ∀ ys : List Str, y ∈ insU x ys ↔ y = x ∨ y ∈ ys
  | [] => by simp [insU]
  | z :: zs => by
    unfold insU
    split
    · simp
    · split
      · rw [List.mem_cons, insU_mem x y zs, List.mem_cons]
        constructor
        · rintro (h | h | h) <;> simp [h]
        · rintro (h | h | h) <;> simp [h]
      · rename_i h1 h2
        have e : x = z := ltS_total (by simpa using h1) (by simpa using h2)
        rw [e, List.mem_cons]
        constructor
        · exact .inr
        · rintro (h | h)
          · exact .inl h
          · exact h
theorem insU_rises {x : Str} : ∀ {ys : List Str}, ys.Pairwise (fun a b => ltS a b = true) → (insU x ys).Pairwise (fun a b => ltS a b = true)
  | [], _ => by simp [insU]
  | z :: zs, h => by
    obtain ⟨h1, h2⟩ := List.pairwise_cons.mp h
    unfold insU
    split
    · rename_i c
      exact List.pairwise_cons.mpr ⟨fun y hy => (List.mem_cons.mp hy).elim (fun e => e ▸ c) fun q => ltS_trans c (h1 y q), h⟩
    · split
      · rename_i c
        exact List.pairwise_cons.mpr ⟨fun y hy => ((insU_mem x y zs).1 hy).elim (fun e => e ▸ c) (h1 y), insU_rises h2⟩
      · exact h
theorem sortU_mem (y : Str) : ∀ xs : List Str, y ∈ sortU xs ↔ y ∈ xs
  | [] => Iff.rfl
  | x :: xs => by rw [sortU, insU_mem, sortU_mem y xs, List.mem_cons]
theorem sortU_rises : ∀ xs : List Str, (sortU xs).Pairwise (fun a b => ltS a b = true)
  | [] => .nil
  | x :: xs => insU_rises (sortU_rises xs)
theorem rises_one : ∀ {xs ys : List Str}, xs.Pairwise (fun a b => ltS a b = true) → ys.Pairwise (fun a b => ltS a b = true) → (∀ z, z ∈ xs ↔ z ∈ ys) → xs = ys
  | [], [], _, _, _ => rfl
  | [], y :: ys, _, _, h => absurd ((h y).2 List.mem_cons_self) (fun z => nomatch z)
  | x :: xs, [], _, _, h => absurd ((h x).1 List.mem_cons_self) (fun z => nomatch z)
  | x :: xs, y :: ys, hx, hy, h => by
    obtain ⟨x1, x2⟩ := List.pairwise_cons.mp hx
    obtain ⟨y1, y2⟩ := List.pairwise_cons.mp hy
    have e : x = y := by
      rcases List.mem_cons.mp ((h x).1 List.mem_cons_self) with e | q
      · exact e
      · rcases List.mem_cons.mp ((h y).2 List.mem_cons_self) with e | q'
        · exact e.symm
        · have a := y1 x q
          have b := x1 y q'
          have c := ltS_trans a b
          rw [ltS_irrefl] at c; cases c
    subst e
    rw [rises_one x2 y2 fun z => ?_]
    constructor
    · intro hz
      rcases List.mem_cons.mp ((h z).1 (List.mem_cons_of_mem _ hz)) with e | q
      · have := x1 z hz
        rw [e, ltS_irrefl] at this; cases this
      · exact q
    · intro hz
      rcases List.mem_cons.mp ((h z).2 (List.mem_cons_of_mem _ hz)) with e | q
      · have := y1 z hz
        rw [e, ltS_irrefl] at this; cases this
      · exact q
theorem sortU_len : ∀ xs : List Str, (sortU xs).length ≤ xs.length := by
  have ins : ∀ (x : Str) (ys : List Str), (insU x ys).length ≤ ys.length + 1 := by
    intro x ys
    induction ys with
    | nil => simp [insU]
    | cons y ys ih =>
      unfold insU
      split
      · simp
      · split
        · simp; omega
        · simp
  intro xs
  induction xs with
  | nil => simp [sortU]
  | cons x xs ih => have := ins x (sortU xs); simp [sortU]; omega
theorem rises_of_sortedS {ss : List Str} (h : sortedS ss = true) (nd : ss.Nodup) : ss.Pairwise (fun a b => ltS a b = true) := by
  have key : ∀ (r : List Str) (x : Str), risingS x r = true → (x :: r).Nodup → (x :: r).Pairwise (fun a b => ltS a b = true) := by
    intro r
    induction r with
    | nil => intro x _ _; simp
    | cons y r ih =>
      intro x h nd
      simp only [risingS, Bool.and_eq_true] at h
      obtain ⟨n1, n2⟩ := List.nodup_cons.mp nd
      have q := ih y h.2 n2
      obtain ⟨q1, q2⟩ := List.pairwise_cons.mp q
      have hxy : ltS x y = true := by
        cases e : ltS x y with
        | true => rfl
        | false =>
          have e2 : ltS y x = false := by
            have h1 := h.1
            simp only [Bool.not_eq_true'] at h1
            exact h1
          exact absurd (ltS_total e e2) (fun z => n1 (by rw [z]; exact List.mem_cons_self))
      exact List.pairwise_cons.mpr ⟨fun z hz => (List.mem_cons.mp hz).elim (fun e => e ▸ hxy) fun q => ltS_trans hxy (q1 z q), q⟩
  cases ss with
  | nil => exact .nil
  | cons x r => exact key r x h nd
end DL
/-! list(range(n)), sorted of ints, of texts, of a dict -/
namespace DL
open PySem PySem.Spec PyProof.Rows L2
section
variable {K : PySem.W.Frag} {W : WX} {ρ : Pm} {G H : Hp} {μ : Mem} {σ : Slots} {δ : Env}
def eListRng (f : EM) : EM := fun δ μ => (frzV f δ μ).bind fun x μ' => match asI x with
  | some n => if 0 ≤ n ∧ n ≤ 1000000 then .ok (.nl ((List.range n.toNat).map fun i => .dat (.int (i : Nat)))) μ' else .bad
  | none => .bad
theorem dvl_ints : ∀ (l : List Nat), DvL K ρ G (l.map fun i => V.int (i : Nat)) (l.map fun i => .dat (.int (i : Nat)))
  | [] => .nil
  | i :: l => .cons (Rp.int _) (dvl_ints l)
theorem snd_listRng {te : TE} {f : EM} (h : SndE K W te f) : SndE K W (tLstRg (tRg1 te)) (eListRng f) := fun ρ G H σ δ μ Q R E hp => by
  refine SndG.seq (t := te) h.toV R E hp fun x μ1 G1 H1 v t1 R1 E1 d1 hp1 => ?_
  cases e : asI x with
  | none => rw [e] at hp1; exact hp1.elim
  | some n =>
    simp only [e] at hp1
    by_cases c : 0 ≤ n ∧ n ≤ 1000000
    case neg => rw [if_neg c] at hp1; exact hp1.elim
    rw [if_pos c] at hp1
    refine ⟨n, asI_ok d1 e, RgOk.of_le (by omega) (by omega) (by omega) (by omega), fun q hq => ?_⟩
    have ev : rgV 0 n = (List.range n.toNat).map fun i => V.int (i : Nat) := by unfold rgV; simp
    rw [ev]
    exact new_list R1 t1 hq (dvl_ints _) hp1
/-! ### sorted -/
def insI (x : Int) : List Int → List Int
  | [] => [x]
  | y :: ys => if x ≤ y then x :: y :: ys else y :: insI x ys
def sortI : List Int → List Int
  | [] => []
  | x :: xs => insI x (sortI xs)
theorem insI_perm (x : Int) : ∀ ys : List Int, (insI x ys).Perm (x :: ys)
  | [] => .refl _
  | y :: ys => by
    unfold insI
    split
    · exact .refl _
    · exact ((insI_perm x ys).cons y).trans (.swap _ _ _)
theorem sortI_perm : ∀ xs : List Int, (sortI xs).Perm xs
  | [] => .refl _
  | x :: xs => (insI_perm x _).trans ((sortI_perm xs).cons x)
theorem insI_rises (x : Int) : ∀ {ys : List Int}, ys.Pairwise (· ≤ ·) → (insI x ys).Pairwise (· ≤ ·)
  | [], _ => by simp [insI]
  | y :: ys, h => by
    unfold insI
    split
    · rename_i hle
      refine List.Pairwise.cons (fun z hz => ?_) h
      rcases List.mem_cons.mp hz with rfl | hz
      · exact hle
      · exact Int.le_trans hle ((List.pairwise_cons.mp h).1 z hz)
    · rename_i hle
      refine List.Pairwise.cons (fun z hz => ?_) (insI_rises x (List.pairwise_cons.mp h).2)
      rcases List.mem_cons.mp ((insI_perm x ys).mem_iff.mp hz) with rfl | hz
      · omega
      · exact (List.pairwise_cons.mp h).1 z hz
theorem sortI_rises : ∀ xs : List Int, (sortI xs).Pairwise (· ≤ ·)
  | [] => .nil
  | x :: xs => insI_rises x (sortI_rises xs)
theorem rises_perm {α : Type} {le : α → α → Prop} (anti : ∀ a b, le a b → le b a → a = b) : ∀ {xs ys : List α}, xs.Pairwise le → ys.Pairwise le → xs.Perm ys → xs = ys
  | [], ys, _, _, h => by rw [h.symm.eq_nil]
  | x :: xs, [], _, _, h => by cases h.eq_nil
  | x :: xs, y :: ys, hx, hy, h => by
    obtain ⟨hx1, hx2⟩ := List.pairwise_cons.mp hx
    obtain ⟨hy1, hy2⟩ := List.pairwise_cons.mp hy
    have e : x = y := by
      rcases List.mem_cons.mp (h.mem_iff.mp (List.mem_cons_self : x ∈ x :: xs)) with e | e
      · exact e
      · rcases List.mem_cons.mp (h.symm.mem_iff.mp (List.mem_cons_self : y ∈ y :: ys)) with e2 | e2
        · exact e2.symm
        · exact anti x y (hx1 y e2) (hy1 x e)
    subst e
    rw [rises_perm anti hx2 hy2 (List.Perm.cons_inv h)]
/-- texts in order, some perhaps twice -/
def leS (a b : Str) : Prop := ltS b a = false
theorem leS_anti (a b : Str) (h : leS a b) (h' : leS b a) : a = b := ltS_total h' h
def insS (x : Str) : List Str → List Str
  | [] => [x]
  | y :: ys => if ltS y x = true then y :: insS x ys else x :: y :: ys
def sortS : List Str → List Str
  | [] => []
  | x :: xs => insS x (sortS xs)
theorem insS_perm (x : Str) : ∀ ys : List Str, (insS x ys).Perm (x :: ys)
  | [] => .refl _
  | y :: ys => by
    unfold insS
    split
    · exact ((insS_perm x ys).cons y).trans (.swap _ _ _)
    · exact .refl _
theorem sortS_perm : ∀ xs : List Str, (sortS xs).Perm xs
  | [] => .refl _
  | x :: xs => (insS_perm x _).trans ((sortS_perm xs).cons x)
theorem leS_of_lt {a b : Str} (h : ltS a b = true) : leS a b := by
  unfold leS
  cases e : ltS b a with
  | false => rfl
  | true => exact absurd (ltS_trans h e) (by rw [ltS_irrefl]; exact Bool.false_ne_true)
theorem leS_trans {a b c : Str} (h : leS a b) (h' : leS b c) : leS a c := by
  unfold leS at *
  cases e : ltS c a with
  | false => rfl
  | true =>
    cases e2 : ltS a b with
    | true => rw [ltS_trans e e2] at h'; cases h'
    | false => have := ltS_total e2 h; subst this; rw [e] at h'; cases h'
theorem insS_rises (x : Str) : ∀ {ys : List Str}, ys.Pairwise leS → (insS x ys).Pairwise leS
  | [], _ => by simp [insS]
  | y :: ys, h => by
    unfold insS
    split
    · rename_i hlt
      refine List.Pairwise.cons (fun z hz => ?_) (insS_rises x (List.pairwise_cons.mp h).2)
      rcases List.mem_cons.mp ((insS_perm x ys).mem_iff.mp hz) with rfl | hz
      · exact leS_of_lt hlt
      · exact (List.pairwise_cons.mp h).1 z hz
    · rename_i hlt
      have hle : leS x y := by unfold leS; cases e : ltS y x with
        | true => exact absurd e hlt
        | false => rfl
      refine List.Pairwise.cons (fun z hz => ?_) h
      rcases List.mem_cons.mp hz with rfl | hz
      · exact hle
      · exact leS_trans hle ((List.pairwise_cons.mp h).1 z hz)
theorem sortS_rises : ∀ xs : List Str, (sortS xs).Pairwise leS
  | [] => .nil
  | x :: xs => insS_rises x (sortS_rises xs)
end
end DL
/-! sorted of a list of ints or texts, of a dict -/
namespace DL
open PySem PySem.Spec PyProof.Rows L2
theorem leS_of_sorted {ss : List Str} (h : sortedS ss = true) : ss.Pairwise leS := by
  have key : ∀ (r : List Str) (x : Str), risingS x r = true → (x :: r).Pairwise leS := by
    intro r
    induction r with
    | nil => intro x _; simp
    | cons y r ih =>
      intro x h
      simp only [risingS, Bool.and_eq_true, Bool.not_eq_true'] at h
      have q := ih y h.2
      have hxy : leS x y := h.1
      exact List.pairwise_cons.mpr ⟨fun z hz => (List.mem_cons.mp hz).elim (fun e => e ▸ hxy) fun p => leS_trans hxy ((List.pairwise_cons.mp q).1 z p), q⟩
  cases ss with
  | nil => exact .nil
  | cons x r => exact key r x h
theorem sortI_one {xs ys : List Int} (h : ys.Perm xs) (hs : ys.Pairwise (· ≤ ·)) : ys = sortI xs :=
  rises_perm (fun _ _ => Int.le_antisymm) hs (sortI_rises xs) (h.trans (sortI_perm xs).symm)
theorem sortS_one {xs ys : List Str} (h : ys.Perm xs) (hs : sortedS ys = true) : ys = sortS xs :=
  rises_perm leS_anti (leS_of_sorted hs) (sortS_rises xs) (h.trans (sortS_perm xs).symm)
def allI : List DV → Option (List Int)
  | [] => some []
  | .dat (.int i) :: xs => (allI xs).map (i :: ·)
  | _ :: _ => none
def allT : List DV → Option (List Str)
  | [] => some []
  | .dat (.str i) :: xs => (allT xs).map (i :: ·)
  | _ :: _ => none
def dInts (l : List Int) : List DV := l.map fun i => .dat (.int i)
def dTxts (l : List Str) : List DV := l.map fun i => .dat (.str i)
section
variable {K : PySem.W.Frag} {W : WX} {ρ : Pm} {G H : Hp} {μ : Mem} {σ : Slots} {δ : Env}
theorem allI_ok : ∀ {vs : List V} {xs : List DV} {ns : List Int}, DvL K ρ G vs xs → allI xs = some ns → vs = ns.map V.int
  | _, [], ns, .nil, e => by cases e; rfl
  | _, .dat (.int i) :: xs, ns, .cons a b, e => by
    unfold allI at e
    cases e1 : allI xs with
    | none => rw [e1] at e; cases e
    | some l =>
      rw [e1] at e; cases e
      have a' : DvOk K ρ G _ (.dat (.int i)) := a
      cases a' with
      | int => rw [List.map_cons, allI_ok b e1]
theorem allT_ok : ∀ {vs : List V} {xs : List DV} {ns : List Str}, DvL K ρ G vs xs → allT xs = some ns → vs = ns.map V.str
  | _, [], ns, .nil, e => by cases e; rfl
  | _, .dat (.str i) :: xs, ns, .cons a b, e => by
    unfold allT at e
    cases e1 : allT xs with
    | none => rw [e1] at e; cases e
    | some l =>
      rw [e1] at e; cases e
      have a' : DvOk K ρ G _ (.dat (.str i)) := a
      cases a' with
      | str => rw [List.map_cons, allT_ok b e1]
theorem dvl_dInts : ∀ l : List Int, DvL K ρ G (l.map V.int) (dInts l)
  | [] => .nil
  | i :: l => .cons (Rp.int _) (dvl_dInts l)
theorem dvl_dTxts : ∀ l : List Str, DvL K ρ G (l.map V.str) (dTxts l)
  | [] => .nil
  | i :: l => .cons (Rp.str _) (dvl_dTxts l)
def dSortI (x : DV) (μ : Mem) : Res R := match (asL μ x).bind allI with
  | some ns => .ok (.nl (dInts (sortI ns))) μ
  | none => .bad
def dSortT (x : DV) (μ : Mem) : Res R := match (asL μ x).bind allT with
  | some ns => if ns.length < 64 then .ok (.nl (dTxts (sortS ns))) μ else .bad
  | none => .bad
theorem cd_sortI : CallD K (rSortedI K) (d1 dSortI) := cd_1 fun W ρ G H σ μ v x Q R hx hp => by
  unfold dSortI at hp
  split at hp
  · rename_i ns e
    obtain ⟨xs, e1, e2⟩ := Option.bind_eq_some_iff.mp e
    obtain ⟨a, vs, rfl, h2, h3⟩ := asL_ok R hx e1
    obtain rfl := allI_ok h3 e2
    exact ⟨a, ns, rfl, h2, fun ns' p hp1 hp2 hn => by
      obtain rfl := sortI_one hp1 hp2
      exact new_list R (Tr.refl _ _ _) hn (dvl_dInts _) hp⟩
  · exact hp.elim
theorem cd_sortT : CallD K (rSortedS K) (d1 dSortT) := cd_1 fun W ρ G H σ μ v x Q R hx hp => by
  unfold dSortT at hp
  split at hp
  · rename_i ns e
    by_cases hl : ns.length < 64
    case neg => rw [if_neg hl] at hp; exact hp.elim
    rw [if_pos hl] at hp
    obtain ⟨xs, e1, e2⟩ := Option.bind_eq_some_iff.mp e
    obtain ⟨a, vs, rfl, h2, h3⟩ := asL_ok R hx e1
    obtain rfl := allT_ok h3 e2
    exact ⟨a, ns, rfl, h2, hl, fun ns' p hp1 hp2 hn => by
      obtain rfl := sortS_one hp1 hp2
      exact new_list R (Tr.refl _ _ _) hn (dvl_dTxts _) hp⟩
  · exact hp.elim
/-! of a dict -/
def kysI : List Ky → Option (List Int)
  | [] => some []
  | .k (.inl i) :: xs => (kysI xs).map (i :: ·)
  | _ :: _ => none
def kysT : List Ky → Option (List Str)
  | [] => some []
  | .k (.inr i) :: xs => (kysT xs).map (i :: ·)
  | _ :: _ => none
theorem kysI_ok : ∀ {ls : List (Key × V)} {kvs : List (Ky × DV)} {ns : List Int}, PrL K ρ G ls kvs → kysI (kvs.map (·.1)) = some ns → ls.map (·.1) = ns.map Sum.inl
  | _, _, ns, .nil, e => by cases e; rfl
  | (k, v) :: ls, (q, z) :: kvs, ns, .cons a b, e => by
    have a1 : q = .k k := a.1
    subst a1
    simp only [List.map_cons] at e
    cases k with
    | inr s => cases e
    | inl i =>
      unfold kysI at e
      cases e1 : kysI (kvs.map (·.1)) with
      | none => rw [e1] at e; cases e
      | some l => rw [e1] at e; cases e; simp [kysI_ok b e1]
theorem kysT_ok : ∀ {ls : List (Key × V)} {kvs : List (Ky × DV)} {ns : List Str}, PrL K ρ G ls kvs → kysT (kvs.map (·.1)) = some ns → ls.map (·.1) = ns.map Sum.inr
  | _, _, ns, .nil, e => by cases e; rfl
  | (k, v) :: ls, (q, z) :: kvs, ns, .cons a b, e => by
    have a1 : q = .k k := a.1
    subst a1
    simp only [List.map_cons] at e
    cases k with
    | inl s => cases e
    | inr i =>
      unfold kysT at e
      cases e1 : kysT (kvs.map (·.1)) with
      | none => rw [e1] at e; cases e
      | some l => rw [e1] at e; cases e; simp [kysT_ok b e1]
theorem kysI_all : ∀ {kvs : List (Ky × DV)} {ns : List Int}, kysI (kvs.map (·.1)) = some ns → allK kvs = true
  | [], _, _ => rfl
  | (.k (.inl i), z) :: kvs, ns, e => by
    simp only [List.map_cons] at e
    unfold kysI at e
    cases e1 : kysI (kvs.map (·.1)) with
    | none => rw [e1] at e; cases e
    | some l => have := kysI_all e1; simp [allK, Ky.isK] at this ⊢; exact this
  | (.k (.inr i), z) :: kvs, ns, e => by cases e
  | (.t i, z) :: kvs, ns, e => by cases e
theorem kysT_all : ∀ {kvs : List (Ky × DV)} {ns : List Str}, kysT (kvs.map (·.1)) = some ns → allK kvs = true
  | [], _, _ => rfl
  | (.k (.inr i), z) :: kvs, ns, e => by
    simp only [List.map_cons] at e
    unfold kysT at e
    cases e1 : kysT (kvs.map (·.1)) with
    | none => rw [e1] at e; cases e
    | some l => have := kysT_all e1; simp [allK, Ky.isK] at this ⊢; exact this
  | (.k (.inl i), z) :: kvs, ns, e => by cases e
  | (.t i, z) :: kvs, ns, e => by cases e
def dSortKI (x : DV) (μ : Mem) : Res R := match (dctOf x μ).bind fun kvs => kysI (kvs.map (·.1)) with
  | some ns => if ns.length < 64 then .ok (.nl (dInts (sortI ns))) μ else .bad
  | none => .bad
def dSortKT (x : DV) (μ : Mem) : Res R := match (dctOf x μ).bind fun kvs => kysT (kvs.map (·.1)) with
  | some ns => if ns.length < 64 then .ok (.nl (dTxts (sortS ns))) μ else .bad
  | none => .bad
def rSortedDI : List V → Hp → VK → Prop := fun xs H Q => ∃ (a : Addr) (kvs : List (Key × V)) (ks : List Int), xs = [.ref a] ∧ Rd H a (.dK kvs) ∧ kvs.map (·.1) = ks.map Sum.inl ∧ ks.length < 64 ∧ ∀ (ys : List Int) (p : Addr), ys.Perm ks → ys.Pairwise (· ≤ ·) → H p = none → Q (.ref p) (upd H p (.lst (ys.map V.int)))
def rSortedDT : List V → Hp → VK → Prop := fun xs H Q => ∃ (a : Addr) (kvs : List (Key × V)) (ks : List Str), xs = [.ref a] ∧ Rd H a (.dK kvs) ∧ kvs.map (·.1) = ks.map Sum.inr ∧ ks.length < 64 ∧ ∀ (ys : List Str) (p : Addr), ys.Perm ks → sortedS ys = true → H p = none → Q (.ref p) (upd H p (.lst (ys.map V.str)))
theorem cd_sortKI : CallD K rSortedDI (d1 dSortKI) := cd_1 fun W ρ G H σ μ v x Q R hx hp => by
  unfold dSortKI at hp
  split at hp
  · rename_i ns e
    by_cases hl : ns.length < 64
    case neg => rw [if_neg hl] at hp; exact hp.elim
    rw [if_pos hl] at hp
    obtain ⟨kvs, e1, e2⟩ := Option.bind_eq_some_iff.mp e
    obtain ⟨a, o, vs, rfl, h1, h2, h3⟩ := dctOf_ok R hx e1
    obtain ⟨ls, rfl, hls⟩ := dK_of h2 h3 (kysI_all e2)
    exact ⟨a, ls, ns, rfl, h1, kysI_ok hls e2, hl, fun ns' p hp1 hp2 hn => by
      obtain rfl := sortI_one hp1 hp2
      exact new_list R (Tr.refl _ _ _) hn (dvl_dInts _) hp⟩
  · exact hp.elim
theorem cd_sortKT : CallD K rSortedDT (d1 dSortKT) := cd_1 fun W ρ G H σ μ v x Q R hx hp => by
  unfold dSortKT at hp
  split at hp
  · rename_i ns e
    by_cases hl : ns.length < 64
    case neg => rw [if_neg hl] at hp; exact hp.elim
    rw [if_pos hl] at hp
    obtain ⟨kvs, e1, e2⟩ := Option.bind_eq_some_iff.mp e
    obtain ⟨a, o, vs, rfl, h1, h2, h3⟩ := dctOf_ok R hx e1
    obtain ⟨ls, rfl, hls⟩ := dK_of h2 h3 (kysT_all e2)
    exact ⟨a, ls, ns, rfl, h1, kysT_ok hls e2, hl, fun ns' p hp1 hp2 hn => by
      obtain rfl := sortS_one hp1 hp2
      exact new_list R (Tr.refl _ _ _) hn (dvl_dTxts _) hp⟩
  · exact hp.elim
def rSortA (K : PySem.W.Frag) : List V → Hp → VK → Prop := fun xs H Q => rSortedI K xs H Q ∨ (fun xs H Q => rSortedS K xs H Q ∨ (fun xs H Q => rSortedDI xs H Q ∨ rSortedDT xs H Q) xs H Q) xs H Q
def dSortA : List DV → Mem → Res R := alt1 (d1 dSortI) (alt1 (d1 dSortT) (alt1 (d1 dSortKI) (d1 dSortKT)))
theorem cd_sortA : CallD K (rSortA K) dSortA := CallD.alt cd_sortI (CallD.alt cd_sortT (CallD.alt cd_sortKI cd_sortKT))
theorem cr_sortA (K : PySem.W.Frag) {X : Cx} (hc : X.calm = true) (hK : X.K = K := by rfl) : CallR X (.builtin "sorted") (rSortA K) := by
  subst hK; exact CallR.or cr_sortedI (CallR.or cr_sortedS (CallR.or (call_sortedDI hc) (call_sortedD hc)))
end
section
variable {X : Cx} {W : WX} {e : Expr} {te : TE} {f : EM} {p p2 pos pos2 : Pos}
theorem pm_listRng (hc : X.calm = true) (hg : Gl X "list") (hm : X.mg "list" = none) (hg2 : Gl X "range") (hm2 : X.mg "range" = none) (he : PM X W e te f) (na : starEach [e] X.env = (false, eval e X.env) :: starEach [] X.env := by rfl)
    (nb : starEach [.Call (.Name "range" p2) [e] [] pos2] X.env = (false, eval (.Call (.Name "range" p2) [e] [] pos2) X.env) :: starEach [] X.env := by rfl) :
    PM X W (.Call (.Name "list" p) [.Call (.Name "range" p2) [e] [] pos2] [] pos) (tLstRg (tRg1 te)) (eListRng f) := ⟨pe_listRg hc hg hm (prg_1 hg2 hm2 he.pe na) nb, snd_listRng he.sd⟩
end
end DL
/-! plain: names, steps, deeds -/
namespace DL
open PySem PySem.Spec PyProof.Rows L2
def DatK (x : DV) (Q : D → Prop) : Prop := ∃ d, x = .dat d ∧ Q d
theorem dkk {d : D} {Q : D → Prop} (h : Q d) : DatK (.dat d) Q := ⟨d, rfl, h⟩
theorem s_raiseK {nm f : Str} {fe : EM} {P : DL.PO} {δ : DL.Env} {μ : Mem} {N : Nat} (h : Sat (frzV fe δ μ) (fun x μ' => DatK x fun d => P.ex ⟨nm, [(f, d)]⟩ δ μ') (fun x μ => P.ex x δ μ)) : SatS (gRaise nm f fe N δ μ) P := s_raise h
theorem at0 {α : Type} {x : α} {xs : List α} : atI (x :: xs) 0 = some x := DL.atI_nat (k := 0) rfl
theorem l_ix0T {d : D} {ds : List D} {QR : R → Mem → Prop} {E : Xc → Mem → Prop} {μ : Mem} (h : QR (.dat d) μ) : Sat (dIx (.dat (.tup (d :: ds))) (.dat (.int 0)) μ) QR E := l_ixT at0 h
theorem l_ix0L {d : D} {ds : List D} {QR : R → Mem → Prop} {E : Xc → Mem → Prop} {μ : Mem} (h : QR (.dat d) μ) : Sat (dIx (.dat (.lst (d :: ds))) (.dat (.int 0)) μ) QR E := l_ixL at0 h
/-- items by an invariant that counts the turns -/
theorem lc_ix {h : D → DL.Env → Option DL.Env} {ft : TM} {fe : EM} {ds : List D} {δ : DL.Env} {μ : Mem} {QA : List DV → Mem → Prop} {E : Xc → Mem → Prop} (I : Nat → List DV → Mem → Prop) (h0 : I 0 [] μ)
    (ht : ∀ (i : Nat) d, ds[i]? = some d → ∀ ys μ, I i ys μ → ∃ δ1, h d δ = some δ1 ∧ Sat (ft δ1 μ) (fun b μ1 => if b = true then Sat (frzV fe δ1 μ1) (fun y μ2 => I (i + 1) (ys ++ [y]) μ2) (fun _ _ => False) else I (i + 1) ys μ1) (fun _ _ => False))
    (hq : ∀ ys μ, I ds.length ys μ → QA ys μ) : Sat (lcL h ft fe δ ds μ) QA E := by
  have key : ∀ (n i : Nat), i + n = ds.length → ∀ zs μ, I i zs μ → Sat (lcL h ft fe δ (ds.drop i) μ) (fun ys μ' => I ds.length (zs ++ ys) μ') (fun _ _ => False) := by
    intro n
    induction n with
    | zero =>
      intro i hi zs μ hz
      rw [List.drop_of_length_le (by omega)]
      have : i = ds.length := by omega
      subst this
      show I ds.length (zs ++ []) μ
      rw [List.append_nil]; exact hz
    | succ n ih =>
      intro i hi zs μ hz
      have hl : i < ds.length := by omega
      rw [List.drop_eq_getElem_cons hl]
      obtain ⟨δ1, h1, h2⟩ := ht i ds[i] (List.getElem?_eq_getElem hl) zs μ hz
      simp only [lcL, h1]
      cases e : ft δ1 μ with
      | ok b μ1 =>
        rw [e] at h2
        cases b with
        | true =>
          simp only at h2 ⊢
          have h2 : Sat (frzV fe δ1 μ1) (fun y μ2 => I (i + 1) (zs ++ [y]) μ2) (fun _ _ => False) := h2
          cases e2 : frzV fe δ1 μ1 with
          | ok y μ2 =>
            rw [e2] at h2
            refine sat_bind ((ih (i + 1) (by omega) (zs ++ [y]) μ2 h2).mono (fun ys μ3 q => ?_) fun _ _ q => q)
            show I ds.length (zs ++ y :: ys) μ3
            rw [List.append_cons]; exact q
          | exc x μ2 => rw [e2] at h2; exact h2.elim
          | bad => rw [e2] at h2; exact h2.elim
        | false => exact ih (i + 1) (by omega) zs μ1 h2
      | exc x μ1 => rw [e] at h2; exact h2.elim
      | bad => rw [e] at h2; exact h2.elim
  have := key ds.length 0 (by omega) [] μ h0
  rw [List.drop_zero] at this
  exact this.mono (fun ys m q => hq ys m q) fun _ _ q => q.elim
theorem sl_sz2 {n : Nat} (h : n ≤ 1000000) : n ≤ sizeLine := Nat.le_trans h (by decide)
theorem rng_len (k : Int) (n : Nat) : (rngD k n).length = n := by unfold rngD; simp
theorem range_at {n k : Nat} {d : D} (h : (rngD 0 n)[k]? = some d) : k < n ∧ d = .int k := by
  unfold rngD at h
  rw [List.getElem?_map] at h
  obtain ⟨j, hj, rfl⟩ := Option.map_eq_some_iff.mp h
  obtain ⟨h1, h2⟩ := List.getElem?_eq_some_iff.mp hj
  rw [List.getElem_range] at h2
  subst h2
  exact ⟨by simpa using h1, by simp⟩
def menu : List Str := ["a", "ab", "end", "l", "more", "new", "share", "write", "x", "zzzzzzzz"]
def louds : List Str := ["new", "share", "share", "end", "write", "write"]
def quiets : List Str := ["hold", "leave", "more", "less"]
theorem menu_fit : ∀ s ∈ menu, PyData.strOk s = true ∧ s.cps.size ≤ 16 := by decide +kernel
theorem word_fit : ∀ s ∈ louds ++ quiets, PyData.strOk s = true ∧ s.cps.size ≤ 16 := by decide +kernel
theorem split_menu : Txt.split "a ab end l more new share write x zzzzzzzz" " " = menu := by decide +kernel
theorem menu_cut : ∀ at_ : Fin 10, ∀ m : Fin 6, (((menu ++ menu).drop at_.1).take m.1).Nodup ∧ (((menu ++ menu).drop at_.1).take m.1).length = m.1 := by decide +kernel
theorem menu_mem {s : Str} (h : s ∈ menu ++ menu) : s ∈ menu := by simpa using h
abbrev Sp1 := Str × List Str
abbrev stD (x : Sp1) : D := .tup (.str x.1 :: x.2.map D.str)
abbrev strsD (ss : List Str) : List D := ss.map D.str
abbrev deedD (as : List Str) (xs : List Sp1) : D := .tup [.tup (as.map D.str), .tup (xs.map stD)]
def two (w : Str) : Bool := decide (w = "share") || decide (w = "hold")
/-- a step over the names ss -/
structure StOk (b : Bool) (ss : List Str) (x : Sp1) : Prop where
  w : x.1 ∈ (if b = true then louds else louds ++ quiets)
  sh : two x.1 = true → ∃ a c, x.2 = [a, c] ∧ a ≠ c ∧ a ∈ ss ∧ c ∈ ss
  ot : two x.1 = false → ∃ a, x.2 = [a] ∧ a ∈ ss
/-- a drawn deed: os are its own names' -/
structure DeedOk (b : Bool) (as os : List Str) (xs : List Sp1) : Prop where
  nd : (as ++ os).Nodup
  me : ∀ s ∈ as ++ os, s ∈ menu
  a1 : 1 ≤ as.length
  a3 : as.length ≤ 3
  o2 : os.length ≤ 2
  x1 : 1 ≤ xs.length
  x8 : xs.length ≤ 8
  st : ∀ x ∈ xs, StOk b (as ++ os) x
theorem StOk.word {b : Bool} {ss : List Str} {x : Sp1} (h : StOk b ss x) : x.1 ∈ louds ++ quiets := by
  have := h.w
  by_cases e : b = true
  · rw [if_pos e] at this; exact List.mem_append_left _ this
  · rw [if_neg e] at this; exact this
theorem StOk.mem {b : Bool} {ss : List Str} {x : Sp1} (h : StOk b ss x) : ∀ s ∈ x.2, s ∈ ss := by
  intro s hs
  cases e : two x.1 with
  | true => obtain ⟨a, c, e2, _, h1, h2⟩ := h.sh e; rw [e2] at hs; simp at hs; rcases hs with rfl | rfl <;> assumption
  | false => obtain ⟨a, e2, h1⟩ := h.ot e; rw [e2] at hs; simp at hs; subst hs; exact h1
theorem StOk.len {b : Bool} {ss : List Str} {x : Sp1} (h : StOk b ss x) : 1 ≤ x.2.length ∧ x.2.length ≤ 2 := by
  cases e : two x.1 with
  | true => obtain ⟨a, c, e2, _⟩ := h.sh e; rw [e2]; simp
  | false => obtain ⟨a, e2, _⟩ := h.ot e; rw [e2]; simp
theorem perm_map' {α β : Type} {f : α → β} {l l' : List β} (h : l.Perm l') : ∀ xs : List α, l' = xs.map f → ∃ zs : List α, l = zs.map f ∧ zs.Perm xs := by
  induction h with
  | nil => intro xs e; cases xs with
    | nil => exact ⟨[], rfl, .nil⟩
    | cons a xs => cases e
  | cons x p ih =>
    intro xs e
    cases xs with
    | nil => cases e
    | cons a xs =>
      simp only [List.map_cons, List.cons.injEq] at e
      obtain ⟨zs, e2, p2⟩ := ih xs e.2
      exact ⟨a :: zs, by simp [e.1, e2], p2.cons a⟩
  | swap x y l =>
    intro xs e
    match xs, e with
    | [], e => cases e
    | [_], e => simp at e
    | a :: c :: xs, e =>
      simp only [List.map_cons, List.cons.injEq] at e
      exact ⟨c :: a :: xs, by simp [e.1, e.2.1, e.2.2], List.Perm.swap _ _ _⟩
  | trans p1 p2 ih1 ih2 =>
    intro xs e
    obtain ⟨zs, e2, p3⟩ := ih2 xs e
    obtain ⟨ws, e4, p5⟩ := ih1 zs e2
    exact ⟨ws, e4, p5.trans p3⟩
theorem perm_map {α β : Type} {f : α → β} {ys : List β} {xs : List α} (h : ys.Perm (xs.map f)) : ∃ zs : List α, ys = zs.map f ∧ zs.Perm xs := perm_map' h xs rfl
theorem cutL_map {α β : Type} (f : α → β) (xs : List α) (l u : Option Int) : cutL (xs.map f) l u = (cutL xs l u).map f := by
  unfold cutL; rw [List.length_map, List.map_take, List.map_drop]
theorem fk_name {s : Str} (h : s ∈ menu) : Fk 0 253 (.str s) := fk_str (m := 16) (menu_fit s h).1 (menu_fit s h).2
theorem fk_word {s : Str} (h : s ∈ louds ++ quiets) : Fk 0 253 (.str s) := fk_str (m := 16) (word_fit s h).1 (word_fit s h).2
theorem fk_step {x : Sp1} {b : Bool} {ss : List Str} (h : StOk b ss x) (hm : ∀ s ∈ ss, s ∈ menu) : Fk 1 768 (stD x) := by
  refine (fk_tup (k := 0) (w := 253) (n := 3) (fun d hd => ?_) (by have := h.len; simp; omega)).mono (Nat.le_refl _) (by decide)
  rcases List.mem_cons.mp hd with rfl | hd
  · exact fk_word h.word
  · obtain ⟨s, hs, rfl⟩ := List.mem_map.mp hd
    exact fk_name (hm s (h.mem s hs))
theorem fk_args {as : List Str} (h3 : as.length ≤ 3) (hm : ∀ s ∈ as, s ∈ menu) : Fk 1 768 (.tup (as.map D.str)) := by
  refine (fk_tup (k := 0) (w := 253) (n := 3) (fun d hd => ?_) (by simpa using h3)).mono (Nat.le_refl _) (by decide)
  obtain ⟨s, hs, rfl⟩ := List.mem_map.mp hd
  exact fk_name (hm s hs)
theorem fk_deed {b : Bool} {as os : List Str} {xs : List Sp1} (h : DeedOk b as os xs) : Fk 3 12333 (deedD as xs) := by
  have f1 : Fk 2 6163 (.tup (xs.map stD)) := (fk_tup (k := 1) (w := 768) (n := 8) (fun d hd => by
    obtain ⟨x, hx, rfl⟩ := List.mem_map.mp hd
    exact fk_step (h.st x hx) h.me) (by simpa using h.x8)).mono (Nat.le_refl _) (by decide)
  refine (fk_tup (k := 2) (w := 6163) (n := 2) (fun d hd => ?_) (by simp)).mono (Nat.le_refl _) (by decide)
  simp only [List.mem_cons, List.not_mem_nil, or_false] at hd
  rcases hd with rfl | rfl
  · exact (fk_args h.a3 fun s hs => h.me s (List.mem_append_left _ hs)).mono (by decide) (by decide)
  · exact f1
end DL
/-! plain: words of steps exchanged -/
namespace DL
open PySem PySem.Spec PyProof.Rows L2
def quietT : List (Str × Str) := [("share", "hold"), ("end", "leave")]
def loudT : List (Str × Str) := [("hold", "share"), ("leave", "end")]
def tabW (q : Bool) : List (Str × Str) := if q = true then quietT else loudT
/-- the step at an index with its other word -/
def other (q : Bool) (xs : List Sp1) (i : Nat) : Option Sp1 := match xs[i]? with
  | some x => match (tabW q).lookup x.1 with
    | some w => some (w, x.2)
    | none => none
  | none => none
def ixOf : D → Option Nat
  | .int i => if 0 ≤ i then some i.toNat else none
  | _ => none
/-- what stands for an index, if it is a right one -/
def good (q : Bool) (xs : List Sp1) (d : D) : Option (Nat × Sp1) := match ixOf d with
  | some i => match other q xs i with
    | some y => some (i, y)
    | none => none
  | none => none
def putAll (q : Bool) (xs : List Sp1) : List Sp1 → List D → List Sp1
  | zs, [] => zs
  | zs, d :: ds => match good q xs d with
    | some (i, y) => putAll q xs (zs.set i y) ds
    | none => zs
def badOf (q : Bool) (xs : List Sp1) (ds : List D) : Option D := ds.find? fun d => (good q xs d).isNone
theorem putAll_len (q : Bool) (xs : List Sp1) : ∀ (ds : List D) (zs : List Sp1), (putAll q xs zs ds).length = zs.length
  | [], zs => rfl
  | d :: ds, zs => by
    unfold putAll
    cases good q xs d with
    | none => rfl
    | some p => rw [putAll_len q xs ds]; simp
theorem putAll_snoc (q : Bool) (xs : List Sp1) : ∀ (ds : List D) (zs : List Sp1) (d : D), (∀ e ∈ ds, (good q xs e).isSome = true) → putAll q xs zs (ds ++ [d]) = putAll q xs (putAll q xs zs ds) [d]
  | [], zs, d, _ => rfl
  | e :: ds, zs, d, h => by
    have h1 := h e List.mem_cons_self
    cases eg : good q xs e with
    | none => rw [eg] at h1; cases h1
    | some p =>
      simp only [List.cons_append, putAll, eg]
      exact putAll_snoc q xs ds _ d fun x hx => h x (List.mem_cons_of_mem _ hx)
theorem good_lt {q : Bool} {xs : List Sp1} {d : D} {i : Nat} {y : Sp1} (h : good q xs d = some (i, y)) : d = .int i ∧ other q xs i = some y ∧ i < xs.length := by
  unfold good at h
  cases e : ixOf d with
  | none => rw [e] at h; cases h
  | some j =>
    rw [e] at h
    simp only at h
    cases e2 : other q xs j with
    | none => rw [e2] at h; cases h
    | some z =>
      rw [e2] at h; cases h
      refine ⟨?_, e2, ?_⟩
      · unfold ixOf at e
        split at e
        · rename_i k
          split at e
          · cases e; rw [Int.toNat_of_nonneg (by assumption)]
          · cases e
        · cases e
      · unfold other at e2
        cases e3 : xs[i]? with
        | none => rw [e3] at e2; cases e2
        | some x => exact (List.getElem?_eq_some_iff.mp e3).1
/-- all that is put is as it was, or as it should be -/
theorem putAll_at (q : Bool) (xs : List Sp1) : ∀ (ds : List D) (zs : List Sp1) (i : Nat) (z : Sp1), (putAll q xs zs ds)[i]? = some z → zs[i]? = some z ∨ other q xs i = some z
  | [], zs, i, z, h => .inl h
  | d :: ds, zs, i, z, h => by
    unfold putAll at h
    cases e : good q xs d with
    | none => rw [e] at h; exact .inl h
    | some p =>
      obtain ⟨j, y⟩ := p
      rw [e] at h
      rcases putAll_at q xs ds _ i z h with h1 | h1
      · by_cases ej : j = i
        · subst ej
          obtain ⟨_, h2, _⟩ := good_lt e
          rw [List.getElem?_set] at h1
          split at h1
          · split at h1
            · cases h1; exact .inr h2
            · cases h1
          · exact .inl h1
        · rw [List.getElem?_set_ne ej] at h1; exact .inl h1
      · exact .inr h1
theorem find_at {α : Type} {p : α → Bool} : ∀ {ds : List α} {k : Nat} {d : α}, ds[k]? = some d → (∀ e ∈ ds.take k, p e = false) → p d = true → ds.find? p = some d
  | [], k, d, h, _, _ => by simp at h
  | e :: ds, 0, d, h, _, hp => by simp at h; subst h; simp [List.find?_cons, hp]
  | e :: ds, k + 1, d, h, hb, hp => by
    have h1 : p e = false := hb e (by simp)
    rw [List.find?_cons, h1]
    exact find_at (k := k) (by simpa using h) (fun x hx => hb x (by simp [hx])) hp
theorem badOf_at {q : Bool} {xs : List Sp1} {ds : List D} {k : Nat} {d : D} (h : ds[k]? = some d) (hb : ∀ e ∈ ds.take k, (good q xs e).isSome = true) (hd : good q xs d = none) : badOf q xs ds = some d :=
  find_at h (fun e he => by have := hb e he; cases hg : good q xs e with
    | none => rw [hg] at this; cases this
    | some _ => rfl) (by rw [hd]; rfl)
theorem badOf_none {q : Bool} {xs : List Sp1} {ds : List D} (hb : ∀ e ∈ ds, (good q xs e).isSome = true) : badOf q xs ds = none := by
  unfold badOf
  rw [List.find?_eq_none]
  intro e he
  have := hb e he
  cases hg : good q xs e with
  | none => rw [hg] at this; cases this
  | some _ => simp
theorem take_snoc {α : Type} {ts : List α} {k : Nat} {t : α} (h : ts[k]? = some t) : ts.take (k + 1) = ts.take k ++ [t] := by
  rw [List.take_succ, h]; rfl
theorem at_map {α β : Type} {f : α → β} {xs : List α} {k : Nat} {x : α} (h : xs[k]? = some x) : atI (xs.map f) (k : Int) = some (f x) := DL.atI_nat (by rw [List.getElem?_map, h]; rfl)
theorem lt_of_at {α : Type} {xs : List α} {k : Nat} {x : α} (h : xs[k]? = some x) : k < xs.length := (List.getElem?_eq_some_iff.mp h).1
theorem setPl_at {μ : Mem} {zs : List DV} {k : Nat} {y : DV} {X : Mem} (hk : k < zs.length) (hb : belowB μ.length y = true) : setPl (μ ++ .lst zs :: X) (.loc μ.length) (.dat (.int k)) y = some (μ ++ .lst (zs.set k y) :: X) := by
  unfold setPl atPl
  simp only [mem_here, asI, ixN_nat hk, hb, mem_set]; rfl
end DL
namespace DL
open PySem PySem.Spec PyProof.Rows L2
/-- what a deed must be for it to be shown and compared -/
structure DeedSh (as : List Str) (xs : List Sp1) : Prop where
  a3 : as.length ≤ 3
  am : ∀ s ∈ as, s ∈ menu
  x8 : xs.length ≤ 8
  xw : ∀ x ∈ xs, x.1 ∈ louds ++ quiets
  x2 : ∀ x ∈ xs, x.2.length ≤ 2
  xm : ∀ x ∈ xs, ∀ s ∈ x.2, s ∈ menu
theorem DeedOk.sh {b : Bool} {as os : List Str} {xs : List Sp1} (h : DeedOk b as os xs) : DeedSh as xs :=
  ⟨h.a3, fun s hs => h.me s (List.mem_append_left _ hs), h.x8, fun x hx => (h.st x hx).word, fun x hx => (h.st x hx).len.2, fun x hx s hs => h.me s ((h.st x hx).mem s hs)⟩
theorem fk_sh {as : List Str} {xs : List Sp1} (h : DeedSh as xs) : Fk 3 12333 (deedD as xs) := by
  have f0 : ∀ x ∈ xs, Fk 1 768 (stD x) := fun x hx => by
    refine (fk_tup (k := 0) (w := 253) (n := 3) (fun d hd => ?_) (by have := h.x2 x hx; simp; omega)).mono (Nat.le_refl _) (by decide)
    rcases List.mem_cons.mp hd with rfl | hd
    · exact fk_word (h.xw x hx)
    · obtain ⟨s, hs, rfl⟩ := List.mem_map.mp hd
      exact fk_name (h.xm x hx s hs)
  have f1 : Fk 2 6163 (.tup (xs.map stD)) := (fk_tup (k := 1) (w := 768) (n := 8) (fun d hd => by
    obtain ⟨x, hx, rfl⟩ := List.mem_map.mp hd
    exact f0 x hx) (by simpa using h.x8)).mono (Nat.le_refl _) (by decide)
  refine (fk_tup (k := 2) (w := 6163) (n := 2) (fun d hd => ?_) (by simp)).mono (Nat.le_refl _) (by decide)
  simp only [List.mem_cons, List.not_mem_nil, or_false] at hd
  rcases hd with rfl | rfl
  · exact (fk_args h.a3 h.am).mono (by decide) (by decide)
  · exact f1
theorem fd_sh {as : List Str} {xs : List Sp1} (h : DeedSh as xs) : FitD 3 1000 (deedD as xs) := by
  have fs : ∀ s, s ∈ menu → FitD 0 16 (.str s) := fun s hs => fd_str (menu_fit s hs).1 (menu_fit s hs).2
  have f0 : ∀ x ∈ xs, FitD 1 51 (stD x) := fun x hx => by
    refine fd_tup (k := 0) (w := 16) (n := 3) (fun d hd => ?_) (by have := h.x2 x hx; simp; omega)
    rcases List.mem_cons.mp hd with rfl | hd
    · exact fd_str (word_fit _ (h.xw x hx)).1 (word_fit _ (h.xw x hx)).2
    · obtain ⟨s, hs, rfl⟩ := List.mem_map.mp hd
      exact fs s (h.xm x hx s hs)
  have f1 : FitD 2 416 (.tup (xs.map stD)) := fd_tup (k := 1) (w := 51) (n := 8) (fun d hd => by
    obtain ⟨x, hx, rfl⟩ := List.mem_map.mp hd
    exact f0 x hx) (by simpa using h.x8)
  have f2 : FitD 1 51 (.tup (as.map D.str)) := fd_tup (k := 0) (w := 16) (n := 3) (fun d hd => by
    obtain ⟨s, hs, rfl⟩ := List.mem_map.mp hd
    exact fs s (h.am s hs)) (by simpa using h.a3)
  refine (fd_tup (k := 2) (w := 416) (n := 2) (fun d hd => ?_) (by simp)).mono (Nat.le_refl _) (by decide)
  simp only [List.mem_cons, List.not_mem_nil, or_false] at hd
  rcases hd with rfl | rfl
  · exact f2.mono (by decide) (by decide)
  · exact f1
theorem l_neSame {QR : R → Mem → Prop} {E : Xc → Mem → Prop} {μ : Mem} {x y : DV} {d : D} {k w : Nat} (hx : peek μ x = some d) (hy : peek μ y = some d) (h : FitD k w d) (hk : k ≤ 64) (q : QR (.dat (.bl false)) μ) : Sat (dNe x y μ) QR E := by
  obtain ⟨p, e, f⟩ := h
  have := eq_any (μ := μ) false (x := x) (y := y) (peekPy_of hx e) (peekPy_of hy e) f f hk hk
  rw [show dNe x y μ = dEqS false x y μ from rfl, this, SeqAt.eqv_refl p f.lay]
  exact q
/-! ### words there and back -/
open Classical in
theorem putAll_get (q : Bool) (xs : List Sp1) : ∀ (ds : List D) (zs : List Sp1), zs.length = xs.length → (∀ d ∈ ds, (good q xs d).isSome = true) → ∀ i, (putAll q xs zs ds)[i]? = if D.int (i : Nat) ∈ ds then other q xs i else zs[i]?
  | [], zs, _, _, i => by rw [if_neg (by simp)]; rfl
  | d :: ds, zs, hl, hg, i => by
    have h1 := hg d List.mem_cons_self
    cases e : good q xs d with
    | none => rw [e] at h1; cases h1
    | some p =>
      obtain ⟨j, y⟩ := p
      obtain ⟨rfl, e2, hj⟩ := good_lt e
      simp only [putAll, e]
      rw [putAll_get q xs ds (zs.set j y) (by simpa using hl) (fun x hx => hg x (List.mem_cons_of_mem _ hx)) i]
      by_cases hm : D.int (i : Nat) ∈ ds
      · rw [if_pos hm, if_pos (List.mem_cons_of_mem _ hm)]
      · rw [if_neg hm]
        by_cases ej : j = i
        · subst ej
          rw [if_pos List.mem_cons_self, List.getElem?_set_self (by omega), e2]
        · rw [if_neg (fun z => (List.mem_cons.mp z).elim (fun q => ej (by injection q with q; omega)) hm), List.getElem?_set_ne ej]
theorem tab_cases {q : Bool} {w c : Str} (h : (tabW q).lookup w = some c) : (w, c) ∈ tabW q := by
  have key : ∀ (t : List (Str × Str)), t.lookup w = some c → (w, c) ∈ t := by
    intro t
    induction t with
    | nil => intro h; cases h
    | cons p t ih =>
      obtain ⟨a, z⟩ := p
      intro h
      rw [List.lookup_cons] at h
      cases e : w == a with
      | true => rw [e] at h; cases h; rw [eq_of_beq e]; exact List.mem_cons_self
      | false => rw [e] at h; exact List.mem_cons_of_mem _ (ih h)
  exact key _ h
theorem tab_back {w c : Str} (h : (tabW true).lookup w = some c) : (tabW false).lookup c = some w := by
  have this : (w, c) ∈ quietT := tab_cases h
  simp only [quietT, List.mem_cons, List.not_mem_nil, or_false, Prod.mk.injEq] at this
  rcases this with ⟨rfl, rfl⟩ | ⟨rfl, rfl⟩ <;> decide
theorem tab_word {q : Bool} {w c : Str} (h : (tabW q).lookup w = some c) : c ∈ louds ++ quiets := by
  have := tab_cases h
  cases q with
  | true =>
    have this : (w, c) ∈ quietT := this
    simp only [quietT, List.mem_cons, List.not_mem_nil, or_false, Prod.mk.injEq] at this
    rcases this with ⟨rfl, rfl⟩ | ⟨rfl, rfl⟩ <;> decide
  | false =>
    have this : (w, c) ∈ loudT := this
    simp only [loudT, List.mem_cons, List.not_mem_nil, or_false, Prod.mk.injEq] at this
    rcases this with ⟨rfl, rfl⟩ | ⟨rfl, rfl⟩ <;> decide
theorem putAll_sh {q : Bool} {as : List Str} {xs : List Sp1} (ds : List D) (h : DeedSh as xs) : DeedSh as (putAll q xs xs ds) := by
  have key : ∀ z ∈ putAll q xs xs ds, ∃ x ∈ xs, z.2 = x.2 ∧ z.1 ∈ louds ++ quiets := fun z hz => by
    obtain ⟨i, hi⟩ := List.mem_iff_getElem?.mp hz
    rcases putAll_at q xs ds xs i z hi with h1 | h1
    · have := List.mem_of_getElem? h1
      exact ⟨z, this, rfl, h.xw z this⟩
    · unfold other at h1
      cases e : xs[i]? with
      | none => rw [e] at h1; cases h1
      | some x =>
        rw [e] at h1
        simp only at h1
        cases e2 : (tabW q).lookup x.1 with
        | none => rw [e2] at h1; cases h1
        | some w => rw [e2] at h1; cases h1; exact ⟨x, List.mem_of_getElem? e, rfl, tab_word e2⟩
  refine ⟨h.a3, h.am, by rw [putAll_len]; exact h.x8, fun z hz => (key z hz).choose_spec.2.2, fun z hz => ?_, fun z hz => ?_⟩
  · obtain ⟨x, hx, e, _⟩ := key z hz
    rw [e]; exact h.x2 x hx
  · obtain ⟨x, hx, e, _⟩ := key z hz
    rw [e]; exact h.xm x hx
/-- the countings -/
def isC (w : Str) : Bool := ((tabW true).lookup w).isSome
def cnt (xs : List Sp1) : List Nat := (xs.zipIdx.filter fun p => isC p.1.1).map (·.2)
theorem mem_cnt {xs : List Sp1} {i : Nat} : i ∈ cnt xs ↔ ∃ x, xs[i]? = some x ∧ isC x.1 = true := by
  unfold cnt
  simp only [List.mem_map, List.mem_filter]
  constructor
  · rintro ⟨⟨x, j⟩, ⟨h1, h2⟩, rfl⟩
    exact ⟨x, by simpa [List.mem_zipIdx_iff_getElem?] using h1, h2⟩
  · rintro ⟨x, h1, h2⟩
    exact ⟨(x, i), ⟨by simpa [List.mem_zipIdx_iff_getElem?] using h1, h2⟩, rfl⟩
abbrev cntD (xs : List Sp1) : List D := (cnt xs).map fun i => .int (i : Nat)
theorem cnt_good {xs : List Sp1} : ∀ d ∈ cntD xs, (good true xs d).isSome = true := fun d hd => by
  obtain ⟨i, hi, rfl⟩ := List.mem_map.mp hd
  obtain ⟨x, h1, h2⟩ := mem_cnt.mp hi
  unfold isC at h2
  cases e : (tabW true).lookup x.1 with
  | none => rw [e] at h2; cases h2
  | some w => simp [good, ixOf, other, h1, e]
theorem mem_cntD {xs : List Sp1} {i : Nat} : D.int (i : Nat) ∈ cntD xs ↔ i ∈ cnt xs := by
  constructor
  · intro h
    obtain ⟨j, hj, e⟩ := List.mem_map.mp h
    injection e with e
    have : j = i := by omega
    rw [← this]; exact hj
  · intro h; exact List.mem_map.mpr ⟨i, h, rfl⟩
open Classical in
theorem quiet_at {xs : List Sp1} (i : Nat) : (putAll true xs xs (cntD xs))[i]? = if i ∈ cnt xs then other true xs i else xs[i]? := by
  rw [putAll_get true xs (cntD xs) xs rfl cnt_good i]
  by_cases h : i ∈ cnt xs
  · rw [if_pos (mem_cntD.mpr h), if_pos h]
  · rw [if_neg (fun z => h (mem_cntD.mp z)), if_neg h]
theorem back_other {xs : List Sp1} {i : Nat} (h : i ∈ cnt xs) : other false (putAll true xs xs (cntD xs)) i = xs[i]? := by
  obtain ⟨x, h1, h2⟩ := mem_cnt.mp h
  unfold isC at h2
  cases e : (tabW true).lookup x.1 with
  | none => rw [e] at h2; cases h2
  | some w =>
    have : (putAll true xs xs (cntD xs))[i]? = some (w, x.2) := by
      rw [quiet_at, if_pos h]; simp [other, h1, e]
    simp [other, this, tab_back e, h1]
theorem back_good {xs : List Sp1} : ∀ d ∈ cntD xs, (good false (putAll true xs xs (cntD xs)) d).isSome = true := fun d hd => by
  obtain ⟨i, hi, rfl⟩ := List.mem_map.mp hd
  have := back_other hi
  obtain ⟨x, h1, h2⟩ := mem_cnt.mp hi
  rw [h1] at this
  simp [good, ixOf, this]
theorem there_back (xs : List Sp1) : putAll false (putAll true xs xs (cntD xs)) (putAll true xs xs (cntD xs)) (cntD xs) = xs := by
  refine List.ext_getElem? fun i => ?_
  rw [putAll_get false _ (cntD xs) _ rfl back_good i]
  by_cases h : i ∈ cnt xs
  · rw [if_pos (mem_cntD.mpr h), back_other h]
  · rw [if_neg (fun z => h (mem_cntD.mp z)), quiet_at, if_neg h]
theorem enum_map {α : Type} (f : α → D) : ∀ (k : Nat) (xs : List α), enumD k (xs.map f) = (xs.zipIdx k).map fun p => .tup [.int (p.2 : Nat), f p.1]
  | k, [] => rfl
  | k, x :: xs => by simp only [List.map_cons, enumD, List.zipIdx_cons, enum_map f (k + 1) xs]
end DL
namespace K33
open PySem PySem.Spec PyProof.Rows L2 DL

noncomputable section
def topS (i : Nat) : Stmt := PySem.Challenge.pw_smallcount_k33_marks_that_come.main.body.getD i (.Pass ⟨0, 0, 0, 0⟩)
def clsS (i j : Nat) : Stmt := (clsBody (topS i)).getD j (.Pass ⟨0, 0, 0, 0⟩)
abbrev s_is_integer : Stmt := topS 7
abbrev N_is_integer : List Str := ["thing"]
theorem sc_is_integer : FnScope N_is_integer ["thing"] (defScope s_is_integer) := ⟨rfl, rfl, rfl, by decide +kernel, rfl, by decide +kernel, by decide +kernel⟩
abbrev s_is_number : Stmt := topS 10
abbrev N_is_number : List Str := ["thing", "many"]
theorem sc_is_number : FnScope N_is_number ["thing", "many"] (defScope s_is_number) := ⟨rfl, rfl, rfl, by decide +kernel, rfl, by decide +kernel, by decide +kernel⟩
abbrev s_is_mark : Stmt := topS 11
abbrev N_is_mark : List Str := ["thing", "many"]
theorem sc_is_mark : FnScope N_is_mark ["thing", "many"] (defScope s_is_mark) := ⟨rfl, rfl, rfl, by decide +kernel, rfl, by decide +kernel, by decide +kernel⟩
abbrev s_are_marks : Stmt := topS 12
abbrev N_are_marks : List Str := ["thing", "mark"]
theorem sc_are_marks : FnScope N_are_marks ["thing"] (defScope s_are_marks) := ⟨rfl, rfl, rfl, by decide +kernel, rfl, by decide +kernel, by decide +kernel⟩
abbrev s_Counter___init__ : Stmt := clsS 13 0
abbrev N_Counter___init__ : List Str := ["self", "marks", "mark"]
theorem sc_Counter___init__ : FnScope N_Counter___init__ ["self", "marks"] (defScope s_Counter___init__) := ⟨rfl, rfl, rfl, by decide +kernel, rfl, by decide +kernel, by decide +kernel⟩
abbrev s__law_alike : Stmt := topS 22
abbrev N__law_alike : List Str := ["_law_found", "_law_due"]
theorem sc__law_alike : FnScope N__law_alike ["_law_found", "_law_due"] (defScope s__law_alike) := ⟨rfl, rfl, rfl, by decide +kernel, rfl, by decide +kernel, by decide +kernel⟩
abbrev s__law_bag : Stmt := topS 20
abbrev N__law_bag : List Str := ["_law_script", "_law_cell"]
theorem sc__law_bag : FnScope N__law_bag ["_law_script"] (defScope s__law_bag) := ⟨rfl, rfl, rfl, by decide +kernel, rfl, by decide +kernel, by decide +kernel⟩
abbrev s__law_sticking : Stmt := topS 24
abbrev N__law_sticking : List Str := ["_law_many", "_law_found", "_law_at"]
theorem sc__law_sticking : FnScope N__law_sticking ["_law_many"] (defScope s__law_sticking) := ⟨rfl, rfl, rfl, by decide +kernel, rfl, by decide +kernel, by decide +kernel⟩
abbrev s__law_take : Stmt := topS 21
abbrev N__law_take : List Str := ["_law_bag_here", "_law_many", "_law_cell", "_law_mixed_here", "_law_drawn", "_law_early", "_law_second"]
theorem sc__law_take : FnScope N__law_take ["_law_bag_here", "_law_many"] (defScope s__law_take) := ⟨rfl, rfl, rfl, by decide +kernel, rfl, by decide +kernel, by decide +kernel⟩
abbrev s__law_counter : Stmt := topS 25
abbrev N__law_counter : List Str := ["_law_bag_here", "_law_many", "_law_found", "_law_turn", "_law_at", "_law_less"]
theorem sc__law_counter : FnScope N__law_counter ["_law_bag_here"] (defScope s__law_counter) := ⟨rfl, rfl, rfl, by decide +kernel, rfl, by decide +kernel, by decide +kernel⟩
abbrev s_Counter___len__ : Stmt := clsS 13 1
abbrev N_Counter___len__ : List Str := ["self"]
theorem sc_Counter___len__ : FnScope N_Counter___len__ ["self"] (defScope s_Counter___len__) := ⟨rfl, rfl, rfl, by decide +kernel, rfl, by decide +kernel, by decide +kernel⟩
abbrev s_Counter_need_mark : Stmt := clsS 13 4
abbrev N_Counter_need_mark : List Str := ["self", "number"]
theorem sc_Counter_need_mark : FnScope N_Counter_need_mark ["self", "number"] (defScope s_Counter_need_mark) := ⟨rfl, rfl, rfl, by decide +kernel, rfl, by decide +kernel, by decide +kernel⟩
abbrev s_Counter_less : Stmt := clsS 13 6
abbrev N_Counter_less : List Str := ["self", "number"]
theorem sc_Counter_less : FnScope N_Counter_less ["self", "number"] (defScope s_Counter_less) := ⟨rfl, rfl, rfl, by decide +kernel, rfl, by decide +kernel, by decide +kernel⟩
abbrev s_Counter_more : Stmt := clsS 13 5
abbrev N_Counter_more : List Str := ["self", "number"]
theorem sc_Counter_more : FnScope N_Counter_more ["self", "number"] (defScope s_Counter_more) := ⟨rfl, rfl, rfl, by decide +kernel, rfl, by decide +kernel, by decide +kernel⟩
abbrev s_touched : Stmt := topS 14
abbrev N_touched : List Str := ["counter", "number", "touch"]
theorem sc_touched : FnScope N_touched ["counter", "number", "touch"] (defScope s_touched) := ⟨rfl, rfl, rfl, by decide +kernel, rfl, by decide +kernel, by decide +kernel⟩
abbrev s_led : Stmt := topS 15
abbrev N_led : List Str := ["counter", "number", "touches", "touch"]
theorem sc_led : FnScope N_led ["counter", "number", "touches"] (defScope s_led) := ⟨rfl, rfl, rfl, by decide +kernel, rfl, by decide +kernel, by decide +kernel⟩
abbrev s_ways_from : Stmt := topS 16
abbrev N_ways_from : List Str := ["counter", "ways", "waiting", "number", "touch", "later"]
theorem sc_ways_from : FnScope N_ways_from ["counter"] (defScope s_ways_from) := ⟨rfl, rfl, rfl, by decide +kernel, rfl, by decide +kernel, by decide +kernel⟩
abbrev s_touches_to : Stmt := topS 18
abbrev N_touches_to : List Str := ["counter", "number"]
theorem sc_touches_to : FnScope N_touches_to ["counter", "number"] (defScope s_touches_to) := ⟨rfl, rfl, rfl, by decide +kernel, rfl, by decide +kernel, by decide +kernel⟩
abbrev s__law_heard : Stmt := topS 29
abbrev N__law_heard : List Str := ["_law_way", "_law_counter_here", "_law_thing", "e"]
theorem sc__law_heard : FnScope N__law_heard ["_law_way", "_law_counter_here", "_law_thing"] (defScope s__law_heard) := ⟨rfl, rfl, rfl, by decide +kernel, rfl, by decide +kernel, by decide +kernel⟩
abbrev s__law_led : Stmt := topS 27
abbrev N__law_led : List Str := ["_law_marks", "_law_number", "_law_touches", "_law_touch"]
theorem sc__law_led : FnScope N__law_led ["_law_marks", "_law_number", "_law_touches"] (defScope s__law_led) := ⟨rfl, rfl, rfl, by decide +kernel, rfl, by decide +kernel, by decide +kernel⟩
abbrev s__law_mixed : Stmt := topS 23
abbrev N__law_mixed : List Str := ["_law_bag_here", "_law_things", "_law_left", "_law_found"]
theorem sc__law_mixed : FnScope N__law_mixed ["_law_bag_here", "_law_things"] (defScope s__law_mixed) := ⟨rfl, rfl, rfl, by decide +kernel, rfl, by decide +kernel, by decide +kernel⟩
abbrev s__law_near_counter : Stmt := topS 26
abbrev N__law_near_counter : List Str := ["_law_bag_here", "_law_marks", "_law_found", "_law_turn", "_law_at", "_law_many", "_law_more", "_law_less", "_law_copies", "_law_way"]
theorem sc__law_near_counter : FnScope N__law_near_counter ["_law_bag_here", "_law_marks"] (defScope s__law_near_counter) := ⟨rfl, rfl, rfl, by decide +kernel, rfl, by decide +kernel, by decide +kernel⟩
abbrev s__law_ways_to : Stmt := topS 28
abbrev N__law_ways_to : List Str := ["_law_marks", "_law_found", "_law_last", "_law_later", "_law_number", "_law_touch", "_law_far"]
theorem sc__law_ways_to : FnScope N__law_ways_to ["_law_marks"] (defScope s__law_ways_to) := ⟨rfl, rfl, rfl, by decide +kernel, rfl, by decide +kernel, by decide +kernel⟩
abbrev s_reached_marks : Stmt := topS 17
abbrev N_reached_marks : List Str := ["counter"]
theorem sc_reached_marks : FnScope N_reached_marks ["counter"] (defScope s_reached_marks) := ⟨rfl, rfl, rfl, by decide +kernel, rfl, by decide +kernel, by decide +kernel⟩
abbrev s_law : Stmt := topS 30
abbrev N_law : List Str := ["_law_script", "_law_bag_here", "_law_turn", "_law_marks", "_law_counter_here", "_law_ways", "_law_again", "_law_way", "_law_found", "_law_number", "_law_told", "_law_k", "_law_touches", "_law_said", "_law_due", "_law_thing", "_law_j"]
theorem sc_law : FnScope N_law ["_law_script"] (defScope s_law) := ⟨rfl, rfl, rfl, by decide +kernel, rfl, by decide +kernel, by decide +kernel⟩
/-! what the defs are, as functions -/
@[irreducible] def g_is_integer : SM :=
    (gRet (eAnd (eUn (dIsi (tabT "int" ["Counter"])) (eVar 0)) (eNot (eUn (dIsi (tabT "bool" ["Counter"])) (eVar 0)))))
def F_is_integer : List DV → Mem → Res R := callD g_is_integer 1 0
theorem w_is_integer {a0 : DV} {μ : Mem} {Q : R → Mem → Prop} {E : Xc → Mem → Prop} (h : SatS (g_is_integer μ.length [some a0] μ) (endP μ.length Q E)) : Sat (F_is_integer [a0] μ) Q E := x_call rfl h
@[irreducible] def g_is_number : SM :=
    (gRet (eAnd (eCB F_is_integer (aCons (eVar 0) aNil)) (eChain dLe dLt (eD (.int 0)) (eVar 0) (eVar 1))))
def F_is_number : List DV → Mem → Res R := callD g_is_number 2 0
theorem w_is_number {a0 a1 : DV} {μ : Mem} {Q : R → Mem → Prop} {E : Xc → Mem → Prop} (h : SatS (g_is_number μ.length [some a0, some a1] μ) (endP μ.length Q E)) : Sat (F_is_number [a0, a1] μ) Q E := x_call rfl h
@[irreducible] def g_is_mark : SM :=
    (gSeq (gIf (tmOr (tmNot (tmB (eUn (dIsi (tabT2 "list" "tuple" ["Counter"])) (eVar 0)))) (tmOr (tmB (eOp dNe (eCB dLenA (aCons (eVar 0) aNil)) (eD (.int 3)))) (tmNot (tmB (eCB F_is_number (aCons (eOp dIxA (eVar 0) (eD (.int 0))) (aCons (eVar 1) aNil))))))) (gRet (eD (.bl false))) gNext)
    (gRet (eAnd (eOr (eIsN (eOp dIxA (eVar 0) (eD (.int 1)))) (eCB F_is_number (aCons (eOp dIxA (eVar 0) (eD (.int 1))) (aCons (eVar 1) aNil)))) (eUn (dIsi (tabT "bool" ["Counter"])) (eOp dIxA (eVar 0) (eD (.int 2)))))))
def F_is_mark : List DV → Mem → Res R := callD g_is_mark 2 0
theorem w_is_mark {a0 a1 : DV} {μ : Mem} {Q : R → Mem → Prop} {E : Xc → Mem → Prop} (h : SatS (g_is_mark μ.length [some a0, some a1] μ) (endP μ.length Q E)) : Sat (F_is_mark [a0, a1] μ) Q E := x_call rfl h
@[irreducible] def g_are_marks : SM :=
    (gSeq (gIf (tmOr (tmNot (tmB (eUn (dIsi (tabT2 "list" "tuple" ["Counter"])) (eVar 0)))) (tmNot (tmB (eChain dLe dLe (eD (.int 1)) (eCB dLenA (aCons (eVar 0) aNil)) (eD (.int 6)))))) (gRet (eD (.bl false))) gNext)
    (gRet (eCB (d1 (dAll fun bs => bs.all id)) (aCons (eLc (imSeq (eVar 0)) (tgName 1) tmYes (eCB F_is_mark (aCons (eVar 1) (aCons (eCB dLenA (aCons (eVar 0) aNil)) aNil))) [1]) aNil))))
def F_are_marks : List DV → Mem → Res R := callD g_are_marks 1 1
theorem w_are_marks {a0 : DV} {μ : Mem} {Q : R → Mem → Prop} {E : Xc → Mem → Prop} (h : SatS (g_are_marks μ.length [some a0, none] μ) (endP μ.length Q E)) : Sat (F_are_marks [a0] μ) Q E := x_call rfl h
@[irreducible] def g_Counter___init__ : SM :=
    (gSeq (gIf (tmNot (tmB (eCB F_are_marks (aCons (eVar 1) aNil)))) gBad gNext)
    (gFld ["Counter"] "its_marks" (eVar 0) (eLc (imSeq (eVar 1)) (tgName 2) tmYes (eCB (d1 dTuple) (aCons (eVar 2) aNil)) [2])))
def F_Counter___init__ : List DV → Mem → Res R := callD g_Counter___init__ 2 1
theorem w_Counter___init__ {a0 a1 : DV} {μ : Mem} {Q : R → Mem → Prop} {E : Xc → Mem → Prop} (h : SatS (g_Counter___init__ μ.length [some a0, some a1, none] μ) (endP μ.length Q E)) : Sat (F_Counter___init__ [a0, a1] μ) Q E := x_call rfl h
@[irreducible] def g__law_alike : SM :=
    (gRet (eAnd (eOp dEqA (eVar 0) (eVar 1)) (eOp dEqA (eCB dReprA (aCons (eVar 0) aNil)) (eCB dReprA (aCons (eVar 1) aNil)))))
def F__law_alike : List DV → Mem → Res R := callD g__law_alike 2 0
theorem w__law_alike {a0 a1 : DV} {μ : Mem} {Q : R → Mem → Prop} {E : Xc → Mem → Prop} (h : SatS (g__law_alike μ.length [some a0, some a1] μ) (endP μ.length Q E)) : Sat (F__law_alike [a0, a1] μ) Q E := x_call rfl h
theorem e__law_alike : F__law_alike = callD gAlikeA 2 0 := by unfold F__law_alike g__law_alike gAlikeA; try rfl
@[irreducible] def g__law_bag : SM :=
    (gRet (eLst (aCons (eD (.int 0)) (aCons (eD (.int 1234567891)) (aCons (eD (.int 0)) (aCons (eLc (imSeq (eSl (eVar 0) oNone (oSome (eD (.int 63))))) (tgName 1) tmYes (eCB (d1 dAbs) (aCons (eVar 1) aNil)) [1]) aNil))))))
def F__law_bag : List DV → Mem → Res R := callD g__law_bag 1 1
theorem w__law_bag {a0 : DV} {μ : Mem} {Q : R → Mem → Prop} {E : Xc → Mem → Prop} (h : SatS (g__law_bag μ.length [some a0, none] μ) (endP μ.length Q E)) : Sat (F__law_bag [a0] μ) Q E := x_call rfl h
theorem e__law_bag : F__law_bag = callD gBag 1 1 := by unfold F__law_bag g__law_bag gBag; try rfl
@[irreducible] def g__law_sticking : SM :=
    (gSeq (gAsg 1 (eOp dAdd (eLst (aCons (eTup (aCons (eD (.int 1)) (aCons (eD .non) (aCons (eD (.bl false)) aNil)))) aNil)) (eLc (imRng2 (aCons (eD (.int 1)) (aCons (eOp dSub (eVar 0) (eD (.int 1))) aNil))) (tgName 2) tmYes (eTup (aCons (eOp dAdd (eVar 2) (eD (.int 1))) (aCons (eOp dSub (eVar 2) (eD (.int 1))) (aCons (eD (.bl true)) aNil)))) [2])))
    (gRet (eIf (tmB (eOp dGt (eVar 0) (eD (.int 1)))) (eOp dAdd (eVar 1) (eLst (aCons (eTup (aCons (eOp dSub (eVar 0) (eD (.int 1))) (aCons (eOp dSub (eVar 0) (eD (.int 1))) (aCons (eD (.bl true)) aNil)))) aNil))) (eLst (aCons (eTup (aCons (eD (.int 0)) (aCons (eD (.int 0)) (aCons (eD (.bl true)) aNil)))) aNil)))))
def F__law_sticking : List DV → Mem → Res R := callD g__law_sticking 1 2
theorem w__law_sticking {a0 : DV} {μ : Mem} {Q : R → Mem → Prop} {E : Xc → Mem → Prop} (h : SatS (g__law_sticking μ.length [some a0, none, none] μ) (endP μ.length Q E)) : Sat (F__law_sticking [a0] μ) Q E := x_call rfl h
@[irreducible] def g__law_take : SM :=
    (gSeq (gIf (tmB (eOp dEq (eOp dIx (eVar 0) (eD (.int 0))) (eD (.int 0)))) (gSeq (gAsg 2 (eD (.int 0)))
    (gSeq (gIf (tmB (eOp dLt (eOp dIx (eVar 0) (eD (.int 2))) (eCB (d1 dLen) (aCons (eOp dIx (eVar 0) (eD (.int 3))) aNil)))) (gAsg 2 (eOp dIx (eOp dIx (eVar 0) (eD (.int 3))) (eOp dIx (eVar 0) (eD (.int 2))))) gNext)
    (gSeq (gAugS (fun i j => i + j) (eVar 0) (eD (.int 2)) (eD (.int 1)))
    (gSeq (gIf (tmB (eOp dGe (eVar 2) (eD (.int 1000000000000000000)))) (gSet (eVar 0) (eD (.int 0)) (eVar 2)) gNext)
    (gSeq (gAsg 3 (eOp dAdd (eOp dAdd (eOp dMul (eOp dIx (eVar 0) (eD (.int 1))) (eD (.int 48271))) (eOp dMod (eCB (d1 dInt) (aCons (eVar 2) aNil)) (eD (.int 2147483647)))) (eOp dMul (eD (.int 7919)) (eOp dIx (eVar 0) (eD (.int 2))))))
    (gSet (eVar 0) (eD (.int 1)) (eOp dMod (eCB (d1 dInt) (aCons (eVar 3) aNil)) (eD (.int 2147483647))))))))) gNext)
    (gSeq (gIf (tmB (eOp dGt (eOp dIx (eVar 0) (eD (.int 0))) (eD (.int 0)))) (gSeq (gAsg 4 (eOp dMod (eCB (d1 dInt) (aCons (eOp dIx (eVar 0) (eD (.int 0))) aNil)) (eVar 1)))
    (gSeq (gSet (eVar 0) (eD (.int 0)) (eOp dDiv (eCB (d1 dInt) (aCons (eOp dIx (eVar 0) (eD (.int 0))) aNil)) (eVar 1)))
    (gRet (eVar 4)))) gNext)
    (gSeq (gAsg 5 (eOp dMod (eCB (d1 dInt) (aCons (eOp dMul (eOp dAdd (eOp dIx (eVar 0) (eD (.int 1))) (eD (.int 1))) (eD (.int 39373))) aNil)) (eD (.int 1000000007))))
    (gSeq (gAsg 6 (eOp dMod (eCB (d1 dInt) (aCons (eOp dMul (eOp dMod (eCB (d1 dInt) (aCons (eOp dMul (eVar 5) (eVar 5)) aNil)) (eD (.int 998244353))) (eD (.int 30011))) aNil)) (eD (.int 998244353))))
    (gRet (eOp dMod (eCB (d1 dInt) (aCons (eOp dDiv (eVar 6) (eD (.int 7))) aNil)) (eVar 1)))))))
def F__law_take : List DV → Mem → Res R := callD g__law_take 2 5
theorem w__law_take {a0 a1 : DV} {μ : Mem} {Q : R → Mem → Prop} {E : Xc → Mem → Prop} (h : SatS (g__law_take μ.length [some a0, some a1, none, none, none, none, none] μ) (endP μ.length Q E)) : Sat (F__law_take [a0, a1] μ) Q E := x_call rfl h
theorem e__law_take : F__law_take = callD gTake 2 5 := by unfold F__law_take g__law_take gTake; try rfl
@[irreducible] def b__law_counter_1 : SM :=
    (gSeq (gAsg 4 (eCB F__law_take (aCons (eVar 0) (aCons (eVar 1) aNil))))
    (gSeq (gAsg 5 (eOp dIxA (eLst (aCons (eD .non) (aCons (eCB F__law_take (aCons (eVar 0) (aCons (eVar 1) aNil))) aNil))) (eCB F__law_take (aCons (eVar 0) (aCons (eD (.int 2)) aNil)))))
    (gSet (eVar 2) (eVar 4) (eTup (aCons (eCB F__law_take (aCons (eVar 0) (aCons (eVar 1) aNil))) (aCons (eVar 5) (aCons (eOp dEqA (eCB F__law_take (aCons (eVar 0) (aCons (eD (.int 2)) aNil))) (eD (.int 0))) aNil)))))))
@[irreducible] def g__law_counter : SM :=
    (gSeq (gAsg 1 (eOp dAdd (eD (.int 1)) (eCB F__law_take (aCons (eVar 0) (aCons (eD (.int 6)) aNil)))))
    (gSeq (gNew 2 (eCB F__law_sticking (aCons (eVar 1) aNil)))
    (gSeq (gIf (tmB (eOp dGt (eCB F__law_take (aCons (eVar 0) (aCons (eD (.int 3)) aNil))) (eD (.int 0)))) (gRet (eVar 2)) gNext)
    (gSeq (gFor [true, true, true, false, false, false] (imRng (aCons (eOp dAdd (eD (.int 1)) (eCB F__law_take (aCons (eVar 0) (aCons (eD (.int 3)) aNil)))) aNil)) (tgName 3) b__law_counter_1)
    (gRet (eVar 2))))))
def F__law_counter : List DV → Mem → Res R := callD g__law_counter 1 5
theorem w__law_counter {a0 : DV} {μ : Mem} {Q : R → Mem → Prop} {E : Xc → Mem → Prop} (h : SatS (g__law_counter μ.length [some a0, none, none, none, none, none] μ) (endP μ.length Q E)) : Sat (F__law_counter [a0] μ) Q E := x_call rfl h
@[irreducible] def g_Counter___len__ : SM :=
    (gRet (eCB dLenA (aCons (eFld ["Counter"] "its_marks" (eVar 0)) aNil)))
def F_Counter___len__ : List DV → Mem → Res R := callD g_Counter___len__ 1 0
theorem w_Counter___len__ {a0 : DV} {μ : Mem} {Q : R → Mem → Prop} {E : Xc → Mem → Prop} (h : SatS (g_Counter___len__ μ.length [some a0] μ) (endP μ.length Q E)) : Sat (F_Counter___len__ [a0] μ) Q E := x_call rfl h
@[irreducible] def g_Counter_need_mark : SM :=
    (gIf (tmNot (tmB (eCB F_is_number (aCons (eVar 1) (aCons (eLenO "Counter" F_Counter___len__ (eVar 0)) aNil))))) (gRaise "NoMark" "number" (eVar 1)) gNext)
def F_Counter_need_mark : List DV → Mem → Res R := callD g_Counter_need_mark 2 0
theorem w_Counter_need_mark {a0 a1 : DV} {μ : Mem} {Q : R → Mem → Prop} {E : Xc → Mem → Prop} (h : SatS (g_Counter_need_mark μ.length [some a0, some a1] μ) (endP μ.length Q E)) : Sat (F_Counter_need_mark [a0, a1] μ) Q E := x_call rfl h
@[irreducible] def g_Counter_less : SM :=
    (gSeq (gDrop (eMeth "Counter" "need_mark" F_Counter_need_mark (eVar 0) (aCons (eVar 1) aNil)))
    (gRet (eOp dIxA (eOp dIxA (eFld ["Counter"] "its_marks" (eVar 0)) (eVar 1)) (eD (.int 1)))))
def F_Counter_less : List DV → Mem → Res R := callD g_Counter_less 2 0
theorem w_Counter_less {a0 a1 : DV} {μ : Mem} {Q : R → Mem → Prop} {E : Xc → Mem → Prop} (h : SatS (g_Counter_less μ.length [some a0, some a1] μ) (endP μ.length Q E)) : Sat (F_Counter_less [a0, a1] μ) Q E := x_call rfl h
@[irreducible] def g_Counter_more : SM :=
    (gSeq (gDrop (eMeth "Counter" "need_mark" F_Counter_need_mark (eVar 0) (aCons (eVar 1) aNil)))
    (gRet (eOp dIxA (eOp dIxA (eFld ["Counter"] "its_marks" (eVar 0)) (eVar 1)) (eD (.int 0)))))
def F_Counter_more : List DV → Mem → Res R := callD g_Counter_more 2 0
theorem w_Counter_more {a0 a1 : DV} {μ : Mem} {Q : R → Mem → Prop} {E : Xc → Mem → Prop} (h : SatS (g_Counter_more μ.length [some a0, some a1] μ) (endP μ.length Q E)) : Sat (F_Counter_more [a0, a1] μ) Q E := x_call rfl h
@[irreducible] def g_touched : SM :=
    (gRet (eIf (tmB (eOp dEqA (eVar 2) (eD (.str "more")))) (eMeth "Counter" "more" F_Counter_more (eVar 0) (aCons (eVar 1) aNil)) (eMeth "Counter" "less" F_Counter_less (eVar 0) (aCons (eVar 1) aNil))))
def F_touched : List DV → Mem → Res R := callD g_touched 3 0
theorem w_touched {a0 a1 a2 : DV} {μ : Mem} {Q : R → Mem → Prop} {E : Xc → Mem → Prop} (h : SatS (g_touched μ.length [some a0, some a1, some a2] μ) (endP μ.length Q E)) : Sat (F_touched [a0, a1, a2] μ) Q E := x_call rfl h
@[irreducible] def b_led_1 : SM :=
    (gIf (tmB (eNotN (eVar 1))) (gAsg 1 (eCB F_touched (aCons (eVar 0) (aCons (eVar 1) (aCons (eVar 3) aNil))))) gNext)
@[irreducible] def g_led : SM :=
    (gSeq (gDrop (eMeth "Counter" "need_mark" F_Counter_need_mark (eVar 0) (aCons (eVar 1) aNil)))
    (gSeq (gFor [true, true, true, false] (imSeq (eVar 2)) (tgName 3) b_led_1)
    (gRet (eVar 1))))
def F_led : List DV → Mem → Res R := callD g_led 3 1
theorem w_led {a0 a1 a2 : DV} {μ : Mem} {Q : R → Mem → Prop} {E : Xc → Mem → Prop} (h : SatS (g_led μ.length [some a0, some a1, some a2, none] μ) (endP μ.length Q E)) : Sat (F_led [a0, a1, a2] μ) Q E := x_call rfl h
@[irreducible] def b_ways_from_1 : SM :=
    (gSeq (gAsg 5 (eCB F_touched (aCons (eVar 0) (aCons (eVar 3) (aCons (eVar 4) aNil)))))
    (gIf (tmAnd (tmB (eNotN (eVar 5))) (tmB (eOp (dInA true) (eVar 5) (eVar 1)))) (gSeq (gDPut (eVar 1) (eVar 5) (eOp dAdd (eOp dIxA (eVar 1) (eVar 3)) (eLst (aCons (eVar 4) aNil))))
    (gDrop (eBM tyL dAppend (eVar 2) (aCons (eVar 5) aNil)))) gNext))
@[irreducible] def b_ways_from_2 : SM :=
    (gSeq (gAsg 3 (eBM tyL dPop (eVar 2) (aCons (eD (.int 0)) aNil)))
    (gFor [true, true, true, true, false, false] (imSeq (eD (.tup ((["less", "more"] : List Str).map D.str)))) (tgName 4) b_ways_from_1))
@[irreducible] def g_ways_from : SM :=
    (gSeq (gPar2 1 2 (eDisK (psCons (eD (.int 0)) (eLst aNil) psNil)) (eLst (aCons (eD (.int 0)) aNil)))
    (gSeq (gWh 100000 [true, true, true, false, false, false] (tmB (eOp dNe (eVar 2) (eLst aNil))) b_ways_from_2)
    (gRet (eVar 1))))
def F_ways_from : List DV → Mem → Res R := callD0 g_ways_from 1 5
theorem w_ways_from {a0 : DV} {μ : Mem} {Q : R → Mem → Prop} {E : Xc → Mem → Prop} (h : SatS (g_ways_from μ.length [some a0, none, none, none, none, none] μ) (endP μ.length Q (fun _ _ => False))) : Sat (F_ways_from [a0] μ) Q E := x_call0 rfl h
@[irreducible] def g_touches_to : SM :=
    (gSeq (gDrop (eMeth "Counter" "need_mark" F_Counter_need_mark (eVar 0) (aCons (eVar 1) aNil)))
    (gRet (eDGet1 (eLk (eCB F_ways_from (aCons (eVar 0) aNil))) (eVar 1))))
def F_touches_to : List DV → Mem → Res R := callD g_touches_to 2 0
theorem w_touches_to {a0 a1 : DV} {μ : Mem} {Q : R → Mem → Prop} {E : Xc → Mem → Prop} (h : SatS (g_touches_to μ.length [some a0, some a1] μ) (endP μ.length Q E)) : Sat (F_touches_to [a0, a1] μ) Q E := x_call rfl h
@[irreducible] def b__law_heard_1 : SM :=
    (gSeq (gIf (tmB (eOp dEqA (eVar 0) (eD (.int 1)))) (gRet (eTup (aCons (eD (.str "told")) (aCons (eCB F_touches_to (aCons (eVar 1) (aCons (eVar 2) aNil))) aNil)))) gNext)
    (gRet (eTup (aCons (eD (.str "told")) (aCons (eCB F_led (aCons (eVar 1) (aCons (eVar 2) (aCons (eIf (tmB (eOp dEqA (eVar 0) (eD (.int 0)))) (eLst (aCons (eD (.str "more")) aNil)) (eLst aNil)) aNil)))) aNil)))))
@[irreducible] def g__law_heard : SM :=
    (gTry [("NoMark", true)] 3 b__law_heard_1 (fun a C dd => (gRet (eIf (tmB (eIsE 3 a C dd [("NoMark", true)])) (eTup (aCons (eD (.str "none")) (aCons (eXf 3 a C dd "NoMark" "number") aNil))) (eTup (aCons (eD (.str "other")) (aCons (eD .non) aNil)))))))
def F__law_heard : List DV → Mem → Res R := callD0 g__law_heard 3 1
theorem w__law_heard {a0 a1 a2 : DV} {μ : Mem} {Q : R → Mem → Prop} {E : Xc → Mem → Prop} (h : SatS (g__law_heard μ.length [some a0, some a1, some a2, none] μ) (endP μ.length Q (fun _ _ => False))) : Sat (F__law_heard [a0, a1, a2] μ) Q E := x_call0 rfl h
@[irreducible] def b__law_led_1 : SM :=
    (gSeq (gIf (tmB (eIsN (eVar 1))) (gRet (eD .non)) gNext)
    (gAsg 1 (eIf (tmB (eOp dEqA (eVar 3) (eD (.str "more")))) (eOp dIxA (eOp dIxA (eVar 0) (eVar 1)) (eD (.int 0))) (eOp dIxA (eOp dIxA (eVar 0) (eVar 1)) (eD (.int 1))))))
@[irreducible] def g__law_led : SM :=
    (gSeq (gFor [true, true, true, false] (imSeq (eVar 2)) (tgName 3) b__law_led_1)
    (gRet (eVar 1)))
def F__law_led : List DV → Mem → Res R := callD g__law_led 3 1
theorem w__law_led {a0 a1 a2 : DV} {μ : Mem} {Q : R → Mem → Prop} {E : Xc → Mem → Prop} (h : SatS (g__law_led μ.length [some a0, some a1, some a2, none] μ) (endP μ.length Q E)) : Sat (F__law_led [a0, a1, a2] μ) Q E := x_call rfl h
@[irreducible] def b__law_mixed_1 : SM :=
    (gDrop (eBM tyL dAppend (eVar 3) (aCons (eBM tyL dPop (eVar 2) (aCons (eCB F__law_take (aCons (eVar 0) (aCons (eCB (d1 dLen) (aCons (eVar 2) aNil)) aNil))) aNil)) aNil)))
@[irreducible] def g__law_mixed : SM :=
    (gSeq (gPar2 2 3 (eCB (d1 dList) (aCons (eVar 1) aNil)) (eLst aNil))
    (gSeq (gWh 100000 [true, true, true, true] (tmB (eOp dNe (eVar 2) (eLst aNil))) b__law_mixed_1)
    (gRet (eVar 3))))
def F__law_mixed : List DV → Mem → Res R := callD g__law_mixed 2 2
theorem w__law_mixed {a0 a1 : DV} {μ : Mem} {Q : R → Mem → Prop} {E : Xc → Mem → Prop} (h : SatS (g__law_mixed μ.length [some a0, some a1, none, none] μ) (endP μ.length Q E)) : Sat (F__law_mixed [a0, a1] μ) Q E := x_call rfl h
theorem e__law_mixed : F__law_mixed = callD gMixed 2 2 := by unfold F__law_mixed g__law_mixed gMixed b__law_mixed_1; rw [e__law_take]; try rfl
@[irreducible] def b__law_near_counter_1 : SM :=
    (gSeq (gPar 4 5 (aCons (eCB F__law_take (aCons (eVar 0) (aCons (eCB dLenA (aCons (eVar 2) aNil)) aNil))) (aCons (eCB dLenA (aCons (eVar 2) aNil)) aNil)))
    (gSeq (gTgt (tgTup 3 (tgCons (tgName 6) (tgCons (tgName 7) (tgCons (tgName 8) tgNil)))) (eOp dIxA (eVar 2) (eVar 4)))
    (gSeq (gAsg 9 (eCB F__law_take (aCons (eVar 0) (aCons (eD (.int 4)) aNil))))
    (gSeq (gIf (tmB (eOp dEqA (eVar 9) (eD (.int 0)))) (gAsg 6 (eCB F__law_take (aCons (eVar 0) (aCons (eVar 5) aNil)))) gNext)
    (gSeq (gIf (tmB (eOp dEqA (eVar 9) (eD (.int 1)))) (gAsg 7 (eOp dIxA (eLst (aCons (eD .non) (aCons (eCB F__law_take (aCons (eVar 0) (aCons (eVar 5) aNil))) aNil))) (eCB F__law_take (aCons (eVar 0) (aCons (eD (.int 2)) aNil))))) gNext)
    (gSeq (gIf (tmB (eOp dEqA (eVar 9) (eD (.int 2)))) (gAsg 8 (eNot (eVar 8))) gNext)
    (gSeq (gSet (eVar 2) (eVar 4) (eTup (aCons (eVar 6) (aCons (eVar 7) (aCons (eVar 8) aNil)))))
    (gIf (tmAnd (tmB (eOp dEqA (eVar 9) (eD (.int 3)))) (tmB (eOp dLt (eVar 5) (eD (.int 6))))) (gSeq (gDrop (eBM tyL dAppend (eVar 2) (aCons (eOp dIxA (eVar 2) (eVar 4)) aNil)))
    (gSet (eVar 2) (eCB F__law_take (aCons (eVar 0) (aCons (eVar 5) aNil))) (eOp dAdd (eTup (aCons (eVar 5) aNil)) (eSl (eOp dIxA (eVar 2) (eCB F__law_take (aCons (eVar 0) (aCons (eVar 5) aNil)))) (oSome (eD (.int 1))) oNone)))) gNext))))))))
@[irreducible] def g__law_near_counter : SM :=
    (gSeq (gNew 2 (eCB dListA (aCons (eVar 1) aNil)))
    (gSeq (gFor [true, true, true, false, false, false, false, false, false, false] (imRng (aCons (eCB F__law_take (aCons (eVar 0) (aCons (eD (.int 3)) aNil))) aNil)) (tgName 3) b__law_near_counter_1)
    (gRet (eVar 2))))
def F__law_near_counter : List DV → Mem → Res R := callD g__law_near_counter 2 8
theorem w__law_near_counter {a0 a1 : DV} {μ : Mem} {Q : R → Mem → Prop} {E : Xc → Mem → Prop} (h : SatS (g__law_near_counter μ.length [some a0, some a1, none, none, none, none, none, none, none, none] μ) (endP μ.length Q E)) : Sat (F__law_near_counter [a0, a1] μ) Q E := x_call rfl h
@[irreducible] def b__law_ways_to_1 : SM :=
    (gSeq (gAsg 6 (eCB F__law_led (aCons (eVar 0) (aCons (eVar 4) (aCons (eLst (aCons (eVar 5) aNil)) aNil)))))
    (gIf (tmAnd (tmB (eNotN (eVar 6))) (tmB (eOp (dInA true) (eVar 6) (eVar 1)))) (gSeq (gDPut (eVar 1) (eVar 6) (eOp dAdd (eOp dIxA (eVar 1) (eVar 4)) (eLst (aCons (eVar 5) aNil))))
    (gDrop (eBM tyL dAppend (eVar 3) (aCons (eVar 6) aNil)))) gNext))
@[irreducible] def b__law_ways_to_2 : SM :=
    (gFor [true, true, true, true, true, false, false] (imSeq (eTup (aCons (eD (.str "less")) (aCons (eD (.str "more")) aNil)))) (tgName 5) b__law_ways_to_1)
@[irreducible] def b__law_ways_to_3 : SM :=
    (gSeq (gNew 3 (eLst aNil))
    (gSeq (gFor [true, true, true, true, false, false, false] (imSeq (eVar 2)) (tgName 4) b__law_ways_to_2)
    (gSeq (gFrz 3) (gAsg 2 (eVar 3)))))
@[irreducible] def g__law_ways_to : SM :=
    (gSeq (gPar2 1 2 (eDisK (psCons (eD (.int 0)) (eLst aNil) psNil)) (eLst (aCons (eD (.int 0)) aNil)))
    (gSeq (gFrz 2) (gSeq (gWh 100000 [true, true, true, false, false, false, false] (tmB (eOp dNe (eVar 2) (eLst aNil))) b__law_ways_to_3)
    (gRet (eVar 1)))))
def F__law_ways_to : List DV → Mem → Res R := callD g__law_ways_to 1 6
theorem w__law_ways_to {a0 : DV} {μ : Mem} {Q : R → Mem → Prop} {E : Xc → Mem → Prop} (h : SatS (g__law_ways_to μ.length [some a0, none, none, none, none, none, none] μ) (endP μ.length Q E)) : Sat (F__law_ways_to [a0] μ) Q E := x_call rfl h
@[irreducible] def g_reached_marks : SM :=
    (gRet (eCB dSortA (aCons (eLk (eCB F_ways_from (aCons (eVar 0) aNil))) aNil)))
def F_reached_marks : List DV → Mem → Res R := callD g_reached_marks 1 0
theorem w_reached_marks {a0 : DV} {μ : Mem} {Q : R → Mem → Prop} {E : Xc → Mem → Prop} (h : SatS (g_reached_marks μ.length [some a0] μ) (endP μ.length Q E)) : Sat (F_reached_marks [a0] μ) Q E := x_call rfl h
@[irreducible] def b_law_1 : SM :=
    (gSeq (gNew 10 (eCBT F_touches_to (aCons (eVar 4) (aCons (eVar 9) aNil))))
    (gSeq (gIf (tmNot (tmB (eCB F__law_alike (aCons (eVar 10) (aCons (eDGet1 (eVar 5) (eVar 9)) aNil))))) (gRet (eD (.bl false))) gNext)
    (gIf (tmB (eNotN (eVar 10))) (gDrop (eBM tyL dAppend (eVar 10) (aCons (eD (.str "more")) aNil))) gNext)))
@[irreducible] def b_law_2 : SM :=
    (gSeq (gNew 8 (eCB F_reached_marks (aCons (eVar 4) aNil)))
    (gSeq (gIf (tmAnd (tmB (eOp dEqA (eVar 7) (eD (.int 0)))) (tmNot (tmB (eCB F__law_alike (aCons (eVar 8) (aCons (eCB dSortA (aCons (eVar 5) aNil)) aNil)))))) (gRet (eD (.bl false))) gNext)
    (gSeq (gDrop (eBM tyL dAppend (eVar 8) (aCons (eD .non) aNil)))
    (gFor [true, true, true, true, true, true, true, true, true, false, false, false, false, false, false, false, false] (imSeq (eCB F__law_mixed (aCons (eVar 1) (aCons (eOp dMulX (eListRng (eCB dLenA (aCons (eVar 3) aNil))) (eVar 7)) aNil)))) (tgName 9) b_law_1))))
@[irreducible] def b_law_3 : SM :=
    (gFor [true, true, true, true, true, true, true, false, false, false, false, false, false, false, false, false, false] (imSeq (eCB F__law_mixed (aCons (eVar 1) (aCons (eLst (aCons (eD (.int 0)) (aCons (eD (.int 1)) aNil))) aNil)))) (tgName 7) b_law_2)
@[irreducible] def b_law_4 : SM :=
    (gSeq (gAsg 9 (eCB F__law_take (aCons (eVar 1) (aCons (eCB dLenA (aCons (eVar 3) aNil)) aNil))))
    (gSeq (gAsg 12 (eLc (imRng (aCons (eCB F__law_take (aCons (eVar 1) (aCons (eD (.int 13)) aNil))) aNil)) (tgName 16) tmYes (eOp dIxA (eLst (aCons (eD (.str "more")) (aCons (eD (.str "less")) aNil))) (eCB F__law_take (aCons (eVar 1) (aCons (eD (.int 2)) aNil)))) [16]))
    (gSeq (gAsg 13 (eCB dReprA (aCons (eVar 12) aNil)))
    (gSeq (gAsg 14 (eCB F__law_led (aCons (eVar 3) (aCons (eVar 9) (aCons (eVar 12) aNil)))))
    (gIf (tmOr (tmNot (tmB (eCB F__law_alike (aCons (eCB F_led (aCons (eVar 4) (aCons (eVar 9) (aCons (eVar 12) aNil)))) (aCons (eVar 14) aNil))))) (tmB (eOp dNe (eCB dReprA (aCons (eVar 12) aNil)) (eVar 13)))) (gRet (eD (.bl false))) gNext)))))
@[irreducible] def b_law_5 : SM :=
    (gIf (tmB (eOp dNe (eLc (imSeq (eTup (aCons (eD (.int 0)) (aCons (eD (.int 1)) (aCons (eD (.int 2)) aNil))))) (tgName 7) (tmNot (tmB (eCB F__law_alike (aCons (eCB F__law_heard (aCons (eVar 7) (aCons (eVar 4) (aCons (eVar 15) aNil)))) (aCons (eTup (aCons (eD (.str "none")) (aCons (eVar 15) aNil))) aNil))))) (eVar 7) [7]) (eLst aNil))) (gRet (eD (.bl false))) gNext)
@[irreducible] def b_law_6 : SM :=
    (gSeq (gAsg 3 (eCB F__law_near_counter (aCons (eVar 1) (aCons (eCB F__law_counter (aCons (eVar 1) aNil)) aNil))))
    (gSeq (gTgt (tgTup 2 (tgCons (tgName 4) (tgCons (tgName 5) tgNil))) (eTup (aCons (eMake "Counter" F_Counter___init__ (aCons (eVar 3) aNil)) (aCons (eLk (eCB F__law_ways_to (aCons (eVar 3) aNil))) aNil))))
    (gSeq (gFor [true, true, true, true, true, true, false, false, false, false, false, false, false, false, false, false, false] (imRng (aCons (eD (.int 3)) aNil)) (tgName 6) b_law_3)
    (gSeq (gFor [true, true, true, true, true, true, false, false, false, false, false, false, false, false, false, false, false] (imRng (aCons (eD (.int 8)) aNil)) (tgName 11) b_law_4)
    (gFor [true, true, true, true, true, true, false, false, false, false, false, false, false, false, false, false, false] (imSeq (eTup (aCons (eUn dNeg (eD (.int 1))) (aCons (eCB dLenA (aCons (eVar 3) aNil)) (aCons (eD (.bl true)) (aCons (eD .non) (aCons (eD (.str "0")) (aCons (eLst aNil) (aCons (eLk eDNew) (aCons (eTup (aCons (eD (.int 0)) aNil)) aNil)))))))))) (tgName 15) b_law_5)))))
@[irreducible] def g_law : SM :=
    (gSeq (gNew 1 (eCB F__law_bag (aCons (eVar 0) aNil)))
    (gSeq (gFor [true, true, false, false, false, false, false, false, false, false, false, false, false, false, false, false, false] (imRng (aCons (eD (.int 5)) aNil)) (tgName 2) b_law_6)
    (gRet (eD (.bl true)))))
def F_law : List DV → Mem → Res R := callD0 g_law 1 16
theorem w_law {a0 : DV} {μ : Mem} {Q : R → Mem → Prop} {E : Xc → Mem → Prop} (h : SatS (g_law μ.length [some a0, none, none, none, none, none, none, none, none, none, none, none, none, none, none, none, none] μ) (endP μ.length Q (fun _ _ => False))) : Sat (F_law [a0] μ) Q E := x_call0 rfl h
/-! what the text holds besides -/
structure Tx (P : Program) (w : World) (K : PySem.W.Frag) (mg : Str → Option Value) (c_TOUCHES : Addr) (c_Counter : Addr) (c_CountError : Addr) (c_NoMark : Addr) (i_NoMark : Addr) : Prop where
  m_abs : mg "abs" = none
  m_all : mg "all" = none
  m_bool : mg "bool" = none
  m_int : mg "int" = none
  m_isinstance : mg "isinstance" = none
  m_len : mg "len" = none
  m_list : mg "list" = none
  m_range : mg "range" = none
  m_repr : mg "repr" = none
  m_sorted : mg "sorted" = none
  m_tuple : mg "tuple" = none
  g_MOST_MARKS : ∃ t, mg "MOST_MARKS" = some (.int 6 t)
  g_TOUCHES : mg "TOUCHES" = some (.ref c_TOUCHES)
  r_TOUCHES : ∀ G, Rp K G (.ref c_TOUCHES) (.tup ((["less", "more"] : List Str).map D.str))
  g_Counter : mg "Counter" = some (.ref c_Counter)
  k_Counter : ClsAt K "Counter" c_Counter
  g_CountError : mg "CountError" = some (.ref c_CountError)
  k_CountError : ClsAt K "CountError" c_CountError
  g_NoMark : mg "NoMark" = some (.ref c_NoMark)
  k_NoMark : ClsAt K "NoMark" c_NoMark
  ct_CountError : CatOk K (.ref c_CountError) ([("NoMark", true)] : List (Str × Bool))
  er_NoMark : DX.ErrTxt P K mg "NoMark" "number" c_NoMark i_NoMark
  ie_NoMark : TabE K (.ref c_NoMark) ([("NoMark", true)] : List (Str × Bool))
  xf_NoMark : XfC K c_NoMark
  xn_NoMark : PySem.W.findIn K (.ref c_NoMark) "number" = some none
  f_its_marks : ∀ nm ∈ (["Counter"] : List Str), FldOk K nm "its_marks"
  iT_bool : TabOk K (tabT "bool" ["Counter"]) fun t b => PySem.W.kitOne K t (.type "bool") = some b
  iT_int : TabOk K (tabT "int" ["Counter"]) fun t b => PySem.W.kitOne K t (.type "int") = some b
  iT2_list_tuple : TabOk K (tabT2 "list" "tuple" ["Counter"]) fun t b => PySem.W.kitAny K t [.type "list", .type "tuple"] = some b
section
variable {P : Program} {w : World} {K : PySem.W.Frag} {mg : Str → Option Value} {base : Heap} {c_TOUCHES c_Counter c_CountError c_NoMark i_NoMark : Addr}
set_option maxHeartbeats 4000000 in
theorem ok_is_integer {f : Addr} {fd : FuncData} (F : Fun K "is_integer" "is_integer" s_is_integer f fd) (hm : mg "is_integer" = some (.ref f)) (T : Tx P w K mg c_TOUCHES c_Counter c_CountError c_NoMark i_NoMark)  : FnD P w K mg base CX0 1 "is_integer" 1 F_is_integer := by
  refine fn_ok F sc_is_integer hm rfl rfl (fun _ _ _ _ _ _ us hl => match us, hl with | [_], _ => rfl) fun cdv A out s H E hr hgd => ?_
  have nd := (sc_is_integer).nd
  unfold g_is_integer
  exact Exists.intro _ (ss_one (sm_ret (pm_and (pm_isi K rfl T.m_isinstance (.ty "int") T.iT_int (pm_var 0) (pe_tyN rfl T.m_int (by decide +kernel))) (pm_one (pm_not (pm_isi K rfl T.m_isinstance (.ty "bool") T.iT_bool (pm_var 0) (pe_tyN rfl T.m_bool (by decide +kernel))))))))
set_option maxHeartbeats 4000000 in
theorem ok_is_number {f : Addr} {fd : FuncData} (F : Fun K "is_number" "is_number" s_is_number f fd) (hm : mg "is_number" = some (.ref f)) (T : Tx P w K mg c_TOUCHES c_Counter c_CountError c_NoMark i_NoMark) (C_is_integer : FnD P w K mg base CX0 1 "is_integer" 1 F_is_integer) : FnD P w K mg base CX0 2 "is_number" 2 F_is_number := by
  refine fn_ok F sc_is_number hm rfl rfl (fun _ _ _ _ _ _ us hl => match us, hl with | [_, _], _ => rfl) fun cdv A out s H E hr hgd => ?_
  have nd := (sc_is_number).nd
  unfold g_is_number
  exact Exists.intro _ (ss_one (sm_ret (pm_and (pm_callK C_is_integer (hr.mono (by decide)) hgd rfl pass_0 (pma_cons (pm_var 0) pma_nil)) (pm_one (pm_chain op_le (od_le (K := K)) op_lt (od_lt (K := K)) pm_int (pm_var 0) (pm_var 1))))))
set_option maxHeartbeats 4000000 in
theorem ok_is_mark {f : Addr} {fd : FuncData} (F : Fun K "is_mark" "is_mark" s_is_mark f fd) (hm : mg "is_mark" = some (.ref f)) (T : Tx P w K mg c_TOUCHES c_Counter c_CountError c_NoMark i_NoMark) (C_is_number : FnD P w K mg base CX0 2 "is_number" 2 F_is_number) : FnD P w K mg base CX0 3 "is_mark" 2 F_is_mark := by
  refine fn_ok F sc_is_mark hm rfl rfl (fun _ _ _ _ _ _ us hl => match us, hl with | [_, _], _ => rfl) fun cdv A out s H E hr hgd => ?_
  have nd := (sc_is_mark).nd
  unfold g_is_mark
  exact Exists.intro _ (ss_cons (sm_if (PMW.t (w_or (pt_no (pt_of (pm_isi2 K rfl T.m_isinstance (.ty "list") (.ty "tuple") T.iT2_list_tuple (pm_var 0) (pe_tyN rfl T.m_list (by decide +kernel)) (pe_tyN rfl T.m_tuple (by decide +kernel))))) (w_or (pt_cmpK (op_neK K hr.units) (od_ne (K := K)) (pm_cbK (call_lenA K) (cd_lenA (K := K)) (by rfl) T.m_len PySem.boot_len (pma_cons (pm_var 0) pma_nil)) pm_int (nomark _)) (w_or1 (pt_no (pt_of (pm_callK C_is_number (hr.mono (by decide)) hgd rfl pass_0 (pma_cons (pm_idxA K hr.units (pm_var 0) pm_int (fun _ _ => rfl)) (pma_cons (pm_var 1) pma_nil))))))))) (ss_one (sm_ret pm_bl)) ss_nil)
      (ss_one (sm_ret (pm_and (pm_or (pm_isN (pm_idxA K hr.units (pm_var 0) pm_int (fun _ _ => rfl))) (pm_one (pm_callK C_is_number (hr.mono (by decide)) hgd rfl pass_0 (pma_cons (pm_idxA K hr.units (pm_var 0) pm_int (fun _ _ => rfl)) (pma_cons (pm_var 1) pma_nil))))) (pm_one (pm_isi K rfl T.m_isinstance (.ty "bool") T.iT_bool (pm_idxA K hr.units (pm_var 0) pm_int (fun _ _ => rfl)) (pe_tyN rfl T.m_bool (by decide +kernel))))))))
set_option maxHeartbeats 4000000 in
theorem ok_are_marks {f : Addr} {fd : FuncData} (F : Fun K "are_marks" "are_marks" s_are_marks f fd) (hm : mg "are_marks" = some (.ref f)) (T : Tx P w K mg c_TOUCHES c_Counter c_CountError c_NoMark i_NoMark) (C_is_mark : FnD P w K mg base CX0 3 "is_mark" 2 F_is_mark) : FnD P w K mg base CX0 4 "are_marks" 1 F_are_marks := by
  obtain ⟨t_MOST_MARKS, gt_MOST_MARKS⟩ := T.g_MOST_MARKS
  refine fn_ok F sc_are_marks hm rfl rfl (fun _ _ _ _ _ _ us hl => match us, hl with | [_], _ => rfl) fun cdv A out s H E hr hgd => ?_
  have nd := (sc_are_marks).nd
  unfold g_are_marks
  exact Exists.intro _ (ss_cons (sm_if (PMW.t (w_or (pt_no (pt_of (pm_isi2 K rfl T.m_isinstance (.ty "list") (.ty "tuple") T.iT2_list_tuple (pm_var 0) (pe_tyN rfl T.m_list (by decide +kernel)) (pe_tyN rfl T.m_tuple (by decide +kernel))))) (w_or1 (pt_no (pt_chain op_le (od_le (K := K)) op_le (od_le (K := K)) pm_int (pm_cbK (call_lenA K) (cd_lenA (K := K)) (by rfl) T.m_len PySem.boot_len (pma_cons (pm_var 0) pma_nil)) (pm_glob (v := .int 6) rfl gt_MOST_MARKS ⟨_, rfl⟩ (fun _ => .int _))))))) (ss_one (sm_ret pm_bl)) ss_nil)
      (ss_one (sm_ret (pm_cbK (cr_allK K rfl) (cd_all (K := K) fun bs => bs.all id) (by rfl) T.m_all (by decide +kernel) (pma_cons (pm_lc (own := [("mark", 1)]) rfl nd (mi_seqK K (pm_var 0)) (blkOk_by (N := N_are_marks) (sc := defScope s_are_marks) (by decide +kernel)) (fun _ _ _ _ _ => (pg_nm 1 nd)) (by decide) (fun _ _ _ _ _ => ts_nil) (fun _ _ _ _ _ => (pm_callK C_is_mark (hr.mono (by decide)) hgd rfl pass_0 (pma_cons (pm_var 1) (pma_cons (pm_cbK (call_lenA K) (cd_lenA (K := K)) (by rfl) T.m_len PySem.boot_len (pma_cons (pm_var 0) pma_nil)) pma_nil))))) pma_nil)))))
set_option maxHeartbeats 4000000 in
theorem ok_Counter___init__ {f : Addr} {fd : FuncData} (F : Fun K "__init__" "Counter.__init__" s_Counter___init__ f fd) (M : Mk K c_Counter f) (T : Tx P w K mg c_TOUCHES c_Counter c_CountError c_NoMark i_NoMark) (C_are_marks : FnD P w K mg base CX0 4 "are_marks" 1 F_are_marks) : MakD P w K mg base CX0 5 "Counter" 2 F_Counter___init__ := by
  refine fn_okI F sc_Counter___init__ T.k_Counter T.g_Counter M rfl rfl (fun _ _ _ _ _ _ us hl => match us, hl with | [_, _], _ => rfl) fun cdv A out s H E hr hgd => ?_
  have nd := (sc_Counter___init__).nd
  unfold g_Counter___init__
  exact Exists.intro _ (ss_cons (sm_if (pt_no (pt_of (pm_callK C_are_marks (hr.mono (by decide)) hgd rfl pass_0 (pma_cons (pm_var 1) pma_nil)))) (ss_one sm_bad) ss_nil)
      (ss_one (sm_fld K T.f_its_marks (pm_var 0) (pm_lc (own := [("mark", 2)]) rfl nd (mi_seqK K (pm_var 1)) (blkOk_by (N := N_Counter___init__) (sc := defScope s_Counter___init__) (by decide +kernel)) (fun _ _ _ _ _ => (pg_nm 2 nd)) (by decide) (fun _ _ _ _ _ => ts_nil) (fun _ _ _ _ _ => (pm_ctK (call_tuple_ofK K) (cd_tuple (K := K)) (by rfl) T.m_tuple (by decide +kernel) (pma_cons (pm_var 2) pma_nil)))))))
set_option maxHeartbeats 4000000 in
theorem ok__law_alike {f : Addr} {fd : FuncData} (F : Fun K "_law_alike" "_law_alike" s__law_alike f fd) (hm : mg "_law_alike" = some (.ref f)) (T : Tx P w K mg c_TOUCHES c_Counter c_CountError c_NoMark i_NoMark)  : FnD P w K mg base CX0 1 "_law_alike" 2 F__law_alike := by
  refine fn_ok F sc__law_alike hm rfl rfl (fun _ _ _ _ _ _ us hl => match us, hl with | [_, _], _ => rfl) fun cdv A out s H E hr hgd => ?_
  have nd := (sc__law_alike).nd
  unfold g__law_alike
  exact Exists.intro _ (ss_one (sm_ret (pm_and (pm_cmpK (op_eqA K hr.units) (od_eqA (K := K)) (pm_var 0) (pm_var 1) (nomark _)) (pm_one (pm_cmpK (op_eqA K hr.units) (od_eqA (K := K)) (pm_cbK (cr_reprA K hr hgd) (cd_reprA (K := K)) (by rfl) T.m_repr (by decide +kernel) (pma_cons (pm_var 0) pma_nil)) (pm_cbK (cr_reprA K hr hgd) (cd_reprA (K := K)) (by rfl) T.m_repr (by decide +kernel) (pma_cons (pm_var 1) pma_nil)) (nomark _))))))
set_option maxHeartbeats 4000000 in
theorem ok__law_bag {f : Addr} {fd : FuncData} (F : Fun K "_law_bag" "_law_bag" s__law_bag f fd) (hm : mg "_law_bag" = some (.ref f)) (T : Tx P w K mg c_TOUCHES c_Counter c_CountError c_NoMark i_NoMark)  : FnD P w K mg base CX0 1 "_law_bag" 1 F__law_bag := by
  refine fn_ok F sc__law_bag hm rfl rfl (fun _ _ _ _ _ _ us hl => match us, hl with | [_], _ => rfl) fun cdv A out s H E hr hgd => ?_
  have nd := (sc__law_bag).nd
  unfold g__law_bag
  exact Exists.intro _ (ss_one (sm_ret (pm_lst (pma_cons pm_int (pma_cons pm_int (pma_cons pm_int (pma_cons (pm_lc (own := [("_law_cell", 1)]) rfl nd (mi_seqK K (pm_slK K (pm_var 0) mo_none (mo_some pm_int))) (blkOk_by (N := N__law_bag) (sc := defScope s__law_bag) (by decide +kernel)) (fun _ _ _ _ _ => (pg_nm 1 nd)) (by decide) (fun _ _ _ _ _ => ts_nil) (fun _ _ _ _ _ => (pm_cbK call_abs (cd_abs (K := K)) (by rfl) T.m_abs (by decide +kernel) (pma_cons (pm_var 1) pma_nil)))) pma_nil)))))))
set_option maxHeartbeats 4000000 in
theorem ok__law_sticking {f : Addr} {fd : FuncData} (F : Fun K "_law_sticking" "_law_sticking" s__law_sticking f fd) (hm : mg "_law_sticking" = some (.ref f)) (T : Tx P w K mg c_TOUCHES c_Counter c_CountError c_NoMark i_NoMark)  : FnD P w K mg base CX0 1 "_law_sticking" 1 F__law_sticking := by
  refine fn_ok F sc__law_sticking hm rfl rfl (fun _ _ _ _ _ _ us hl => match us, hl with | [_], _ => rfl) fun cdv A out s H E hr hgd => ?_
  have nd := (sc__law_sticking).nd
  unfold g__law_sticking
  exact Exists.intro _ (ss_cons (sm_asg 1 nd (pm_addK K (pm_lst (pma_cons (pm_tup (pma_cons pm_int (pma_cons pm_non (pma_cons pm_bl pma_nil)))) pma_nil)) (pm_lc (own := [("_law_at", 2)]) rfl nd (mi_rng2 rfl T.m_range (pma_cons pm_int (pma_cons (pm_sub (pm_var 0) pm_int) pma_nil))) (blkOk_by (N := N__law_sticking) (sc := defScope s__law_sticking) (by decide +kernel)) (fun _ _ _ _ _ => (pg_nm 2 nd)) (by decide) (fun _ _ _ _ _ => ts_nil) (fun _ _ _ _ _ => (pm_tup (pma_cons (pm_addK K (pm_var 2) pm_int) (pma_cons (pm_sub (pm_var 2) pm_int) (pma_cons pm_bl pma_nil))))))))
      (ss_one (sm_ret (pm_if (pt_cmpK op_gt (od_gt (K := K)) (pm_var 0) pm_int (nomark _)) (pm_addK K (pm_var 1) (pm_lst (pma_cons (pm_tup (pma_cons (pm_sub (pm_var 0) pm_int) (pma_cons (pm_sub (pm_var 0) pm_int) (pma_cons pm_bl pma_nil)))) pma_nil))) (pm_lst (pma_cons (pm_tup (pma_cons pm_int (pma_cons pm_int (pma_cons pm_bl pma_nil)))) pma_nil))))))
set_option maxHeartbeats 4000000 in
theorem ok__law_take {f : Addr} {fd : FuncData} (F : Fun K "_law_take" "_law_take" s__law_take f fd) (hm : mg "_law_take" = some (.ref f)) (T : Tx P w K mg c_TOUCHES c_Counter c_CountError c_NoMark i_NoMark)  : FnD P w K mg base CX0 1 "_law_take" 2 F__law_take := by
  refine fn_ok F sc__law_take hm rfl rfl (fun _ _ _ _ _ _ us hl => match us, hl with | [_, _], _ => rfl) fun cdv A out s H E hr hgd => ?_
  have nd := (sc__law_take).nd
  unfold g__law_take
  exact Exists.intro _ (ss_cons (sm_if (pt_cmpK (op_eqK K hr.units) (od_eq (K := K)) (pm_idxK K (pm_var 0) pm_int (fun _ _ => rfl)) pm_int (nomark _)) (ss_cons (sm_asg 2 nd pm_int)
      (ss_cons (sm_if (pt_cmpK op_lt (od_lt (K := K)) (pm_idxK K (pm_var 0) pm_int (fun _ _ => rfl)) (pm_cbK (call_lenK K) (cd_len (K := K)) (by rfl) T.m_len PySem.boot_len (pma_cons (pm_idxK K (pm_var 0) pm_int (fun _ _ => rfl)) pma_nil)) (nomark _)) (ss_one (sm_asg 2 nd (pm_idxK K (pm_idxK K (pm_var 0) pm_int (fun _ _ => rfl)) (pm_idxK K (pm_var 0) pm_int (fun _ _ => rfl)) (fun _ _ => rfl)))) ss_nil)
      (ss_cons (sm_augSK K (pm_var 0) pm_int pm_int)
      (ss_cons (sm_if (pt_cmpK op_ge (od_ge (K := K)) (pm_var 2) pm_int (nomark _)) (ss_one (sm_set (pm_var 0) pm_int (pm_var 2))) ss_nil)
      (ss_cons (sm_asg 3 nd (pm_addK K (pm_addK K (pm_mul (pm_idxK K (pm_var 0) pm_int (fun _ _ => rfl)) pm_int) (pm_mod (pm_ctK call_int1 (cd_int (K := K)) (by rfl) T.m_int (by decide +kernel) (pma_cons (pm_var 2) pma_nil)) pm_int)) (pm_mul pm_int (pm_idxK K (pm_var 0) pm_int (fun _ _ => rfl)))))
      (ss_one (sm_set (pm_var 0) pm_int (pm_mod (pm_ctK call_int1 (cd_int (K := K)) (by rfl) T.m_int (by decide +kernel) (pma_cons (pm_var 3) pma_nil)) pm_int)))))))) ss_nil)
      (ss_cons (sm_if (pt_cmpK op_gt (od_gt (K := K)) (pm_idxK K (pm_var 0) pm_int (fun _ _ => rfl)) pm_int (nomark _)) (ss_cons (sm_asg 4 nd (pm_mod (pm_ctK call_int1 (cd_int (K := K)) (by rfl) T.m_int (by decide +kernel) (pma_cons (pm_idxK K (pm_var 0) pm_int (fun _ _ => rfl)) pma_nil)) (pm_var 1)))
      (ss_cons (sm_set (pm_var 0) pm_int (pm_div (pm_ctK call_int1 (cd_int (K := K)) (by rfl) T.m_int (by decide +kernel) (pma_cons (pm_idxK K (pm_var 0) pm_int (fun _ _ => rfl)) pma_nil)) (pm_var 1)))
      (ss_one (sm_ret (pm_var 4))))) ss_nil)
      (ss_cons (sm_asg 5 nd (pm_mod (pm_ctK call_int1 (cd_int (K := K)) (by rfl) T.m_int (by decide +kernel) (pma_cons (pm_mul (pm_addK K (pm_idxK K (pm_var 0) pm_int (fun _ _ => rfl)) pm_int) pm_int) pma_nil)) pm_int))
      (ss_cons (sm_asg 6 nd (pm_mod (pm_ctK call_int1 (cd_int (K := K)) (by rfl) T.m_int (by decide +kernel) (pma_cons (pm_mul (pm_mod (pm_ctK call_int1 (cd_int (K := K)) (by rfl) T.m_int (by decide +kernel) (pma_cons (pm_mul (pm_var 5) (pm_var 5)) pma_nil)) pm_int) pm_int) pma_nil)) pm_int))
      (ss_one (sm_ret (pm_mod (pm_ctK call_int1 (cd_int (K := K)) (by rfl) T.m_int (by decide +kernel) (pma_cons (pm_div (pm_var 6) pm_int) pma_nil)) (pm_var 1))))))))
set_option maxHeartbeats 4000000 in
theorem ok__law_counter {f : Addr} {fd : FuncData} (F : Fun K "_law_counter" "_law_counter" s__law_counter f fd) (hm : mg "_law_counter" = some (.ref f)) (T : Tx P w K mg c_TOUCHES c_Counter c_CountError c_NoMark i_NoMark) (C__law_sticking : FnD P w K mg base CX0 1 "_law_sticking" 1 F__law_sticking) (C__law_take : FnD P w K mg base CX0 1 "_law_take" 2 F__law_take) : FnD P w K mg base CX0 2 "_law_counter" 1 F__law_counter := by
  refine fn_ok F sc__law_counter hm rfl rfl (fun _ _ _ _ _ _ us hl => match us, hl with | [_], _ => rfl) fun cdv A out s H E hr hgd => ?_
  have nd := (sc__law_counter).nd
  unfold g__law_counter b__law_counter_1
  exact Exists.intro _ (ss_cons (sm_asg 1 nd (pm_addK K pm_int (pm_callK C__law_take (hr.mono (by decide)) hgd rfl pass_0 (pma_cons (pm_var 0) (pma_cons pm_int pma_nil)))))
      (ss_cons (sm_new 2 nd (pm_callK C__law_sticking (hr.mono (by decide)) hgd rfl pass_0 (pma_cons (pm_var 1) pma_nil)))
      (ss_cons (sm_if (pt_cmpK op_gt (od_gt (K := K)) (pm_callK C__law_take (hr.mono (by decide)) hgd rfl pass_0 (pma_cons (pm_var 0) (pma_cons pm_int pma_nil))) pm_int (nomark _)) (ss_one (sm_ret (pm_var 2))) ss_nil)
      (ss_cons (sm_for [true, true, true, false, false, false] PassesOwn.never rfl (mi_rng1 rfl T.m_range (pma_cons (pm_addK K pm_int (pm_callK C__law_take (hr.mono (by decide)) hgd rfl pass_0 (pma_cons (pm_var 0) (pma_cons pm_int pma_nil)))) pma_nil)) (pg_nm 3 nd) (ss_cons (sm_asg 4 nd (pm_callK C__law_take (hr.mono (by decide)) hgd rfl pass_0 (pma_cons (pm_var 0) (pma_cons (pm_var 1) pma_nil))))
      (ss_cons (sm_asg 5 nd (pm_idxA K hr.units (pm_lst (pma_cons pm_non (pma_cons (pm_callK C__law_take (hr.mono (by decide)) hgd rfl pass_0 (pma_cons (pm_var 0) (pma_cons (pm_var 1) pma_nil))) pma_nil))) (pm_callK C__law_take (hr.mono (by decide)) hgd rfl pass_0 (pma_cons (pm_var 0) (pma_cons pm_int pma_nil))) (fun _ _ => rfl)))
      (ss_one (sm_set (pm_var 2) (pm_var 4) (pm_tup (pma_cons (pm_callK C__law_take (hr.mono (by decide)) hgd rfl pass_0 (pma_cons (pm_var 0) (pma_cons (pm_var 1) pma_nil))) (pma_cons (pm_var 5) (pma_cons (pm_cmpK (op_eqA K hr.units) (od_eqA (K := K)) (pm_callK C__law_take (hr.mono (by decide)) hgd rfl pass_0 (pma_cons (pm_var 0) (pma_cons pm_int pma_nil))) pm_int (nomark _)) pma_nil)))))))))
      (ss_one (sm_ret (pm_var 2)))))))
set_option maxHeartbeats 4000000 in
theorem ok_Counter___len__ {f : Addr} {fd : FuncData} (F : Fun K "__len__" "Counter.__len__" s_Counter___len__ f fd) (cl : Cls K c_Counter) (hm : Meth K c_Counter "__len__" f) (T : Tx P w K mg c_TOUCHES c_Counter c_CountError c_NoMark i_NoMark)  : MthD P w K mg base CX0 1 "Counter" "__len__" 1 F_Counter___len__ := by
  refine fn_okM F sc_Counter___len__ T.k_Counter cl hm rfl rfl (fun _ _ _ _ _ _ us hl => match us, hl with | [_], _ => rfl) fun cdv A out s H E hr hgd => ?_
  have nd := (sc_Counter___len__).nd
  unfold g_Counter___len__
  exact Exists.intro _ (ss_one (sm_ret (pm_cbK (call_lenA K) (cd_lenA (K := K)) (by rfl) T.m_len PySem.boot_len (pma_cons (pm_fld K T.f_its_marks (pm_var 0)) pma_nil))))
set_option maxHeartbeats 4000000 in
theorem ok_Counter_need_mark {f : Addr} {fd : FuncData} (F : Fun K "need_mark" "Counter.need_mark" s_Counter_need_mark f fd) (cl : Cls K c_Counter) (hm : Meth K c_Counter "need_mark" f) (T : Tx P w K mg c_TOUCHES c_Counter c_CountError c_NoMark i_NoMark) (C_Counter___len__ : MthD P w K mg base CX0 1 "Counter" "__len__" 1 F_Counter___len__) (C_is_number : FnD P w K mg base CX0 2 "is_number" 2 F_is_number) : MthD P w K mg base (L2.CX P w) 3 "Counter" "need_mark" 2 F_Counter_need_mark := by
  refine fn_okMX F sc_Counter_need_mark T.k_Counter cl hm rfl rfl (fun _ _ _ _ _ _ us hl => match us, hl with | [_, _], _ => rfl) fun cdv A out s H E hr hgd => ?_
  have nd := (sc_Counter_need_mark).nd
  unfold g_Counter_need_mark
  exact Exists.intro _ (ss_one (sm_if (pt_no (pt_of (pm_callK C_is_number (hr.mono (by decide)) hgd rfl pass_0 (pma_cons (pm_var 1) (pma_cons (pm_lenO C_Counter___len__ (hr.mono (by decide)) hgd rfl T.m_len (pm_var 0)) pma_nil))))) (ss_one (sm_raise rfl tk_of T.er_NoMark T.k_NoMark hr (pm_var 1) rfl)) ss_nil))
set_option maxHeartbeats 4000000 in
theorem ok_Counter_less {f : Addr} {fd : FuncData} (F : Fun K "less" "Counter.less" s_Counter_less f fd) (cl : Cls K c_Counter) (hm : Meth K c_Counter "less" f) (T : Tx P w K mg c_TOUCHES c_Counter c_CountError c_NoMark i_NoMark) (C_Counter_need_mark : MthD P w K mg base (L2.CX P w) 3 "Counter" "need_mark" 2 F_Counter_need_mark) : MthD P w K mg base (L2.CX P w) 4 "Counter" "less" 2 F_Counter_less := by
  refine fn_okMX F sc_Counter_less T.k_Counter cl hm rfl rfl (fun _ _ _ _ _ _ us hl => match us, hl with | [_, _], _ => rfl) fun cdv A out s H E hr hgd => ?_
  have nd := (sc_Counter_less).nd
  unfold g_Counter_less
  exact Exists.intro _ (ss_cons (sm_expr (pm_meth C_Counter_need_mark (hr.mono (by decide)) hgd (fun σ => passAt tk_of σ) (pm_var 0) (pma_cons (pm_var 1) pma_nil)))
      (ss_one (sm_ret (pm_idxA K hr.units (pm_idxA K hr.units (pm_fld K T.f_its_marks (pm_var 0)) (pm_var 1) (fun _ _ => rfl)) pm_int (fun _ _ => rfl)))))
set_option maxHeartbeats 4000000 in
theorem ok_Counter_more {f : Addr} {fd : FuncData} (F : Fun K "more" "Counter.more" s_Counter_more f fd) (cl : Cls K c_Counter) (hm : Meth K c_Counter "more" f) (T : Tx P w K mg c_TOUCHES c_Counter c_CountError c_NoMark i_NoMark) (C_Counter_need_mark : MthD P w K mg base (L2.CX P w) 3 "Counter" "need_mark" 2 F_Counter_need_mark) : MthD P w K mg base (L2.CX P w) 4 "Counter" "more" 2 F_Counter_more := by
  refine fn_okMX F sc_Counter_more T.k_Counter cl hm rfl rfl (fun _ _ _ _ _ _ us hl => match us, hl with | [_, _], _ => rfl) fun cdv A out s H E hr hgd => ?_
  have nd := (sc_Counter_more).nd
  unfold g_Counter_more
  exact Exists.intro _ (ss_cons (sm_expr (pm_meth C_Counter_need_mark (hr.mono (by decide)) hgd (fun σ => passAt tk_of σ) (pm_var 0) (pma_cons (pm_var 1) pma_nil)))
      (ss_one (sm_ret (pm_idxA K hr.units (pm_idxA K hr.units (pm_fld K T.f_its_marks (pm_var 0)) (pm_var 1) (fun _ _ => rfl)) pm_int (fun _ _ => rfl)))))
set_option maxHeartbeats 4000000 in
theorem ok_touched {f : Addr} {fd : FuncData} (F : Fun K "touched" "touched" s_touched f fd) (hm : mg "touched" = some (.ref f)) (T : Tx P w K mg c_TOUCHES c_Counter c_CountError c_NoMark i_NoMark) (C_Counter_less : MthD P w K mg base (L2.CX P w) 4 "Counter" "less" 2 F_Counter_less) (C_Counter_more : MthD P w K mg base (L2.CX P w) 4 "Counter" "more" 2 F_Counter_more) : FnD P w K mg base (L2.CX P w) 5 "touched" 3 F_touched := by
  refine fn_okX F sc_touched hm rfl rfl (fun _ _ _ _ _ _ us hl => match us, hl with | [_, _, _], _ => rfl) fun cdv A out s H E hr hgd => ?_
  have nd := (sc_touched).nd
  unfold g_touched
  exact Exists.intro _ (ss_one (sm_ret (pm_if (pt_cmpK (op_eqA K hr.units) (od_eqA (K := K)) (pm_var 2) pm_str (nomark _)) (pm_meth C_Counter_more (hr.mono (by decide)) hgd (fun σ => passAt tk_of σ) (pm_var 0) (pma_cons (pm_var 1) pma_nil)) (pm_meth C_Counter_less (hr.mono (by decide)) hgd (fun σ => passAt tk_of σ) (pm_var 0) (pma_cons (pm_var 1) pma_nil)))))
set_option maxHeartbeats 4000000 in
theorem ok_led {f : Addr} {fd : FuncData} (F : Fun K "led" "led" s_led f fd) (hm : mg "led" = some (.ref f)) (T : Tx P w K mg c_TOUCHES c_Counter c_CountError c_NoMark i_NoMark) (C_Counter_need_mark : MthD P w K mg base (L2.CX P w) 3 "Counter" "need_mark" 2 F_Counter_need_mark) (C_touched : FnD P w K mg base (L2.CX P w) 5 "touched" 3 F_touched) : FnD P w K mg base (L2.CX P w) 6 "led" 3 F_led := by
  refine fn_okX F sc_led hm rfl rfl (fun _ _ _ _ _ _ us hl => match us, hl with | [_, _, _], _ => rfl) fun cdv A out s H E hr hgd => ?_
  have nd := (sc_led).nd
  unfold g_led b_led_1
  exact Exists.intro _ (ss_cons (sm_expr (pm_meth C_Counter_need_mark (hr.mono (by decide)) hgd (fun σ => passAt tk_of σ) (pm_var 0) (pma_cons (pm_var 1) pma_nil)))
      (ss_cons (sm_for [true, true, true, false] po_of rfl (mi_seqK K (pm_var 2)) (pg_nm 3 nd) (ss_one (sm_if (pt_notN (pm_var 1)) (ss_one (sm_asg 1 nd (pm_callK C_touched (hr.mono (by decide)) hgd rfl (fun σ => passAt tk_of σ) (pma_cons (pm_var 0) (pma_cons (pm_var 1) (pma_cons (pm_var 3) pma_nil)))))) ss_nil)))
      (ss_one (sm_ret (pm_var 1)))))
set_option maxHeartbeats 4000000 in
theorem ok_ways_from {f : Addr} {fd : FuncData} (F : Fun K "ways_from" "ways_from" s_ways_from f fd) (hm : mg "ways_from" = some (.ref f)) (T : Tx P w K mg c_TOUCHES c_Counter c_CountError c_NoMark i_NoMark) (C_touched : FnD P w K mg base (L2.CX P w) 5 "touched" 3 F_touched) : FnD P w K mg base CX0 6 "ways_from" 1 F_ways_from := by
  refine fn_ok0 F sc_ways_from hm rfl rfl (fun _ _ _ _ _ _ us hl => match us, hl with | [_], _ => rfl) fun cdv A out s H E hr hgd => ?_
  have nd := (sc_ways_from).nd
  unfold g_ways_from b_ways_from_2 b_ways_from_1
  exact Exists.intro _ (ss_cons (sm_par2 1 2 rfl nd (pm_disK (pp_cons pm_int (pm_lst pma_nil) pp_nil)) (pm_lst (pma_cons pm_int pma_nil)))
      (ss_cons (sm_while 100000 [true, true, true, false, false, false] PassesOwn.never (pt_cmpK (op_neK K hr.units) (od_ne (K := K)) (pm_var 2) (pm_lst pma_nil) (nomark _)) (ss_cons (sm_asg 3 nd (pm_bmK K PySem.F.plainAttrs_list PySem.F.slot_list_pop PySem.F.type_list_pop mt_popAt td_list md_popAt (pm_var 2) (pma_cons pm_int pma_nil)))
      (ss_one (sm_for [true, true, true, true, false, false] PassesOwn.never rfl (mi_seqK K (pm_glob (v := .ref c_TOUCHES) rfl T.g_TOUCHES rfl T.r_TOUCHES)) (pg_nm 4 nd) (ss_cons (sm_asg 5 nd (pm_callK C_touched (hr.mono (by decide)) hgd rfl passWF (pma_cons (pm_var 0) (pma_cons (pm_var 3) (pma_cons (pm_var 4) pma_nil)))))
      (ss_one (sm_if (PMW.t (w_and (pt_notN (pm_var 5)) (w_and1 (pt_cmpK (op_ninA K hr.units) (od_inA (K := K) true) (pm_var 5) (pm_var 1) (by rfl))))) (ss_cons (sm_dpt hr.units (pm_var 1) (pm_var 5) (pm_addK K (pm_idxA K hr.units (pm_var 1) (pm_var 3) (fun _ _ => rfl)) (pm_lst (pma_cons (pm_var 4) pma_nil))))
      (ss_one (sm_expr (pm_bmK K PySem.F.plainAttrs_list PySem.F.slot_list_append PySem.F.type_list_append mt_append td_list md_append (pm_var 2) (pma_cons (pm_var 5) pma_nil))))) ss_nil)))))))
      (ss_one (sm_ret (pm_var 1)))))
set_option maxHeartbeats 4000000 in
theorem ok_touches_to {f : Addr} {fd : FuncData} (F : Fun K "touches_to" "touches_to" s_touches_to f fd) (hm : mg "touches_to" = some (.ref f)) (T : Tx P w K mg c_TOUCHES c_Counter c_CountError c_NoMark i_NoMark) (C_Counter_need_mark : MthD P w K mg base (L2.CX P w) 3 "Counter" "need_mark" 2 F_Counter_need_mark) (C_ways_from : FnD P w K mg base CX0 6 "ways_from" 1 F_ways_from) : FnD P w K mg base (L2.CX P w) 7 "touches_to" 2 F_touches_to := by
  refine fn_okX F sc_touches_to hm rfl rfl (fun _ _ _ _ _ _ us hl => match us, hl with | [_, _], _ => rfl) fun cdv A out s H E hr hgd => ?_
  have nd := (sc_touches_to).nd
  unfold g_touches_to
  exact Exists.intro _ (ss_cons (sm_expr (pm_meth C_Counter_need_mark (hr.mono (by decide)) hgd (fun σ => passAt tk_of σ) (pm_var 0) (pma_cons (pm_var 1) pma_nil)))
      (ss_one (sm_ret (pm_dg1 hr.units (pm_lk (pm_callK C_ways_from (hr.mono (by decide)) hgd rfl pass_0 (pma_cons (pm_var 0) pma_nil))) (pm_var 1)))))
set_option maxHeartbeats 4000000 in
theorem ok__law_heard {f : Addr} {fd : FuncData} (F : Fun K "_law_heard" "_law_heard" s__law_heard f fd) (hm : mg "_law_heard" = some (.ref f)) (T : Tx P w K mg c_TOUCHES c_Counter c_CountError c_NoMark i_NoMark) (C_led : FnD P w K mg base (L2.CX P w) 6 "led" 3 F_led) (C_touches_to : FnD P w K mg base (L2.CX P w) 7 "touches_to" 2 F_touches_to) : FnD P w K mg base CX0 8 "_law_heard" 3 F__law_heard := by
  refine fn_ok0 F sc__law_heard hm rfl rfl (fun _ _ _ _ _ _ us hl => match us, hl with | [_, _, _], _ => rfl) fun cdv A out s H E hr hgd => ?_
  have nd := (sc__law_heard).nd
  unfold g__law_heard b__law_heard_1
  exact Exists.intro _ (ss_one (sm_try2 rfl rfl nd rfl rfl ⟨rfl, by decide, .inl T.g_CountError⟩ takesWF T.ct_CountError (fun W' pn xe tk' po => (ss_cons (sm_if (pt_cmpK (op_eqA K hr.units) (od_eqA (K := K)) (pm_var 0) pm_int (nomark _)) (ss_one (sm_ret (pm_tup (pma_cons pm_str (pma_cons (pm_callK C_touches_to (hr.mono (by decide)) hgd rfl (fun σ => passAt tk' σ) (pma_cons (pm_var 1) (pma_cons (pm_var 2) pma_nil))) pma_nil))))) ss_nil)
      (ss_one (sm_ret (pm_tup (pma_cons pm_str (pma_cons (pm_callK C_led (hr.mono (by decide)) hgd rfl (fun σ => passAt tk' σ) (pma_cons (pm_var 1) (pma_cons (pm_var 2) (pma_cons (pm_if (pt_cmpK (op_eqA K hr.units) (od_eqA (K := K)) (pm_var 0) pm_int (nomark _)) (pm_lst (pma_cons pm_str pma_nil)) (pm_lst pma_nil)) pma_nil)))) pma_nil))))))) (fun a oe C dd pn hz hf => (ss_one (sm_ret (pm_if (pt_of (pm_isE K 3 hz hf rfl T.m_isinstance T.ie_NoMark rfl T.g_NoMark)) (pm_tup (pma_cons pm_str (pma_cons (pm_xf K 3 hz hf T.xf_NoMark T.xn_NoMark T.k_NoMark) pma_nil))) (pm_tup (pma_cons pm_str (pma_cons pm_non pma_nil)))))))))
set_option maxHeartbeats 4000000 in
theorem ok__law_led {f : Addr} {fd : FuncData} (F : Fun K "_law_led" "_law_led" s__law_led f fd) (hm : mg "_law_led" = some (.ref f)) (T : Tx P w K mg c_TOUCHES c_Counter c_CountError c_NoMark i_NoMark)  : FnD P w K mg base CX0 1 "_law_led" 3 F__law_led := by
  refine fn_ok F sc__law_led hm rfl rfl (fun _ _ _ _ _ _ us hl => match us, hl with | [_, _, _], _ => rfl) fun cdv A out s H E hr hgd => ?_
  have nd := (sc__law_led).nd
  unfold g__law_led b__law_led_1
  exact Exists.intro _ (ss_cons (sm_for [true, true, true, false] PassesOwn.never rfl (mi_seqK K (pm_var 2)) (pg_nm 3 nd) (ss_cons (sm_if (pt_isN (pm_var 1)) (ss_one (sm_ret pm_non)) ss_nil)
      (ss_one (sm_asg 1 nd (pm_if (pt_cmpK (op_eqA K hr.units) (od_eqA (K := K)) (pm_var 3) pm_str (nomark _)) (pm_idxA K hr.units (pm_idxA K hr.units (pm_var 0) (pm_var 1) (fun _ _ => rfl)) pm_int (fun _ _ => rfl)) (pm_idxA K hr.units (pm_idxA K hr.units (pm_var 0) (pm_var 1) (fun _ _ => rfl)) pm_int (fun _ _ => rfl)))))))
      (ss_one (sm_ret (pm_var 1))))
set_option maxHeartbeats 4000000 in
theorem ok__law_mixed {f : Addr} {fd : FuncData} (F : Fun K "_law_mixed" "_law_mixed" s__law_mixed f fd) (hm : mg "_law_mixed" = some (.ref f)) (T : Tx P w K mg c_TOUCHES c_Counter c_CountError c_NoMark i_NoMark) (C__law_take : FnD P w K mg base CX0 1 "_law_take" 2 F__law_take) : FnD P w K mg base CX0 2 "_law_mixed" 2 F__law_mixed := by
  refine fn_ok F sc__law_mixed hm rfl rfl (fun _ _ _ _ _ _ us hl => match us, hl with | [_, _], _ => rfl) fun cdv A out s H E hr hgd => ?_
  have nd := (sc__law_mixed).nd
  unfold g__law_mixed b__law_mixed_1
  exact Exists.intro _ (ss_cons (sm_par2 2 3 rfl nd (pm_ctK (call_list_ofK K) (cd_list (K := K)) (by rfl) T.m_list (by decide +kernel) (pma_cons (pm_var 1) pma_nil)) (pm_lst pma_nil))
      (ss_cons (sm_while 100000 [true, true, true, true] PassesOwn.never (pt_cmpK (op_neK K hr.units) (od_ne (K := K)) (pm_var 2) (pm_lst pma_nil) (nomark _)) (ss_one (sm_expr (pm_bmK K PySem.F.plainAttrs_list PySem.F.slot_list_append PySem.F.type_list_append mt_append td_list md_append (pm_var 3) (pma_cons (pm_bmK K PySem.F.plainAttrs_list PySem.F.slot_list_pop PySem.F.type_list_pop mt_popAt td_list md_popAt (pm_var 2) (pma_cons (pm_callK C__law_take (hr.mono (by decide)) hgd rfl pass_0 (pma_cons (pm_var 0) (pma_cons (pm_cbK (call_lenK K) (cd_len (K := K)) (by rfl) T.m_len PySem.boot_len (pma_cons (pm_var 2) pma_nil)) pma_nil))) pma_nil)) pma_nil)))))
      (ss_one (sm_ret (pm_var 3)))))
set_option maxHeartbeats 4000000 in
theorem ok__law_near_counter {f : Addr} {fd : FuncData} (F : Fun K "_law_near_counter" "_law_near_counter" s__law_near_counter f fd) (hm : mg "_law_near_counter" = some (.ref f)) (T : Tx P w K mg c_TOUCHES c_Counter c_CountError c_NoMark i_NoMark) (C__law_take : FnD P w K mg base CX0 1 "_law_take" 2 F__law_take) : FnD P w K mg base CX0 2 "_law_near_counter" 2 F__law_near_counter := by
  refine fn_ok F sc__law_near_counter hm rfl rfl (fun _ _ _ _ _ _ us hl => match us, hl with | [_, _], _ => rfl) fun cdv A out s H E hr hgd => ?_
  have nd := (sc__law_near_counter).nd
  unfold g__law_near_counter b__law_near_counter_1
  exact Exists.intro _ (ss_cons (sm_new 2 nd (pm_ctK (call_listA K rfl) (cd_listA (K := K)) (by rfl) T.m_list (by decide +kernel) (pma_cons (pm_var 1) pma_nil)))
      (ss_cons (sm_for [true, true, true, false, false, false, false, false, false, false] PassesOwn.never rfl (mi_rng1 rfl T.m_range (pma_cons (pm_callK C__law_take (hr.mono (by decide)) hgd rfl pass_0 (pma_cons (pm_var 0) (pma_cons pm_int pma_nil))) pma_nil)) (pg_nm 3 nd) (ss_cons (sm_par 4 5 rfl nd (pma_cons (pm_callK C__law_take (hr.mono (by decide)) hgd rfl pass_0 (pma_cons (pm_var 0) (pma_cons (pm_cbK (call_lenA K) (cd_lenA (K := K)) (by rfl) T.m_len PySem.boot_len (pma_cons (pm_var 2) pma_nil)) pma_nil))) (pma_cons (pm_cbK (call_lenA K) (cd_lenA (K := K)) (by rfl) T.m_len PySem.boot_len (pma_cons (pm_var 2) pma_nil)) pma_nil)))
      (ss_cons (sm_tgt (pg_tpK K rfl (gs_cons (pg_nm 6 nd) (gs_cons (pg_nm 7 nd) (gs_cons (pg_nm 8 nd) gs_nil)))) (pm_idxA K hr.units (pm_var 2) (pm_var 4) (fun _ _ => rfl)))
      (ss_cons (sm_asg 9 nd (pm_callK C__law_take (hr.mono (by decide)) hgd rfl pass_0 (pma_cons (pm_var 0) (pma_cons pm_int pma_nil))))
      (ss_cons (sm_if (pt_cmpK (op_eqA K hr.units) (od_eqA (K := K)) (pm_var 9) pm_int (nomark _)) (ss_one (sm_asg 6 nd (pm_callK C__law_take (hr.mono (by decide)) hgd rfl pass_0 (pma_cons (pm_var 0) (pma_cons (pm_var 5) pma_nil))))) ss_nil)
      (ss_cons (sm_if (pt_cmpK (op_eqA K hr.units) (od_eqA (K := K)) (pm_var 9) pm_int (nomark _)) (ss_one (sm_asg 7 nd (pm_idxA K hr.units (pm_lst (pma_cons pm_non (pma_cons (pm_callK C__law_take (hr.mono (by decide)) hgd rfl pass_0 (pma_cons (pm_var 0) (pma_cons (pm_var 5) pma_nil))) pma_nil))) (pm_callK C__law_take (hr.mono (by decide)) hgd rfl pass_0 (pma_cons (pm_var 0) (pma_cons pm_int pma_nil))) (fun _ _ => rfl)))) ss_nil)
      (ss_cons (sm_if (pt_cmpK (op_eqA K hr.units) (od_eqA (K := K)) (pm_var 9) pm_int (nomark _)) (ss_one (sm_asg 8 nd (pm_not (pm_var 8)))) ss_nil)
      (ss_cons (sm_set (pm_var 2) (pm_var 4) (pm_tup (pma_cons (pm_var 6) (pma_cons (pm_var 7) (pma_cons (pm_var 8) pma_nil)))))
      (ss_one (sm_if (PMW.t (w_and (pt_cmpK (op_eqA K hr.units) (od_eqA (K := K)) (pm_var 9) pm_int (nomark _)) (w_and1 (pt_cmpK op_lt (od_lt (K := K)) (pm_var 5) pm_int (nomark _))))) (ss_cons (sm_expr (pm_bmK K PySem.F.plainAttrs_list PySem.F.slot_list_append PySem.F.type_list_append mt_append td_list md_append (pm_var 2) (pma_cons (pm_idxA K hr.units (pm_var 2) (pm_var 4) (fun _ _ => rfl)) pma_nil)))
      (ss_one (sm_set (pm_var 2) (pm_callK C__law_take (hr.mono (by decide)) hgd rfl pass_0 (pma_cons (pm_var 0) (pma_cons (pm_var 5) pma_nil))) (pm_addK K (pm_tup (pma_cons (pm_var 5) pma_nil)) (pm_slK K (pm_idxA K hr.units (pm_var 2) (pm_callK C__law_take (hr.mono (by decide)) hgd rfl pass_0 (pma_cons (pm_var 0) (pma_cons (pm_var 5) pma_nil))) (fun _ _ => rfl)) (mo_some pm_int) mo_none))))) ss_nil))))))))))
      (ss_one (sm_ret (pm_var 2)))))
set_option maxHeartbeats 4000000 in
theorem ok__law_ways_to {f : Addr} {fd : FuncData} (F : Fun K "_law_ways_to" "_law_ways_to" s__law_ways_to f fd) (hm : mg "_law_ways_to" = some (.ref f)) (T : Tx P w K mg c_TOUCHES c_Counter c_CountError c_NoMark i_NoMark) (C__law_led : FnD P w K mg base CX0 1 "_law_led" 3 F__law_led) : FnD P w K mg base CX0 2 "_law_ways_to" 1 F__law_ways_to := by
  refine fn_ok F sc__law_ways_to hm rfl rfl (fun _ _ _ _ _ _ us hl => match us, hl with | [_], _ => rfl) fun cdv A out s H E hr hgd => ?_
  have nd := (sc__law_ways_to).nd
  unfold g__law_ways_to b__law_ways_to_3 b__law_ways_to_2 b__law_ways_to_1
  exact Exists.intro _ (ss_cons (sm_par2 1 2 rfl nd (pm_disK (pp_cons pm_int (pm_lst pma_nil) pp_nil)) (pm_lst (pma_cons pm_int pma_nil)))
      (ss_frz 2 (ss_cons (sm_while 100000 [true, true, true, false, false, false, false] PassesOwn.never (pt_cmpK (op_neK K hr.units) (od_ne (K := K)) (pm_var 2) (pm_lst pma_nil) (nomark _)) (ss_cons (sm_new 3 nd (pm_lst pma_nil))
      (ss_cons (sm_for [true, true, true, true, false, false, false] PassesOwn.never rfl (mi_seqK K (pm_var 2)) (pg_nm 4 nd) (ss_one (sm_for [true, true, true, true, true, false, false] PassesOwn.never rfl (mi_seqK K (pm_tup (pma_cons pm_str (pma_cons pm_str pma_nil)))) (pg_nm 5 nd) (ss_cons (sm_asg 6 nd (pm_callK C__law_led (hr.mono (by decide)) hgd rfl pass_0 (pma_cons (pm_var 0) (pma_cons (pm_var 4) (pma_cons (pm_lst (pma_cons (pm_var 5) pma_nil)) pma_nil)))))
      (ss_one (sm_if (PMW.t (w_and (pt_notN (pm_var 6)) (w_and1 (pt_cmpK (op_ninA K hr.units) (od_inA (K := K) true) (pm_var 6) (pm_var 1) (by rfl))))) (ss_cons (sm_dpt hr.units (pm_var 1) (pm_var 6) (pm_addK K (pm_idxA K hr.units (pm_var 1) (pm_var 4) (fun _ _ => rfl)) (pm_lst (pma_cons (pm_var 5) pma_nil))))
      (ss_one (sm_expr (pm_bmK K PySem.F.plainAttrs_list PySem.F.slot_list_append PySem.F.type_list_append mt_append td_list md_append (pm_var 3) (pma_cons (pm_var 6) pma_nil))))) ss_nil))))))
      (ss_frz 3 (ss_one (sm_asg 2 nd (pm_var 3)))))))
      (ss_one (sm_ret (pm_var 1))))))
set_option maxHeartbeats 4000000 in
theorem ok_reached_marks {f : Addr} {fd : FuncData} (F : Fun K "reached_marks" "reached_marks" s_reached_marks f fd) (hm : mg "reached_marks" = some (.ref f)) (T : Tx P w K mg c_TOUCHES c_Counter c_CountError c_NoMark i_NoMark) (C_ways_from : FnD P w K mg base CX0 6 "ways_from" 1 F_ways_from) : FnD P w K mg base CX0 7 "reached_marks" 1 F_reached_marks := by
  refine fn_ok F sc_reached_marks hm rfl rfl (fun _ _ _ _ _ _ us hl => match us, hl with | [_], _ => rfl) fun cdv A out s H E hr hgd => ?_
  have nd := (sc_reached_marks).nd
  unfold g_reached_marks
  exact Exists.intro _ (ss_one (sm_ret (pm_cbK (cr_sortA K rfl) (cd_sortA (K := K)) (by rfl) T.m_sorted (by decide +kernel) (pma_cons (pm_lk (pm_callK C_ways_from (hr.mono (by decide)) hgd rfl pass_0 (pma_cons (pm_var 0) pma_nil))) pma_nil))))
set_option maxHeartbeats 4000000 in
theorem ok_law {f : Addr} {fd : FuncData} (F : Fun K "law" "law" s_law f fd) (T : Tx P w K mg c_TOUCHES c_Counter c_CountError c_NoMark i_NoMark) (C_Counter___init__ : MakD P w K mg base CX0 5 "Counter" 2 F_Counter___init__) (C__law_alike : FnD P w K mg base CX0 1 "_law_alike" 2 F__law_alike) (C__law_bag : FnD P w K mg base CX0 1 "_law_bag" 1 F__law_bag) (C__law_counter : FnD P w K mg base CX0 2 "_law_counter" 1 F__law_counter) (C__law_heard : FnD P w K mg base CX0 8 "_law_heard" 3 F__law_heard) (C__law_led : FnD P w K mg base CX0 1 "_law_led" 3 F__law_led) (C__law_mixed : FnD P w K mg base CX0 2 "_law_mixed" 2 F__law_mixed) (C__law_near_counter : FnD P w K mg base CX0 2 "_law_near_counter" 2 F__law_near_counter) (C__law_take : FnD P w K mg base CX0 1 "_law_take" 2 F__law_take) (C__law_ways_to : FnD P w K mg base CX0 2 "_law_ways_to" 1 F__law_ways_to) (C_led : FnD P w K mg base (L2.CX P w) 6 "led" 3 F_led) (C_reached_marks : FnD P w K mg base CX0 7 "reached_marks" 1 F_reached_marks) (C_touches_to : FnD P w K mg base (L2.CX P w) 7 "touches_to" 2 F_touches_to) : FnG P w K mg base CX0 9 f fd ["_law_script"] (spF K 1 F_law) := by
  refine fn_ok0B F sc_law rfl rfl fun cdv A out s H E hr hgd => ?_
  have nd := (sc_law).nd
  unfold g_law b_law_6 b_law_5 b_law_4 b_law_3 b_law_2 b_law_1
  exact Exists.intro _ (ss_cons (sm_new 1 nd (pm_callK C__law_bag (hr.mono (by decide)) hgd rfl pass_0 (pma_cons (pm_var 0) pma_nil)))
      (ss_cons (sm_for [true, true, false, false, false, false, false, false, false, false, false, false, false, false, false, false, false] PassesOwn.never rfl (mi_rng1 rfl T.m_range (pma_cons pm_int pma_nil)) (pg_nm 2 nd) (ss_cons (sm_asg 3 nd (pm_callK C__law_near_counter (hr.mono (by decide)) hgd rfl pass_0 (pma_cons (pm_var 1) (pma_cons (pm_callK C__law_counter (hr.mono (by decide)) hgd rfl pass_0 (pma_cons (pm_var 1) pma_nil)) pma_nil))))
      (ss_cons (sm_tgt (pg_tpK K rfl (gs_cons (pg_nm 4 nd) (gs_cons (pg_nm 5 nd) gs_nil))) (pm_tup (pma_cons (pm_make C_Counter___init__ (hr.mono (by decide)) hgd rfl pass_0 (pma_cons (pm_var 3) pma_nil)) (pma_cons (pm_lk (pm_callK C__law_ways_to (hr.mono (by decide)) hgd rfl pass_0 (pma_cons (pm_var 3) pma_nil))) pma_nil))))
      (ss_cons (sm_for [true, true, true, true, true, true, false, false, false, false, false, false, false, false, false, false, false] PassesOwn.never rfl (mi_rng1 rfl T.m_range (pma_cons pm_int pma_nil)) (pg_nm 6 nd) (ss_one (sm_for [true, true, true, true, true, true, true, false, false, false, false, false, false, false, false, false, false] PassesOwn.never rfl (mi_seqK K (pm_callK C__law_mixed (hr.mono (by decide)) hgd rfl pass_0 (pma_cons (pm_var 1) (pma_cons (pm_lst (pma_cons pm_int (pma_cons pm_int pma_nil))) pma_nil)))) (pg_nm 7 nd) (ss_cons (sm_new 8 nd (pm_callK C_reached_marks (hr.mono (by decide)) hgd rfl pass_0 (pma_cons (pm_var 4) pma_nil)))
      (ss_cons (sm_if (PMW.t (w_and (pt_cmpK (op_eqA K hr.units) (od_eqA (K := K)) (pm_var 7) pm_int (nomark _)) (w_and1 (pt_no (pt_of (pm_callK C__law_alike (hr.mono (by decide)) hgd rfl pass_0 (pma_cons (pm_var 8) (pma_cons (pm_cbK (cr_sortA K rfl) (cd_sortA (K := K)) (by rfl) T.m_sorted (by decide +kernel) (pma_cons (pm_var 5) pma_nil)) pma_nil)))))))) (ss_one (sm_ret pm_bl)) ss_nil)
      (ss_cons (sm_expr (pm_bmK K PySem.F.plainAttrs_list PySem.F.slot_list_append PySem.F.type_list_append mt_append td_list md_append (pm_var 8) (pma_cons pm_non pma_nil)))
      (ss_one (sm_for [true, true, true, true, true, true, true, true, true, false, false, false, false, false, false, false, false] PassesOwn.never rfl (mi_seqK K (pm_callK C__law_mixed (hr.mono (by decide)) hgd rfl pass_0 (pma_cons (pm_var 1) (pma_cons (pm_mulX (pm_listRng rfl rfl T.m_list rfl T.m_range (pm_cbK (call_lenA K) (cd_lenA (K := K)) (by rfl) T.m_len PySem.boot_len (pma_cons (pm_var 3) pma_nil))) (pm_var 7)) pma_nil)))) (pg_nm 9 nd) (ss_cons (sm_new 10 nd (pm_callT C_touches_to (hr.mono (by decide)) hgd rfl passWF (pma_cons (pm_var 4) (pma_cons (pm_var 9) pma_nil))))
      (ss_cons (sm_if (pt_no (pt_of (pm_callK C__law_alike (hr.mono (by decide)) hgd rfl pass_0 (pma_cons (pm_var 10) (pma_cons (pm_dg1 hr.units (pm_var 5) (pm_var 9)) pma_nil))))) (ss_one (sm_ret pm_bl)) ss_nil)
      (ss_one (sm_if (pt_notN (pm_var 10)) (ss_one (sm_expr (pm_bmK K PySem.F.plainAttrs_list PySem.F.slot_list_append PySem.F.type_list_append mt_append td_list md_append (pm_var 10) (pma_cons pm_str pma_nil)))) ss_nil))))))))))))
      (ss_cons (sm_for [true, true, true, true, true, true, false, false, false, false, false, false, false, false, false, false, false] PassesOwn.never rfl (mi_rng1 rfl T.m_range (pma_cons pm_int pma_nil)) (pg_nm 11 nd) (ss_cons (sm_asg 9 nd (pm_callK C__law_take (hr.mono (by decide)) hgd rfl pass_0 (pma_cons (pm_var 1) (pma_cons (pm_cbK (call_lenA K) (cd_lenA (K := K)) (by rfl) T.m_len PySem.boot_len (pma_cons (pm_var 3) pma_nil)) pma_nil))))
      (ss_cons (sm_lc false (own := [("_law_j", 16)]) (j := 12) rfl nd rfl rfl (sw_true rfl rfl rfl (by decide +kernel)) (mi_rng1 rfl T.m_range (pma_cons (pm_callK C__law_take (hr.mono (by decide)) hgd rfl pass_0 (pma_cons (pm_var 1) (pma_cons pm_int pma_nil))) pma_nil)) (blkOk_by (N := N_law) (sc := defScope s_law) (by decide +kernel)) (fun _ _ _ _ _ => (pg_nm 16 nd)) (by decide) (fun _ _ _ _ _ => ts_nil) (fun _ _ _ _ _ => (pm_idxA K hr.units (pm_lst (pma_cons pm_str (pma_cons pm_str pma_nil))) (pm_callK C__law_take (hr.mono (by decide)) hgd rfl pass_0 (pma_cons (pm_var 1) (pma_cons pm_int pma_nil))) (fun _ _ => rfl))))
      (ss_cons (sm_asg 13 nd (pm_cbK (cr_reprA K hr hgd) (cd_reprA (K := K)) (by rfl) T.m_repr (by decide +kernel) (pma_cons (pm_var 12) pma_nil)))
      (ss_cons (sm_asg 14 nd (pm_callK C__law_led (hr.mono (by decide)) hgd rfl pass_0 (pma_cons (pm_var 3) (pma_cons (pm_var 9) (pma_cons (pm_var 12) pma_nil)))))
      (ss_one (sm_if (PMW.t (w_or (pt_no (pt_of (pm_callK C__law_alike (hr.mono (by decide)) hgd rfl pass_0 (pma_cons (pm_callK C_led (hr.mono (by decide)) hgd rfl passWF (pma_cons (pm_var 4) (pma_cons (pm_var 9) (pma_cons (pm_var 12) pma_nil)))) (pma_cons (pm_var 14) pma_nil))))) (w_or1 (pt_cmpK (op_neK K hr.units) (od_ne (K := K)) (pm_cbK (cr_reprA K hr hgd) (cd_reprA (K := K)) (by rfl) T.m_repr (by decide +kernel) (pma_cons (pm_var 12) pma_nil)) (pm_var 13) (nomark _))))) (ss_one (sm_ret pm_bl)) ss_nil)))))))
      (ss_one (sm_for [true, true, true, true, true, true, false, false, false, false, false, false, false, false, false, false, false] PassesOwn.never rfl (mi_seqK K (pm_tup (pma_cons (pm_neg pm_int) (pma_cons (pm_cbK (call_lenA K) (cd_lenA (K := K)) (by rfl) T.m_len PySem.boot_len (pma_cons (pm_var 3) pma_nil)) (pma_cons pm_bl (pma_cons pm_non (pma_cons pm_str (pma_cons (pm_lst pma_nil) (pma_cons (pm_lk pm_dnew) (pma_cons (pm_tup (pma_cons pm_int pma_nil)) pma_nil)))))))))) (pg_nm 15 nd) (ss_one (sm_if (pt_cmpK (op_neK K hr.units) (od_ne (K := K)) (pm_lc (own := [("_law_way", 7)]) rfl nd (mi_seqK K (pm_tup (pma_cons pm_int (pma_cons pm_int (pma_cons pm_int pma_nil))))) (blkOk_by (N := N_law) (sc := defScope s_law) (by decide +kernel)) (fun _ _ _ _ _ => (pg_nm 7 nd)) (by decide) (fun _ _ _ _ _ => (ts_one (pt_no (pt_of (pm_callK C__law_alike (hr.mono (by decide)) hgd rfl pass_0 (pma_cons (pm_callK C__law_heard (hr.mono (by decide)) hgd rfl pass_0 (pma_cons (pm_var 7) (pma_cons (pm_var 4) (pma_cons (pm_var 15) pma_nil)))) (pma_cons (pm_tup (pma_cons pm_str (pma_cons (pm_var 15) pma_nil))) pma_nil))))))) (fun _ _ _ _ _ => (pm_var 7))) (pm_lst pma_nil) (nomark _)) (ss_one (sm_ret pm_bl)) ss_nil)))))))))
      (ss_one (sm_ret pm_bl))))
end
end
end K33
/-! rules for dicts on places, sorted, list(range), calls that give new lists -/
namespace DL
open PySem PySem.Spec PyProof.Rows L2 DR
section
variable {QR : R → Mem → Prop} {E : Xc → Mem → Prop} {μ ν : Mem} {δ : Env} {N n : Nat} {P : PO} {d : D} {x y : DV} {k : Key} {kvs : List (Ky × DV)} {ds : List D}
theorem dL_in {neg : Bool} (hn : μ[n]? = some (.dct kvs)) (hy : keyD y = some k) (hk : allK kvs = true) (h : QR (.dat (.bl ((dval kvs (.k k)).isSome != neg))) μ) : Sat (dInA neg y (.loc n) μ) QR E := by
  have e0 : dIn neg y (.loc n) μ = .bad := by
    unfold dIn
    cases flat y with
    | none => rfl
    | some u => simp [asS, asL, hn, asT]
  refine sat_altR e0 (sat_alt ?_)
  unfold dInD
  have e1 : dctOf (.loc n) μ = some kvs := by simp [dctOf, hn]
  rw [e1, hy]
  simp only [hk, if_true]
  exact h
theorem dL_get {v : DV} (hn : μ[n]? = some (.dct kvs)) (hy : keyD y = some k) (hk : allK kvs = true) (hv : dval kvs (.k k) = some v) (h : QR (ofV v) μ) : Sat (dIxA (.loc n) y μ) QR E := by
  have e0 : dIx (.loc n) y μ = .bad := by
    unfold dIx
    cases asI y with
    | none => rfl
    | some u => simp [asS, asL, hn, asT, asStr]
  refine sat_altR e0 ?_
  unfold dGet
  have e1 : dctOf (.loc n) μ = some kvs := by simp [dctOf, hn]
  rw [e1, hy]
  simp only [hk, if_true, hv]
  exact h
theorem s_dput {fo fi fe : EM} (h : Sat (frzV fe δ μ) (fun y μ1 => Sat (frzV fo δ μ1) (fun x μ2 => Sat (frzV fi δ μ2) (fun i μ3 => ∃ μ4, setDct μ3 x i y = some μ4 ∧ P.nx δ μ4) (fun x μ => P.ex x δ μ)) (fun x μ => P.ex x δ μ)) (fun x μ => P.ex x δ μ)) : SatS (gDPut fo fi fe N δ μ) P := by
  refine sat_lift (sat_bind (h.mono (fun y μ1 q => sat_bind (q.mono (fun x μ2 q => sat_bind (q.mono (fun i μ3 q => ?_) fun _ _ q => q)) fun _ _ q => q)) fun _ _ q => q))
  obtain ⟨μ4, e, q⟩ := q; rw [e]; exact q
theorem set_dct (hn : μ[n]? = some (.dct kvs)) (hy : keyD y = some k) (hk : allK kvs = true) (hl : kvs.length < sizeLine) (hb : belowB n x = true) : setDct μ (.loc n) y x = some (μ.set n (.dct (dput kvs (.k k) x))) := by
  unfold setDct; simp only [hn, hy]; rw [if_pos ⟨hk, hl, hb⟩]
theorem x_dget1 {fd fy : EM} (h : Sat (frzV fd δ μ) (fun x μ1 => isDct x μ1 = true ∧ Sat (frzV fy δ μ1) (fun y μ2 => Sat (dGet1 x y μ2) QR E) E) E) : Sat (eDGet1 fd fy δ μ) QR E := by
  unfold eDGet1
  refine sat_bind (h.mono (fun x m ⟨e, q⟩ => ?_) fun _ _ q => q)
  rw [if_pos e]
  exact sat_bind q
theorem isDct_dat {ds : List (Ky × D)} : isDct (.dat (.dct ds)) μ = true := rfl
theorem l_get1 {ds : List (Ky × D)} (hy : keyD y = some k) (hk : allKD ds = true) (h : QR (.dat ((dval ds (.k k)).getD .non)) μ) : Sat (dGet1 (.dat (.dct ds)) y μ) QR E := by
  unfold dGet1
  have e1 : dctOf (.dat (.dct ds)) μ = some (datP ds) := rfl
  rw [e1, hy]
  have e2 : allK (datP ds) = true := by unfold allKD at hk; unfold allK datP; rw [List.all_map]; exact hk
  have e3 : dval (datP ds) (.k k) = (dval ds (.k k)).map DV.dat := by
    unfold dval datP
    rw [List.find?_map]
    cases e : ds.find? fun p => decide (p.1 = .k k) <;> simp [Function.comp_def, e]
  simp only [e2, if_true, e3]
  cases e : dval ds (.k k) with
  | none => rw [e] at h; exact h
  | some z => rw [e] at h; exact h
def ThawK (args : List D) (r : R) (Q : R → Prop) : Prop := match r with
  | .dat (.lst ds) => ((lnodesL args).all (apart ds) = true ∧ (lnodesL ds).isEmpty = true) ∧ Q (.nl (ds.map DV.dat))
  | .dat .non => Q (.dat .non)
  | .dat (.bl b) => Q (.dat (.bl b))
  | .dat (.int b) => Q (.dat (.int b))
  | .dat (.str b) => Q (.dat (.str b))
  | _ => False
theorem x_cbT {F : List DV → Mem → Res R} {fa : AM} (h : Sat (fa δ μ) (fun xs μ1 => ∃ ds, allDat xs = some ds ∧ Sat (F xs []) (fun r _ => ThawK ds r fun r' => QR r' μ1) (fun x _ => x.fs.all (fun p => (lnodes p.2).isEmpty) = true ∧ E x μ1)) E) : Sat (eCBT F fa δ μ) QR E := by
  unfold eCBT
  refine sat_bind (h.mono (fun xs m ⟨ds, e, q⟩ => ?_) fun _ _ q => q)
  rw [e]
  simp only
  cases e2 : F xs [] with
  | bad => rw [e2] at q; exact q.elim
  | exc x m' =>
    rw [e2] at q
    have q : _ ∧ _ := q
    simp only [thaw]
    rw [if_pos q.1]; exact q.2
  | ok r m' =>
    rw [e2] at q
    have q : ThawK ds r fun r' => QR r' m := q
    unfold ThawK at q
    split at q
    · simp only [thaw]; rw [if_pos q.1]; exact q.2
    · exact q
    · exact q
    · exact q
    · exact q
    · exact q.elim
theorem x_listRng {f : EM} (h : Sat (frzV f δ μ) (fun x μ' => IntK x fun n => (0 ≤ n ∧ n ≤ 1000000) ∧ QR (.nl ((List.range n.toNat).map fun i => .dat (.int (i : Nat)))) μ') E) : Sat (eListRng f δ μ) QR E := by
  unfold eListRng
  refine sat_bind (h.mono (fun x m ⟨i, e, q⟩ => ?_) fun _ _ q => q)
  rw [e]; simp only; rw [if_pos q.1]; exact q.2
theorem asL_dct (h : (dctOf x μ).isSome = true) : asL μ x = none := by
  cases x with
  | dat d => cases d <;> first | rfl | cases h
  | loc n =>
    unfold dctOf at h
    unfold asL
    simp only at h ⊢
    split at h
    · rename_i e; rw [e]
    · cases h
theorem l_sortKI {ns : List Int} (e : (dctOf x μ).bind (fun kvs => kysI (kvs.map (·.1))) = some ns) (hl : ns.length < 64) (h : QR (.nl (dInts (sortI ns))) μ) : Sat (dSortA [x] μ) QR E := by
  have e0 : asL μ x = none := asL_dct (by obtain ⟨a, b, _⟩ := Option.bind_eq_some_iff.mp e; rw [b]; rfl)
  have e1 : d1 dSortI [x] μ = .bad := by show dSortI x μ = _; unfold dSortI; rw [e0]; rfl
  have e2 : d1 dSortT [x] μ = .bad := by show dSortT x μ = _; unfold dSortT; rw [e0]; rfl
  refine sat_altR e1 (sat_altR e2 (sat_alt ?_))
  show Sat (dSortKI x μ) QR E
  unfold dSortKI
  rw [e]; simp only; rw [if_pos hl]; exact h
theorem l_sortI {ns : List Int} (e : (asL μ x).bind allI = some ns) (h : QR (.nl (dInts (sortI ns))) μ) : Sat (dSortA [x] μ) QR E := by
  refine sat_alt ?_
  show Sat (dSortI x μ) QR E
  unfold dSortI
  rw [e]; exact h
theorem ne_nilP {k w : Nat} (hk : k < 64) (e : μ[n]? = some (.lst (ds.map DV.dat))) (hd : ∀ d ∈ ds, ∃ p, toPy d = some p ∧ Fit k w p) (h : QR (.dat (.bl (!ds.isEmpty))) μ) : Sat (dNe (.loc n) (.dat (.lst [])) μ) QR E := by
  rw [ne_nil hk e hd]; exact h
theorem e_locD {μ' : Mem} (e : μ'.take N = μ) (hn : N ≤ n) (hx : μ'[n]? = some (.dct kvs)) (hb : belowA N (kvs.map (·.2)) = true) (h : QR (.nk kvs) μ) : (endP N QR E).rt (.loc n) μ' := by
  show Sat (closeR N (.loc n) μ') QR E
  unfold closeR; simp only; rw [if_neg (by omega), hx]; simp only; rw [if_pos hb, e]; exact h
theorem e_locN {xs : List DV} {μ' : Mem} (e : μ'.take N = μ) (hn : N ≤ n) (hx : μ'[n]? = some (.lst xs)) (hb : belowA N xs = true) (h : QR (.nl xs) μ) : (endP N QR E).rt (.loc n) μ' := k_locN (E := E) e hn hx hb h
end
end DL
/-! counters: marks, touches -/
namespace DL
open PySem PySem.Spec PyProof.Rows L2
/-- a mark: more, less, copies -/
structure Mk where
  a : Int
  l : Option Int
  c : Bool
abbrev optD : Option Int → D
  | none => .non
  | some i => .int i
abbrev markD (m : Mk) : D := .tup [.int m.a, optD m.l, .bl m.c]
abbrev ctrD (ms : List Mk) : D := .ins "Counter" [("its_marks", .lst (ms.map markD))]
def MkOk (n : Int) (m : Mk) : Prop := (0 ≤ m.a ∧ m.a < n) ∧ ∀ i, m.l = some i → 0 ≤ i ∧ i < n
structure MsOk (ms : List Mk) : Prop where
  h1 : 1 ≤ ms.length
  h6 : ms.length ≤ 6
  ok : ∀ m ∈ ms, MkOk ms.length m
/-- a touch: true is more -/
abbrev tD (b : Bool) : D := .str (if b = true then "more" else "less")
def stepM (m : Mk) (b : Bool) : Option Int := if b = true then some m.a else m.l
def stepO (ms : List Mk) (o : Option Int) (b : Bool) : Option Int := match o with
  | none => none
  | some i => match ms[i.toNat]? with
    | some m => stepM m b
    | none => none
def ledG (ms : List Mk) (o : Option Int) (ts : List Bool) : Option Int := ts.foldl (stepO ms) o
def InR (n : Nat) (o : Option Int) : Prop := ∀ i, o = some i → 0 ≤ i ∧ i < n
variable {ms : List Mk} {n k : Nat} {b : Bool}
theorem step_in (hms : MsOk ms) {o : Option Int} (h : InR ms.length o) : InR ms.length (stepO ms o b) := by
  intro i e
  cases o with
  | none => cases e
  | some j =>
    obtain ⟨h1, h2⟩ := h j rfl
    simp only [stepO] at e
    have hl : j.toNat < ms.length := by omega
    rw [List.getElem?_eq_getElem hl] at e
    have ok := hms.ok _ (List.getElem_mem hl)
    simp only [stepM] at e
    by_cases hb : b = true
    · rw [if_pos hb] at e; cases e; exact ok.1
    · rw [if_neg hb] at e; exact ok.2 i e
theorem ledG_in (hms : MsOk ms) : ∀ (ts : List Bool) (o : Option Int), InR ms.length o → InR ms.length (ledG ms o ts)
  | [], o, h => h
  | t :: ts, o, h => ledG_in hms ts _ (step_in hms h)
theorem ledG_snoc (ms : List Mk) (o : Option Int) (ts : List Bool) (t : Bool) : ledG ms o (ts ++ [t]) = stepO ms (ledG ms o ts) t := by unfold ledG; rw [List.foldl_append]; rfl
theorem ledG_none (ms : List Mk) : ∀ ts : List Bool, ledG ms none ts = none
  | [] => rfl
  | t :: ts => ledG_none ms ts
theorem sz_lit' {n : Nat} (h : n ≤ 1000) : n ≤ sizeLine := Nat.le_trans h (by decide)
theorem fit_opt {o : Option Int} (h : ∀ i, o = some i → i.natAbs < 10 ^ 12) : FitD 0 40 (optD o) := by
  cases o with
  | none => exact fd_non
  | some i => exact fd_int (h i rfl) (by decide)
theorem fit_mark {m : Mk} (h : MkOk n m) (hn : n ≤ 6) : FitD 1 123 (markD m) := by
  obtain ⟨⟨h1, h2⟩, h3⟩ := h
  refine fd_tup (k := 0) (w := 40) (n := 3) (fun d hd => ?_) (by simp)
  simp only [List.mem_cons, List.not_mem_nil, or_false] at hd
  rcases hd with rfl | rfl | rfl
  · exact fd_int (by omega) (by decide)
  · exact fit_opt fun i hi => by have := h3 i hi; omega
  · exact fd_bl
theorem fit_marks (h : MsOk ms) : FitD 2 744 (.lst (ms.map markD)) := by
  refine fd_lst (k := 1) (w := 123) (n := 6) (fun d hd => ?_) (by simpa using h.h6)
  obtain ⟨m, hm, rfl⟩ := List.mem_map.mp hd
  exact fit_mark (h.ok m hm) h.h6
/-- the marks of the law's own counter that sticks -/
def lawL (n : Nat) : List Mk := if 1 < n then ⟨1, none, false⟩ :: ((List.range (n - 2)).map fun i => ⟨1 + (i : Int) + 1, some (1 + (i : Int) - 1), true⟩) ++ [⟨(n : Int) - 1, some ((n : Int) - 1), true⟩] else [⟨0, some 0, true⟩]
theorem lawL_len (h : 1 ≤ n) : (lawL n).length = n := by
  unfold lawL
  by_cases c : 1 < n
  · rw [if_pos c]; simp; omega
  · rw [if_neg c]; simp; omega
theorem lawL_ok (h1 : 1 ≤ n) (h6 : n ≤ 6) : MsOk (lawL n) := by
  refine ⟨by rw [lawL_len h1]; exact h1, by rw [lawL_len h1]; exact h6, fun m hm => ?_⟩
  rw [lawL_len h1]
  unfold lawL at hm
  by_cases c : 1 < n
  · rw [if_pos c] at hm
    simp only [List.mem_append, List.mem_cons, List.mem_map, List.mem_range, List.not_mem_nil, or_false] at hm
    rcases hm with (rfl | ⟨i, hi, rfl⟩) | rfl
    · exact ⟨by simp; omega, fun i e => by cases e⟩
    · exact ⟨by simp; omega, fun j e => by simp at e; omega⟩
    · exact ⟨by simp; omega, fun j e => by simp at e; omega⟩
  · rw [if_neg c] at hm
    simp at hm; subst hm
    exact ⟨by simp; omega, fun j e => by simp at e; omega⟩
/-! ### the search -/
abbrev Ws := List (Int × List Bool)
def wget (W : Ws) (k : Int) : Option (List Bool) := (W.find? fun p => decide (p.1 = k)).map (·.2)
def wsV (W : Ws) : List (Ky × DV) := W.map fun p => (.k (.inl p.1), .dat (.lst (p.2.map tD)))
def wsD (W : Ws) : List (Ky × D) := W.map fun p => (.k (.inl p.1), .lst (p.2.map tD))
theorem wsV_all (W : Ws) : allK (wsV W) = true := by unfold allK wsV; rw [List.all_map]; simp [Ky.isK]
theorem wsD_all (W : Ws) : allKD (wsD W) = true := by unfold allKD wsD; rw [List.all_map]; simp [Ky.isK]
theorem wsV_val (W : Ws) (k : Int) : dval (wsV W) (.k (.inl k)) = (wget W k).map fun t => .dat (.lst (t.map tD)) := by
  unfold dval wget wsV
  rw [List.find?_map]
  have : ((fun p : Ky × DV => decide (p.1 = Ky.k (Sum.inl k))) ∘ fun p : Int × List Bool => (Ky.k (Sum.inl p.1), DV.dat (D.lst (p.2.map tD)))) = fun p : Int × List Bool => decide (p.1 = k) := by
    funext p; simp
  rw [this, Option.map_map, Option.map_map]; rfl
theorem wsD_val (W : Ws) (k : Int) : dval (wsD W) (.k (.inl k)) = (wget W k).map fun t => .lst (t.map tD) := by
  unfold dval wget wsD
  rw [List.find?_map]
  have : ((fun p : Ky × D => decide (p.1 = Ky.k (Sum.inl k))) ∘ fun p : Int × List Bool => (Ky.k (Sum.inl p.1), D.lst (p.2.map tD))) = fun p : Int × List Bool => decide (p.1 = k) := by
    funext p; simp
  rw [this, Option.map_map, Option.map_map]; rfl
theorem wget_none {W : Ws} {k : Int} : wget W k = none ↔ ∀ p ∈ W, p.1 ≠ k := by
  unfold wget; rw [Option.map_eq_none_iff, List.find?_eq_none]; simp
theorem wsV_put {W : Ws} {k : Int} (t : List Bool) (h : wget W k = none) : dput (wsV W) (.k (.inl k)) (.dat (.lst (t.map tD))) = wsV (W ++ [(k, t)]) := by
  have h := wget_none.mp h
  unfold dput
  rw [if_neg]
  · unfold wsV; rw [List.map_append]; rfl
  · unfold wsV; rw [List.any_map]; rw [List.any_eq_true]; rintro ⟨p, hp, e⟩; exact h p hp (by simpa using e)
theorem wsV_dat (W : Ws) : allDatK (wsV W) = some (wsD W) := by
  induction W with
  | nil => rfl
  | cons p W ih =>
    have e : wsV (p :: W) = (.k (.inl p.1), .dat (.lst (p.2.map tD))) :: wsV W := rfl
    rw [e]; unfold allDatK; rw [ih]; rfl
theorem wsD_keys (W : Ws) : (dctOf (.dat (.dct (wsD W))) ([] : Mem)).bind (fun kvs => kysI (kvs.map (·.1))) = some (W.map (·.1)) := by
  show kysI ((datP (wsD W)).map (·.1)) = _
  rw [datP_1]
  induction W with
  | nil => rfl
  | cons p W ih => 
    have e : kysI ((wsD (p :: W)).map (·.1)) = (kysI ((wsD W).map (·.1))).map (p.1 :: ·) := rfl
    rw [e, ih]; rfl
theorem wsV_below (N : Nat) (W : Ws) : belowA N ((wsV W).map (·.2)) = true := by
  unfold belowA; rw [List.all_eq_true]; intro x hx
  unfold wsV at hx
  rw [List.map_map] at hx
  obtain ⟨p, _, rfl⟩ := List.mem_map.mp hx; rfl
def stq (ms : List Mk) (x : Int) (b : Bool) (s : Ws × List Int) : Ws × List Int := match stepO ms (some x) b with
  | none => s
  | some y => if (wget s.1 y).isSome = true then s else (s.1 ++ [(y, (wget s.1 x).getD [] ++ [b])], s.2 ++ [y])
def proc (ms : List Mk) (x : Int) (s : Ws × List Int) : Ws × List Int := stq ms x true (stq ms x false s)
def stepS (ms : List Mk) (s : Ws × List Int) : Ws × List Int := match s.2 with
  | [] => s
  | x :: q => proc ms x (s.1, q)
def runS (ms : List Mk) : Nat → Ws × List Int
  | 0 => ([(0, [])], [0])
  | k + 1 => stepS ms (runS ms k)
def Fin (ms : List Mk) (W : Ws) : Prop := ∃ k, runS ms k = (W, [])
theorem run_stuck {W : Ws} {k : Nat} (h : runS ms k = (W, [])) : ∀ j, runS ms (k + j) = (W, [])
  | 0 => h
  | j + 1 => by show stepS ms (runS ms (k + j)) = _; rw [run_stuck h j]; rfl
theorem fin_one {W W' : Ws} (h : Fin ms W) (h' : Fin ms W') : W = W' := by
  obtain ⟨k, e⟩ := h
  obtain ⟨k', e'⟩ := h'
  have a := run_stuck e k'
  have b := run_stuck e' k
  rw [Nat.add_comm, a] at b
  exact (Prod.mk.inj b).1
structure Gd (ms : List Mk) (s : Ws × List Int) : Prop where
  nd : (s.1.map (·.1)).Nodup
  lt : ∀ p ∈ s.1, 0 ≤ p.1 ∧ p.1 < ms.length
  q : ∀ x ∈ s.2, x ∈ s.1.map (·.1)
  ln : ∀ p ∈ s.1, p.2.length + 1 ≤ s.1.length
  ne : 1 ≤ s.1.length
  z : (0, ([] : List Bool)) ∈ s.1
theorem nodup_le : ∀ (n : Nat) (l : List Int), l.Nodup → (∀ x ∈ l, 0 ≤ x ∧ x < (n : Int)) → l.length ≤ n
  | 0, [], _, _ => Nat.le_refl _
  | 0, x :: l, _, h => by have := h x List.mem_cons_self; omega
  | n + 1, l, nd, h => by
    have e : (l.filter fun x => decide (x ≠ (n : Int))).length ≤ n := nodup_le n _ (nd.filter _) fun x hx => by
      obtain ⟨h1, h2⟩ := List.mem_filter.mp hx
      have := h x h1
      have h2 : x ≠ n := by simpa using h2
      omega
    have e2 : l.length ≤ (l.filter fun x => decide (x ≠ (n : Int))).length + 1 := by
      clear h e
      induction l with
      | nil => simp
      | cons x l ih =>
        obtain ⟨n1, n2⟩ := List.nodup_cons.mp nd
        by_cases c : x = (n : Int)
        · subst c
          have : (l.filter fun x => decide (x ≠ (n : Int))) = l := List.filter_eq_self.mpr fun y hy => by
            have : y ≠ (n : Int) := fun z => n1 (z ▸ hy)
            simpa using this
          rw [List.filter_cons_of_neg (by simp), this]; simp
        · rw [List.filter_cons_of_pos (by simpa using c)]
          have := ih n2
          simp only [List.length_cons]; omega
    omega
theorem Gd.le {s : Ws × List Int} (g : Gd ms s) : s.1.length ≤ ms.length := by
  have := nodup_le ms.length (s.1.map (·.1)) g.nd fun x hx => by
    obtain ⟨p, hp, rfl⟩ := List.mem_map.mp hx
    exact g.lt p hp
  rwa [List.length_map] at this
theorem wget_mem {W : Ws} {k : Int} {t : List Bool} (h : wget W k = some t) : (k, t) ∈ W := by
  unfold wget at h
  obtain ⟨p, h1, h2⟩ := Option.map_eq_some_iff.mp h
  have a := List.mem_of_find?_eq_some h1
  have b := List.find?_some h1
  simp at b
  subst b; subst h2; exact a
theorem wget_some {W : Ws} {k : Int} (h : k ∈ W.map (·.1)) : ∃ t, wget W k = some t := by
  cases e : wget W k with
  | some t => exact ⟨t, rfl⟩
  | none =>
    obtain ⟨p, hp, hk⟩ := List.mem_map.mp h
    exact absurd hk (wget_none.mp e p hp)
theorem gd_init (hms : MsOk ms) : Gd ms (runS ms 0) := by
  refine ⟨by simp [runS], fun p hp => ?_, fun x hx => ?_, fun p hp => ?_, by simp [runS], by simp [runS]⟩
  · simp [runS] at hp; subst hp; have := hms.h1; simp; omega
  · simpa [runS] using hx
  · simp [runS] at hp; subst hp; simp [runS]
theorem gd_stq (hms : MsOk ms) {s : Ws × List Int} {x : Int} (hx : x ∈ s.1.map (·.1)) (g : Gd ms s) : Gd ms (stq ms x b s) ∧ x ∈ (stq ms x b s).1.map (·.1) ∧ 2 * (ms.length - (stq ms x b s).1.length) + (stq ms x b s).2.length ≤ 2 * (ms.length - s.1.length) + s.2.length := by
  unfold stq
  cases e : stepO ms (some x) b with
  | none => exact ⟨g, hx, Nat.le_refl _⟩
  | some y =>
    simp only
    by_cases c : (wget s.1 y).isSome = true
    · rw [if_pos c]; exact ⟨g, hx, Nat.le_refl _⟩
    rw [if_neg c]
    have hn : wget s.1 y = none := by cases q : wget s.1 y with
      | none => rfl
      | some t => rw [q] at c; exact absurd rfl c
    have hin : InR ms.length (some x) := fun i ei => by
      cases ei
      obtain ⟨p, hp, rfl⟩ := List.mem_map.mp hx
      exact g.lt p hp
    have hy := step_in (b := b) hms hin y e
    obtain ⟨t, ht⟩ := wget_some hx
    have g' : Gd ms (s.1 ++ [(y, (wget s.1 x).getD [] ++ [b])], s.2 ++ [y]) := by
      refine ⟨?_, fun p hp => ?_, fun z hz => ?_, fun p hp => ?_, by simp, by simp [g.z]⟩
      · simp only [List.map_append, List.map_cons, List.map_nil]
        refine List.nodup_append.mpr ⟨g.nd, by simp, fun a ha b hb => ?_⟩
        simp at hb; subst hb
        obtain ⟨p, hp, rfl⟩ := List.mem_map.mp ha
        exact wget_none.mp hn p hp
      · rcases List.mem_append.mp hp with hp | hp
        · exact g.lt p hp
        · simp at hp; subst hp; exact hy
      · rcases List.mem_append.mp hz with hz | hz
        · rw [List.map_append]; exact List.mem_append_left _ (g.q z hz)
        · simp at hz; subst hz; simp
      · rcases List.mem_append.mp hp with hp | hp
        · have := g.ln p hp; simp only [List.length_append, List.length_cons, List.length_nil]; omega
        · simp at hp; subst hp
          rw [ht]
          have := g.ln _ (wget_mem ht)
          simp at this ⊢; omega
    refine ⟨g', by rw [List.map_append]; exact List.mem_append_left _ hx, ?_⟩
    have := g'.le
    simp only [List.length_append, List.length_cons, List.length_nil] at this ⊢
    omega
theorem gd_proc (hms : MsOk ms) {W : Ws} {q : List Int} {x : Int} (g : Gd ms (W, x :: q)) : Gd ms (proc ms x (W, q)) ∧ 2 * (ms.length - (proc ms x (W, q)).1.length) + (proc ms x (W, q)).2.length < 2 * (ms.length - W.length) + (x :: q).length := by
  have g0 : Gd ms (W, q) := ⟨g.nd, g.lt, fun z hz => g.q z (List.mem_cons_of_mem _ hz), g.ln, g.ne, g.z⟩
  have hx : x ∈ W.map (·.1) := g.q x List.mem_cons_self
  obtain ⟨a1, a2, a3⟩ := gd_stq (b := false) hms (s := (W, q)) hx g0
  obtain ⟨b1, b2, b3⟩ := gd_stq (b := true) hms a2 a1
  refine ⟨b1, ?_⟩
  simp only [List.length_cons] at *
  unfold proc
  omega
theorem gd_run (hms : MsOk ms) : ∀ k, Gd ms (runS ms k)
  | 0 => gd_init hms
  | k + 1 => by
    have g := gd_run hms k
    show Gd ms (stepS ms (runS ms k))
    unfold stepS
    cases e : (runS ms k).2 with
    | nil => exact g
    | cons x q => exact (gd_proc hms (x := x) (q := q) (W := (runS ms k).1) (by rw [← e]; exact g)).1
theorem run_meas (hms : MsOk ms) : ∀ k, 2 * (ms.length - (runS ms k).1.length) + (runS ms k).2.length ≤ 12
  | 0 => by have := hms.h6; simp [runS]; omega
  | k + 1 => by
    have g := gd_run hms k
    have ih := run_meas hms k
    show 2 * (ms.length - (stepS ms (runS ms k)).1.length) + (stepS ms (runS ms k)).2.length ≤ 12
    unfold stepS
    cases e : (runS ms k).2 with
    | nil => simp only; rw [e] at ih; rw [e]; exact ih
    | cons x q =>
      have := (gd_proc hms (x := x) (q := q) (W := (runS ms k).1) (by rw [← e]; exact g)).2
      rw [e] at ih
      simp only
      omega
def preS (ms : List Mk) (x : Int) (s : Ws × List Int) : Nat → Ws × List Int
  | 0 => s
  | 1 => stq ms x false s
  | _ => proc ms x s
theorem gd_pre (hms : MsOk ms) {W : Ws} {q : List Int} {x : Int} (g : Gd ms (W, q)) (hx : x ∈ W.map (·.1)) (j : Nat) (hj : j ≤ 2) : Gd ms (preS ms x (W, q) j) ∧ x ∈ (preS ms x (W, q) j).1.map (·.1) ∧ (preS ms x (W, q) j).2.length ≤ 2 * (ms.length - W.length) + q.length := by
  obtain ⟨a1, a2, a3⟩ := gd_stq (b := false) hms (s := (W, q)) hx g
  obtain ⟨b1, b2, b3⟩ := gd_stq (b := true) hms a2 a1
  have h3 : j = 0 ∨ j = 1 ∨ j = 2 := by omega
  rcases h3 with rfl | rfl | rfl
  · exact ⟨g, hx, by simp only [preS]; omega⟩
  · exact ⟨a1, a2, by simp only [preS] at *; omega⟩
  · exact ⟨b1, b2, by simp only [preS, proc] at *; omega⟩
theorem pre_step {W : Ws} {q : List Int} {x : Int} (j : Nat) (hj : j < 2) : preS ms x (W, q) (j + 1) = stq ms x (decide (j = 1)) (preS ms x (W, q) j) := by
  have h3 : j = 0 ∨ j = 1 := by omega
  rcases h3 with rfl | rfl <;> rfl
theorem touch_at {j : Nat} {d : D} (h : ((["less", "more"] : List Str).map D.str)[j]? = some d) : j < 2 ∧ d = tD (decide (j = 1)) := by
  have hj : j < 2 := by have := (List.getElem?_eq_some_iff.mp h).1; simpa using this
  have h3 : j = 0 ∨ j = 1 := by omega
  rcases h3 with rfl | rfl <;> (simp at h; subst h; exact ⟨by omega, rfl⟩)
end DL
set_option maxHeartbeats 1000000
noncomputable section
namespace K33
open PySem PySem.Spec PyProof.Rows L2 DL
local macro_rules | `(tactic| walk_at "isi") => `(tactic| first
  | (with_reducible refine is_non_int ?_) | (with_reducible refine is_non_bool ?_) | (with_reducible refine is_non_str ?_) | (with_reducible refine is_non_tuple ?_) | (with_reducible refine is_non_list ?_) | (with_reducible refine is_non_dict ?_) | (with_reducible refine is2_non_list_tuple ?_) | (with_reducible refine isC_non ?_) | (with_reducible refine is_bl_int ?_) | (with_reducible refine is_bl_bool ?_) | (with_reducible refine is_bl_str ?_) | (with_reducible refine is_bl_tuple ?_) | (with_reducible refine is_bl_list ?_) | (with_reducible refine is_bl_dict ?_) | (with_reducible refine is2_bl_list_tuple ?_) | (with_reducible refine isC_bl ?_) | (with_reducible refine is_int_int ?_) | (with_reducible refine is_int_bool ?_) | (with_reducible refine is_int_str ?_) | (with_reducible refine is_int_tuple ?_) | (with_reducible refine is_int_list ?_) | (with_reducible refine is_int_dict ?_) | (with_reducible refine is2_int_list_tuple ?_) | (with_reducible refine isC_int ?_) | (with_reducible refine is_str_int ?_) | (with_reducible refine is_str_bool ?_) | (with_reducible refine is_str_str ?_) | (with_reducible refine is_str_tuple ?_) | (with_reducible refine is_str_list ?_) | (with_reducible refine is_str_dict ?_) | (with_reducible refine is2_str_list_tuple ?_) | (with_reducible refine isC_str ?_) | (with_reducible refine is_tup_int ?_) | (with_reducible refine is_tup_bool ?_) | (with_reducible refine is_tup_str ?_) | (with_reducible refine is_tup_tuple ?_) | (with_reducible refine is_tup_list ?_) | (with_reducible refine is_tup_dict ?_) | (with_reducible refine is2_tup_list_tuple ?_) | (with_reducible refine isC_tup ?_) | (with_reducible refine is_lst_int ?_) | (with_reducible refine is_lst_bool ?_) | (with_reducible refine is_lst_str ?_) | (with_reducible refine is_lst_tuple ?_) | (with_reducible refine is_lst_list ?_) | (with_reducible refine is_lst_dict ?_) | (with_reducible refine is2_lst_list_tuple ?_) | (with_reducible refine isC_lst ?_) | (with_reducible refine is_fro_int ?_) | (with_reducible refine is_fro_bool ?_) | (with_reducible refine is_fro_str ?_) | (with_reducible refine is_fro_tuple ?_) | (with_reducible refine is_fro_list ?_) | (with_reducible refine is_fro_dict ?_) | (with_reducible refine is2_fro_list_tuple ?_) | (with_reducible refine isC_fro ?_) | (with_reducible refine is_dct_int ?_) | (with_reducible refine is_dct_bool ?_) | (with_reducible refine is_dct_str ?_) | (with_reducible refine is_dct_tuple ?_) | (with_reducible refine is_dct_list ?_) | (with_reducible refine is_dct_dict ?_) | (with_reducible refine is2_dct_list_tuple ?_) | (with_reducible refine isC_dct ?_) | (with_reducible refine isC_own ?_)
  | (with_reducible refine is2_ins (by simp) ?_) | (with_reducible refine is_ins_int (by simp) ?_) | (with_reducible refine is_ins_bool (by simp) ?_) | (with_reducible refine is_ins_str (by simp) ?_) | (with_reducible refine is_ins_tuple (by simp) ?_) | (with_reducible refine is_ins_list (by simp) ?_) | (with_reducible refine is_ins_dict (by simp) ?_) | fail "isi")
local macro_rules | `(tactic| walk_at "tk") => `(tactic| first | exact List.take_length | exact take_cons | exact take_consA | exact mem_take | exact take_len | fail "tk")
local macro_rules | `(tactic| walk_at "al") => `(tactic| first | exact allDat_mapf _ _ | exact allDat_map _ | (repeat (first | exact al_nil | apply al_cons)))
local macro_rules | `(tactic| walk_at "set") => `(tactic| (simp only [List.set_cons_succ, List.set_cons_zero]; exact rfl))
local macro_rules | `(tactic| walk_at "sxS") => `(tactic| first | (with_reducible refine set_now (by walk_at "set") ?_) | (with_reducible refine s_seq ?_) | (with_reducible refine s_asg ?_) | (with_reducible refine s_ret ?_) | (with_reducible refine s_if ?_) | (with_reducible refine s_drop ?_) | (with_reducible refine s_next ?_) | (with_reducible refine s_new ?_) | (with_reducible refine s_for ?_) | (with_reducible refine s_tgt ?_) | (with_reducible refine s_par ?_) | (with_reducible refine s_disp ?_) | (with_reducible refine s_wh ?_) | (with_reducible refine s_fld ?_) | (with_reducible refine s_set ?_) | (with_reducible refine s_aug rfl ?_) | (with_reducible refine s_par2 ?_) | (with_reducible refine s_raiseK ?_) | (with_reducible refine s_try ?_) | (with_reducible refine s_dput ?_) | (with_reducible refine r_dat ?_) | (with_reducible refine r_loc ?_) | fail "sxS")
local macro_rules | `(tactic| walk_at "sxV") => `(tactic| first | (with_reducible refine v_var rfl ?_) | (with_reducible refine v_D ?_) | (with_reducible refine x_fz ?_) | fail "sxV")
local macro_rules | `(tactic| walk_at "sxA") => `(tactic| first | (with_reducible refine a_consK ?_) | (with_reducible refine a_nilK ?_) | (with_reducible refine n_consK ?_) | (with_reducible refine n_nilK ?_) | fail "sxA")
local macro_rules | `(tactic| walk_at "sxT") => `(tactic| first | (with_reducible refine t_B ?_) | (with_reducible refine t_not ?_) | (with_reducible refine t_and ?_) | (with_reducible refine t_or ?_) | (with_reducible refine t_yes ?_) | fail "sxT")
local macro_rules | `(tactic| walk_at "sxO") => `(tactic| first | (with_reducible refine o_noneK ?_) | (with_reducible refine o_someK ?_) | fail "sxO")
local macro_rules | `(tactic| walk_at "sxP") => `(tactic| first | (with_reducible refine p_nilK ?_) | (with_reducible refine p_consK ?_) | fail "sxP")
local macro_rules | `(tactic| walk_at "sxI") => `(tactic| first | (with_reducible refine i_seq ?_) | (with_reducible refine i_enum ?_) | (with_reducible refine i_rng ?_) | (with_reducible refine i_rng2 ?_) | fail "sxI")
local macro_rules | `(tactic| walk_at "sxF") => `(tactic| first | (with_reducible refine z_dat ?_) | (with_reducible refine z_loc ?_) | (with_reducible refine z_ofD ?_) | (with_reducible refine z_nlm ?_) | (with_reducible refine z_nlf ?_) | (with_reducible refine z_nlc ?_) | (with_reducible refine z_nl (by walk_at "al") ?_) | fail "sxF")
local macro_rules | `(tactic| walk_at "sxC") => `(tactic| first | (with_reducible refine if_T ?_) | (with_reducible refine if_F ?_) | (with_reducible refine if_bT (by decide +kernel) ?_) | (with_reducible refine if_bF (by decide +kernel) ?_) | (with_reducible refine if_bT (by with_unfolding_all exact rfl) ?_) | (with_reducible refine if_bF (by with_unfolding_all exact rfl) ?_) | fail "sxC")
local macro_rules | `(tactic| walk_at "sxD") => `(tactic| first | (with_reducible refine l_addI ?_) | (with_reducible refine l_sub ?_) | (with_reducible refine l_neg ?_) | (with_reducible refine l_eqI ?_) | (with_reducible refine l_neI ?_) | (with_reducible refine l_eqS ?_) | (with_reducible refine l_neS ?_) | (with_reducible refine l_lt ?_) | (with_reducible refine l_le ?_) | (with_reducible refine l_gt ?_) | (with_reducible refine l_ge ?_) | (with_reducible refine l_ixT rfl ?_) | (with_reducible refine l_ixL rfl ?_) | (with_reducible refine l_slT ?_) | (with_reducible refine l_slL ?_) | (with_reducible refine l_lenT ?_) | (with_reducible refine l_lenL ?_) | (with_reducible refine l_int ?_) | (with_reducible refine l_intB ?_) | (with_reducible refine l_listT ?_) | (with_reducible refine l_listL ?_) | (with_reducible refine l_tupL ?_) | (with_reducible refine l_tupT ?_) | (with_reducible refine l_inT ?_) | (with_reducible refine l_ninT ?_) | (with_reducible refine l_inL ?_) | (with_reducible refine l_ninL ?_) | (with_reducible refine l_mm ?_) | (with_reducible refine w_ix ?_; first | (with_reducible refine l_ixT rfl ?_) | (with_reducible refine l_ixL rfl ?_) | (with_reducible refine l_ix0T ?_) | (with_reducible refine l_ix0L ?_)) | (with_reducible refine w_in ?_; first | (with_reducible refine l_inT ?_) | (with_reducible refine l_ninT ?_) | (with_reducible refine l_inL ?_) | (with_reducible refine l_ninL ?_)) | (with_reducible refine w_eq ?_; first | (with_reducible refine l_eqI ?_) | (with_reducible refine l_eqS ?_)) | (with_reducible refine w_len ?_; first | (with_reducible refine l_lenT ?_) | (with_reducible refine l_lenL ?_)) | (with_reducible refine w_list ?_; first | (with_reducible refine l_listT ?_) | (with_reducible refine l_listL ?_)) | (walk_at "isi") | fail "sxD")
local macro_rules | `(tactic| walk_at "sxR") => `(tactic| first | (with_reducible refine x_op ?_) | (with_reducible refine x_cb ?_) | (with_reducible refine x_varD rfl ?_) | (with_reducible refine x_varL rfl ?_) | (with_reducible refine x_D ?_) | (with_reducible refine x_if ?_) | (with_reducible refine x_tup ?_) | (with_reducible refine x_lst ?_) | (with_reducible refine x_bm ?_) | (with_reducible refine x_bm0 ?_) | (with_reducible refine x_sl ?_) | (with_reducible refine x_and ?_) | (with_reducible refine x_or ?_) | (with_reducible refine x_not ?_) | (with_reducible refine x_un ?_) | (with_reducible refine x_isN ?_) | (with_reducible refine x_notN ?_) | (with_reducible refine x_chain ?_) | (with_reducible refine x_inK ?_) | (with_reducible refine x_lc ?_) | (with_reducible refine x_fldK ?_) | (with_reducible refine x_meth ?_) | (with_reducible refine x_make ?_) | (with_reducible refine x_lenO ?_) | (with_reducible refine x_eqO ?_) | (with_reducible refine x_inO ?_) | (with_reducible refine x_kget ?_) | (with_reducible refine x_lk ?_) | (with_reducible refine x_disK ?_) | (with_reducible refine x_dnew ?_) | (with_reducible refine x_dget1 ?_) | (with_reducible refine x_cbT ?_) | (with_reducible refine x_listRng ?_) | (with_reducible refine x_isE rfl rfl ?_) | (with_reducible refine x_xf rfl rfl ?_) | (walk_at "sxD") | fail "sxR")
local macro_rules | `(tactic| walk_at "sxE") => `(tactic| first | (with_reducible refine e_dat (by walk_at "tk") ?_) | (with_reducible refine e_ofD (by walk_at "tk") ?_) | (with_reducible refine e_nlf (by walk_at "tk") ?_) | (with_reducible refine e_nlm (by walk_at "tk") ?_) | (with_reducible refine e_nl (by walk_at "tk") (by with_unfolding_all exact rfl) ?_) | fail "sxE")
local macro_rules | `(tactic| walk_at "sxX") => `(tactic| first | (with_reducible refine b_bl ?_) | (with_reducible refine b_ofD ?_) | (with_reducible refine p_dat ?_) | (with_reducible refine p_loc ?_) | (with_reducible refine ik ?_) | (with_reducible refine stk ?_) | (with_reducible refine sk_l ?_) | (with_reducible refine sk_t ?_) | (with_reducible refine sk_f ?_) | (with_reducible refine pk ?_) | (with_reducible refine gk rfl ?_) | (with_reducible refine tk (by walk_at "al") (sz_lit rfl) ?_) | (with_reducible refine fk1 (by simp) ?_) | (with_reducible refine e_nx (by walk_at "tk") ?_) | (with_reducible refine And.intro (sz_lit rfl) ?_) | (with_reducible refine dkk ?_) | (with_reducible refine And.intro isDct_dat ?_) | (with_reducible refine And.intro ty_l ?_) | (with_reducible refine And.intro ty_s ?_) | (with_reducible refine And.intro (isI_one (by decide)) ?_) | (with_reducible refine And.intro (tyL_loc mem_here) ?_) | fail "sxX")
local macro_rules | `(tactic| walk_at "sx1") => `(tactic| first | (with_reducible refine gS ?_; walk_at "sxS") | (with_reducible refine gV ?_; walk_at "sxV") | (with_reducible refine gR ?_; walk_at "sxR") | (with_reducible refine gA ?_; walk_at "sxA") | (with_reducible refine gT ?_; walk_at "sxT") | (with_reducible refine gF ?_; walk_at "sxF") | (with_reducible refine gC ?_; walk_at "sxC") | (with_reducible refine gRt ?_; walk_at "sxE") | (with_reducible refine gO ?_; walk_at "sxO") | (with_reducible refine gI ?_; walk_at "sxI") | (with_reducible refine gP ?_; walk_at "sxP") | (walk_at "sxX") | fail "sx")
local macro_rules | `(tactic| walk_at "sx") => `(tactic| repeat' (walk_at "sx1"))
local macro_rules | `(tactic| walk_at "sxs") => `(tactic| repeat' (first | (walk_at "sx1") | (with_reducible refine if_dec (fun _ => ?_) (fun _ => ?_)) | (with_reducible refine if_ndec (fun _ => ?_) (fun _ => ?_)) | fail "sxs"))
section
variable {QR : R → Mem → Prop} {E : Xc → Mem → Prop} {μ ν : Mem} {B : Bg} {i n : Int} {ms : List Mk} {b : Bool} {k : Nat} {d : D}
theorem take_s {m : Int} (hB : B.ok) (hm : 0 < m) (hm' : m < 1073741824) (h : ∀ (r : Nat) (B' : Bg), B'.ok → (r : Int) < m → QR (.dat (.int r)) (B'.pl :: ν)) : Sat (F__law_take [.loc 0, .dat (.int m)] (B.pl :: ν)) QR E := by
  rw [e__law_take]; exact d_take hB hm hm' h
theorem mixed_s {ds : List D} {k w : Nat} (hk : k < 64) (hB : B.ok) (hs : ds.length < 100000) (hd : ∀ d ∈ ds, ∃ p, toPy d = some p ∧ Fit k w p) (h : ∀ (ys : List D) (B' : Bg), B'.ok → ys.Perm ds → QR (.nl (ys.map DV.dat)) (B'.pl :: ν)) : Sat (F__law_mixed [.loc 0, .dat (.lst ds)] (B.pl :: ν)) QR E := by
  rw [e__law_mixed]; exact d_mixed hk hB hs hd h
theorem integer_I (h : QR (.dat (.bl true)) μ) : Sat (F_is_integer [.dat (.int i)] μ) QR E := by
  refine w_is_integer ?_
  unfold g_is_integer
  walk_at "sx"
  exact h
theorem number_I (h : QR (.dat (.bl (decide (0 ≤ i ∧ i < n)))) μ) : Sat (F_is_number [.dat (.int i), .dat (.int n)] μ) QR E := by
  refine w_is_number ?_
  unfold g_is_number
  walk_at "sx"
  refine integer_I ?_
  walk_at "sx"
  refine if_dec (fun h1 => ?_) (fun h1 => ?_)
  · walk_at "sx"
    rw [show decide (i < n) = decide (0 ≤ i ∧ i < n) by simp [h1]]; exact h
  · walk_at "sx"
    rw [show decide (0 ≤ i ∧ i < n) = false by simp [h1]] at h; exact h
/-- values that are no integers -/
def NoI : D → Bool
  | .non => true
  | .bl _ => true
  | .str _ => true
  | .tup _ => true
  | .lst _ => true
  | .dct _ => true
  | _ => false
theorem integer_N (hd : NoI d = true) (h : QR (.dat (.bl false)) μ) : Sat (F_is_integer [.dat d] μ) QR E := by
  refine w_is_integer ?_
  unfold g_is_integer
  cases d <;> simp [NoI] at hd <;> (walk_at "sx"; exact h)
theorem number_N (hd : NoI d = true) (h : QR (.dat (.bl false)) μ) : Sat (F_is_number [.dat d, .dat (.int n)] μ) QR E := by
  refine w_is_number ?_
  unfold g_is_number
  walk_at "sx"
  refine integer_N hd ?_
  walk_at "sx"
  exact h
theorem mark_spec {m : Mk} (hm : MkOk n m) (h : QR (.dat (.bl true)) μ) : Sat (F_is_mark [.dat (markD m), .dat (.int n)] μ) QR E := by
  obtain ⟨a, l, c⟩ := m
  have h1 : 0 ≤ a ∧ a < n := hm.1
  refine w_is_mark ?_
  unfold g_is_mark
  walk_at "sx"
  refine number_I ?_
  walk_at "sx"
  refine if_bF (by simp [h1]) ?_
  cases l with
  | none =>
    walk_at "sx"
    exact h
  | some j =>
    have h2 : 0 ≤ j ∧ j < n := hm.2 j rfl
    walk_at "sx"
    refine number_I ?_
    walk_at "sx"
    refine if_bT (by simp [h2]) ?_
    walk_at "sx"
    exact h
theorem marks_spec (hms : MsOk ms) (h : QR (.dat (.bl true)) μ) : Sat (F_are_marks [.dat (.lst (ms.map markD))] μ) QR E := by
  have a1 := hms.h1
  have a2 := hms.h6
  refine w_are_marks ?_
  unfold g_are_marks
  walk_at "sx"
  refine if_bT (by simp; omega) ?_
  walk_at "sx"
  refine if_bF (by simp; omega) ?_
  walk_at "sx"
  refine ⟨sl_sz (by simp; omega), lc_mapK (fun _ => .bl true) (fun m hm => ⟨_, rfl, ?_⟩) ?_⟩
  · walk_at "sx"
    rw [List.length_map]
    refine mark_spec (hms.ok m hm) ?_
    walk_at "sx"
    exact ⟨rfl, rfl⟩
  · walk_at "sx"
    refine l_all (f := fun _ => true) ?_
    walk_at "sx"
    rw [show (ms.map fun _ => true).all id = true by simp]; exact h
theorem init_spec (hms : MsOk ms) (h : QR (.dat (ctrD ms)) μ) : Sat (F_Counter___init__ [.loc (μ.length + 1), .dat (.lst (ms.map markD))] (μ ++ [.own] ++ [.ins "Counter" []])) (MkK μ.length QR) E := by
  have a2 := hms.h6
  refine w_Counter___init__ ?_
  unfold g_Counter___init__
  walk_at "sx"
  refine marks_spec hms ?_
  walk_at "sx"
  refine ⟨sl_sz (by simp; omega), lc_mapK markD (fun m hm => ⟨_, rfl, ?_⟩) ?_⟩
  · walk_at "sx"
    exact ⟨rfl, rfl⟩
  · walk_at "sx"
    refine ⟨_, init1 (by simp), ?_⟩
    refine e_nx (List.take_of_length_le (by simp)) ?_
    exact init1_end h
theorem ctr_len (h : QR (.dat (.int ms.length)) μ) : Sat (F_Counter___len__ [.dat (ctrD ms)] μ) QR E := by
  refine w_Counter___len__ ?_
  unfold g_Counter___len__
  walk_at "sx"
  rw [List.length_map]; exact h
theorem ctr_need (hk : k < ms.length) (h6 : ms.length ≤ 6) (h : QR (.dat .non) μ) : Sat (F_Counter_need_mark [.dat (ctrD ms), .dat (.int k)] μ) QR E := by
  refine w_Counter_need_mark ?_
  unfold g_Counter_need_mark
  walk_at "sx"
  refine ctr_len ⟨_, rfl, ⟨by omega, by omega⟩, ?_⟩
  walk_at "sx"
  refine number_I ?_
  walk_at "sx"
  refine if_bF (by simp; omega) ?_
  walk_at "sx"
  exact h
theorem ctr_more {m : Mk} (hk : ms[k]? = some m) (h6 : ms.length ≤ 6) (h : QR (.dat (.int m.a)) μ) : Sat (F_Counter_more [.dat (ctrD ms), .dat (.int k)] μ) QR E := by
  refine w_Counter_more ?_
  unfold g_Counter_more
  walk_at "sx"
  refine ctr_need (lt_of_at hk) h6 ?_
  walk_at "sx"
  refine w_ix (l_ixL (at_map hk) ?_)
  walk_at "sx"
  exact h
theorem ctr_less {m : Mk} (hk : ms[k]? = some m) (h6 : ms.length ≤ 6) (h : QR (.dat (optD m.l)) μ) : Sat (F_Counter_less [.dat (ctrD ms), .dat (.int k)] μ) QR E := by
  refine w_Counter_less ?_
  unfold g_Counter_less
  walk_at "sx"
  refine ctr_need (lt_of_at hk) h6 ?_
  walk_at "sx"
  refine w_ix (l_ixL (at_map hk) ?_)
  walk_at "sx"
  exact h
theorem touched_spec {m : Mk} (hk : ms[k]? = some m) (h6 : ms.length ≤ 6) (h : QR (.dat (optD (stepM m b))) μ) : Sat (F_touched [.dat (ctrD ms), .dat (.int k), .dat (tD b)] μ) QR E := by
  refine w_touched ?_
  unfold g_touched
  cases b
  · walk_at "sx"
    refine ctr_less hk h6 ?_
    walk_at "sx"
    exact h
  · walk_at "sx"
    refine ctr_more hk h6 ?_
    walk_at "sx"
    exact h
theorem touched_O (hms : MsOk ms) (hk : 0 ≤ i ∧ i < ms.length) (h : QR (.dat (optD (stepO ms (some i) b))) μ) : Sat (F_touched [.dat (ctrD ms), .dat (.int i), .dat (tD b)] μ) QR E := by
  obtain ⟨j, rfl⟩ := Int.eq_ofNat_of_zero_le hk.1
  have hl : j < ms.length := by omega
  refine touched_spec (List.getElem?_eq_getElem hl) hms.h6 ?_
  simp only [stepO, Int.toNat_natCast, List.getElem?_eq_getElem hl] at h
  exact h
theorem led_spec (hms : MsOk ms) (hk : k < ms.length) {ts : List Bool} (h : QR (.dat (optD (ledG ms (some k) ts))) μ) : Sat (F_led [.dat (ctrD ms), .dat (.int k), .dat (.lst (ts.map tD))] μ) QR E := by
  refine w_led ?_
  unfold g_led
  walk_at "sx"
  refine ctr_need hk hms.h6 ?_
  walk_at "sx"
  refine for_inv (fun j δ μ' => δ = [some (.dat (ctrD ms)), some (.dat (optD (ledG ms (some k) (ts.take j)))), some (.dat (.lst (ts.map tD))), none] ∧ μ' = μ) ⟨rfl, rfl⟩ (fun j d hd δ μ' hI => ?_) fun δ μ' hI => ?_
  · obtain ⟨rfl, rfl⟩ := hI
    rw [List.getElem?_map] at hd
    obtain ⟨t, ht, rfl⟩ := Option.map_eq_some_iff.mp hd
    refine ⟨_, rfl, ?_⟩
    unfold b_led_1
    rw [take_snoc ht, ledG_snoc]
    have hin := ledG_in hms (ts.take j) (some k) (fun i e => by cases e; omega)
    cases e : ledG ms (some k) (ts.take j) with
    | none =>
      walk_at "sx"
      exact ⟨rfl, List.take_length⟩
    | some x =>
      walk_at "sx"
      refine touched_O hms (hin x e) ?_
      walk_at "sx"
      exact ⟨rfl, List.take_length⟩
  · obtain ⟨rfl, rfl⟩ := hI
    rw [List.length_map, List.take_length]
    walk_at "sx"
    exact h
theorem lsticking_spec {n : Nat} (h1 : 1 ≤ n) (h6 : n ≤ 6) (h : QR (.nl ((lawL n).map fun m => .dat (markD m))) μ) : Sat (F__law_sticking [.dat (.int n)] μ) QR E := by
  with_reducible refine w__law_sticking ?_
  unfold g__law_sticking
  walk_at "sx"
  refine And.intro ⟨by omega, by omega, by omega, by omega⟩ (And.intro (sl_sz (by simp [rngD]; omega)) ?_)
  rw [show ((n : Int) - 1 - 1).toNat = n - 2 by omega]
  unfold rngD
  refine lc_mapK (fun i => markD ⟨1 + (i : Int) + 1, some (1 + (i : Int) - 1), true⟩) (fun i hi => ⟨_, rfl, ?_⟩) ?_
  · walk_at "sx"
    exact ⟨rfl, rfl⟩
  · walk_at "sx"
    refine l_addL (sz_lit' (by simp; omega)) ?_
    walk_at "sx"
    refine if_dec (fun e => ?_) (fun e => ?_)
    · walk_at "sx"
      refine l_addL (sz_lit' (by simp; omega)) ?_
      have el : lawL n = ⟨1, none, false⟩ :: ((List.range (n - 2)).map fun i => ⟨1 + (i : Int) + 1, some (1 + (i : Int) - 1), true⟩) ++ [⟨(n : Int) - 1, some ((n : Int) - 1), true⟩] := if_pos (by omega)
      rw [el] at h
      refine e_nlm List.take_length ?_
      simpa [Function.comp_def] using h
    · walk_at "sx"
      have el : lawL n = [⟨0, some 0, true⟩] := if_neg (by omega)
      rw [el] at h
      exact h
end
end K33
end
set_option maxHeartbeats 1000000
noncomputable section
namespace K33
open PySem PySem.Spec PyProof.Rows L2 DL
local macro_rules | `(tactic| walk_at "isi") => `(tactic| first
  | (with_reducible refine is_non_int ?_) | (with_reducible refine is_non_bool ?_) | (with_reducible refine is_non_str ?_) | (with_reducible refine is_non_tuple ?_) | (with_reducible refine is_non_list ?_) | (with_reducible refine is_non_dict ?_) | (with_reducible refine is2_non_list_tuple ?_) | (with_reducible refine isC_non ?_) | (with_reducible refine is_bl_int ?_) | (with_reducible refine is_bl_bool ?_) | (with_reducible refine is_bl_str ?_) | (with_reducible refine is_bl_tuple ?_) | (with_reducible refine is_bl_list ?_) | (with_reducible refine is_bl_dict ?_) | (with_reducible refine is2_bl_list_tuple ?_) | (with_reducible refine isC_bl ?_) | (with_reducible refine is_int_int ?_) | (with_reducible refine is_int_bool ?_) | (with_reducible refine is_int_str ?_) | (with_reducible refine is_int_tuple ?_) | (with_reducible refine is_int_list ?_) | (with_reducible refine is_int_dict ?_) | (with_reducible refine is2_int_list_tuple ?_) | (with_reducible refine isC_int ?_) | (with_reducible refine is_str_int ?_) | (with_reducible refine is_str_bool ?_) | (with_reducible refine is_str_str ?_) | (with_reducible refine is_str_tuple ?_) | (with_reducible refine is_str_list ?_) | (with_reducible refine is_str_dict ?_) | (with_reducible refine is2_str_list_tuple ?_) | (with_reducible refine isC_str ?_) | (with_reducible refine is_tup_int ?_) | (with_reducible refine is_tup_bool ?_) | (with_reducible refine is_tup_str ?_) | (with_reducible refine is_tup_tuple ?_) | (with_reducible refine is_tup_list ?_) | (with_reducible refine is_tup_dict ?_) | (with_reducible refine is2_tup_list_tuple ?_) | (with_reducible refine isC_tup ?_) | (with_reducible refine is_lst_int ?_) | (with_reducible refine is_lst_bool ?_) | (with_reducible refine is_lst_str ?_) | (with_reducible refine is_lst_tuple ?_) | (with_reducible refine is_lst_list ?_) | (with_reducible refine is_lst_dict ?_) | (with_reducible refine is2_lst_list_tuple ?_) | (with_reducible refine isC_lst ?_) | (with_reducible refine is_fro_int ?_) | (with_reducible refine is_fro_bool ?_) | (with_reducible refine is_fro_str ?_) | (with_reducible refine is_fro_tuple ?_) | (with_reducible refine is_fro_list ?_) | (with_reducible refine is_fro_dict ?_) | (with_reducible refine is2_fro_list_tuple ?_) | (with_reducible refine isC_fro ?_) | (with_reducible refine is_dct_int ?_) | (with_reducible refine is_dct_bool ?_) | (with_reducible refine is_dct_str ?_) | (with_reducible refine is_dct_tuple ?_) | (with_reducible refine is_dct_list ?_) | (with_reducible refine is_dct_dict ?_) | (with_reducible refine is2_dct_list_tuple ?_) | (with_reducible refine isC_dct ?_) | (with_reducible refine isC_own ?_)
  | (with_reducible refine is2_ins (by simp) ?_) | (with_reducible refine is_ins_int (by simp) ?_) | (with_reducible refine is_ins_bool (by simp) ?_) | (with_reducible refine is_ins_str (by simp) ?_) | (with_reducible refine is_ins_tuple (by simp) ?_) | (with_reducible refine is_ins_list (by simp) ?_) | (with_reducible refine is_ins_dict (by simp) ?_) | fail "isi")
local macro_rules | `(tactic| walk_at "tk") => `(tactic| first | exact List.take_length | exact take_cons | exact take_consA | exact mem_take | exact take_len | fail "tk")
local macro_rules | `(tactic| walk_at "al") => `(tactic| first | exact allDat_mapf _ _ | exact allDat_map _ | (repeat (first | exact al_nil | apply al_cons)))
local macro_rules | `(tactic| walk_at "set") => `(tactic| (simp only [List.set_cons_succ, List.set_cons_zero]; exact rfl))
local macro_rules | `(tactic| walk_at "sxS") => `(tactic| first | (with_reducible refine set_now (by walk_at "set") ?_) | (with_reducible refine s_seq ?_) | (with_reducible refine s_asg ?_) | (with_reducible refine s_ret ?_) | (with_reducible refine s_if ?_) | (with_reducible refine s_drop ?_) | (with_reducible refine s_next ?_) | (with_reducible refine s_new ?_) | (with_reducible refine s_for ?_) | (with_reducible refine s_tgt ?_) | (with_reducible refine s_par ?_) | (with_reducible refine s_disp ?_) | (with_reducible refine s_wh ?_) | (with_reducible refine s_fld ?_) | (with_reducible refine s_set ?_) | (with_reducible refine s_aug rfl ?_) | (with_reducible refine s_par2 ?_) | (with_reducible refine s_raiseK ?_) | (with_reducible refine s_try ?_) | (with_reducible refine s_dput ?_) | (with_reducible refine r_dat ?_) | (with_reducible refine r_loc ?_) | fail "sxS")
local macro_rules | `(tactic| walk_at "sxV") => `(tactic| first | (with_reducible refine v_var rfl ?_) | (with_reducible refine v_D ?_) | (with_reducible refine x_fz ?_) | fail "sxV")
local macro_rules | `(tactic| walk_at "sxA") => `(tactic| first | (with_reducible refine a_consK ?_) | (with_reducible refine a_nilK ?_) | (with_reducible refine n_consK ?_) | (with_reducible refine n_nilK ?_) | fail "sxA")
local macro_rules | `(tactic| walk_at "sxT") => `(tactic| first | (with_reducible refine t_B ?_) | (with_reducible refine t_not ?_) | (with_reducible refine t_and ?_) | (with_reducible refine t_or ?_) | (with_reducible refine t_yes ?_) | fail "sxT")
local macro_rules | `(tactic| walk_at "sxO") => `(tactic| first | (with_reducible refine o_noneK ?_) | (with_reducible refine o_someK ?_) | fail "sxO")
local macro_rules | `(tactic| walk_at "sxP") => `(tactic| first | (with_reducible refine p_nilK ?_) | (with_reducible refine p_consK ?_) | fail "sxP")
local macro_rules | `(tactic| walk_at "sxI") => `(tactic| first | (with_reducible refine i_seq ?_) | (with_reducible refine i_enum ?_) | (with_reducible refine i_rng ?_) | (with_reducible refine i_rng2 ?_) | fail "sxI")
local macro_rules | `(tactic| walk_at "sxF") => `(tactic| first | (with_reducible refine z_dat ?_) | (with_reducible refine z_loc ?_) | (with_reducible refine z_ofD ?_) | (with_reducible refine z_nlm ?_) | (with_reducible refine z_nlf ?_) | (with_reducible refine z_nlc ?_) | (with_reducible refine z_nl (by walk_at "al") ?_) | fail "sxF")
local macro_rules | `(tactic| walk_at "sxC") => `(tactic| first | (with_reducible refine if_T ?_) | (with_reducible refine if_F ?_) | (with_reducible refine if_bT (by decide +kernel) ?_) | (with_reducible refine if_bF (by decide +kernel) ?_) | (with_reducible refine if_bT (by with_unfolding_all exact rfl) ?_) | (with_reducible refine if_bF (by with_unfolding_all exact rfl) ?_) | fail "sxC")
local macro_rules | `(tactic| walk_at "sxD") => `(tactic| first | (with_reducible refine l_addI ?_) | (with_reducible refine l_sub ?_) | (with_reducible refine l_neg ?_) | (with_reducible refine l_eqI ?_) | (with_reducible refine l_neI ?_) | (with_reducible refine l_eqS ?_) | (with_reducible refine l_neS ?_) | (with_reducible refine l_lt ?_) | (with_reducible refine l_le ?_) | (with_reducible refine l_gt ?_) | (with_reducible refine l_ge ?_) | (with_reducible refine l_ixT rfl ?_) | (with_reducible refine l_ixL rfl ?_) | (with_reducible refine l_slT ?_) | (with_reducible refine l_slL ?_) | (with_reducible refine l_lenT ?_) | (with_reducible refine l_lenL ?_) | (with_reducible refine l_int ?_) | (with_reducible refine l_intB ?_) | (with_reducible refine l_listT ?_) | (with_reducible refine l_listL ?_) | (with_reducible refine l_tupL ?_) | (with_reducible refine l_tupT ?_) | (with_reducible refine l_inT ?_) | (with_reducible refine l_ninT ?_) | (with_reducible refine l_inL ?_) | (with_reducible refine l_ninL ?_) | (with_reducible refine l_mm ?_) | (with_reducible refine w_ix ?_; first | (with_reducible refine l_ixT rfl ?_) | (with_reducible refine l_ixL rfl ?_) | (with_reducible refine l_ix0T ?_) | (with_reducible refine l_ix0L ?_)) | (with_reducible refine w_in ?_; first | (with_reducible refine l_inT ?_) | (with_reducible refine l_ninT ?_) | (with_reducible refine l_inL ?_) | (with_reducible refine l_ninL ?_)) | (with_reducible refine w_eq ?_; first | (with_reducible refine l_eqI ?_) | (with_reducible refine l_eqS ?_)) | (with_reducible refine w_len ?_; first | (with_reducible refine l_lenT ?_) | (with_reducible refine l_lenL ?_)) | (with_reducible refine w_list ?_; first | (with_reducible refine l_listT ?_) | (with_reducible refine l_listL ?_)) | (walk_at "isi") | fail "sxD")
local macro_rules | `(tactic| walk_at "sxR") => `(tactic| first | (with_reducible refine x_op ?_) | (with_reducible refine x_cb ?_) | (with_reducible refine x_varD rfl ?_) | (with_reducible refine x_varL rfl ?_) | (with_reducible refine x_D ?_) | (with_reducible refine x_if ?_) | (with_reducible refine x_tup ?_) | (with_reducible refine x_lst ?_) | (with_reducible refine x_bm ?_) | (with_reducible refine x_bm0 ?_) | (with_reducible refine x_sl ?_) | (with_reducible refine x_and ?_) | (with_reducible refine x_or ?_) | (with_reducible refine x_not ?_) | (with_reducible refine x_un ?_) | (with_reducible refine x_isN ?_) | (with_reducible refine x_notN ?_) | (with_reducible refine x_chain ?_) | (with_reducible refine x_inK ?_) | (with_reducible refine x_lc ?_) | (with_reducible refine x_fldK ?_) | (with_reducible refine x_meth ?_) | (with_reducible refine x_make ?_) | (with_reducible refine x_lenO ?_) | (with_reducible refine x_eqO ?_) | (with_reducible refine x_inO ?_) | (with_reducible refine x_kget ?_) | (with_reducible refine x_lk ?_) | (with_reducible refine x_disK ?_) | (with_reducible refine x_dnew ?_) | (with_reducible refine x_dget1 ?_) | (with_reducible refine x_cbT ?_) | (with_reducible refine x_listRng ?_) | (with_reducible refine x_isE rfl rfl ?_) | (with_reducible refine x_xf rfl rfl ?_) | (walk_at "sxD") | fail "sxR")
local macro_rules | `(tactic| walk_at "sxE") => `(tactic| first | (with_reducible refine e_dat (by walk_at "tk") ?_) | (with_reducible refine e_ofD (by walk_at "tk") ?_) | (with_reducible refine e_nlf (by walk_at "tk") ?_) | (with_reducible refine e_nlm (by walk_at "tk") ?_) | (with_reducible refine e_nl (by walk_at "tk") (by with_unfolding_all exact rfl) ?_) | fail "sxE")
local macro_rules | `(tactic| walk_at "sxX") => `(tactic| first | (with_reducible refine b_bl ?_) | (with_reducible refine b_ofD ?_) | (with_reducible refine p_dat ?_) | (with_reducible refine p_loc ?_) | (with_reducible refine ik ?_) | (with_reducible refine stk ?_) | (with_reducible refine sk_l ?_) | (with_reducible refine sk_t ?_) | (with_reducible refine sk_f ?_) | (with_reducible refine pk ?_) | (with_reducible refine gk rfl ?_) | (with_reducible refine tk (by walk_at "al") (sz_lit rfl) ?_) | (with_reducible refine fk1 (by simp) ?_) | (with_reducible refine e_nx (by walk_at "tk") ?_) | (with_reducible refine And.intro (sz_lit rfl) ?_) | (with_reducible refine dkk ?_) | (with_reducible refine And.intro isDct_dat ?_) | (with_reducible refine And.intro ty_l ?_) | (with_reducible refine And.intro ty_s ?_) | (with_reducible refine And.intro (isI_one (by decide)) ?_) | (with_reducible refine And.intro (tyL_loc mem_here) ?_) | fail "sxX")
local macro_rules | `(tactic| walk_at "sx1") => `(tactic| first | (with_reducible refine gS ?_; walk_at "sxS") | (with_reducible refine gV ?_; walk_at "sxV") | (with_reducible refine gR ?_; walk_at "sxR") | (with_reducible refine gA ?_; walk_at "sxA") | (with_reducible refine gT ?_; walk_at "sxT") | (with_reducible refine gF ?_; walk_at "sxF") | (with_reducible refine gC ?_; walk_at "sxC") | (with_reducible refine gRt ?_; walk_at "sxE") | (with_reducible refine gO ?_; walk_at "sxO") | (with_reducible refine gI ?_; walk_at "sxI") | (with_reducible refine gP ?_; walk_at "sxP") | (walk_at "sxX") | fail "sx")
local macro_rules | `(tactic| walk_at "sx") => `(tactic| repeat' (walk_at "sx1"))
local macro_rules | `(tactic| walk_at "sxs") => `(tactic| repeat' (first | (walk_at "sx1") | (with_reducible refine if_dec (fun _ => ?_) (fun _ => ?_)) | (with_reducible refine if_ndec (fun _ => ?_) (fun _ => ?_)) | fail "sxs"))
abbrev mV (m : Mk) : DV := .dat (markD m)
theorem pick2 {r r2 : Nat} (h : (r2 : Int) < 2) : ∃ o : Option Int, atI ([.non, .int (r : Int)] : List D) (r2 : Int) = some (optD o) ∧ ∀ i, o = some i → i = r := by
  have : r2 = 0 ∨ r2 = 1 := by omega
  rcases this with rfl | rfl
  · exact ⟨none, rfl, fun i e => by cases e⟩
  · exact ⟨some r, rfl, fun i e => by cases e; rfl⟩
theorem ms_set {ms : List Mk} {k : Nat} {m : Mk} (h : MsOk ms) (hm : MkOk ms.length m) : MsOk (ms.set k m) := by
  refine ⟨by rw [List.length_set]; exact h.h1, by rw [List.length_set]; exact h.h6, fun x hx => ?_⟩
  rw [List.length_set]
  rcases List.mem_or_eq_of_mem_set hx with q | rfl
  · exact h.ok x q
  · exact hm
theorem mk_up {n n' : Int} {m : Mk} (h : MkOk n m) (hn : n ≤ n') : MkOk n' m := by
  obtain ⟨⟨h1, h2⟩, h3⟩ := h
  exact ⟨⟨h1, by omega⟩, fun i e => by have := h3 i e; omega⟩
theorem ms_app {ms : List Mk} {m : Mk} (h : MsOk ms) (h6 : ms.length < 6) (hm : MkOk ms.length m) : MsOk (ms ++ [m]) := by
  refine ⟨by simp, by simp; omega, fun x hx => ?_⟩
  have e : ((ms ++ [m]).length : Int) = ms.length + 1 := by simp
  rw [e]
  rcases List.mem_append.mp hx with q | q
  · exact mk_up (h.ok x q) (by omega)
  · simp at q; subst q; exact mk_up hm (by omega)
section
variable {QR : R → Mem → Prop} {E : Xc → Mem → Prop} {μ ν : Mem} {B : Bg} {ms : List Mk} {b : Bool} {k N : Nat} {d : D} {P : PO}
theorem cbody_s {x3 x4 x5 : Option DV} (hB : B.ok) (hms : MsOk ms) (h : ∀ (B' : Bg) (ms' : List Mk) (y4 y5 : Option DV), B'.ok → MsOk ms' → ms'.length = ms.length → P.nx [some (.loc 0), some (.dat (.int ms.length)), some (.loc (ν.length + 1)), x3, y4, y5] (B'.pl :: (ν ++ [.lst (ms'.map mV)]))) :
    SatS (b__law_counter_1 N [some (.loc 0), some (.dat (.int ms.length)), some (.loc (ν.length + 1)), x3, x4, x5] (B.pl :: (ν ++ [.lst (ms.map mV)]))) P := by
  have a1 := hms.h1
  have a2 := hms.h6
  unfold b__law_counter_1
  walk_at "sx"
  refine take_s hB (by omega) (by omega) fun r B1 hB1 hr => ?_
  walk_at "sx"
  refine take_s hB1 (by omega) (by omega) fun r1 B2 hB2 hr1 => ?_
  walk_at "sx"
  refine take_s hB2 (by omega) (by omega) fun r2 B3 hB3 hr2 => ?_
  obtain ⟨o, eo, ho⟩ := pick2 (r := r1) hr2
  walk_at "sx"
  refine w_ix (l_ixL eo ?_)
  walk_at "sx"
  refine take_s hB3 (by omega) (by omega) fun r4 B4 hB4 hr4 => ?_
  walk_at "sx"
  refine take_s hB4 (by omega) (by omega) fun r5 B5 hB5 hr5 => ?_
  walk_at "sx"
  refine ⟨_, setPl_at (μ := B5.pl :: ν) (k := r) (by rw [List.length_map]; omega) rfl, ?_⟩
  have e : (ms.map mV).set r (.dat (.tup [.int r4, optD o, .bl (decide ((r5 : Int) = 0))])) = (ms.set r ⟨r4, o, decide ((r5 : Int) = 0)⟩).map mV := by rw [List.map_set]
  rw [e]
  exact h B5 _ _ _ hB5 (ms_set hms ⟨⟨by simp, by simpa using hr4⟩, fun i ei => by have := ho i ei; omega⟩) (by simp)
theorem counter_s (hB : B.ok) (h : ∀ (ms : List Mk) (B' : Bg), B'.ok → MsOk ms → QR (.nl (ms.map mV)) (B'.pl :: ν)) : Sat (F__law_counter [.loc 0] (B.pl :: ν)) QR E := by
  refine w__law_counter ?_
  unfold g__law_counter
  walk_at "sx"
  refine take_s hB (by decide) (by decide) fun r B1 hB1 hr => ?_
  walk_at "sx"
  have e : (1 + (r : Int)) = ((1 + r : Nat) : Int) := by push_cast; rfl
  rw [e]
  refine lsticking_spec (n := 1 + r) (by omega) (by omega) ?_
  refine r_nl (Nat.le_refl _) ?_
  have hl := lawL_ok (n := 1 + r) (by omega) (by omega)
  have el := lawL_len (n := 1 + r) (by omega)
  generalize lawL (1 + r) = ms at hl el
  walk_at "sx"
  refine take_s (m := 3) (ν := ν ++ [.lst (ms.map mV)]) hB1 (by decide) (by decide) fun r2 B2 hB2 hr2 => ?_
  have a1 := hl.h1
  have fin : ∀ (B' : Bg) (ms' : List Mk), B'.ok → MsOk ms' → (endP (B.pl :: ν).length QR E).rt (.loc (ν.length + 1)) (B'.pl :: (ν ++ [.lst (ms'.map mV)])) := fun B' ms' hB' hm' =>
    e_locN (μ := B'.pl :: ν) (xs := ms'.map mV) (by simp) (by simp) (by simp) (by
      have : ms'.map mV = (ms'.map markD).map DV.dat := by rw [List.map_map]; rfl
      rw [this]; exact below_map _) (h ms' B' hB' hm')
  walk_at "sxs"
  · exact fin B2 ms hB2 hl
  · refine take_s (m := 3) (ν := ν ++ [.lst (ms.map mV)]) hB2 (by decide) (by decide) fun r3 B3 hB3 hr3 => ?_
    walk_at "sx"
    refine And.intro ⟨by omega, by omega⟩ ?_
    refine for_inv (fun k δ μ' => ∃ (B' : Bg) (ms' : List Mk), B'.ok ∧ MsOk ms' ∧ ms'.length = ms.length ∧ δ = [some (.loc 0), some (.dat (.int ms'.length)), some (.loc (ν.length + 1)), none, none, none] ∧ μ' = B'.pl :: (ν ++ [.lst (ms'.map mV)])) ⟨B3, ms, hB3, hl, rfl, by rw [el]; rfl, rfl⟩ (fun k d hd δ μ' hI => ?_) fun δ μ' hI => ?_
    · obtain ⟨B', ms', hB', hm', hl', rfl, rfl⟩ := hI
      refine ⟨_, rfl, cbody_s hB' hm' fun B5 ms5 y4 y5 hB5 hm5 hl5 => ?_⟩
      exact ⟨B5, ms5, hB5, hm5, by omega, by rw [hl5]; simp [cut, DL.cutV], List.take_of_length_le (by simp)⟩
    · obtain ⟨B', ms', hB', hm', hl', rfl, rfl⟩ := hI
      walk_at "sx"
      exact fin B' ms' hB' hm'
theorem nbody_s {dm : DV} {x3 x4 x5 x6 x7 x8 x9 : Option DV} (hB : B.ok) (hms : MsOk ms) (h : ∀ (B' : Bg) (ms' : List Mk) (y4 y5 y6 y7 y8 y9 : Option DV), B'.ok → MsOk ms' → P.nx [some (.loc 0), some dm, some (.loc (ν.length + 1)), x3, y4, y5, y6, y7, y8, y9] (B'.pl :: (ν ++ [.lst (ms'.map mV)]))) :
    SatS (b__law_near_counter_1 N [some (.loc 0), some dm, some (.loc (ν.length + 1)), x3, x4, x5, x6, x7, x8, x9] (B.pl :: (ν ++ [.lst (ms.map mV)]))) P := by
  have a1 := hms.h1
  have a2 := hms.h6
  have at0 : ∀ (B : Bg) (ms : List Mk), (B.pl :: (ν ++ [.lst (ms.map mV)]))[ν.length + 1]? = some (.lst (ms.map mV)) := fun B ms => by simp
  unfold b__law_near_counter_1
  walk_at "sx"
  refine w_len (l_lenM (at0 B ms) ?_)
  walk_at "sx"
  rw [List.length_map]
  refine take_s hB (by omega) (by omega) fun r B1 hB1 hr => ?_
  walk_at "sx"
  refine w_len (l_lenM (at0 B1 ms) ?_)
  walk_at "sx"
  rw [List.length_map]
  have hr' : r < ms.length := by omega
  obtain ⟨⟨a, l, c⟩, em⟩ : ∃ m, ms[r]? = some m := ⟨_, List.getElem?_eq_getElem hr'⟩
  have hok := hms.ok _ (List.mem_of_getElem? em)
  have em2 : atI (ms.map mV) (r : Int) = some (mV ⟨a, l, c⟩) := at_map em
  refine w_ix (l_ixM (at0 B1 ms) em2 ?_)
  walk_at "sx"
  refine take_s hB1 (by decide) (by decide) fun w B2 hB2 hw => ?_
  have hw4 : w = 0 ∨ w = 1 ∨ w = 2 ∨ w = 3 := by omega
  rcases hw4 with rfl | rfl | rfl | rfl
  · walk_at "sx"
    refine take_s hB2 (by omega) (by omega) fun r2 B3 hB3 hr2 => ?_
    walk_at "sx"
    refine ⟨_, setPl_at (μ := B3.pl :: ν) (k := r) (by rw [List.length_map]; omega) rfl, ?_⟩
    walk_at "sx"
    have e : (ms.map mV).set r (.dat (.tup [.int r2, optD l, .bl c])) = (ms.set r ⟨r2, l, c⟩).map mV := by rw [List.map_set]
    rw [e]
    exact h _ _ _ _ _ _ _ _ hB3 (ms_set hms ⟨⟨by simp, by simpa using hr2⟩, hok.2⟩)
  · walk_at "sx"
    refine take_s hB2 (by omega) (by omega) fun r1 B3 hB3 hr1 => ?_
    walk_at "sx"
    refine take_s hB3 (by decide) (by decide) fun r2 B4 hB4 hr2 => ?_
    obtain ⟨o, eo, ho⟩ := pick2 (r := r1) hr2
    walk_at "sx"
    refine w_ix (l_ixL eo ?_)
    walk_at "sx"
    refine ⟨_, setPl_at (μ := B4.pl :: ν) (k := r) (by rw [List.length_map]; omega) rfl, ?_⟩
    walk_at "sx"
    have e : (ms.map mV).set r (.dat (.tup [.int a, optD o, .bl c])) = (ms.set r ⟨a, o, c⟩).map mV := by rw [List.map_set]
    rw [e]
    exact h _ _ _ _ _ _ _ _ hB4 (ms_set hms ⟨hok.1, fun i ei => by have := ho i ei; omega⟩)
  · walk_at "sx"
    refine ⟨_, setPl_at (μ := B2.pl :: ν) (k := r) (by rw [List.length_map]; omega) rfl, ?_⟩
    walk_at "sx"
    have e : (ms.map mV).set r (.dat (.tup [.int a, optD l, .bl (!c)])) = (ms.set r ⟨a, l, !c⟩).map mV := by rw [List.map_set]
    rw [e]
    exact h _ _ _ _ _ _ _ _ hB2 (ms_set hms ⟨hok.1, hok.2⟩)
  · walk_at "sx"
    refine ⟨_, setPl_at (μ := B2.pl :: ν) (k := r) (by rw [List.length_map]; omega) rfl, ?_⟩
    walk_at "sx"
    have e : (ms.map mV).set r (.dat (.tup [.int a, optD l, .bl c])) = ms.map mV := by
      rw [show (DV.dat (.tup [.int a, optD l, .bl c])) = mV ⟨a, l, c⟩ from rfl, ← List.map_set]
      congr 1
      exact List.ext_getElem? fun j => by
        rw [List.getElem?_set]
        split
        · rename_i ej; subst ej; first | exact em.symm | (rw [if_pos hr']; exact em.symm)
        · rfl
    rw [e]
    refine if_dec (fun c6 => ?_) (fun c6 => ?_)
    · walk_at "sx"
      refine w_ix (l_ixM (at0 B2 ms) em2 ?_)
      walk_at "sx"
      refine l_app (at0 B2 ms) (Nat.lt_of_le_of_lt (show _ ≤ 6 by simpa using a2) (by decide)) rfl ?_
      have hap := ms_app hms (by omega) hok
      have es : List.set (B2.pl :: ν ++ [Pl.lst (ms.map mV)]) (ν.length + 1) (.lst (ms.map mV ++ [.dat (markD ⟨a, l, c⟩)])) = B2.pl :: (ν ++ [.lst ((ms ++ [(⟨a, l, c⟩ : Mk)]).map mV)]) := by simp
      rw [es]
      generalize hms2 : ms ++ [(⟨a, l, c⟩ : Mk)] = ms2 at hap
      have hl2 : ms2.length = ms.length + 1 := by rw [← hms2]; simp
      walk_at "sx"
      refine take_s hB2 (by omega) (by omega) fun r2 B3 hB3 hr2 => ?_
      have hr2' : r2 < ms2.length := by omega
      obtain ⟨⟨a2, l2, c2⟩, em3⟩ : ∃ m, ms2[r2]? = some m := ⟨_, List.getElem?_eq_getElem hr2'⟩
      have hok2 := hap.ok _ (List.mem_of_getElem? em3)
      have em4 : atI (ms2.map mV) (r2 : Int) = some (mV ⟨a2, l2, c2⟩) := at_map em3
      walk_at "sx"
      refine w_ix (l_ixM (at0 B3 ms2) em4 ?_)
      walk_at "sx"
      refine l_addT (sz_lit' (by simp [cutL] <;> omega)) ?_
      walk_at "sx"
      refine take_s hB3 (by omega) (by omega) fun r3 B4 hB4 hr3 => ?_
      walk_at "sx"
      refine ⟨_, setPl_at (μ := B4.pl :: ν) (k := r3) (by rw [List.length_map]; omega) rfl, ?_⟩
      have e : (ms2.map mV).set r3 (.dat (.tup ([.int ms.length] ++ cutL [.int a2, optD l2, .bl c2] (some 1) none))) = (ms2.set r3 ⟨ms.length, l2, c2⟩).map mV := by rw [List.map_set]; rfl
      rw [e]
      exact h _ _ _ _ _ _ _ _ hB4 (ms_set hap ⟨⟨by simp, by rw [hl2]; simp; omega⟩, hok2.2⟩)
    · walk_at "sx"
      exact h _ _ _ _ _ _ _ _ hB2 hms
theorem near_s (hB : B.ok) (hms : MsOk ms) (h : ∀ (ms : List Mk) (B' : Bg), B'.ok → MsOk ms → QR (.nl (ms.map mV)) (B'.pl :: ν)) : Sat (F__law_near_counter [.loc 0, .dat (.lst (ms.map markD))] (B.pl :: ν)) QR E := by
  refine w__law_near_counter ?_
  unfold g__law_near_counter
  walk_at "sx"
  refine r_nl (Nat.le_refl _) ?_
  rw [show (ms.map markD).map DV.dat = ms.map mV by rw [List.map_map]; rfl]
  walk_at "sx"
  refine take_s (m := 3) (ν := ν ++ [.lst (ms.map mV)]) hB (by decide) (by decide) fun r3 B3 hB3 hr3 => ?_
  walk_at "sx"
  refine And.intro ⟨by omega, by omega⟩ ?_
  refine for_inv (fun k δ μ' => ∃ (B' : Bg) (ms' : List Mk), B'.ok ∧ MsOk ms' ∧ δ = [some (.loc 0), some (.dat (.lst (ms.map markD))), some (.loc (ν.length + 1)), none, none, none, none, none, none, none] ∧ μ' = B'.pl :: (ν ++ [.lst (ms'.map mV)])) ⟨B3, ms, hB3, hms, rfl, rfl⟩ (fun k d hd δ μ' hI => ?_) fun δ μ' hI => ?_
  · obtain ⟨B', ms', hB', hm', rfl, rfl⟩ := hI
    refine ⟨_, rfl, nbody_s hB' hm' fun B5 ms5 y4 y5 y6 y7 y8 y9 hB5 hm5 => ?_⟩
    exact ⟨B5, ms5, hB5, hm5, by simp [cut, DL.cutV], List.take_of_length_le (by simp)⟩
  · obtain ⟨B', ms', hB', hm', rfl, rfl⟩ := hI
    walk_at "sx"
    exact e_locN (μ := B'.pl :: ν) (xs := ms'.map mV) (by simp) (by simp) (by simp) (by
      have : ms'.map mV = (ms'.map markD).map DV.dat := by rw [List.map_map]; rfl
      rw [this]; exact below_map _) (h ms' B' hB' hm')
end
end K33
end
set_option maxHeartbeats 1000000
noncomputable section
namespace K33
open PySem PySem.Spec PyProof.Rows L2 DL
local macro_rules | `(tactic| walk_at "isi") => `(tactic| first
  | (with_reducible refine is_non_int ?_) | (with_reducible refine is_non_bool ?_) | (with_reducible refine is_non_str ?_) | (with_reducible refine is_non_tuple ?_) | (with_reducible refine is_non_list ?_) | (with_reducible refine is_non_dict ?_) | (with_reducible refine is2_non_list_tuple ?_) | (with_reducible refine isC_non ?_) | (with_reducible refine is_bl_int ?_) | (with_reducible refine is_bl_bool ?_) | (with_reducible refine is_bl_str ?_) | (with_reducible refine is_bl_tuple ?_) | (with_reducible refine is_bl_list ?_) | (with_reducible refine is_bl_dict ?_) | (with_reducible refine is2_bl_list_tuple ?_) | (with_reducible refine isC_bl ?_) | (with_reducible refine is_int_int ?_) | (with_reducible refine is_int_bool ?_) | (with_reducible refine is_int_str ?_) | (with_reducible refine is_int_tuple ?_) | (with_reducible refine is_int_list ?_) | (with_reducible refine is_int_dict ?_) | (with_reducible refine is2_int_list_tuple ?_) | (with_reducible refine isC_int ?_) | (with_reducible refine is_str_int ?_) | (with_reducible refine is_str_bool ?_) | (with_reducible refine is_str_str ?_) | (with_reducible refine is_str_tuple ?_) | (with_reducible refine is_str_list ?_) | (with_reducible refine is_str_dict ?_) | (with_reducible refine is2_str_list_tuple ?_) | (with_reducible refine isC_str ?_) | (with_reducible refine is_tup_int ?_) | (with_reducible refine is_tup_bool ?_) | (with_reducible refine is_tup_str ?_) | (with_reducible refine is_tup_tuple ?_) | (with_reducible refine is_tup_list ?_) | (with_reducible refine is_tup_dict ?_) | (with_reducible refine is2_tup_list_tuple ?_) | (with_reducible refine isC_tup ?_) | (with_reducible refine is_lst_int ?_) | (with_reducible refine is_lst_bool ?_) | (with_reducible refine is_lst_str ?_) | (with_reducible refine is_lst_tuple ?_) | (with_reducible refine is_lst_list ?_) | (with_reducible refine is_lst_dict ?_) | (with_reducible refine is2_lst_list_tuple ?_) | (with_reducible refine isC_lst ?_) | (with_reducible refine is_fro_int ?_) | (with_reducible refine is_fro_bool ?_) | (with_reducible refine is_fro_str ?_) | (with_reducible refine is_fro_tuple ?_) | (with_reducible refine is_fro_list ?_) | (with_reducible refine is_fro_dict ?_) | (with_reducible refine is2_fro_list_tuple ?_) | (with_reducible refine isC_fro ?_) | (with_reducible refine is_dct_int ?_) | (with_reducible refine is_dct_bool ?_) | (with_reducible refine is_dct_str ?_) | (with_reducible refine is_dct_tuple ?_) | (with_reducible refine is_dct_list ?_) | (with_reducible refine is_dct_dict ?_) | (with_reducible refine is2_dct_list_tuple ?_) | (with_reducible refine isC_dct ?_) | (with_reducible refine isC_own ?_)
  | (with_reducible refine is2_ins (by simp) ?_) | (with_reducible refine is_ins_int (by simp) ?_) | (with_reducible refine is_ins_bool (by simp) ?_) | (with_reducible refine is_ins_str (by simp) ?_) | (with_reducible refine is_ins_tuple (by simp) ?_) | (with_reducible refine is_ins_list (by simp) ?_) | (with_reducible refine is_ins_dict (by simp) ?_) | fail "isi")
local macro_rules | `(tactic| walk_at "tk") => `(tactic| first | exact List.take_length | exact take_cons | exact take_consA | exact mem_take | exact take_len | fail "tk")
local macro_rules | `(tactic| walk_at "al") => `(tactic| first | exact allDat_mapf _ _ | exact allDat_map _ | (repeat (first | exact al_nil | apply al_cons)))
local macro_rules | `(tactic| walk_at "set") => `(tactic| (simp only [List.set_cons_succ, List.set_cons_zero]; exact rfl))
local macro_rules | `(tactic| walk_at "sxS") => `(tactic| first | (with_reducible refine set_now (by walk_at "set") ?_) | (with_reducible refine s_seq ?_) | (with_reducible refine s_asg ?_) | (with_reducible refine s_ret ?_) | (with_reducible refine s_if ?_) | (with_reducible refine s_drop ?_) | (with_reducible refine s_next ?_) | (with_reducible refine s_new ?_) | (with_reducible refine s_for ?_) | (with_reducible refine s_tgt ?_) | (with_reducible refine s_par ?_) | (with_reducible refine s_disp ?_) | (with_reducible refine s_wh ?_) | (with_reducible refine s_fld ?_) | (with_reducible refine s_set ?_) | (with_reducible refine s_aug rfl ?_) | (with_reducible refine s_par2 ?_) | (with_reducible refine s_raiseK ?_) | (with_reducible refine s_try ?_) | (with_reducible refine s_dput ?_) | (with_reducible refine r_dat ?_) | (with_reducible refine r_loc ?_) | fail "sxS")
local macro_rules | `(tactic| walk_at "sxV") => `(tactic| first | (with_reducible refine v_var rfl ?_) | (with_reducible refine v_D ?_) | (with_reducible refine x_fz ?_) | fail "sxV")
local macro_rules | `(tactic| walk_at "sxA") => `(tactic| first | (with_reducible refine a_consK ?_) | (with_reducible refine a_nilK ?_) | (with_reducible refine n_consK ?_) | (with_reducible refine n_nilK ?_) | fail "sxA")
local macro_rules | `(tactic| walk_at "sxT") => `(tactic| first | (with_reducible refine t_B ?_) | (with_reducible refine t_not ?_) | (with_reducible refine t_and ?_) | (with_reducible refine t_or ?_) | (with_reducible refine t_yes ?_) | fail "sxT")
local macro_rules | `(tactic| walk_at "sxO") => `(tactic| first | (with_reducible refine o_noneK ?_) | (with_reducible refine o_someK ?_) | fail "sxO")
local macro_rules | `(tactic| walk_at "sxP") => `(tactic| first | (with_reducible refine p_nilK ?_) | (with_reducible refine p_consK ?_) | fail "sxP")
local macro_rules | `(tactic| walk_at "sxI") => `(tactic| first | (with_reducible refine i_seq ?_) | (with_reducible refine i_enum ?_) | (with_reducible refine i_rng ?_) | (with_reducible refine i_rng2 ?_) | fail "sxI")
local macro_rules | `(tactic| walk_at "sxF") => `(tactic| first | (with_reducible refine z_dat ?_) | (with_reducible refine z_loc ?_) | (with_reducible refine z_ofD ?_) | (with_reducible refine z_nlm ?_) | (with_reducible refine z_nlf ?_) | (with_reducible refine z_nlc ?_) | (with_reducible refine z_nl (by walk_at "al") ?_) | fail "sxF")
local macro_rules | `(tactic| walk_at "sxC") => `(tactic| first | (with_reducible refine if_T ?_) | (with_reducible refine if_F ?_) | (with_reducible refine if_bT (by decide +kernel) ?_) | (with_reducible refine if_bF (by decide +kernel) ?_) | (with_reducible refine if_bT (by with_unfolding_all exact rfl) ?_) | (with_reducible refine if_bF (by with_unfolding_all exact rfl) ?_) | fail "sxC")
local macro_rules | `(tactic| walk_at "sxD") => `(tactic| first | (with_reducible refine l_addI ?_) | (with_reducible refine l_sub ?_) | (with_reducible refine l_neg ?_) | (with_reducible refine l_eqI ?_) | (with_reducible refine l_neI ?_) | (with_reducible refine l_eqS ?_) | (with_reducible refine l_neS ?_) | (with_reducible refine l_lt ?_) | (with_reducible refine l_le ?_) | (with_reducible refine l_gt ?_) | (with_reducible refine l_ge ?_) | (with_reducible refine l_ixT rfl ?_) | (with_reducible refine l_ixL rfl ?_) | (with_reducible refine l_slT ?_) | (with_reducible refine l_slL ?_) | (with_reducible refine l_lenT ?_) | (with_reducible refine l_lenL ?_) | (with_reducible refine l_int ?_) | (with_reducible refine l_intB ?_) | (with_reducible refine l_listT ?_) | (with_reducible refine l_listL ?_) | (with_reducible refine l_tupL ?_) | (with_reducible refine l_tupT ?_) | (with_reducible refine l_inT ?_) | (with_reducible refine l_ninT ?_) | (with_reducible refine l_inL ?_) | (with_reducible refine l_ninL ?_) | (with_reducible refine l_mm ?_) | (with_reducible refine w_ix ?_; first | (with_reducible refine l_ixT rfl ?_) | (with_reducible refine l_ixL rfl ?_) | (with_reducible refine l_ix0T ?_) | (with_reducible refine l_ix0L ?_)) | (with_reducible refine w_in ?_; first | (with_reducible refine l_inT ?_) | (with_reducible refine l_ninT ?_) | (with_reducible refine l_inL ?_) | (with_reducible refine l_ninL ?_)) | (with_reducible refine w_eq ?_; first | (with_reducible refine l_eqI ?_) | (with_reducible refine l_eqS ?_)) | (with_reducible refine w_len ?_; first | (with_reducible refine l_lenT ?_) | (with_reducible refine l_lenL ?_)) | (with_reducible refine w_list ?_; first | (with_reducible refine l_listT ?_) | (with_reducible refine l_listL ?_)) | (walk_at "isi") | fail "sxD")
local macro_rules | `(tactic| walk_at "sxR") => `(tactic| first | (with_reducible refine x_op ?_) | (with_reducible refine x_cb ?_) | (with_reducible refine x_varD rfl ?_) | (with_reducible refine x_varL rfl ?_) | (with_reducible refine x_D ?_) | (with_reducible refine x_if ?_) | (with_reducible refine x_tup ?_) | (with_reducible refine x_lst ?_) | (with_reducible refine x_bm ?_) | (with_reducible refine x_bm0 ?_) | (with_reducible refine x_sl ?_) | (with_reducible refine x_and ?_) | (with_reducible refine x_or ?_) | (with_reducible refine x_not ?_) | (with_reducible refine x_un ?_) | (with_reducible refine x_isN ?_) | (with_reducible refine x_notN ?_) | (with_reducible refine x_chain ?_) | (with_reducible refine x_inK ?_) | (with_reducible refine x_lc ?_) | (with_reducible refine x_fldK ?_) | (with_reducible refine x_meth ?_) | (with_reducible refine x_make ?_) | (with_reducible refine x_lenO ?_) | (with_reducible refine x_eqO ?_) | (with_reducible refine x_inO ?_) | (with_reducible refine x_kget ?_) | (with_reducible refine x_lk ?_) | (with_reducible refine x_disK ?_) | (with_reducible refine x_dnew ?_) | (with_reducible refine x_dget1 ?_) | (with_reducible refine x_cbT ?_) | (with_reducible refine x_listRng ?_) | (with_reducible refine x_isE rfl rfl ?_) | (with_reducible refine x_xf rfl rfl ?_) | (walk_at "sxD") | fail "sxR")
local macro_rules | `(tactic| walk_at "sxE") => `(tactic| first | (with_reducible refine e_dat (by walk_at "tk") ?_) | (with_reducible refine e_ofD (by walk_at "tk") ?_) | (with_reducible refine e_nlf (by walk_at "tk") ?_) | (with_reducible refine e_nlm (by walk_at "tk") ?_) | (with_reducible refine e_nl (by walk_at "tk") (by with_unfolding_all exact rfl) ?_) | fail "sxE")
local macro_rules | `(tactic| walk_at "sxX") => `(tactic| first | (with_reducible refine b_bl ?_) | (with_reducible refine b_ofD ?_) | (with_reducible refine p_dat ?_) | (with_reducible refine p_loc ?_) | (with_reducible refine ik ?_) | (with_reducible refine stk ?_) | (with_reducible refine sk_l ?_) | (with_reducible refine sk_t ?_) | (with_reducible refine sk_f ?_) | (with_reducible refine pk ?_) | (with_reducible refine gk rfl ?_) | (with_reducible refine tk (by walk_at "al") (sz_lit rfl) ?_) | (with_reducible refine fk1 (by simp) ?_) | (with_reducible refine e_nx (by walk_at "tk") ?_) | (with_reducible refine And.intro (sz_lit rfl) ?_) | (with_reducible refine dkk ?_) | (with_reducible refine And.intro isDct_dat ?_) | (with_reducible refine And.intro ty_l ?_) | (with_reducible refine And.intro ty_s ?_) | (with_reducible refine And.intro (isI_one (by decide)) ?_) | (with_reducible refine And.intro (tyL_loc mem_here) ?_) | fail "sxX")
local macro_rules | `(tactic| walk_at "sx1") => `(tactic| first | (with_reducible refine gS ?_; walk_at "sxS") | (with_reducible refine gV ?_; walk_at "sxV") | (with_reducible refine gR ?_; walk_at "sxR") | (with_reducible refine gA ?_; walk_at "sxA") | (with_reducible refine gT ?_; walk_at "sxT") | (with_reducible refine gF ?_; walk_at "sxF") | (with_reducible refine gC ?_; walk_at "sxC") | (with_reducible refine gRt ?_; walk_at "sxE") | (with_reducible refine gO ?_; walk_at "sxO") | (with_reducible refine gI ?_; walk_at "sxI") | (with_reducible refine gP ?_; walk_at "sxP") | (walk_at "sxX") | fail "sx")
local macro_rules | `(tactic| walk_at "sx") => `(tactic| repeat' (walk_at "sx1"))
local macro_rules | `(tactic| walk_at "sxs") => `(tactic| repeat' (first | (walk_at "sx1") | (with_reducible refine if_dec (fun _ => ?_) (fun _ => ?_)) | (with_reducible refine if_ndec (fun _ => ?_) (fun _ => ?_)) | fail "sxs"))
section
variable {QR : R → Mem → Prop} {E : Xc → Mem → Prop} {μ ν : Mem} {B : Bg} {ms : List Mk} {b : Bool} {k N : Nat} {d : D} {P : PO} {W : Ws} {q : List Int} {x : Int}
abbrev iV (i : Int) : DV := .dat (.int i)
theorem key_i (i : Int) : keyD (.dat (.int i)) = some (.inl i) := rfl
theorem wbody_s {n : Nat} (hms : MsOk ms) (hx : x ∈ W.map (·.1)) (g : Gd ms (W, q)) (hn : μ.length = n) (hq : (q.map iV).length ≤ 100) {x5 : Option DV}
    (h : ∀ y5 : Option DV, P.nx [some (.dat (ctrD ms)), some (.loc n), some (.loc (n + 1)), some (.dat (.int x)), some (.dat (tD b)), y5] (μ ++ [.dct (wsV (stq ms x b (W, q)).1), .lst ((stq ms x b (W, q)).2.map iV)])) :
    SatS (b_ways_from_1 N [some (.dat (ctrD ms)), some (.loc n), some (.loc (n + 1)), some (.dat (.int x)), some (.dat (tD b)), x5] (μ ++ [.dct (wsV W), .lst (q.map iV)])) P := by
  subst hn
  have hin : 0 ≤ x ∧ x < ms.length := by
    obtain ⟨p, hp, rfl⟩ := List.mem_map.mp hx
    exact g.lt p hp
  have a6 := hms.h6
  have gl : W.length ≤ ms.length := g.le
  unfold b_ways_from_1
  walk_at "sx"
  refine touched_O hms hin ?_
  unfold stq at h
  cases e : stepO ms (some x) b with
  | none =>
    rw [e] at h
    walk_at "sx"
    exact h _
  | some y =>
    rw [e] at h
    simp only at h
    walk_at "sx"
    refine dL_in (kvs := wsV W) (by simp) (key_i y) (wsV_all W) ?_
    rw [wsV_val]
    walk_at "sx"
    by_cases c : (wget W y).isSome = true
    · rw [if_pos c] at h
      refine if_bF (by simp [c]) ?_
      walk_at "sx"
      exact h _
    · rw [if_neg c] at h
      have hy : wget W y = none := by cases q : wget W y with
        | none => rfl
        | some t => rw [q] at c; exact absurd rfl c
      obtain ⟨t, ht⟩ := wget_some hx
      rw [ht] at h
      have tl : t.length + 1 ≤ W.length := g.ln _ (wget_mem ht)
      refine if_bT (by simp [hy]) ?_
      walk_at "sx"
      refine dL_get (kvs := wsV W) (v := .dat (.lst (t.map tD))) (by simp) (key_i x) (wsV_all W) (by rw [wsV_val, ht]; rfl) ?_
      walk_at "sx"
      refine l_addL (sz_lit' (by simp; omega)) ?_
      walk_at "sx"
      refine ⟨_, set_dct (kvs := wsV W) (by simp) (key_i y) (wsV_all W) (Nat.lt_of_le_of_lt (show (wsV W).length ≤ 6 by unfold wsV; rw [List.length_map]; omega) (by decide)) rfl, ?_⟩
      rw [show t.map tD ++ [tD b] = (t ++ [b]).map tD by simp, wsV_put _ hy]
      rw [show (μ ++ [Pl.dct (wsV W), Pl.lst (q.map iV)]).set μ.length (.dct (wsV (W ++ [(y, t ++ [b])]))) = μ ++ [.dct (wsV (W ++ [(y, t ++ [b])])), .lst (q.map iV)] by simp]
      walk_at "sx"
      refine And.intro (tyL_loc (xs := q.map iV) (by simp)) ?_
      walk_at "sx"
      refine l_app (xs := q.map iV) (by simp) (Nat.lt_of_le_of_lt hq (by decide)) rfl ?_
      walk_at "sx"
      rw [show (μ ++ [Pl.dct (wsV (W ++ [(y, t ++ [b])])), Pl.lst (q.map iV)]).set (μ.length + 1) (.lst (q.map iV ++ [iV y])) = μ ++ [.dct (wsV (W ++ [(y, t ++ [b])])), .lst ((q ++ [y]).map iV)] by simp]
      exact h _
theorem ways_from_s (hms : MsOk ms) (h : ∀ W, Fin ms W → Gd ms (W, []) → QR (.nk (wsV W)) μ) : Sat (F_ways_from [.dat (ctrD ms)] μ) QR E := by
  have a1 := hms.h1
  have a6 := hms.h6
  refine w_ways_from ?_
  unfold g_ways_from
  walk_at "sx"
  refine ⟨_, rfl, by decide, _, _, if_pos (Nat.le_refl _), ?_⟩
  walk_at "sx"
  refine r_nl (by simp) ?_
  walk_at "sx"
  refine wh_inv (fun m δ μ' => ∃ k W q, runS ms k = (W, q) ∧ m = 2 * (ms.length - W.length) + q.length ∧ δ = [some (.dat (ctrD ms)), some (.loc μ.length), some (.loc (μ.length + 1)), none, none, none] ∧ μ' = μ ++ [.dct (wsV W), .lst (q.map iV)]) (2 * (ms.length - 1) + 1) (by omega) ⟨0, _, _, rfl, rfl, by simp, by simp [wsV, mergeD, dput]⟩ fun m δ μ' hI => ?_
  obtain ⟨k, W, q, hr, rfl, rfl, rfl⟩ := hI
  have g := gd_run hms k
  rw [hr] at g
  walk_at "sx"
  refine ne_nilP (k := 0) (w := 40) (ds := q.map D.int) (by decide) (by simp) (fun d hd => ?_) ?_
  · obtain ⟨i, hi, rfl⟩ := List.mem_map.mp hd
    have hk := g.q i hi
    obtain ⟨p, hp, rfl⟩ := List.mem_map.mp hk
    have := g.lt p hp
    exact ⟨_, rfl, fit_int (by omega)⟩
  have hm := run_meas hms k
  rw [hr] at hm
  simp only at hm
  cases q with
  | nil =>
    walk_at "sx"
    exact e_locD (kvs := wsV W) mem_take (Nat.le_refl _) (by simp) (wsV_below _ _) (h W ⟨k, hr⟩ g)
  | cons x q =>
    walk_at "sx"
    refine ⟨by simp only [List.length_cons]; omega, ?_⟩
    unfold b_ways_from_2
    walk_at "sx"
    refine And.intro (tyL_loc (xs := (x :: q).map iV) (by simp)) ?_
    walk_at "sx"
    refine l_pop (k := 0) (y := iV x) (xs := (x :: q).map iV) (by simp) rfl (by decide) ?_
    rw [show (μ ++ [Pl.dct (wsV W), Pl.lst ((x :: q).map iV)]).set (μ.length + 1) (.lst (((x :: q).map iV).eraseIdx 0)) = μ ++ [.dct (wsV W), .lst (q.map iV)] by simp]
    walk_at "sx"
    have g0 : Gd ms (W, q) := ⟨g.nd, g.lt, fun z hz => g.q z (List.mem_cons_of_mem _ hz), g.ln, g.ne, g.z⟩
    have hx : x ∈ W.map (·.1) := g.q x List.mem_cons_self
    refine for_inv (fun j δ μ' => δ = [some (.dat (ctrD ms)), some (.loc μ.length), some (.loc (μ.length + 1)), some (.dat (.int x)), none, none] ∧ μ' = μ ++ [.dct (wsV (preS ms x (W, q) j).1), .lst ((preS ms x (W, q) j).2.map iV)]) ⟨rfl, rfl⟩ (fun j d hd δ μ' hI => ?_) fun δ μ' hI => ?_
    · obtain ⟨rfl, rfl⟩ := hI
      obtain ⟨hj, rfl⟩ := touch_at hd
      obtain ⟨p1, p2, p3⟩ := gd_pre hms g0 hx j (by omega)
      refine ⟨_, rfl, wbody_s hms p2 p1 rfl (by rw [List.length_map]; simp only [List.length_cons] at hm; exact Nat.le_trans p3 (by omega)) fun y5 => ?_⟩
      exact ⟨by simp [cut, DL.cutV], by rw [pre_step j hj]; exact List.take_of_length_le (by simp)⟩
    · obtain ⟨rfl, rfl⟩ := hI
      obtain ⟨p1, p2⟩ := gd_proc hms g
      refine ⟨_, p2, k + 1, (proc ms x (W, q)).1, (proc ms x (W, q)).2, ?_, rfl, by simp [cut, DL.cutV], List.take_of_length_le (by simp)⟩
      show stepS ms (runS ms k) = _
      rw [hr]; rfl
end
end K33
end
set_option maxHeartbeats 1000000
noncomputable section
namespace K33
open PySem PySem.Spec PyProof.Rows L2 DL
local macro_rules | `(tactic| walk_at "isi") => `(tactic| first
  | (with_reducible refine is_non_int ?_) | (with_reducible refine is_non_bool ?_) | (with_reducible refine is_non_str ?_) | (with_reducible refine is_non_tuple ?_) | (with_reducible refine is_non_list ?_) | (with_reducible refine is_non_dict ?_) | (with_reducible refine is2_non_list_tuple ?_) | (with_reducible refine isC_non ?_) | (with_reducible refine is_bl_int ?_) | (with_reducible refine is_bl_bool ?_) | (with_reducible refine is_bl_str ?_) | (with_reducible refine is_bl_tuple ?_) | (with_reducible refine is_bl_list ?_) | (with_reducible refine is_bl_dict ?_) | (with_reducible refine is2_bl_list_tuple ?_) | (with_reducible refine isC_bl ?_) | (with_reducible refine is_int_int ?_) | (with_reducible refine is_int_bool ?_) | (with_reducible refine is_int_str ?_) | (with_reducible refine is_int_tuple ?_) | (with_reducible refine is_int_list ?_) | (with_reducible refine is_int_dict ?_) | (with_reducible refine is2_int_list_tuple ?_) | (with_reducible refine isC_int ?_) | (with_reducible refine is_str_int ?_) | (with_reducible refine is_str_bool ?_) | (with_reducible refine is_str_str ?_) | (with_reducible refine is_str_tuple ?_) | (with_reducible refine is_str_list ?_) | (with_reducible refine is_str_dict ?_) | (with_reducible refine is2_str_list_tuple ?_) | (with_reducible refine isC_str ?_) | (with_reducible refine is_tup_int ?_) | (with_reducible refine is_tup_bool ?_) | (with_reducible refine is_tup_str ?_) | (with_reducible refine is_tup_tuple ?_) | (with_reducible refine is_tup_list ?_) | (with_reducible refine is_tup_dict ?_) | (with_reducible refine is2_tup_list_tuple ?_) | (with_reducible refine isC_tup ?_) | (with_reducible refine is_lst_int ?_) | (with_reducible refine is_lst_bool ?_) | (with_reducible refine is_lst_str ?_) | (with_reducible refine is_lst_tuple ?_) | (with_reducible refine is_lst_list ?_) | (with_reducible refine is_lst_dict ?_) | (with_reducible refine is2_lst_list_tuple ?_) | (with_reducible refine isC_lst ?_) | (with_reducible refine is_fro_int ?_) | (with_reducible refine is_fro_bool ?_) | (with_reducible refine is_fro_str ?_) | (with_reducible refine is_fro_tuple ?_) | (with_reducible refine is_fro_list ?_) | (with_reducible refine is_fro_dict ?_) | (with_reducible refine is2_fro_list_tuple ?_) | (with_reducible refine isC_fro ?_) | (with_reducible refine is_dct_int ?_) | (with_reducible refine is_dct_bool ?_) | (with_reducible refine is_dct_str ?_) | (with_reducible refine is_dct_tuple ?_) | (with_reducible refine is_dct_list ?_) | (with_reducible refine is_dct_dict ?_) | (with_reducible refine is2_dct_list_tuple ?_) | (with_reducible refine isC_dct ?_) | (with_reducible refine isC_own ?_)
  | (with_reducible refine is2_ins (by simp) ?_) | (with_reducible refine is_ins_int (by simp) ?_) | (with_reducible refine is_ins_bool (by simp) ?_) | (with_reducible refine is_ins_str (by simp) ?_) | (with_reducible refine is_ins_tuple (by simp) ?_) | (with_reducible refine is_ins_list (by simp) ?_) | (with_reducible refine is_ins_dict (by simp) ?_) | fail "isi")
local macro_rules | `(tactic| walk_at "tk") => `(tactic| first | exact List.take_length | exact take_cons | exact take_consA | exact mem_take | exact take_len | fail "tk")
local macro_rules | `(tactic| walk_at "al") => `(tactic| first | exact allDat_mapf _ _ | exact allDat_map _ | (repeat (first | exact al_nil | apply al_cons)))
local macro_rules | `(tactic| walk_at "set") => `(tactic| (simp only [List.set_cons_succ, List.set_cons_zero]; exact rfl))
local macro_rules | `(tactic| walk_at "sxS") => `(tactic| first | (with_reducible refine set_now (by walk_at "set") ?_) | (with_reducible refine s_seq ?_) | (with_reducible refine s_asg ?_) | (with_reducible refine s_ret ?_) | (with_reducible refine s_if ?_) | (with_reducible refine s_drop ?_) | (with_reducible refine s_next ?_) | (with_reducible refine s_new ?_) | (with_reducible refine s_for ?_) | (with_reducible refine s_tgt ?_) | (with_reducible refine s_par ?_) | (with_reducible refine s_disp ?_) | (with_reducible refine s_wh ?_) | (with_reducible refine s_fld ?_) | (with_reducible refine s_set ?_) | (with_reducible refine s_aug rfl ?_) | (with_reducible refine s_par2 ?_) | (with_reducible refine s_raiseK ?_) | (with_reducible refine s_try ?_) | (with_reducible refine s_dput ?_) | (with_reducible refine r_dat ?_) | (with_reducible refine r_loc ?_) | fail "sxS")
local macro_rules | `(tactic| walk_at "sxV") => `(tactic| first | (with_reducible refine v_var rfl ?_) | (with_reducible refine v_D ?_) | (with_reducible refine x_fz ?_) | fail "sxV")
local macro_rules | `(tactic| walk_at "sxA") => `(tactic| first | (with_reducible refine a_consK ?_) | (with_reducible refine a_nilK ?_) | (with_reducible refine n_consK ?_) | (with_reducible refine n_nilK ?_) | fail "sxA")
local macro_rules | `(tactic| walk_at "sxT") => `(tactic| first | (with_reducible refine t_B ?_) | (with_reducible refine t_not ?_) | (with_reducible refine t_and ?_) | (with_reducible refine t_or ?_) | (with_reducible refine t_yes ?_) | fail "sxT")
local macro_rules | `(tactic| walk_at "sxO") => `(tactic| first | (with_reducible refine o_noneK ?_) | (with_reducible refine o_someK ?_) | fail "sxO")
local macro_rules | `(tactic| walk_at "sxP") => `(tactic| first | (with_reducible refine p_nilK ?_) | (with_reducible refine p_consK ?_) | fail "sxP")
local macro_rules | `(tactic| walk_at "sxI") => `(tactic| first | (with_reducible refine i_seq ?_) | (with_reducible refine i_enum ?_) | (with_reducible refine i_rng ?_) | (with_reducible refine i_rng2 ?_) | fail "sxI")
local macro_rules | `(tactic| walk_at "sxF") => `(tactic| first | (with_reducible refine z_dat ?_) | (with_reducible refine z_loc ?_) | (with_reducible refine z_ofD ?_) | (with_reducible refine z_nlm ?_) | (with_reducible refine z_nlf ?_) | (with_reducible refine z_nlc ?_) | (with_reducible refine z_nl (by walk_at "al") ?_) | fail "sxF")
local macro_rules | `(tactic| walk_at "sxC") => `(tactic| first | (with_reducible refine if_T ?_) | (with_reducible refine if_F ?_) | (with_reducible refine if_bT (by decide +kernel) ?_) | (with_reducible refine if_bF (by decide +kernel) ?_) | (with_reducible refine if_bT (by with_unfolding_all exact rfl) ?_) | (with_reducible refine if_bF (by with_unfolding_all exact rfl) ?_) | fail "sxC")
local macro_rules | `(tactic| walk_at "sxD") => `(tactic| first | (with_reducible refine l_addI ?_) | (with_reducible refine l_sub ?_) | (with_reducible refine l_neg ?_) | (with_reducible refine l_eqI ?_) | (with_reducible refine l_neI ?_) | (with_reducible refine l_eqS ?_) | (with_reducible refine l_neS ?_) | (with_reducible refine l_lt ?_) | (with_reducible refine l_le ?_) | (with_reducible refine l_gt ?_) | (with_reducible refine l_ge ?_) | (with_reducible refine l_ixT rfl ?_) | (with_reducible refine l_ixL rfl ?_) | (with_reducible refine l_slT ?_) | (with_reducible refine l_slL ?_) | (with_reducible refine l_lenT ?_) | (with_reducible refine l_lenL ?_) | (with_reducible refine l_int ?_) | (with_reducible refine l_intB ?_) | (with_reducible refine l_listT ?_) | (with_reducible refine l_listL ?_) | (with_reducible refine l_tupL ?_) | (with_reducible refine l_tupT ?_) | (with_reducible refine l_inT ?_) | (with_reducible refine l_ninT ?_) | (with_reducible refine l_inL ?_) | (with_reducible refine l_ninL ?_) | (with_reducible refine l_mm ?_) | (with_reducible refine w_ix ?_; first | (with_reducible refine l_ixT rfl ?_) | (with_reducible refine l_ixL rfl ?_) | (with_reducible refine l_ix0T ?_) | (with_reducible refine l_ix0L ?_)) | (with_reducible refine w_in ?_; first | (with_reducible refine l_inT ?_) | (with_reducible refine l_ninT ?_) | (with_reducible refine l_inL ?_) | (with_reducible refine l_ninL ?_)) | (with_reducible refine w_eq ?_; first | (with_reducible refine l_eqI ?_) | (with_reducible refine l_eqS ?_)) | (with_reducible refine w_len ?_; first | (with_reducible refine l_lenT ?_) | (with_reducible refine l_lenL ?_)) | (with_reducible refine w_list ?_; first | (with_reducible refine l_listT ?_) | (with_reducible refine l_listL ?_)) | (walk_at "isi") | fail "sxD")
local macro_rules | `(tactic| walk_at "sxR") => `(tactic| first | (with_reducible refine x_op ?_) | (with_reducible refine x_cb ?_) | (with_reducible refine x_varD rfl ?_) | (with_reducible refine x_varL rfl ?_) | (with_reducible refine x_D ?_) | (with_reducible refine x_if ?_) | (with_reducible refine x_tup ?_) | (with_reducible refine x_lst ?_) | (with_reducible refine x_bm ?_) | (with_reducible refine x_bm0 ?_) | (with_reducible refine x_sl ?_) | (with_reducible refine x_and ?_) | (with_reducible refine x_or ?_) | (with_reducible refine x_not ?_) | (with_reducible refine x_un ?_) | (with_reducible refine x_isN ?_) | (with_reducible refine x_notN ?_) | (with_reducible refine x_chain ?_) | (with_reducible refine x_inK ?_) | (with_reducible refine x_lc ?_) | (with_reducible refine x_fldK ?_) | (with_reducible refine x_meth ?_) | (with_reducible refine x_make ?_) | (with_reducible refine x_lenO ?_) | (with_reducible refine x_eqO ?_) | (with_reducible refine x_inO ?_) | (with_reducible refine x_kget ?_) | (with_reducible refine x_lk ?_) | (with_reducible refine x_disK ?_) | (with_reducible refine x_dnew ?_) | (with_reducible refine x_dget1 ?_) | (with_reducible refine x_cbT ?_) | (with_reducible refine x_listRng ?_) | (with_reducible refine x_isE rfl rfl ?_) | (with_reducible refine x_xf rfl rfl ?_) | (walk_at "sxD") | fail "sxR")
local macro_rules | `(tactic| walk_at "sxE") => `(tactic| first | (with_reducible refine e_dat (by walk_at "tk") ?_) | (with_reducible refine e_ofD (by walk_at "tk") ?_) | (with_reducible refine e_nlf (by walk_at "tk") ?_) | (with_reducible refine e_nlm (by walk_at "tk") ?_) | (with_reducible refine e_nl (by walk_at "tk") (by with_unfolding_all exact rfl) ?_) | fail "sxE")
local macro_rules | `(tactic| walk_at "sxX") => `(tactic| first | (with_reducible refine b_bl ?_) | (with_reducible refine b_ofD ?_) | (with_reducible refine p_dat ?_) | (with_reducible refine p_loc ?_) | (with_reducible refine ik ?_) | (with_reducible refine stk ?_) | (with_reducible refine sk_l ?_) | (with_reducible refine sk_t ?_) | (with_reducible refine sk_f ?_) | (with_reducible refine pk ?_) | (with_reducible refine gk rfl ?_) | (with_reducible refine tk (by walk_at "al") (sz_lit rfl) ?_) | (with_reducible refine fk1 (by simp) ?_) | (with_reducible refine e_nx (by walk_at "tk") ?_) | (with_reducible refine And.intro (sz_lit rfl) ?_) | (with_reducible refine dkk ?_) | (with_reducible refine And.intro isDct_dat ?_) | (with_reducible refine And.intro ty_l ?_) | (with_reducible refine And.intro ty_s ?_) | (with_reducible refine And.intro (isI_one (by decide)) ?_) | (with_reducible refine And.intro (tyL_loc mem_here) ?_) | fail "sxX")
local macro_rules | `(tactic| walk_at "sx1") => `(tactic| first | (with_reducible refine gS ?_; walk_at "sxS") | (with_reducible refine gV ?_; walk_at "sxV") | (with_reducible refine gR ?_; walk_at "sxR") | (with_reducible refine gA ?_; walk_at "sxA") | (with_reducible refine gT ?_; walk_at "sxT") | (with_reducible refine gF ?_; walk_at "sxF") | (with_reducible refine gC ?_; walk_at "sxC") | (with_reducible refine gRt ?_; walk_at "sxE") | (with_reducible refine gO ?_; walk_at "sxO") | (with_reducible refine gI ?_; walk_at "sxI") | (with_reducible refine gP ?_; walk_at "sxP") | (walk_at "sxX") | fail "sx")
local macro_rules | `(tactic| walk_at "sx") => `(tactic| repeat' (walk_at "sx1"))
local macro_rules | `(tactic| walk_at "sxs") => `(tactic| repeat' (first | (walk_at "sx1") | (with_reducible refine if_dec (fun _ => ?_) (fun _ => ?_)) | (with_reducible refine if_ndec (fun _ => ?_) (fun _ => ?_)) | fail "sxs"))
section
variable {QR : R → Mem → Prop} {E : Xc → Mem → Prop} {μ ν : Mem} {B : Bg} {ms : List Mk} {b : Bool} {k N : Nat} {d : D} {P : PO} {W : Ws} {q : List Int} {x : Int}
theorem lled_s (hms : MsOk ms) (hx : 0 ≤ x ∧ x < ms.length) {ts : List Bool} (h : QR (.dat (optD (ledG ms (some x) ts))) μ) : Sat (F__law_led [.dat (.lst (ms.map markD)), .dat (.int x), .dat (.lst (ts.map tD))] μ) QR E := by
  refine w__law_led ?_
  unfold g__law_led
  walk_at "sx"
  refine for_inv (fun j δ μ' => δ = [some (.dat (.lst (ms.map markD))), some (.dat (optD (ledG ms (some x) (ts.take j)))), some (.dat (.lst (ts.map tD))), none] ∧ μ' = μ) ⟨rfl, rfl⟩ (fun j d hd δ μ' hI => ?_) fun δ μ' hI => ?_
  · obtain ⟨rfl, rfl⟩ := hI
    rw [List.getElem?_map] at hd
    obtain ⟨t, ht, rfl⟩ := Option.map_eq_some_iff.mp hd
    refine ⟨_, rfl, ?_⟩
    unfold b__law_led_1
    rw [take_snoc ht, ledG_snoc]
    have hin := ledG_in hms (ts.take j) (some x) (fun i e => by cases e; exact hx)
    cases e : ledG ms (some x) (ts.take j) with
    | none =>
      have en : ledG ms (some x) ts = none := by
        have : ledG ms (some x) (ts.take j ++ ts.drop j) = none := by unfold ledG at *; rw [List.foldl_append, e]; exact ledG_none ms _
        rwa [List.take_append_drop] at this
      rw [en] at h
      walk_at "sx"
      exact h
    | some y =>
      obtain ⟨h1, h2⟩ := hin y e
      obtain ⟨y, rfl⟩ := Int.eq_ofNat_of_zero_le h1
      have hl : y < ms.length := by omega
      have em : ms[y]? = some ms[y] := List.getElem?_eq_getElem hl
      have es : stepO ms (some (y : Int)) t = stepM ms[y] t := by simp only [stepO, Int.toNat_natCast, em]
      rw [es]
      cases t
      · walk_at "sx"
        refine w_ix (l_ixL (at_map em) ?_)
        walk_at "sx"
        exact ⟨rfl, List.take_length⟩
      · walk_at "sx"
        refine w_ix (l_ixL (at_map em) ?_)
        walk_at "sx"
        exact ⟨rfl, List.take_length⟩
  · obtain ⟨rfl, rfl⟩ := hI
    rw [List.length_map, List.take_length]
    walk_at "sx"
    exact h
theorem lwbody_s {n : Nat} {dl : D} (hms : MsOk ms) (hx : x ∈ W.map (·.1)) (g : Gd ms (W, q)) (hn : μ.length = n) (hq : q.length ≤ 100) {x6 : Option DV} {rest later : List Int} (hl : q = rest ++ later)
    (h : ∀ y6 : Option DV, ∀ later', (stq ms x b (W, q)).2 = rest ++ later' → P.nx [some (.dat (.lst (ms.map markD))), some (.loc n), some (.dat dl), some (.loc (n + 2)), some (.dat (.int x)), some (.dat (tD b)), y6] (μ ++ [.dct (wsV (stq ms x b (W, q)).1), .gone, .lst (later'.map iV)])) :
    SatS (b__law_ways_to_1 N [some (.dat (.lst (ms.map markD))), some (.loc n), some (.dat dl), some (.loc (n + 2)), some (.dat (.int x)), some (.dat (tD b)), x6] (μ ++ [.dct (wsV W), .gone, .lst (later.map iV)])) P := by
  subst hn
  have hin : 0 ≤ x ∧ x < ms.length := by
    obtain ⟨p, hp, rfl⟩ := List.mem_map.mp hx
    exact g.lt p hp
  have a6 := hms.h6
  have gl : W.length ≤ ms.length := g.le
  unfold b__law_ways_to_1
  walk_at "sx"
  rw [show ([tD b] : List D) = [b].map tD from rfl]
  refine lled_s hms hin ?_
  rw [show ledG ms (some x) [b] = stepO ms (some x) b from rfl]
  unfold stq at h
  cases e : stepO ms (some x) b with
  | none =>
    rw [e] at h
    walk_at "sx"
    exact h _ _ hl
  | some y =>
    rw [e] at h
    simp only at h
    walk_at "sx"
    refine dL_in (kvs := wsV W) (by simp) (key_i y) (wsV_all W) ?_
    rw [wsV_val]
    walk_at "sx"
    by_cases c : (wget W y).isSome = true
    · rw [if_pos c] at h
      refine if_bF (by simp [c]) ?_
      walk_at "sx"
      exact h _ _ hl
    · rw [if_neg c] at h
      have hy : wget W y = none := by cases q : wget W y with
        | none => rfl
        | some t => rw [q] at c; exact absurd rfl c
      obtain ⟨t, ht⟩ := wget_some hx
      rw [ht] at h
      have tl : t.length + 1 ≤ W.length := g.ln _ (wget_mem ht)
      refine if_bT (by simp [hy]) ?_
      walk_at "sx"
      refine dL_get (kvs := wsV W) (v := .dat (.lst (t.map tD))) (by simp) (key_i x) (wsV_all W) (by rw [wsV_val, ht]; rfl) ?_
      walk_at "sx"
      refine l_addL (sz_lit' (by simp; omega)) ?_
      walk_at "sx"
      refine ⟨_, set_dct (kvs := wsV W) (by simp) (key_i y) (wsV_all W) (Nat.lt_of_le_of_lt (show (wsV W).length ≤ 6 by unfold wsV; rw [List.length_map]; omega) (by decide)) rfl, ?_⟩
      rw [show t.map tD ++ [tD b] = (t ++ [b]).map tD by simp, wsV_put _ hy]
      rw [show (μ ++ [Pl.dct (wsV W), Pl.gone, Pl.lst (later.map iV)]).set μ.length (.dct (wsV (W ++ [(y, t ++ [b])]))) = μ ++ [.dct (wsV (W ++ [(y, t ++ [b])])), .gone, .lst (later.map iV)] by simp]
      walk_at "sx"
      refine And.intro (tyL_loc (xs := later.map iV) (by simp)) ?_
      walk_at "sx"
      have hll : (later.map iV).length ≤ 100 := by rw [hl] at hq; simp at hq ⊢; omega
      refine l_app (xs := later.map iV) (by simp) (Nat.lt_of_le_of_lt hll (by decide)) rfl ?_
      walk_at "sx"
      rw [show (μ ++ [Pl.dct (wsV (W ++ [(y, t ++ [b])])), Pl.gone, Pl.lst (later.map iV)]).set (μ.length + 2) (.lst (later.map iV ++ [iV y])) = μ ++ [.dct (wsV (W ++ [(y, t ++ [b])])), .gone, .lst ((later ++ [y]).map iV)] by simp]
      exact h _ _ (by rw [hl]; simp)
/-- one mark of the layer -/
theorem lwnode_s {n : Nat} {dl : D} (hms : MsOk ms) (hx : x ∈ W.map (·.1)) (g : Gd ms (W, q)) (hn : μ.length = n) (hq : 2 * (ms.length - W.length) + q.length ≤ 12) {x5 x6 : Option DV} {rest later : List Int} (hl : q = rest ++ later)
    (h : ∀ (y5 y6 : Option DV) (later' : List Int), (proc ms x (W, q)).2 = rest ++ later' → P.nx [some (.dat (.lst (ms.map markD))), some (.loc n), some (.dat dl), some (.loc (n + 2)), some (.dat (.int x)), y5, y6] (μ ++ [.dct (wsV (proc ms x (W, q)).1), .gone, .lst (later'.map iV)])) :
    SatS (b__law_ways_to_2 N [some (.dat (.lst (ms.map markD))), some (.loc n), some (.dat dl), some (.loc (n + 2)), some (.dat (.int x)), x5, x6] (μ ++ [.dct (wsV W), .gone, .lst (later.map iV)])) P := by
  subst hn
  have a6 := hms.h6
  unfold b__law_ways_to_2
  walk_at "sx"
  refine for_inv (fun j δ μ' => ∃ (later' : List Int) (y5 y6 : Option DV), (preS ms x (W, q) j).2 = rest ++ later' ∧ δ = [some (.dat (.lst (ms.map markD))), some (.loc μ.length), some (.dat dl), some (.loc (μ.length + 2)), some (.dat (.int x)), y5, y6] ∧ μ' = μ ++ [.dct (wsV (preS ms x (W, q) j).1), .gone, .lst (later'.map iV)]) ⟨later, _, _, hl, rfl, rfl⟩ (fun j d hd δ μ' hI => ?_) fun δ μ' hI => ?_
  · obtain ⟨later', y5, y6, hl', rfl, rfl⟩ := hI
    obtain ⟨hj, rfl⟩ := touch_at (show ((["less", "more"] : List Str).map D.str)[j]? = some d from hd)
    obtain ⟨p1, p2, p3⟩ := gd_pre hms g hx j (by omega)
    refine ⟨_, rfl, lwbody_s (q := (preS ms x (W, q) j).2) hms p2 p1 rfl (by omega) hl' fun z6 later2 hl2 => ?_⟩
    exact ⟨later2, none, none, by rw [pre_step j hj]; exact hl2, by simp [cut, DL.cutV], by rw [pre_step j hj]; exact List.take_of_length_le (by simp)⟩
  · obtain ⟨later', y5, y6, hl', rfl, rfl⟩ := hI
    exact h _ _ _ hl'
theorem lways_s (hms : MsOk ms) (h : ∀ W, Fin ms W → Gd ms (W, []) → QR (.nk (wsV W)) μ) : Sat (F__law_ways_to [.dat (.lst (ms.map markD))] μ) QR E := by
  have a1 := hms.h1
  have a6 := hms.h6
  refine w__law_ways_to ?_
  unfold g__law_ways_to
  walk_at "sx"
  refine ⟨_, rfl, by decide, _, _, if_pos (Nat.le_refl _), ?_⟩
  walk_at "sx"
  refine r_nl (by simp) ?_
  walk_at "sx"
  refine s_frz (n := μ.length + 1) (xs := [0].map iV) (ds := [0].map D.int) (by simp) (by omega) (by simp [noLocE, noLoc]) (by rw [List.drop_of_length_le (by simp)]; rfl) (by simp) rfl ?_
  walk_at "sx"
  refine wh_inv (fun m δ μ' => ∃ k W last, runS ms k = (W, last) ∧ m = 2 * (ms.length - W.length) + last.length ∧ δ = [some (.dat (.lst (ms.map markD))), some (.loc μ.length), some (.dat (.lst (last.map D.int))), none, none, none, none] ∧ μ' = μ ++ [.dct (wsV W), .gone]) (2 * (ms.length - 1) + 1) (by omega) ⟨0, _, _, rfl, rfl, by simp, by simp [wsV, mergeD, dput]⟩ fun m δ μ' hI => ?_
  obtain ⟨k, W, last, hr, rfl, rfl, rfl⟩ := hI
  have g := gd_run hms k
  rw [hr] at g
  walk_at "sx"
  refine ne_nilL (k := 0) (w := 40) (by decide) (fun d hd => ?_) ?_
  · obtain ⟨i, hi, rfl⟩ := List.mem_map.mp hd
    have hk := g.q i hi
    obtain ⟨p, hp, rfl⟩ := List.mem_map.mp hk
    have := g.lt p hp
    exact ⟨_, rfl, fit_int (by omega)⟩
  by_cases hl : last = []
  · subst hl
    walk_at "sx"
    exact e_locD (kvs := wsV W) mem_take (Nat.le_refl _) (by simp) (wsV_below _ _) (h W ⟨k, hr⟩ g)
  · have hpos : 0 < last.length := List.length_pos_iff.mpr hl
    walk_at "sx"
    refine if_bT (by simpa using hl) ?_
    refine ⟨by omega, ?_⟩
    unfold b__law_ways_to_3
    walk_at "sx"
    refine r_nl (by simp) ?_
    walk_at "sx"
    refine for_inv (fun j δ μ' => ∃ k' W' later, runS ms k' = (W', last.drop j ++ later) ∧ 2 * (ms.length - W'.length) + (last.drop j ++ later).length + j ≤ 2 * (ms.length - W.length) + last.length ∧ δ = [some (.dat (.lst (ms.map markD))), some (.loc μ.length), some (.dat (.lst (last.map D.int))), some (.loc (μ.length + 2)), none, none, none] ∧ μ' = μ ++ [.dct (wsV W'), .gone, .lst (later.map iV)]) ⟨k, W, [], by simpa using hr, by simp, by simp, by simp⟩ (fun j d hd δ μ' hI => ?_) fun δ μ' hI => ?_
    · obtain ⟨k', W', later, hr', hm', rfl, rfl⟩ := hI
      rw [List.getElem?_map] at hd
      obtain ⟨x, hx, rfl⟩ := Option.map_eq_some_iff.mp hd
      have ed : last.drop j = x :: last.drop (j + 1) := by
        obtain ⟨h1, h2⟩ := List.getElem?_eq_some_iff.mp hx
        rw [List.drop_eq_getElem_cons h1, h2]
      have g' := gd_run hms k'
      have hm2 := run_meas hms k'
      rw [hr'] at g' hm2
      rw [ed] at g' hm2 hm' hr'
      simp only [List.cons_append, List.length_cons] at g' hm2 hm' hr'
      have g0 : Gd ms (W', last.drop (j + 1) ++ later) := ⟨g'.nd, g'.lt, fun z hz => g'.q z (List.mem_cons_of_mem _ hz), g'.ln, g'.ne, g'.z⟩
      have hxk : x ∈ W'.map (·.1) := g'.q x List.mem_cons_self
      refine ⟨_, rfl, lwnode_s (q := last.drop (j + 1) ++ later) hms hxk g0 rfl (by omega) rfl fun y5 y6 later' hl' => ?_⟩
      obtain ⟨p1, p2⟩ := gd_proc hms g'
      refine ⟨k' + 1, (proc ms x (W', last.drop (j + 1) ++ later)).1, later', ?_, ?_, by simp [cut, DL.cutV], List.take_of_length_le (by simp)⟩
      · show stepS ms (runS ms k') = _
        rw [hr', ← hl']; rfl
      · rw [← hl']
        simp only [List.length_cons] at p2
        omega
    · obtain ⟨k', W', later, hr', hm', rfl, rfl⟩ := hI
      rw [List.length_map] at hm' hr'
      rw [List.drop_length, List.nil_append] at hr' hm'
      walk_at "sx"
      refine s_frz (n := μ.length + 2) (xs := later.map iV) (ds := later.map D.int) (by simp) (by omega) (by simp [noLocE, noLoc]) (by rw [List.drop_of_length_le (by simp)]; rfl) (by simp) (allDat_mapf _ _) ?_
      walk_at "sx"
      exact ⟨2 * (ms.length - W'.length) + later.length, by omega, k', W', later, hr', rfl, by simp [cut, DL.cutV], by simp [List.take_append, Nat.add_sub_cancel_left]; exact List.take_of_length_le (by omega)⟩
theorem reached_s (hms : MsOk ms) (hW : Fin ms W) (g : Gd ms (W, [])) (h : QR (.nl (dInts (sortI (W.map (·.1))))) μ) : Sat (F_reached_marks [.dat (ctrD ms)] μ) QR E := by
  have a6 := hms.h6
  have gl : W.length ≤ ms.length := g.le
  refine w_reached_marks ?_
  unfold g_reached_marks
  walk_at "sx"
  refine ways_from_s hms fun W' hW' _ => ?_
  obtain rfl := fin_one hW hW'
  refine ⟨_, _, rfl, wsV_dat W, ?_⟩
  walk_at "sx"
  have ek : (dctOf (.dat (.dct (wsD W))) μ).bind (fun kvs => kysI (kvs.map (·.1))) = some (W.map (·.1)) := wsD_keys W
  refine l_sortKI ek (by rw [List.length_map]; omega) ?_
  exact e_nl List.take_length (by unfold dInts; exact below_mapf _ _) h
def wayD (W : Ws) (i : Int) : D := ((wget W i).map fun t => .lst (t.map tD)).getD .non
theorem touches_s (hms : MsOk ms) (hW : Fin ms W) (g : Gd ms (W, [])) (hk : k < ms.length) (h : QR (.dat (wayD W k)) μ) : Sat (F_touches_to [.dat (ctrD ms), .dat (.int k)] μ) QR E := by
  refine w_touches_to ?_
  unfold g_touches_to
  walk_at "sx"
  refine ctr_need hk hms.h6 ?_
  walk_at "sx"
  refine ways_from_s hms fun W' hW' _ => ?_
  obtain rfl := fin_one hW hW'
  refine ⟨_, _, rfl, wsV_dat W, ?_⟩
  walk_at "sx"
  refine l_get1 (key_i k) (wsD_all W) ?_
  rw [wsD_val]
  walk_at "sx"
  exact h
/-- values that are no number of a mark -/
def Off (n : Nat) (d : D) : Prop := NoI d = true ∨ ∃ i : Int, d = .int i ∧ ¬ (0 ≤ i ∧ i < n)
theorem need_off (h6 : ms.length ≤ 6) (hd : Off ms.length d) (h : E ⟨"NoMark", [("number", d)]⟩ μ) : Sat (F_Counter_need_mark [.dat (ctrD ms), .dat d] μ) QR E := by
  refine w_Counter_need_mark ?_
  unfold g_Counter_need_mark
  walk_at "sx"
  refine ctr_len ⟨_, rfl, ⟨by omega, by omega⟩, ?_⟩
  walk_at "sx"
  rcases hd with hd | ⟨i, rfl, hi⟩
  · refine number_N hd ?_
    walk_at "sx"
    show E _ (μ.take μ.length)
    rw [List.take_length]; exact h
  · refine number_I ?_
    walk_at "sx"
    refine if_bT (by simp; omega) ?_
    walk_at "sx"
    show E _ (μ.take μ.length)
    rw [List.take_length]; exact h
theorem led_off (h6 : ms.length ≤ 6) (hd : Off ms.length d) {ts : D} (h : E ⟨"NoMark", [("number", d)]⟩ μ) : Sat (F_led [.dat (ctrD ms), .dat d, .dat ts] μ) QR E := by
  refine w_led ?_
  unfold g_led
  walk_at "sx"
  refine need_off h6 hd ?_
  show E _ (μ.take μ.length)
  rw [List.take_length]; exact h
theorem touches_off (h6 : ms.length ≤ 6) (hd : Off ms.length d) (h : E ⟨"NoMark", [("number", d)]⟩ μ) : Sat (F_touches_to [.dat (ctrD ms), .dat d] μ) QR E := by
  refine w_touches_to ?_
  unfold g_touches_to
  walk_at "sx"
  refine need_off h6 hd ?_
  show E _ (μ.take μ.length)
  rw [List.take_length]; exact h
theorem heard_s {w : Nat} (hw : w < 3) (h6 : ms.length ≤ 6) (hd : Off ms.length d) (h : QR (.dat (.tup [.str "none", d])) μ) : Sat (F__law_heard [.dat (.int w), .dat (ctrD ms), .dat d] μ) QR E := by
  refine w__law_heard ?_
  unfold g__law_heard
  walk_at "sx"
  unfold b__law_heard_1
  have fail : TryK [("NoMark", true)] 3 (fun a C dd => (gRet (eIf (tmB (eIsE 3 a C dd [("NoMark", true)])) (eTup (aCons (eD (.str "none")) (aCons (eXf 3 a C dd "NoMark" "number") aNil))) (eTup (aCons (eD (.str "other")) (aCons (eD .non) aNil)))))) μ.length (endP μ.length QR (fun _ _ => False)) ⟨"NoMark", [("number", d)]⟩ [some (.dat (.int w)), some (.dat (ctrD ms)), some (.dat d), none] μ := by
    refine ⟨⟨by rfl, by simp⟩, .ret (.dat (.tup [.str "none", d])) μ, fun a C dd => ?_, ?_⟩
    · walk_at "sx"
      exact rfl
    · show (endP μ.length QR (fun _ _ => False)).rt (.dat (.tup [.str "none", d])) μ
      walk_at "sx"
      exact h
  have h3 : w = 0 ∨ w = 1 ∨ w = 2 := by omega
  rcases h3 with rfl | rfl | rfl
  · walk_at "sx"
    exact led_off h6 hd fail
  · walk_at "sx"
    exact touches_off h6 hd fail
  · walk_at "sx"
    exact led_off h6 hd fail
end
end K33
end
set_option maxHeartbeats 1000000
noncomputable section
namespace K33
open PySem PySem.Spec PyProof.Rows L2 DL
local macro_rules | `(tactic| walk_at "isi") => `(tactic| first
  | (with_reducible refine is_non_int ?_) | (with_reducible refine is_non_bool ?_) | (with_reducible refine is_non_str ?_) | (with_reducible refine is_non_tuple ?_) | (with_reducible refine is_non_list ?_) | (with_reducible refine is_non_dict ?_) | (with_reducible refine is2_non_list_tuple ?_) | (with_reducible refine isC_non ?_) | (with_reducible refine is_bl_int ?_) | (with_reducible refine is_bl_bool ?_) | (with_reducible refine is_bl_str ?_) | (with_reducible refine is_bl_tuple ?_) | (with_reducible refine is_bl_list ?_) | (with_reducible refine is_bl_dict ?_) | (with_reducible refine is2_bl_list_tuple ?_) | (with_reducible refine isC_bl ?_) | (with_reducible refine is_int_int ?_) | (with_reducible refine is_int_bool ?_) | (with_reducible refine is_int_str ?_) | (with_reducible refine is_int_tuple ?_) | (with_reducible refine is_int_list ?_) | (with_reducible refine is_int_dict ?_) | (with_reducible refine is2_int_list_tuple ?_) | (with_reducible refine isC_int ?_) | (with_reducible refine is_str_int ?_) | (with_reducible refine is_str_bool ?_) | (with_reducible refine is_str_str ?_) | (with_reducible refine is_str_tuple ?_) | (with_reducible refine is_str_list ?_) | (with_reducible refine is_str_dict ?_) | (with_reducible refine is2_str_list_tuple ?_) | (with_reducible refine isC_str ?_) | (with_reducible refine is_tup_int ?_) | (with_reducible refine is_tup_bool ?_) | (with_reducible refine is_tup_str ?_) | (with_reducible refine is_tup_tuple ?_) | (with_reducible refine is_tup_list ?_) | (with_reducible refine is_tup_dict ?_) | (with_reducible refine is2_tup_list_tuple ?_) | (with_reducible refine isC_tup ?_) | (with_reducible refine is_lst_int ?_) | (with_reducible refine is_lst_bool ?_) | (with_reducible refine is_lst_str ?_) | (with_reducible refine is_lst_tuple ?_) | (with_reducible refine is_lst_list ?_) | (with_reducible refine is_lst_dict ?_) | (with_reducible refine is2_lst_list_tuple ?_) | (with_reducible refine isC_lst ?_) | (with_reducible refine is_fro_int ?_) | (with_reducible refine is_fro_bool ?_) | (with_reducible refine is_fro_str ?_) | (with_reducible refine is_fro_tuple ?_) | (with_reducible refine is_fro_list ?_) | (with_reducible refine is_fro_dict ?_) | (with_reducible refine is2_fro_list_tuple ?_) | (with_reducible refine isC_fro ?_) | (with_reducible refine is_dct_int ?_) | (with_reducible refine is_dct_bool ?_) | (with_reducible refine is_dct_str ?_) | (with_reducible refine is_dct_tuple ?_) | (with_reducible refine is_dct_list ?_) | (with_reducible refine is_dct_dict ?_) | (with_reducible refine is2_dct_list_tuple ?_) | (with_reducible refine isC_dct ?_) | (with_reducible refine isC_own ?_)
  | (with_reducible refine is2_ins (by simp) ?_) | (with_reducible refine is_ins_int (by simp) ?_) | (with_reducible refine is_ins_bool (by simp) ?_) | (with_reducible refine is_ins_str (by simp) ?_) | (with_reducible refine is_ins_tuple (by simp) ?_) | (with_reducible refine is_ins_list (by simp) ?_) | (with_reducible refine is_ins_dict (by simp) ?_) | fail "isi")
local macro_rules | `(tactic| walk_at "tk") => `(tactic| first | exact List.take_length | exact take_cons | exact take_consA | exact mem_take | exact take_len | fail "tk")
local macro_rules | `(tactic| walk_at "al") => `(tactic| first | exact allDat_mapf _ _ | exact allDat_map _ | (repeat (first | exact al_nil | apply al_cons)))
local macro_rules | `(tactic| walk_at "set") => `(tactic| (simp only [List.set_cons_succ, List.set_cons_zero]; exact rfl))
local macro_rules | `(tactic| walk_at "sxS") => `(tactic| first | (with_reducible refine set_now (by walk_at "set") ?_) | (with_reducible refine s_seq ?_) | (with_reducible refine s_asg ?_) | (with_reducible refine s_ret ?_) | (with_reducible refine s_if ?_) | (with_reducible refine s_drop ?_) | (with_reducible refine s_next ?_) | (with_reducible refine s_new ?_) | (with_reducible refine s_for ?_) | (with_reducible refine s_tgt ?_) | (with_reducible refine s_par ?_) | (with_reducible refine s_disp ?_) | (with_reducible refine s_wh ?_) | (with_reducible refine s_fld ?_) | (with_reducible refine s_set ?_) | (with_reducible refine s_aug rfl ?_) | (with_reducible refine s_par2 ?_) | (with_reducible refine s_raiseK ?_) | (with_reducible refine s_try ?_) | (with_reducible refine s_dput ?_) | (with_reducible refine r_dat ?_) | (with_reducible refine r_loc ?_) | fail "sxS")
local macro_rules | `(tactic| walk_at "sxV") => `(tactic| first | (with_reducible refine v_var rfl ?_) | (with_reducible refine v_D ?_) | (with_reducible refine x_fz ?_) | fail "sxV")
local macro_rules | `(tactic| walk_at "sxA") => `(tactic| first | (with_reducible refine a_consK ?_) | (with_reducible refine a_nilK ?_) | (with_reducible refine n_consK ?_) | (with_reducible refine n_nilK ?_) | fail "sxA")
local macro_rules | `(tactic| walk_at "sxT") => `(tactic| first | (with_reducible refine t_B ?_) | (with_reducible refine t_not ?_) | (with_reducible refine t_and ?_) | (with_reducible refine t_or ?_) | (with_reducible refine t_yes ?_) | fail "sxT")
local macro_rules | `(tactic| walk_at "sxO") => `(tactic| first | (with_reducible refine o_noneK ?_) | (with_reducible refine o_someK ?_) | fail "sxO")
local macro_rules | `(tactic| walk_at "sxP") => `(tactic| first | (with_reducible refine p_nilK ?_) | (with_reducible refine p_consK ?_) | fail "sxP")
local macro_rules | `(tactic| walk_at "sxI") => `(tactic| first | (with_reducible refine i_seq ?_) | (with_reducible refine i_enum ?_) | (with_reducible refine i_rng ?_) | (with_reducible refine i_rng2 ?_) | fail "sxI")
local macro_rules | `(tactic| walk_at "sxF") => `(tactic| first | (with_reducible refine z_dat ?_) | (with_reducible refine z_loc ?_) | (with_reducible refine z_ofD ?_) | (with_reducible refine z_nlm ?_) | (with_reducible refine z_nlf ?_) | (with_reducible refine z_nlc ?_) | (with_reducible refine z_nl (by walk_at "al") ?_) | fail "sxF")
local macro_rules | `(tactic| walk_at "sxC") => `(tactic| first | (with_reducible refine if_T ?_) | (with_reducible refine if_F ?_) | (with_reducible refine if_bT (by decide +kernel) ?_) | (with_reducible refine if_bF (by decide +kernel) ?_) | (with_reducible refine if_bT (by with_unfolding_all exact rfl) ?_) | (with_reducible refine if_bF (by with_unfolding_all exact rfl) ?_) | fail "sxC")
local macro_rules | `(tactic| walk_at "sxD") => `(tactic| first | (with_reducible refine l_addI ?_) | (with_reducible refine l_sub ?_) | (with_reducible refine l_neg ?_) | (with_reducible refine l_eqI ?_) | (with_reducible refine l_neI ?_) | (with_reducible refine l_eqS ?_) | (with_reducible refine l_neS ?_) | (with_reducible refine l_lt ?_) | (with_reducible refine l_le ?_) | (with_reducible refine l_gt ?_) | (with_reducible refine l_ge ?_) | (with_reducible refine l_ixT rfl ?_) | (with_reducible refine l_ixL rfl ?_) | (with_reducible refine l_slT ?_) | (with_reducible refine l_slL ?_) | (with_reducible refine l_lenT ?_) | (with_reducible refine l_lenL ?_) | (with_reducible refine l_int ?_) | (with_reducible refine l_intB ?_) | (with_reducible refine l_listT ?_) | (with_reducible refine l_listL ?_) | (with_reducible refine l_tupL ?_) | (with_reducible refine l_tupT ?_) | (with_reducible refine l_inT ?_) | (with_reducible refine l_ninT ?_) | (with_reducible refine l_inL ?_) | (with_reducible refine l_ninL ?_) | (with_reducible refine l_mm ?_) | (with_reducible refine w_ix ?_; first | (with_reducible refine l_ixT rfl ?_) | (with_reducible refine l_ixL rfl ?_) | (with_reducible refine l_ix0T ?_) | (with_reducible refine l_ix0L ?_)) | (with_reducible refine w_in ?_; first | (with_reducible refine l_inT ?_) | (with_reducible refine l_ninT ?_) | (with_reducible refine l_inL ?_) | (with_reducible refine l_ninL ?_)) | (with_reducible refine w_eq ?_; first | (with_reducible refine l_eqI ?_) | (with_reducible refine l_eqS ?_)) | (with_reducible refine w_len ?_; first | (with_reducible refine l_lenT ?_) | (with_reducible refine l_lenL ?_)) | (with_reducible refine w_list ?_; first | (with_reducible refine l_listT ?_) | (with_reducible refine l_listL ?_)) | (walk_at "isi") | fail "sxD")
local macro_rules | `(tactic| walk_at "sxR") => `(tactic| first | (with_reducible refine x_op ?_) | (with_reducible refine x_cb ?_) | (with_reducible refine x_varD rfl ?_) | (with_reducible refine x_varL rfl ?_) | (with_reducible refine x_D ?_) | (with_reducible refine x_if ?_) | (with_reducible refine x_tup ?_) | (with_reducible refine x_lst ?_) | (with_reducible refine x_bm ?_) | (with_reducible refine x_bm0 ?_) | (with_reducible refine x_sl ?_) | (with_reducible refine x_and ?_) | (with_reducible refine x_or ?_) | (with_reducible refine x_not ?_) | (with_reducible refine x_un ?_) | (with_reducible refine x_isN ?_) | (with_reducible refine x_notN ?_) | (with_reducible refine x_chain ?_) | (with_reducible refine x_inK ?_) | (with_reducible refine x_lc ?_) | (with_reducible refine x_fldK ?_) | (with_reducible refine x_meth ?_) | (with_reducible refine x_make ?_) | (with_reducible refine x_lenO ?_) | (with_reducible refine x_eqO ?_) | (with_reducible refine x_inO ?_) | (with_reducible refine x_kget ?_) | (with_reducible refine x_lk ?_) | (with_reducible refine x_disK ?_) | (with_reducible refine x_dnew ?_) | (with_reducible refine x_dget1 ?_) | (with_reducible refine x_cbT ?_) | (with_reducible refine x_listRng ?_) | (with_reducible refine x_isE rfl rfl ?_) | (with_reducible refine x_xf rfl rfl ?_) | (walk_at "sxD") | fail "sxR")
local macro_rules | `(tactic| walk_at "sxE") => `(tactic| first | (with_reducible refine e_dat (by walk_at "tk") ?_) | (with_reducible refine e_ofD (by walk_at "tk") ?_) | (with_reducible refine e_nlf (by walk_at "tk") ?_) | (with_reducible refine e_nlm (by walk_at "tk") ?_) | (with_reducible refine e_nl (by walk_at "tk") (by with_unfolding_all exact rfl) ?_) | fail "sxE")
local macro_rules | `(tactic| walk_at "sxX") => `(tactic| first | (with_reducible refine b_bl ?_) | (with_reducible refine b_ofD ?_) | (with_reducible refine p_dat ?_) | (with_reducible refine p_loc ?_) | (with_reducible refine ik ?_) | (with_reducible refine stk ?_) | (with_reducible refine sk_l ?_) | (with_reducible refine sk_t ?_) | (with_reducible refine sk_f ?_) | (with_reducible refine pk ?_) | (with_reducible refine gk rfl ?_) | (with_reducible refine tk (by walk_at "al") (sz_lit rfl) ?_) | (with_reducible refine fk1 (by simp) ?_) | (with_reducible refine e_nx (by walk_at "tk") ?_) | (with_reducible refine And.intro (sz_lit rfl) ?_) | (with_reducible refine dkk ?_) | (with_reducible refine And.intro isDct_dat ?_) | (with_reducible refine And.intro ty_l ?_) | (with_reducible refine And.intro ty_s ?_) | (with_reducible refine And.intro (isI_one (by decide)) ?_) | (with_reducible refine And.intro (tyL_loc mem_here) ?_) | fail "sxX")
local macro_rules | `(tactic| walk_at "sx1") => `(tactic| first | (with_reducible refine gS ?_; walk_at "sxS") | (with_reducible refine gV ?_; walk_at "sxV") | (with_reducible refine gR ?_; walk_at "sxR") | (with_reducible refine gA ?_; walk_at "sxA") | (with_reducible refine gT ?_; walk_at "sxT") | (with_reducible refine gF ?_; walk_at "sxF") | (with_reducible refine gC ?_; walk_at "sxC") | (with_reducible refine gRt ?_; walk_at "sxE") | (with_reducible refine gO ?_; walk_at "sxO") | (with_reducible refine gI ?_; walk_at "sxI") | (with_reducible refine gP ?_; walk_at "sxP") | (walk_at "sxX") | fail "sx")
local macro_rules | `(tactic| walk_at "sx") => `(tactic| repeat' (walk_at "sx1"))
local macro_rules | `(tactic| walk_at "sxs") => `(tactic| repeat' (first | (walk_at "sx1") | (with_reducible refine if_dec (fun _ => ?_) (fun _ => ?_)) | (with_reducible refine if_ndec (fun _ => ?_) (fun _ => ?_)) | fail "sxs"))
section
variable {QR : R → Mem → Prop} {E : Xc → Mem → Prop} {μ ν : Mem} {B : Bg} {ms : List Mk} {b : Bool} {k N : Nat} {d : D} {P : PO} {W : Ws}
theorem alike_s {x y : DV} {k w : Nat} (hx : peek μ x = some d) (hy : peek μ y = some d) (h : Fk k w d) (hk : k ≤ 64) (hw : w ≤ 2 ^ 20) (q : QR (.dat (.bl true)) μ) : Sat (F__law_alike [x, y] μ) QR E := by
  rw [e__law_alike]; exact alikeA hx hy h hk hw q
theorem th_non {args : List D} {Q : R → Prop} (h : Q (.dat .non)) : ThawK args (.dat .non) Q := h
theorem fk_t (b : Bool) : Fk 0 73 (tD b) := by
  cases b
  · exact (fk_str (m := 4) (by decide +kernel) (by decide)).mono (by decide) (by decide)
  · exact (fk_str (m := 4) (by decide +kernel) (by decide)).mono (by decide) (by decide)
theorem fk_ts {ts : List Bool} (h : ts.length ≤ 13) : Fk 1 1000 (.lst (ts.map tD)) := by
  refine (fk_lst (k := 0) (w := 73) (n := 13) (fun d hd => ?_) (by simpa using h)).mono (by decide) (by decide)
  obtain ⟨b, _, rfl⟩ := List.mem_map.mp hd
  exact fk_t b
theorem marks_flat (ms : List Mk) : lnodesL (ms.map markD) = [] := by
  induction ms with
  | nil => rfl
  | cons m ms ih =>
    have e : lnodes (markD m) = [] := by
      obtain ⟨a, l, c⟩ := m
      cases l <;> rfl
    rw [List.map_cons, lnodesL, e, ih]; rfl
theorem ts_flat (ts : List Bool) : lnodesL (ts.map tD) = [] := by
  induction ts with
  | nil => rfl
  | cons m ms ih => rw [List.map_cons, lnodesL, ih]; rfl
theorem ctr_nodes (ms : List Mk) (i : Int) : lnodesL [ctrD ms, .int i] = [ms.map markD] := by
  show ((ms.map markD :: lnodesL (ms.map markD)) ++ []) ++ ([] ++ []) = _
  rw [marks_flat]; rfl
theorem apart_ts (ts : List Bool) {ms : List Mk} (h : 1 ≤ ms.length) : apart (ts.map tD) (ms.map markD) = true := by
  cases ms with
  | nil => simp at h
  | cons m ms =>
    cases ts with
    | nil => rfl
    | cons t ts => unfold apart; simp [vk]
/-- one mark asked -/
theorem b1_s {x0 x1 x2 x3 x6 x7 x8 x10 x11 x12 x13 x14 x15 x16 : Option DV} (hN : N ≤ μ.length) (hms : MsOk ms) (hW : Fin ms W) (g : Gd ms (W, [])) (hk : k < ms.length)
    (h : ∀ (y10 : Option DV) (X : Mem), P.nx [x0, x1, x2, x3, some (.dat (ctrD ms)), some (.dat (.dct (wsD W))), x6, x7, x8, some (.dat (.int k)), y10, x11, x12, x13, x14, x15, x16] (μ ++ X)) :
    SatS (b_law_1 N [x0, x1, x2, x3, some (.dat (ctrD ms)), some (.dat (.dct (wsD W))), x6, x7, x8, some (.dat (.int k)), x10, x11, x12, x13, x14, x15, x16] μ) P := by
  have a1 := hms.h1
  have a6 := hms.h6
  have gl : W.length ≤ ms.length := g.le
  unfold b_law_1
  walk_at "sx"
  refine ⟨_, rfl, touches_s hms hW g hk ?_⟩
  have hw : wayD W k = ((wget W k).map fun t => D.lst (t.map tD)).getD .non := rfl
  cases e : wget W k with
  | none =>
    rw [e] at hw
    rw [hw]
    refine th_non ?_
    walk_at "sx"
    refine l_get1 (key_i k) (wsD_all W) ?_
    rw [wsD_val, e]
    walk_at "sx"
    refine alike_s (d := .non) pk_dat pk_dat fk_non (by decide) (by decide) ?_
    walk_at "sx"
    have := h (some (.dat .non)) []
    rw [List.append_nil] at this
    exact this
  | some t =>
    rw [e] at hw
    have hw : wayD W k = .lst (t.map tD) := hw
    have tl : t.length + 1 ≤ W.length := g.ln _ (wget_mem e)
    rw [hw]
    refine ⟨⟨by rw [ctr_nodes]; simp [apart_ts t a1], by rw [ts_flat]; rfl⟩, ?_⟩
    refine r_nl hN ?_
    walk_at "sx"
    refine l_get1 (key_i k) (wsD_all W) ?_
    rw [wsD_val, e]
    walk_at "sx"
    refine alike_s (d := .lst (t.map tD)) (peek_loc (by simp)) pk_dat (fk_ts (by omega)) (by decide) (by decide) ?_
    walk_at "sx"
    refine l_app (xs := (t.map tD).map DV.dat) (by simp) (Nat.lt_of_le_of_lt (show _ ≤ 6 by simp; omega) (by decide)) rfl ?_
    walk_at "sx"
    rw [show (μ ++ [Pl.lst ((t.map tD).map DV.dat)]).set μ.length (.lst ((t.map tD).map DV.dat ++ [.dat (.str "more")])) = μ ++ [.lst ((t.map tD).map DV.dat ++ [.dat (.str "more")])] by simp]
    exact h _ _
theorem fk_keys (hms : MsOk ms) (g : Gd ms (W, [])) : Fk 1 300 (.lst ((sortI (W.map (·.1))).map D.int)) := by
  have a6 := hms.h6
  have gl : W.length ≤ ms.length := g.le
  have hp := sortI_perm (W.map (·.1))
  refine (fk_lst (k := 0) (w := 13) (n := 6) (fun d hd => ?_) (by rw [List.length_map, hp.length_eq, List.length_map]; omega)).mono (by decide) (by decide)
  obtain ⟨i, hi, rfl⟩ := List.mem_map.mp hd
  obtain ⟨p, hp', rfl⟩ := List.mem_map.mp (hp.mem_iff.mp hi)
  have := g.lt p hp'
  exact fk_int (by omega)
theorem ints_dat (l : List Int) : dInts l = (l.map D.int).map DV.dat := by unfold dInts; rw [List.map_map]; rfl
theorem ints_all (l : List Int) : allDat (dInts l) = some (l.map D.int) := by rw [ints_dat]; exact allDat_map _
theorem rep_w {n w : Nat} (hw : w < 2) : (List.replicate ((w : Int).toNat) ((List.range n).map fun i => DV.dat (.int (i : Nat)))).flatten = ((List.range (n * w)).map fun i => D.int (i : Nat)).map DV.dat := by
  have h2 : w = 0 ∨ w = 1 := by omega
  rcases h2 with rfl | rfl
  · simp
  · simp [List.map_map, Function.comp_def]
theorem b2t_s {x9 x10 x11 x12 x13 x14 x15 x16 : Option DV} {d0 d2 d6 : D} {w : Nat} {zs : List DV} (hB : B.ok) (hw : w < 2) (hms : MsOk ms) (hW : Fin ms W) (g : Gd ms (W, []))
    (h : ∀ (B' : Bg) (y9 y10 y11 y12 y13 y14 y15 y16 : Option DV) (X : Mem), B'.ok → P.nx [some (.dat d0), some (.loc 0), some (.dat d2), some (.dat (.lst (ms.map markD))), some (.dat (ctrD ms)), some (.dat (.dct (wsD W))), some (.dat d6), some (.dat (.int w)), some (.loc 1), y9, y10, y11, y12, y13, y14, y15, y16] (B'.pl :: X)) :
    SatS (gFor [true, true, true, true, true, true, true, true, true, false, false, false, false, false, false, false, false] (imSeq (eCB F__law_mixed (aCons (eVar 1) (aCons (eOp dMulX (eListRng (eCB dLenA (aCons (eVar 3) aNil))) (eVar 7)) aNil)))) (tgName 9) b_law_1 0
      [some (.dat d0), some (.loc 0), some (.dat d2), some (.dat (.lst (ms.map markD))), some (.dat (ctrD ms)), some (.dat (.dct (wsD W))), some (.dat d6), some (.dat (.int w)), some (.loc 1), x9, x10, x11, x12, x13, x14, x15, x16] [B.pl, .lst zs]) P := by
  have a1 := hms.h1
  have a6 := hms.h6
  walk_at "sx"
  refine And.intro ⟨by omega, by simp; omega⟩ ?_
  walk_at "sx"
  rw [List.length_map, Int.toNat_natCast]
  with_reducible refine l_rep (xs := (List.range ms.length).map fun i => DV.dat (.int (i : Nat))) (by simp [asM, List.map_map, Function.comp_def]) (by with_unfolding_all exact rfl) ⟨by omega, by omega, ?_⟩ ?_
  · rw [List.length_map, List.length_range]
    refine Nat.le_trans (Nat.mul_le_mul a6 (show ((w : Int).toNat) ≤ 1 by omega)) (by decide)
  rw [rep_w hw]
  walk_at "sx"
  have hnw : ms.length * w ≤ ms.length := by
    have h2 : w = 0 ∨ w = 1 := by omega
    rcases h2 with rfl | rfl <;> simp
  refine mixed_s (k := 0) (w := 40) (by decide) hB (by simp; omega) (fun d hd => ?_) fun ys B1 hB1 hp => ?_
  · obtain ⟨i, hi, rfl⟩ := List.mem_map.mp hd
    have := List.mem_range.mp hi
    exact ⟨_, rfl, fit_int (by omega)⟩
  walk_at "sx"
  refine for_inv (fun j δ μ' => ∃ (y9 y10 y11 y12 y13 y14 y15 y16 : Option DV), δ = [some (.dat d0), some (.loc 0), some (.dat d2), some (.dat (.lst (ms.map markD))), some (.dat (ctrD ms)), some (.dat (.dct (wsD W))), some (.dat d6), some (.dat (.int w)), some (.loc 1), y9, y10, y11, y12, y13, y14, y15, y16] ∧ μ' = [B1.pl, .lst zs]) ⟨_, _, _, _, _, _, _, _, rfl, rfl⟩ (fun j d hd δ μ' hI => ?_) fun δ μ' hI => ?_
  · obtain ⟨y9, y10, y11, y12, y13, y14, y15, y16, rfl, rfl⟩ := hI
    obtain ⟨i, hi, rfl⟩ := List.mem_map.mp (hp.mem_iff.mp (List.mem_of_getElem? hd))
    have := List.mem_range.mp hi
    refine ⟨_, rfl, b1_s (Nat.zero_le _) hms hW g (by omega) fun z10 X => ?_⟩
    exact ⟨none, none, none, none, none, none, none, none, rfl, rfl⟩
  · obtain ⟨y9, y10, y11, y12, y13, y14, y15, y16, rfl, rfl⟩ := hI
    exact h _ _ _ _ _ _ _ _ _ _ hB1
/-- one way: marks that come, then all marks in a drawn order -/
theorem b2_s {x8 x9 x10 x11 x12 x13 x14 x15 x16 : Option DV} {d0 d2 d6 : D} {w : Nat} (hB : B.ok) (hw : w < 2) (hms : MsOk ms) (hW : Fin ms W) (g : Gd ms (W, []))
    (h : ∀ (B' : Bg) (y9 y10 y11 y12 y13 y14 y15 y16 : Option DV) (X : Mem), B'.ok → P.nx [some (.dat d0), some (.loc 0), some (.dat d2), some (.dat (.lst (ms.map markD))), some (.dat (ctrD ms)), some (.dat (.dct (wsD W))), some (.dat d6), some (.dat (.int w)), some (.loc 1), y9, y10, y11, y12, y13, y14, y15, y16] (B'.pl :: X)) :
    SatS (b_law_2 0 [some (.dat d0), some (.loc 0), some (.dat d2), some (.dat (.lst (ms.map markD))), some (.dat (ctrD ms)), some (.dat (.dct (wsD W))), some (.dat d6), some (.dat (.int w)), x8, x9, x10, x11, x12, x13, x14, x15, x16] [B.pl]) P := by
  have a1 := hms.h1
  have a6 := hms.h6
  have gl : W.length ≤ ms.length := g.le
  unfold b_law_2
  walk_at "sx"
  refine reached_s hms hW g ?_
  refine r_nl (Nat.zero_le _) ?_
  rw [ints_dat]
  have hz : ((((sortI (W.map (·.1))).map D.int).map DV.dat)).length < sizeLine := by
    rw [List.length_map, List.length_map, (sortI_perm _).length_eq, List.length_map]
    exact Nat.lt_of_le_of_lt (show W.length ≤ 6 by omega) (by decide)
  have h2 : w = 0 ∨ w = 1 := by omega
  rcases h2 with rfl | rfl
  · walk_at "sx"
    have ek : (dctOf (.dat (.dct (wsD W))) (([B.pl] : Mem) ++ [Pl.lst (((sortI (W.map (·.1))).map D.int).map DV.dat)])).bind (fun kvs => kysI (kvs.map (·.1))) = some (W.map (·.1)) := wsD_keys W
    refine l_sortKI ek (by rw [List.length_map]; omega) ?_
    rw [ints_dat]
    walk_at "sx"
    refine alike_s (d := .lst ((sortI (W.map (·.1))).map D.int)) (peek_loc rfl) pk_dat (fk_keys hms g) (by decide) (by decide) ?_
    walk_at "sx"
    refine l_app (xs := ((sortI (W.map (·.1))).map D.int).map DV.dat) rfl hz rfl ?_
    exact b2t_s hB hw hms hW g h
  · walk_at "sx"
    refine l_app (xs := ((sortI (W.map (·.1))).map D.int).map DV.dat) rfl hz rfl ?_
    exact b2t_s hB hw hms hW g h
theorem b3_s {x7 x8 x9 x10 x11 x12 x13 x14 x15 x16 : Option DV} {d0 d2 d6 : D} (hB : B.ok) (hms : MsOk ms) (hW : Fin ms W) (g : Gd ms (W, []))
    (h : ∀ (B' : Bg) (y7 y8 y9 y10 y11 y12 y13 y14 y15 y16 : Option DV), B'.ok → P.nx [some (.dat d0), some (.loc 0), some (.dat d2), some (.dat (.lst (ms.map markD))), some (.dat (ctrD ms)), some (.dat (.dct (wsD W))), some (.dat d6), y7, y8, y9, y10, y11, y12, y13, y14, y15, y16] [B'.pl]) :
    SatS (b_law_3 0 [some (.dat d0), some (.loc 0), some (.dat d2), some (.dat (.lst (ms.map markD))), some (.dat (ctrD ms)), some (.dat (.dct (wsD W))), some (.dat d6), x7, x8, x9, x10, x11, x12, x13, x14, x15, x16] [B.pl]) P := by
  unfold b_law_3
  walk_at "sx"
  refine mixed_s (k := 0) (w := 40) (by decide) hB (by decide) (fun d hd => ?_) fun ys B1 hB1 hp => ?_
  · simp only [List.mem_cons, List.not_mem_nil, or_false] at hd
    rcases hd with rfl | rfl
    · exact ⟨_, rfl, fit_int (by decide)⟩
    · exact ⟨_, rfl, fit_int (by decide)⟩
  walk_at "sx"
  refine for_inv (fun j δ μ' => ∃ (B' : Bg) (y7 y8 y9 y10 y11 y12 y13 y14 y15 y16 : Option DV), B'.ok ∧ δ = [some (.dat d0), some (.loc 0), some (.dat d2), some (.dat (.lst (ms.map markD))), some (.dat (ctrD ms)), some (.dat (.dct (wsD W))), some (.dat d6), y7, y8, y9, y10, y11, y12, y13, y14, y15, y16] ∧ μ' = [B'.pl]) ⟨B1, _, _, _, _, _, _, _, _, _, _, hB1, rfl, rfl⟩ (fun j d hd δ μ' hI => ?_) fun δ μ' hI => ?_
  · obtain ⟨B', y7, y8, y9, y10, y11, y12, y13, y14, y15, y16, hB', rfl, rfl⟩ := hI
    have hm := hp.mem_iff.mp (List.mem_of_getElem? hd)
    simp only [List.mem_cons, List.not_mem_nil, or_false] at hm
    have hw : ∃ w : Nat, w < 2 ∧ d = .int (w : Nat) := by
      rcases hm with rfl | rfl
      · exact ⟨0, by decide, rfl⟩
      · exact ⟨1, by decide, rfl⟩
    obtain ⟨w, hw, rfl⟩ := hw
    refine ⟨_, rfl, b2_s hB' hw hms hW g fun B2 z9 z10 z11 z12 z13 z14 z15 z16 X hB2 => ?_⟩
    exact ⟨B2, none, none, none, none, none, none, none, none, none, none, hB2, rfl, rfl⟩
  · obtain ⟨B', y7, y8, y9, y10, y11, y12, y13, y14, y15, y16, hB', rfl, rfl⟩ := hI
    exact h _ _ _ _ _ _ _ _ _ _ _ hB'
theorem fk_opt {n : Nat} (hn : n ≤ 6) {o : Option Int} (h : InR n o) : Fk 0 13 (optD o) := by
  cases o with
  | none => exact fk_non.mono (by decide) (by decide)
  | some i => have := h i rfl; exact fk_int (by omega)
theorem b4_s {x6 x7 x8 x9 x10 x11 x12 x13 x14 x15 x16 : Option DV} {d0 d2 : D} (hB : B.ok) (hms : MsOk ms)
    (h : ∀ (B' : Bg) (y6 y7 y8 y9 y10 y11 y12 y13 y14 y15 y16 : Option DV), B'.ok → P.nx [some (.dat d0), some (.loc 0), some (.dat d2), some (.dat (.lst (ms.map markD))), some (.dat (ctrD ms)), some (.dat (.dct (wsD W))), y6, y7, y8, y9, y10, y11, y12, y13, y14, y15, y16] [B'.pl]) :
    SatS (b_law_4 0 [some (.dat d0), some (.loc 0), some (.dat d2), some (.dat (.lst (ms.map markD))), some (.dat (ctrD ms)), some (.dat (.dct (wsD W))), x6, x7, x8, x9, x10, x11, x12, x13, x14, x15, x16] [B.pl]) P := by
  have a1 := hms.h1
  have a6 := hms.h6
  unfold b_law_4
  walk_at "sx"
  rw [List.length_map]
  refine take_s hB (by omega) (by omega) fun r B1 hB1 hr => ?_
  walk_at "sx"
  refine take_s hB1 (by decide) (by decide) fun r2 B2 hB2 hr2 => ?_
  walk_at "sx"
  refine And.intro ⟨by omega, by omega⟩ (And.intro (sl_sz (by rw [rng_len]; omega)) ?_)
  rw [Int.toNat_natCast]
  refine lc_ix (fun i ys μ => ∃ (ts : List Bool) (B' : Bg), B'.ok ∧ μ = [B'.pl] ∧ ts.length = i ∧ ys = ts.map fun b => DV.dat (tD b)) ⟨[], B2, hB2, rfl, rfl, rfl⟩ (fun i d hd ys μ hI => ?_) fun ys μ hI => ?_
  · obtain ⟨ts, B', hB', rfl, hl', rfl⟩ := hI
    refine ⟨_, rfl, ?_⟩
    walk_at "sx"
    refine take_s hB' (by decide) (by decide) fun r3 B3 hB3 hr3 => ?_
    have e3 : atI ([.str "more", .str "less"] : List D) (r3 : Int) = some (tD (decide (r3 = 0))) := by
      have : r3 = 0 ∨ r3 = 1 := by omega
      rcases this with rfl | rfl <;> rfl
    walk_at "sx"
    refine w_ix (l_ixL e3 ?_)
    walk_at "sx"
    exact ⟨ts ++ [decide (r3 = 0)], B3, hB3, rfl, by simp [hl'], by simp⟩
  obtain ⟨ts, B3, hB3, rfl, hl3, rfl⟩ := hI
  rw [rng_len] at hl3
  obtain ⟨p, hp, h1, h2, h3⟩ := fk_ts (ts := ts) (by omega)
  walk_at "sx"
  refine reprA_ok pk_dat hp h1 (by omega) (Nat.le_trans h3 (by decide)) ?_
  walk_at "sx"
  refine lled_s hms (x := r) ⟨by omega, by omega⟩ ?_
  walk_at "sx"
  refine led_spec hms (k := r) (by omega) ?_
  walk_at "sx"
  refine alike_s pk_dat pk_dat (fk_opt a6 (ledG_in hms ts (some r) fun i e => by cases e; omega)) (by decide) (by decide) ?_
  walk_at "sx"
  refine reprA_ok pk_dat hp h1 (by omega) (Nat.le_trans h3 (by decide)) ?_
  walk_at "sx"
  refine if_bF (by simp) ?_
  walk_at "sx"
  exact h _ _ _ _ _ _ _ _ _ _ _ _ hB3
theorem b5_s {x6 x7 x8 x9 x10 x11 x12 x13 x14 x16 : Option DV} {d0 d2 : D} {w : Nat} (hms : MsOk ms) (hd : Off ms.length d) (hf : Fk 2 100 d)
    (h : P.nx [some (.dat d0), some (.loc 0), some (.dat d2), some (.dat (.lst (ms.map markD))), some (.dat (ctrD ms)), some (.dat (.dct (wsD W))), x6, x7, x8, x9, x10, x11, x12, x13, x14, some (.dat d), x16] [B.pl]) :
    SatS (b_law_5 0 [some (.dat d0), some (.loc 0), some (.dat d2), some (.dat (.lst (ms.map markD))), some (.dat (ctrD ms)), some (.dat (.dct (wsD W))), x6, x7, x8, x9, x10, x11, x12, x13, x14, some (.dat d), x16] [B.pl]) P := by
  have hf2 : Fk 3 300 (.tup [.str "none", d]) := by
    refine (fk_tup (k := 2) (w := 100) (n := 2) (fun z hz => ?_) (by simp)).mono (by decide) (by decide)
    simp only [List.mem_cons, List.not_mem_nil, or_false] at hz
    rcases hz with rfl | rfl
    · exact (fk_str (m := 4) (by decide +kernel) (by decide)).mono (by decide) (by decide)
    · exact hf
  unfold b_law_5
  walk_at "sx"
  rw [show ([D.int 0, D.int 1, D.int 2] : List D) = ([0, 1, 2] : List Nat).map (fun i => D.int (i : Nat)) from rfl]
  refine lc_filK (fun _ => false) (fun i => D.int (i : Nat)) (fun i hi => ⟨_, rfl, ?_, fun e => by cases e⟩) ?_
  · walk_at "sx"
    refine heard_s (w := i) (by simp at hi; omega) hms.h6 hd ?_
    walk_at "sx"
    refine alike_s pk_dat pk_dat hf2 (by decide) (by decide) ?_
    walk_at "sx"
    exact ⟨rfl, rfl⟩
  · walk_at "sx"
    refine ne_nilL (k := 0) (w := 0) (by decide) (fun d hd => ?_) ?_
    · simp at hd
    walk_at "sx"
    exact h
end
end K33
end
set_option maxHeartbeats 1000000
noncomputable section
namespace K33
open PySem PySem.Spec PyProof.Rows L2 DL
local macro_rules | `(tactic| walk_at "isi") => `(tactic| first
  | (with_reducible refine is_non_int ?_) | (with_reducible refine is_non_bool ?_) | (with_reducible refine is_non_str ?_) | (with_reducible refine is_non_tuple ?_) | (with_reducible refine is_non_list ?_) | (with_reducible refine is_non_dict ?_) | (with_reducible refine is2_non_list_tuple ?_) | (with_reducible refine isC_non ?_) | (with_reducible refine is_bl_int ?_) | (with_reducible refine is_bl_bool ?_) | (with_reducible refine is_bl_str ?_) | (with_reducible refine is_bl_tuple ?_) | (with_reducible refine is_bl_list ?_) | (with_reducible refine is_bl_dict ?_) | (with_reducible refine is2_bl_list_tuple ?_) | (with_reducible refine isC_bl ?_) | (with_reducible refine is_int_int ?_) | (with_reducible refine is_int_bool ?_) | (with_reducible refine is_int_str ?_) | (with_reducible refine is_int_tuple ?_) | (with_reducible refine is_int_list ?_) | (with_reducible refine is_int_dict ?_) | (with_reducible refine is2_int_list_tuple ?_) | (with_reducible refine isC_int ?_) | (with_reducible refine is_str_int ?_) | (with_reducible refine is_str_bool ?_) | (with_reducible refine is_str_str ?_) | (with_reducible refine is_str_tuple ?_) | (with_reducible refine is_str_list ?_) | (with_reducible refine is_str_dict ?_) | (with_reducible refine is2_str_list_tuple ?_) | (with_reducible refine isC_str ?_) | (with_reducible refine is_tup_int ?_) | (with_reducible refine is_tup_bool ?_) | (with_reducible refine is_tup_str ?_) | (with_reducible refine is_tup_tuple ?_) | (with_reducible refine is_tup_list ?_) | (with_reducible refine is_tup_dict ?_) | (with_reducible refine is2_tup_list_tuple ?_) | (with_reducible refine isC_tup ?_) | (with_reducible refine is_lst_int ?_) | (with_reducible refine is_lst_bool ?_) | (with_reducible refine is_lst_str ?_) | (with_reducible refine is_lst_tuple ?_) | (with_reducible refine is_lst_list ?_) | (with_reducible refine is_lst_dict ?_) | (with_reducible refine is2_lst_list_tuple ?_) | (with_reducible refine isC_lst ?_) | (with_reducible refine is_fro_int ?_) | (with_reducible refine is_fro_bool ?_) | (with_reducible refine is_fro_str ?_) | (with_reducible refine is_fro_tuple ?_) | (with_reducible refine is_fro_list ?_) | (with_reducible refine is_fro_dict ?_) | (with_reducible refine is2_fro_list_tuple ?_) | (with_reducible refine isC_fro ?_) | (with_reducible refine is_dct_int ?_) | (with_reducible refine is_dct_bool ?_) | (with_reducible refine is_dct_str ?_) | (with_reducible refine is_dct_tuple ?_) | (with_reducible refine is_dct_list ?_) | (with_reducible refine is_dct_dict ?_) | (with_reducible refine is2_dct_list_tuple ?_) | (with_reducible refine isC_dct ?_) | (with_reducible refine isC_own ?_)
  | (with_reducible refine is2_ins (by simp) ?_) | (with_reducible refine is_ins_int (by simp) ?_) | (with_reducible refine is_ins_bool (by simp) ?_) | (with_reducible refine is_ins_str (by simp) ?_) | (with_reducible refine is_ins_tuple (by simp) ?_) | (with_reducible refine is_ins_list (by simp) ?_) | (with_reducible refine is_ins_dict (by simp) ?_) | fail "isi")
local macro_rules | `(tactic| walk_at "tk") => `(tactic| first | exact List.take_length | exact take_cons | exact take_consA | exact mem_take | exact take_len | fail "tk")
local macro_rules | `(tactic| walk_at "al") => `(tactic| first | exact allDat_mapf _ _ | exact allDat_map _ | (repeat (first | exact al_nil | apply al_cons)))
local macro_rules | `(tactic| walk_at "set") => `(tactic| (simp only [List.set_cons_succ, List.set_cons_zero]; exact rfl))
local macro_rules | `(tactic| walk_at "sxS") => `(tactic| first | (with_reducible refine set_now (by walk_at "set") ?_) | (with_reducible refine s_seq ?_) | (with_reducible refine s_asg ?_) | (with_reducible refine s_ret ?_) | (with_reducible refine s_if ?_) | (with_reducible refine s_drop ?_) | (with_reducible refine s_next ?_) | (with_reducible refine s_new ?_) | (with_reducible refine s_for ?_) | (with_reducible refine s_tgt ?_) | (with_reducible refine s_par ?_) | (with_reducible refine s_disp ?_) | (with_reducible refine s_wh ?_) | (with_reducible refine s_fld ?_) | (with_reducible refine s_set ?_) | (with_reducible refine s_aug rfl ?_) | (with_reducible refine s_par2 ?_) | (with_reducible refine s_raiseK ?_) | (with_reducible refine s_try ?_) | (with_reducible refine s_dput ?_) | (with_reducible refine r_dat ?_) | (with_reducible refine r_loc ?_) | fail "sxS")
local macro_rules | `(tactic| walk_at "sxV") => `(tactic| first | (with_reducible refine v_var rfl ?_) | (with_reducible refine v_D ?_) | (with_reducible refine x_fz ?_) | fail "sxV")
local macro_rules | `(tactic| walk_at "sxA") => `(tactic| first | (with_reducible refine a_consK ?_) | (with_reducible refine a_nilK ?_) | (with_reducible refine n_consK ?_) | (with_reducible refine n_nilK ?_) | fail "sxA")
local macro_rules | `(tactic| walk_at "sxT") => `(tactic| first | (with_reducible refine t_B ?_) | (with_reducible refine t_not ?_) | (with_reducible refine t_and ?_) | (with_reducible refine t_or ?_) | (with_reducible refine t_yes ?_) | fail "sxT")
local macro_rules | `(tactic| walk_at "sxO") => `(tactic| first | (with_reducible refine o_noneK ?_) | (with_reducible refine o_someK ?_) | fail "sxO")
local macro_rules | `(tactic| walk_at "sxP") => `(tactic| first | (with_reducible refine p_nilK ?_) | (with_reducible refine p_consK ?_) | fail "sxP")
local macro_rules | `(tactic| walk_at "sxI") => `(tactic| first | (with_reducible refine i_seq ?_) | (with_reducible refine i_enum ?_) | (with_reducible refine i_rng ?_) | (with_reducible refine i_rng2 ?_) | fail "sxI")
local macro_rules | `(tactic| walk_at "sxF") => `(tactic| first | (with_reducible refine z_dat ?_) | (with_reducible refine z_loc ?_) | (with_reducible refine z_ofD ?_) | (with_reducible refine z_nlm ?_) | (with_reducible refine z_nlf ?_) | (with_reducible refine z_nlc ?_) | (with_reducible refine z_nl (by walk_at "al") ?_) | fail "sxF")
local macro_rules | `(tactic| walk_at "sxC") => `(tactic| first | (with_reducible refine if_T ?_) | (with_reducible refine if_F ?_) | (with_reducible refine if_bT (by decide +kernel) ?_) | (with_reducible refine if_bF (by decide +kernel) ?_) | (with_reducible refine if_bT (by with_unfolding_all exact rfl) ?_) | (with_reducible refine if_bF (by with_unfolding_all exact rfl) ?_) | fail "sxC")
local macro_rules | `(tactic| walk_at "sxD") => `(tactic| first | (with_reducible refine l_addI ?_) | (with_reducible refine l_sub ?_) | (with_reducible refine l_neg ?_) | (with_reducible refine l_eqI ?_) | (with_reducible refine l_neI ?_) | (with_reducible refine l_eqS ?_) | (with_reducible refine l_neS ?_) | (with_reducible refine l_lt ?_) | (with_reducible refine l_le ?_) | (with_reducible refine l_gt ?_) | (with_reducible refine l_ge ?_) | (with_reducible refine l_ixT rfl ?_) | (with_reducible refine l_ixL rfl ?_) | (with_reducible refine l_slT ?_) | (with_reducible refine l_slL ?_) | (with_reducible refine l_lenT ?_) | (with_reducible refine l_lenL ?_) | (with_reducible refine l_int ?_) | (with_reducible refine l_intB ?_) | (with_reducible refine l_listT ?_) | (with_reducible refine l_listL ?_) | (with_reducible refine l_tupL ?_) | (with_reducible refine l_tupT ?_) | (with_reducible refine l_inT ?_) | (with_reducible refine l_ninT ?_) | (with_reducible refine l_inL ?_) | (with_reducible refine l_ninL ?_) | (with_reducible refine l_mm ?_) | (with_reducible refine w_ix ?_; first | (with_reducible refine l_ixT rfl ?_) | (with_reducible refine l_ixL rfl ?_) | (with_reducible refine l_ix0T ?_) | (with_reducible refine l_ix0L ?_)) | (with_reducible refine w_in ?_; first | (with_reducible refine l_inT ?_) | (with_reducible refine l_ninT ?_) | (with_reducible refine l_inL ?_) | (with_reducible refine l_ninL ?_)) | (with_reducible refine w_eq ?_; first | (with_reducible refine l_eqI ?_) | (with_reducible refine l_eqS ?_)) | (with_reducible refine w_len ?_; first | (with_reducible refine l_lenT ?_) | (with_reducible refine l_lenL ?_)) | (with_reducible refine w_list ?_; first | (with_reducible refine l_listT ?_) | (with_reducible refine l_listL ?_)) | (walk_at "isi") | fail "sxD")
local macro_rules | `(tactic| walk_at "sxR") => `(tactic| first | (with_reducible refine x_op ?_) | (with_reducible refine x_cb ?_) | (with_reducible refine x_varD rfl ?_) | (with_reducible refine x_varL rfl ?_) | (with_reducible refine x_D ?_) | (with_reducible refine x_if ?_) | (with_reducible refine x_tup ?_) | (with_reducible refine x_lst ?_) | (with_reducible refine x_bm ?_) | (with_reducible refine x_bm0 ?_) | (with_reducible refine x_sl ?_) | (with_reducible refine x_and ?_) | (with_reducible refine x_or ?_) | (with_reducible refine x_not ?_) | (with_reducible refine x_un ?_) | (with_reducible refine x_isN ?_) | (with_reducible refine x_notN ?_) | (with_reducible refine x_chain ?_) | (with_reducible refine x_inK ?_) | (with_reducible refine x_lc ?_) | (with_reducible refine x_fldK ?_) | (with_reducible refine x_meth ?_) | (with_reducible refine x_make ?_) | (with_reducible refine x_lenO ?_) | (with_reducible refine x_eqO ?_) | (with_reducible refine x_inO ?_) | (with_reducible refine x_kget ?_) | (with_reducible refine x_lk ?_) | (with_reducible refine x_disK ?_) | (with_reducible refine x_dnew ?_) | (with_reducible refine x_dget1 ?_) | (with_reducible refine x_cbT ?_) | (with_reducible refine x_listRng ?_) | (with_reducible refine x_isE rfl rfl ?_) | (with_reducible refine x_xf rfl rfl ?_) | (walk_at "sxD") | fail "sxR")
local macro_rules | `(tactic| walk_at "sxE") => `(tactic| first | (with_reducible refine e_dat (by walk_at "tk") ?_) | (with_reducible refine e_ofD (by walk_at "tk") ?_) | (with_reducible refine e_nlf (by walk_at "tk") ?_) | (with_reducible refine e_nlm (by walk_at "tk") ?_) | (with_reducible refine e_nl (by walk_at "tk") (by with_unfolding_all exact rfl) ?_) | fail "sxE")
local macro_rules | `(tactic| walk_at "sxX") => `(tactic| first | (with_reducible refine b_bl ?_) | (with_reducible refine b_ofD ?_) | (with_reducible refine p_dat ?_) | (with_reducible refine p_loc ?_) | (with_reducible refine ik ?_) | (with_reducible refine stk ?_) | (with_reducible refine sk_l ?_) | (with_reducible refine sk_t ?_) | (with_reducible refine sk_f ?_) | (with_reducible refine pk ?_) | (with_reducible refine gk rfl ?_) | (with_reducible refine tk (by walk_at "al") (sz_lit rfl) ?_) | (with_reducible refine fk1 (by simp) ?_) | (with_reducible refine e_nx (by walk_at "tk") ?_) | (with_reducible refine And.intro (sz_lit rfl) ?_) | (with_reducible refine dkk ?_) | (with_reducible refine And.intro isDct_dat ?_) | (with_reducible refine And.intro ty_l ?_) | (with_reducible refine And.intro ty_s ?_) | (with_reducible refine And.intro (isI_one (by decide)) ?_) | (with_reducible refine And.intro (tyL_loc mem_here) ?_) | fail "sxX")
local macro_rules | `(tactic| walk_at "sx1") => `(tactic| first | (with_reducible refine gS ?_; walk_at "sxS") | (with_reducible refine gV ?_; walk_at "sxV") | (with_reducible refine gR ?_; walk_at "sxR") | (with_reducible refine gA ?_; walk_at "sxA") | (with_reducible refine gT ?_; walk_at "sxT") | (with_reducible refine gF ?_; walk_at "sxF") | (with_reducible refine gC ?_; walk_at "sxC") | (with_reducible refine gRt ?_; walk_at "sxE") | (with_reducible refine gO ?_; walk_at "sxO") | (with_reducible refine gI ?_; walk_at "sxI") | (with_reducible refine gP ?_; walk_at "sxP") | (walk_at "sxX") | fail "sx")
local macro_rules | `(tactic| walk_at "sx") => `(tactic| repeat' (walk_at "sx1"))
local macro_rules | `(tactic| walk_at "sxs") => `(tactic| repeat' (first | (walk_at "sx1") | (with_reducible refine if_dec (fun _ => ?_) (fun _ => ?_)) | (with_reducible refine if_ndec (fun _ => ?_) (fun _ => ?_)) | fail "sxs"))
section
variable {QR : R → Mem → Prop} {E : Xc → Mem → Prop} {μ ν : Mem} {B : Bg} {ms : List Mk} {b : Bool} {k N : Nat} {d : D} {P : PO} {W : Ws}
theorem bag_s {ns : List Int} (h : QR (.nl [.dat (.int (bag0 ns).a), .dat (.int (bag0 ns).b), .dat (.int (bag0 ns).c), .dat (.lst ((bag0 ns).cs.map D.int))]) μ) : Sat (F__law_bag [.dat (.fro (ns.map D.int))] μ) QR E := by
  rw [e__law_bag, bag_spec]; exact h
def odds (n : Nat) : List D := [.int (-1), .int (n : Nat), .bl true, .non, .str "0", .lst [], .dct [], .tup [.int 0]]
theorem odds_ok {n : Nat} (hn : n ≤ 6) {d : D} (h : d ∈ odds n) : Off n d ∧ Fk 2 100 d := by
  simp only [odds, List.mem_cons, List.not_mem_nil, or_false] at h
  rcases h with rfl | rfl | rfl | rfl | rfl | rfl | rfl | rfl
  · exact ⟨.inr ⟨_, rfl, by omega⟩, (fk_int (by decide)).mono (by decide) (by decide)⟩
  · exact ⟨.inr ⟨_, rfl, by omega⟩, (fk_int (by omega)).mono (by decide) (by decide)⟩
  · exact ⟨.inl rfl, fk_bl.mono (by decide) (by decide)⟩
  · exact ⟨.inl rfl, fk_non.mono (by decide) (by decide)⟩
  · exact ⟨.inl rfl, (fk_str (m := 1) (by decide +kernel) (by decide)).mono (by decide) (by decide)⟩
  · exact ⟨.inl rfl, ⟨.list [], rfl, rfl, by decide, by decide⟩⟩
  · exact ⟨.inl rfl, fk_dct0.mono (by decide) (by decide)⟩
  · exact ⟨.inl rfl, ⟨.tuple [.int 0], rfl, by decide, by decide, by decide⟩⟩
abbrev sh17 (d0 d2 : D) (ms : List Mk) (W : Ws) (y6 y7 y8 y9 y10 y11 y12 y13 y14 y15 y16 : Option DV) : DL.Env := [some (.dat d0), some (.loc 0), some (.dat d2), some (.dat (.lst (ms.map markD))), some (.dat (ctrD ms)), some (.dat (.dct (wsD W))), y6, y7, y8, y9, y10, y11, y12, y13, y14, y15, y16]
/-- behind the counter and its ways -/
theorem b6t_s {x6 x7 x8 x9 x10 x11 x12 x13 x14 x15 x16 : Option DV} {d0 d2 : D} (hB : B.ok) (hms : MsOk ms) (hW : Fin ms W) (g : Gd ms (W, []))
    (h : ∀ (B' : Bg) (y6 y7 y8 y9 y10 y11 y12 y13 y14 y15 y16 : Option DV), B'.ok → P.nx (sh17 d0 d2 ms W y6 y7 y8 y9 y10 y11 y12 y13 y14 y15 y16) [B'.pl]) :
    SatS (gSeq (gFor [true, true, true, true, true, true, false, false, false, false, false, false, false, false, false, false, false] (imRng (aCons (eD (.int 3)) aNil)) (tgName 6) b_law_3)
    (gSeq (gFor [true, true, true, true, true, true, false, false, false, false, false, false, false, false, false, false, false] (imRng (aCons (eD (.int 8)) aNil)) (tgName 11) b_law_4)
    (gFor [true, true, true, true, true, true, false, false, false, false, false, false, false, false, false, false, false] (imSeq (eTup (aCons (eUn dNeg (eD (.int 1))) (aCons (eCB dLenA (aCons (eVar 3) aNil)) (aCons (eD (.bl true)) (aCons (eD .non) (aCons (eD (.str "0")) (aCons (eLst aNil) (aCons (eLk eDNew) (aCons (eTup (aCons (eD (.int 0)) aNil)) aNil)))))))))) (tgName 15) b_law_5)) 0 (sh17 d0 d2 ms W x6 x7 x8 x9 x10 x11 x12 x13 x14 x15 x16) [B.pl]) P := by
  have a6 := hms.h6
  walk_at "sx"
  refine And.intro ⟨by decide, by decide⟩ ?_
  refine for_inv (fun j δ μ' => ∃ (B' : Bg) (y6 y7 y8 y9 y10 y11 y12 y13 y14 y15 y16 : Option DV), B'.ok ∧ δ = sh17 d0 d2 ms W y6 y7 y8 y9 y10 y11 y12 y13 y14 y15 y16 ∧ μ' = [B'.pl]) ⟨B, _, _, _, _, _, _, _, _, _, _, _, hB, rfl, rfl⟩ (fun j d hd δ μ' hI => ?_) fun δ μ' hI => ?_
  · obtain ⟨B', y6, y7, y8, y9, y10, y11, y12, y13, y14, y15, y16, hB', rfl, rfl⟩ := hI
    obtain ⟨_, rfl⟩ := range_at (n := 3) hd
    refine ⟨_, rfl, b3_s hB' hms hW g fun B2 z7 z8 z9 z10 z11 z12 z13 z14 z15 z16 hB2 => ?_⟩
    exact ⟨B2, none, none, none, none, none, none, none, none, none, none, none, hB2, rfl, rfl⟩
  obtain ⟨B1, y6, y7, y8, y9, y10, y11, y12, y13, y14, y15, y16, hB1, rfl, rfl⟩ := hI
  walk_at "sx"
  refine And.intro ⟨by decide, by decide⟩ ?_
  refine for_inv (fun j δ μ' => ∃ (B' : Bg) (y6 y7 y8 y9 y10 y11 y12 y13 y14 y15 y16 : Option DV), B'.ok ∧ δ = sh17 d0 d2 ms W y6 y7 y8 y9 y10 y11 y12 y13 y14 y15 y16 ∧ μ' = [B'.pl]) ⟨B1, _, _, _, _, _, _, _, _, _, _, _, hB1, rfl, rfl⟩ (fun j d hd δ μ' hI => ?_) fun δ μ' hI => ?_
  · obtain ⟨B', y6, y7, y8, y9, y10, y11, y12, y13, y14, y15, y16, hB', rfl, rfl⟩ := hI
    refine ⟨_, rfl, b4_s hB' hms fun B2 z6 z7 z8 z9 z10 z11 z12 z13 z14 z15 z16 hB2 => ?_⟩
    exact ⟨B2, none, none, none, none, none, none, none, none, none, none, none, hB2, rfl, rfl⟩
  obtain ⟨B2, y6, y7, y8, y9, y10, y11, y12, y13, y14, y15, y16, hB2, rfl, rfl⟩ := hI
  walk_at "sx"
  refine ⟨_, _, rfl, rfl, ?_⟩
  walk_at "sx"
  rw [List.length_map]
  refine for_inv (ds := odds ms.length) (fun j δ μ' => ∃ (y6 y7 y8 y9 y10 y11 y12 y13 y14 y15 y16 : Option DV), δ = sh17 d0 d2 ms W y6 y7 y8 y9 y10 y11 y12 y13 y14 y15 y16 ∧ μ' = [B2.pl]) ⟨_, _, _, _, _, _, _, _, _, _, _, rfl, rfl⟩ (fun j d hd δ μ' hI => ?_) fun δ μ' hI => ?_
  · obtain ⟨y6, y7, y8, y9, y10, y11, y12, y13, y14, y15, y16, rfl, rfl⟩ := hI
    obtain ⟨ho, hf⟩ := odds_ok a6 (List.mem_of_getElem? hd)
    refine ⟨_, rfl, b5_s (w := 0) hms ho hf ?_⟩
    exact ⟨none, none, none, none, none, none, none, none, none, none, none, rfl, rfl⟩
  · obtain ⟨y6, y7, y8, y9, y10, y11, y12, y13, y14, y15, y16, rfl, rfl⟩ := hI
    exact h _ _ _ _ _ _ _ _ _ _ _ _ hB2
theorem b6_s {x3 x4 x5 x6 x7 x8 x9 x10 x11 x12 x13 x14 x15 x16 : Option DV} {d0 d2 : D} (hB : B.ok)
    (h : ∀ (B' : Bg) (ms : List Mk) (W : Ws) (y6 y7 y8 y9 y10 y11 y12 y13 y14 y15 y16 : Option DV), B'.ok → P.nx (sh17 d0 d2 ms W y6 y7 y8 y9 y10 y11 y12 y13 y14 y15 y16) [B'.pl]) :
    SatS (b_law_6 0 [some (.dat d0), some (.loc 0), some (.dat d2), x3, x4, x5, x6, x7, x8, x9, x10, x11, x12, x13, x14, x15, x16] [B.pl]) P := by
  unfold b_law_6
  walk_at "sx"
  refine counter_s hB fun ms0 B1 hB1 hm0 => ?_
  walk_at "sx"
  refine near_s hB1 hm0 fun ms B2 hB2 hms => ?_
  walk_at "sx"
  refine init_spec hms ?_
  walk_at "sx"
  refine lways_s hms fun W hW g => ?_
  refine ⟨_, _, rfl, wsV_dat W, ?_⟩
  refine z_dat (a_nilK ⟨_, rfl, sz_lit rfl, ?_⟩)
  refine z_dat (gk rfl ?_)
  exact b6t_s hB2 hms hW g fun B' => h B' ms W
theorem law_sat (ns : List Int) : Sat (F_law [.dat (.fro (ns.map D.int))] []) (fun r _ => r = .dat (.bl true)) (fun _ _ => False) := by
  with_reducible refine w_law ?_
  unfold g_law
  walk_at "sx"
  with_reducible refine bag_s ?_
  with_reducible refine r_nl (Nat.zero_le _) ?_
  walk_at "sx"
  refine And.intro ⟨by decide, by decide⟩ ?_
  with_reducible refine for_inv (fun k δ μ' => ∃ B : Bg, B.ok ∧ δ = [some (.dat (.fro (ns.map D.int))), some (.loc 0), none, none, none, none, none, none, none, none, none, none, none, none, none, none, none] ∧ μ' = [B.pl]) ⟨bag0 ns, bag0_ok ns, rfl, rfl⟩ (fun k d hd δ μ' hI => ?_) fun δ μ' hI => ?_
  · obtain ⟨B, hB, rfl, rfl⟩ := hI
    obtain ⟨_, rfl⟩ := range_at (n := 5) hd
    refine ⟨_, rfl, b6_s hB fun B3 ms W y6 y7 y8 y9 y10 y11 y12 y13 y14 y15 y16 hB3 => ?_⟩
    exact ⟨B3, hB3, rfl, rfl⟩
  · obtain ⟨B, hB, rfl, rfl⟩ := hI
    walk_at "sx"
    exact e_dat rfl rfl
theorem law_true (ns : List Int) : ∃ μ', F_law [.dat (.fro (ns.map D.int))] [] = .ok (.dat (.bl true)) μ' := by
  have h := law_sat ns
  cases e : F_law [.dat (.fro (ns.map D.int))] [] with
  | ok r μ' => rw [e] at h; exact ⟨μ', by rw [show r = .dat (.bl true) from h]⟩
  | exc x μ' => rw [e] at h; exact h.elim
  | bad => rw [e] at h; exact h.elim
end
end K33
end
namespace K33
open PySem PySem.Spec PyProof.Rows L2 DL
theorem all_mk {l : PySem.W.OpenLaw} {w : World} {K : PySem.W.Frag} {h : Heap} {mg : Str → Option Value} {fa : Addr} (X : K.In h) (G : h.Ns mainGlobals mg) (hfa : mg "law" = some (.ref fa))
    {f0 : Addr} {od0 an0 : Option Addr} {sl0 : Array (Option Value)} {oc0 kV0 dc0 pm0 cd0 ct0 : Value}
    {f1 : Addr} {od1 an1 : Option Addr} {sl1 : Array (Option Value)} {oc1 kV1 dc1 pm1 cd1 ct1 : Value}
    {f2 : Addr} {od2 an2 : Option Addr} {sl2 : Array (Option Value)} {oc2 kV2 dc2 pm2 cd2 ct2 : Value}
    {f3 : Addr} {od3 an3 : Option Addr} {sl3 : Array (Option Value)} {oc3 kV3 dc3 pm3 cd3 ct3 : Value}
    {f4 : Addr} {od4 an4 : Option Addr} {sl4 : Array (Option Value)} {oc4 kV4 dc4 pm4 cd4 ct4 : Value}
    {f5 : Addr} {od5 an5 : Option Addr} {sl5 : Array (Option Value)} {oc5 kV5 dc5 pm5 cd5 ct5 : Value}
    {f6 : Addr} {od6 an6 : Option Addr} {sl6 : Array (Option Value)} {oc6 kV6 dc6 pm6 cd6 ct6 : Value}
    {f7 : Addr} {od7 an7 : Option Addr} {sl7 : Array (Option Value)} {oc7 kV7 dc7 pm7 cd7 ct7 : Value}
    {f8 : Addr} {od8 an8 : Option Addr} {sl8 : Array (Option Value)} {oc8 kV8 dc8 pm8 cd8 ct8 : Value}
    {f9 : Addr} {od9 an9 : Option Addr} {sl9 : Array (Option Value)} {oc9 kV9 dc9 pm9 cd9 ct9 : Value}
    {f10 : Addr} {od10 an10 : Option Addr} {sl10 : Array (Option Value)} {oc10 kV10 dc10 pm10 cd10 ct10 : Value}
    {f11 : Addr} {od11 an11 : Option Addr} {sl11 : Array (Option Value)} {oc11 kV11 dc11 pm11 cd11 ct11 : Value}
    {f12 : Addr} {od12 an12 : Option Addr} {sl12 : Array (Option Value)} {oc12 kV12 dc12 pm12 cd12 ct12 : Value}
    {f13 : Addr} {od13 an13 : Option Addr} {sl13 : Array (Option Value)} {oc13 kV13 dc13 pm13 cd13 ct13 : Value}
    {f14 : Addr} {od14 an14 : Option Addr} {sl14 : Array (Option Value)} {oc14 kV14 dc14 pm14 cd14 ct14 : Value}
    {f15 : Addr} {od15 an15 : Option Addr} {sl15 : Array (Option Value)} {oc15 kV15 dc15 pm15 cd15 ct15 : Value}
    {f16 : Addr} {od16 an16 : Option Addr} {sl16 : Array (Option Value)} {oc16 kV16 dc16 pm16 cd16 ct16 : Value}
    {f17 : Addr} {od17 an17 : Option Addr} {sl17 : Array (Option Value)} {oc17 kV17 dc17 pm17 cd17 ct17 : Value}
    {f18 : Addr} {od18 an18 : Option Addr} {sl18 : Array (Option Value)} {oc18 kV18 dc18 pm18 cd18 ct18 : Value}
    {f19 : Addr} {od19 an19 : Option Addr} {sl19 : Array (Option Value)} {oc19 kV19 dc19 pm19 cd19 ct19 : Value}
    {f20 : Addr} {od20 an20 : Option Addr} {sl20 : Array (Option Value)} {oc20 kV20 dc20 pm20 cd20 ct20 : Value}
    {f21 : Addr} {od21 an21 : Option Addr} {sl21 : Array (Option Value)} {oc21 kV21 dc21 pm21 cd21 ct21 : Value}
    {f22 : Addr} {od22 an22 : Option Addr} {sl22 : Array (Option Value)} {oc22 kV22 dc22 pm22 cd22 ct22 : Value}
    {f23 : Addr} {od23 an23 : Option Addr} {sl23 : Array (Option Value)} {oc23 kV23 dc23 pm23 cd23 ct23 : Value}
    {f24 : Addr} {od24 an24 : Option Addr} {sl24 : Array (Option Value)} {oc24 kV24 dc24 pm24 cd24 ct24 : Value}
    {c_Counter : Addr}
    (q_Counter : PySem.W.nsIn K mainGlobals "Counter" = some (some (.ref c_Counter))) (pg_Counter : PySem.W.plainGet K c_Counter Str.empty = true) (hd_Counter : PySem.W.hasDictIn K c_Counter = true) (po_Counter : PySem.W.plainOver K c_Counter = true) (sa_Counter : PySem.W.findIn K (.ref c_Counter) "__setattr__" = some (some (.builtin "object.__setattr__"))) (cc_Counter : PySem.W.findIn K (.ref c_Counter) "__class__" = some (some (.builtin "object.__class__"))) (mo_Counter : PySem.W.mroIn K c_Counter (.type "object") = some true)
    (a0 : PySem.W.nsIn K mainGlobals "is_integer" = some (some (.ref f0)))
    (l0 : K.lookup f0 = some ⟨oc0, od0, .func (PySem.W.fnOf "is_integer" "is_integer" (defArgs s_is_integer) (defBody s_is_integer) (defScope s_is_integer) .none kV0 dc0 pm0 an0 cd0 ct0), sl0⟩) (c0 : PySem.W.codeIn K cd0 "is_integer" = true) (k0 : PySem.W.keepIn K (.ref f0) = true)
    (a1 : PySem.W.nsIn K mainGlobals "is_number" = some (some (.ref f1)))
    (l1 : K.lookup f1 = some ⟨oc1, od1, .func (PySem.W.fnOf "is_number" "is_number" (defArgs s_is_number) (defBody s_is_number) (defScope s_is_number) .none kV1 dc1 pm1 an1 cd1 ct1), sl1⟩) (c1 : PySem.W.codeIn K cd1 "is_number" = true) (k1 : PySem.W.keepIn K (.ref f1) = true)
    (a2 : PySem.W.nsIn K mainGlobals "is_mark" = some (some (.ref f2)))
    (l2 : K.lookup f2 = some ⟨oc2, od2, .func (PySem.W.fnOf "is_mark" "is_mark" (defArgs s_is_mark) (defBody s_is_mark) (defScope s_is_mark) .none kV2 dc2 pm2 an2 cd2 ct2), sl2⟩) (c2 : PySem.W.codeIn K cd2 "is_mark" = true) (k2 : PySem.W.keepIn K (.ref f2) = true)
    (a3 : PySem.W.nsIn K mainGlobals "are_marks" = some (some (.ref f3)))
    (l3 : K.lookup f3 = some ⟨oc3, od3, .func (PySem.W.fnOf "are_marks" "are_marks" (defArgs s_are_marks) (defBody s_are_marks) (defScope s_are_marks) .none kV3 dc3 pm3 an3 cd3 ct3), sl3⟩) (c3 : PySem.W.codeIn K cd3 "are_marks" = true) (k3 : PySem.W.keepIn K (.ref f3) = true)
    (a4 : PySem.W.findIn K (.ref c_Counter) "__init__" = some (some (.ref f4))) (i4 : PySem.W.isFn K (.ref f4) = true)
    (l4 : K.lookup f4 = some ⟨oc4, od4, .func (PySem.W.fnOf "__init__" "Counter.__init__" (defArgs s_Counter___init__) (defBody s_Counter___init__) (defScope s_Counter___init__) .none kV4 dc4 pm4 an4 cd4 ct4), sl4⟩) (c4 : PySem.W.codeIn K cd4 "Counter.__init__" = true) (k4 : PySem.W.keepIn K (.ref f4) = true)
    (a5 : PySem.W.nsIn K mainGlobals "_law_alike" = some (some (.ref f5)))
    (l5 : K.lookup f5 = some ⟨oc5, od5, .func (PySem.W.fnOf "_law_alike" "_law_alike" (defArgs s__law_alike) (defBody s__law_alike) (defScope s__law_alike) .none kV5 dc5 pm5 an5 cd5 ct5), sl5⟩) (c5 : PySem.W.codeIn K cd5 "_law_alike" = true) (k5 : PySem.W.keepIn K (.ref f5) = true)
    (a6 : PySem.W.nsIn K mainGlobals "_law_bag" = some (some (.ref f6)))
    (l6 : K.lookup f6 = some ⟨oc6, od6, .func (PySem.W.fnOf "_law_bag" "_law_bag" (defArgs s__law_bag) (defBody s__law_bag) (defScope s__law_bag) .none kV6 dc6 pm6 an6 cd6 ct6), sl6⟩) (c6 : PySem.W.codeIn K cd6 "_law_bag" = true) (k6 : PySem.W.keepIn K (.ref f6) = true)
    (a7 : PySem.W.nsIn K mainGlobals "_law_sticking" = some (some (.ref f7)))
    (l7 : K.lookup f7 = some ⟨oc7, od7, .func (PySem.W.fnOf "_law_sticking" "_law_sticking" (defArgs s__law_sticking) (defBody s__law_sticking) (defScope s__law_sticking) .none kV7 dc7 pm7 an7 cd7 ct7), sl7⟩) (c7 : PySem.W.codeIn K cd7 "_law_sticking" = true) (k7 : PySem.W.keepIn K (.ref f7) = true)
    (a8 : PySem.W.nsIn K mainGlobals "_law_take" = some (some (.ref f8)))
    (l8 : K.lookup f8 = some ⟨oc8, od8, .func (PySem.W.fnOf "_law_take" "_law_take" (defArgs s__law_take) (defBody s__law_take) (defScope s__law_take) .none kV8 dc8 pm8 an8 cd8 ct8), sl8⟩) (c8 : PySem.W.codeIn K cd8 "_law_take" = true) (k8 : PySem.W.keepIn K (.ref f8) = true)
    (a9 : PySem.W.nsIn K mainGlobals "_law_counter" = some (some (.ref f9)))
    (l9 : K.lookup f9 = some ⟨oc9, od9, .func (PySem.W.fnOf "_law_counter" "_law_counter" (defArgs s__law_counter) (defBody s__law_counter) (defScope s__law_counter) .none kV9 dc9 pm9 an9 cd9 ct9), sl9⟩) (c9 : PySem.W.codeIn K cd9 "_law_counter" = true) (k9 : PySem.W.keepIn K (.ref f9) = true)
    (a10 : PySem.W.findIn K (.ref c_Counter) "__len__" = some (some (.ref f10))) (i10 : PySem.W.isFn K (.ref f10) = true)
    (l10 : K.lookup f10 = some ⟨oc10, od10, .func (PySem.W.fnOf "__len__" "Counter.__len__" (defArgs s_Counter___len__) (defBody s_Counter___len__) (defScope s_Counter___len__) .none kV10 dc10 pm10 an10 cd10 ct10), sl10⟩) (c10 : PySem.W.codeIn K cd10 "Counter.__len__" = true) (k10 : PySem.W.keepIn K (.ref f10) = true)
    (a11 : PySem.W.findIn K (.ref c_Counter) "need_mark" = some (some (.ref f11))) (i11 : PySem.W.isFn K (.ref f11) = true)
    (l11 : K.lookup f11 = some ⟨oc11, od11, .func (PySem.W.fnOf "need_mark" "Counter.need_mark" (defArgs s_Counter_need_mark) (defBody s_Counter_need_mark) (defScope s_Counter_need_mark) .none kV11 dc11 pm11 an11 cd11 ct11), sl11⟩) (c11 : PySem.W.codeIn K cd11 "Counter.need_mark" = true) (k11 : PySem.W.keepIn K (.ref f11) = true)
    (a12 : PySem.W.findIn K (.ref c_Counter) "less" = some (some (.ref f12))) (i12 : PySem.W.isFn K (.ref f12) = true)
    (l12 : K.lookup f12 = some ⟨oc12, od12, .func (PySem.W.fnOf "less" "Counter.less" (defArgs s_Counter_less) (defBody s_Counter_less) (defScope s_Counter_less) .none kV12 dc12 pm12 an12 cd12 ct12), sl12⟩) (c12 : PySem.W.codeIn K cd12 "Counter.less" = true) (k12 : PySem.W.keepIn K (.ref f12) = true)
    (a13 : PySem.W.findIn K (.ref c_Counter) "more" = some (some (.ref f13))) (i13 : PySem.W.isFn K (.ref f13) = true)
    (l13 : K.lookup f13 = some ⟨oc13, od13, .func (PySem.W.fnOf "more" "Counter.more" (defArgs s_Counter_more) (defBody s_Counter_more) (defScope s_Counter_more) .none kV13 dc13 pm13 an13 cd13 ct13), sl13⟩) (c13 : PySem.W.codeIn K cd13 "Counter.more" = true) (k13 : PySem.W.keepIn K (.ref f13) = true)
    (a14 : PySem.W.nsIn K mainGlobals "touched" = some (some (.ref f14)))
    (l14 : K.lookup f14 = some ⟨oc14, od14, .func (PySem.W.fnOf "touched" "touched" (defArgs s_touched) (defBody s_touched) (defScope s_touched) .none kV14 dc14 pm14 an14 cd14 ct14), sl14⟩) (c14 : PySem.W.codeIn K cd14 "touched" = true) (k14 : PySem.W.keepIn K (.ref f14) = true)
    (a15 : PySem.W.nsIn K mainGlobals "led" = some (some (.ref f15)))
    (l15 : K.lookup f15 = some ⟨oc15, od15, .func (PySem.W.fnOf "led" "led" (defArgs s_led) (defBody s_led) (defScope s_led) .none kV15 dc15 pm15 an15 cd15 ct15), sl15⟩) (c15 : PySem.W.codeIn K cd15 "led" = true) (k15 : PySem.W.keepIn K (.ref f15) = true)
    (a16 : PySem.W.nsIn K mainGlobals "ways_from" = some (some (.ref f16)))
    (l16 : K.lookup f16 = some ⟨oc16, od16, .func (PySem.W.fnOf "ways_from" "ways_from" (defArgs s_ways_from) (defBody s_ways_from) (defScope s_ways_from) .none kV16 dc16 pm16 an16 cd16 ct16), sl16⟩) (c16 : PySem.W.codeIn K cd16 "ways_from" = true) (k16 : PySem.W.keepIn K (.ref f16) = true)
    (a17 : PySem.W.nsIn K mainGlobals "touches_to" = some (some (.ref f17)))
    (l17 : K.lookup f17 = some ⟨oc17, od17, .func (PySem.W.fnOf "touches_to" "touches_to" (defArgs s_touches_to) (defBody s_touches_to) (defScope s_touches_to) .none kV17 dc17 pm17 an17 cd17 ct17), sl17⟩) (c17 : PySem.W.codeIn K cd17 "touches_to" = true) (k17 : PySem.W.keepIn K (.ref f17) = true)
    (a18 : PySem.W.nsIn K mainGlobals "_law_heard" = some (some (.ref f18)))
    (l18 : K.lookup f18 = some ⟨oc18, od18, .func (PySem.W.fnOf "_law_heard" "_law_heard" (defArgs s__law_heard) (defBody s__law_heard) (defScope s__law_heard) .none kV18 dc18 pm18 an18 cd18 ct18), sl18⟩) (c18 : PySem.W.codeIn K cd18 "_law_heard" = true) (k18 : PySem.W.keepIn K (.ref f18) = true)
    (a19 : PySem.W.nsIn K mainGlobals "_law_led" = some (some (.ref f19)))
    (l19 : K.lookup f19 = some ⟨oc19, od19, .func (PySem.W.fnOf "_law_led" "_law_led" (defArgs s__law_led) (defBody s__law_led) (defScope s__law_led) .none kV19 dc19 pm19 an19 cd19 ct19), sl19⟩) (c19 : PySem.W.codeIn K cd19 "_law_led" = true) (k19 : PySem.W.keepIn K (.ref f19) = true)
    (a20 : PySem.W.nsIn K mainGlobals "_law_mixed" = some (some (.ref f20)))
    (l20 : K.lookup f20 = some ⟨oc20, od20, .func (PySem.W.fnOf "_law_mixed" "_law_mixed" (defArgs s__law_mixed) (defBody s__law_mixed) (defScope s__law_mixed) .none kV20 dc20 pm20 an20 cd20 ct20), sl20⟩) (c20 : PySem.W.codeIn K cd20 "_law_mixed" = true) (k20 : PySem.W.keepIn K (.ref f20) = true)
    (a21 : PySem.W.nsIn K mainGlobals "_law_near_counter" = some (some (.ref f21)))
    (l21 : K.lookup f21 = some ⟨oc21, od21, .func (PySem.W.fnOf "_law_near_counter" "_law_near_counter" (defArgs s__law_near_counter) (defBody s__law_near_counter) (defScope s__law_near_counter) .none kV21 dc21 pm21 an21 cd21 ct21), sl21⟩) (c21 : PySem.W.codeIn K cd21 "_law_near_counter" = true) (k21 : PySem.W.keepIn K (.ref f21) = true)
    (a22 : PySem.W.nsIn K mainGlobals "_law_ways_to" = some (some (.ref f22)))
    (l22 : K.lookup f22 = some ⟨oc22, od22, .func (PySem.W.fnOf "_law_ways_to" "_law_ways_to" (defArgs s__law_ways_to) (defBody s__law_ways_to) (defScope s__law_ways_to) .none kV22 dc22 pm22 an22 cd22 ct22), sl22⟩) (c22 : PySem.W.codeIn K cd22 "_law_ways_to" = true) (k22 : PySem.W.keepIn K (.ref f22) = true)
    (a23 : PySem.W.nsIn K mainGlobals "reached_marks" = some (some (.ref f23)))
    (l23 : K.lookup f23 = some ⟨oc23, od23, .func (PySem.W.fnOf "reached_marks" "reached_marks" (defArgs s_reached_marks) (defBody s_reached_marks) (defScope s_reached_marks) .none kV23 dc23 pm23 an23 cd23 ct23), sl23⟩) (c23 : PySem.W.codeIn K cd23 "reached_marks" = true) (k23 : PySem.W.keepIn K (.ref f23) = true)
    (a24 : PySem.W.nsIn K mainGlobals "law" = some (some (.ref f24)))
    (l24 : K.lookup f24 = some ⟨oc24, od24, .func (PySem.W.fnOf "law" "law" (defArgs s_law) (defBody s_law) (defScope s_law) .none kV24 dc24 pm24 an24 cd24 ct24), sl24⟩) (c24 : PySem.W.codeIn K cd24 "law" = true) (k24 : PySem.W.keepIn K (.ref f24) = true)
    (mk_Counter : PySem.W.makesIn K c_Counter = true) (kc_Counter : PySem.W.keepIn K (.ref c_Counter) = true)
    (z_abs : PySem.W.nsIn K mainGlobals "abs" = some none)
    (z_all : PySem.W.nsIn K mainGlobals "all" = some none)
    (z_bool : PySem.W.nsIn K mainGlobals "bool" = some none)
    (z_int : PySem.W.nsIn K mainGlobals "int" = some none)
    (z_isinstance : PySem.W.nsIn K mainGlobals "isinstance" = some none)
    (z_len : PySem.W.nsIn K mainGlobals "len" = some none)
    (z_list : PySem.W.nsIn K mainGlobals "list" = some none)
    (z_range : PySem.W.nsIn K mainGlobals "range" = some none)
    (z_repr : PySem.W.nsIn K mainGlobals "repr" = some none)
    (z_sorted : PySem.W.nsIn K mainGlobals "sorted" = some none)
    (z_tuple : PySem.W.nsIn K mainGlobals "tuple" = some none)
    {tk_MOST_MARKS : Tok} (v_MOST_MARKS : PySem.W.nsIn K mainGlobals "MOST_MARKS" = some (some (.int 6 tk_MOST_MARKS)))
    {c_TOUCHES : Addr} {oc_TOUCHES : Option Addr} {its_TOUCHES : Array Value} {n_TOUCHES : Nat} {sl_TOUCHES : Array (Option Value)} (q_TOUCHES : PySem.W.nsIn K mainGlobals "TOUCHES" = some (some (.ref c_TOUCHES))) (v_TOUCHES : K.lookup c_TOUCHES = some ⟨.type "tuple", oc_TOUCHES, .seq its_TOUCHES n_TOUCHES, sl_TOUCHES⟩) (x_TOUCHES : its_TOUCHES.size ≤ sizeLine) (y_TOUCHES : absL its_TOUCHES.toList = some ((["less", "more"] : List Str).map V.str))
    (nf_Counter_its_marks : PySem.W.findIn K (.ref c_Counter) "its_marks" = some none)
    (ns_Counter_bool : PySem.W.subIn K (.ref c_Counter) (.type "bool") = some false)
    (ns_Counter_int : PySem.W.subIn K (.ref c_Counter) (.type "int") = some false)
    (ns_Counter_list : PySem.W.subIn K (.ref c_Counter) (.type "list") = some false)
    (ns_Counter_tuple : PySem.W.subIn K (.ref c_Counter) (.type "tuple") = some false)
    {c_CountError : Addr}
    {c_NoMark : Addr}
    (q_CountError : PySem.W.nsIn K mainGlobals "CountError" = some (some (.ref c_CountError)))
    (ga_CountError : PySem.W.findIn K (.ref c_CountError) "__getattribute__" = some (some (.builtin "BaseException.__getattribute__"))) (gg_CountError : PySem.W.findIn K (.ref c_CountError) "__getattr__" = some none) (exC_CountError : PySem.W.subIn K (.ref c_CountError) (.type "BaseException") = some true) (hdC_CountError : PySem.W.hasDictIn K c_CountError = true) (cc_CountError : PySem.W.findIn K (.ref c_CountError) "__class__" = some (some (.builtin "object.__class__"))) (mo_CountError : PySem.W.mroIn K c_CountError (.type "object") = some true) (iC_CountError : PySem.W.isClsIn K c_CountError = true) (tyC_CountError : PySem.W.typeIn K (.ref c_CountError) = some (.type "type"))
    (q_NoMark : PySem.W.nsIn K mainGlobals "NoMark" = some (some (.ref c_NoMark)))
    (ga_NoMark : PySem.W.findIn K (.ref c_NoMark) "__getattribute__" = some (some (.builtin "BaseException.__getattribute__"))) (gg_NoMark : PySem.W.findIn K (.ref c_NoMark) "__getattr__" = some none) (exC_NoMark : PySem.W.subIn K (.ref c_NoMark) (.type "BaseException") = some true) (hdC_NoMark : PySem.W.hasDictIn K c_NoMark = true) (cc_NoMark : PySem.W.findIn K (.ref c_NoMark) "__class__" = some (some (.builtin "object.__class__"))) (mo_NoMark : PySem.W.mroIn K c_NoMark (.type "object") = some true) (iC_NoMark : PySem.W.isClsIn K c_NoMark = true) (tyC_NoMark : PySem.W.typeIn K (.ref c_NoMark) = some (.type "type"))
    (noN_NoMark : PySem.W.findIn K (.ref c_NoMark) "number" = some none)
    (cls_sp : PySem.W.specialIn K (.builtin "object.__class__") "__get__" = some (some (.builtin "getset_descriptor.__get__"))) (cls_tk : PySem.W.takesIn K (.builtin "object.__class__") = some true)
    (op_any : PySem.W.nsIn K cStatics "thirdparty.any" = some none) (z_super : PySem.W.nsIn K mainGlobals "super" = some none) (top_s : (l.prog.main.scope.names.lookup ("super" : Str)).isSome = false)
    {i_NoMark : Addr} {nmx_NoMark qx_NoMark : Str} {Nx_NoMark : Addr} {bsx_NoMark bmx_NoMark : List Value} {snx_NoMark : List Str} {sbx_NoMark : List Value} {abx_NoMark : Bool} {cox_NoMark : Option Bool} {ddx_NoMark : Option Addr} {k0x_NoMark k1x_NoMark k2x_NoMark k3x_NoMark k5x_NoMark : Option Value}
    {ocx_NoMark : Value} {odx_NoMark : Option Addr} {dcx_NoMark pmx_NoMark : Value} {anx_NoMark : Option Addr} {ctx_NoMark : Value} {slx_NoMark : Array (Option Value)} {qlx_NoMark : Str} {p1x_NoMark p2x_NoMark q1x_NoMark q2x_NoMark q3x_NoMark q4x_NoMark q5x_NoMark q6x_NoMark q7x_NoMark q8x_NoMark q9x_NoMark q10x_NoMark : Pos} {cdx_NoMark ccx_NoMark : Addr} {clx_NoMark cmx_NoMark : Value} {dex_NoMark dfx_NoMark : Option Addr} {vsx_NoMark : Array Value} {csx_NoMark ctl_NoMark : Array (Option Value)} {fix_NoMark : Str} {tfx_NoMark : Tok} {plx_NoMark : Sem Bool}
    (lk_NoMark : K.lookup c_NoMark = some (excClassObj nmx_NoMark qx_NoMark c_NoMark Nx_NoMark bsx_NoMark bmx_NoMark true snx_NoMark sbx_NoMark abx_NoMark cox_NoMark ddx_NoMark k0x_NoMark k1x_NoMark k2x_NoMark k3x_NoMark k5x_NoMark "ValueError.__new__"))
    (sa_NoMark : PySem.W.findIn K (.ref c_NoMark) "__setattr__" = some (some (.builtin "object.__setattr__"))) (in_NoMark : PySem.W.findIn K (.ref c_NoMark) "__init__" = some (some (.ref i_NoMark))) (tf_NoMark : PySem.W.typeIn K (.ref i_NoMark) = some (.type "function")) (kC_NoMark : PySem.W.keepIn K (.ref c_NoMark) = true) (exV_NoMark : PySem.W.subIn K (.ref c_NoMark) (.type "ValueError") = some true) (su_NoMark : PySem.W.ks_superIn K c_NoMark c_NoMark "__init__" = some (some (.builtin "ValueError.__init__"))) (mr_NoMark : PySem.W.mroIn K c_NoMark (.ref c_NoMark) = some true)
    (lfn_NoMark : K.lookup i_NoMark = some ⟨ocx_NoMark, odx_NoMark, .func (PySem.W.ksFn "__init__" qlx_NoMark (DX.eArgs "number" p1x_NoMark p2x_NoMark) (DX.eBody "number" q1x_NoMark q2x_NoMark q3x_NoMark q4x_NoMark q5x_NoMark q6x_NoMark q7x_NoMark q8x_NoMark q9x_NoMark q10x_NoMark) (DX.eScope "number") .none .none dcx_NoMark pmx_NoMark anx_NoMark (.ref cdx_NoMark) ctx_NoMark ccx_NoMark), slx_NoMark⟩)
    (cod_NoMark : PySem.W.codeIn K (.ref cdx_NoMark) qlx_NoMark = true) (lcd_NoMark : K.lookup cdx_NoMark = some ⟨clx_NoMark, dex_NoMark, .fields vsx_NoMark, csx_NoMark⟩) (lcc_NoMark : K.lookup ccx_NoMark = some ⟨cmx_NoMark, dfx_NoMark, .cell (some (.ref c_NoMark)), ctl_NoMark⟩)
    (rv_NoMark : PySem.HandSPX.refsVE bmx_NoMark = true) (v2_NoMark : vsx_NoMark[2]? = some (.str fix_NoMark tfx_NoMark)) (fl_NoMark : ((l.prog.main.file : Str) == fix_NoMark) = true)
    (ev_NoMark : ∀ env : PySem.Env, eval (.Call (.Attribute (.Call (.Name "super" q1x_NoMark) [] [] q2x_NoMark) "__init__" q3x_NoMark) [.Name "number" q4x_NoMark] [] q5x_NoMark) env = (do
      let ov ← attributeBase (.Call (.Name "super" q1x_NoMark) [] [] q2x_NoMark) "__init__" env (eval (.Call (.Name "super" q1x_NoMark) [] [] q2x_NoMark) env)
      standAt q3x_NoMark.atName
      let (f1, first) ← holding [ov] (getMethod ov "__init__" plx_NoMark)
      callWith q5x_NoMark f1 first (backTo q5x_NoMark (starEach [.Name "number" q4x_NoMark] env)) []))
    (s1_NoMark : ∀ env : PySem.Env, swapsWith (.Call (.Attribute (.Call (.Name "super" q1x_NoMark) [] [] q2x_NoMark) "__init__" q3x_NoMark) [.Name "number" q4x_NoMark] [] q5x_NoMark) none q6x_NoMark.line env = pure false) (s2_NoMark : ∀ env : PySem.Env, swapsWith (.Name "number" q9x_NoMark) (some (.Attribute (.Name "self" q7x_NoMark) "number" q8x_NoMark)) q10x_NoMark.line env = pure false)
    (sb_NoMark_CountError : PySem.W.subIn K (.ref c_NoMark) (.ref c_CountError) = some true)
    : ∃ fd : FuncData, (∀ (s : Shared) (v : Value), BindsTo s fd ⟨[v], []⟩ [("_law_script", v)]) ∧ ∀ base : Heap, K.In base → base.Ns mainGlobals mg → FnG l.prog w K mg base CX0 9 fa fd ["_law_script"] (spF K 1 F_law) := by
  have e := hfa.symm.trans (PySem.W.mg_of X G a24)
  cases e
  have cl_Counter : Cls K c_Counter := ⟨pg_Counter, hd_Counter, po_Counter, sa_Counter⟩
  have ty_Counter : ClsTy K "Counter" := ⟨c_Counter, q_Counter, cl_Counter, cc_Counter, mo_Counter⟩
  have er_NoMark : DX.ErrTxt l.prog K mg "NoMark" "number" c_NoMark i_NoMark := DX.errTxt_mk (PySem.W.mg_of X G q_NoMark) lk_NoMark sa_NoMark ga_NoMark gg_NoMark noN_NoMark in_NoMark tf_NoMark kC_NoMark exC_NoMark exV_NoMark tyC_NoMark hdC_NoMark su_NoMark mr_NoMark op_any (PySem.W.mg_none_of X G z_super) lfn_NoMark cod_NoMark lcd_NoMark lcc_NoMark rv_NoMark top_s (by decide) (by decide) rfl rfl rfl (fun _ _ _ _ _ _ _ _ _ _ _ _ => rfl) v2_NoMark fl_NoMark ev_NoMark s1_NoMark s2_NoMark
  have t3 : ∀ nm ∈ (["Counter"] : List Str), FldOk K nm "its_marks" := (fun _ h => by
      simp only [List.mem_cons, List.not_mem_nil, or_false] at h
      subst h
      · exact ⟨c_Counter, q_Counter, cl_Counter, nf_Counter_its_marks⟩)
  have t5 : TabOk K (tabT "bool" ["Counter"]) (fun t b => PySem.W.kitOne K t (.type "bool") = some b) := tabT_ok (fun _ h => by
      simp only [List.mem_cons, List.not_mem_nil, or_false] at h
      subst h
      · exact ⟨ty_Counter, c_Counter, q_Counter, kit_noT ns_Counter_bool (by decide +kernel)⟩)
  have t6 : TabOk K (tabT "int" ["Counter"]) (fun t b => PySem.W.kitOne K t (.type "int") = some b) := tabT_ok (fun _ h => by
      simp only [List.mem_cons, List.not_mem_nil, or_false] at h
      subst h
      · exact ⟨ty_Counter, c_Counter, q_Counter, kit_noT ns_Counter_int (by decide +kernel)⟩)
  have t7 : TabOk K (tabT2 "list" "tuple" ["Counter"]) (fun t b => PySem.W.kitAny K t [.type "list", .type "tuple"] = some b) := tabT2_ok (fun _ h => by
      simp only [List.mem_cons, List.not_mem_nil, or_false] at h
      subst h
      · exact ⟨ty_Counter, ⟨c_Counter, q_Counter, kit_noT ns_Counter_list (by decide +kernel)⟩, ⟨c_Counter, q_Counter, kit_noT ns_Counter_tuple (by decide +kernel)⟩⟩)
  have T : Tx l.prog w K mg c_TOUCHES c_Counter c_CountError c_NoMark i_NoMark := ⟨PySem.W.mg_none_of X G z_abs, PySem.W.mg_none_of X G z_all, PySem.W.mg_none_of X G z_bool, PySem.W.mg_none_of X G z_int, PySem.W.mg_none_of X G z_isinstance, PySem.W.mg_none_of X G z_len, PySem.W.mg_none_of X G z_list, PySem.W.mg_none_of X G z_range, PySem.W.mg_none_of X G z_repr, PySem.W.mg_none_of X G z_sorted, PySem.W.mg_none_of X G z_tuple, ⟨tk_MOST_MARKS, PySem.W.mg_of X G v_MOST_MARKS⟩, PySem.W.mg_of X G q_TOUCHES, rp_ktup v_TOUCHES x_TOUCHES y_TOUCHES, PySem.W.mg_of X G q_Counter, q_Counter, PySem.W.mg_of X G q_CountError, q_CountError, PySem.W.mg_of X G q_NoMark, q_NoMark, (catOk_cons q_NoMark (PySem.W.exm_ref exC_CountError hdC_CountError tyC_CountError sb_NoMark_CountError) catOk_nil), er_NoMark, (tabE_cons q_NoMark ⟨ga_NoMark, gg_NoMark, exC_NoMark, hdC_NoMark, cc_NoMark, cls_sp, cls_tk, mo_NoMark⟩ kit_same tabE_nil), ⟨ga_NoMark, gg_NoMark, exC_NoMark, hdC_NoMark⟩, noN_NoMark, t3, t5, t6, t7⟩
  refine ⟨PySem.W.fnOf "law" "law" (defArgs s_law) (defBody s_law) (defScope s_law) .none kV24 dc24 pm24 an24 cd24 ct24, fun s v => .of_eq rfl, fun base _ _ => ?_⟩
  have C_is_integer := ok_is_integer (P := l.prog) (w := w) (base := base) (fun_mk (st := s_is_integer) l0 c0 k0) (PySem.W.mg_of X G a0) T 
  have C_is_number := ok_is_number (P := l.prog) (w := w) (base := base) (fun_mk (st := s_is_number) l1 c1 k1) (PySem.W.mg_of X G a1) T C_is_integer
  have C_is_mark := ok_is_mark (P := l.prog) (w := w) (base := base) (fun_mk (st := s_is_mark) l2 c2 k2) (PySem.W.mg_of X G a2) T C_is_number
  have C_are_marks := ok_are_marks (P := l.prog) (w := w) (base := base) (fun_mk (st := s_are_marks) l3 c3 k3) (PySem.W.mg_of X G a3) T C_is_mark
  have C_Counter___init__ := ok_Counter___init__ (P := l.prog) (w := w) (base := base) (fun_mk (st := s_Counter___init__) l4 c4 k4) ⟨mk_Counter, a4, i4, kc_Counter⟩ T C_are_marks
  have C__law_alike := ok__law_alike (P := l.prog) (w := w) (base := base) (fun_mk (st := s__law_alike) l5 c5 k5) (PySem.W.mg_of X G a5) T 
  have C__law_bag := ok__law_bag (P := l.prog) (w := w) (base := base) (fun_mk (st := s__law_bag) l6 c6 k6) (PySem.W.mg_of X G a6) T 
  have C__law_sticking := ok__law_sticking (P := l.prog) (w := w) (base := base) (fun_mk (st := s__law_sticking) l7 c7 k7) (PySem.W.mg_of X G a7) T 
  have C__law_take := ok__law_take (P := l.prog) (w := w) (base := base) (fun_mk (st := s__law_take) l8 c8 k8) (PySem.W.mg_of X G a8) T 
  have C__law_counter := ok__law_counter (P := l.prog) (w := w) (base := base) (fun_mk (st := s__law_counter) l9 c9 k9) (PySem.W.mg_of X G a9) T C__law_sticking C__law_take
  have C_Counter___len__ := ok_Counter___len__ (P := l.prog) (w := w) (base := base) (fun_mk (st := s_Counter___len__) l10 c10 k10) cl_Counter ⟨a10, i10, k10⟩ T 
  have C_Counter_need_mark := ok_Counter_need_mark (P := l.prog) (w := w) (base := base) (fun_mk (st := s_Counter_need_mark) l11 c11 k11) cl_Counter ⟨a11, i11, k11⟩ T C_Counter___len__ C_is_number
  have C_Counter_less := ok_Counter_less (P := l.prog) (w := w) (base := base) (fun_mk (st := s_Counter_less) l12 c12 k12) cl_Counter ⟨a12, i12, k12⟩ T C_Counter_need_mark
  have C_Counter_more := ok_Counter_more (P := l.prog) (w := w) (base := base) (fun_mk (st := s_Counter_more) l13 c13 k13) cl_Counter ⟨a13, i13, k13⟩ T C_Counter_need_mark
  have C_touched := ok_touched (P := l.prog) (w := w) (base := base) (fun_mk (st := s_touched) l14 c14 k14) (PySem.W.mg_of X G a14) T C_Counter_less C_Counter_more
  have C_led := ok_led (P := l.prog) (w := w) (base := base) (fun_mk (st := s_led) l15 c15 k15) (PySem.W.mg_of X G a15) T C_Counter_need_mark C_touched
  have C_ways_from := ok_ways_from (P := l.prog) (w := w) (base := base) (fun_mk (st := s_ways_from) l16 c16 k16) (PySem.W.mg_of X G a16) T C_touched
  have C_touches_to := ok_touches_to (P := l.prog) (w := w) (base := base) (fun_mk (st := s_touches_to) l17 c17 k17) (PySem.W.mg_of X G a17) T C_Counter_need_mark C_ways_from
  have C__law_heard := ok__law_heard (P := l.prog) (w := w) (base := base) (fun_mk (st := s__law_heard) l18 c18 k18) (PySem.W.mg_of X G a18) T C_led C_touches_to
  have C__law_led := ok__law_led (P := l.prog) (w := w) (base := base) (fun_mk (st := s__law_led) l19 c19 k19) (PySem.W.mg_of X G a19) T 
  have C__law_mixed := ok__law_mixed (P := l.prog) (w := w) (base := base) (fun_mk (st := s__law_mixed) l20 c20 k20) (PySem.W.mg_of X G a20) T C__law_take
  have C__law_near_counter := ok__law_near_counter (P := l.prog) (w := w) (base := base) (fun_mk (st := s__law_near_counter) l21 c21 k21) (PySem.W.mg_of X G a21) T C__law_take
  have C__law_ways_to := ok__law_ways_to (P := l.prog) (w := w) (base := base) (fun_mk (st := s__law_ways_to) l22 c22 k22) (PySem.W.mg_of X G a22) T C__law_led
  have C_reached_marks := ok_reached_marks (P := l.prog) (w := w) (base := base) (fun_mk (st := s_reached_marks) l23 c23 k23) (PySem.W.mg_of X G a23) T C_ways_from
  exact ok_law (fun_mk (st := s_law) l24 c24 k24) T C_Counter___init__ C__law_alike C__law_bag C__law_counter C__law_heard C__law_led C__law_mixed C__law_near_counter C__law_take C__law_ways_to C_led C_reached_marks C_touches_to
end K33
open PySem PySem.W PyProof.Rows
set_option maxHeartbeats 0 in
theorem PySem.Challenge.cw_smallcount_k33_marks_that_come_holds : PySem.Challenge.rw_smallcount_k33_marks_that_come.Holds := by
  w_on; o_law; k_head; (case hw => w_witness2)
  k_fill
  refine DL.walk_ofG (l := PySem.Challenge.rw_smallcount_k33_marks_that_come) (n := 63) (k := 9) (x := "_law_script") (cx := fun _ => L2.CX0) (sp := fun w => DL.spF _ 1 K33.F_law) rfl (by decide) rfl ⟨rfl, by decide, by decide⟩ (fun w h Y => PySem.W.kIn_of Y) ?F (fun _ _ a ns _ _ hS => let ⟨_, h⟩ := K33.law_true ns; DL.law_sp hS h) (fun _ _ _ _ _ h => h)
  case F =>
    intro w mg fa h KX G hmg
    refine' K33.all_mk KX G hmg ?q_Counter ?pg_Counter ?hd_Counter ?po_Counter ?sa_Counter ?cc_Counter ?mo_Counter ?a0 ?l0 ?c0 ?k0 ?a1 ?l1 ?c1 ?k1 ?a2 ?l2 ?c2 ?k2 ?a3 ?l3 ?c3 ?k3 ?a4 ?i4 ?l4 ?c4 ?k4 ?a5 ?l5 ?c5 ?k5 ?a6 ?l6 ?c6 ?k6 ?a7 ?l7 ?c7 ?k7 ?a8 ?l8 ?c8 ?k8 ?a9 ?l9 ?c9 ?k9 ?a10 ?i10 ?l10 ?c10 ?k10 ?a11 ?i11 ?l11 ?c11 ?k11 ?a12 ?i12 ?l12 ?c12 ?k12 ?a13 ?i13 ?l13 ?c13 ?k13 ?a14 ?l14 ?c14 ?k14 ?a15 ?l15 ?c15 ?k15 ?a16 ?l16 ?c16 ?k16 ?a17 ?l17 ?c17 ?k17 ?a18 ?l18 ?c18 ?k18 ?a19 ?l19 ?c19 ?k19 ?a20 ?l20 ?c20 ?k20 ?a21 ?l21 ?c21 ?k21 ?a22 ?l22 ?c22 ?k22 ?a23 ?l23 ?c23 ?k23 ?a24 ?l24 ?c24 ?k24 ?mk_Counter ?kc_Counter ?z_abs ?z_all ?z_bool ?z_int ?z_isinstance ?z_len ?z_list ?z_range ?z_repr ?z_sorted ?z_tuple ?v_MOST_MARKS ?q_TOUCHES ?v_TOUCHES ?x_TOUCHES ?y_TOUCHES ?nf_Counter_its_marks ?ns_Counter_bool ?ns_Counter_int ?ns_Counter_list ?ns_Counter_tuple ?q_CountError ?ga_CountError ?gg_CountError ?exC_CountError ?hdC_CountError ?cc_CountError ?mo_CountError ?iC_CountError ?tyC_CountError ?q_NoMark ?ga_NoMark ?gg_NoMark ?exC_NoMark ?hdC_NoMark ?cc_NoMark ?mo_NoMark ?iC_NoMark ?tyC_NoMark ?noN_NoMark ?cls_sp ?cls_tk ?op_any ?z_super ?top_s ?lk_NoMark ?sa_NoMark ?in_NoMark ?tf_NoMark ?kC_NoMark ?exV_NoMark ?su_NoMark ?mr_NoMark ?lfn_NoMark ?cod_NoMark ?lcd_NoMark ?lcc_NoMark ?rv_NoMark ?v2_NoMark ?fl_NoMark ?ev_NoMark ?s1_NoMark ?s2_NoMark ?sb_NoMark_CountError
    (case q_Counter => k_is)
    (case pg_Counter => k_is)
    (case hd_Counter => k_is)
    (case po_Counter => k_is)
    (case sa_Counter => k_is)
    (case cc_Counter => k_is)
    (case mo_Counter => k_is)
    (case a0 => k_is)
    (case l0 => k_is)
    (case c0 => k_is)
    (case k0 => k_is)
    (case a1 => k_is)
    (case l1 => k_is)
    (case c1 => k_is)
    (case k1 => k_is)
    (case a2 => k_is)
    (case l2 => k_is)
    (case c2 => k_is)
    (case k2 => k_is)
    (case a3 => k_is)
    (case l3 => k_is)
    (case c3 => k_is)
    (case k3 => k_is)
    (case a4 => k_is)
    (case i4 => k_is)
    (case l4 => k_is)
    (case c4 => k_is)
    (case k4 => k_is)
    (case a5 => k_is)
    (case l5 => k_is)
    (case c5 => k_is)
    (case k5 => k_is)
    (case a6 => k_is)
    (case l6 => k_is)
    (case c6 => k_is)
    (case k6 => k_is)
    (case a7 => k_is)
    (case l7 => k_is)
    (case c7 => k_is)
    (case k7 => k_is)
    (case a8 => k_is)
    (case l8 => k_is)
    (case c8 => k_is)
    (case k8 => k_is)
    (case a9 => k_is)
    (case l9 => k_is)
    (case c9 => k_is)
    (case k9 => k_is)
    (case a10 => k_is)
    (case i10 => k_is)
    (case l10 => k_is)
    (case c10 => k_is)
    (case k10 => k_is)
    (case a11 => k_is)
    (case i11 => k_is)
    (case l11 => k_is)
    (case c11 => k_is)
    (case k11 => k_is)
    (case a12 => k_is)
    (case i12 => k_is)
    (case l12 => k_is)
    (case c12 => k_is)
    (case k12 => k_is)
    (case a13 => k_is)
    (case i13 => k_is)
    (case l13 => k_is)
    (case c13 => k_is)
    (case k13 => k_is)
    (case a14 => k_is)
    (case l14 => k_is)
    (case c14 => k_is)
    (case k14 => k_is)
    (case a15 => k_is)
    (case l15 => k_is)
    (case c15 => k_is)
    (case k15 => k_is)
    (case a16 => k_is)
    (case l16 => k_is)
    (case c16 => k_is)
    (case k16 => k_is)
    (case a17 => k_is)
    (case l17 => k_is)
    (case c17 => k_is)
    (case k17 => k_is)
    (case a18 => k_is)
    (case l18 => k_is)
    (case c18 => k_is)
    (case k18 => k_is)
    (case a19 => k_is)
    (case l19 => k_is)
    (case c19 => k_is)
    (case k19 => k_is)
    (case a20 => k_is)
    (case l20 => k_is)
    (case c20 => k_is)
    (case k20 => k_is)
    (case a21 => k_is)
    (case l21 => k_is)
    (case c21 => k_is)
    (case k21 => k_is)
    (case a22 => k_is)
    (case l22 => k_is)
    (case c22 => k_is)
    (case k22 => k_is)
    (case a23 => k_is)
    (case l23 => k_is)
    (case c23 => k_is)
    (case k23 => k_is)
    (case a24 => k_is)
    (case l24 => k_is)
    (case c24 => k_is)
    (case k24 => k_is)
    (case mk_Counter => k_is)
    (case kc_Counter => k_is)
    (case z_abs => k_is)
    (case z_all => k_is)
    (case z_bool => k_is)
    (case z_int => k_is)
    (case z_isinstance => k_is)
    (case z_len => k_is)
    (case z_list => k_is)
    (case z_range => k_is)
    (case z_repr => k_is)
    (case z_sorted => k_is)
    (case z_tuple => k_is)
    (case v_MOST_MARKS => k_is)
    (case q_TOUCHES => k_is)
    (case v_TOUCHES => k_is)
    (case nf_Counter_its_marks => k_is)
    (case ns_Counter_bool => k_is)
    (case ns_Counter_int => k_is)
    (case ns_Counter_list => k_is)
    (case ns_Counter_tuple => k_is)
    (case q_CountError => k_is)
    (case ga_CountError => k_is)
    (case gg_CountError => k_is)
    (case exC_CountError => k_is)
    (case hdC_CountError => k_is)
    (case cc_CountError => k_is)
    (case mo_CountError => k_is)
    (case iC_CountError => k_is)
    (case tyC_CountError => k_is)
    (case q_NoMark => k_is)
    (case ga_NoMark => k_is)
    (case gg_NoMark => k_is)
    (case exC_NoMark => k_is)
    (case hdC_NoMark => k_is)
    (case cc_NoMark => k_is)
    (case mo_NoMark => k_is)
    (case iC_NoMark => k_is)
    (case tyC_NoMark => k_is)
    (case noN_NoMark => k_is)
    (case cls_sp => k_is)
    (case cls_tk => k_is)
    (case op_any => k_is)
    (case z_super => k_is)
    (case lk_NoMark => k_is)
    (case sa_NoMark => k_is)
    (case in_NoMark => k_is)
    (case tf_NoMark => k_is)
    (case kC_NoMark => k_is)
    (case exV_NoMark => k_is)
    (case su_NoMark => ks_is)
    (case mr_NoMark => k_is)
    (case lfn_NoMark => k_is)
    (case cod_NoMark => k_is)
    (case lcd_NoMark => k_is)
    (case lcc_NoMark => k_is)
    (case sb_NoMark_CountError => k_is)
    (case x_TOUCHES => decide)
    (case y_TOUCHES => rfl)
    (case top_s => rfl)
    (case rv_NoMark => decide +kernel)
    (case v2_NoMark => rfl)
    (case fl_NoMark => first | rfl | decide +kernel)
    (case ev_NoMark => exact fun _ => rfl)
    (case s1_NoMark => exact fun _ => rfl)
    (case s2_NoMark => exact fun _ => rfl)
