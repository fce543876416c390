import PyProof.Rows.All
import HandS.ForMost
import HandS.Evl
import HandS.ForExc
import HandS.CallSlots
import HandS.Flow
import HandS.SetKeys
import HandS.More
import HandS.TupAny
import KE.GoesMore
import KE.GoesEnum
import HandS.Set
import HandS.SetFor
import PyProof.Rows.SortShellAny
import PySem.Challenge.RW_smallcount_k12_names_and_countings
set_option Elab.async false
set_option linter.all false
set_option autoImplicit false
set_option maxRecDepth 100000
/-! Defs whose frames run outside any repr: the guards are known to be none. -/
namespace DL
open PySem PySem.Spec PyProof.Rows L2

structure FnG (P : Program) (w : World) (K : PySem.W.Frag) (mg : Str → Option Value) (base : Heap) (cx : CXT)
    (k : Nat) (f : Addr) (fd : FuncData) (ps : List Str) (sp : Sp) : Prop where
  len : ∀ vs H Q E, sp vs H Q E → vs.length = ps.length
  run : ∀ (A : Around) (out : List Env) (s : Shared) (H : Hp) (args : Args) (us : List Value) (vs : List V) (Q : VK) (E : XK),
    Room k A → A.guards = some [] → Env0 P w K mg base A out s H → BindsTo s fd args (ps.zip us) → Vals vs us →
    sp vs H Q E → codeAny (model P w) A (.call (.ref f) args) (CR cx out P w H s Q E) s

theorem FnG.mono {P : Program} {w : World} {K : PySem.W.Frag} {mg : Str → Option Value} {base : Heap} {cx : CXT}
    {j k : Nat} {f : Addr} {fd : FuncData} {ps : List Str} {sp : Sp} (F : FnG P w K mg base cx j f fd ps sp) (h : j ≤ k) :
    FnG P w K mg base cx k f fd ps sp :=
  ⟨F.len, fun A o s H a us vs Q E hr => F.run A o s H a us vs Q E (hr.mono h)⟩

theorem fnG_of {cx : CXT} {P : Program} {w : World} {K : PySem.W.Frag} {mg : Str → Option Value} {base : Heap} {k : Nat}
    {f : Addr} {name qual : Str} {params : Arguments} {body : List Stmt} {sc : Scope} {dV kV doc pm cdv ct oc : Value}
    {an od : Option Addr} {osl : Array (Option Value)} {N ps : List Str} {sp : Sp}
    (lk : K.lookup f = some ⟨oc, od, .func (PySem.W.fnOf name qual params body sc dV kV doc pm an cdv ct), osl⟩)
    (hcd : PySem.W.codeIn K cdv qual = true) (S : FnScope N ps sc)
    (len : ∀ vs H Q E, sp vs H Q E → vs.length = ps.length)
    (hb : ∀ (A : Around) (out : List Env) (s : Shared) (H : Hp) (vs : List V) (Q : VK) (E : XK),
      Room k (A.deeper (envOfC qual sc s.heap.objs.size f cdv)) → A.guards = some [] → sp vs H Q E →
      ∃ t, PSs (cxOf cx P w K mg base N qual sc f cdv A out s H E) body t ∧
        t { nx := fun _ H' => Q .non H', rt := Q } (start N vs) H) :
    FnG P w K mg base cx (k + 1) f (PySem.W.fnOf name qual params body sc dV kV doc pm an cdv ct) ps sp := by
  refine ⟨len, fun A out s H args us vs Q E hr hg e0 bd r hsp => ?_⟩
  have hl := len _ _ _ _ hsp
  have stay : ∀ b o, base.get? b = some o → s.heap.get? b = some o := fun b o e => (e0.bs b o e).1
  have KX : K.In s.heap := e0.mod.kin.keeps stay
  have kinds : ∀ y ∈ ps.zip us, sc.names.lookup y.1 = some .local ∨
      (sc.names.lookup y.1 = some .cell ∧ ((cellsFrom (s.heap.objs.size + 1) sc.names []).lookup y.1).isSome = true) := by
    rintro ⟨n, v⟩ hy
    refine (S.par n (List.of_mem_zip hy).1).imp id fun q => ⟨q, ?_⟩
    exact PySem.W.cellsFrom_some _ _ _ (.inl q)
  refine codeAny_call_function hr.depth (KX _ _ lk) rfl S.co S.gen rfl (PySem.W.codeRec_of KX hcd) (bd _ _ _ _ ?_)
  refine wpAny_newFunctionEnv_cells S.kind kinds fun env he s1 x => ?_
  subst he
  refine ⟨(e0.mod.nolimit.keeps stay).keeps x.toInCall.keep, codeAny_func ?_⟩
  obtain ⟨t, ht, hq⟩ := hb A out s H vs Q E (hr.deeper _) hg hsp
  have I := inv_start (cd := cdv) (qual := qual) (f := f) (CX := cx) (E := E) S hr.hd e0 hl r x
  refine wpAny_mono (ht.run [] s1 (start N vs) H _ I hq) (fun fl s' hs => ?_) fun e s' hs => hs
  match fl, hs with
  | .ret u, ⟨v, _, H', J, rv, q⟩ => exact ⟨v, H', J.os, J.bare, J.base, J.hok, rv, q⟩
  | .next, ⟨_, H', J, q⟩ => exact ⟨V.non, H', J.os, J.bare, J.base, J.hok, rfl, q⟩
  | .brk, ⟨_, _, _, q⟩ => exact False.elim q
  | .cont, ⟨_, _, _, q⟩ => exact False.elim q

section
variable {X : Cx} {cx : CXT} {k : Nat} {f : Addr} {fd : FuncData} {ps : List Str} {sp : Sp} {dvs : List V} {ds : List Value}
  {E : L2.St → XK} {x : Str} {p pos : Pos} {e : Expr} {es : List Expr} {t : TA}
theorem run_fnG {pins : List (Addr × Obj)} {σ : L2.St} {H : Hp} {s : Shared} {Q : VK} {us : List Value} {vs : List V}
    (F : FnG X.prog X.w X.K X.mg X.base cx k f fd ps sp) (hr : Room k X.A) (hgd : X.A.guards = some [])
    (hb : Binds X.K fd ps ds) (hd : Vals dvs ds) (hx : PassesAt cx X σ (E σ)) (I : Inv X pins σ H s) (r : Vals vs us)
    (h : sp (vs ++ dvs) H Q (E σ)) : wpAny (model X.prog X.w) X.A (call (.ref f) us) (EP X pins σ Q) X.xe s := by
  have r2 : Vals (vs ++ dvs) (us ++ ds) := r.append hd
  have hl : (us ++ ds).length = ps.length := r2.length ▸ F.len _ _ _ _ h
  have run := F.run X.A X.stack s H ⟨us, []⟩ (us ++ ds) (vs ++ dvs) Q (E σ) hr hgd I.env0 (hb s us I.kIn hl) r2 h
  refine wpAny_call (codeAny_mono run fun z s' hq => ?_)
  match z, hq with
  | .error e, hq => exact hx pins H s e s' I hq
  | .ok (.ret u), hq => exact I.after hq
  | .ok .next, hq => exact hq.elim
  | .ok .brk, hq => exact hq.elim
  | .ok .cont, hq => exact hq.elim
theorem pe_callG (F : FnG X.prog X.w X.K X.mg X.base cx k f fd ps sp) (hr : Room k X.A) (hgd : X.A.guards = some [])
    (hg : Gl X x) (hm : X.mg x = some (.ref f)) (hk : PySem.W.keepIn X.K (.ref f) = true) (hb : Binds X.K fd ps ds)
    (hd : Vals dvs ds) (hx : ∀ σ, PassesAt cx X σ (E σ)) (ha : PA X (e :: es) t)
    (hdb : (x == ("__debug__" : Str)) = false := by decide)
    (he : starEach (e :: es) X.env = (false, eval e X.env) :: starEach es X.env := by rfl)
    (hpl : (backTo pos (starEach es X.env)).any (·.1) = false := by rfl) :
    PE X (.Call (.Name x p) (e :: es) [] pos) (tCallSD sp dvs E t) := by
  refine ⟨fun pins s σ H Q I h => wpAny_Call_Name_kw (ld_glob I hg hm ?_ hdb)⟩
  refine PySem.W.callWith_K (h₀ := X.base) I.ok.mod.kin hk (thn (ha.run pos pins s σ H _ I h) ?_) he hpl
  rintro us s1 ⟨vs, H1, I1, r, q⟩
  exact ⟨I1.kIn, run_fnG F hr hgd hb hd (hx σ) I1 r q⟩
end

/-- the law's call from outside, by a promise that may lean on the guards -/
theorem law_callG {P : Program} {w : World} {K : PySem.W.Frag} {mg mb : Str → Option Value} {cx : CXT} {k : Nat}
    {fa a : Addr} {fd : FuncData} {x : Str} {sp : Sp} {s₁ : Shared} {vs : List Value} {ns : List Int}
    (KX : K.In s₁.heap) (hns : s₁.heap.Ns mainGlobals mg) (hb : s₁.heap.Ns builtinsNs mb)
    (hbb : ∀ x : Str, x ≠ "__name__" → mb x = bootBuiltins x) (hlim : s₁.heap.NoLimit) (hg : s₁.gens = #[])
    (ha : s₁.heap.get? a = some { cls := .type "list", data := .seq vs.toArray }) (hi : IntsAre vs ns)
    (hl : ns.length ≤ sizeLine) (hr : Room k callerA)
    (F : ∀ base : Heap, K.In base → base.Ns mainGlobals mg → FnG P w K mg base cx k fa fd [x] sp)
    (hbind : ∀ (s : Shared) (u : Value), BindsTo s fd ⟨[u], []⟩ [(x, u)])
    (hsp : ∀ H : Hp, Only H → SqL K H a (ns.map V.int) → sp [.ref a] H (fun v _ => v = .bl true) fun _ _ _ => False)
    (hcx : ∀ H e s', cx [] H s₁ (fun _ _ _ => False) e s' → False) :
    codeAny (model P w) callerA (.call (.ref fa) ⟨[.ref a], []⟩)
      (fun r s' => r = .ok (.ret (.bool true)) ∧ OldK s₁.heap s'.heap ∧ s'.os = s₁.os ∧ AllBare s'.gens) s₁ := by
  have rv := vals_ints hi
  have main : ∀ H : Hp, Only H → SqL K H a (ns.map V.int) → HOk P w H s₁.heap → (∀ b, H b ≠ none → b = a) →
      (H a ≠ none → K.lookup a = none) → codeAny (model P w) callerA (.call (.ref fa) ⟨[.ref a], []⟩)
      (fun r s' => r = .ok (.ret (.bool true)) ∧ OldK s₁.heap s'.heap ∧ s'.os = s₁.os ∧ AllBare s'.gens) s₁ := by
    intro H hO hS hok hA hK
    have onlyA : ∀ {b : Addr} {u : HO}, H b = some u → b = a := fun {b u} q => hA b (by rw [q]; exact fun z => nomatch z)
    have dictFree : ∀ {b : Addr} {o : Obj} {es : Array DictEntry} {ep : Nat},
        s₁.heap.get? b = some o → o.data = .dict es ep → H b = none := by
      intro b o es ep e d
      match q : H b with
      | none => rfl
      | some u =>
        obtain rfl := onlyA q
        rw [ha] at e
        obtain rfl := Option.some.inj e
        exact nomatch (show Data.seq vs.toArray _ = Data.dict es ep from d)
    have ns' : ∀ {b : Addr} {m : Str → Option Value}, s₁.heap.Ns b m → (hidT s₁.heap H).Ns b m :=
      fun ⟨o, es, ep, e, d, r⟩ => ⟨o, es, ep, hidT_get e (dictFree e d), d, r⟩
    have kb : K.In (hidT s₁.heap H) := fun b o e => hidT_get (KX b o e) (by
      match q : H b with
      | none => rfl
      | some u =>
        obtain rfl := onlyA q
        rw [hK (by rw [q]; exact fun z => nomatch z)] at e
        exact nomatch e)
    have md : Mod K mg (hidT s₁.heap H) := ⟨kb, ns' hns, ⟨mb, ns' hb, hbb⟩, by
      obtain ⟨mc, h1, h2⟩ := hlim
      exact ⟨mc, ns' h1, h2⟩⟩
    have nofr : ∀ b : Addr, b ∉ frs [] := fun b z => nomatch (show b ∈ ([] : List Addr) from z)
    have e0 : Env0 P w K mg (hidT s₁.heap H) callerA [] s₁ H :=
      ⟨rfl, md, fun b o e => of_hidT e, Nat.le_of_eq (hidT_size _ _), trivial, fun b hb => absurd hb (nofr b), hok, .of_eq hg⟩
    have run := (F _ kb (ns' hns)).run callerA [] s₁ H ⟨[.ref a], []⟩ [.ref a] [.ref a] _ _ hr rfl e0
      (hbind s₁ (.ref a)) (.cons rfl .nil) (hsp H hO hS)
    refine codeAny_mono run fun r s' h => ?_
    match r, h with
    | .error e, h => exact (hcx H e s' h).elim
    | .ok .next, h => exact h.elim
    | .ok .brk, h => exact h.elim
    | .ok .cont, h => exact h.elim
    | .ok (.ret u), ⟨v, H', os, bare, un, hok', r', q⟩ =>
      obtain rfl : v = .bl true := q
      obtain rfl : u = Value.bool true := r'
      refine ⟨rfl, OldK.of_keep fun b o e => ?_, os, bare⟩
      match q : H b with
      | none => exact un.keep b o e q (nofr b) (fun z => nomatch z)
      | some u =>
        match hO b with
        | .inl z => rw [q] at z; exact nomatch z
        | .inr ⟨ob, xs, z⟩ =>
          have e1 := (hok b _ z).1
          rw [e] at e1
          obtain rfl := Option.some.inj e1
          exact (hok' b _ (un.frzs b _ _ z)).1
  match hk : K.lookup a with
  | some o =>
    have e := KX a o hk
    rw [ha] at e
    obtain rfl := Option.some.inj e
    have hz : vs.toArray.size ≤ sizeLine := by rw [List.size_toArray, hi.length]; exact hl
    refine main (fun _ => none) (fun _ => .inl rfl) (.inr ⟨_, vs.toArray, _, hk, rfl, rfl, rfl, hz, by simpa using rv⟩) ?_ ?_ ?_
    · exact fun b u z => nomatch (show (none : Option HO) = some u from z)
    · exact fun b z => absurd rfl z
    · exact fun z => absurd rfl z
  | none =>
    let so : Obj := { cls := .type "list", data := .seq vs.toArray }
    refine main (fun b => if b = a then some (.frz so (.lst (ns.map V.int))) else none) (fun b => ?_)
      (.inl (.inr ⟨so, if_pos rfl⟩)) (fun b u z => ?_) (fun b z => Classical.byContradiction fun hb => z (if_neg hb)) fun _ => hk
    · by_cases hb : b = a
      · exact .inr ⟨_, _, if_pos hb⟩
      · exact .inl (if_neg hb)
    · by_cases hb : b = a
      · have z' := (if_pos hb).symm.trans z
        obtain rfl := Option.some.inj z'
        subst hb
        exact ⟨ha, by rw [List.length_map]; exact hl, vs, _, rv, ha⟩
      · exact nomatch (if_neg hb).symm.trans z

theorem walk_ofG {l : PySem.W.OpenLaw} {n k : Nat} {q : Program} {loose : List Str} {XP : (Str → Option Value) → Heap → Prop}
    {YP : World → Heap → Prop} {d : DefRec} {K : Params → PySem.W.Frag} {cx : World → CXT} {sp : World → Sp} {x : Str}
    (hn : l.most = some n) (hn2 : n ≤ sizeLine) (hdf : d.params.defaults = []) (hr : Room k callerA)
    (hY : ∀ (w : World) (h : Heap), YP w h → (K w.params).In h)
    (F : ∀ (w : World) (mg : Str → Option Value) (fa : Addr) (h : Heap), (K w.params).In h → h.Ns mainGlobals mg →
      mg d.name = some (.ref fa) → ∃ fd : FuncData, (∀ (s : Shared) (u : Value), BindsTo s fd ⟨[u], []⟩ [(x, u)]) ∧
        ∀ base : Heap, (K w.params).In base → base.Ns mainGlobals mg →
          FnG l.prog w (K w.params) mg base (cx w) k fa fd [x] (sp w))
    (hsp : ∀ (w : World) (H : Hp) (a : Addr) (ns : List Int), ns.length ≤ n → Only H →
      SqL (K w.params) H a (ns.map V.int) → sp w [.ref a] H (fun v _ => v = .bl true) fun _ _ _ => False)
    (hcx : ∀ (w : World) (H : Hp) (s : Shared) (e : Value) (s' : Shared), cx w [] H s (fun _ _ _ => False) e s' → False) :
    PySem.W.WalkO q loose XP YP l.row.toRowW d [] (fun f vs => PySem.call f vs) := by
  refine Att.attach_call hn hdf fun w s₀ s₁ mg mb fa o pm cd doc a vs ns G Y ho hd hcd hmg hobj hints hlen hg => ?_
  obtain ⟨fd, hb, hF⟩ := F w mg fa _ (hY w _ Y) G.T.g hmg
  exact law_callG (hY w _ Y) G.T.g G.T.b G.T.builtins G.T.nolimit hg hobj hints (Nat.le_trans hlen hn2) hr hF hb
    (fun H hO hS => hsp w H a ns hlen hO hS) fun H e s' => hcx w H s₁ e s'
end DL
/-! Data in trees over the abstract heap: what a piece of Python does, as a plain function. -/
namespace DL
open PySem PySem.Spec PyProof.Rows L2
abbrev Slots := L2.St
/-- all that stands goes on standing -/
def Ex (H H' : Hp) : Prop := ∀ a o, H a = some o → H' a = some o
theorem Ex.refl (H : Hp) : Ex H H := fun _ _ h => h
theorem Ex.trans {H H1 H2 : Hp} (a : Ex H H1) (b : Ex H1 H2) : Ex H H2 := fun x o h => b x o (a x o h)
theorem Ex.new {H : Hp} {p : Addr} {o : HO} (h : H p = none) : Ex H (upd H p o) := fun a u e => by
  rw [upd_ne (ne_of_none e h)]; exact e
theorem ex_l {K : PySem.W.Frag} {H H' : Hp} {a : Addr} {xs : List V} (e : Ex H H') (h : SqL K H a xs) : SqL K H' a xs := by
  rcases h with (h | ⟨o, h⟩) | h
  · exact .inl (.inl (e _ _ h))
  · exact .inl (.inr ⟨o, e _ _ h⟩)
  · exact .inr h
theorem ex_t {K : PySem.W.Frag} {H H' : Hp} {a : Addr} {xs : List V} (e : Ex H H') (h : SqT K H a xs) : SqT K H' a xs := by
  rcases h with (h | ⟨o, h⟩) | h
  · exact .inl (.inl (e _ _ h))
  · exact .inl (.inr ⟨o, e _ _ h⟩)
  · exact .inr h

/-- data that no longer changes (fro: a list that is read only) -/
inductive D where
  | non | bl (b : Bool) | int (i : Int) | str (s : Str) | ty (n : String) | ref (a : Addr)
  | tup (xs : List D) | lst (xs : List D) | fro (xs : List D) | dct (kvs : List (Key × D)) | ins (C : Addr) (fs : List (Str × D))
/-- data, or a place that may change -/
inductive DV where
  | dat (d : D) | loc (n : Nat)
/-- what stands at a place -/
inductive Pl where
  | lst (xs : List DV) | dct (kvs : List (Key × DV)) | gone
/-- what an expression gives: data, a place, a new list, a new dict -/
inductive R where
  | dat (d : D) | loc (n : Nat) | nl (xs : List DV) | nk (kvs : List (Key × DV))
abbrev Mem := List Pl
abbrev Env := List (Option DV)
abbrev Pm := Nat → Option Addr
structure Xc where
  cls : Value
  fs : List (Str × D)
inductive Res (α : Type) where
  | ok (a : α) (μ : Mem) | exc (x : Xc) (μ : Mem) | bad
def Res.bind {α β : Type} (r : Res α) (k : α → Mem → Res β) : Res β := match r with
  | .ok a μ => k a μ
  | .exc x μ => .exc x μ
  | .bad => .bad
@[simp] theorem Res.bind_ok {α β : Type} (a : α) (μ : Mem) (k : α → Mem → Res β) : (Res.ok a μ).bind k = k a μ := rfl
@[simp] theorem Res.bind_exc {α β : Type} (x : Xc) (μ : Mem) (k : α → Mem → Res β) : (Res.exc x μ).bind k = .exc x μ := rfl
@[simp] theorem Res.bind_bad {α β : Type} (k : α → Mem → Res β) : (Res.bad).bind k = .bad := rfl

mutual
inductive Rp (K : PySem.W.Frag) (G : Hp) : V → D → Prop
  | non : Rp K G .non .non
  | bl (b) : Rp K G (.bl b) (.bl b)
  | int (i) : Rp K G (.int i) (.int i)
  | str (s) : Rp K G (.str s) (.str s)
  | ty (n) : Rp K G (.ty n) (.ty n)
  | ref (a) : Rp K G (.ref a) (.ref a)
  | tup {a vs ds} : SqT K G a vs → RpL K G vs ds → Rp K G (.ref a) (.tup ds)
  | lst {a vs ds} : G a = some (.lst vs) → RpL K G vs ds → Rp K G (.ref a) (.lst ds)
  | fro {a vs ds} : SqL K G a vs → RpL K G vs ds → Rp K G (.ref a) (.fro ds)
  | dct {a} {vs : List (Key × V)} {ds : List (Key × D)} : G a = some (.dK vs) → vs.map (·.1) = ds.map (·.1) →
      RpL K G (vs.map (·.2)) (ds.map (·.2)) → Rp K G (.ref a) (.dct ds)
  | ins {a dx C} {vs : List (Str × V)} {ds : List (Str × D)} : G a = some (.ins C dx vs) → G dx = some (.own a) →
      vs.map (·.1) = ds.map (·.1) → RpL K G (vs.map (·.2)) (ds.map (·.2)) → Rp K G (.ref a) (.ins C ds)
inductive RpL (K : PySem.W.Frag) (G : Hp) : List V → List D → Prop
  | nil : RpL K G [] []
  | cons {v vs d ds} : Rp K G v d → RpL K G vs ds → RpL K G (v :: vs) (d :: ds)
end
section
variable {K : PySem.W.Frag} {G G' H H' : Hp} {ρ ρ' : Pm}
mutual
theorem Rp.mono (e : Ex G G') : ∀ {v : V} {d : D}, Rp K G v d → Rp K G' v d
  | _, _, .non => .non
  | _, _, .bl b => .bl b
  | _, _, .int i => .int i
  | _, _, .str s => .str s
  | _, _, .ty n => .ty n
  | _, _, .ref a => .ref a
  | _, _, .tup h r => .tup (ex_t e h) (RpL.mono e r)
  | _, _, .lst h r => .lst (e _ _ h) (RpL.mono e r)
  | _, _, .fro h r => .fro (ex_l e h) (RpL.mono e r)
  | _, _, .dct h k r => .dct (e _ _ h) k (RpL.mono e r)
  | _, _, .ins h o k r => .ins (e _ _ h) (e _ _ o) k (RpL.mono e r)
theorem RpL.mono (e : Ex G G') : ∀ {vs : List V} {ds : List D}, RpL K G vs ds → RpL K G' vs ds
  | _, _, .nil => .nil
  | _, _, .cons a b => .cons (Rp.mono e a) (RpL.mono e b)
end
theorem RpL.length : ∀ {vs : List V} {ds : List D}, RpL K G vs ds → vs.length = ds.length
  | _, _, .nil => rfl
  | _, _, .cons _ b => congrArg (· + 1) (RpL.length b)
theorem RpL.get : ∀ {vs : List V} {ds : List D} {i : Nat} {v : V}, RpL K G vs ds → vs[i]? = some v → ∃ d, ds[i]? = some d ∧ Rp K G v d
  | _, _, _, _, .nil, h => by simp at h
  | _, _, 0, _, .cons a _, h => by cases h; exact ⟨_, rfl, a⟩
  | _, _, i + 1, v, .cons _ b, h => RpL.get (i := i) b h
theorem RpL.get' : ∀ {vs : List V} {ds : List D} {i : Nat} {d : D}, RpL K G vs ds → ds[i]? = some d → ∃ v, vs[i]? = some v ∧ Rp K G v d
  | _, _, _, _, .nil, h => by simp at h
  | _, _, 0, _, .cons a _, h => by cases h; exact ⟨_, rfl, a⟩
  | _, _, i + 1, v, .cons _ b, h => RpL.get' (i := i) b h
theorem RpL.take : ∀ {vs : List V} {ds : List D} (n : Nat), RpL K G vs ds → RpL K G (vs.take n) (ds.take n)
  | _, _, 0, _ => .nil
  | _, _, _ + 1, .nil => .nil
  | _, _, n + 1, .cons a b => .cons a (RpL.take n b)
theorem RpL.drop : ∀ {vs : List V} {ds : List D} (n : Nat), RpL K G vs ds → RpL K G (vs.drop n) (ds.drop n)
  | _, _, 0, r => r
  | _, _, _ + 1, .nil => .nil
  | _, _, n + 1, .cons _ b => RpL.drop n b
theorem RpL.append : ∀ {vs ws : List V} {ds es : List D}, RpL K G vs ds → RpL K G ws es → RpL K G (vs ++ ws) (ds ++ es)
  | _, _, _, _, .nil, r => r
  | _, _, _, _, .cons a b, r => .cons a (RpL.append b r)

def DvOk (K : PySem.W.Frag) (ρ : Pm) (G : Hp) (v : V) : DV → Prop
  | .dat d => Rp K G v d
  | .loc n => ∃ a, v = .ref a ∧ ρ n = some a
abbrev DvL (K : PySem.W.Frag) (ρ : Pm) (G : Hp) : List V → List DV → Prop := Paired (DvOk K ρ G)
def DV.below (n : Nat) : DV → Prop
  | .dat _ => True
  | .loc m => m < n
theorem DvOk.mono (e : Ex G G') (hρ : ∀ n a, ρ n = some a → ρ' n = some a) {v : V} : ∀ {x : DV}, DvOk K ρ G v x → DvOk K ρ' G' v x
  | .dat _, h => Rp.mono e h
  | .loc _, ⟨a, h, q⟩ => ⟨a, h, hρ _ _ q⟩
theorem DvL.mono (e : Ex G G') (hρ : ∀ n a, ρ n = some a → ρ' n = some a) {vs : List V} {xs : List DV} (h : DvL K ρ G vs xs) : DvL K ρ' G' vs xs :=
  Paired.mapP h fun _ _ q => q.mono e hρ
def PlOk (K : PySem.W.Frag) (ρ : Pm) (G H : Hp) (n : Nat) : Pl → Prop
  | .lst xs => (∀ x ∈ xs, x.below n) ∧ ∃ a vs, ρ n = some a ∧ H a = some (.lst vs) ∧ DvL K ρ G vs xs
  | .dct kvs => (∀ p ∈ kvs, p.2.below n) ∧ ∃ (a : Addr) (vs : List (Key × V)), ρ n = some a ∧ H a = some (.dK vs) ∧
      vs.map (·.1) = kvs.map (·.1) ∧ DvL K ρ G (vs.map (·.2)) (kvs.map (·.2))
  | .gone => True
/-- the places and the data as they stand in the heap -/
structure Rel (K : PySem.W.Frag) (ρ : Pm) (G H : Hp) (μ : Mem) : Prop where
  ex : Ex G H
  inj : ∀ m n a, ρ m = some a → ρ n = some a → m = n
  nG : ∀ n a, ρ n = some a → G a = none
  lt : ∀ n a, ρ n = some a → n < μ.length
  hs : ∀ n a, ρ n = some a → H a ≠ none
  pl : ∀ n p, μ[n]? = some p → PlOk K ρ G H n p
/-- from one heap to a later one: data stays, only places change -/
structure Tr (ρ : Pm) (G H G' H' : Hp) : Prop where
  exG : Ex G G'
  keep : ∀ a o, (∀ n, ρ n ≠ some a) → H a = some o → H' a = some o
  th : ∀ a, H' a = none → H a = none
  nG : ∀ a, G' a ≠ none → G a ≠ none ∨ H a = none
theorem Tr.refl (ρ : Pm) (G H : Hp) : Tr ρ G H G H := ⟨Ex.refl _, fun _ _ _ h => h, fun _ h => h, fun _ h => .inl h⟩
theorem Tr.trans {G1 H1 G2 H2 : Hp} (a : Tr ρ G H G1 H1) (b : Tr ρ G1 H1 G2 H2) : Tr ρ G H G2 H2 where
  exG := a.exG.trans b.exG
  keep := fun c o hc h => b.keep c o hc (a.keep c o hc h)
  th := fun c h => a.th c (b.th c h)
  nG := fun c h => (b.nG c h).elim (a.nG c) fun q => .inr (a.th c q)
theorem Rel.pmono {G1 : Hp} {μ : Mem} (r : Rel K ρ G H μ) {n : Nat} {p : Pl} (h : PlOk K ρ G H n p) (e : Ex G G1) : PlOk K ρ G1 H n p := by
  cases p with
  | lst xs => obtain ⟨b, a, vs, h1, h2, h3⟩ := h; exact ⟨b, a, vs, h1, h2, DvL.mono e (fun _ _ q => q) h3⟩
  | dct kvs => obtain ⟨b, a, vs, h1, h2, h4, h3⟩ := h; exact ⟨b, a, vs, h1, h2, h4, DvL.mono e (fun _ _ q => q) h3⟩
  | gone => trivial
/-- a new object is laid (and is not looked at) -/
theorem Rel.lay {μ : Mem} {p : Addr} {o : HO} (r : Rel K ρ G H μ) (hp : H p = none) : Rel K ρ G (upd H p o) μ ∧ Tr ρ G H G (upd H p o) := by
  have nG : G p = none := by
    cases q : G p with
    | none => rfl
    | some u => rw [r.ex _ _ q] at hp; cases hp
  have ne : ∀ a u, H a = some u → a ≠ p := fun a u h e => by rw [e, hp] at h; cases h
  refine ⟨⟨fun a u h => ?_, r.inj, r.nG, r.lt, fun n a h q => ?_, fun n q h => ?_⟩, ⟨Ex.refl _, fun a u _ h => ?_, fun a h => ?_, fun a h => .inl h⟩⟩
  · rw [upd_ne (ne a u (r.ex a u h))]; exact r.ex a u h
  · have z := r.hs n a h
    by_cases e : a = p
    · rw [e] at z; exact z hp
    · rw [upd_ne e] at q; exact z q
  · have z := r.pl n q h
    cases q with
    | lst xs => obtain ⟨b, a, vs, h1, h2, h3⟩ := z; exact ⟨b, a, vs, h1, by rw [upd_ne (ne _ _ h2)]; exact h2, h3⟩
    | dct kvs => obtain ⟨b, a, vs, h1, h2, h3⟩ := z; exact ⟨b, a, vs, h1, by rw [upd_ne (ne _ _ h2)]; exact h2, h3⟩
    | gone => trivial
  · rw [upd_ne (ne a u h)]; exact h
  · by_cases e : a = p
    · rw [e]; exact hp
    · rw [upd_ne e] at h; exact h
/-- an object that stands, is no place and was new at H0, is taken for data -/
theorem Rel.freeze {H0 G0 : Hp} {μ : Mem} {p : Addr} {o : HO} (r : Rel K ρ G H μ) (t : Tr ρ G0 H0 G H) (h : H p = some o) (h0 : H0 p = none) (hg : G p = none) (hn : ∀ n, ρ n ≠ some p) :
    Rel K ρ (upd G p o) H μ ∧ Tr ρ G0 H0 (upd G p o) H ∧ Ex G (upd G p o) := by
  have ex : Ex G (upd G p o) := Ex.new hg
  refine ⟨⟨fun a u q => ?_, r.inj, fun n a q => ?_, r.lt, r.hs, fun n q z => r.pmono (r.pl n q z) ex⟩, ⟨t.exG.trans ex, t.keep, t.th, fun a q => ?_⟩, ex⟩
  · by_cases e : a = p
    · subst e; rw [upd_same] at q; cases q; exact h
    · rw [upd_ne e] at q; exact r.ex a u q
  · have e : a ≠ p := fun e => hn n (e ▸ q)
    rw [upd_ne e]; exact r.nG n a q
  · by_cases e : a = p
    · subst e; exact .inr h0
    · rw [upd_ne e] at q; exact t.nG a q
/-- a new object is laid and taken for data -/
theorem Rel.layD {μ : Mem} {p : Addr} {o : HO} (r : Rel K ρ G H μ) (hp : H p = none) : Rel K ρ (upd G p o) (upd H p o) μ ∧ Tr ρ G H (upd G p o) (upd H p o) ∧ Ex G (upd G p o) := by
  have nG : G p = none := by
    cases q : G p with
    | none => rfl
    | some u => rw [r.ex _ _ q] at hp; cases hp
  obtain ⟨r1, t1⟩ := r.lay (o := o) hp
  exact r1.freeze t1 upd_same hp nG fun n q => r.hs n p q hp
end
end DL
namespace DL
open PySem PySem.Spec PyProof.Rows L2

/-- the slots hold what the environment says -/
structure EnvOk (K : PySem.W.Frag) (ρ : Pm) (G : Hp) (σ : Slots) (δ : Env) : Prop where
  len : σ.length = δ.length
  at_ : ∀ (i : Nat) (x : DV), δ[i]? = some (some x) → ∃ v, σ[i]? = some (some v) ∧ DvOk K ρ G v x
def RpR (K : PySem.W.Frag) (ρ : Pm) (G H0 H : Hp) (v : V) : R → Prop
  | .dat d => Rp K G v d
  | .loc n => ∃ a, v = .ref a ∧ ρ n = some a
  | .nl xs => ∃ a vs, v = .ref a ∧ H a = some (.lst vs) ∧ DvL K ρ G vs xs ∧ G a = none ∧ (∀ n, ρ n ≠ some a) ∧ H0 a = none
  | .nk kvs => ∃ (a : Addr) (vs : List (Key × V)), v = .ref a ∧ H a = some (.dK vs) ∧ vs.map (·.1) = kvs.map (·.1) ∧
      DvL K ρ G (vs.map (·.2)) (kvs.map (·.2)) ∧ G a = none ∧ (∀ n, ρ n ≠ some a) ∧ H0 a = none
def XcOk (K : PySem.W.Frag) (G H : Hp) (x : Xc) (cls : Value) (d : Option Addr) : Prop :=
  x.cls = cls ∧ ((x.fs = [] ∧ d = none) ∨ ∃ (a : Addr) (vs : List (Str × V)), d = some a ∧ H a = some (.xd vs) ∧
    vs.map (·.1) = x.fs.map (·.1) ∧ RpL K G (vs.map (·.2)) (x.fs.map (·.2)))
def PostG {α β : Type} (K : PySem.W.Frag) (W : WX) (ρ : Pm) (G H : Hp) (σ : Slots) (rp : Hp → Hp → β → α → Prop) (Q : β → Hp → Prop) : Res α → Prop
  | .ok r μ' => ∀ G' H' v, Tr ρ G H G' H' → Rel K ρ G' H' μ' → rp G' H' v r → Q v H'
  | .exc x μ' => ∀ G' H' cls d, Tr ρ G H G' H' → Rel K ρ G' H' μ' → XcOk K G' H' x cls d → W cls d σ H'
  | .bad => False
/-- f tells what t does -/
def SndG {α β : Type} (K : PySem.W.Frag) (W : WX) (t : Slots → Hp → (β → Hp → Prop) → Prop) (f : Env → Mem → Res α)
    (rp : Pm → Hp → Hp → Hp → β → α → Prop) : Prop :=
  ∀ (ρ : Pm) (G H : Hp) (σ : Slots) (δ : Env) (μ : Mem) (Q : β → Hp → Prop), Rel K ρ G H μ → EnvOk K ρ G σ δ →
    PostG K W ρ G H σ (fun G' H' => rp ρ G' H H') Q (f δ μ) → t σ H Q
abbrev rpE (K : PySem.W.Frag) : Pm → Hp → Hp → Hp → V → R → Prop := fun ρ G' H H' v r => RpR K ρ G' H H' v r
abbrev rpV (K : PySem.W.Frag) : Pm → Hp → Hp → Hp → V → DV → Prop := fun ρ G' _ _ v x => DvOk K ρ G' v x
abbrev rpA (K : PySem.W.Frag) : Pm → Hp → Hp → Hp → List V → List DV → Prop := fun ρ G' _ _ v x => DvL K ρ G' v x
abbrev rpT {α : Type} : Pm → Hp → Hp → Hp → α → α → Prop := fun _ _ _ _ v x => v = x
abbrev EM := Env → Mem → Res R
abbrev VM := Env → Mem → Res DV
abbrev AM := Env → Mem → Res (List DV)
abbrev TM := Env → Mem → Res Bool
abbrev SndE (K : PySem.W.Frag) (W : WX) (t : TE) (f : EM) : Prop := SndG K W t f (rpE K)
abbrev SndV (K : PySem.W.Frag) (W : WX) (t : TE) (f : VM) : Prop := SndG K W t f (rpV K)
abbrev SndA (K : PySem.W.Frag) (W : WX) (t : TA) (f : AM) : Prop := SndG K W t f (rpA K)
abbrev SndT (K : PySem.W.Frag) (W : WX) (t : TT) (f : TM) : Prop := SndG K W t f rpT

section
variable {K : PySem.W.Frag} {W : WX} {ρ : Pm} {G H G1 H1 : Hp} {σ : Slots} {δ : Env} {μ : Mem}
theorem EnvOk.mono (e : EnvOk K ρ G σ δ) (x : Ex G G1) : EnvOk K ρ G1 σ δ :=
  ⟨e.len, fun i d h => let ⟨v, a, b⟩ := e.at_ i d h; ⟨v, a, b.mono x fun _ _ q => q⟩⟩
theorem RpR.back {G' H' : Hp} {v : V} (h : ∀ a, H1 a = none → H a = none) : ∀ {r : R}, RpR K ρ G' H1 H' v r → RpR K ρ G' H H' v r
  | .dat _, q => q
  | .loc _, q => q
  | .nl _, ⟨a, vs, h1, h2, h3, h4, h5, h6⟩ => ⟨a, vs, h1, h2, h3, h4, h5, h a h6⟩
  | .nk _, ⟨a, vs, h1, h2, h2', h3, h4, h5, h6⟩ => ⟨a, vs, h1, h2, h2', h3, h4, h5, h a h6⟩
theorem PostG.shift {α β : Type} {rp rp1 : Hp → Hp → β → α → Prop} {Q : β → Hp → Prop} {out : Res α} (t : Tr ρ G H G1 H1)
    (hr : ∀ G' H' v r, rp1 G' H' v r → rp G' H' v r) (h : PostG K W ρ G H σ rp Q out) : PostG K W ρ G1 H1 σ rp1 Q out := by
  cases out with
  | ok r μ' => exact fun G' H' v t' R' q => h G' H' v (t.trans t') R' (hr _ _ _ _ q)
  | exc x μ' => exact fun G' H' cls d t' R' q => h G' H' cls d (t.trans t') R' q
  | bad => exact h
theorem PostG.shiftE {Q : VK} {out : Res R} (t : Tr ρ G H G1 H1) (h : PostG K W ρ G H σ (fun G' H' => rpE K ρ G' H H') Q out) :
    PostG K W ρ G1 H1 σ (fun G' H' => rpE K ρ G' H1 H') Q out := h.shift t fun _ _ _ _ q => q.back t.th
/-- what comes next of what came first -/
theorem SndG.seq {α α' β β' : Type} {t : Slots → Hp → (β → Hp → Prop) → Prop} {f : Env → Mem → Res α} {rp : Pm → Hp → Hp → Hp → β → α → Prop}
    (h : SndG K W t f rp) (R : Rel K ρ G H μ) (E : EnvOk K ρ G σ δ) {rp' : Hp → Hp → β' → α' → Prop} {Q' : β' → Hp → Prop} {k : α → Mem → Res α'}
    (hp : PostG K W ρ G H σ rp' Q' ((f δ μ).bind k)) {Q : β → Hp → Prop}
    (go : ∀ r μ' G' H' v, Tr ρ G H G' H' → Rel K ρ G' H' μ' → EnvOk K ρ G' σ δ → rp ρ G' H H' v r → PostG K W ρ G H σ rp' Q' (k r μ') → Q v H') : t σ H Q := by
  refine h ρ G H σ δ μ Q R E ?_
  cases e : f δ μ with
  | ok r μ' => rw [e] at hp; exact fun G' H' v t' R' q => go r μ' G' H' v t' R' (E.mono t'.exG) q hp
  | exc x μ' => rw [e] at hp; exact hp
  | bad => rw [e] at hp; exact hp

/-! ### freezing -/
def allDat : List DV → Option (List D)
  | [] => some []
  | .dat d :: xs => (allDat xs).map (d :: ·)
  | .loc _ :: _ => none
def frz : R → Option DV
  | .dat d => some (.dat d)
  | .loc n => some (.loc n)
  | .nl xs => (allDat xs).map fun ds => .dat (.lst ds)
  | .nk kvs => (allDat (kvs.map (·.2))).map fun ds => .dat (.dct ((kvs.map (·.1)).zip ds))
theorem allDat_map (ds : List D) : allDat (ds.map DV.dat) = some ds := by
  induction ds with
  | nil => rfl
  | cons d r ih => simp [allDat, ih]
theorem allDat_ok : ∀ {xs : List DV} {ds : List D} {vs : List V}, allDat xs = some ds → DvL K ρ G vs xs → RpL K G vs ds
  | [], _, _, h, r => by cases h; cases r; exact .nil
  | .dat d :: xs, ds, vs, h, r => by
    cases r with
    | cons r1 r2 =>
      simp only [allDat] at h
      cases e : allDat xs with
      | none => rw [e] at h; cases h
      | some es => rw [e] at h; cases h; exact .cons r1 (allDat_ok e r2)
  | .loc _ :: _, _, _, h, _ => by cases h
theorem allDat_len : ∀ {xs : List DV} {ds : List D}, allDat xs = some ds → xs.length = ds.length
  | [], _, h => by cases h; rfl
  | .dat d :: xs, ds, h => by
    simp only [allDat] at h
    cases e : allDat xs with
    | none => rw [e] at h; cases h
    | some es => rw [e] at h; cases h; simp [allDat_len e]
  | .loc _ :: _, _, h => by cases h
def frzV (f : EM) : VM := fun δ μ => (f δ μ).bind fun r μ' => match frz r with
  | some x => .ok x μ'
  | none => .bad
theorem RpR.frz {G0 H0 : Hp} {v : V} {r : R} {x : DV} (h : RpR K ρ G H0 H v r) (R : Rel K ρ G H μ) (t : Tr ρ G0 H0 G H) (e : frz r = some x) :
    ∃ G', Tr ρ G0 H0 G' H ∧ Rel K ρ G' H μ ∧ DvOk K ρ G' v x ∧ Ex G G' := by
  cases r with
  | dat d => cases e; exact ⟨G, t, R, h, Ex.refl _⟩
  | loc n => cases e; exact ⟨G, t, R, h, Ex.refl _⟩
  | nl xs =>
    obtain ⟨a, vs, rfl, h2, h3, h4, h5, h6⟩ := h
    simp only [DL.frz] at e
    cases q : allDat xs with
    | none => rw [q] at e; cases e
    | some ds =>
      rw [q] at e; cases e
      obtain ⟨R', t', ex⟩ := R.freeze t h2 h6 h4 h5
      exact ⟨_, t', R', Rp.lst upd_same (RpL.mono ex (allDat_ok q h3)), ex⟩
  | nk kvs =>
    obtain ⟨a, vs, rfl, h2, hk, h3, h4, h5, h6⟩ := h
    simp only [DL.frz] at e
    cases q : allDat (kvs.map (·.2)) with
    | none => rw [q] at e; cases e
    | some ds =>
      rw [q] at e; cases e
      obtain ⟨R', t', ex⟩ := R.freeze t h2 h6 h4 h5
      have el : (kvs.map (·.1)).length = ds.length := by rw [← allDat_len q]; simp
      refine ⟨_, t', R', Rp.dct upd_same (by rw [hk, List.map_fst_zip (by omega)]) ?_, ex⟩
      rw [List.map_snd_zip (by omega)]
      exact RpL.mono ex (allDat_ok q h3)
theorem SndE.toV {t : TE} {f : EM} (h : SndE K W t f) : SndV K W t (frzV f) := fun ρ G H σ δ μ Q R E hp => by
  refine SndG.seq (t := t) h R E hp fun r μ' G' H' v t' R' E' q hp' => ?_
  cases e : frz r with
  | none => rw [e] at hp'; exact hp'.elim
  | some x =>
    rw [e] at hp'
    obtain ⟨G2, t2, R2, d2, _⟩ := RpR.frz q R' t' e
    exact hp' G2 H' v t2 R2 d2
def ofV (x : DV) : R := match x with
  | .dat d => .dat d
  | .loc n => .loc n
theorem RpR.ofV {H0 : Hp} {v : V} {x : DV} (h : DvOk K ρ G v x) : RpR K ρ G H0 H v (ofV x) := by
  cases x <;> exact h
end
/-- an expression, its reading, its function -/
structure PM (X : Cx) (W : WX) (e : Expr) (te : TE) (f : EM) : Prop where
  pe : PE X e te
  sd : SndE X.K W te f
structure PMA (X : Cx) (W : WX) (es : List Expr) (ta : TA) (f : AM) : Prop where
  pe : PA X es ta
  sd : SndA X.K W ta f
structure PMT (X : Cx) (W : WX) (e : Expr) (tt : TT) (f : TM) : Prop where
  pe : PT X e tt
  sd : SndT X.K W tt f
section
variable {X : Cx} {W : WX}
/-! ### names, constants, argument lists, displays -/
def eVar (i : Nat) : EM := fun δ μ => match δ[i]? with
  | some (some x) => .ok (ofV x) μ
  | _ => .bad
def eD (d : D) : EM := fun _ μ => .ok (.dat d) μ
theorem snd_var {K : PySem.W.Frag} (i : Nat) : SndE K W (tVar i) (eVar i) := fun ρ G H σ δ μ Q R E hp => by
  unfold eVar at hp
  match e : δ[i]? with
  | none => rw [e] at hp; exact hp.elim
  | some none => rw [e] at hp; exact hp.elim
  | some (some x) =>
    rw [e] at hp
    obtain ⟨v, hv, d⟩ := E.at_ i x e
    exact ⟨v, hv, hp G H v (Tr.refl _ _ _) R (RpR.ofV d)⟩
theorem snd_c {K : PySem.W.Frag} {v : V} {d : D} (h : ∀ G, Rp K G v d) : SndE K W (tC v) (eD d) := fun ρ G H σ δ μ Q R E hp =>
  hp G H v (Tr.refl _ _ _) R (h G)
theorem pm_var (i : Nat) {x : Str} {pos : Pos} (hN : X.N[i]? = some x := by rfl) (hv : Vis X.env.scope x := by first | exact Or.inl rfl | exact Or.inr (Or.inl rfl) | exact Or.inr (Or.inr rfl))
    (hd : (x == ("__debug__" : Str)) = false := by decide) (hcd : (x == ("__classdict__" : Str)) = false := by decide) : PM X W (.Name x pos) (tVar i) (eVar i) := ⟨pe_var hN hv hd hcd, snd_var i⟩
theorem pm_int {i j pos} : PM X W (.Constant (.int i) j pos) (tC (.int i)) (eD (.int i)) := ⟨pe_int, snd_c fun _ => .int i⟩
theorem pm_str {s j pos} : PM X W (.Constant (.str s) j pos) (tC (.str s)) (eD (.str s)) := ⟨pe_str, snd_c fun _ => .str s⟩
theorem pm_bl {b j pos} : PM X W (.Constant (.bool b) j pos) (tC (.bl b)) (eD (.bl b)) := ⟨pe_bl, snd_c fun _ => .bl b⟩
theorem pm_non {j pos} : PM X W (.Constant .none j pos) (tC .non) (eD .non) := ⟨pe_non, snd_c fun _ => .non⟩
/-- a module's own tuple, list, class: known in every heap -/
theorem pm_glob {x : Str} {v : V} {u : Value} {pos : Pos} {d : D} (hg : Gl X x) (hm : X.mg x = some u) (r : RelV v u) (h : ∀ G, Rp X.K G v d) (hd : (x == ("__debug__" : Str)) = false := by decide) : PM X W (.Name x pos) (tC v) (eD d) := ⟨pe_glob hg hm r hd, snd_c h⟩
def aNil : AM := fun _ μ => .ok [] μ
def aCons (f : EM) (g : AM) : AM := fun δ μ => (frzV f δ μ).bind fun x μ1 => (g δ μ1).bind fun xs μ2 => .ok (x :: xs) μ2
theorem snd_nil {K : PySem.W.Frag} : SndA K W tNil aNil := fun ρ G H σ δ μ Q R E hp => hp G H [] (Tr.refl _ _ _) R .nil
theorem snd_cons {K : PySem.W.Frag} {t : TE} {ts : TA} {f : EM} {g : AM} (h : SndE K W t f) (hs : SndA K W ts g) : SndA K W (tCons t ts) (aCons f g) := fun ρ G H σ δ μ Q R E hp => by
  refine SndG.seq (t := t) h.toV R E hp fun x μ1 G1 H1 v t1 R1 E1 d1 hp1 => ?_
  refine SndG.seq (t := ts) hs R1 E1 (hp1.shift t1 fun _ _ _ _ q => q) fun xs μ2 G2 H2 vs t2 R2 E2 d2 hp2 => ?_
  exact hp2 G2 H2 (v :: vs) t2 R2 (.cons (d1.mono t2.exG fun _ _ q => q) d2)
theorem pma_nil : PMA X W [] tNil aNil := ⟨pa_nil, snd_nil⟩
theorem pma_cons {e : Expr} {es : List Expr} {t : TE} {ts : TA} {f : EM} {g : AM} (h : PM X W e t f) (hs : PMA X W es ts g) (hst : starEach (e :: es) X.env = (false, eval e X.env) :: starEach es X.env := by rfl) : PMA X W (e :: es) (tCons t ts) (aCons f g) :=
  ⟨pa_cons h.pe hs.pe hst, snd_cons h.sd hs.sd⟩
def eTup (g : AM) : EM := fun δ μ => (g δ μ).bind fun xs μ1 => match allDat xs with
  | some ds => if ds.length ≤ sizeLine then .ok (.dat (.tup ds)) μ1 else .bad
  | none => .bad
def eLst (g : AM) : EM := fun δ μ => (g δ μ).bind fun xs μ1 => if xs.length ≤ sizeLine then .ok (.nl xs) μ1 else .bad
theorem pm_tup {es : List Expr} {x1} {pos : Pos} {ts : TA} {g : AM} (h : PMA X W es ts g) : PM X W (.Tuple es x1 pos) (tTup ts) (eTup g) := ⟨pe_tup h.pe, fun ρ G H σ δ μ Q R E hp => by
  refine SndG.seq (t := ts) h.sd R E hp fun xs μ1 G1 H1 vs t1 R1 E1 d1 hp1 => ?_
  match e : allDat xs with
  | none => simp only [e] at hp1; exact hp1.elim
  | some ds =>
    simp only [e] at hp1
    have rl := allDat_ok e d1
    by_cases hz : ds.length ≤ sizeLine
    · rw [if_pos hz] at hp1
      refine ⟨by rw [rl.length]; exact hz, fun p hn => ?_⟩
      obtain ⟨R2, t2, ex⟩ := R1.layD (o := .tup vs) hn
      exact hp1 _ _ _ (t1.trans t2) R2 (Rp.tup (.inl (.inl upd_same)) (rl.mono ex))
    · rw [if_neg hz] at hp1; exact hp1.elim⟩
theorem fresh_ne {K : PySem.W.Frag} {ρ : Pm} {G H : Hp} {μ : Mem} {p : Addr} (R : Rel K ρ G H μ) (hp : H p = none) : G p = none ∧ ∀ n, ρ n ≠ some p := by
  refine ⟨?_, fun n q => R.hs n p q hp⟩
  cases q : G p with
  | none => rfl
  | some u => rw [R.ex _ _ q] at hp; cases hp
theorem paired_len {α β : Type} {P : α → β → Prop} : ∀ {l : List α} {m : List β}, Paired P l m → l.length = m.length
  | _, _, .nil => rfl
  | _, _, .cons _ t => congrArg (· + 1) (paired_len t)
/-- a new list is laid at p -/
theorem new_list {K : PySem.W.Frag} {ρ : Pm} {G H G0 H0 : Hp} {μ : Mem} {p : Addr} {vs : List V} {xs : List DV} {σ : Slots} {Q : VK} (R : Rel K ρ G H μ) (t : Tr ρ G0 H0 G H) (hn : H p = none) (d : DvL K ρ G vs xs)
    (hp : PostG K W ρ G0 H0 σ (fun G' H' => rpE K ρ G' H0 H') Q (.ok (.nl xs) μ)) : Q (.ref p) (upd H p (.lst vs)) := by
  obtain ⟨R2, t2⟩ := R.lay (o := .lst vs) hn
  obtain ⟨n1, n2⟩ := fresh_ne R hn
  exact hp _ _ _ (t.trans t2) R2 ⟨p, vs, rfl, upd_same, d, n1, n2, t.th p hn⟩
theorem pm_lst {es : List Expr} {pos : Pos} {ts : TA} {g : AM} (h : PMA X W es ts g) : PM X W (.List es pos) (tLst ts) (eLst g) := ⟨pe_lst h.pe, fun ρ G H σ δ μ Q R E hp => by
  refine SndG.seq (t := ts) h.sd R E hp fun xs μ1 G1 H1 vs t1 R1 E1 d1 hp1 => ?_
  by_cases hz : xs.length ≤ sizeLine
  · rw [if_pos hz] at hp1
    exact ⟨by rw [paired_len d1]; exact hz, fun p hn => new_list R1 t1 hn d1 hp1⟩
  · rw [if_neg hz] at hp1; exact hp1.elim⟩
/-! ### operators and calls by their values -/
/-- r is what g tells of two values -/
def OpD (K : PySem.W.Frag) (r : R2) (g : DV → DV → Mem → Res R) : Prop := ∀ (W : WX) (ρ : Pm) (G H : Hp) (σ : Slots) (μ : Mem) (v w : V) (x y : DV) (Q : VK), Rel K ρ G H μ → DvOk K ρ G v x → DvOk K ρ G w y →
  PostG K W ρ G H σ (fun G' H' => rpE K ρ G' H H') Q (g x y μ) → r v w H Q
def eOp (g : DV → DV → Mem → Res R) (fa fb : EM) : EM := fun δ μ => (frzV fa δ μ).bind fun x μ1 => (frzV fb δ μ1).bind fun y μ2 => g x y μ2
theorem snd_op {K : PySem.W.Frag} {r : R2} {g : DV → DV → Mem → Res R} {ta tb : TE} {fa fb : EM} (ho : OpD K r g) (ha : SndE K W ta fa) (hb : SndE K W tb fb) : SndE K W (tOp r ta tb) (eOp g fa fb) := fun ρ G H σ δ μ Q R E hp => by
  refine SndG.seq (t := ta) ha.toV R E hp fun x μ1 G1 H1 v t1 R1 E1 d1 hp1 => ?_
  refine SndG.seq (t := tb) hb.toV R1 E1 (hp1.shiftE t1) fun y μ2 G2 H2 w t2 R2 E2 d2 hp2 => ?_
  exact ho W ρ G2 H2 σ μ2 v w x y Q R2 (d1.mono t2.exG fun _ _ q => q) d2 (hp2.shiftE t2)
def CallD (K : PySem.W.Frag) (r : List V → Hp → VK → Prop) (g : List DV → Mem → Res R) : Prop := ∀ (W : WX) (ρ : Pm) (G H : Hp) (σ : Slots) (μ : Mem) (vs : List V) (xs : List DV) (Q : VK), Rel K ρ G H μ → DvL K ρ G vs xs →
  PostG K W ρ G H σ (fun G' H' => rpE K ρ G' H H') Q (g xs μ) → r vs H Q
def eCB (g : List DV → Mem → Res R) (fa : AM) : EM := fun δ μ => (fa δ μ).bind fun xs μ1 => g xs μ1
theorem snd_cb {K : PySem.W.Frag} {r : List V → Hp → VK → Prop} {g : List DV → Mem → Res R} {ta : TA} {fa : AM} (ho : CallD K r g) (ha : SndA K W ta fa) : SndE K W (tCB r ta) (eCB g fa) := fun ρ G H σ δ μ Q R E hp => by
  refine SndG.seq (t := ta) ha R E hp fun xs μ1 G1 H1 vs t1 R1 E1 d1 hp1 => ?_
  exact ho W ρ G1 H1 σ μ1 vs xs Q R1 d1 (hp1.shiftE t1)
theorem pm_op {a b : Expr} {op : Operator} {r : R2} {g : DV → DV → Mem → Res R} {ta tb : TE} {fa fb : EM} {pos : Pos} (ho : OpR X (binaryOp op) r) (hd : OpD X.K r g) (ha : PM X W a ta fa) (hb : PM X W b tb fb) : PM X W (.BinOp a op b pos) (tOp r ta tb) (eOp g fa fb) :=
  ⟨pe_op ho ha.pe hb.pe, snd_op hd ha.sd hb.sd⟩
theorem pm_cmp {a b : Expr} {op : CmpOp} {r : R2} {g : DV → DV → Mem → Res R} {ta tb : TE} {fa fb : EM} {pos : Pos} (ho : OpR X (compareOp op) r) (hd : OpD X.K r g) (ha : PM X W a ta fa) (hb : PM X W b tb fb) (hm : behindInMarks op b = false) : PM X W (.Compare a [op] [b] pos) (tOp r ta tb) (eOp g fa fb) :=
  ⟨pe_cmpR ho ha.pe hb.pe hm, snd_op hd ha.sd hb.sd⟩
theorem pm_ix {a b : Expr} {r : R2} {g : DV → DV → Mem → Res R} {ta tb : TE} {fa fb : EM} {pos : Pos} (ho : IxR X r) (hd : OpD X.K r g) (ha : PM X W a ta fa) (hb : PM X W b tb fb) (hs : PlainIx b) : PM X W (.Subscript a b pos) (tOp r ta tb) (eOp g fa fb) :=
  ⟨pe_ix ho ha.pe hb.pe hs, snd_op hd ha.sd hb.sd⟩
end
end DL
namespace DL
open PySem PySem.Spec PyProof.Rows L2

inductive Out where
  | next (δ : Env) (μ : Mem) | ret (r : R) (μ : Mem) | brk (δ : Env) (μ : Mem) | cnt (δ : Env) (μ : Mem)
  | exc (x : Xc) (δ : Env) (μ : Mem) | bad
abbrev SM := Nat → Env → Mem → Out
/-- over statements: places may come and (those from N on) be taken for data -/
structure TrS (N : Nat) (ρ : Pm) (G H : Hp) (ρ' : Pm) (G' H' : Hp) : Prop where
  pre : ∀ n, n < N → ρ' n = ρ n
  exG : Ex G G'
  keep : ∀ a o, (∀ n, ρ n ≠ some a) → H a = some o → H' a = some o
  th : ∀ a, H' a = none → H a = none
  nG : ∀ a, G' a ≠ none → G a ≠ none ∨ H a = none ∨ ∃ n, N ≤ n ∧ ρ n = some a
  nρ : ∀ n a, ρ' n = some a → ρ n = some a ∨ H a = none
section
variable {K : PySem.W.Frag} {W : WX} {N : Nat} {ρ ρ1 ρ2 : Pm} {G H G1 H1 G2 H2 : Hp} {σ : Slots} {δ : Env} {μ : Mem} {D : Ends}
theorem TrS.refl (N : Nat) (ρ : Pm) (G H : Hp) : TrS N ρ G H ρ G H := ⟨fun _ _ => rfl, Ex.refl _, fun _ _ _ h => h, fun _ h => h, fun _ h => .inl h, fun _ _ h => .inl h⟩
theorem TrS.trans (a : TrS N ρ G H ρ1 G1 H1) (b : TrS N ρ1 G1 H1 ρ2 G2 H2) : TrS N ρ G H ρ2 G2 H2 where
  pre := fun n h => (b.pre n h).trans (a.pre n h)
  exG := a.exG.trans b.exG
  keep := fun c o hc h => b.keep c o (fun n q => (a.nρ n c q).elim (hc n) fun z => by rw [z] at h; cases h) (a.keep c o hc h)
  th := fun c h => a.th c (b.th c h)
  nG := fun c h => (b.nG c h).elim (a.nG c) fun q => q.elim (fun q => .inr (.inl (a.th c q))) fun ⟨n, hn, q⟩ => (a.nρ n c q).elim (fun z => .inr (.inr ⟨n, hn, z⟩)) fun z => .inr (.inl z)
  nρ := fun n c h => (b.nρ n c h).elim (a.nρ n c) fun q => .inr (a.th c q)
theorem Tr.toS (t : Tr ρ G H G1 H1) : TrS N ρ G H ρ G1 H1 :=
  ⟨fun _ _ => rfl, t.exG, t.keep, t.th, fun a h => (t.nG a h).elim .inl fun q => .inr (.inl q), fun _ _ h => .inl h⟩
def PostS (K : PySem.W.Frag) (W : WX) (N : Nat) (ρ : Pm) (G H : Hp) (D : Ends) : Out → Prop
  | .next δ' μ' => ∀ ρ' G' H' σ', TrS N ρ G H ρ' G' H' → Rel K ρ' G' H' μ' → EnvOk K ρ' G' σ' δ' → D.nx σ' H'
  | .ret r μ' => ∀ ρ' G' H' v, TrS N ρ G H ρ' G' H' → Rel K ρ' G' H' μ' → RpR K ρ' G' H H' v r → D.rt v H'
  | .brk δ' μ' => ∀ ρ' G' H' σ', TrS N ρ G H ρ' G' H' → Rel K ρ' G' H' μ' → EnvOk K ρ' G' σ' δ' → D.bk σ' H'
  | .cnt δ' μ' => ∀ ρ' G' H' σ', TrS N ρ G H ρ' G' H' → Rel K ρ' G' H' μ' → EnvOk K ρ' G' σ' δ' → D.ct σ' H'
  | .exc x δ' μ' => ∀ ρ' G' H' σ' cls d, TrS N ρ G H ρ' G' H' → Rel K ρ' G' H' μ' → EnvOk K ρ' G' σ' δ' → XcOk K G' H' x cls d → W cls d σ' H'
  | .bad => False
def SndS (K : PySem.W.Frag) (W : WX) (t : TS) (g : SM) : Prop :=
  ∀ (N : Nat) (ρ : Pm) (G H : Hp) (σ : Slots) (δ : Env) (μ : Mem) (D : Ends), Rel K ρ G H μ → EnvOk K ρ G σ δ →
    PostS K W N ρ G H D (g N δ μ) → t D σ H
theorem PostS.shift {out : Out} (t : TrS N ρ G H ρ1 G1 H1) (h : PostS K W N ρ G H D out) : PostS K W N ρ1 G1 H1 D out := by
  cases out with
  | next δ' μ' => exact fun ρ' G' H' σ' t' => h ρ' G' H' σ' (t.trans t')
  | ret r μ' => exact fun ρ' G' H' v t' R' q => h ρ' G' H' v (t.trans t') R' (q.back t.th)
  | brk δ' μ' => exact fun ρ' G' H' σ' t' => h ρ' G' H' σ' (t.trans t')
  | cnt δ' μ' => exact fun ρ' G' H' σ' t' => h ρ' G' H' σ' (t.trans t')
  | exc x δ' μ' => exact fun ρ' G' H' σ' cls d t' => h ρ' G' H' σ' cls d (t.trans t')
  | bad => exact h
/-- a statement that begins with an expression -/
theorem SndG.stm {α β : Type} {t : Slots → Hp → (β → Hp → Prop) → Prop} {f : Env → Mem → Res α} {rp : Pm → Hp → Hp → Hp → β → α → Prop}
    (h : SndG K W t f rp) (R : Rel K ρ G H μ) (E : EnvOk K ρ G σ δ) {k : α → Mem → Out}
    (hp : PostS K W N ρ G H D (match f δ μ with | .ok r μ' => k r μ' | .exc x μ' => .exc x δ μ' | .bad => .bad)) {Q : β → Hp → Prop}
    (go : ∀ r μ' G' H' v, Tr ρ G H G' H' → Rel K ρ G' H' μ' → EnvOk K ρ G' σ δ → rp ρ G' H H' v r → PostS K W N ρ G H D (k r μ') → Q v H') : t σ H Q := by
  refine h ρ G H σ δ μ Q R E ?_
  cases e : f δ μ with
  | ok r μ' => rw [e] at hp; exact fun G' H' v t' R' q => go r μ' G' H' v t' R' (E.mono t'.exG) q hp
  | exc x μ' => rw [e] at hp; exact fun G' H' cls d t' R' q => hp ρ G' H' σ cls d t'.toS R' (E.mono t'.exG) q
  | bad => rw [e] at hp; exact hp
/-! ### blocks -/
def lift {α : Type} (r : Res α) (δ : Env) (k : α → Mem → Out) : Out := match r with
  | .ok a μ => k a μ
  | .exc x μ => .exc x δ μ
  | .bad => .bad
def gNext : SM := fun _ δ μ => .next δ μ
def gSeq (g h : SM) : SM := fun N δ μ => match g N δ μ with
  | .next δ' μ' => h N δ' μ'
  | .ret r μ' => .ret r μ'
  | .brk δ' μ' => .brk δ' μ'
  | .cnt δ' μ' => .cnt δ' μ'
  | .exc x δ' μ' => .exc x δ' μ'
  | .bad => .bad
theorem snd_next : SndS K W tNext gNext := fun N ρ G H σ δ μ D R E hp => hp ρ G H σ (TrS.refl _ _ _ _) R E
theorem snd_seq {t u : TS} {g h : SM} (h1 : SndS K W t g) (h2 : SndS K W u h) : SndS K W (tSeq t u) (gSeq g h) := fun N ρ G H σ δ μ D R E hp => by
  refine h1 N ρ G H σ δ μ { D with nx := u D } R E ?_
  unfold gSeq at hp
  cases e : g N δ μ with
  | next δ' μ' => rw [e] at hp; exact fun ρ' G' H' σ' t' R' E' => h2 N ρ' G' H' σ' δ' μ' D R' E' (hp.shift t')
  | ret r μ' => rw [e] at hp; exact hp
  | brk δ' μ' => rw [e] at hp; exact hp
  | cnt δ' μ' => rw [e] at hp; exact hp
  | exc x δ' μ' => rw [e] at hp; exact hp
  | bad => rw [e] at hp; exact hp
/-! ### simple statements -/
theorem EnvOk.set {v : V} {x : DV} (i : Nat) (E : EnvOk K ρ G σ δ) (h : DvOk K ρ G v x) : EnvOk K ρ G (σ.set i (some v)) (δ.set i (some x)) := by
  refine ⟨by simp [E.len], fun j y hj => ?_⟩
  by_cases e : i = j
  · subst e
    have hl : i < δ.length := by
      by_cases hl : i < δ.length
      · exact hl
      · rw [List.getElem?_eq_none (by simp; omega)] at hj; cases hj
    rw [List.getElem?_set_self hl] at hj
    cases hj
    exact ⟨v, List.getElem?_set_self (by rw [E.len]; exact hl), h⟩
  · rw [List.getElem?_set_ne e] at hj
    obtain ⟨w, h1, h2⟩ := E.at_ j y hj
    exact ⟨w, by rw [List.getElem?_set_ne e]; exact h1, h2⟩
def gAsg (i : Nat) (f : EM) : SM := fun _ δ μ => lift (frzV f δ μ) δ fun x μ' => .next (δ.set i (some x)) μ'
theorem snd_asg {te : TE} {f : EM} (i : Nat) (h : SndE K W te f) : SndS K W (tAsg te (gName i)) (gAsg i f) := fun N ρ G H σ δ μ D R E hp =>
  SndG.stm (t := te) h.toV R E hp fun x μ' G' H' v t' R' E' d hp' => hp' ρ G' H' _ t'.toS R' (E'.set i d)
def gDrop (f : EM) : SM := fun _ δ μ => lift (f δ μ) δ fun _ μ' => .next δ μ'
theorem snd_drop {te : TE} {f : EM} (h : SndE K W te f) : SndS K W (tDrop te) (gDrop f) := fun N ρ G H σ δ μ D R E hp =>
  SndG.stm (t := te) h R E hp fun x μ' G' H' v t' R' E' d hp' => hp' ρ G' H' _ t'.toS R' E'
def gRet (f : EM) : SM := fun _ δ μ => lift (f δ μ) δ fun r μ' => .ret r μ'
theorem snd_ret {te : TE} {f : EM} (h : SndE K W te f) : SndS K W (tRet te) (gRet f) := fun N ρ G H σ δ μ D R E hp =>
  SndG.stm (t := te) h R E hp fun x μ' G' H' v t' R' E' d hp' => hp' ρ G' H' _ t'.toS R' d
def gIf (f : TM) (g h : SM) : SM := fun N δ μ => lift (f δ μ) δ fun b μ' => if b = true then g N δ μ' else h N δ μ'
theorem snd_if {tc : TT} {t u : TS} {f : TM} {g h : SM} (hc : SndT K W tc f) (h1 : SndS K W t g) (h2 : SndS K W u h) : SndS K W (tIfS tc t u) (gIf f g h) := fun N ρ G H σ δ μ D R E hp => by
  refine SndG.stm (t := tc) hc R E hp fun b μ' G' H' v t' R' E' d hp' => ?_
  subst d
  cases v with
  | true => exact h1 N ρ G' H' σ δ μ' D R' E' (PostS.shift t'.toS hp')
  | false => exact h2 N ρ G' H' σ δ μ' D R' E' (PostS.shift t'.toS hp')
def gBrk : SM := fun _ δ μ => .brk δ μ
def gCnt : SM := fun _ δ μ => .cnt δ μ
theorem snd_brk : SndS K W tBreak gBrk := fun N ρ G H σ δ μ D R E hp => hp ρ G H σ (TrS.refl _ _ _ _) R E
theorem snd_cnt : SndS K W tCont gCnt := fun N ρ G H σ δ μ D R E hp => hp ρ G H σ (TrS.refl _ _ _ _) R E
/-! ### a new place -/
theorem DvOk.below {v : V} {x : DV} (R : Rel K ρ G H μ) (h : DvOk K ρ G v x) : x.below μ.length := by
  cases x with
  | dat d => trivial
  | loc n => obtain ⟨a, _, q⟩ := h; exact R.lt n a q
theorem DvL.below {vs : List V} {xs : List DV} (R : Rel K ρ G H μ) (h : DvL K ρ G vs xs) : ∀ x ∈ xs, x.below μ.length := by
  intro x hx
  induction h with
  | nil => cases hx
  | cons r _ ih =>
    rcases List.mem_cons.mp hx with e | e
    · rw [e]; exact DvOk.below R r
    · exact ih e
def addP (ρ : Pm) (n : Nat) (a : Addr) : Pm := fun m => if m = n then some a else ρ m
theorem Rel.alloc {G0 H0 : Hp} {a : Addr} {p : Pl} (R : Rel K ρ G H μ) (hN : N ≤ μ.length) (t : TrS N ρ G0 H0 ρ G H) (hs : H a ≠ none) (hg : G a = none) (hn : ∀ n, ρ n ≠ some a) (h0 : H0 a = none)
    (hp : PlOk K (addP ρ μ.length a) G H μ.length p) : Rel K (addP ρ μ.length a) G H (μ ++ [p]) ∧ TrS N ρ G0 H0 (addP ρ μ.length a) G H ∧ (∀ n b, ρ n = some b → addP ρ μ.length a n = some b) ∧ addP ρ μ.length a μ.length = some a := by
  have up : ∀ n b, ρ n = some b → addP ρ μ.length a n = some b := fun n b q => by
    unfold addP; rw [if_neg (Nat.ne_of_lt (R.lt n b q))]; exact q
  have dn : ∀ n b, addP ρ μ.length a n = some b → (n = μ.length ∧ b = a) ∨ ρ n = some b := fun n b q => by
    unfold addP at q
    by_cases e : n = μ.length
    · rw [if_pos e] at q; exact .inl ⟨e, (Option.some.inj q).symm⟩
    · rw [if_neg e] at q; exact .inr q
  refine ⟨⟨R.ex, fun m n b h1 h2 => ?_, fun n b h => ?_, fun n b h => ?_, fun n b h => ?_, fun n q h => ?_⟩, ⟨fun n h => ?_, t.exG, t.keep, t.th, t.nG, fun n b q => ?_⟩, up, by unfold addP; rw [if_pos rfl]⟩
  · rcases dn m b h1 with ⟨e1, e2⟩ | q1
    · rcases dn n b h2 with ⟨e3, _⟩ | q2
      · rw [e1, e3]
      · exact absurd (e2 ▸ q2) (hn n)
    · rcases dn n b h2 with ⟨_, e4⟩ | q2
      · exact absurd (e4 ▸ q1) (hn m)
      · exact R.inj m n b q1 q2
  · rcases dn n b h with ⟨_, e⟩ | q
    · rw [e]; exact hg
    · exact R.nG n b q
  · rw [List.length_append, List.length_singleton]
    rcases dn n b h with ⟨e, _⟩ | q
    · omega
    · have := R.lt n b q; omega
  · rcases dn n b h with ⟨_, e⟩ | q
    · rw [e]; exact hs
    · exact R.hs n b q
  · by_cases e : n < μ.length
    · rw [List.getElem?_append_left e] at h
      have z := R.pl n q h
      cases q with
      | lst xs => obtain ⟨b, c, vs, h1, h2, h3⟩ := z; exact ⟨b, c, vs, up _ _ h1, h2, DvL.mono (Ex.refl _) up h3⟩
      | dct xs => obtain ⟨b, c, vs, h1, h2, h4, h3⟩ := z; exact ⟨b, c, vs, up _ _ h1, h2, h4, DvL.mono (Ex.refl _) up h3⟩
      | gone => trivial
    · rw [List.getElem?_append_right (by omega)] at h
      have e2 : n = μ.length := by
        cases k : n - μ.length with
        | zero => omega
        | succ j => rw [k] at h; simp at h
      subst e2
      rw [Nat.sub_self] at h
      cases h
      exact hp
  · unfold addP; rw [if_neg (by omega)]
  · rcases dn n b q with ⟨_, e⟩ | q
    · rw [e]; exact .inr h0
    · exact t.nρ n b q
/-- what is given is bound to a name: a new list is a place from now on -/
def bindR (N i : Nat) (r : R) (δ : Env) (μ : Mem) : Out := match r with
  | .dat d => .next (δ.set i (some (.dat d))) μ
  | .loc n => .next (δ.set i (some (.loc n))) μ
  | .nl xs => if N ≤ μ.length then .next (δ.set i (some (.loc μ.length))) (μ ++ [.lst xs]) else .bad
  | .nk kvs => if N ≤ μ.length then .next (δ.set i (some (.loc μ.length))) (μ ++ [.dct kvs]) else .bad
theorem EnvOk.up (E : EnvOk K ρ G σ δ) (x : Ex G G1) (up : ∀ n b, ρ n = some b → ρ1 n = some b) : EnvOk K ρ1 G1 σ δ :=
  ⟨E.len, fun i y h => let ⟨v, a, b⟩ := E.at_ i y h; ⟨v, a, b.mono x up⟩⟩
theorem snd_bindR {r : R} {v : V} {G0 H0 : Hp} (i : Nat) (R' : Rel K ρ G H μ) (E' : EnvOk K ρ G σ δ) (t' : TrS N ρ G0 H0 ρ G H) (d : RpR K ρ G H0 H v r)
    (hp : PostS K W N ρ G0 H0 D (bindR N i r δ μ)) : D.nx (σ.set i (some v)) H := by
  cases r with
  | dat d' => exact hp ρ G H _ t' R' (E'.set i (x := .dat d') d)
  | loc n => exact hp ρ G H _ t' R' (E'.set i (x := .loc n) d)
  | nl xs =>
    obtain ⟨a, vs, rfl, h2, h3, h4, h5, h6⟩ := d
    have up : ∀ n b, ρ n = some b → addP ρ μ.length a n = some b := fun n b q => by
      unfold addP; rw [if_neg (Nat.ne_of_lt (R'.lt n b q))]; exact q
    unfold bindR at hp
    by_cases hN : N ≤ μ.length
    case neg => simp only [if_neg hN] at hp; exact hp.elim
    simp only [if_pos hN] at hp
    obtain ⟨R2, t2, up, at_⟩ := R'.alloc (p := .lst xs) hN t' (by rw [h2]; simp) h4 h5 h6 ⟨DvL.below R' h3, a, vs, by unfold addP; rw [if_pos rfl], h2, DvL.mono (Ex.refl _) up h3⟩
    exact hp _ G H _ t2 R2 ((E'.up (Ex.refl _) up).set i (x := .loc μ.length) ⟨a, rfl, at_⟩)
  | nk kvs =>
    obtain ⟨a, vs, rfl, h2, hk, h3, h4, h5, h6⟩ := d
    have up : ∀ n b, ρ n = some b → addP ρ μ.length a n = some b := fun n b q => by
      unfold addP; rw [if_neg (Nat.ne_of_lt (R'.lt n b q))]; exact q
    have bl : ∀ p ∈ kvs, p.2.below μ.length := fun p hp => DvL.below R' h3 p.2 (List.mem_map.mpr ⟨p, hp, rfl⟩)
    unfold bindR at hp
    by_cases hN : N ≤ μ.length
    case neg => simp only [if_neg hN] at hp; exact hp.elim
    simp only [if_pos hN] at hp
    obtain ⟨R2, t2, up, at_⟩ := R'.alloc (p := .dct kvs) hN t' (by rw [h2]; simp) h4 h5 h6 ⟨bl, a, vs, by unfold addP; rw [if_pos rfl], h2, hk, DvL.mono (Ex.refl _) up h3⟩
    exact hp _ G H _ t2 R2 ((E'.up (Ex.refl _) up).set i (x := .loc μ.length) ⟨a, rfl, at_⟩)
def gNew (i : Nat) (f : EM) : SM := fun N δ μ => lift (f δ μ) δ fun r μ' => bindR N i r δ μ'
theorem snd_new {te : TE} {f : EM} (i : Nat) (h : SndE K W te f) : SndS K W (tAsg te (gName i)) (gNew i f) := fun N ρ G H σ δ μ D R E hp =>
  SndG.stm (t := te) h R E hp fun x μ' G' H' v t' R' E' d hp' => snd_bindR i R' E' t'.toS d hp'
end
end DL
namespace DL
open PySem PySem.Spec PyProof.Rows L2

/-! ### what is forgotten: places from M on, slots that are not kept -/
def cutV (M : Nat) : Option DV → Option DV
  | some (.loc n) => if n < M then some (.loc n) else none
  | some (.dat d) => some (.dat d)
  | none => none
def cut (M : Nat) : List Bool → Env → Env
  | _, [] => []
  | [], _ :: δ => none :: cut M [] δ
  | b :: bs, x :: δ => (if b = true then cutV M x else none) :: cut M bs δ
def resP (M : Nat) (ρ : Pm) : Pm := fun n => if n < M then ρ n else none
theorem cut_len (M : Nat) : ∀ (bs : List Bool) (δ : Env), (cut M bs δ).length = δ.length
  | [], [] => rfl
  | _ :: _, [] => rfl
  | [], _ :: δ => congrArg (· + 1) (cut_len M [] δ)
  | _ :: bs, _ :: δ => congrArg (· + 1) (cut_len M bs δ)
theorem cutV_some {M : Nat} {o : Option DV} {x : DV} (h : cutV M o = some x) : o = some x ∧ x.below M := by
  match o, h with
  | some (.dat d), h => cases h; exact ⟨rfl, trivial⟩
  | some (.loc n), h =>
    simp only [cutV] at h
    by_cases e : n < M
    · rw [if_pos e] at h; cases h; exact ⟨rfl, e⟩
    · rw [if_neg e] at h; cases h
theorem cut_at (M : Nat) : ∀ (bs : List Bool) (δ : Env) (i : Nat) (x : DV), (cut M bs δ)[i]? = some (some x) → δ[i]? = some (some x) ∧ x.below M
  | [], [], i, x, h => by simp [cut] at h
  | _ :: _, [], i, x, h => by simp [cut] at h
  | [], _ :: δ, 0, x, h => by simp [cut] at h
  | [], _ :: δ, i + 1, x, h => cut_at M [] δ i x (by simpa [cut] using h)
  | b :: bs, y :: δ, 0, x, h => by
    simp only [cut, List.getElem?_cons_zero, Option.some.injEq] at h
    by_cases hb : b = true
    · rw [if_pos hb] at h
      obtain ⟨e, q⟩ := cutV_some h
      exact ⟨by rw [e]; rfl, q⟩
    · rw [if_neg hb] at h; cases h
  | b :: bs, y :: δ, i + 1, x, h => cut_at M bs δ i x (by simpa [cut] using h)
section
variable {K : PySem.W.Frag} {W : WX} {N M : Nat} {ρ ρ0 ρ1 ρ2 : Pm} {G H G0 H0 G1 H1 G2 H2 : Hp} {σ : Slots} {δ : Env} {μ : Mem} {Dn : Ends}
theorem resP_some {n : Nat} {a : Addr} (h : resP M ρ n = some a) : n < M ∧ ρ n = some a := by
  unfold resP at h
  by_cases e : n < M
  · rw [if_pos e] at h; exact ⟨e, h⟩
  · rw [if_neg e] at h; cases h
theorem resP_of {n : Nat} {a : Addr} (e : n < M) (h : ρ n = some a) : resP M ρ n = some a := by unfold resP; rw [if_pos e]; exact h
theorem DvOk.res {v : V} {x : DV} (h : DvOk K ρ G v x) (b : x.below M) : DvOk K (resP M ρ) G v x := by
  cases x with
  | dat d => exact h
  | loc n => obtain ⟨a, e, q⟩ := h; exact ⟨a, e, resP_of b q⟩
theorem DvL.res {vs : List V} {xs : List DV} (h : DvL K ρ G vs xs) (b : ∀ x ∈ xs, x.below M) : DvL K (resP M ρ) G vs xs := by
  induction h with
  | nil => exact .nil
  | cons r _ ih => exact .cons (r.res (b _ List.mem_cons_self)) (ih fun x hx => b x (List.mem_cons_of_mem _ hx))
theorem DV.below.mono {m n : Nat} {x : DV} (h : x.below m) (e : m ≤ n) : x.below n := by
  cases x with
  | dat d => trivial
  | loc k => exact Nat.lt_of_lt_of_le h e
theorem Rel.cut (R : Rel K ρ G H μ) (M : Nat) : Rel K (resP M ρ) G H (μ.take M) := by
  refine ⟨R.ex, fun m n a h1 h2 => R.inj m n a (resP_some h1).2 (resP_some h2).2, fun n a h => R.nG n a (resP_some h).2, fun n a h => ?_, fun n a h => R.hs n a (resP_some h).2, fun n p h => ?_⟩
  · obtain ⟨e, q⟩ := resP_some h
    have := R.lt n a q
    rw [List.length_take]; omega
  · have hn : n < M := by
      by_cases e : n < M
      · exact e
      · rw [List.getElem?_eq_none (by rw [List.length_take]; omega)] at h; cases h
    rw [List.getElem?_take_of_lt hn] at h
    have z := R.pl n p h
    cases p with
    | lst xs => obtain ⟨b, a, vs, h1, h2, h3⟩ := z; exact ⟨b, a, vs, resP_of hn h1, h2, h3.res fun x hx => (b x hx).mono (Nat.le_of_lt hn)⟩
    | dct kvs =>
      obtain ⟨b, a, vs, h1, h2, h4, h3⟩ := z
      refine ⟨b, a, vs, resP_of hn h1, h2, h4, h3.res fun x hx => ?_⟩
      obtain ⟨p, hp, rfl⟩ := List.mem_map.mp hx
      exact (b p hp).mono (Nat.le_of_lt hn)
    | gone => trivial
theorem EnvOk.cut (E : EnvOk K ρ G σ δ) (M : Nat) (bs : List Bool) : EnvOk K (resP M ρ) G σ (cut M bs δ) :=
  ⟨by rw [cut_len]; exact E.len, fun i x h => let ⟨h1, h2⟩ := cut_at M bs δ i x h; let ⟨v, a, b⟩ := E.at_ i x h1; ⟨v, a, b.res h2⟩⟩
theorem TrS.cut (t : TrS N ρ0 G0 H0 ρ G H) (h : ∀ n a, ρ0 n = some a → n < M) : TrS N ρ0 G0 H0 (resP M ρ) G H where
  pre := fun n hn => by
    unfold resP
    by_cases e : n < M
    · rw [if_pos e]; exact t.pre n hn
    · rw [if_neg e]
      cases q : ρ0 n with
      | none => rfl
      | some a => exact absurd (h n a q) e
  exG := t.exG
  keep := t.keep
  th := t.th
  nG := t.nG
  nρ := fun n a q => t.nρ n a (resP_some q).2

/-! ### for -/
def ItOk (K : PySem.W.Frag) (G0 : Hp) (J : It) (xs : List D) : Prop := ∀ (ρ : Pm) (G H : Hp) (μ : Mem), Rel K ρ G H μ → Ex G0 G →
  (∀ (i : Nat) (d : D), xs[i]? = some d → J.go i H ∧ ∀ v H', J.yld i H v H' → ∃ G', Tr ρ G H G' H' ∧ Rel K ρ G' H' μ ∧ Rp K G' v d) ∧ ∀ i, xs.length ≤ i → J.stop i H
abbrev rpI (K : PySem.W.Frag) : Pm → Hp → Hp → Hp → It → List D → Prop := fun _ G' _ _ J xs => ItOk K G' J xs
abbrev IM := Env → Mem → Res (List D)
abbrev SndI (K : PySem.W.Frag) (W : WX) (t : TI) (f : IM) : Prop := SndG K W t f (rpI K)
theorem wipe_in {σ : Slots} {i : Nat} : ∀ {vs : List Nat}, i ∈ vs → i < σ.length → (wipe σ vs)[i]? = some none
  | v :: vs, h, hl => by
    show ((wipe σ vs).set v none)[i]? = some none
    by_cases e : v = i
    · subst e; exact List.getElem?_set_self (by rw [wipe_length]; exact hl)
    · rw [List.getElem?_set_ne e]
      exact wipe_in ((List.mem_cons.mp h).elim (fun q => absurd q.symm e) id) hl
theorem wipe_ext {σ τ : Slots} {vs : List Nat} (hl : σ.length = τ.length) (h : ∀ i, i ∉ vs → σ[i]? = τ[i]?) : wipe σ vs = wipe τ vs := by
  refine List.ext_getElem? fun i => ?_
  by_cases hi : i ∈ vs
  · by_cases e : i < σ.length
    · rw [wipe_in hi e, wipe_in hi (hl ▸ e)]
    · rw [List.getElem?_eq_none (by rw [wipe_length]; omega), List.getElem?_eq_none (by rw [wipe_length]; omega)]
  · rw [wipe_out hi, wipe_out hi]; exact h i hi
/-- g is a target that sets the slots ts -/
def TgOk (K : PySem.W.Frag) (g : TG) (h : D → Env → Option Env) (ts : List Nat) : Prop := ∀ (ρ : Pm) (G H : Hp) (μ : Mem) (σ : Slots) (δ δ' : Env) (v : V) (d : D) (Q : Slots → Hp → Prop), Rel K ρ G H μ → EnvOk K ρ G σ δ → Rp K G v d → h d δ = some δ' →
  (∀ σ', EnvOk K ρ G σ' δ' → σ'.length = σ.length → (∀ i, i ∉ ts → σ'[i]? = σ[i]?) → Q σ' H) → g v σ H Q
def tgName (i : Nat) : D → Env → Option Env := fun d δ => some (δ.set i (some (.dat d)))
theorem tg_name (i : Nat) : TgOk K (gName i) (tgName i) [i] := fun ρ G H μ σ δ δ' v d Q R E h e q => by
  cases e; exact q _ (E.set i (x := .dat d) h) List.length_set fun j hj => List.getElem?_set_ne fun z => hj (by simp [z])
def turnL (M : Nat) (ks : List Bool) (out : Out) (k : Env → Mem → Out) : Out := match out with
  | .next δ' μ' => k (cut M ks δ') (μ'.take M)
  | .cnt δ' μ' => k (cut M ks δ') (μ'.take M)
  | .brk δ' μ' => .next (cut M ks δ') (μ'.take M)
  | .ret r μ' => .ret r μ'
  | .exc x δ' μ' => .exc x δ' μ'
  | .bad => .bad
def forL (M : Nat) (ks : List Bool) (h : D → Env → Option Env) (gb : SM) (N : Nat) : List D → Env → Mem → Out
  | [], δ, μ => .next δ μ
  | d :: ds, δ, μ => match h d δ with
    | none => .bad
    | some δ1 => turnL M ks (gb N δ1 μ) (forL M ks h gb N ds)
def gFor (ks : List Bool) (fi : IM) (h : D → Env → Option Env) (gb : SM) : SM := fun N δ μ => lift (fi δ μ) δ fun xs μ' => forL μ'.length ks h gb N xs δ μ'
/-- one turn of a loop, from what is known at its head (ρ0, G0, H0) -/
theorem turn_ok {tb : TS} {gb : SM} {ks : List Bool} {k : Env → Mem → Out} {Nn : Slots → Hp → Prop} (hb : SndS K W tb gb) (t : TrS N ρ0 G0 H0 ρ G H) (R : Rel K ρ G H μ) (E : EnvOk K ρ G σ δ) (hM : ∀ n a, ρ0 n = some a → n < M) (hM1 : ∀ n a, ρ n = some a → n < M)
    (hp : PostS K W N ρ0 G0 H0 Dn (turnL M ks (gb N δ μ) k))
    (go : ∀ ρ' G' H' σ' δ' μ', TrS N ρ0 G0 H0 ρ' G' H' → Ex G G' → Rel K ρ' G' H' μ' → EnvOk K ρ' G' σ' δ' → (∀ n a, ρ' n = some a → n < M) → PostS K W N ρ0 G0 H0 Dn (k δ' μ') → Nn σ' H') :
    tb { nx := Nn, rt := Dn.rt, bk := Dn.nx, ct := Nn } σ H := by
  refine hb N ρ G H σ δ μ _ R E ?_
  cases e : gb N δ μ with
  | next δ' μ' =>
    rw [e] at hp
    exact fun ρ' G' H' σ' t' R' E' => go _ G' H' σ' _ _ ((t.trans t').cut hM) t'.exG (R'.cut M) (E'.cut M ks) (fun n a q => (resP_some q).1) hp
  | cnt δ' μ' =>
    rw [e] at hp
    exact fun ρ' G' H' σ' t' R' E' => go _ G' H' σ' _ _ ((t.trans t').cut hM) t'.exG (R'.cut M) (E'.cut M ks) (fun n a q => (resP_some q).1) hp
  | brk δ' μ' =>
    rw [e] at hp
    exact fun ρ' G' H' σ' t' R' E' => hp _ G' H' σ' ((t.trans t').cut hM) (R'.cut M) (E'.cut M ks)
  | ret r μ' =>
    rw [e] at hp
    exact fun ρ' G' H' v t' R' q => hp ρ' G' H' v (t.trans t') R' (q.back t.th)
  | exc x δ' μ' =>
    rw [e] at hp
    exact fun ρ' G' H' σ' cls d t' => hp ρ' G' H' σ' cls d (t.trans t')
  | bad => rw [e] at hp; exact hp
theorem drop_cons {α : Type} {xs ds : List α} {i : Nat} {d : α} (h : xs.drop i = d :: ds) : xs[i]? = some d ∧ xs.drop (i + 1) = ds ∧ i < xs.length := by
  have hl : i < xs.length := by
    by_cases e : i < xs.length
    · exact e
    · rw [List.drop_eq_nil_of_le (by omega)] at h; cases h
  rw [List.drop_eq_getElem_cons hl] at h
  injection h with h1 h2
  exact ⟨by rw [List.getElem?_eq_getElem hl, h1], h2, hl⟩
theorem snd_for {wi : TI} {fi : IM} {g : TG} {h : D → Env → Option Env} {tb : TS} {gb : SM} (ks : List Bool) {tv : List Nat} (hi : SndI K W wi fi) (hg : TgOk K g h tv) (hb : SndS K W tb gb) : SndS K W (tFor wi g tb) (gFor ks fi h gb) := fun N ρ G H σ δ μ Dn R E hp => by
  refine SndG.stm (t := wi) hi R E hp fun xs μ0 G0 H0 J t0 R0 E0 it hp0 => ?_
  have hp0 := PostS.shift (t0.toS (N := N)) hp0
  refine ⟨fun i m σ H => ∃ ρ1 G1 δ1 μ1, Ex G0 G1 ∧ Rel K ρ1 G1 H μ1 ∧ EnvOk K ρ1 G1 σ δ1 ∧ (∀ n a, ρ1 n = some a → n < μ0.length) ∧ m = xs.length - i ∧ i ≤ xs.length ∧
    PostS K W N ρ1 G1 H Dn (forL μ0.length ks h gb N (xs.drop i) δ1 μ1), ⟨xs.length, ρ, G0, δ, μ0, Ex.refl _, R0, E0, R0.lt, by omega, by omega, hp0⟩, fun i m σ H hW => ?_⟩
  obtain ⟨ρ1, G1, δ1, μ1, x1, R1, E1, hM1, em, hi', hp1⟩ := hW
  obtain ⟨go, stop⟩ := it ρ1 G1 H μ1 R1 x1
  cases e : xs.drop i with
  | nil =>
    rw [e] at hp1
    have hl : xs.length ≤ i := by
      have := congrArg List.length e
      rw [List.length_drop] at this
      simp at this; omega
    exact .inl ⟨stop i hl, hp1 ρ1 G1 H σ (TrS.refl _ _ _ _) R1 E1⟩
  | cons d ds =>
    rw [e] at hp1
    obtain ⟨hd, hds, hlt⟩ := drop_cons e
    obtain ⟨g1, g2⟩ := go i d hd
    refine .inr ⟨g1, fun σ' H' => ∃ m', m' < m ∧ _, fun σ' H' q => q, fun v H' hy => ?_⟩
    obtain ⟨G2, t2, R2, rp⟩ := g2 v H' hy
    unfold forL at hp1
    cases eh : h d δ1 with
    | none => rw [eh] at hp1; exact hp1.elim
    | some δ2 =>
      rw [eh] at hp1
      refine hg ρ1 G2 H' μ1 σ δ1 δ2 v d _ R2 (E1.mono t2.exG) rp eh fun σ2 E2 _ _ => ?_
      refine turn_ok hb t2.toS R2 E2 hM1 hM1 hp1 fun ρ3 G3 H3 σ3 δ3 μ3 t3 _ R3 E3 hM3 hp3 => ?_
      refine ⟨xs.length - (i + 1), by omega, ρ3, G3, δ3, μ3, x1.trans t3.exG, R3, E3, hM3, rfl, hlt, ?_⟩
      rw [hds]; exact PostS.shift t3 hp3
/-! ### while -/
def whL (M : Nat) (ks : List Bool) (ft : TM) (gb : SM) (N : Nat) : Nat → Env → Mem → Out
  | 0, _, _ => .bad
  | k + 1, δ, μ => lift (ft δ μ) δ fun b μ1 => if b = true then turnL M ks (gb N δ μ1) (whL M ks ft gb N k) else .next δ μ1
def gWh (fuel : Nat) (ks : List Bool) (ft : TM) (gb : SM) : SM := fun N δ μ => whL μ.length ks ft gb N fuel δ μ
theorem snd_while {tc : TT} {ft : TM} {tb : TS} {gb : SM} (fuel : Nat) (ks : List Bool) (hc : SndT K W tc ft) (hb : SndS K W tb gb) : SndS K W (tWhile tc tb) (gWh fuel ks ft gb) := fun N ρ G H σ δ μ Dn R E hp => by
  refine ⟨fun m σ H' => ∃ ρ1 G1 δ1 μ1, Rel K ρ1 G1 H' μ1 ∧ EnvOk K ρ1 G1 σ δ1 ∧ (∀ n a, ρ1 n = some a → n < μ.length) ∧
    PostS K W N ρ1 G1 H' Dn (whL μ.length ks ft gb N m δ1 μ1), ⟨fuel, ρ, G, δ, μ, R, E, R.lt, hp⟩, fun m σ H' hW => ?_⟩
  obtain ⟨ρ1, G1, δ1, μ1, R1, E1, hM1, hp1⟩ := hW
  cases m with
  | zero => exact hp1.elim
  | succ k =>
    refine SndG.stm (t := tc) hc R1 E1 hp1 fun b μ2 G2 H2 v t2 R2 E2 d hp2 => ?_
    subst d
    cases v with
    | false => exact hp2 ρ1 G2 H2 σ t2.toS R2 E2
    | true =>
      refine ⟨fun σ' H'' => ∃ m', m' < k + 1 ∧ _, fun σ' H'' q => q, ?_⟩
      refine turn_ok hb t2.toS R2 E2 hM1 hM1 hp2 fun ρ3 G3 H3 σ3 δ3 μ3 t3 _ R3 E3 hM3 hp4 => ⟨k, by omega, ρ3, G3, δ3, μ3, R3, E3, hM3, PostS.shift t3 hp4⟩
/-! ### a def -/
def belowA (N : Nat) (xs : List DV) : Bool := xs.all fun x => match x with
  | .dat _ => true
  | .loc m => decide (m < N)
theorem belowA_ok {xs : List DV} (h : belowA N xs = true) : ∀ x ∈ xs, x.below N := fun x hx => by
  have := List.all_eq_true.mp h x hx
  cases x with
  | dat d => trivial
  | loc m => exact (of_decide_eq_true this : m < N)
def closeR (N : Nat) (r : R) (μ : Mem) : Res R := match r with
  | .dat d => .ok (.dat d) (μ.take N)
  | .nl xs => if belowA N xs = true then .ok (.nl xs) (μ.take N) else .bad
  | .nk kvs => if belowA N (kvs.map (·.2)) = true then .ok (.nk kvs) (μ.take N) else .bad
  | .loc n => if n < N then .ok (.loc n) (μ.take N) else match μ[n]? with
    | some (.lst xs) => if belowA N xs = true then .ok (.nl xs) (μ.take N) else .bad
    | some (.dct kvs) => if belowA N (kvs.map (·.2)) = true then .ok (.nk kvs) (μ.take N) else .bad
    | _ => .bad
/-- what a body gives, called -/
def callF (g : SM) (m : Nat) (args : List DV) (μ : Mem) : Res R := match g μ.length (args.map some ++ List.replicate m none) μ with
  | .next _ μ' => .ok (.dat .non) (μ'.take μ.length)
  | .ret r μ' => closeR μ.length r μ'
  | .exc x _ μ' => .exc x (μ'.take μ.length)
  | _ => .bad
def spF (K : PySem.W.Frag) (n : Nat) (F : List DV → Mem → Res R) : Sp := fun vs H Q E => vs.length = n ∧ ∃ ρ G μ xs, Rel K ρ G H μ ∧ DvL K ρ G vs xs ∧
  PostG K (fun cls d _ H => E cls d H) ρ G H [] (fun G' H' => rpE K ρ G' H H') Q (F xs μ)
theorem res_back (R : Rel K ρ G H μ) (t : TrS μ.length ρ G H ρ1 G1 H1) : resP μ.length ρ1 = ρ := by
  funext n
  unfold resP
  by_cases e : n < μ.length
  · rw [if_pos e]; exact t.pre n e
  · rw [if_neg e]
    cases q : ρ n with
    | none => rfl
    | some a => exact absurd (R.lt n a q) e
theorem tr_back (R : Rel K ρ G H μ) (t : TrS μ.length ρ G H ρ1 G1 H1) : Tr ρ G H G1 H1 where
  exG := t.exG
  keep := t.keep
  th := t.th
  nG := fun a h => (t.nG a h).elim .inl fun q => q.elim .inr fun ⟨n, hn, z⟩ => absurd (R.lt n a z) (by omega)
theorem RpR.close {μ1 μ2 : Mem} {r r' : R} {v : V} (R : Rel K ρ G H μ) (t : TrS μ.length ρ G H ρ1 G1 H1) (R1 : Rel K ρ1 G1 H1 μ1) (h : RpR K ρ1 G1 H H1 v r) (e : closeR μ.length r μ1 = .ok r' μ2) :
    RpR K ρ G1 H H1 v r' ∧ μ2 = μ1.take μ.length := by
  have eb := res_back R t
  have lst : ∀ {a : Addr} {vs : List V} {xs : List DV}, H1 a = some (.lst vs) → DvL K ρ1 G1 vs xs → G1 a = none → (∀ n, ρ n ≠ some a) → H a = none → belowA μ.length xs = true → RpR K ρ G1 H H1 (.ref a) (.nl xs) := fun {a vs xs} h1 h2 h3 h4 h5 h6 =>
    ⟨a, vs, rfl, h1, by have z := h2.res (belowA_ok h6); rw [eb] at z; exact z, h3, h4, h5⟩
  have dct : ∀ {a : Addr} {vs : List (Key × V)} {xs : List (Key × DV)}, H1 a = some (.dK vs) → vs.map (·.1) = xs.map (·.1) → DvL K ρ1 G1 (vs.map (·.2)) (xs.map (·.2)) → G1 a = none → (∀ n, ρ n ≠ some a) → H a = none → belowA μ.length (xs.map (·.2)) = true → RpR K ρ G1 H H1 (.ref a) (.nk xs) := fun {a vs xs} h1 hk h2 h3 h4 h5 h6 =>
    ⟨a, vs, rfl, h1, hk, by have z := h2.res (belowA_ok h6); rw [eb] at z; exact z, h3, h4, h5⟩
  have noρ : ∀ a, (∀ n, ρ1 n ≠ some a) → ∀ n, ρ n ≠ some a := fun a h n q => h n ((t.pre n (R.lt n a q)).trans q)
  cases r with
  | dat d => cases e; exact ⟨h, rfl⟩
  | nl xs =>
    obtain ⟨a, vs, rfl, h1, h2, h3, h4, h5⟩ := h
    simp only [closeR] at e
    by_cases hb : belowA μ.length xs = true
    · rw [if_pos hb] at e; cases e
      exact ⟨lst h1 h2 h3 (noρ a h4) h5 hb, rfl⟩
    · rw [if_neg hb] at e; cases e
  | nk kvs =>
    obtain ⟨a, vs, rfl, h1, hk, h2, h3, h4, h5⟩ := h
    simp only [closeR] at e
    by_cases hb : belowA μ.length (kvs.map (·.2)) = true
    · rw [if_pos hb] at e; cases e
      exact ⟨dct h1 hk h2 h3 (noρ a h4) h5 hb, rfl⟩
    · rw [if_neg hb] at e; cases e
  | loc n =>
    obtain ⟨a, rfl, q⟩ := h
    simp only [closeR] at e
    by_cases hn : n < μ.length
    · rw [if_pos hn] at e; cases e
      exact ⟨⟨a, rfl, (t.pre n hn).symm.trans q⟩, rfl⟩
    · rw [if_neg hn] at e
      have hne : ∀ m, ρ m ≠ some a := fun m z => by
        have h1 := (t.pre m (R.lt m a z)).trans z
        have h2 := R1.inj m n a h1 q
        exact hn (h2 ▸ R.lt m a z)
      have h0 : H a = none := (t.nρ n a q).elim (fun z => absurd z (hne n)) id
      have hg : G1 a = none := R1.nG n a q
      match em : μ1[n]? with
      | none => rw [em] at e; cases e
      | some .gone => rw [em] at e; cases e
      | some (.lst xs) =>
        rw [em] at e
        obtain ⟨_, b, vs, k1, k2, k3⟩ := R1.pl n _ em
        rw [q] at k1; cases k1
        by_cases hb : belowA μ.length xs = true
        · simp only [if_pos hb] at e; cases e
          exact ⟨lst k2 k3 hg hne h0 hb, rfl⟩
        · simp only [if_neg hb] at e; cases e
      | some (.dct kvs) =>
        rw [em] at e
        obtain ⟨_, b, vs, k1, k2, kk, k3⟩ := R1.pl n _ em
        rw [q] at k1; cases k1
        by_cases hb : belowA μ.length (kvs.map (·.2)) = true
        · simp only [if_pos hb] at e; cases e
          exact ⟨dct k2 kk k3 hg hne h0 hb, rfl⟩
        · simp only [if_neg hb] at e; cases e
/-- the body's reading from the promise -/
theorem body_ok {ts : TS} {g : SM} {Q : VK} {E : XK} {vs : List V} {Nm : List Str} {n : Nat} (hb : SndS K (fun cls d _ H => E cls d H) ts g) (hn : n ≤ Nm.length) (h : spF K n (callF g (Nm.length - n)) vs H Q E) :
    ts { nx := fun _ H' => Q .non H', rt := Q } (L2.start Nm vs) H := by
  obtain ⟨hl, ρ, G, μ, xs, R, d, hp⟩ := h
  have hx : xs.length = n := by rw [← paired_len d]; exact hl
  have env : EnvOk K ρ G (L2.start Nm vs) (xs.map some ++ List.replicate (Nm.length - n) none) := by
    refine ⟨by simp [L2.start, hl, hx], fun i x hi => ?_⟩
    have hi1 : i < xs.length := by
      by_cases e : i < xs.length
      · exact e
      · rw [List.getElem?_append_right (by simpa using e), List.getElem?_replicate] at hi
        split at hi <;> cases hi
    rw [List.getElem?_append_left (by simpa using hi1), List.getElem?_map, List.getElem?_eq_getElem hi1] at hi
    simp only [Option.map_some, Option.some.injEq] at hi
    have key : ∀ {vs : List V} {xs : List DV} {i : Nat} (d : DvL K ρ G vs xs) (hi : i < xs.length), ∃ v, vs[i]? = some v ∧ DvOk K ρ G v xs[i] := by
      intro vs xs i d
      induction d generalizing i with
      | nil => intro hi; exact absurd hi (Nat.not_lt_zero _)
      | cons r _ ih =>
        intro hi
        cases i with
        | zero => exact ⟨_, rfl, r⟩
        | succ i => exact ih (Nat.lt_of_succ_lt_succ hi)
    obtain ⟨v, h1, h2⟩ := key d hi1
    refine ⟨v, ?_, hi ▸ h2⟩
    unfold L2.start
    have hv : i < vs.length := by omega
    rw [List.getElem?_append_left (by simpa using hv), List.getElem?_map, h1]
    rfl
  refine hb μ.length ρ G H _ _ μ _ R env ?_
  unfold callF at hp
  cases e : g μ.length (xs.map some ++ List.replicate (Nm.length - n) none) μ with
  | next δ' μ' =>
    rw [e] at hp
    intro ρ' G' H' σ' t R' E'
    have z := R'.cut μ.length
    rw [res_back R t] at z
    exact hp G' H' .non (tr_back R t) z Rp.non
  | ret r μ' =>
    rw [e] at hp
    intro ρ' G' H' v t R' q
    simp only at hp
    cases ec : closeR μ.length r μ' with
    | bad => rw [ec] at hp; exact hp.elim
    | exc x μ2 => exact (by cases r <;> simp only [closeR] at ec <;> (repeat' split at ec) <;> cases ec)
    | ok r' μ2 =>
      rw [ec] at hp
      obtain ⟨q', em⟩ := RpR.close R t R' q ec
      have z := R'.cut μ.length
      rw [res_back R t, ← em] at z
      exact hp G' H' v (tr_back R t) z q'
  | brk δ' μ' => rw [e] at hp; exact hp.elim
  | cnt δ' μ' => rw [e] at hp; exact hp.elim
  | exc x δ' μ' =>
    rw [e] at hp
    intro ρ' G' H' σ' cls d t R' E' q
    have z := R'.cut μ.length
    rw [res_back R t] at z
    exact hp G' H' cls d (tr_back R t) z q
  | bad => rw [e] at hp; exact hp.elim
end
end DL
namespace DL
open PySem PySem.Spec PyProof.Rows L2
structure PSM (X : Cx) (W : WX) (st : Stmt) (ts : TS) (g : SM) : Prop where
  ps : PS X st ts
  sd : SndS X.K W ts g
structure PSMs (X : Cx) (W : WX) (st : List Stmt) (ts : TS) (g : SM) : Prop where
  ps : PSs X st ts
  sd : SndS X.K W ts g
structure PMI (X : Cx) (W : WX) (tg e : Expr) (wi : TI) (f : IM) : Prop where
  pi : PI X tg e wi
  sd : SndI X.K W wi f
structure PMG (X : Cx) (tg : Expr) (g : TG) (h : D → Env → Option Env) (ts : List Nat) : Prop where
  pg : PG X tg g
  ok : TgOk X.K g h ts
section
variable {X : Cx} {W : WX} {pos : Pos} {te : TE} {f : EM} {tt : TT} {ft : TM} {t u : TS} {g h : SM} {st : Stmt} {rest body els : List Stmt} {e : Expr}
theorem ss_nil : PSMs X W [] tNext gNext := ⟨pss_nil, snd_next⟩
theorem ss_cons (h1 : PSM X W st t g) (h2 : PSMs X W rest u h) : PSMs X W (st :: rest) (tSeq t u) (gSeq g h) := ⟨pss_cons h1.ps h2.ps, snd_seq h1.sd h2.sd⟩
theorem ss_one (h1 : PSM X W st t g) : PSMs X W [st] t g := ⟨pss_one h1.ps, h1.sd⟩
theorem sm_expr (h : PM X W e te f) (hs : swapsWith e none pos.line X.env = pure false := by rfl) : PSM X W (.Expr e pos) (tDrop te) (gDrop f) := ⟨ps_expr h.pe hs, snd_drop h.sd⟩
theorem sm_ret (h : PM X W e te f) : PSM X W (.Return (some e) pos) (tRet te) (gRet f) := ⟨ps_ret h.pe, snd_ret h.sd⟩
theorem sm_if (hc : PMT X W e tt ft) (h1 : PSMs X W body t g) (h2 : PSMs X W els u h) : PSM X W (.If e body els pos) (tIfS tt t u) (gIf ft g h) := ⟨ps_if hc.pe h1.ps h2.ps, snd_if hc.sd h1.sd h2.sd⟩
theorem sm_asg {x : Str} {p : Pos} (i : Nat) (hN : X.N.Nodup) (h : PM X W e te f) (hi : X.N[i]? = some x := by rfl) (hx : Loc X.env.scope x := by first | exact Or.inl rfl | exact Or.inr rfl)
    (hf : X.fn x = true ∨ X.env.scope.names.lookup x = some .local := by first | exact .inl rfl | exact .inr rfl)
    (a1 : swapsWithSole [.Name x p] e pos.line X.env = pure false := by rfl) (a2 : swappedStores [.Name x p] e X.env = pure none := by rfl) (a3 : List.map (fun x => x.snd) (assignEach [.Name x p] X.env) = [assign (.Name x p) X.env] := by rfl) :
    PSM X W (.Assign [.Name x p] e pos) (tAsg te (gName i)) (gAsg i f) := ⟨ps_asg h.pe (pg_name hN hi hx hf) a1 a2 a3, snd_asg i h.sd⟩
theorem sm_new {x : Str} {p : Pos} (i : Nat) (hN : X.N.Nodup) (h : PM X W e te f) (hi : X.N[i]? = some x := by rfl) (hx : Loc X.env.scope x := by first | exact Or.inl rfl | exact Or.inr rfl)
    (hf : X.fn x = true ∨ X.env.scope.names.lookup x = some .local := by first | exact .inl rfl | exact .inr rfl)
    (a1 : swapsWithSole [.Name x p] e pos.line X.env = pure false := by rfl) (a2 : swappedStores [.Name x p] e X.env = pure none := by rfl) (a3 : List.map (fun x => x.snd) (assignEach [.Name x p] X.env) = [assign (.Name x p) X.env] := by rfl) :
    PSM X W (.Assign [.Name x p] e pos) (tAsg te (gName i)) (gNew i f) := ⟨ps_asg h.pe (pg_name hN hi hx hf) a1 a2 a3, snd_new i h.sd⟩
theorem sm_brk : PSM X W (.Break pos) tBreak gBrk := ⟨ps_break, snd_brk⟩
theorem sm_cnt : PSM X W (.Continue pos) tCont gCnt := ⟨ps_continue, snd_cnt⟩
theorem sm_pass : PSM X W (.Pass pos) tNext gNext := ⟨ps_pass, snd_next⟩
theorem pg_nm {x : Str} (i : Nat) (hN : X.N.Nodup) (hi : X.N[i]? = some x := by rfl) (hx : Loc X.env.scope x := by first | exact Or.inl rfl | exact Or.inr rfl)
    (hf : X.fn x = true ∨ X.env.scope.names.lookup x = some .local := by first | exact .inl rfl | exact .inr rfl) : PMG X (.Name x pos) (gName i) (tgName i) [i] := ⟨pg_name hN hi hx hf, tg_name i⟩
theorem sm_for {tg iter : Expr} {wi : TI} {fi : IM} {gt : TG} {ht : D → Env → Option Env} {tv : List Nat} (ks : List Bool) (hp : PassesOwn (model X.prog X.w) X.A X.env X.xe) (hc : X.calm = true) (hi : PMI X W tg iter wi fi) (hg : PMG X tg gt ht tv) (hb : PSMs X W body t g)
    (hs : ∀ (x : Value), foldedSetIterable iter X.env x = pure x := by intro _; rfl) : PSM X W (.For tg iter body [] pos) (tFor wi gt t) (gFor ks fi ht g) :=
  ⟨ps_for hp hc hi.pi hg.pg hb.ps hs, snd_for ks hi.sd hg.ok hb.sd⟩
theorem sm_while (fuel : Nat) (ks : List Bool) (hp : PassesOwn (model X.prog X.w) X.A X.env X.xe) (hc : PMT X W e tt ft) (hb : PSMs X W body t g) : PSM X W (.While e body [] pos) (tWhile tt t) (gWh fuel ks ft g) :=
  ⟨ps_while hp hc.pe hb.ps, snd_while fuel ks hc.sd hb.sd⟩
end
/-! ### tests -/
section
variable {X : Cx} {W : WX} {pos : Pos} {te ta tb : TE} {f fa fb : EM} {tt tu : TT} {ft fu : TM} {a b e : Expr} {rest : List Expr}
def tmB (f : EM) : TM := fun δ μ => (f δ μ).bind fun r μ' => match r with
  | .dat (.bl b) => .ok b μ'
  | _ => .bad
theorem snd_tmB {K : PySem.W.Frag} {tt : TT} (h : SndE K W te f) (ht : ∀ σ H Q, tB te σ H Q → tt σ H Q) : SndT K W tt (tmB f) := fun ρ G H σ δ μ Q R E hp => ht σ H Q (by
  refine SndG.seq (t := te) h R E hp fun r μ' G' H' v t' R' E' q hp' => ?_
  match r, q, hp' with
  | .dat (.bl b), q, hp' => cases q; exact ⟨b, rfl, hp' G' H' b t' R' rfl⟩
  | .dat .non, _, hp' => exact hp'.elim
  | .dat (.int _), _, hp' => exact hp'.elim
  | .dat (.str _), _, hp' => exact hp'.elim
  | .dat (.ty _), _, hp' => exact hp'.elim
  | .dat (.ref _), _, hp' => exact hp'.elim
  | .dat (.tup _), _, hp' => exact hp'.elim
  | .dat (.lst _), _, hp' => exact hp'.elim
  | .dat (.fro _), _, hp' => exact hp'.elim
  | .dat (.dct _), _, hp' => exact hp'.elim
  | .dat (.ins _ _), _, hp' => exact hp'.elim
  | .loc _, _, hp' => exact hp'.elim
  | .nl _, _, hp' => exact hp'.elim
  | .nk _, _, hp' => exact hp'.elim)
/-- a comparison, any expression that gives a truth, as a test -/
theorem pt_cmp {op : CmpOp} {r : R2} {g : DV → DV → Mem → Res R} (ho : OpR X (compareOp op) r) (hd : OpD X.K r g) (ha : PM X W a ta fa) (hb : PM X W b tb fb) (hm : behindInMarks op b = false) : PMT X W (.Compare a [op] [b] pos) (tTest (tOp r ta tb)) (tmB (eOp g fa fb)) :=
  ⟨pt_cmpR ho ha.pe hb.pe hm, snd_tmB (snd_op hd ha.sd hb.sd) fun _ _ _ h => h⟩
theorem pt_of (h : PM X W e te f) (he : ∀ whole, isTrue e X.env whole = (do let v ← whole; standAt e.pos; holding [v] (truthy v)) := by intro _; rfl) : PMT X W e (tB te) (tmB f) :=
  ⟨L2.pt_val h.pe he, snd_tmB h.sd fun _ _ _ h => h⟩
def tmNot (f : TM) : TM := fun δ μ => (f δ μ).bind fun b μ' => .ok (!b) μ'
def tmAnd (f g : TM) : TM := fun δ μ => (f δ μ).bind fun b μ' => if b = true then g δ μ' else .ok false μ'
def tmOr (f g : TM) : TM := fun δ μ => (f δ μ).bind fun b μ' => if b = true then .ok true μ' else g δ μ'
theorem pt_no (h : PMT X W a tt ft) : PMT X W (.UnaryOp .Not a pos) (tNot tt) (tmNot ft) := ⟨L2.pt_not h.pe, fun ρ G H σ δ μ Q R E hp =>
  SndG.seq (t := tt) h.sd R E hp fun b μ' G' H' v t' R' E' q hp' => by subst q; exact hp' G' H' (!v) t' R' rfl⟩
structure PMW (X : Cx) (W : WX) (e : Expr) (tt : TT) (f : TM) : Prop where
  pe : PW X e tt
  sd : SndT X.K W tt f
theorem PMW.t (h : PMW X W e tt ft) : PMT X W e tt ft := ⟨h.pe.pt, h.sd⟩
theorem w_and1 (h : PMT X W a tt ft) : PMW X W (.BoolOp .And [a] pos) tt ft := ⟨pw_and1 h.pe, h.sd⟩
theorem w_or1 (h : PMT X W a tt ft) : PMW X W (.BoolOp .Or [a] pos) tt ft := ⟨pw_or1 h.pe, h.sd⟩
theorem w_and (h : PMT X W a tt ft) (hb : PMW X W (.BoolOp .And (b :: rest) pos) tu fu) : PMW X W (.BoolOp .And (a :: b :: rest) pos) (tAnd tt tu) (tmAnd ft fu) := ⟨pw_and h.pe hb.pe, fun ρ G H σ δ μ Q R E hp => by
  refine SndG.seq (t := tt) h.sd R E hp fun b μ' G' H' v t' R' E' q hp' => ?_
  subst q
  cases v with
  | true => exact hb.sd ρ G' H' σ δ μ' Q R' E' (hp'.shift t' fun _ _ _ _ q => q)
  | false => exact hp' G' H' false t' R' rfl⟩
theorem w_or (h : PMT X W a tt ft) (hb : PMW X W (.BoolOp .Or (b :: rest) pos) tu fu) : PMW X W (.BoolOp .Or (a :: b :: rest) pos) (tOr tt tu) (tmOr ft fu) := ⟨pw_or h.pe hb.pe, fun ρ G H σ δ μ Q R E hp => by
  refine SndG.seq (t := tt) h.sd R E hp fun b μ' G' H' v t' R' E' q hp' => ?_
  subst q
  cases v with
  | true => exact hp' G' H' true t' R' rfl
  | false => exact hb.sd ρ G' H' σ δ μ' Q R' E' (hp'.shift t' fun _ _ _ _ q => q)⟩
/-! ### and, or, not, if as values -/
def asB (r : R) : Option Bool := match r with
  | .dat (.bl b) => some b
  | _ => none
theorem asB_ok {K : PySem.W.Frag} {ρ : Pm} {G H0 H : Hp} {v : V} {r : R} {b : Bool} (h : RpR K ρ G H0 H v r) (e : asB r = some b) : v = .bl b := by
  unfold asB at e
  split at e
  · cases e; cases h; rfl
  · cases e
def eAnd (f g : EM) : EM := fun δ μ => (f δ μ).bind fun r μ' => match asB r with
  | some true => g δ μ'
  | some false => .ok (.dat (.bl false)) μ'
  | none => .bad
def eOr (f g : EM) : EM := fun δ μ => (f δ μ).bind fun r μ' => match asB r with
  | some true => .ok (.dat (.bl true)) μ'
  | some false => g δ μ'
  | none => .bad
def eNot (f : EM) : EM := fun δ μ => (f δ μ).bind fun r μ' => match asB r with
  | some b => .ok (.dat (.bl (!b))) μ'
  | none => .bad
theorem pm_one {op} (h : PM X W a te f) : PM X W (.BoolOp op [a] pos) te f := ⟨pe_one h.pe, h.sd⟩
theorem pm_and (ha : PM X W a ta fa) (hb : PM X W (.BoolOp .And (b :: rest) pos) tb fb) : PM X W (.BoolOp .And (a :: b :: rest) pos) (tAndV ta tb) (eAnd fa fb) := ⟨pe_and ha.pe hb.pe, fun ρ G H σ δ μ Q R E hp => by
  refine SndG.seq (t := ta) ha.sd R E hp fun r μ' G' H' v t' R' E' q hp' => ?_
  match e : asB r with
  | none => rw [e] at hp'; exact hp'.elim
  | some c =>
    rw [e] at hp'
    refine ⟨c, asB_ok q e, ?_⟩
    cases c with
    | true => exact hb.sd ρ G' H' σ δ μ' Q R' E' (hp'.shiftE t')
    | false => exact hp' G' H' _ t' R' (Rp.bl false)⟩
theorem pm_or (ha : PM X W a ta fa) (hb : PM X W (.BoolOp .Or (b :: rest) pos) tb fb) : PM X W (.BoolOp .Or (a :: b :: rest) pos) (tOrV ta tb) (eOr fa fb) := ⟨pe_or ha.pe hb.pe, fun ρ G H σ δ μ Q R E hp => by
  refine SndG.seq (t := ta) ha.sd R E hp fun r μ' G' H' v t' R' E' q hp' => ?_
  match e : asB r with
  | none => rw [e] at hp'; exact hp'.elim
  | some c =>
    rw [e] at hp'
    refine ⟨c, asB_ok q e, ?_⟩
    cases c with
    | true => exact hp' G' H' _ t' R' (Rp.bl true)
    | false => exact hb.sd ρ G' H' σ δ μ' Q R' E' (hp'.shiftE t')⟩
theorem pm_not (ha : PM X W a ta fa) : PM X W (.UnaryOp .Not a pos) (tNotV ta) (eNot fa) := ⟨pe_not ha.pe, fun ρ G H σ δ μ Q R E hp => by
  refine SndG.seq (t := ta) ha.sd R E hp fun r μ' G' H' v t' R' E' q hp' => ?_
  match e : asB r with
  | none => rw [e] at hp'; exact hp'.elim
  | some c => rw [e] at hp'; exact ⟨c, asB_ok q e, hp' G' H' _ t' R' (Rp.bl _)⟩⟩
def eIf (f : TM) (g h : EM) : EM := fun δ μ => (f δ μ).bind fun b μ' => if b = true then g δ μ' else h δ μ'
theorem pm_if {c : Expr} (hc : PMT X W c tt ft) (ha : PM X W a ta fa) (hb : PM X W b tb fb) : PM X W (.IfExp c a b pos) (tIf tt ta tb) (eIf ft fa fb) := ⟨pe_ifExp hc.pe ha.pe hb.pe, fun ρ G H σ δ μ Q R E hp => by
  refine SndG.seq (t := tt) hc.sd R E hp fun b μ' G' H' v t' R' E' q hp' => ?_
  subst q
  cases v with
  | true => exact ha.sd ρ G' H' σ δ μ' Q R' E' (hp'.shiftE t')
  | false => exact hb.sd ρ G' H' σ δ μ' Q R' E' (hp'.shiftE t')⟩
end
end DL
namespace DL
open PySem PySem.Spec PyProof.Rows L2
/-! ### comprehensions -/
def wipeE (δ : Env) : List Nat → Env
  | [] => δ
  | v :: vs => (wipeE δ vs).set v none
def WF : WX := fun _ _ _ _ => False
def lcL (h : D → Env → Option Env) (ft : TM) (fe : EM) (δ : Env) : List D → Mem → Res (List DV)
  | [], μ => .ok [] μ
  | d :: ds, μ => match h d δ with
    | none => .bad
    | some δ1 => match ft δ1 μ with
      | .ok true μ1 => match frzV fe δ1 μ1 with
        | .ok y μ2 => (lcL h ft fe δ ds μ2).bind fun ys μ3 => .ok (y :: ys) μ3
        | _ => .bad
      | .ok false μ1 => lcL h ft fe δ ds μ1
      | _ => .bad
def eLc (fi : IM) (h : D → Env → Option Env) (ft : TM) (fe : EM) (vs : List Nat) : EM := fun δ μ => (fi δ μ).bind fun xs μ' =>
  if xs.length ≤ sizeLine then (lcL h ft fe (wipeE δ vs) xs μ').bind fun ys μ2 => .ok (.nl ys) μ2 else .bad
section
variable {K : PySem.W.Frag} {W : WX} {N M : Nat} {ρ ρ0 ρ1 ρ2 : Pm} {G H G0 H0 G1 H1 G2 H2 : Hp} {σ : Slots} {δ : Env} {μ : Mem} {Dn : Ends}
theorem EnvOk.wipe (E : EnvOk K ρ G σ δ) : ∀ vs : List Nat, EnvOk K ρ G (wipe σ vs) (wipeE δ vs)
  | [] => E
  | v :: vs => by
    have E' := EnvOk.wipe E vs
    refine ⟨?_, fun i x hi => ?_⟩
    · show ((L2.wipe σ vs).set v none).length = ((wipeE δ vs).set v none).length
      rw [List.length_set, List.length_set]; exact E'.len
    · have hi : ((wipeE δ vs).set v none)[i]? = some (some x) := hi
      show ∃ w, ((L2.wipe σ vs).set v none)[i]? = some (some w) ∧ _
      by_cases e : v = i
      · subst e
        by_cases hl : v < (wipeE δ vs).length
        · rw [List.getElem?_set_self hl] at hi; cases hi
        · rw [List.getElem?_eq_none (by rw [List.length_set]; omega)] at hi; cases hi
      · rw [List.getElem?_set_ne e] at hi ⊢
        exact E'.at_ i x hi
theorem Rel.poke {p : Addr} {o : HO} (R : Rel K ρ G H μ) (hg : G p = none) (hn : ∀ n, ρ n ≠ some p) : Rel K ρ G (upd H p o) μ := by
  refine ⟨fun a u h => ?_, R.inj, R.nG, R.lt, fun n a h q => ?_, fun n q h => ?_⟩
  · have e : a ≠ p := fun e => by rw [e, hg] at h; cases h
    rw [upd_ne e]; exact R.ex a u h
  · have e : a ≠ p := fun e => hn n (e ▸ h)
    rw [upd_ne e] at q; exact R.hs n a h q
  · have z := R.pl n q h
    cases q with
    | lst xs => obtain ⟨b, a, vs, h1, h2, h3⟩ := z; exact ⟨b, a, vs, h1, by rw [upd_ne (show a ≠ p from fun e => hn n (e ▸ h1))]; exact h2, h3⟩
    | dct kvs => obtain ⟨b, a, vs, h1, h2, h3⟩ := z; exact ⟨b, a, vs, h1, by rw [upd_ne (show a ≠ p from fun e => hn n (e ▸ h1))]; exact h2, h3⟩
    | gone => trivial
theorem Tr.poke {p : Addr} {o : HO} (t : Tr ρ G0 H0 G H) (h0 : H0 p = none) : Tr ρ G0 H0 G (upd H p o) where
  exG := t.exG
  keep := fun a u hn h => by rw [upd_ne (ne_of_none h h0)]; exact t.keep a u hn h
  th := fun a h => by
    by_cases e : a = p
    · rw [e]; exact h0
    · rw [upd_ne e] at h; exact t.th a h
  nG := t.nG
theorem paired_snoc {α β : Type} {P : α → β → Prop} : ∀ {l : List α} {m : List β} {a : α} {b : β}, Paired P l m → P a b → Paired P (l ++ [a]) (m ++ [b])
  | _, _, _, _, .nil, h => .cons h .nil
  | _, _, _, _, .cons r t, h => .cons r (paired_snoc t h)
theorem snd_lc {wi : TI} {fi : IM} {g : TG} {h : D → Env → Option Env} {tv vs : List Nat} {tt : TT} {ft : TM} {te : TE} {fe : EM} (hi : SndI K W wi fi) (hg : TgOk K g h tv) (hv : ∀ i ∈ tv, i ∈ vs) (ht : SndT K WF tt ft) (he : SndE K WF te fe) :
    SndE K W (tLc wi g tt te vs) (eLc fi h ft fe vs) := fun ρ G H σ δ μ Q R E hp => by
  refine SndG.seq (t := wi) hi R E hp fun xs μ0 G0 H0 J t0 R0 E0 it hp0 => ?_
  by_cases hz : xs.length ≤ sizeLine
  case neg => rw [if_neg hz] at hp0; exact hp0.elim
  rw [if_pos hz] at hp0
  intro Dl hD
  obtain ⟨nG0, nρ0⟩ := fresh_ne R0 hD
  have hp0 := hp0.shiftE t0
  refine ⟨fun i m H1 => ∃ G1 μ1 accV pre, Tr ρ G0 H0 G1 H1 ∧ Rel K ρ G1 H1 μ1 ∧ G1 Dl = none ∧ H1 Dl = some (.lst accV) ∧ DvL K ρ G1 accV pre ∧ pre.length ≤ i ∧ m = xs.length - i ∧ i ≤ xs.length ∧
    PostG K W ρ G0 H0 σ (fun G' H' => rpE K ρ G' H0 H') Q ((lcL h ft fe (wipeE δ vs) (xs.drop i) μ1).bind fun ys μ2 => .ok (.nl (pre ++ ys)) μ2), ⟨xs.length, G0, μ0, [], [], (Tr.refl _ _ _).poke hD, R0.poke nG0 nρ0, nG0, upd_same, .nil, by simp, by omega, by omega, ?_⟩, fun i m H1 hW => ?_⟩
  · exact hp0
  obtain ⟨G1, μ1, accV, pre, t1, R1, nG1, eD, dl, hlen, em, hle, hp1⟩ := hW
  obtain ⟨go, stop⟩ := it ρ G1 H1 μ1 R1 t1.exG
  cases e : xs.drop i with
  | nil =>
    rw [e] at hp1
    have hl : xs.length ≤ i := by
      have := congrArg List.length e
      rw [List.length_drop] at this
      simp at this; omega
    simp only [lcL, Res.bind_ok, List.append_nil] at hp1
    exact .inl ⟨stop i hl, hp1 G1 H1 _ t1 R1 ⟨Dl, accV, rfl, eD, dl, nG1, nρ0, hD⟩⟩
  | cons d ds =>
    rw [e] at hp1
    obtain ⟨hd, hds, hlt⟩ := drop_cons e
    obtain ⟨g1, g2⟩ := go i d hd
    refine .inr ⟨g1, fun H' => ∃ m', m' < m ∧ _, fun H' q => q, fun v H2 hy => ?_⟩
    obtain ⟨G2, t2, R2, rp⟩ := g2 v H2 hy
    have E2 : EnvOk K ρ G2 (wipe σ vs) (wipeE δ vs) := (E0.mono (t1.exG.trans t2.exG)).wipe vs
    unfold lcL at hp1
    cases eh : h d (wipeE δ vs) with
    | none => simp only [eh] at hp1; exact hp1.elim
    | some δ1 =>
      simp only [eh] at hp1
      refine hg ρ G2 H2 μ1 _ (wipeE δ vs) δ1 v d _ R2 E2 rp eh fun σ2 E3 hl hσ => ⟨?_, ?_⟩
      · refine (wipe_ext (τ := wipe σ vs) hl fun i hi => hσ i fun z => hi (hv i z)).trans ?_
        exact wipe_ext (by rw [wipe_length]) fun i hi => wipe_out hi
      have nG2 : ∀ {G' H'}, Tr ρ G1 H1 G' H' → G' Dl = none := fun {G' H'} t' => by
        cases q : G' Dl with
        | none => rfl
        | some o => exact ((t'.nG Dl (by rw [q]; simp)).elim (fun z => absurd nG1 z) fun z => by rw [eD] at z; cases z)
      refine ht ρ G2 H2 σ2 δ1 μ1 _ R2 E3 ?_
      cases et : ft δ1 μ1 with
      | exc x μ' => simp only [et] at hp1; exact hp1.elim
      | bad => simp only [et] at hp1; exact hp1.elim
      | ok b μ2 =>
        intro G3 H3 bv t3 R3 eb
        subst eb
        simp only [et] at hp1
        have T3 := t2.trans t3
        cases bv with
        | false =>
          refine ⟨xs.length - (i + 1), by omega, G3, μ2, accV, pre, t1.trans T3, R3, nG2 T3, T3.keep _ _ nρ0 eD, DvL.mono T3.exG (fun _ _ q => q) dl, by omega, rfl, hlt, ?_⟩
          rw [hds]; exact hp1
        | true =>
          refine he.toV ρ G3 H3 σ2 δ1 μ2 _ R3 (E3.mono t3.exG) ?_
          simp only at hp1
          cases ee : frzV fe δ1 μ2 with
          | exc x μ' => simp only [ee] at hp1; exact hp1.elim
          | bad => simp only [ee] at hp1; exact hp1.elim
          | ok y μ3 =>
            simp only [ee] at hp1
            intro G4 H4 yv t4 R4 dy
            have T4 := T3.trans t4
            refine ⟨accV, T4.keep _ _ nρ0 eD, ?_, xs.length - (i + 1), by omega, G4, μ3, accV ++ [yv], pre ++ [y], (t1.trans T4).poke hD, R4.poke (nG2 T4) nρ0, nG2 T4, upd_same, paired_snoc (DvL.mono T4.exG (fun _ _ q => q) dl) dy, ?_, rfl, hlt, ?_⟩
            · rw [paired_len dl]; omega
            · rw [List.length_append, List.length_singleton]; omega
            · rw [hds]
              have z : ((lcL h ft fe (wipeE δ vs) ds μ3).bind fun ys μ2 => Res.ok (DL.R.nl (pre ++ [y] ++ ys)) μ2) = (((lcL h ft fe (wipeE δ vs) ds μ3).bind fun ys μ3 => Res.ok (y :: ys) μ3).bind fun ys μ2 => .ok (DL.R.nl (pre ++ ys)) μ2) := by
                cases lcL h ft fe (wipeE δ vs) ds μ3 <;> simp
              rw [z]; exact hp1
theorem snd_yes : SndT K W tYes (fun _ μ => .ok true μ) := fun ρ G H σ δ μ Q R E hp => hp G H true (Tr.refl _ _ _) R rfl
end
section
variable {X : Cx} {W : WX}
structure PMTs (X : Cx) (W : WX) (ifs : List Expr) (tt : TT) (f : TM) : Prop where
  pe : PTs X ifs tt
  sd : SndT X.K W tt f
def tmYes : TM := fun _ μ => .ok true μ
theorem ts_nil : PMTs X W [] tYes tmYes := ⟨pts_nil, snd_yes⟩
theorem ts_one {c : Expr} {t : TT} {f : TM} (h : PMT X W c t f) : PMTs X W [c] t f := ⟨pts_one h.pe, h.sd⟩
theorem pm_lc {elt tg iter : Expr} {ifs : List Expr} {scope : Scope} {own : List (Str × Nat)} {pos : Pos} {wi : TI} {fi : IM} {g : TG} {h : D → Env → Option Env} {tv : List Nat} {tt : TT} {ft : TM} {te : TE} {fe : EM} (hc : X.calm = true) (hN : X.N.Nodup)
    (hi : PMI X W tg iter wi fi) (ok : BlkOk X.N X.env.scope scope own)
    (hg : ∀ (s : Shared) (H : Hp) (C : Addr) (cl : List (Str × Addr)) (fp : List Addr), PMG (X.blk s H scope (compEnvC scope cl C X.env) fp) tg g h tv)
    (hv : ∀ i ∈ tv, i ∈ own.map (·.2))
    (ht : ∀ (s : Shared) (H : Hp) (C : Addr) (cl : List (Str × Addr)) (fp : List Addr), PMTs (X.blk s H scope (compEnvC scope cl C X.env) fp) WF ifs tt ft)
    (he : ∀ (s : Shared) (H : Hp) (C : Addr) (cl : List (Str × Addr)) (fp : List Addr), PM (X.blk s H scope (compEnvC scope cl C X.env) fp) WF elt te fe)
    (hs : ∀ x, foldedSetIterable iter X.env x = pure x := by intro _; rfl) :
    PM X W (.ListComp elt [⟨tg, iter, ifs, 0⟩] scope pos) (tLc wi g tt te (own.map (·.2))) (eLc fi h ft fe (own.map (·.2))) :=
  ⟨pe_lc hc hN hi.pi ok (fun s H C cl fp => (hg s H C cl fp).pg) (fun s H C cl fp => (ht s H C cl fp).pe) (fun s H C cl fp => (he s H C cl fp).pe) hs,
   snd_lc hi.sd (hg X.s_0 X.H_0 0 [] []).ok hv (ht X.s_0 X.H_0 0 [] []).sd (he X.s_0 X.H_0 0 [] []).sd⟩
/-! ### own defs -/
/-- how a call of a def goes on where it raises -/
abbrev EW (W : WX) : Slots → XK := fun σ cls d H => W cls d σ H
theorem snd_call {K : PySem.W.Frag} {F : List DV → Mem → Res R} {n : Nat} {ta : TA} {fa : AM} (ha : SndA K W ta fa) (hn : ∀ xs μ, F xs μ ≠ .bad → xs.length = n) : SndE K W (tCallSD (spF K n F) [] (EW W) ta) (eCB F fa) := fun ρ G H σ δ μ Q R E hp => by
  refine SndG.seq (t := ta) ha R E hp fun xs μ1 G1 H1 vs t1 R1 E1 d1 hp1 => ?_
  have hp2 := hp1.shiftE t1
  have hb : F xs μ1 ≠ .bad := fun e => by rw [e] at hp2; exact hp2
  show spF K n F (vs ++ []) H1 Q (EW W σ)
  rw [List.append_nil]
  refine ⟨by rw [paired_len d1]; exact hn xs μ1 hb, ρ, G1, μ1, xs, R1, d1, ?_⟩
  cases e : F xs μ1 with
  | ok r μ' => rw [e] at hp2; exact hp2
  | exc x μ' => rw [e] at hp2; exact hp2
  | bad => exact hb e
/-- a def of the text by its name: what it gives, as a function -/
structure FnD (P : Program) (w : World) (K : PySem.W.Frag) (mg : Str → Option Value) (base : Heap) (cx : CXT) (k : Nat) (x : Str) (n : Nat) (F : List DV → Mem → Res R) : Prop where
  ar : ∀ xs μ, F xs μ ≠ .bad → xs.length = n
  ex : ∃ (f : Addr) (fd : FuncData) (ps : List Str), ps.length = n ∧ FnG P w K mg base cx k f fd ps (spF K n F) ∧ mg x = some (.ref f) ∧ PySem.W.keepIn K (.ref f) = true ∧ Binds K fd ps []
theorem pm_call {cx : CXT} {k n : Nat} {x : Str} {F : List DV → Mem → Res R} {e : Expr} {es : List Expr} {ta : TA} {fa : AM} {p pos : Pos} (Fn : FnD X.prog X.w X.K X.mg X.base cx k x n F) (hr : Room k X.A) (hgd : X.A.guards = some []) (hg : Gl X x)
    (hx : ∀ σ, PassesAt cx X σ (EW W σ)) (ha : PMA X W (e :: es) ta fa) (hdb : (x == ("__debug__" : Str)) = false := by decide)
    (he : starEach (e :: es) X.env = (false, eval e X.env) :: starEach es X.env := by rfl) (hpl : (backTo pos (starEach es X.env)).any (·.1) = false := by rfl) :
    PM X W (.Call (.Name x p) (e :: es) [] pos) (tCallSD (spF X.K n F) [] (EW W) ta) (eCB F fa) := by
  obtain ⟨f, fd, ps, hn, G, hm, hk, hb⟩ := Fn.ex
  exact ⟨pe_callG G hr hgd hg hm hk hb .nil hx ha.pe hdb he hpl, snd_call ha.sd Fn.ar⟩
/-- what a body gives, called with n arguments -/
def callD (g : SM) (n m : Nat) : List DV → Mem → Res R := fun xs μ => if xs.length = n then callF g m xs μ else .bad
theorem callD_ar {g : SM} {n m : Nat} (xs : List DV) (μ : Mem) (h : callD g n m xs μ ≠ .bad) : xs.length = n := by
  unfold callD at h
  by_cases e : xs.length = n
  · exact e
  · rw [if_neg e] at h; exact absurd rfl h
theorem sp_callD {K : PySem.W.Frag} {g : SM} {n m : Nat} {vs : List V} {H : Hp} {Q : VK} {E : XK} (h : spF K n (callD g n m) vs H Q E) : spF K n (callF g m) vs H Q E := by
  obtain ⟨hl, ρ, G, μ, xs, R, d, hp⟩ := h
  refine ⟨hl, ρ, G, μ, xs, R, d, ?_⟩
  unfold callD at hp
  rw [if_pos (by rw [← paired_len d]; exact hl)] at hp
  exact hp
variable {P : Program} {w : World} {K : PySem.W.Frag} {mg : Str → Option Value} {base : Heap}
/-- a def that lets no exception out, by its body -/
theorem fn_ok {x qual : Str} {st : Stmt} {f : Addr} {fd : FuncData} {Nm ps : List Str} {k n m : Nat} {g : SM} (F : Fun K x qual st f fd) (S : FnScope Nm ps (defScope st)) (hm : mg x = some (.ref f)) (hn : ps.length = n) (hmn : Nm.length = n + m)
    (hb : ∀ (kV doc pm : Value) (an : Option Addr) (cdv ct : Value) (us : List Value), us.length = ps.length → bindArgs (PySem.W.fnOf x qual (defArgs st) (defBody st) (defScope st) .none kV doc pm an cdv ct) ⟨us, []⟩ = pure (ps.zip us))
    (body : ∀ (cdv : Value) (A : Around) (out : List PySem.Env) (s : Shared) (H : Hp) (E : XK), Room k (A.deeper (envOfC qual (defScope st) s.heap.objs.size f cdv)) → A.guards = some [] →
      ∃ ts, PSMs (cxOf CX0 P w K mg base Nm qual (defScope st) f cdv A out s H E).nox (fun cls d _ H => E cls d H) (defBody st) ts g) :
    FnD P w K mg base CX0 (k + 1) x n (callD g n m) := by
  refine ⟨callD_ar, f, fd, ps, hn, ?_, hm, F.kp, F.binds hb⟩
  obtain ⟨oc, od, kV, doc, pm, an, cdv, ct, osl, rfl, lk, hcd⟩ := F.ex
  refine fnG_of lk hcd S (fun vs H Q E h => by rw [h.1, hn]) fun A out s H vs Q E hr hg hsp => ?_
  obtain ⟨ts, b⟩ := body cdv A out s H E hr hg
  refine ⟨ts, b.ps.nox, ?_⟩
  have e : Nm.length - n = m := by omega
  exact body_ok (n := n) b.sd (by omega) (by rw [e]; exact sp_callD hsp)
theorem pass_0 {X : Cx} {E : Slots → XK} (σ : Slots) : PassesAt CX0 X σ (E σ) := fun _ _ _ _ _ _ h => h.elim
end
end DL
namespace DL
open PySem PySem.Spec PyProof.Rows L2
theorem OpR.or {X : Cx} {f : Value → Value → Sem Value} {r r' : R2} (h : OpR X f r) (h' : OpR X f r') : OpR X f (fun x y H Q => r x y H Q ∨ r' x y H Q) :=
  fun pins s σ H x y v u Q I rx ry q => q.elim (h pins s σ H x y v u Q I rx ry) (h' pins s σ H x y v u Q I rx ry)
theorem CallR.or {X : Cx} {f : Value} {r r' : List V → Hp → VK → Prop} (h : CallR X f r) (h' : CallR X f r') : CallR X f (fun x H Q => r x H Q ∨ r' x H Q) :=
  fun pins s σ H x v Q I rx q => q.elim (h pins s σ H x v Q I rx) (h' pins s σ H x v Q I rx)
theorem SlR.or {X : Cx} {r r' : V → Option Int → Option Int → Hp → VK → Prop} (h : SlR X r) (h' : SlR X r') : SlR X (fun x lo hi H Q => r x lo hi H Q ∨ r' x lo hi H Q) :=
  fun pins s σ H x v vl vu lo hi sl Q I rx a b c q => q.elim (h pins s σ H x v vl vu lo hi sl Q I rx a b c) (h' pins s σ H x v vl vu lo hi sl Q I rx a b c)
/-! ### looking at a value -/
def asL (μ : Mem) : DV → Option (List DV)
  | .dat (.lst ds) => some (ds.map DV.dat)
  | .dat (.fro ds) => some (ds.map DV.dat)
  | .loc n => match μ[n]? with
    | some (.lst xs) => some xs
    | _ => none
  | _ => none
/-- a list that the text itself has made -/
def asM (μ : Mem) : DV → Option (List DV)
  | .dat (.lst ds) => some (ds.map DV.dat)
  | .loc n => match μ[n]? with
    | some (.lst xs) => some xs
    | _ => none
  | _ => none
def asT : DV → Option (List D)
  | .dat (.tup ds) => some ds
  | _ => none
/-- the items of a list or a tuple -/
def asS (μ : Mem) (x : DV) : Option (List DV) := match asL μ x with
  | some xs => some xs
  | none => (asT x).map fun ds => ds.map DV.dat
section
variable {K : PySem.W.Frag} {W : WX} {N M : Nat} {ρ : Pm} {G H : Hp} {σ : Slots} {δ : Env} {μ : Mem} {Q : VK} {v : V} {x : DV}
theorem RpL.dv {vs : List V} {ds : List D} : RpL K G vs ds → DvL K ρ G vs (ds.map DV.dat)
  | .nil => .nil
  | .cons a b => .cons a (RpL.dv b)
theorem asL_ok {xs : List DV} (R : Rel K ρ G H μ) (h : DvOk K ρ G v x) (e : asL μ x = some xs) : ∃ a vs, v = .ref a ∧ SqL K H a vs ∧ DvL K ρ G vs xs := by
  unfold asL at e
  split at e
  · cases e
    cases h with
    | lst h r => exact ⟨_, _, rfl, .inl (.inl (R.ex _ _ h)), r.dv⟩
  · cases e
    cases h with
    | fro h r => exact ⟨_, _, rfl, ex_l R.ex h, r.dv⟩
  · rename_i n
    split at e
    · rename_i q
      cases e
      obtain ⟨a, rfl, hn⟩ := h
      obtain ⟨_, b, vs, h1, h2, h3⟩ := R.pl n _ q
      rw [hn] at h1; cases h1
      exact ⟨a, vs, rfl, .inl (.inl h2), h3⟩
    · cases e
  · cases e
theorem asM_ok {xs : List DV} (R : Rel K ρ G H μ) (h : DvOk K ρ G v x) (e : asM μ x = some xs) : ∃ a vs, v = .ref a ∧ H a = some (.lst vs) ∧ DvL K ρ G vs xs := by
  unfold asM at e
  split at e
  · cases e
    cases h with
    | lst h r => exact ⟨_, _, rfl, R.ex _ _ h, r.dv⟩
  · rename_i n
    split at e
    · rename_i q
      cases e
      obtain ⟨a, rfl, hn⟩ := h
      obtain ⟨_, b, vs, h1, h2, h3⟩ := R.pl n _ q
      rw [hn] at h1; cases h1
      exact ⟨a, vs, rfl, h2, h3⟩
    · cases e
  · cases e
theorem asT_ok {ds : List D} (R : Rel K ρ G H μ) (h : DvOk K ρ G v x) (e : asT x = some ds) : ∃ a vs, v = .ref a ∧ SqT K H a vs ∧ RpL K G vs ds := by
  unfold asT at e
  split at e
  · cases e
    cases h with
    | tup h r => exact ⟨_, _, rfl, ex_t R.ex h, r⟩
  · cases e
theorem asT_eq {ds : List D} (e : asT x = some ds) : x = .dat (.tup ds) := by
  unfold asT at e
  split at e
  · cases e; rfl
  · cases e
/-- a new tuple is laid at p -/
theorem new_tup {G0 H0 : Hp} {p : Addr} {vs : List V} {ds : List D} (R : Rel K ρ G H μ) (t : Tr ρ G0 H0 G H) (hn : H p = none) (r : RpL K G vs ds)
    (hp : PostG K W ρ G0 H0 σ (fun G' H' => rpE K ρ G' H0 H') Q (.ok (.dat (.tup ds)) μ)) : Q (.ref p) (upd H p (.tup vs)) := by
  obtain ⟨R2, t2, ex⟩ := R.layD (o := .tup vs) hn
  exact hp _ _ _ (t.trans t2) R2 (Rp.tup (.inl (.inl upd_same)) (r.mono ex))
theorem asS_ok {xs : List DV} (R : Rel K ρ G H μ) (h : DvOk K ρ G v x) (e : asS μ x = some xs) : ∃ a vs, v = .ref a ∧ (SqL K H a vs ∨ SqT K H a vs) ∧ DvL K ρ G vs xs := by
  unfold asS at e
  split at e
  · rename_i q
    cases e
    obtain ⟨a, vs, h1, h2, h3⟩ := asL_ok R h q
    exact ⟨a, vs, h1, .inl h2, h3⟩
  · cases q : asT x with
    | none => rw [q] at e; cases e
    | some ds =>
      rw [q] at e; cases e
      obtain ⟨a, vs, h1, h2, h3⟩ := asT_ok R h q
      exact ⟨a, vs, h1, .inr h2, h3.dv⟩
theorem DvL.get' : ∀ {vs : List V} {xs : List DV} {i : Nat} {y : DV}, DvL K ρ G vs xs → xs[i]? = some y → ∃ w, vs[i]? = some w ∧ DvOk K ρ G w y
  | _, _, _, _, .nil, h => by simp at h
  | _, _, 0, _, .cons a _, h => by cases h; exact ⟨_, rfl, a⟩
  | _, _, i + 1, v, .cons _ b, h => DvL.get' (i := i) b h
theorem DvL.take {vs : List V} {xs : List DV} (h : DvL K ρ G vs xs) (n : Nat) : DvL K ρ G (vs.take n) (xs.take n) := by
  induction h generalizing n with
  | nil => simp; exact .nil
  | cons a _ ih =>
    cases n with
    | zero => exact .nil
    | succ n => exact .cons a (ih n)
theorem DvL.drop {vs : List V} {xs : List DV} (h : DvL K ρ G vs xs) (n : Nat) : DvL K ρ G (vs.drop n) (xs.drop n) := by
  induction h generalizing n with
  | nil => simp; exact .nil
  | cons a b ih =>
    cases n with
    | zero => exact .cons a b
    | succ n => exact ih n
theorem DvL.append {vs ws : List V} {xs ys : List DV} (h : DvL K ρ G vs xs) (h' : DvL K ρ G ws ys) : DvL K ρ G (vs ++ ws) (xs ++ ys) := by
  induction h with
  | nil => exact h'
  | cons a _ ih => exact .cons a ih
theorem PostG.okD {d : D} (h : PostG K W ρ G H σ (fun G' H' => rpE K ρ G' H H') Q (.ok (.dat d) μ)) (R : Rel K ρ G H μ) (r : Rp K G v d) : Q v H := h G H v (Tr.refl _ _ _) R r
theorem PostG.okV {y : DV} (h : PostG K W ρ G H σ (fun G' H' => rpE K ρ G' H H') Q (.ok (ofV y) μ)) (R : Rel K ρ G H μ) (r : DvOk K ρ G v y) : Q v H := h G H v (Tr.refl _ _ _) R (RpR.ofV r)
/-! ### ints -/
def asI : DV → Option Int
  | .dat (.int i) => some i
  | _ => none
def asStr : DV → Option Str
  | .dat (.str i) => some i
  | _ => none
def asBl : DV → Option Bool
  | .dat (.bl i) => some i
  | _ => none
theorem asI_ok {i : Int} (h : DvOk K ρ G v x) (e : asI x = some i) : v = .int i := by
  unfold asI at e
  split at e
  · cases e; cases h; rfl
  · cases e
theorem asStr_ok {i : Str} (h : DvOk K ρ G v x) (e : asStr x = some i) : v = .str i := by
  unfold asStr at e
  split at e
  · cases e; cases h; rfl
  · cases e
theorem asBl_ok {i : Bool} (h : DvOk K ρ G v x) (e : asBl x = some i) : v = .bl i := by
  unfold asBl at e
  split at e
  · cases e; cases h; rfl
  · cases e
def d2I (C : Int → Int → Bool) (g : Int → Int → D) (x y : DV) (μ : Mem) : Res R := match asI x with
  | none => .bad
  | some i => match asI y with
    | none => .bad
    | some j => if C i j = true then .ok (.dat (g i j)) μ else .bad
theorem od_I {C : Int → Int → Prop} {Cb : Int → Int → Bool} {g : Int → Int → V} {gd : Int → Int → D} (hC : ∀ i j, Cb i j = true → C i j) (hg : ∀ G i j, Rp K G (g i j) (gd i j)) : OpD K (rI C g) (d2I Cb gd) := fun W ρ G H σ μ v w x y Q R hx hy hp => by
  unfold d2I at hp
  cases e1 : asI x with
  | none => rw [e1] at hp; exact hp.elim
  | some i =>
    rw [e1] at hp
    cases e2 : asI y with
    | none => rw [e2] at hp; exact hp.elim
    | some j =>
      rw [e2] at hp
      by_cases c : Cb i j = true
      · simp only [if_pos c] at hp; exact ⟨i, j, asI_ok hx e1, asI_ok hy e2, hC i j c, hp.okD R (hg G i j)⟩
      · simp only [if_neg c] at hp; exact hp.elim
theorem od_I0 {g : Int → Int → V} {gd : Int → Int → D} (hg : ∀ G i j, Rp K G (g i j) (gd i j)) : OpD K (rI0 g) (d2I (fun _ _ => true) gd) := fun W ρ G H σ μ v w x y Q R hx hy hp => by
  obtain ⟨i, j, h1, h2, _, q⟩ := od_I (C := fun _ _ => True) (fun _ _ _ => trivial) hg W ρ G H σ μ v w x y Q R hx hy hp
  exact ⟨i, j, h1, h2, q⟩
abbrev dSub : DV → DV → Mem → Res R := d2I (fun _ _ => true) fun i j => .int (i - j)
def cMul (i j : Int) : Bool := decide (-2 ^ 64 < i ∧ i < 2 ^ 64) || decide (-2 ^ 64 < j ∧ j < 2 ^ 64)
abbrev dMul : DV → DV → Mem → Res R := d2I cMul fun i j => .int (i * j)
abbrev dMod : DV → DV → Mem → Res R := d2I (fun _ j => decide (0 < j)) fun i j => .int (i % j)
abbrev dDiv : DV → DV → Mem → Res R := d2I (fun _ j => decide (0 < j ∧ j < 1073741824)) fun i j => .int (i / j)
abbrev dLt : DV → DV → Mem → Res R := d2I (fun _ _ => true) fun i j => .bl (decide (i < j))
abbrev dLe : DV → DV → Mem → Res R := d2I (fun _ _ => true) fun i j => .bl (decide (i ≤ j))
abbrev dGt : DV → DV → Mem → Res R := d2I (fun _ _ => true) fun i j => .bl (decide (j < i))
abbrev dGe : DV → DV → Mem → Res R := d2I (fun _ _ => true) fun i j => .bl (decide (j ≤ i))
theorem od_sub : OpD K (rI0 fun i j => V.int (i - j)) dSub := od_I0 fun _ _ _ => .int _
theorem od_mul : OpD K (rI CMul fun i j => V.int (i * j)) dMul := od_I (fun i j h => by
  unfold cMul at h
  rw [Bool.or_eq_true, decide_eq_true_eq, decide_eq_true_eq] at h
  exact h) fun _ _ _ => .int _
theorem od_mod : OpD K (rI (fun _ j => 0 < j) fun i j => V.int (i % j)) dMod := od_I (fun i j h => of_decide_eq_true h) fun _ _ _ => .int _
theorem od_div : OpD K (rI CDiv fun i j => V.int (i / j)) dDiv := od_I (fun i j h => by
  have := of_decide_eq_true h
  exact ⟨by omega, by omega⟩) fun _ _ _ => .int _
theorem od_lt : OpD K (rI0 fun i j => V.bl (decide (i < j))) dLt := od_I0 fun _ _ _ => .bl _
theorem od_le : OpD K (rI0 fun i j => V.bl (decide (i ≤ j))) dLe := od_I0 fun _ _ _ => .bl _
theorem od_gt : OpD K (rI0 fun i j => V.bl (decide (j < i))) dGt := od_I0 fun _ _ _ => .bl _
theorem od_ge : OpD K (rI0 fun i j => V.bl (decide (j ≤ i))) dGe := od_I0 fun _ _ _ => .bl _
/-! ### + -/
def rPlus (K : PySem.W.Frag) : R2 := fun x y H Q => (rI0 (fun i j => V.int (i + j)) x y H Q ∨ rCat x y H Q) ∨
  (rCatA K x y H Q ∨ ∃ i j, x = V.str i ∧ y = V.str j ∧ i.length + j.length ≤ sizeLine ∧ Q (V.str (i ++ j)) H)
theorem op_plus {X : Cx} : OpR X (binaryOp .Add) (rPlus X.K) := OpR.or (OpR.or op_add op_cat) (OpR.or op_catA op_add_str)
def dAdd (x y : DV) (μ : Mem) : Res R := match asI x, asI y with
  | some i, some j => .ok (.dat (.int (i + j))) μ
  | _, _ => match asStr x, asStr y with
    | some i, some j => if i.length + j.length ≤ sizeLine then .ok (.dat (.str (i ++ j))) μ else .bad
    | _, _ => match asT x, asT y with
      | some a, some b => if a.length + b.length ≤ sizeLine then .ok (.dat (.tup (a ++ b))) μ else .bad
      | _, _ => match asM μ x, asM μ y with
        | some a, some b => if a.length + b.length ≤ sizeLine then .ok (.nl (a ++ b)) μ else .bad
        | _, _ => .bad
theorem od_add : OpD K (rPlus K) dAdd := fun W ρ G H σ μ v w x y Q R hx hy hp => by
  unfold dAdd at hp
  split at hp
  · rename_i i j e1 e2
    exact .inl (.inl ⟨i, j, asI_ok hx e1, asI_ok hy e2, hp.okD R (.int _)⟩)
  split at hp
  · rename_i i j e1 e2
    by_cases c : i.length + j.length ≤ sizeLine
    · rw [if_pos c] at hp; exact .inr (.inr ⟨i, j, asStr_ok hx e1, asStr_ok hy e2, c, hp.okD R (.str _)⟩)
    · rw [if_neg c] at hp; exact hp.elim
  split at hp
  · rename_i a b e1 e2
    by_cases c : a.length + b.length ≤ sizeLine
    · rw [if_pos c] at hp
      obtain ⟨p, vs, rfl, h2, h3⟩ := asT_ok R hx e1
      obtain ⟨q, ws, rfl, k2, k3⟩ := asT_ok R hy e2
      refine .inr (.inl ⟨p, q, vs, ws, rfl, rfl, h2, k2, by rw [h3.length, k3.length]; exact c, fun z => ?_, fun _ z => ?_, fun _ _ t ht => ?_⟩)
      · subst z
        cases h3
        rw [asT_eq e2] at hy
        exact hp.okD R hy
      · subst z
        cases k3
        rw [List.append_nil] at hp
        rw [asT_eq e1] at hx
        exact hp.okD R hx
      · exact new_tup R (Tr.refl _ _ _) ht (h3.append k3) hp
    · rw [if_neg c] at hp; exact hp.elim
  split at hp
  · rename_i a b e1 e2
    by_cases c : a.length + b.length ≤ sizeLine
    · rw [if_pos c] at hp
      obtain ⟨p, vs, rfl, h2, h3⟩ := asM_ok R hx e1
      obtain ⟨q, ws, rfl, k2, k3⟩ := asM_ok R hy e2
      exact .inl (.inr ⟨p, q, vs, ws, rfl, rfl, h2, k2, by rw [paired_len h3, paired_len k3]; exact c, fun t ht => new_list R (Tr.refl _ _ _) ht (h3.append k3) hp⟩)
    · rw [if_neg c] at hp; exact hp.elim
  exact hp.elim
/-! ### subscripts -/
def dIx (x y : DV) (μ : Mem) : Res R := match asI y with
  | none => .bad
  | some i => match asS μ x with
    | some xs => match atI xs i with
      | some z => .ok (ofV z) μ
      | none => .bad
    | none => match asStr x with
      | some z => if z.length ≤ sizeLine then match atI z.cps.toList i with
          | some c => .ok (.dat (.str ⟨#[c]⟩)) μ
          | none => .bad
        else .bad
      | none => .bad
theorem atI_dv {vs : List V} {xs : List DV} {i : Int} {y : DV} (h : DvL K ρ G vs xs) (e : atI xs i = some y) : ∃ w, atI vs i = some w ∧ DvOk K ρ G w y := by
  unfold atI at e ⊢
  rw [paired_len h]
  cases q : ixN xs.length i with
  | none => rw [q] at e; cases e
  | some j => rw [q] at e; exact DvL.get' h e
theorem od_ix : OpD K (rIx K) dIx := fun W ρ G H σ μ v w x y Q R hx hy hp => by
  unfold dIx at hp
  cases e1 : asI y with
  | none => rw [e1] at hp; exact hp.elim
  | some i =>
    rw [e1] at hp
    have ew := asI_ok hy e1
    cases e2 : asS μ x with
    | some xs =>
      simp only [e2] at hp
      obtain ⟨a, vs, rfl, h2, h3⟩ := asS_ok R hx e2
      cases e3 : atI xs i with
      | none => rw [e3] at hp; exact hp.elim
      | some z =>
        rw [e3] at hp
        obtain ⟨u, q1, q2⟩ := atI_dv h3 e3
        rcases h2 with h2 | h2
        · exact .inl ⟨a, vs, i, u, rfl, ew, h2, q1, hp.okV R q2⟩
        · exact .inr (.inl ⟨a, vs, i, u, rfl, ew, h2, q1, hp.okV R q2⟩)
    | none =>
      simp only [e2] at hp
      cases e3 : asStr x with
      | none => rw [e3] at hp; exact hp.elim
      | some z =>
        simp only [e3] at hp
        by_cases c : z.length ≤ sizeLine
        · rw [if_pos c] at hp
          cases e4 : atI z.cps.toList i with
          | none => rw [e4] at hp; exact hp.elim
          | some k => rw [e4] at hp; exact .inr (.inr ⟨z, i, k, asStr_ok hx e3, ew, c, e4, hp.okD R (.str _)⟩)
        · rw [if_neg c] at hp; exact hp.elim
/-! ### slices -/
def cutL {α : Type} (xs : List α) (lo hi : Option Int) : List α := (xs.drop (HT.sIx xs.length 0 lo)).take (HT.sIx xs.length xs.length hi - HT.sIx xs.length 0 lo)
def rSl (K : PySem.W.Frag) : V → Option Int → Option Int → Hp → VK → Prop := fun x lo hi H Q => (rSlL K x lo hi H Q ∨ rSlA K x lo hi H Q) ∨ rSlS x lo hi H Q
theorem sl_any {X : Cx} : SlR X (rSl X.K) := SlR.or (SlR.or sl_list sl_tupA) sl_str
def dSl (x : DV) (lo hi : Option Int) (μ : Mem) : Res R := match asL μ x with
  | some xs => .ok (.nl (cutL xs lo hi)) μ
  | none => match asT x with
    | some ds => .ok (.dat (.tup (cutL ds lo hi))) μ
    | none => match asStr x with
      | some z => if z.length ≤ sizeLine then .ok (.dat (.str (cutS z lo hi))) μ else .bad
      | none => .bad
theorem cutL_full {α : Type} {xs : List α} {lo hi : Option Int} (h : HT.sIx xs.length 0 lo = 0 ∧ HT.sIx xs.length xs.length hi = xs.length) : cutL xs lo hi = xs := by
  unfold cutL; rw [h.1, h.2]; simp
theorem dvl_cut {vs : List V} {xs : List DV} {lo hi : Option Int} (h : DvL K ρ G vs xs) : DvL K ρ G (L2.cutV vs lo hi) (cutL xs lo hi) := by
  unfold L2.cutV cutL
  rw [paired_len h]
  exact (h.drop _).take _
theorem rpl_cut {vs : List V} {xs : List D} {lo hi : Option Int} (h : RpL K G vs xs) : RpL K G (L2.cutV vs lo hi) (cutL xs lo hi) := by
  unfold L2.cutV cutL
  rw [h.length]
  exact (h.drop _).take _
theorem od_sl {lo hi : Option Int} (R : Rel K ρ G H μ) (hx : DvOk K ρ G v x) (hp : PostG K W ρ G H σ (fun G' H' => rpE K ρ G' H H') Q (dSl x lo hi μ)) : rSl K v lo hi H Q := by
  unfold dSl at hp
  split at hp
  · rename_i xs e
    obtain ⟨a, vs, rfl, h2, h3⟩ := asL_ok R hx e
    exact .inl (.inl ⟨a, vs, rfl, h2, fun p hn => new_list R (Tr.refl _ _ _) hn (dvl_cut h3) hp⟩)
  split at hp
  · rename_i ds e
    obtain ⟨a, vs, rfl, h2, h3⟩ := asT_ok R hx e
    refine .inl (.inr ⟨a, vs, rfl, h2, fun z => ?_, fun _ p hn => new_tup R (Tr.refl _ _ _) hn (rpl_cut h3) hp⟩)
    rw [h3.length] at z
    rw [cutL_full z] at hp
    rw [asT_eq e] at hx
    exact hp.okD R hx
  split at hp
  · rename_i z e
    by_cases c : z.length ≤ sizeLine
    · rw [if_pos c] at hp; exact .inr ⟨z, asStr_ok hx e, c, hp.okD R (.str _)⟩
    · rw [if_neg c] at hp; exact hp.elim
  exact hp.elim
abbrev OM := Env → Mem → Res (Option Int)
abbrev SndO (K : PySem.W.Frag) (W : WX) (t : TO) (f : OM) : Prop := SndG K W t f rpT
def oNone : OM := fun _ μ => .ok none μ
def oSome (f : EM) : OM := fun δ μ => (frzV f δ μ).bind fun x μ' => match asI x with
  | some i => .ok (some i) μ'
  | none => .bad
def eSl (f : EM) (lo hi : OM) : EM := fun δ μ => (frzV f δ μ).bind fun x μ1 => (lo δ μ1).bind fun l μ2 => (hi δ μ2).bind fun u μ3 => dSl x l u μ3
end
structure PMO (X : Cx) (W : WX) (e : Option Expr) (t : TO) (f : OM) : Prop where
  po : PO X e t
  sd : SndO X.K W t f
section
variable {X : Cx} {W : WX} {pos p2 : Pos} {e : Expr} {lo hi : Option Expr} {te : TE} {tl th : TO} {f : EM} {fl fh : OM}
theorem mo_none : PMO X W none tNoPart oNone := ⟨po_none, fun ρ G H σ δ μ Q R E hp => hp G H none (Tr.refl _ _ _) R rfl⟩
theorem mo_some (h : PM X W e te f) : PMO X W (some e) (tPart te) (oSome f) := ⟨po_some h.pe, fun ρ G H σ δ μ Q R E hp => by
  refine SndG.seq (t := te) h.sd.toV R E hp fun x μ1 G1 H1 v t1 R1 E1 d1 hp1 => ?_
  cases e : asI x with
  | none => rw [e] at hp1; exact hp1.elim
  | some i => rw [e] at hp1; exact ⟨i, asI_ok d1 e, hp1 G1 H1 _ t1 R1 rfl⟩⟩
theorem pm_sl (h : PM X W e te f) (hl : PMO X W lo tl fl) (hh : PMO X W hi th fh) : PM X W (.Subscript e (.Slice lo hi none p2) pos) (tSl (rSl X.K) te tl th) (eSl f fl fh) := ⟨pe_slice sl_any h.pe hl.po hh.po, fun ρ G H σ δ μ Q R E hp => by
  refine SndG.seq (t := te) h.sd.toV R E hp fun x μ1 G1 H1 v t1 R1 E1 d1 hp1 => ?_
  refine SndG.seq (t := tl) hl.sd R1 E1 (hp1.shiftE t1) fun l μ2 G2 H2 lv t2 R2 E2 d2 hp2 => ?_
  refine SndG.seq (t := th) hh.sd R2 E2 (hp2.shiftE t2) fun u μ3 G3 H3 uv t3 R3 E3 d3 hp3 => ?_
  subst d2 d3
  exact od_sl R3 (d1.mono (t2.exG.trans t3.exG) fun _ _ q => q) (hp3.shiftE t3)⟩
theorem pm_add {a b : Expr} {ta tb : TE} {fa fb : EM} (ha : PM X W a ta fa) (hb : PM X W b tb fb) : PM X W (.BinOp a .Add b pos) (tOp (rPlus X.K) ta tb) (eOp dAdd fa fb) := pm_op op_plus od_add ha hb
theorem pm_sub {a b : Expr} {ta tb : TE} {fa fb : EM} (ha : PM X W a ta fa) (hb : PM X W b tb fb) : PM X W (.BinOp a .Sub b pos) (tOp (rI0 fun i j => V.int (i - j)) ta tb) (eOp dSub fa fb) := pm_op op_sub od_sub ha hb
theorem pm_mul {a b : Expr} {ta tb : TE} {fa fb : EM} (ha : PM X W a ta fa) (hb : PM X W b tb fb) : PM X W (.BinOp a .Mult b pos) (tOp (rI CMul fun i j => V.int (i * j)) ta tb) (eOp dMul fa fb) := pm_op op_mul od_mul ha hb
theorem pm_mod {a b : Expr} {ta tb : TE} {fa fb : EM} (ha : PM X W a ta fa) (hb : PM X W b tb fb) : PM X W (.BinOp a .Mod b pos) (tOp (rI (fun _ j => 0 < j) fun i j => V.int (i % j)) ta tb) (eOp dMod fa fb) := pm_op op_mod od_mod ha hb
theorem pm_div {a b : Expr} {ta tb : TE} {fa fb : EM} (ha : PM X W a ta fa) (hb : PM X W b tb fb) : PM X W (.BinOp a .FloorDiv b pos) (tOp (rI CDiv fun i j => V.int (i / j)) ta tb) (eOp dDiv fa fb) := pm_op op_fdiv od_div ha hb
theorem pm_idx {a b : Expr} {ta tb : TE} {fa fb : EM} (ha : PM X W a ta fa) (hb : PM X W b tb fb) (hs : PlainIx b) : PM X W (.Subscript a b pos) (tOp (rIx X.K) ta tb) (eOp dIx fa fb) := pm_ix ix_seq od_ix ha hb hs
end
end DL
namespace DL
open PySem PySem.Spec PyProof.Rows L2
/-! ### data to be compared and shown -/
mutual
def toPy : D → Option PyData
  | .non => some .none
  | .bl b => some (.bool b)
  | .int i => some (.int i)
  | .str s => some (.str s)
  | .tup xs => (toPyL xs).map .tuple
  | .lst xs => (toPyL xs).map .list
  | .fro xs => (toPyL xs).map .list
  | .ty _ => none
  | .ref _ => none
  | .dct _ => none
  | .ins _ _ => none
def toPyL : List D → Option (List PyData)
  | [] => some []
  | x :: xs => match toPy x with
    | none => none
    | some p => (toPyL xs).map (p :: ·)
end
def peekL (f : DV → Option D) : List DV → Option (List D)
  | [] => some []
  | x :: xs => match f x with
    | none => none
    | some d => (peekL f xs).map (d :: ·)
def peekK : Nat → Mem → DV → Option D
  | _, _, .dat d => some d
  | 0, _, .loc _ => none
  | k + 1, μ, .loc n => match μ[n]? with
    | some (.lst xs) => (peekL (peekK k μ) xs).map .lst
    | _ => none
def peek (μ : Mem) (x : DV) : Option D := peekK 5 μ x
def peekPy (μ : Mem) (x : DV) : Option PyData := (peek μ x).bind toPy
section
variable {K : PySem.W.Frag} {W : WX} {N M : Nat} {ρ : Pm} {G H : Hp} {σ : Slots} {δ : Env} {μ : Mem} {Q : VK} {v w : V} {x y : DV}
mutual
theorem Rp.dp : ∀ {v : V} {d : D} {p : PyData}, Rp K G v d → toPy d = some p → Dp K G v p
  | _, _, _, .non, e => by cases e; exact .non
  | _, _, _, .bl b, e => by cases e; exact .bl b
  | _, _, _, .int i, e => by cases e; exact .int i
  | _, _, _, .str s, e => by cases e; exact .str s
  | _, _, _, .ty n, e => by cases e
  | _, _, _, .ref a, e => by cases e
  | _, _, _, .tup (ds := ds) h r, e => by
    simp only [toPy] at e
    cases q : toPyL ds with
    | none => rw [q] at e; cases e
    | some ps => rw [q] at e; cases e; exact .tup h (RpL.dp r q)
  | _, _, _, .lst (ds := ds) h r, e => by
    simp only [toPy] at e
    cases q : toPyL ds with
    | none => rw [q] at e; cases e
    | some ps => rw [q] at e; cases e; exact .lst (.inl (.inl h)) (RpL.dp r q)
  | _, _, _, .fro (ds := ds) h r, e => by
    simp only [toPy] at e
    cases q : toPyL ds with
    | none => rw [q] at e; cases e
    | some ps => rw [q] at e; cases e; exact .lst h (RpL.dp r q)
  | _, _, _, .dct _ _ _, e => by cases e
  | _, _, _, .ins _ _ _ _, e => by cases e
theorem RpL.dp : ∀ {vs : List V} {ds : List D} {ps : List PyData}, RpL K G vs ds → toPyL ds = some ps → DpAll K G vs ps
  | _, _, _, .nil, e => by cases e; exact .nil
  | _, _, _, .cons (d := d) (ds := ds) a b, e => by
    simp only [toPyL] at e
    cases q : toPy d with
    | none => rw [q] at e; cases e
    | some p =>
      rw [q] at e
      cases q2 : toPyL ds with
      | none => rw [q2] at e; cases e
      | some ps => rw [q2] at e; cases e; exact .cons (Rp.dp a q) (RpL.dp b q2)
end
theorem peekL_ok {f : DV → Option D} (hf : ∀ v x d, DvOk K ρ G v x → f x = some d → Rp K H v d) : ∀ {vs : List V} {xs : List DV} {ds : List D}, DvL K ρ G vs xs → peekL f xs = some ds → RpL K H vs ds
  | _, _, _, .nil, e => by cases e; exact .nil
  | _, x :: xs, ds, .cons a b, e => by
    unfold peekL at e
    cases q : f x with
    | none => rw [q] at e; cases e
    | some d =>
      rw [q] at e
      cases q2 : peekL f xs with
      | none => rw [q2] at e; cases e
      | some es => rw [q2] at e; cases e; exact .cons (hf _ _ _ a q) (peekL_ok hf b q2)
theorem peekK_ok (R : Rel K ρ G H μ) : ∀ (k : Nat) (v : V) (x : DV) (d : D), DvOk K ρ G v x → peekK k μ x = some d → Rp K H v d
  | k, v, .dat d', d, h, e => by
    have : peekK k μ (.dat d') = some d' := by cases k <;> rfl
    rw [this] at e; cases e; exact Rp.mono R.ex h
  | 0, v, .loc n, d, h, e => by cases e
  | k + 1, v, .loc n, d, h, e => by
    unfold peekK at e
    split at e
    · rename_i xs q
      cases qa : peekL (peekK k μ) xs with
      | none => rw [qa] at e; cases e
      | some ds =>
        rw [qa] at e; cases e
        obtain ⟨a, rfl, hn⟩ := h
        obtain ⟨_, b, vs, h1, h2, h3⟩ := R.pl n _ q
        rw [hn] at h1; cases h1
        exact Rp.lst h2 (peekL_ok (fun v x d => peekK_ok R k v x d) h3 qa)
    · cases e
theorem peek_ok {d : D} (R : Rel K ρ G H μ) (h : DvOk K ρ G v x) (e : peek μ x = some d) : Rp K H v d := peekK_ok R 5 v x d h e
theorem peekPy_ok {p : PyData} (R : Rel K ρ G H μ) (h : DvOk K ρ G v x) (e : peekPy μ x = some p) : Dp K H v p := by
  unfold peekPy at e
  cases q : peek μ x with
  | none => rw [q] at e; cases e
  | some d => rw [q] at e; exact Rp.dp (peek_ok R h q) e
def dEqB (b : Bool) (x y : DV) (μ : Mem) : Res R := match peekPy μ x with
  | none => .bad
  | some p => match peekPy μ y with
    | none => .bad
    | some q => if SeqAt.shaped p = true ∧ SeqAt.shaped q = true then .ok (.dat (.bl (PyData.eqv p q == b))) μ else .bad
def dEqS (b : Bool) (x y : DV) (μ : Mem) : Res R := match asStr x with
  | none => dEqB b x y μ
  | some s => match asStr y with
    | none => dEqB b x y μ
    | some t => .ok (.dat (.bl (decide (s = t) == b))) μ
abbrev dEq : DV → DV → Mem → Res R := dEqS true
abbrev dNe : DV → DV → Mem → Res R := dEqS false
def rEqQ (K : PySem.W.Frag) : R2 := fun x y H Q => rEq x y H Q ∨ rEqD K x y H Q
def rNeQ (K : PySem.W.Frag) : R2 := fun x y H Q => rNe x y H Q ∨ rNeD K x y H Q
theorem op_eqQ {X : Cx} (h : X.A.units + 64 < cLine) : OpR X (compareOp .Eq) (rEqQ X.K) := OpR.or op_eq (op_eqD h)
theorem op_neQ {X : Cx} (h : X.A.units + 64 < cLine) : OpR X (compareOp .NotEq) (rNeQ X.K) := OpR.or op_ne (op_neD h)
theorem od_eqB (b : Bool) (R : Rel K ρ G H μ) (hx : DvOk K ρ G v x) (hy : DvOk K ρ G w y) (hp : PostG K W ρ G H σ (fun G' H' => rpE K ρ G' H H') Q (dEqB b x y μ)) :
    ∃ d e, Dp K H v d ∧ Dp K H w e ∧ SeqAt.shaped d = true ∧ SeqAt.shaped e = true ∧ Q (.bl (PyData.eqv d e == b)) H := by
  unfold dEqB at hp
  cases e1 : peekPy μ x with
  | none => rw [e1] at hp; exact hp.elim
  | some p =>
    rw [e1] at hp
    cases e2 : peekPy μ y with
    | none => rw [e2] at hp; exact hp.elim
    | some q =>
      rw [e2] at hp
      by_cases c : SeqAt.shaped p = true ∧ SeqAt.shaped q = true
      · simp only [if_pos c] at hp
        exact ⟨p, q, peekPy_ok R hx e1, peekPy_ok R hy e2, c.1, c.2, hp.okD R (.bl _)⟩
      · simp only [if_neg c] at hp; exact hp.elim
theorem od_eqS (b : Bool) (R : Rel K ρ G H μ) (hx : DvOk K ρ G v x) (hy : DvOk K ρ G w y) (hp : PostG K W ρ G H σ (fun G' H' v r => rpE K ρ G' H H' v r) Q (dEqS b x y μ)) :
    (scal v w = true ∧ Q (.bl (decide (v = w) == b)) H) ∨ ∃ d e, Dp K H v d ∧ Dp K H w e ∧ SeqAt.shaped d = true ∧ SeqAt.shaped e = true ∧ Q (.bl (PyData.eqv d e == b)) H := by
  unfold dEqS at hp
  cases e1 : asStr x with
  | none => rw [e1] at hp; exact .inr (od_eqB b R hx hy hp)
  | some s =>
    rw [e1] at hp
    cases e2 : asStr y with
    | none => rw [e2] at hp; exact .inr (od_eqB b R hx hy hp)
    | some t =>
      rw [e2] at hp
      rw [asStr_ok hx e1, asStr_ok hy e2]
      have : decide (V.str s = V.str t) = decide (s = t) := by rw [Bool.eq_iff_iff]; simp
      exact .inl ⟨rfl, by rw [this]; exact hp G H _ (Tr.refl _ _ _) R (Rp.bl _)⟩
theorem od_eq : OpD K (rEqQ K) dEq := fun W ρ G H σ μ v w x y Q R hx hy hp => by
  rcases od_eqS true R hx hy hp with ⟨h1, h2⟩ | ⟨d, e, h1, h2, h3, h4, h5⟩
  · exact .inl ⟨h1, by simpa using h2⟩
  · exact .inr ⟨d, e, h1, h2, h3, h4, by simpa using h5⟩
theorem od_ne : OpD K (rNeQ K) dNe := fun W ρ G H σ μ v w x y Q R hx hy hp => by
  rcases od_eqS false R hx hy hp with ⟨h1, h2⟩ | ⟨d, e, h1, h2, h3, h4, h5⟩
  · exact .inl ⟨h1, by
      have z : ((decide (v = w)) == false) = !decide (v = w) := by cases decide (v = w) <;> rfl
      rw [← z]; exact h2⟩
  · exact .inr ⟨d, e, h1, h2, h3, h4, by
      have z : (PyData.eqv d e == false) = !PyData.eqv d e := by cases PyData.eqv d e <;> rfl
      rw [← z]; exact h5⟩
def isNon : DV → Bool
  | .dat .non => true
  | _ => false
theorem isNon_ok (h : DvOk K ρ G v x) : decide (v = .non) = isNon x := by
  cases x with
  | loc n => obtain ⟨a, rfl, _⟩ := h; rfl
  | dat d => cases h <;> rfl
def eIsN (f : EM) : EM := fun δ μ => (frzV f δ μ).bind fun x μ' => .ok (.dat (.bl (isNon x))) μ'
def eNotN (f : EM) : EM := fun δ μ => (frzV f δ μ).bind fun x μ' => .ok (.dat (.bl (!isNon x))) μ'
theorem snd_isN {ta : TE} {f : EM} (h : SndE K W ta f) : SndE K W (tIsN ta) (eIsN f) := fun ρ G H σ δ μ Q R E hp => by
  refine SndG.seq (t := ta) h.toV R E hp fun x μ1 G1 H1 v t1 R1 E1 d1 hp1 => ?_
  rw [isNon_ok d1]
  exact hp1 G1 H1 _ t1 R1 (Rp.bl _)
theorem snd_notN {ta : TE} {f : EM} (h : SndE K W ta f) : SndE K W (tNotN ta) (eNotN f) := fun ρ G H σ δ μ Q R E hp => by
  refine SndG.seq (t := ta) h.toV R E hp fun x μ1 G1 H1 v t1 R1 E1 d1 hp1 => ?_
  rw [isNon_ok d1]
  exact hp1 G1 H1 _ t1 R1 (Rp.bl _)
/-! ### in -/
def flat : DV → Option V
  | .dat .non => some .non
  | .dat (.bl b) => some (.bl b)
  | .dat (.int i) => some (.int i)
  | .dat (.str s) => some (.str s)
  | _ => none
def flats : List DV → Option (List V)
  | [] => some []
  | x :: xs => match flat x with
    | none => none
    | some v => (flats xs).map (v :: ·)
theorem flat_ok {u : V} (h : DvOk K ρ G v x) (e : flat x = some u) : v = u ∧ flatV u = true := by
  unfold flat at e
  split at e <;> first | cases e | skip
  all_goals (cases h; exact ⟨rfl, rfl⟩)
theorem flats_ok : ∀ {xs : List DV} {vs us : List V}, DvL K ρ G vs xs → flats xs = some us → vs = us ∧ us.all flatV = true
  | [], _, _, h, e => by cases e; cases h; exact ⟨rfl, rfl⟩
  | x :: xs, _, _, h, e => by
    cases h with
    | cons r1 r2 =>
      simp only [flats] at e
      cases q : flat x with
      | none => rw [q] at e; cases e
      | some u =>
        rw [q] at e
        cases q2 : flats xs with
        | none => rw [q2] at e; cases e
        | some us =>
          rw [q2] at e; cases e
          obtain ⟨e1, e2⟩ := flat_ok r1 q
          obtain ⟨e3, e4⟩ := flats_ok r2 q2
          exact ⟨by rw [e1, e3], by rw [List.all_cons, e2, e4]; rfl⟩
def dIn (neg : Bool) (x y : DV) (μ : Mem) : Res R := match flat x with
  | none => .bad
  | some u => match asS μ y with
    | none => .bad
    | some ys => match flats ys with
      | none => .bad
      | some us => .ok (.dat (.bl (if neg = true then !inV u us else inV u us))) μ
theorem od_in (neg : Bool) : OpD K (rIn K neg) (dIn neg) := fun W ρ G H σ μ v w x y Q R hx hy hp => by
  unfold dIn at hp
  cases e1 : flat x with
  | none => rw [e1] at hp; exact hp.elim
  | some u =>
    rw [e1] at hp
    cases e2 : asS μ y with
    | none => simp only [e2] at hp; exact hp.elim
    | some ys =>
      simp only [e2] at hp
      cases e3 : flats ys with
      | none => rw [e3] at hp; exact hp.elim
      | some us =>
        rw [e3] at hp
        obtain ⟨a, vs, rfl, h2, h3⟩ := asS_ok R hy e2
        obtain ⟨q1, q2⟩ := flat_ok hx e1
        obtain ⟨q3, q4⟩ := flats_ok h3 e3
        subst q1 q3
        exact ⟨a, vs, rfl, h2, q2, q4, hp.okD R (.bl _)⟩
/-! ### calls of built-ins -/
theorem DvL.one {vs : List V} (h : DvL K ρ G vs [x]) : ∃ v, vs = [v] ∧ DvOk K ρ G v x := by
  cases h with
  | cons a b => cases b; exact ⟨_, rfl, a⟩
theorem DvL.two {vs : List V} (h : DvL K ρ G vs [x, y]) : ∃ v w, vs = [v, w] ∧ DvOk K ρ G v x ∧ DvOk K ρ G w y := by
  cases h with
  | cons a b => cases b with
    | cons c d => cases d; exact ⟨_, _, rfl, a, c⟩
def d1 (g : DV → Mem → Res R) (xs : List DV) (μ : Mem) : Res R := match xs with
  | [x] => g x μ
  | _ => .bad
theorem cd_1 {r : List V → Hp → VK → Prop} {g : DV → Mem → Res R} (h : ∀ (W : WX) (ρ : Pm) (G H : Hp) (σ : Slots) (μ : Mem) (v : V) (x : DV) (Q : VK), Rel K ρ G H μ → DvOk K ρ G v x → PostG K W ρ G H σ (fun G' H' => rpE K ρ G' H H') Q (g x μ) → r [v] H Q) :
    CallD K r (d1 g) := fun W ρ G H σ μ vs xs Q R hx hp => by
  match xs, hx, hp with
  | [x], hx, hp =>
    obtain ⟨v, rfl, d⟩ := hx.one
    exact h W ρ G H σ μ v x Q R d hp
  | [], _, hp => exact hp.elim
  | _ :: _ :: _, _, hp => exact hp.elim
def dLen (x : DV) (μ : Mem) : Res R := match asS μ x with
  | some xs => .ok (.dat (.int xs.length)) μ
  | none => match asStr x with
    | some z => if z.length ≤ sizeLine then .ok (.dat (.int z.length)) μ else .bad
    | none => .bad
theorem cd_len : CallD K (fun xs H Q => ∃ x n, xs = [x] ∧ LenV K x H n ∧ Q (.int (n : Nat)) H) (d1 dLen) := cd_1 fun W ρ G H σ μ v x Q R hx hp => by
  unfold dLen at hp
  split at hp
  · rename_i xs e
    obtain ⟨a, vs, rfl, h2, h3⟩ := asS_ok R hx e
    refine ⟨_, vs.length, rfl, ?_, ?_⟩
    · rcases h2 with h2 | h2
      · exact .inl ⟨vs, h2, rfl⟩
      · exact .inr ⟨vs, h2, rfl⟩
    · rw [paired_len h3]; exact hp.okD R (.int _)
  split at hp
  · rename_i z e
    by_cases c : z.length ≤ sizeLine
    · rw [if_pos c] at hp
      have ev := asStr_ok hx e
      subst ev
      exact ⟨_, z.length, rfl, ⟨c, rfl⟩, hp.okD R (.int _)⟩
    · rw [if_neg c] at hp; exact hp.elim
  exact hp.elim
def dInt (x : DV) (μ : Mem) : Res R := match asI x with
  | some i => .ok (.dat (.int i)) μ
  | none => match asBl x with
    | some b => .ok (.dat (.int (if b = true then 1 else 0))) μ
    | none => .bad
theorem cd_int : CallD K (fun xs H Q => (∃ i, xs = [V.int i] ∧ Q (V.int i) H) ∨ ∃ k, xs = [V.bl k] ∧ Q (V.int (if k = true then 1 else 0)) H) (d1 dInt) := cd_1 fun W ρ G H σ μ v x Q R hx hp => by
  unfold dInt at hp
  split at hp
  · rename_i i e
    have ev := asI_ok hx e
    subst ev
    exact .inl ⟨i, rfl, hp.okD R (.int _)⟩
  split at hp
  · rename_i b e
    have ev := asBl_ok hx e
    subst ev
    exact .inr ⟨b, rfl, hp.okD R (.int _)⟩
  exact hp.elim
def dAbs (x : DV) (μ : Mem) : Res R := match asI x with
  | some i => .ok (.dat (.int (if i < 0 then -i else i))) μ
  | none => .bad
theorem cd_abs : CallD K (fun xs H Q => ∃ i, xs = [V.int i] ∧ Q (V.int (if i < 0 then -i else i)) H) (d1 dAbs) := cd_1 fun W ρ G H σ μ v x Q R hx hp => by
  unfold dAbs at hp
  split at hp
  · rename_i i e
    have ev := asI_ok hx e
    subst ev
    exact ⟨i, rfl, hp.okD R (.int _)⟩
  exact hp.elim
def dList (x : DV) (μ : Mem) : Res R := match asS μ x with
  | some xs => .ok (.nl xs) μ
  | none => .bad
theorem cd_list : CallD K (fun xs H Q => ∃ p ys, xs = [V.ref p] ∧ (SqL K H p ys ∨ SqT K H p ys) ∧ ∀ l, H l = none → Q (V.ref l) (upd H l (.lst ys))) (d1 dList) := cd_1 fun W ρ G H σ μ v x Q R hx hp => by
  unfold dList at hp
  split at hp
  · rename_i xs e
    obtain ⟨a, vs, rfl, h2, h3⟩ := asS_ok R hx e
    exact ⟨a, vs, rfl, h2, fun l hn => new_list R (Tr.refl _ _ _) hn h3 hp⟩
  exact hp.elim
def dTuple (x : DV) (μ : Mem) : Res R := match asL μ x with
  | some xs => match allDat xs with
    | some ds => .ok (.dat (.tup ds)) μ
    | none => .bad
  | none => match asT x with
    | some ds => .ok (.dat (.tup ds)) μ
    | none => .bad
theorem cd_tuple : CallD K (fun xs H Q => ∃ p ys, xs = [V.ref p] ∧ ((SqL K H p ys ∧ ∀ l, H l = none → Q (V.ref l) (upd H l (.tup ys))) ∨ SqT K H p ys ∧ Q (V.ref p) H)) (d1 dTuple) := cd_1 fun W ρ G H σ μ v x Q R hx hp => by
  unfold dTuple at hp
  split at hp
  · rename_i xs e
    obtain ⟨a, vs, rfl, h2, h3⟩ := asL_ok R hx e
    split at hp
    · rename_i ds e2
      exact ⟨a, vs, rfl, .inl ⟨h2, fun l hn => new_tup R (Tr.refl _ _ _) hn (allDat_ok e2 h3) hp⟩⟩
    · exact hp.elim
  split at hp
  · rename_i ds e
    obtain ⟨a, vs, rfl, h2, h3⟩ := asT_ok R hx e
    rw [asT_eq e] at hx
    exact ⟨a, vs, rfl, .inr ⟨h2, hp.okD R hx⟩⟩
  exact hp.elim
def bools : List DV → Option (List Bool)
  | [] => some []
  | x :: xs => match asBl x with
    | none => none
    | some b => (bools xs).map (b :: ·)
theorem bools_ok : ∀ {xs : List DV} {vs : List V} {bs : List Bool}, DvL K ρ G vs xs → bools xs = some bs → vs = bs.map V.bl
  | [], _, _, h, e => by cases e; cases h; rfl
  | x :: xs, _, _, h, e => by
    cases h with
    | cons r1 r2 =>
      simp only [bools] at e
      cases q : asBl x with
      | none => rw [q] at e; cases e
      | some b =>
        rw [q] at e
        cases q2 : bools xs with
        | none => rw [q2] at e; cases e
        | some bs => rw [q2] at e; cases e; rw [asBl_ok r1 q, bools_ok r2 q2]; rfl
def dAll (f : List Bool → Bool) (x : DV) (μ : Mem) : Res R := match asL μ x with
  | some xs => match bools xs with
    | some bs => .ok (.dat (.bl (f bs))) μ
    | none => .bad
  | none => .bad
theorem cd_all (f : List Bool → Bool) : CallD K (fun vs H Q => ∃ a bs, vs = [V.ref a] ∧ SqL K H a (bs.map V.bl) ∧ Q (V.bl (f bs)) H) (d1 (dAll f)) := cd_1 fun W ρ G H σ μ v x Q R hx hp => by
  unfold dAll at hp
  split at hp
  · rename_i xs e
    obtain ⟨a, vs, rfl, h2, h3⟩ := asL_ok R hx e
    split at hp
    · rename_i bs e2
      have ev := bools_ok h3 e2
      subst ev
      exact ⟨a, bs, rfl, h2, hp.okD R (.bl _)⟩
    · exact hp.elim
  exact hp.elim
/-! ### repr -/
def dRepr (x : DV) (μ : Mem) : Res R := match peekPy μ x with
  | some p => if p.showable = true ∧ SeqAt.shaped p = true ∧ p.shown.length ≤ sizeLine then .ok (.dat (.str p.shown)) μ else .bad
  | none => .bad
def rRepr (K : PySem.W.Frag) : List V → Hp → VK → Prop := fun xs H Q => ∃ v p, xs = [v] ∧ Dp K H v p ∧ p.showable = true ∧ SeqAt.shaped p = true ∧ p.shown.length ≤ sizeLine ∧ Q (.str p.shown) H
theorem cr_repr {X : Cx} {k : Nat} (hr : Room k X.A) (hg : X.A.guards = some []) : CallR X (.builtin "repr") (rRepr X.K) := by
  intro pins s σ H xs us Q I rv h
  obtain ⟨v, p, rfl, hd, hs, hsh, hz, q⟩ := h
  obtain ⟨u, rfl, ru⟩ : ∃ u, us = [u] ∧ L2.RelV v u := by
    cases rv with
    | cons a b => cases b; exact ⟨_, rfl, a⟩
  obtain ⟨as, rd⟩ := Dp.reads I p v u hd ru
  have fin : ∀ h' tk t', (∀ b o, s.heap.get? b = some o → h'.get? b = some o) → EP X pins σ Q (.str p.shown t') { s with heap := h', toks := tk } := fun h' tk t' kp =>
    ⟨.str p.shown, H, I.kept kp, ⟨t', rfl⟩, q⟩
  have hc := SeqAt.canLay_of_shaped hsh
  have hdp : p.depth ≤ 64 := of_decide_eq_true (Bool.and_eq_true_iff.mp hsh).2
  have hu : X.A.units + 200 < cLine := by have := hr.un; omega
  cases rd with
  | none => exact PySem.P.repr_of_none (fin s.heap _ _ fun _ _ e => e)
  | bool b => exact PySem.P.repr_of_bool (fin s.heap _ _ fun _ _ e => e)
  | int i t => exact PySem.P.repr_of_int (of_decide_eq_true hs) (fin s.heap _ _ fun _ _ e => e)
  | str z t => exact PySem.P.repr_of_str (fin s.heap _ _ fun _ _ e => e) hz
  | list ho hcl hda ra => exact repr_of_reads' (.list ho hcl hda ra) hs (PyData.noDict_hsm (PyData.hasDict_of_canLay _ hc)) hg (by omega) (fun _ _ e => e) (fun h' u tk kp => fin h' tk u kp) hz
  | tuple ho hcl hda ra => exact repr_of_reads' (.tuple ho hcl hda ra) hs (PyData.noDict_hsm (PyData.hasDict_of_canLay _ hc)) hg (by omega) (fun _ _ e => e) (fun h' u tk kp => fin h' tk u kp) hz
  | dict _ _ _ _ _ => exact absurd hc Bool.false_ne_true
theorem cd_repr : CallD K (rRepr K) (d1 dRepr) := cd_1 fun W ρ G H σ μ v x Q R hx hp => by
  unfold dRepr at hp
  split at hp
  · rename_i p e
    by_cases c : p.showable = true ∧ SeqAt.shaped p = true ∧ p.shown.length ≤ sizeLine
    · rw [if_pos c] at hp; exact ⟨v, p, rfl, peekPy_ok R hx e, c.1, c.2.1, c.2.2, hp.okD R (.str _)⟩
    · rw [if_neg c] at hp; exact hp.elim
  exact hp.elim
end
end DL
namespace DL
open PySem PySem.Spec PyProof.Rows L2
/-! ### enumerate of a tuple -/
set_option maxHeartbeats 1000000 in
theorem meets_enum_tup (l : Addr) (its : Array Value) (n : Nat) (dct : Option Addr) (sl : Array (Option Value)) :
    Meets (Builtin.«enumerate.__new__» ⟨[.type "enumerate", .ref l], []⟩) (fun _ R s => s.heap.get? l = some { cls := .type "tuple", dict := dct, data := .seq its n, slots := sl } ∧
      R (.ok (.ret (.ref (s.heap.push { cls := .type "tuple_iterator", data := .fields #[.ref l, .int 0 0] }).objs.size)))
        { s with heap := (s.heap.push { cls := .type "tuple_iterator", data := .fields #[.ref l, .int 0 0] }).push { cls := .type "enumerate", data := .fields #[.none, .bool false, .ref s.heap.objs.size, rawInt 0, .none, .none] } }) :=
  .of_wp fun prog w A R s h => by
    obtain ⟨hp, g, d, tk, os⟩ := s
    obtain ⟨hl, h⟩ := h
    have hsub := sub_enumerate
    have hT : Heap.IsTuple (Shared.heap ⟨hp, g, d, tk, os⟩) l its := ⟨_, hl, rfl, n, rfl⟩
    wp_walk using AutoSeq1.wpAny_loadPart' hl
    refine wpAny_stack_any fun st => wpAny_pure ?_
    split
    · rename_i c _ _ _ _ _
      cases (c == Value.type "enumerate")
      all_goals
        wp_walk using AutoSeq1.wpAny_loadPart' hl, wpAny_pyIter_tuple hT
        exact ⟨_, rfl, h⟩
    · wp_walk using AutoSeq1.wpAny_loadPart' hl, wpAny_pyIter_tuple hT
      exact ⟨_, rfl, h⟩
theorem call_enum_tup {prog : Program} {w : World} {A : Around} {E : Value → Shared → Prop} {s : Shared} {l : Addr} {its : Array Value} {Q : Value → Shared → Prop} (hL : s.heap.IsTuple l its)
    (h : ∀ h', IsEnum h' (s.heap.objs.size + 1) s.heap.objs.size 0 .none → h'.IsTupleIter s.heap.objs.size l 0 →
      (∀ b o, s.heap.get? b = some o → h'.get? b = some o) → Q (.ref (s.heap.objs.size + 1)) { s with heap := h' }) :
    wpAny (model prog w) A (call (.type "enumerate") [.ref l]) Q E s := by
  obtain ⟨⟨c, dct, dt, sl⟩, hl, hc, n, hd⟩ := hL
  obtain rfl : c = .type "tuple" := hc
  obtain rfl : dt = .seq its n := hd
  refine callType_new F.called_enumerate (by decide) (F.typeCall_enumerate_1 _) (F.newCall_enumerate_1 _) (fun obj => F.args_object_init_2 obj _) F.entry_enumerate_new (meets_enum_tup l its n dct sl) ⟨hl, ?_⟩
  have hz : (s.heap.push { cls := .type "tuple_iterator", data := .fields #[.ref l, .int 0 0] }).objs.size = s.heap.objs.size + 1 := Heap.size_push ..
  show _ ∧ _
  rw [hz]
  have he : IsEnum ((s.heap.push { cls := .type "tuple_iterator", data := .fields #[.ref l, .int 0 0] }).push
      { cls := .type "enumerate", data := .fields #[.none, .bool false, .ref s.heap.objs.size, rawInt 0, .none, .none] }) (s.heap.objs.size + 1) s.heap.objs.size 0 .none := by
    have q := Heap.get?_push_size (s.heap.push { cls := .type "tuple_iterator", data := .fields #[.ref l, .int 0 0] })
      (o := { cls := .type "enumerate", data := .fields #[.none, .bool false, .ref s.heap.objs.size, rawInt 0, .none, .none] }) rfl
    rw [hz] at q; exact q
  exact ⟨⟨_, he, rfl⟩, h _ he ⟨_, Heap.get?_push_of_some _ (Heap.get?_push_size _ rfl), rfl, rfl⟩ fun b o x => Heap.get?_push_of_some _ (Heap.get?_push_of_some _ x)⟩
/-- the tuple at a, each item in a new pair -/
def ItE (K : PySem.W.Frag) (a : Addr) : It :=
  ⟨fun i H => ∃ (xs : List V) (x : V), SqT K H a xs ∧ xs[i]? = some x,
   fun i H v H' => ∃ T x, v = .ref T ∧ H T = none ∧ H' = upd H T (.tup [.int (i : Nat), x]) ∧ ∀ xs, SqT K H a xs → xs[i]? = some x,
   fun i H => ∃ xs : List V, SqT K H a xs ∧ xs.length ≤ i⟩
section
variable {prog : Program} {w : World} {A : Around} {E : Value → Shared → Prop} {s : Shared}
theorem next_enum_tup_end {e it a : Addr} {its : Array Value} {n : Nat} {i : Int} {old : Value} {Q : Option Value → Shared → Prop} (hh : A.handled = none) (he : IsEnum s.heap e it i old) (hit : s.heap.IsTupleIter it a n) (ht : s.heap.IsTuple a its) (hle : its.size ≤ n)
    (hQ : ∀ h', Heap.ExtBut it s.heap h' → Q none { s with heap := h' }) : wpAny (model prog w) A (pyNext (.ref e)) Q E s := by
  have hT : s.TypeIs (.ref e) "enumerate" := ⟨_, he, rfl⟩
  unfold pyNext
  refine wpAny_bind (wpAny_attempt (wpAny_callSpecial?_slot (name := Str.ofString "__next__") hT F.slot_enumerate_next (wpAny_call_entry F.slot_enumerate_next hT F.entry_enumerate_next ?_ (F.args_enumerate_next_1 _))))
  show wpAny _ _ (field (.ref e) 2 >>= _) _ _ _
  refine wpAny_bind (wpAny_field he rfl (x := .ref it) rfl (wpAny_bind (wpAny_nextOf_tuple_end hh hit ht (Array.getElem?_eq_none hle) fun h' x ext hx => ?_)))
  obtain ⟨o, ho, hc⟩ := hx
  exact wpAny_bind (wpAny_isInstance (T := "StopIteration") (b := true) ⟨o, ho, hc⟩ isSubtype_stop (wpAny_pure (hQ _ ext)))
end
theorem tup_ne_iter {h : Heap} {a it : Addr} {its : Array Value} {n : Nat} (ht : h.IsTuple a its) (hi : h.IsTupleIter it a n) : a ≠ it := by
  intro e
  obtain ⟨o, ho, hc, _⟩ := ht
  obtain ⟨o2, ho2, hc2, _⟩ := hi
  rw [← e, ho] at ho2
  cases ho2
  rw [hc] at hc2
  exact absurd (Value.type.inj hc2) (by decide)
theorem turn_enumT {P : Program} {w : World} {K : PySem.W.Frag} {elts : List Expr} {kk : Nat} {tpos : Pos} (a e it : Addr) :
    Turn P w K (.Tuple elts kk tpos) (ItE K a) [e, it] e (fun i h => (∃ old, IsEnum h e it ((i : Nat) : Int) old) ∧ h.IsTupleIter it a i ∧ e ≠ it) where
  mem := by simp
  obj := fun i h st b hb => by
    obtain ⟨⟨old, he⟩, ⟨o, ho, hc, hd⟩, _⟩ := st
    rcases (by simpa using hb : b = e ∨ b = it) with rfl | rfl
    · exact ⟨_, he, fun v q => nomatch q⟩
    · exact ⟨o, ho, fun v q => by rw [hd] at q; cases q⟩
  keep := fun i h h' st k => by
    obtain ⟨⟨old, he⟩, hi, hne⟩ := st
    exact ⟨⟨old, k e (by simp) _ he⟩, hi.at fun o q => k it (by simp) o q, hne⟩
  item := by
    intro X hP hw hK hc i pins s σ H E I hf st hg
    subst hP hw hK
    obtain ⟨⟨old, he⟩, hit, hne⟩ := st
    obtain ⟨xs, x, hq, hx⟩ := hg
    obtain ⟨its, rv, p, hz⟩ := I.tuple hq
    have ht : s.heap.IsTuple a its.toArray := p
    obtain ⟨u, hu, ru⟩ := rv.get hx
    have hui : i < its.toArray.size := by
      rw [List.size_toArray]
      exact (List.getElem?_eq_some_iff.mp hu).1
    have hel : e < s.heap.objs.size := Heap.lt_size he
    have hil : it < s.heap.objs.size := by obtain ⟨_, q, _⟩ := hit; exact Heap.lt_size q
    have hai := tup_ne_iter ht hit
    have hae : e ≠ a := fun z => by
      obtain ⟨o, ho, hcl, _⟩ := ht
      rw [← z, he] at ho
      cases ho
      exact absurd (Value.type.inj hcl) (by decide)
    refine wpAny_pyNext_enum_itemD (Draws.tuple (A := X.A.in1) (I.ok.hd hc) it a hai its.toArray) he ⟨hit, ht⟩ hui hne (by simp [hne, hae]) fun x' h' tk hP ho st' hT hsz hk => ?_
    have ex : x' = u := by
      have q : its.toArray[i]? = some x' := hP
      rw [List.getElem?_toArray, hu] at q
      exact (Option.some.inj q).symm
    subst ex
    refine ⟨_, rfl, wpAny_letOwnedTupleGo_enum (s := { s with heap := h', toks := tk + 1 }) ho fun h'' he' sb => ?_⟩
    have hT2 : h''.get? s.heap.objs.size = some { cls := .type "tuple", data := .seq #[.int i tk, x'] } := (sb.2 _ (Nat.ne_of_gt hel)).trans hT
    have new : ObjOk X.prog X.w (upd H s.heap.objs.size (.tup [.int (i : Nat), x])) h'' s.heap.objs.size (.tup [.int (i : Nat), x]) :=
      ⟨by show 2 ≤ sizeLine; decide, [.int i tk, x'], .cons ⟨_, rfl⟩ (.cons ru .nil), ⟨_, hT2, rfl, _, rfl⟩⟩
    have I1 : L2.Inv X pins σ (upd H s.heap.objs.size (.tup [.int (i : Nat), x])) { s with heap := h'', toks := tk + 1 } :=
      I.turnedNew (ch := [e, it]) (fun b ob hb q => (sb.2 b (fun z => hb (by simp [z]))).trans (hk b ob (fun z => hb (by simp [z])) (fun z => hb (by simp [z])) q)) hf (Nat.le_refl _) new
    refine ⟨.ref s.heap.objs.size, _, I1, rfl, ⟨_, x, rfl, I.hok.fresh (Nat.le_refl _), rfl, fun ys hy => by rw [I.tuple_inj hy hq]; exact hx⟩, ⟨⟨x', ?_⟩, st'.1.at fun o q => (sb.2 it (Ne.symm hne)).trans q, hne⟩, fun b hb => ?_⟩
    · rw [show ((i + 1 : Nat) : Int) = (i : Int) + 1 by omega]; exact he'
    · have hb' : b < s.heap.objs.size := by
        rcases (by simpa using hb : b = e ∨ b = it) with z | z
        · rw [z]; exact hel
        · rw [z]; exact hil
      rw [upd_ne (Nat.ne_of_lt hb')]
      exact (hf b hb).1
  done := by
    intro X hP hw hK hc i pins s σ H E I hf st hg
    subst hP hw hK
    obtain ⟨⟨old, he⟩, hit, hne⟩ := st
    obtain ⟨xs, hq, hx⟩ := hg
    obtain ⟨its, rv, p, hz⟩ := I.tuple hq
    obtain ⟨f0, f1, f2, f3, f4, f5⟩ := hf it (by simp)
    have hl := rv.length
    exact next_enum_tup_end (I.ok.hd hc) he hit (show s.heap.IsTuple a its.toArray from p) (by simp; omega) fun h' eb => ⟨rfl, I.turned (t' := s.toks) (fun b o hb q => eb b o hb q) f0 f1 f3 f4 f5⟩
  self := fun A i s Q E st h => let ⟨⟨_, he⟩, _⟩ := st; wpAny_pyIter_enum he h
/-- enumerate of a list or of a tuple -/
def iEnumS (K : PySem.W.Frag) (ta : TA) : TI := fun σ H R => ta σ H fun vs H1 => ∃ a xs, vs = [.ref a] ∧ (SqL K H1 a xs ∧ R (Ite K a) H1 ∨ SqT K H1 a xs ∧ R (ItE K a) H1)
theorem pi_enumS {X : Cx} {e : Expr} {ta : TA} {p pos tpos : Pos} {elts : List Expr} {kk : Nat} (hg : Gl X "enumerate") (hm : X.mg "enumerate" = none) (ha : PA X [e] ta) (hs : starEach [e] X.env = [(false, eval e X.env)] := by rfl) :
    PI X (.Tuple elts kk tpos) (.Call (.Name "enumerate" p) [e] [] pos) (iEnumS X.K ta) := by
  refine ⟨fun pins s σ H R I h => Call_ (ld_blt I hg hm boot_enumerate (PyProof.Rows.callWith_type1 (thn (ha.run pos pins s σ H _ I h) ?_) hs rfl))⟩
  rintro us s1 ⟨vs, H1, I1, r1, a, xs, rfl, q1⟩
  obtain ⟨u, rfl, ru⟩ : ∃ u, us = [u] ∧ L2.RelV (.ref a) u := by
    cases r1 with
    | cons r rr => cases rr; exact ⟨_, rfl, r⟩
  cases ru
  have fr : ∀ b, b = s1.heap.objs.size + 1 ∨ b = s1.heap.objs.size → FpOk X pins H1 b := fun b z => by
    have hle : s1.heap.objs.size ≤ b := by
      rcases z with z | z <;> rw [z]
      · exact Nat.le_add_right _ _
      · exact Nat.le_refl _
    exact I1.fpOk hle (I1.hok.fresh hle)
  rcases q1 with ⟨hq, q⟩ | ⟨hq, q⟩
  · obtain ⟨its, rv, p', hz⟩ := I1.list hq
    refine call_enumerate_list p'.isList fun h' he hit hsz hk => wpAny_pyIter_enum he ?_
    exact ⟨s1.heap.objs.size + 1, [s1.heap.objs.size + 1, s1.heap.objs.size], _, _, H1, rfl, I1.kept (t' := s1.toks) hk, turn_enum a (s1.heap.objs.size + 1) s1.heap.objs.size, ⟨⟨.none, he⟩, hit, Nat.succ_ne_self _⟩, fun b hb => fr b (by simpa using hb), q⟩
  · obtain ⟨its, rv, p', hz⟩ := I1.tuple hq
    refine call_enum_tup (show s1.heap.IsTuple a its.toArray from p') fun h' he hit hk => wpAny_pyIter_enum he ?_
    exact ⟨s1.heap.objs.size + 1, [s1.heap.objs.size + 1, s1.heap.objs.size], _, _, H1, rfl, I1.kept (t' := s1.toks) hk, turn_enumT a (s1.heap.objs.size + 1) s1.heap.objs.size, ⟨⟨.none, he⟩, hit, Nat.succ_ne_self _⟩, fun b hb => fr b (by simpa using hb), q⟩
/-- what is walked: a list or a tuple -/
def iSeq (K : PySem.W.Frag) (tl : TE) : TI := fun σ H R => tl σ H fun x H1 => ∃ a, x = .ref a ∧ ((∃ xs, SqL K H1 a xs) ∧ R (Itl K a) H1 ∨ (∃ xs, SqT K H1 a xs) ∧ R (Itt K a) H1)
theorem pi_seq {X : Cx} {tg l : Expr} {tl : TE} (hl : PE X l tl) : PI X tg l (iSeq X.K tl) := by
  refine ⟨fun pins s σ H R I h => thn (hl.run pins s σ H _ I h) ?_⟩
  rintro v s1 ⟨x, H1, I1, r1, a, rfl, q1⟩
  cases r1
  have fr : FpOk X pins H1 s1.heap.objs.size := I1.fpOk (Nat.le_refl _) (I1.hok.fresh (Nat.le_refl _))
  rcases q1 with ⟨⟨xs, hq⟩, q⟩ | ⟨⟨xs, hq⟩, q⟩
  · obtain ⟨its, rv, p, hz⟩ := I1.list hq
    refine wpAny_pyIter_list p.isList ⟨s1.heap.objs.size, [s1.heap.objs.size], _, _, H1, rfl, I1.kept (t' := s1.toks) fun b o e => Heap.get?_push_of_some _ e, turn_list a _, ⟨_, Heap.get?_push_size _ rfl, rfl, rfl⟩, fun b hb => ?_, q⟩
    rw [show b = s1.heap.objs.size by simpa using hb]; exact fr
  · obtain ⟨its, rv, p, hz⟩ := I1.tuple hq
    refine wpAny_pyIter_tuple (show s1.heap.IsTuple a its.toArray from p) ⟨s1.heap.objs.size, [s1.heap.objs.size], _, _, H1, rfl, I1.kept (t' := s1.toks) fun b o e => Heap.get?_push_of_some _ e, turn_tuple a _, ⟨_, Heap.get?_push_size _ rfl, rfl, rfl⟩, fun b hb => ?_, q⟩
    rw [show b = s1.heap.objs.size by simpa using hb]; exact fr
end DL
namespace DL
open PySem PySem.Spec PyProof.Rows L2
section
variable {K : PySem.W.Frag} {W : WX} {N M : Nat} {ρ : Pm} {G H : Hp} {σ : Slots} {δ : Env} {μ : Mem} {Q : VK} {v w : V} {x y : DV}
/-! ### what is walked -/
theorem it_list {a : Addr} {vs : List V} {ds : List D} (h : SqL K G a vs) (r : RpL K G vs ds) : ItOk K G (Itl K a) ds := fun ρ G1 H μ R x => by
  have hq : SqL K H a vs := ex_l (x.trans R.ex) h
  refine ⟨fun i d e => ?_, fun i hi => ⟨vs, hq, by rw [r.length]; exact hi⟩⟩
  obtain ⟨u, h1, h2⟩ := r.get' e
  refine ⟨⟨vs, u, hq, h1⟩, fun v H' hy => ?_⟩
  obtain ⟨rfl, q⟩ := hy
  have e2 := q vs hq
  rw [h1] at e2; cases e2
  exact ⟨G1, Tr.refl _ _ _, R, h2.mono x⟩
theorem it_tup {a : Addr} {vs : List V} {ds : List D} (h : SqT K G a vs) (r : RpL K G vs ds) : ItOk K G (Itt K a) ds := fun ρ G1 H μ R x => by
  have hq : SqT K H a vs := ex_t (x.trans R.ex) h
  refine ⟨fun i d e => ?_, fun i hi => ⟨vs, hq, by rw [r.length]; exact hi⟩⟩
  obtain ⟨u, h1, h2⟩ := r.get' e
  refine ⟨⟨vs, u, hq, h1⟩, fun v H' hy => ?_⟩
  obtain ⟨rfl, q⟩ := hy
  have e2 := q vs hq
  rw [h1] at e2; cases e2
  exact ⟨G1, Tr.refl _ _ _, R, h2.mono x⟩
def enumD : Nat → List D → List D
  | _, [] => []
  | i, d :: ds => .tup [.int i, d] :: enumD (i + 1) ds
theorem enumD_get : ∀ (k : Nat) (ds : List D) (i : Nat) (d : D), (enumD k ds)[i]? = some d → ∃ e, ds[i]? = some e ∧ d = .tup [.int ((k + i : Nat) : Int), e]
  | _, [], i, d, h => by simp [enumD] at h
  | k, e :: ds, 0, d, h => by simp [enumD] at h; exact ⟨e, rfl, h.symm⟩
  | k, _ :: ds, i + 1, d, h => by
    obtain ⟨e, h1, h2⟩ := enumD_get (k + 1) ds i d (by simpa [enumD] using h)
    exact ⟨e, h1, by rw [h2, show k + 1 + i = k + (i + 1) by omega]⟩
theorem enumD_len : ∀ (k : Nat) (ds : List D), (enumD k ds).length = ds.length
  | _, [] => rfl
  | k, _ :: ds => congrArg (· + 1) (enumD_len (k + 1) ds)
theorem it_pair {J : It} {vs : List V} {ds : List D} {G0 : Hp} {C : Hp → List V → Prop} (hC : ∀ ρ G1 H μ, Rel K ρ G1 H μ → Ex G0 G1 → C H vs) (r : RpL K G0 vs ds)
    (go : ∀ i H u, C H vs → vs[i]? = some u → J.go i H) (stop : ∀ i H, C H vs → vs.length ≤ i → J.stop i H)
    (yld : ∀ i H v H', C H vs → J.yld i H v H' → ∃ T u, v = .ref T ∧ H T = none ∧ H' = upd H T (.tup [.int (i : Nat), u]) ∧ vs[i]? = some u) : ItOk K G0 J (enumD 0 ds) := fun ρ G1 H μ R x => by
  have hq := hC ρ G1 H μ R x
  refine ⟨fun i d e => ?_, fun i hi => stop i H hq (by rw [r.length]; rw [enumD_len] at hi; exact hi)⟩
  obtain ⟨e0, he, rfl⟩ := enumD_get 0 ds i d e
  obtain ⟨u, h1, h2⟩ := r.get' he
  refine ⟨go i H u hq h1, fun v H' hy => ?_⟩
  obtain ⟨T, u', rfl, hn, rfl, e3⟩ := yld i H v H' hq hy
  rw [h1] at e3; cases e3
  obtain ⟨R2, t2, ex⟩ := R.layD (o := .tup [.int (i : Nat), u]) hn
  refine ⟨_, t2, R2, ?_⟩
  rw [Nat.zero_add]
  exact Rp.tup (.inl (.inl upd_same)) (.cons (.int _) (.cons ((h2.mono x).mono ex) .nil))
def seqD : DV → Option (List D)
  | .dat (.lst ds) => some ds
  | .dat (.fro ds) => some ds
  | .dat (.tup ds) => some ds
  | _ => none
theorem seqD_ok {ds : List D} (h : DvOk K ρ G v x) (e : seqD x = some ds) : ∃ a vs, v = .ref a ∧ (SqL K G a vs ∨ SqT K G a vs) ∧ RpL K G vs ds := by
  unfold seqD at e
  split at e
  · cases e; cases h with | lst h r => exact ⟨_, _, rfl, .inl (.inl (.inl h)), r⟩
  · cases e; cases h with | fro h r => exact ⟨_, _, rfl, .inl h, r⟩
  · cases e; cases h with | tup h r => exact ⟨_, _, rfl, .inr h, r⟩
  · cases e
def imSeq (f : EM) : IM := fun δ μ => (frzV f δ μ).bind fun x μ' => match seqD x with
  | some ds => .ok ds μ'
  | none => .bad
theorem snd_iseq {te : TE} {f : EM} (h : SndE K W te f) : SndI K W (iSeq K te) (imSeq f) := fun ρ G H σ δ μ Q R E hp => by
  refine SndG.seq (t := te) h.toV R E hp fun x μ1 G1 H1 v t1 R1 E1 d1 hp1 => ?_
  cases e : seqD x with
  | none => rw [e] at hp1; exact hp1.elim
  | some ds =>
    rw [e] at hp1
    obtain ⟨a, vs, rfl, hs, r⟩ := seqD_ok d1 e
    refine ⟨a, rfl, ?_⟩
    rcases hs with hs | hs
    · exact .inl ⟨⟨vs, ex_l R1.ex hs⟩, hp1 G1 H1 _ t1 R1 (it_list hs r)⟩
    · exact .inr ⟨⟨vs, ex_t R1.ex hs⟩, hp1 G1 H1 _ t1 R1 (it_tup hs r)⟩
def imEnum (f : AM) : IM := fun δ μ => (f δ μ).bind fun xs μ' => match xs with
  | [x] => match seqD x with
    | some ds => .ok (enumD 0 ds) μ'
    | none => .bad
  | _ => .bad
theorem snd_ienum {ta : TA} {f : AM} (h : SndA K W ta f) : SndI K W (iEnumS K ta) (imEnum f) := fun ρ G H σ δ μ Q R E hp => by
  refine SndG.seq (t := ta) h R E hp fun xs μ1 G1 H1 vs t1 R1 E1 d1 hp1 => ?_
  match xs, d1, hp1 with
  | [], _, hp1 => exact hp1.elim
  | _ :: _ :: _, _, hp1 => exact hp1.elim
  | [x], d1, hp1 =>
    obtain ⟨v, rfl, d⟩ := d1.one
    simp only at hp1
    cases e : seqD x with
    | none => rw [e] at hp1; exact hp1.elim
    | some ds =>
      rw [e] at hp1
      obtain ⟨a, ws, rfl, hs, r⟩ := seqD_ok d e
      refine ⟨a, ws, rfl, ?_⟩
      rcases hs with hs | hs
      · refine .inl ⟨ex_l R1.ex hs, hp1 G1 H1 _ t1 R1 (it_pair (C := fun H ws => SqL K H a ws) (fun ρ G2 H μ R x => ex_l (x.trans R.ex) hs) r ?_ ?_ ?_)⟩
        · exact fun i H u hq hu => ⟨ws, u, hq, hu⟩
        · exact fun i H hq hl => ⟨ws, hq, hl⟩
        · rintro i H v H' hq ⟨T, u, h1, h2, h3, h4⟩; exact ⟨T, u, h1, h2, h3, h4 ws hq⟩
      · refine .inr ⟨ex_t R1.ex hs, hp1 G1 H1 _ t1 R1 (it_pair (C := fun H ws => SqT K H a ws) (fun ρ G2 H μ R x => ex_t (x.trans R.ex) hs) r ?_ ?_ ?_)⟩
        · exact fun i H u hq hu => ⟨ws, u, hq, hu⟩
        · exact fun i H hq hl => ⟨ws, hq, hl⟩
        · rintro i H v H' hq ⟨T, u, h1, h2, h3, h4⟩; exact ⟨T, u, h1, h2, h3, h4 ws hq⟩
def rngD (lo : Int) (n : Nat) : List D := (List.range n).map fun i => .int (lo + (i : Nat))
theorem it_rng (lo : Int) (n : Nat) : ItOk K G (Itr lo n) (rngD lo n) := fun ρ G1 H μ R x => by
  refine ⟨fun i d e => ?_, fun i hi => ?_⟩
  · unfold rngD at e
    rw [List.getElem?_map] at e
    cases q : (List.range n)[i]? with
    | none => rw [q] at e; cases e
    | some j =>
      rw [q] at e
      simp only [Option.map_some, Option.some.injEq] at e
      obtain ⟨hi, ej⟩ := List.getElem?_eq_some_iff.mp q
      rw [List.getElem_range] at ej
      rw [List.length_range] at hi
      refine ⟨hi, fun v H' hy => ?_⟩
      obtain ⟨rfl, rfl⟩ := hy
      subst ej
      exact ⟨G1, Tr.refl _ _ _, R, e ▸ Rp.int _⟩
  · show n ≤ i
    simpa [rngD] using hi
def imRng (f : AM) : IM := fun δ μ => (f δ μ).bind fun xs μ' => match xs with
  | [x] => match asI x with
    | some j => if -2 ^ 62 ≤ j ∧ j < 2 ^ 62 then .ok (rngD 0 j.toNat) μ' else .bad
    | none => .bad
  | _ => .bad
theorem snd_irng {ta : TA} {f : AM} (h : SndA K W ta f) : SndI K W (iRng1 ta) (imRng f) := fun ρ G H σ δ μ Q R E hp => by
  refine SndG.seq (t := ta) h R E hp fun xs μ1 G1 H1 vs t1 R1 E1 d1 hp1 => ?_
  match xs, d1, hp1 with
  | [], _, hp1 => exact hp1.elim
  | _ :: _ :: _, _, hp1 => exact hp1.elim
  | [x], d1, hp1 =>
    obtain ⟨v, rfl, d⟩ := d1.one
    simp only at hp1
    cases e : asI x with
    | none => rw [e] at hp1; exact hp1.elim
    | some j =>
      rw [e] at hp1
      by_cases c : -2 ^ 62 ≤ j ∧ j < 2 ^ 62
      · simp only [if_pos c] at hp1
        rw [asI_ok d e]
        exact ⟨j, rfl, c.1, c.2, hp1 G1 H1 _ t1 R1 (it_rng 0 _)⟩
      · simp only [if_neg c] at hp1; exact hp1.elim
def imRng2 (f : AM) : IM := fun δ μ => (f δ μ).bind fun xs μ' => match xs with
  | [x, y] => match asI x, asI y with
    | some i, some j => if -2 ^ 62 ≤ i ∧ i < 2 ^ 62 ∧ -2 ^ 62 ≤ j ∧ j < 2 ^ 62 then .ok (rngD i (j - i).toNat) μ' else .bad
    | _, _ => .bad
  | _ => .bad
theorem snd_irng2 {ta : TA} {f : AM} (h : SndA K W ta f) : SndI K W (iRng2 ta) (imRng2 f) := fun ρ G H σ δ μ Q R E hp => by
  refine SndG.seq (t := ta) h R E hp fun xs μ1 G1 H1 vs t1 R1 E1 d1 hp1 => ?_
  match xs, d1, hp1 with
  | [], _, hp1 => exact hp1.elim
  | [_], _, hp1 => exact hp1.elim
  | _ :: _ :: _ :: _, _, hp1 => exact hp1.elim
  | [x, y], d1, hp1 =>
    obtain ⟨v, w, rfl, dx, dy⟩ := d1.two
    simp only at hp1
    split at hp1
    · rename_i i j e1 e2
      by_cases c : -2 ^ 62 ≤ i ∧ i < 2 ^ 62 ∧ -2 ^ 62 ≤ j ∧ j < 2 ^ 62
      · rw [if_pos c] at hp1
        rw [asI_ok dx e1, asI_ok dy e2]
        exact ⟨i, j, rfl, c, hp1 G1 H1 _ t1 R1 (it_rng i _)⟩
      · rw [if_neg c] at hp1; exact hp1.elim
    · exact hp1.elim
/-! ### targets of several names -/
def TgsOk (K : PySem.W.Frag) (g : TGs) (h : List D → Env → Option Env) (ts : List Nat) : Prop := ∀ (ρ : Pm) (G H : Hp) (μ : Mem) (σ : Slots) (δ δ' : Env) (vs : List V) (ds : List D) (Q : Slots → Hp → Prop), Rel K ρ G H μ → EnvOk K ρ G σ δ → RpL K G vs ds → h ds δ = some δ' →
  (∀ σ', EnvOk K ρ G σ' δ' → σ'.length = σ.length → (∀ i, i ∉ ts → σ'[i]? = σ[i]?) → Q σ' H) → g vs σ H Q
def tgNil : List D → Env → Option Env := fun ds δ => match ds with
  | [] => some δ
  | _ :: _ => none
def tgCons (h : D → Env → Option Env) (hs : List D → Env → Option Env) : List D → Env → Option Env := fun ds δ => match ds with
  | [] => none
  | d :: ds => match h d δ with
    | none => none
    | some δ1 => hs ds δ1
def tgTup (n : Nat) (hs : List D → Env → Option Env) : D → Env → Option Env := fun d δ => match d with
  | .tup ds => if ds.length = n then hs ds δ else none
  | _ => none
theorem tgs_nil : TgsOk K gNil tgNil [] := fun ρ G H μ σ δ δ' vs ds Q R E r e q => by
  cases r with
  | nil => cases e; exact ⟨rfl, q σ E rfl fun _ _ => rfl⟩
  | cons _ _ => cases e
theorem tgs_cons {g : TG} {gs : TGs} {h : D → Env → Option Env} {hs : List D → Env → Option Env} {t ts : List Nat} (h1 : TgOk K g h t) (h2 : TgsOk K gs hs ts) : TgsOk K (gCons g gs) (tgCons h hs) (t ++ ts) := fun ρ G H μ σ δ δ' vs ds Q R E r e q => by
  cases r with
  | nil => cases e
  | cons a b =>
    rename_i v vs d ds
    simp only [tgCons] at e
    cases e1 : h d δ with
    | none => rw [e1] at e; cases e
    | some δ1 =>
      rw [e1] at e
      refine ⟨v, vs, rfl, h1 ρ G H μ σ δ δ1 v d _ R E a e1 fun σ1 E1 l1 k1 => h2 ρ G H μ σ1 δ1 δ' vs ds _ R E1 b e fun σ2 E2 l2 k2 => q σ2 E2 (l2.trans l1) fun i hi => ?_⟩
      rw [k2 i fun z => hi (List.mem_append_right _ z), k1 i fun z => hi (List.mem_append_left _ z)]
theorem tg_tup {gs : TGs} {hs : List D → Env → Option Env} {ts : List Nat} {n : Nat} (h : TgsOk K gs hs ts) : TgOk K (gTup K n gs) (tgTup n hs) ts := fun ρ G H μ σ δ δ' v d Q R E r e q => by
  unfold tgTup at e
  split at e
  · rename_i ds
    by_cases c : ds.length = n
    · rw [if_pos c] at e
      cases r with
      | tup h1 r => exact ⟨_, _, rfl, ex_t R.ex h1, by rw [r.length]; exact c, h ρ G H μ σ δ δ' _ ds Q R E r e q⟩
    · rw [if_neg c] at e; cases e
  · cases e
end
section
variable {X : Cx} {W : WX} {pos p tpos : Pos} {tg e : Expr} {te : TE} {f : EM} {ta : TA} {fa : AM} {a b : Expr}
theorem mi_seq (h : PM X W e te f) : PMI X W tg e (iSeq X.K te) (imSeq f) := ⟨pi_seq h.pe, snd_iseq h.sd⟩
theorem mi_rng1 (hg : Gl X "range") (hm : X.mg "range" = none) (h : PMA X W [a] ta fa) (hs : starEach [a] X.env = [(false, eval a X.env)] := by rfl) : PMI X W tg (.Call (.Name "range" p) [a] [] pos) (iRng1 ta) (imRng fa) := ⟨pi_range1 hg hm h.pe hs, snd_irng h.sd⟩
theorem mi_rng2 (hg : Gl X "range") (hm : X.mg "range" = none) (h : PMA X W [a, b] ta fa) (hs : starEach [a, b] X.env = [(false, eval a X.env), (false, eval b X.env)] := by rfl) (hs2 : starEach [b] X.env = [(false, eval b X.env)] := by rfl) : PMI X W tg (.Call (.Name "range" p) [a, b] [] pos) (iRng2 ta) (imRng2 fa) := ⟨pi_range2 hg hm h.pe hs hs2, snd_irng2 h.sd⟩
theorem mi_enum {elts : List Expr} {kk : Nat} (hg : Gl X "enumerate") (hm : X.mg "enumerate" = none) (h : PMA X W [e] ta fa) (hs : starEach [e] X.env = [(false, eval e X.env)] := by rfl) : PMI X W (.Tuple elts kk tpos) (.Call (.Name "enumerate" p) [e] [] pos) (iEnumS X.K ta) (imEnum fa) := ⟨pi_enumS hg hm h.pe hs, snd_ienum h.sd⟩
structure PMGs (X : Cx) (es : List Expr) (g : TGs) (h : List D → Env → Option Env) (ts : List Nat) : Prop where
  pg : PGs X es g
  ok : TgsOk X.K g h ts
theorem gs_nil : PMGs X [] gNil tgNil [] := ⟨pgs_nil, tgs_nil⟩
theorem gs_cons {es : List Expr} {g : TG} {gs : TGs} {h : D → Env → Option Env} {hs : List D → Env → Option Env} {t ts : List Nat} (h1 : PMG X e g h t) (h2 : PMGs X es gs hs ts)
    (ha : List.map (fun x => x.snd) (assignEach (e :: es) X.env) = assign e X.env :: List.map (fun x => x.snd) (assignEach es X.env) := by rfl) : PMGs X (e :: es) (gCons g gs) (tgCons h hs) (t ++ ts) := ⟨pgs_cons h1.pg h2.pg ha, tgs_cons h1.ok h2.ok⟩
theorem pg_tp {es : List Expr} {k n : Nat} {gs : TGs} {hs : List D → Env → Option Env} {ts : List Nat} (hc : X.calm = true) (h : PMGs X es gs hs ts) (h1 : (assignEach es X.env).length = n := by rfl) (h2 : List.findIdx? (fun x => x.fst) (assignEach es X.env) = none := by rfl) :
    PMG X (.Tuple es k pos) (gTup X.K n gs) (tgTup n hs) ts := ⟨pg_tup hc h.pg h1 h2, tg_tup h.ok⟩
end
end DL
namespace DL
open PySem PySem.Spec PyProof.Rows L2
/-! ### list.extend of a tuple -/
theorem meets_ext_tup (l : Addr) (items : Array Value) (n : Nat) (b : Addr) (items2 : Array Value) (n2 : Nat) (dct : Option Addr) (sl : Array (Option Value)) (hs0 : ¬(!items.isEmpty && Builtin.List.listTooLong (items.size + items2.size)) = true) (hs1 : items.size ≤ sizeLine) (hs2 : items.size + items2.size ≤ sizeLine + 1) :
    Meets (Builtin.«list.extend» ⟨[.ref l, .ref b], []⟩) (fun _ R s => s.heap.get? l = some { cls := .type "list", dict := none, data := .seq items n, slots := #[] } ∧ s.heap.get? b = some { cls := .type "tuple", dict := dct, data := .seq items2 n2, slots := sl } ∧
      R (.ok (.ret Value.none)) { s with heap := s.heap.update l (Obj.mapSeq fun x => x ++ items2), toks := s.toks }) :=
  .of_wp fun prog w A R s h => by
    obtain ⟨hp, g, d, tk, os⟩ := s
    obtain ⟨hl, hb, h⟩ := h
    have f1 := AutoSeq1.idx_int
    have f2 := AutoSeq1.sub_tuple_tuple
    have f3 := AutoSeq1.sub_list_list
    have f4 := AutoSeq1.sub_tuple_list
    have f5 := AutoSeq1.sub_list_tuple
    have hz' : (items ++ items2).size ≤ sizeLine + 1 := by rw [Array.size_append]; exact hs2
    wp_walk using (wpAny_updateSeq hl rfl (hz := hs1) (_hz' := hz')), AutoSeq1.wpAny_loadPart' hl, AutoSeq1.wpAny_loadPart' hb
    exact ⟨_, rfl, h⟩
def rExtT (K : PySem.W.Frag) : V → List V → Hp → VK → Prop := fun x vs H Q => ∃ l b xs zs, x = .ref l ∧ vs = [.ref b] ∧ H l = some (.lst xs) ∧ SqT K H b zs ∧ xs.length + zs.length ≤ sizeLine ∧ Q .non (upd H l (.lst (xs ++ zs)))
theorem mt_extT {X : Cx} : MtM X "list.extend" (rExtT X.K) := by
  intro pins s σ H x vs v us Q I rx rv h
  obtain ⟨l, b, xs, zs, rfl, rfl, hH, hB, hz, q⟩ := h
  cases rx
  obtain ⟨u, rfl, ru⟩ := rv.one
  cases ru
  obtain ⟨z, its, n, r, hl, e⟩ := I.lstM hH
  obtain ⟨its2, r2, ⟨⟨c, dct, dt, sl⟩, ho, hc, n2, hd⟩, z2⟩ := I.tuple hB
  obtain rfl : c = .type "tuple" := hc
  obtain rfl : dt = .seq its2.toArray n2 := hd
  have hl2 := r2.length
  have hsz : its.toArray.size + its2.toArray.size ≤ sizeLine := by rw [List.size_toArray, List.size_toArray]; omega
  have hlong : ¬ (!its.toArray.isEmpty && Builtin.List.listTooLong (its.toArray.size + its2.toArray.size)) = true := by
    rw [notLongL hsz, Bool.and_false]
    exact Bool.false_ne_true
  refine call_meets F.slot_list_extend ⟨_, e, rfl⟩ F.entry_list_extend (F.args_list_extend_2 _ _)
    (meets_ext_tup l its.toArray n b its2.toArray n2 dct sl hlong (by rw [List.size_toArray]; omega) (by omega)) ⟨e, ho, ?_⟩
  refine ⟨.non, _, I.lset (its' := its ++ its2) hH e (by simp) (r.append r2) ?_, rfl, q⟩
  rw [List.length_append]
  omega
section
variable {K : PySem.W.Frag} {W : WX} {N M : Nat} {ρ : Pm} {G H : Hp} {σ : Slots} {δ : Env} {μ : Mem} {Q : VK} {v w : V} {x y : DV}
theorem Rel.setL {n : Nat} {a : Addr} {vs' : List V} {xs' : List DV} {p : Pl} (R : Rel K ρ G H μ) (hn : ρ n = some a) (hm : μ[n]? = some p) (hb : ∀ x ∈ xs', x.below n) (hd : DvL K ρ G vs' xs') :
    Rel K ρ G (upd H a (.lst vs')) (μ.set n (.lst xs')) ∧ Tr ρ G H G (upd H a (.lst vs')) := by
  have hlt : n < μ.length := R.lt n a hn
  refine ⟨⟨fun b o h => ?_, R.inj, R.nG, fun m b h => by rw [List.length_set]; exact R.lt m b h, fun m b h q => ?_, fun m q h => ?_⟩, ⟨Ex.refl _, fun b o hb h => ?_, fun b h => ?_, fun b h => .inl h⟩⟩
  · have e : b ≠ a := fun e => by rw [e, R.nG n a hn] at h; cases h
    rw [upd_ne e]; exact R.ex b o h
  · by_cases e : b = a
    · rw [e, upd_same] at q; cases q
    · rw [upd_ne e] at q; exact R.hs m b h q
  · by_cases e : m = n
    · subst e
      rw [List.getElem?_set_self hlt] at h
      cases h
      exact ⟨hb, a, vs', hn, upd_same, hd⟩
    · rw [List.getElem?_set_ne (fun z => e z.symm)] at h
      have z := R.pl m q h
      have ne : ∀ b, ρ m = some b → b ≠ a := fun b hb z => e (R.inj m n a (z ▸ hb) hn)
      cases q with
      | lst xs => obtain ⟨b, c, vs, h1, h2, h3⟩ := z; exact ⟨b, c, vs, h1, by rw [upd_ne (ne c h1)]; exact h2, h3⟩
      | dct kvs => obtain ⟨b, c, vs, h1, h2, h3⟩ := z; exact ⟨b, c, vs, h1, by rw [upd_ne (ne c h1)]; exact h2, h3⟩
      | gone => trivial
  · have e : b ≠ a := fun e => hb n (e ▸ hn)
    rw [upd_ne e]; exact h
  · by_cases e : b = a
    · rw [e, upd_same] at h; cases h
    · rw [upd_ne e] at h; exact h
def MtD (K : PySem.W.Frag) (r : V → List V → Hp → VK → Prop) (g : DV → List DV → Mem → Res R) : Prop := ∀ (W : WX) (ρ : Pm) (G H : Hp) (σ : Slots) (μ : Mem) (v : V) (vs : List V) (x : DV) (xs : List DV) (Q : VK), Rel K ρ G H μ → DvOk K ρ G v x → DvL K ρ G vs xs →
  PostG K W ρ G H σ (fun G' H' => rpE K ρ G' H H') Q (g x xs μ) → r v vs H Q
def TyD (K : PySem.W.Frag) (T : String) (c : DV → Mem → Bool) : Prop := ∀ (ρ : Pm) (G H : Hp) (μ : Mem) (v : V) (x : DV), Rel K ρ G H μ → DvOk K ρ G v x → c x μ = true → tyV K T v H
def tyL (x : DV) (μ : Mem) : Bool := (asL μ x).isSome
def tyS (x : DV) (_ : Mem) : Bool := (asStr x).isSome
theorem td_list : TyD K "list" tyL := fun ρ G H μ v x R h e => by
  unfold tyL at e
  cases q : asL μ x with
  | none => rw [q] at e; cases e
  | some xs =>
    obtain ⟨a, vs, rfl, h2, _⟩ := asL_ok R h q
    exact .inl ⟨rfl, vs, h2⟩
theorem td_str : TyD K "str" tyS := fun ρ G H μ v x R h e => by
  unfold tyS at e
  cases q : asStr x with
  | none => rw [q] at e; cases e
  | some z =>
    rw [asStr_ok h q]
    show "str" = "str"
    rfl
def eBM (c : DV → Mem → Bool) (g : DV → List DV → Mem → Res R) (f : EM) (fa : AM) : EM := fun δ μ => (frzV f δ μ).bind fun x μ1 => if c x μ1 = true then (fa δ μ1).bind fun xs μ2 => g x xs μ2 else .bad
def eBM0 (c : DV → Mem → Bool) (g : DV → List DV → Mem → Res R) (f : EM) : EM := fun δ μ => (frzV f δ μ).bind fun x μ1 => if c x μ1 = true then g x [] μ1 else .bad
theorem snd_bm {T : String} {c : DV → Mem → Bool} {r : V → List V → Hp → VK → Prop} {g : DV → List DV → Mem → Res R} {to : TE} {ta : TA} {f : EM} {fa : AM} (hT : TyD K T c) (hm : MtD K r g) (h : SndE K W to f) (ha : SndA K W ta fa) : SndE K W (tBM K T r to ta) (eBM c g f fa) := fun ρ G H σ δ μ Q R E hp => by
  refine SndG.seq (t := to) h.toV R E hp fun x μ1 G1 H1 v t1 R1 E1 d1 hp1 => ?_
  by_cases hc : c x μ1 = true
  case neg => rw [if_neg hc] at hp1; exact hp1.elim
  rw [if_pos hc] at hp1
  refine ⟨hT ρ G1 H1 μ1 v x R1 d1 hc, ?_⟩
  refine SndG.seq (t := ta) ha R1 E1 (hp1.shiftE t1) fun xs μ2 G2 H2 vs t2 R2 E2 d2 hp2 => ?_
  exact hm W ρ G2 H2 σ μ2 v vs x xs Q R2 (d1.mono t2.exG fun _ _ q => q) d2 (hp2.shiftE t2)
theorem snd_bm0 {T : String} {c : DV → Mem → Bool} {r : V → List V → Hp → VK → Prop} {g : DV → List DV → Mem → Res R} {to : TE} {f : EM} (hT : TyD K T c) (hm : MtD K r g) (h : SndE K W to f) : SndE K W (tBM0 K T r to) (eBM0 c g f) := fun ρ G H σ δ μ Q R E hp => by
  refine SndG.seq (t := to) h.toV R E hp fun x μ1 G1 H1 v t1 R1 E1 d1 hp1 => ?_
  by_cases hc : c x μ1 = true
  case neg => rw [if_neg hc] at hp1; exact hp1.elim
  rw [if_pos hc] at hp1
  exact ⟨hT ρ G1 H1 μ1 v x R1 d1 hc, hm W ρ G1 H1 σ μ1 v [] x [] Q R1 d1 .nil (hp1.shiftE t1)⟩
/-- the list at a place -/
def atPl (μ : Mem) : DV → Option (Nat × List DV)
  | .loc n => match μ[n]? with
    | some (.lst xs) => some (n, xs)
    | _ => none
  | .dat _ => none
theorem atPl_ok {n : Nat} {xs : List DV} (R : Rel K ρ G H μ) (h : DvOk K ρ G v x) (e : atPl μ x = some (n, xs)) : ∃ a vs, v = .ref a ∧ ρ n = some a ∧ H a = some (.lst vs) ∧ DvL K ρ G vs xs ∧ μ[n]? = some (.lst xs) ∧ ∀ x ∈ xs, x.below n := by
  unfold atPl at e
  split at e
  · rename_i m
    split at e
    · rename_i ys q
      cases e
      obtain ⟨a, rfl, hn⟩ := h
      obtain ⟨b, c, vs, h1, h2, h3⟩ := R.pl _ _ q
      rw [hn] at h1; cases h1
      exact ⟨a, vs, rfl, hn, h2, h3, q, b⟩
    · cases e
  · cases e
def belowB (n : Nat) : DV → Bool
  | .dat _ => true
  | .loc m => decide (m < n)
theorem belowB_ok {n : Nat} (h : belowB n x = true) : x.below n := by
  cases x with
  | dat d => trivial
  | loc m => exact (of_decide_eq_true h : m < n)
def dAppend (x : DV) (xs : List DV) (μ : Mem) : Res R := match atPl μ x with
  | none => .bad
  | some (n, ys) => match xs with
    | [y] => if ys.length < sizeLine ∧ belowB n y = true then .ok (.dat .non) (μ.set n (.lst (ys ++ [y]))) else .bad
    | _ => .bad
theorem below_app {n : Nat} {xs ys : List DV} (h1 : ∀ x ∈ xs, x.below n) (h2 : ∀ x ∈ ys, x.below n) : ∀ x ∈ xs ++ ys, x.below n := fun x hx => (List.mem_append.mp hx).elim (h1 x) (h2 x)
theorem md_append : MtD K rAppend dAppend := fun W ρ G H σ μ v vs x xs Q R hx hs hp => by
  unfold dAppend at hp
  cases e : atPl μ x with
  | none => rw [e] at hp; exact hp.elim
  | some q =>
    obtain ⟨n, ys⟩ := q
    rw [e] at hp
    obtain ⟨a, ws, rfl, hn, hH, hd, hm, hb⟩ := atPl_ok R hx e
    match xs, hs, hp with
    | [], _, hp => exact hp.elim
    | _ :: _ :: _, _, hp => exact hp.elim
    | [y], hs, hp =>
      obtain ⟨u, rfl, du⟩ := hs.one
      simp only at hp
      by_cases c : ys.length < sizeLine ∧ belowB n y = true
      · rw [if_pos c] at hp
        obtain ⟨R2, t2⟩ := R.setL hn hm (below_app hb fun x hx => by rw [List.mem_singleton.mp hx]; exact belowB_ok c.2) (hd.append (.cons du .nil))
        exact ⟨a, ws, u, rfl, rfl, hH, by rw [paired_len hd]; exact c.1, hp _ _ _ t2 R2 Rp.non⟩
      · rw [if_neg c] at hp; exact hp.elim
def rExt (K : PySem.W.Frag) : V → List V → Hp → VK → Prop := fun x vs H Q => rExtend x vs H Q ∨ rExtT K x vs H Q
theorem mt_ext {X : Cx} : MtM X "list.extend" (rExt X.K) := fun pins s σ H x xs v us Q I rx rv h => h.elim (mt_extend pins s σ H x xs v us Q I rx rv) (mt_extT pins s σ H x xs v us Q I rx rv)
def dExtend (x : DV) (xs : List DV) (μ : Mem) : Res R := match atPl μ x with
  | none => .bad
  | some (n, ys) => match xs with
    | [y] => match asM μ y with
      | some zs => if ys.length + zs.length ≤ sizeLine ∧ zs.all (belowB n) = true then .ok (.dat .non) (μ.set n (.lst (ys ++ zs))) else .bad
      | none => match asT y with
        | some ds => if ys.length + ds.length ≤ sizeLine then .ok (.dat .non) (μ.set n (.lst (ys ++ ds.map DV.dat))) else .bad
        | none => .bad
    | _ => .bad
theorem md_ext : MtD K (rExt K) dExtend := fun W ρ G H σ μ v vs x xs Q R hx hs hp => by
  unfold dExtend at hp
  cases e : atPl μ x with
  | none => rw [e] at hp; exact hp.elim
  | some q =>
    obtain ⟨n, ys⟩ := q
    rw [e] at hp
    obtain ⟨a, ws, rfl, hn, hH, hd, hm, hb⟩ := atPl_ok R hx e
    match xs, hs, hp with
    | [], _, hp => exact hp.elim
    | _ :: _ :: _, _, hp => exact hp.elim
    | [y], hs, hp =>
      obtain ⟨u, rfl, du⟩ := hs.one
      simp only at hp
      cases e2 : asM μ y with
      | some zs =>
        simp only [e2] at hp
        by_cases c : ys.length + zs.length ≤ sizeLine ∧ zs.all (belowB n) = true
        · rw [if_pos c] at hp
          obtain ⟨b, us, rfl, k2, k3⟩ := asM_ok R du e2
          obtain ⟨R2, t2⟩ := R.setL hn hm (below_app hb fun x hx => belowB_ok (List.all_eq_true.mp c.2 x hx)) (hd.append k3)
          exact .inl ⟨a, b, ws, us, rfl, rfl, hH, k2, by rw [paired_len hd, paired_len k3]; exact c.1, hp _ _ _ t2 R2 Rp.non⟩
        · rw [if_neg c] at hp; exact hp.elim
      | none =>
        simp only [e2] at hp
        cases e3 : asT y with
        | none => rw [e3] at hp; exact hp.elim
        | some ds =>
          simp only [e3] at hp
          by_cases c : ys.length + ds.length ≤ sizeLine
          · rw [if_pos c] at hp
            obtain ⟨b, us, rfl, k2, k3⟩ := asT_ok R du e3
            obtain ⟨R2, t2⟩ := R.setL hn hm (below_app hb fun x hx => by obtain ⟨d, _, rfl⟩ := List.mem_map.mp hx; trivial) (hd.append (k3.dv (ρ := ρ)))
            exact .inr ⟨a, b, ws, us, rfl, rfl, hH, k2, by rw [paired_len hd, k3.length]; exact c, hp _ _ _ t2 R2 Rp.non⟩
          · rw [if_neg c] at hp; exact hp.elim
theorem DvL.erase {vs : List V} {xs : List DV} (h : DvL K ρ G vs xs) (k : Nat) : DvL K ρ G (vs.eraseIdx k) (xs.eraseIdx k) := by
  induction h generalizing k with
  | nil => exact .nil
  | cons a b ih =>
    cases k with
    | zero => exact b
    | succ k => exact .cons a (ih k)
def dPop (x : DV) (xs : List DV) (μ : Mem) : Res R := match atPl μ x with
  | none => .bad
  | some (n, ys) => match xs with
    | [i] => match asI i with
      | some j => if -2 ^ 63 ≤ j ∧ j < 2 ^ 63 then match seqIndex? j ys.length with
          | some k => match ys[k]? with
            | some y => .ok (ofV y) (μ.set n (.lst (ys.eraseIdx k)))
            | none => .bad
          | none => .bad
        else .bad
      | none => .bad
    | _ => .bad
theorem md_popAt : MtD K rPopAt dPop := fun W ρ G H σ μ v vs x xs Q R hx hs hp => by
  unfold dPop at hp
  cases e : atPl μ x with
  | none => rw [e] at hp; exact hp.elim
  | some q =>
    obtain ⟨n, ys⟩ := q
    rw [e] at hp
    obtain ⟨a, ws, rfl, hn, hH, hd, hm, hb⟩ := atPl_ok R hx e
    match xs, hs, hp with
    | [], _, hp => exact hp.elim
    | _ :: _ :: _, _, hp => exact hp.elim
    | [i], hs, hp =>
      obtain ⟨u, rfl, du⟩ := hs.one
      simp only at hp
      cases e2 : asI i with
      | none => rw [e2] at hp; exact hp.elim
      | some j =>
        simp only [e2] at hp
        by_cases c : -2 ^ 63 ≤ j ∧ j < 2 ^ 63
        case neg => rw [if_neg c] at hp; exact hp.elim
        rw [if_pos c] at hp
        cases e3 : seqIndex? j ys.length with
        | none => rw [e3] at hp; exact hp.elim
        | some k =>
          simp only [e3] at hp
          cases e4 : ys[k]? with
          | none => rw [e4] at hp; exact hp.elim
          | some y =>
            rw [e4] at hp
            obtain ⟨z, h1, h2⟩ := DvL.get' hd e4
            obtain ⟨R2, t2⟩ := R.setL hn hm (fun x hx => hb x (List.mem_of_mem_eraseIdx hx)) (hd.erase k)
            rw [asI_ok du e2]
            exact ⟨a, ws, j, k, z, rfl, rfl, hH, c.1, c.2, by rw [paired_len hd]; exact e3, h1, hp _ _ _ t2 R2 (RpR.ofV h2)⟩
def dClear (x : DV) (xs : List DV) (μ : Mem) : Res R := match atPl μ x with
  | none => .bad
  | some (n, _) => match xs with
    | [] => .ok (.dat .non) (μ.set n (.lst []))
    | _ => .bad
theorem md_clear : MtD K rClear dClear := fun W ρ G H σ μ v vs x xs Q R hx hs hp => by
  unfold dClear at hp
  cases e : atPl μ x with
  | none => rw [e] at hp; exact hp.elim
  | some q =>
    obtain ⟨n, ys⟩ := q
    rw [e] at hp
    obtain ⟨a, ws, rfl, hn, hH, hd, hm, hb⟩ := atPl_ok R hx e
    match xs, hs, hp with
    | _ :: _, _, hp => exact hp.elim
    | [], hs, hp =>
      cases hs
      obtain ⟨R2, t2⟩ := R.setL hn hm (xs' := []) (vs' := []) (fun x hx => nomatch hx) .nil
      exact ⟨a, ws, rfl, rfl, hH, hp _ _ _ t2 R2 Rp.non⟩
def dInsert (x : DV) (xs : List DV) (μ : Mem) : Res R := match atPl μ x with
  | none => .bad
  | some (n, ys) => match xs with
    | [i, y] => match asI i with
      | some j => if ys.length < sizeLine ∧ 0 ≤ j ∧ j < 2 ^ 63 ∧ belowB n y = true then .ok (.dat .non) (μ.set n (.lst (ys.take j.toNat ++ [y] ++ ys.drop j.toNat))) else .bad
      | none => .bad
    | _ => .bad
theorem md_insert : MtD K (fun x vs H Q => ∃ (l : Addr) (xs : List V) (i : Int) (y : V), x = V.ref l ∧ vs = [V.int i, y] ∧ H l = some (HO.lst xs) ∧ xs.length < sizeLine ∧ 0 ≤ i ∧ i < 2 ^ 63 ∧ Q V.non (upd H l (HO.lst (xs.take i.toNat ++ [y] ++ xs.drop i.toNat)))) dInsert := fun W ρ G H σ μ v vs x xs Q R hx hs hp => by
  unfold dInsert at hp
  cases e : atPl μ x with
  | none => rw [e] at hp; exact hp.elim
  | some q =>
    obtain ⟨n, ys⟩ := q
    rw [e] at hp
    obtain ⟨a, ws, rfl, hn, hH, hd, hm, hb⟩ := atPl_ok R hx e
    match xs, hs, hp with
    | [], _, hp => exact hp.elim
    | [_], _, hp => exact hp.elim
    | _ :: _ :: _ :: _, _, hp => exact hp.elim
    | [i, y], hs, hp =>
      obtain ⟨u, z, rfl, du, dz⟩ := hs.two
      simp only at hp
      cases e2 : asI i with
      | none => rw [e2] at hp; exact hp.elim
      | some j =>
        simp only [e2] at hp
        by_cases c : ys.length < sizeLine ∧ 0 ≤ j ∧ j < 2 ^ 63 ∧ belowB n y = true
        case neg => rw [if_neg c] at hp; exact hp.elim
        rw [if_pos c] at hp
        obtain ⟨R2, t2⟩ := R.setL hn hm (below_app (below_app (fun x hx => hb x (List.mem_of_mem_take hx)) fun x hx => by rw [List.mem_singleton.mp hx]; exact belowB_ok c.2.2.2) fun x hx => hb x (List.mem_of_mem_drop hx)) (((hd.take j.toNat).append (.cons dz .nil)).append (hd.drop j.toNat))
        rw [asI_ok du e2]
        exact ⟨a, ws, j, z, rfl, rfl, hH, by rw [paired_len hd]; exact c.1, c.2.1, c.2.2.1, hp _ _ _ t2 R2 Rp.non⟩
def dSplit (x : DV) (xs : List DV) (μ : Mem) : Res R := match asStr x with
  | none => .bad
  | some a => match xs with
    | [y] => match asStr y with
      | some b => if (b.length == 0) = false ∧ a.length + 2 ≤ sizeLine then .ok (.nl ((Txt.split a b).map fun s => .dat (.str s))) μ else .bad
      | none => .bad
    | _ => .bad
theorem dvl_strs : ∀ (l : List Str), DvL K ρ G (l.map V.str) (l.map fun s => .dat (.str s))
  | [] => .nil
  | s :: l => .cons (Rp.str s) (dvl_strs l)
theorem md_split : MtD K (fun x xs H Q => ∃ a b, x = V.str a ∧ xs = [V.str b] ∧ (b.length == 0) = false ∧ a.length + 2 ≤ sizeLine ∧ rNewStrs (Txt.split a b) H Q) dSplit := fun W ρ G H σ μ v vs x xs Q R hx hs hp => by
  unfold dSplit at hp
  cases e : asStr x with
  | none => rw [e] at hp; exact hp.elim
  | some a =>
    rw [e] at hp
    match xs, hs, hp with
    | [], _, hp => exact hp.elim
    | _ :: _ :: _, _, hp => exact hp.elim
    | [y], hs, hp =>
      obtain ⟨u, rfl, du⟩ := hs.one
      simp only at hp
      cases e2 : asStr y with
      | none => rw [e2] at hp; exact hp.elim
      | some b =>
        simp only [e2] at hp
        by_cases c : (b.length == 0) = false ∧ a.length + 2 ≤ sizeLine
        case neg => rw [if_neg c] at hp; exact hp.elim
        rw [if_pos c] at hp
        rw [asStr_ok du e2, asStr_ok hx e]
        exact ⟨a, b, rfl, rfl, c.1, c.2, fun p hn => new_list R (Tr.refl _ _ _) hn (dvl_strs _) hp⟩
end
section
variable {X : Cx} {W : WX} {o e : Expr} {es : List Expr} {to : TE} {ta : TA} {name : Str} {apos cpos : Pos} {T id : String} {r : V → List V → Hp → VK → Prop} {c : DV → Mem → Bool} {g : DV → List DV → Mem → Res R} {f : EM} {fa : AM}
theorem pm_bm (hp : PlainAttrs T) (hsl : Slot T name id) (hty : typeOf (Value.builtin id) = pure (Value.type "method_descriptor")) (hm : MtR X id r) (hT : TyD X.K T c) (hd : MtD X.K r g) (ho : PM X W o to f) (ha : PMA X W (e :: es) ta fa)
    (h1 : attributeBase o name X.env (eval o X.env) = eval o X.env := by rfl)
    (h2 : (((((backTo cpos (starEach (e :: es) X.env)).all fun x => !x.fst) && (backToKw cpos (keywordEach [] X.env)).all fun x => x.fst.isSome) && decide (((e :: es).length + ([] : List Keyword).length + if ([] : List Keyword).isEmpty = true then 0 else 1) < 30)) = true) := by rfl)
    (h3 : (apos.endLine == cpos.line) = true := by rfl) (h4 : starEach (e :: es) X.env = (false, eval e X.env) :: starEach es X.env := by rfl) (h5 : ((backTo cpos (starEach es X.env)).any fun x => x.fst) = false := by rfl) :
    PM X W ((o.Attribute name apos).Call (e :: es) [] cpos) (tBM X.K T r to ta) (eBM c g f fa) := ⟨pe_bm hp hsl hty hm ho.pe ha.pe h1 h2 h3 h4 h5, snd_bm hT hd ho.sd ha.sd⟩
theorem pm_bm0 (hp : PlainAttrs T) (hsl : Slot T name id) (hty : typeOf (Value.builtin id) = pure (Value.type "method_descriptor")) (hm : MtR X id r) (hT : TyD X.K T c) (hd : MtD X.K r g) (ho : PM X W o to f)
    (h1 : attributeBase o name X.env (eval o X.env) = eval o X.env := by rfl) (h3 : (apos.endLine == cpos.line) = true := by rfl) :
    PM X W ((o.Attribute name apos).Call [] [] cpos) (tBM0 X.K T r to) (eBM0 c g f) := ⟨pe_bm0 hp hsl hty hm ho.pe h1 h3, snd_bm0 hT hd ho.sd⟩
end
end DL
namespace DL
open PySem PySem.Spec PyProof.Rows L2
/-! ### x[i] = e, x[i] += e -/
def rGetL (K : PySem.W.Frag) : V → V → Hp → VK → Prop := fun o i H Q => ∃ p xs k v, o = .ref p ∧ i = .int k ∧ SqL K H p xs ∧ 0 ≤ k ∧ k < 2 ^ 63 ∧ xs[k.toNat]? = some v ∧ Q v H
theorem pget_list {X : Cx} : PGet X (rGetL X.K) := by
  intro pins s σ H o i ov iv Q I ro ri h
  obtain ⟨p, xs, k, v, rfl, rfl, hq, h0, h1, hx, q⟩ := h
  cases ro
  obtain ⟨t, rfl⟩ := ri
  obtain ⟨its, rv, pl, hz⟩ := I.list hq
  obtain ⟨u, hu, ru⟩ := rv.get hx
  exact wpAny_getItem_list pl.isList h0 h1 (by simpa using hu) ⟨v, H, I, ru, q⟩
section
variable {K : PySem.W.Frag} {W : WX} {N M : Nat} {ρ : Pm} {G H : Hp} {σ : Slots} {δ : Env} {μ : Mem} {Q : VK} {v w : V} {x y : DV}
theorem DvL.set {vs : List V} {xs : List DV} (h : DvL K ρ G vs xs) (k : Nat) (d : DvOk K ρ G v x) : DvL K ρ G (vs.set k v) (xs.set k x) := by
  induction h generalizing k with
  | nil => exact .nil
  | cons a b ih =>
    cases k with
    | zero => exact .cons d b
    | succ k => exact .cons a (ih k)
/-- the place's list with another item -/
def setPl (μ : Mem) (x i y : DV) : Option Mem := match atPl μ x with
  | none => none
  | some (n, ys) => match asI i with
    | none => none
    | some k => match ixN ys.length k with
      | some j => if belowB n y = true then some (μ.set n (.lst (ys.set j y))) else none
      | none => none
theorem setPl_ok {i : DV} {vi : V} {μ' : Mem} {Qh : Hp → Prop} (R : Rel K ρ G H μ) (hx : DvOk K ρ G v x) (hi : DvOk K ρ G vi i) (hy : DvOk K ρ G w y) (e : setPl μ x i y = some μ')
    (go : ∀ H', Tr ρ G H G H' → Rel K ρ G H' μ' → Qh H') : rSetL v vi w H Qh := by
  unfold setPl at e
  cases e1 : atPl μ x with
  | none => rw [e1] at e; cases e
  | some q =>
    obtain ⟨n, ys⟩ := q
    simp only [e1] at e
    obtain ⟨a, ws, rfl, hn, hH, hd, hm, hb⟩ := atPl_ok R hx e1
    cases e2 : asI i with
    | none => rw [e2] at e; cases e
    | some k =>
      simp only [e2] at e
      cases e3 : ixN ys.length k with
      | none => rw [e3] at e; cases e
      | some j =>
        simp only [e3] at e
        by_cases c : belowB n y = true
        · rw [if_pos c] at e; cases e
          obtain ⟨R2, t2⟩ := R.setL hn hm (fun x hx => (List.mem_or_eq_of_mem_set hx).elim (hb x) fun z => by rw [z]; exact belowB_ok c) (hd.set j hy)
          exact ⟨a, ws, k, j, rfl, asI_ok hi e2, hH, by rw [paired_len hd]; exact e3, go _ t2 R2⟩
        · rw [if_neg c] at e; cases e
def gSet (fo fi fe : EM) : SM := fun _ δ μ => lift ((frzV fe δ μ).bind fun y μ1 => (frzV fo δ μ1).bind fun x μ2 => (frzV fi δ μ2).bind fun i μ3 => match setPl μ3 x i y with
  | some μ4 => .ok () μ4
  | none => .bad) δ fun _ μ4 => .next δ μ4
/-- an expression, then more of the same statement -/
theorem SndG.stm2 {α β γ : Type} {t : Slots → Hp → (β → Hp → Prop) → Prop} {f : Env → Mem → Res α} {rp : Pm → Hp → Hp → Hp → β → α → Prop} {Dn : Ends}
    (h : SndG K W t f rp) (R : Rel K ρ G H μ) (E : EnvOk K ρ G σ δ) {k : α → Mem → Res γ} {kk : γ → Mem → Out}
    (hp : PostS K W N ρ G H Dn (lift ((f δ μ).bind k) δ kk)) {Q : β → Hp → Prop}
    (go : ∀ r μ' G' H' v, Tr ρ G H G' H' → Rel K ρ G' H' μ' → EnvOk K ρ G' σ δ → rp ρ G' H H' v r → PostS K W N ρ G' H' Dn (lift (k r μ') δ kk) → Q v H') : t σ H Q := by
  refine h ρ G H σ δ μ Q R E ?_
  cases e : f δ μ with
  | ok r μ' => rw [e] at hp; exact fun G' H' v t' R' q => go r μ' G' H' v t' R' (E.mono t'.exG) q (PostS.shift t'.toS hp)
  | exc x μ' => rw [e] at hp; exact fun G' H' cls d t' R' q => hp ρ G' H' σ cls d t'.toS R' (E.mono t'.exG) q
  | bad => rw [e] at hp; exact hp
theorem snd_set {to ti te : TE} {fo fi fe : EM} (ho : SndE K W to fo) (hi : SndE K W ti fi) (he : SndE K W te fe) : SndS K W (tAsg te (gSub to ti rSetL)) (gSet fo fi fe) := fun N ρ G H σ δ μ Dn R E hp => by
  refine SndG.stm2 (t := te) he.toV R E hp fun y μ1 G1 H1 w t1 R1 E1 d1 hp1 => ?_
  refine SndG.stm2 (t := to) ho.toV R1 E1 hp1 fun x μ2 G2 H2 v t2 R2 E2 d2 hp2 => ?_
  refine SndG.stm2 (t := ti) hi.toV R2 E2 hp2 fun i μ3 G3 H3 vi t3 R3 E3 d3 hp3 => ?_
  cases e : setPl μ3 x i y with
  | none => rw [e] at hp3; exact hp3.elim
  | some μ4 =>
    rw [e] at hp3
    exact setPl_ok R3 (d2.mono t3.exG fun _ _ q => q) d3 (d1.mono (t2.exG.trans t3.exG) fun _ _ q => q) e fun H' t4 R4 => hp3 ρ G3 H' σ t4.toS R4 E3
def getPl (μ : Mem) (x i : DV) : Option Int := match asL μ x with
  | none => none
  | some xs => match asI i with
    | none => none
    | some k => if 0 ≤ k ∧ k < 2 ^ 63 then match xs[k.toNat]? with
        | some y => asI y
        | none => none
      else none
def gAugS (op : Int → Int → Int) (fo fi fe : EM) : SM := fun _ δ μ => lift ((frzV fo δ μ).bind fun x μ1 => (frzV fi δ μ1).bind fun i μ2 => match getPl μ2 x i with
  | none => .bad
  | some a => (frzV fe δ μ2).bind fun y μ3 => match asI y with
    | none => .bad
    | some b => match setPl μ3 x i (.dat (.int (op a b))) with
      | some μ4 => .ok () μ4
      | none => .bad) δ fun _ μ4 => .next δ μ4
theorem snd_augS {to ti te : TE} {fo fi fe : EM} {op : Int → Int → Int} (ho : SndE K W to fo) (hi : SndE K W ti fi) (he : SndE K W te fe) : SndS K W (tAugS to ti te (rGetL K) (ipI op) rSetL) (gAugS op fo fi fe) := fun N ρ G H σ δ μ Dn R E hp => by
  refine SndG.stm2 (t := to) ho.toV R E hp fun x μ1 G1 H1 v t1 R1 E1 d1 hp1 => ?_
  refine SndG.stm2 (t := ti) hi.toV R1 E1 hp1 fun i μ2 G2 H2 vi t2 R2 E2 d2 hp2 => ?_
  cases eg : getPl μ2 x i with
  | none => rw [eg] at hp2; exact hp2.elim
  | some a =>
    simp only [eg] at hp2
    have d1' := d1.mono t2.exG fun _ _ q => q
    unfold getPl at eg
    cases e1 : asL μ2 x with
    | none => rw [e1] at eg; cases eg
    | some xs =>
      simp only [e1] at eg
      cases e2 : asI i with
      | none => rw [e2] at eg; cases eg
      | some k =>
        simp only [e2] at eg
        by_cases c : 0 ≤ k ∧ k < 2 ^ 63
        case neg => rw [if_neg c] at eg; cases eg
        rw [if_pos c] at eg
        cases e3 : xs[k.toNat]? with
        | none => rw [e3] at eg; cases eg
        | some z =>
          simp only [e3] at eg
          obtain ⟨p, vs, rfl, hq, hd⟩ := asL_ok R2 d1' e1
          obtain ⟨u, h1, h2⟩ := DvL.get' hd e3
          refine ⟨p, vs, k, u, rfl, asI_ok d2 e2, hq, c.1, c.2, h1, ?_⟩
          rw [asI_ok h2 eg]
          refine SndG.stm2 (t := te) he.toV R2 E2 hp2 fun y μ3 G3 H3 w t3 R3 E3 d3 hp3 => ?_
          cases e4 : asI y with
          | none => rw [e4] at hp3; exact hp3.elim
          | some b =>
            simp only [e4] at hp3
            refine ⟨a, b, rfl, asI_ok d3 e4, ?_⟩
            cases e5 : setPl μ3 x i (.dat (.int (op a b))) with
            | none => rw [e5] at hp3; exact hp3.elim
            | some μ4 =>
              rw [e5] at hp3
              exact setPl_ok R3 (d1'.mono t3.exG fun _ _ q => q) (d2.mono t3.exG fun _ _ q => q) (y := .dat (.int (op a b))) (Rp.int _) e5 fun H' t4 R4 => hp3 ρ G3 H' σ t4.toS R4 E3
/-- a += b of ints -/
def gAug (i : Nat) (op : Int → Int → Int) (fe : EM) : SM := fun _ δ μ => match δ[i]? with
  | some (some x) => match asI x with
    | some a => lift (frzV fe δ μ) δ fun y μ' => match asI y with
      | some b => .next (δ.set i (some (.dat (.int (op a b))))) μ'
      | none => .bad
    | none => .bad
  | _ => .bad
theorem snd_aug {te : TE} {fe : EM} {op : Int → Int → Int} (i : Nat) (he : SndE K W te fe) : SndS K W (tAug i te (ipI op)) (gAug i op fe) := fun N ρ G H σ δ μ Dn R E hp => by
  unfold gAug at hp
  split at hp
  · rename_i x e
    obtain ⟨v, hv, d⟩ := E.at_ i x e
    split at hp
    · rename_i a ea
      refine ⟨v, hv, ?_⟩
      rw [asI_ok d ea]
      refine SndG.stm (t := te) he.toV R E hp fun y μ' G' H' w t' R' E' d' hp' => ?_
      cases eb : asI y with
      | none => rw [eb] at hp'; exact hp'.elim
      | some b =>
        rw [eb] at hp'
        exact ⟨a, b, rfl, asI_ok d' eb, hp' ρ G' H' _ t'.toS R' (E'.set i (x := .dat (.int (op a b))) (Rp.int _))⟩
    · exact hp.elim
  · exact hp.elim
/-! ### two at once -/
def gPar (i j : Nat) (fa : AM) : SM := fun _ δ μ => lift (fa δ μ) δ fun xs μ' => match xs with
  | [x, y] => .next ((δ.set i (some x)).set j (some y)) μ'
  | _ => .bad
theorem snd_par {ta : TA} {fa : AM} (i j : Nat) (ha : SndA K W ta fa) : SndS K W (tPar i j ta) (gPar i j fa) := fun N ρ G H σ δ μ Dn R E hp => by
  refine SndG.stm (t := ta) ha R E hp fun xs μ' G' H' vs t' R' E' d hp' => ?_
  match xs, d, hp' with
  | [], _, hp' => exact hp'.elim
  | [_], _, hp' => exact hp'.elim
  | _ :: _ :: _ :: _, _, hp' => exact hp'.elim
  | [x, y], d, hp' =>
    obtain ⟨v, w, rfl, dx, dy⟩ := d.two
    exact ⟨v, w, rfl, hp' ρ G' H' _ t'.toS R' ((E'.set i dx).set j dy)⟩
/-- .. both new places -/
def gPar2 (i j : Nat) (f g : EM) : SM := fun N δ μ => lift (f δ μ) δ fun r μ1 => match bindR N i r δ μ1 with
  | .next δ1 μ2 => lift (g δ μ2) δ fun r2 μ3 => bindR N j r2 δ1 μ3
  | _ => .bad
end
section
variable {X : Cx} {W : WX} {pos p tpos px py pt pt2 : Pos} {e o i a b : Expr} {te to ti : TE} {f fo fi : EM} {ta : TA} {fa : AM}
theorem sm_set (ho : PM X W o to fo) (hi : PM X W i ti fi) (he : PM X W e te f)
    (hs : ∀ (v : Value), assign (o.Subscript i p) X.env v = (do
                let ov ← holding [v] (eval o X.env)
                let iv ← holding [v, ov] (eval i X.env)
                standAt p
                holding [v, ov, iv] (setItem ov iv v)
                release [v, ov, iv] []) := by intro _; rfl)
    (a1 : swapsWithSole [o.Subscript i p] e pos.line X.env = pure false := by rfl) (a2 : swappedStores [o.Subscript i p] e X.env = pure none := by rfl) (a3 : List.map (fun x => x.snd) (assignEach [o.Subscript i p] X.env) = [assign (o.Subscript i p) X.env] := by rfl) :
    PSM X W (.Assign [o.Subscript i p] e pos) (tAsg te (gSub to ti rSetL)) (gSet fo fi f) := ⟨ps_asg he.pe (pg_sub ho.pe hi.pe set_list hs) a1 a2 a3, snd_set ho.sd hi.sd he.sd⟩
theorem sm_augS (ho : PM X W o to fo) (hi : PM X W i ti fi) (he : PM X W e te f)
    (hs : ∀ (ov iv new : Value), augStore i ov iv new = (do
                      holding [new, ov, iv] (setItem ov iv new)
                      release [new, ov, iv] []
                      pure Flow.next) := by intro _ _ _; rfl) :
    PSM X W (.AugAssign (o.Subscript i tpos) .Add e pos) (tAugS to ti te (rGetL X.K) (ipI fun i j => i + j) rSetL) (gAugS (fun i j => i + j) fo fi f) := ⟨ps_augS ho.pe hi.pe pget_list he.pe ip_add set_list hs, snd_augS ho.sd hi.sd he.sd⟩
theorem sm_aug {x : Str} (j : Nat) (hN : X.N.Nodup) (he : PM X W e te f) (hi : X.N[j]? = some x := by rfl) (hx : Loc X.env.scope x := by first | exact Or.inl rfl | exact Or.inr rfl)
    (hf : X.fn x = true ∨ X.env.scope.names.lookup x = some .local := by first | exact .inl rfl | exact .inr rfl) :
    PSM X W (.AugAssign (.Name x p) .Add e pos) (tAug j te (ipI fun i j => i + j)) (gAug j (fun i j => i + j) f) := ⟨ps_aug hN hi hx he.pe ip_add hf, snd_aug j he.sd⟩
theorem sm_par {x y : Str} {kt k2 : Nat} (n m : Nat) (hc : X.calm = true) (hN : X.N.Nodup) (ha : PMA X W [a, b] ta fa) (hi : X.N[n]? = some x := by rfl) (hj : X.N[m]? = some y := by rfl) (hne : n ≠ m := by decide)
    (hx : X.env.scope.names.lookup x = some .local := by rfl) (hy : X.env.scope.names.lookup y = some .local := by rfl)
    (hs : swappedStores [Expr.Tuple [Expr.Name x px, Expr.Name y py] kt pt] (Expr.Tuple [a, b] k2 pt2) X.env = pure (some [x, y]) := by rfl)
    (hs2 : swapsWithSole [Expr.Tuple [Expr.Name x px, Expr.Name y py] kt pt] (Expr.Tuple [a, b] k2 pt2) pos.line X.env = pure false := by rfl) :
    PSM X W (.Assign [Expr.Tuple [Expr.Name x px, Expr.Name y py] kt pt] (Expr.Tuple [a, b] k2 pt2) pos) (tPar n m ta) (gPar n m fa) := ⟨ps_par hc hN hi hj hne hx hy ha.pe hs hs2, snd_par n m ha.sd⟩
theorem pm_cb {x : Str} {es : List Expr} {id : String} {r : List V → Hp → VK → Prop} {g : List DV → Mem → Res R} (hr : CallR X (.builtin id) r) (hd : CallD X.K r g) (hg : Gl X x) (hm : X.mg x = none) (hv : bootBuiltins x = some (.builtin id)) (ha : PMA X W (e :: es) ta fa)
    (hn : x ≠ "__name__" := by decide) (hdb : (x == ("__debug__" : Str)) = false := by decide) (he : starEach (e :: es) X.env = (false, eval e X.env) :: starEach es X.env := by rfl) (hpl : (backTo pos (starEach es X.env)).any (·.1) = false := by rfl) :
    PM X W (.Call (.Name x p) (e :: es) [] pos) (tCB r ta) (eCB g fa) := ⟨pe_callB hr hg hm hv ha.pe hn hdb he hpl, snd_cb hd ha.sd⟩
end
end DL
namespace DL
open PySem PySem.Spec PyProof.Rows L2
section
variable {K : PySem.W.Frag} {W : WX} {N M : Nat} {ρ : Pm} {G H : Hp} {σ : Slots} {δ : Env} {μ : Mem} {Q : VK} {v w : V} {x y : DV}
theorem bindR_ok {r : R} {i : Nat} {G0 H0 : Hp} {δ1 : Env} {μ2 : Mem} (R' : Rel K ρ G H μ) (t' : TrS N ρ G0 H0 ρ G H) (d : RpR K ρ G H0 H v r) (e : bindR N i r δ μ = .next δ1 μ2) :
    ∃ ρ1 x, TrS N ρ G0 H0 ρ1 G H ∧ Rel K ρ1 G H μ2 ∧ (∀ n b, ρ n = some b → ρ1 n = some b) ∧ DvOk K ρ1 G v x ∧ δ1 = δ.set i (some x) := by
  cases r with
  | dat d' => cases e; exact ⟨ρ, .dat d', t', R', fun _ _ q => q, d, rfl⟩
  | loc n => cases e; exact ⟨ρ, .loc n, t', R', fun _ _ q => q, d, rfl⟩
  | nl xs =>
    obtain ⟨a, vs, rfl, h2, h3, h4, h5, h6⟩ := d
    have up : ∀ n b, ρ n = some b → addP ρ μ.length a n = some b := fun n b q => by
      unfold addP; rw [if_neg (Nat.ne_of_lt (R'.lt n b q))]; exact q
    unfold bindR at e
    by_cases hN : N ≤ μ.length
    case neg => simp only [if_neg hN] at e; cases e
    simp only [if_pos hN] at e
    cases e
    obtain ⟨R2, t2, up, at_⟩ := R'.alloc (p := .lst xs) hN t' (by rw [h2]; simp) h4 h5 h6 ⟨DvL.below R' h3, a, vs, by unfold addP; rw [if_pos rfl], h2, DvL.mono (Ex.refl _) up h3⟩
    exact ⟨_, .loc μ.length, t2, R2, up, ⟨a, rfl, at_⟩, rfl⟩
  | nk kvs =>
    obtain ⟨a, vs, rfl, h2, hk, h3, h4, h5, h6⟩ := d
    have up : ∀ n b, ρ n = some b → addP ρ μ.length a n = some b := fun n b q => by
      unfold addP; rw [if_neg (Nat.ne_of_lt (R'.lt n b q))]; exact q
    have bl : ∀ p ∈ kvs, p.2.below μ.length := fun p hp => DvL.below R' h3 p.2 (List.mem_map.mpr ⟨p, hp, rfl⟩)
    unfold bindR at e
    by_cases hN : N ≤ μ.length
    case neg => simp only [if_neg hN] at e; cases e
    simp only [if_pos hN] at e
    cases e
    obtain ⟨R2, t2, up, at_⟩ := R'.alloc (p := .dct kvs) hN t' (by rw [h2]; simp) h4 h5 h6 ⟨bl, a, vs, by unfold addP; rw [if_pos rfl], h2, hk, DvL.mono (Ex.refl _) up h3⟩
    exact ⟨_, .loc μ.length, t2, R2, up, ⟨a, rfl, at_⟩, rfl⟩
theorem bindR_next {r : R} {i : Nat} : (∃ δ1 μ2, bindR N i r δ μ = .next δ1 μ2) ∨ bindR N i r δ μ = .bad := by
  cases r with
  | dat d => exact .inl ⟨_, _, rfl⟩
  | loc d => exact .inl ⟨_, _, rfl⟩
  | nl xs =>
    by_cases h : N ≤ μ.length
    · exact .inl ⟨_, _, if_pos h⟩
    · exact .inr (if_neg h)
  | nk xs =>
    by_cases h : N ≤ μ.length
    · exact .inl ⟨_, _, if_pos h⟩
    · exact .inr (if_neg h)
theorem snd_par2 {t u : TE} {f g : EM} (i j : Nat) (h1 : SndE K W t f) (h2 : SndE K W u g) : SndS K W (tPar i j (tCons t (tCons u tNil))) (gPar2 i j f g) := fun N ρ G H σ δ μ Dn R E hp => by
  refine SndG.stm (t := t) h1 R E hp fun r μ1 G1 H1 v t1 R1 E1 d1 hp1 => ?_
  rcases bindR_next (N := N) (r := r) (i := i) (δ := δ) (μ := μ1) with ⟨δ1, μ2, e⟩ | e
  case inr => rw [e] at hp1; exact hp1.elim
  rw [e] at hp1
  obtain ⟨ρ1, x, T1, R2, up, dx, rfl⟩ := bindR_ok R1 (t1.toS (N := N)) d1 e
  have E2 : EnvOk K ρ1 G1 σ δ := E1.up (Ex.refl _) up
  refine SndG.stm (t := u) h2 R2 E2 (PostS.shift T1 hp1) fun r2 μ3 G3 H3 w t3 R3 E3 d3 hp3 => ?_
  refine ⟨v, w, rfl, ?_⟩
  exact snd_bindR (σ := σ.set i (some v)) j R3 (E3.set i (dx.mono t3.exG fun _ _ q => q)) t3.toS d3 hp3
/-! ### chains -/
def eChain (g g' : DV → DV → Mem → Res R) (fa fb fc : EM) : EM := fun δ μ => (frzV fa δ μ).bind fun x μ1 => (frzV fb δ μ1).bind fun y μ2 => (g x y μ2).bind fun r μ3 => match asB r with
  | some true => (frzV fc δ μ3).bind fun z μ4 => g' y z μ4
  | some false => .ok (.dat (.bl false)) μ3
  | none => .bad
theorem snd_chain {r r' : R2} {g g' : DV → DV → Mem → Res R} {ta tb tc : TE} {fa fb fc : EM} (ho : OpD K r g) (ho' : OpD K r' g') (ha : SndE K W ta fa) (hb : SndE K W tb fb) (hc : SndE K W tc fc) : SndE K W (tChain r r' ta tb tc) (eChain g g' fa fb fc) := fun ρ G H σ δ μ Q R E hp => by
  refine SndG.seq (t := ta) ha.toV R E hp fun x μ1 G1 H1 v t1 R1 E1 d1 hp1 => ?_
  refine SndG.seq (t := tb) hb.toV R1 E1 (hp1.shiftE t1) fun y μ2 G2 H2 w t2 R2 E2 d2 hp2 => ?_
  have hp2 := hp2.shiftE t2
  refine ho W ρ G2 H2 σ μ2 v w x y _ R2 (d1.mono t2.exG fun _ _ q => q) d2 ?_
  cases e : g x y μ2 with
  | exc z μ' => rw [e] at hp2; exact hp2
  | bad => rw [e] at hp2; exact hp2
  | ok r0 μ3 =>
    rw [e] at hp2
    intro G3 H3 u t3 R3 d3
    simp only [Res.bind_ok] at hp2
    cases eb : asB r0 with
    | none => rw [eb] at hp2; exact hp2.elim
    | some b =>
      rw [eb] at hp2
      refine ⟨b, asB_ok d3 eb, ?_⟩
      cases b with
      | false => exact hp2 G3 H3 _ t3 R3 (Rp.bl false)
      | true =>
        refine SndG.seq (t := tc) hc.toV R3 (E2.mono t3.exG) (hp2.shiftE t3) fun z μ4 G4 H4 zv t4 R4 E4 d4 hp4 => ?_
        exact ho' W ρ G4 H4 σ μ4 w zv y z Q R4 (d2.mono (t3.exG.trans t4.exG) fun _ _ q => q) d4 (hp4.shiftE t4)
end
section
variable {X : Cx} {W : WX} {pos p tpos px py pt pt2 spos : Pos} {e o i a b c : Expr} {te to ti ta tb tc : TE} {f fo fi fa fb fc : EM} {tA : TA} {fA : AM}
theorem sm_par2 {x y : Str} {kt k2 : Nat} (n m : Nat) (hc : X.calm = true) (hN : X.N.Nodup) (ha : PM X W a ta fa) (hb : PM X W b tb fb) (hi : X.N[n]? = some x := by rfl) (hj : X.N[m]? = some y := by rfl) (hne : n ≠ m := by decide)
    (hx : X.env.scope.names.lookup x = some .local := by rfl) (hy : X.env.scope.names.lookup y = some .local := by rfl)
    (hs : swappedStores [Expr.Tuple [Expr.Name x px, Expr.Name y py] kt pt] (Expr.Tuple [a, b] k2 pt2) X.env = pure (some [x, y]) := by rfl)
    (hs2 : swapsWithSole [Expr.Tuple [Expr.Name x px, Expr.Name y py] kt pt] (Expr.Tuple [a, b] k2 pt2) pos.line X.env = pure false := by rfl)
    (h1 : starEach [a, b] X.env = (false, eval a X.env) :: starEach [b] X.env := by rfl) (h2 : starEach [b] X.env = (false, eval b X.env) :: starEach [] X.env := by rfl) :
    PSM X W (.Assign [Expr.Tuple [Expr.Name x px, Expr.Name y py] kt pt] (Expr.Tuple [a, b] k2 pt2) pos) (tPar n m (tCons ta (tCons tb tNil))) (gPar2 n m fa fb) := ⟨ps_par hc hN hi hj hne hx hy (pa_cons ha.pe (pa_cons hb.pe pa_nil h2) h1) hs hs2, snd_par2 n m ha.sd hb.sd⟩
theorem pm_ct {x : Str} {es : List Expr} {T : String} {r : List V → Hp → VK → Prop} {g : List DV → Mem → Res R} (hr : CallR X (.type T) r) (hd : CallD X.K r g) (hg : Gl X x) (hm : X.mg x = none) (hv : bootBuiltins x = some (.type T)) (ha : PMA X W (e :: es) tA fA)
    (hn : x ≠ "__name__" := by decide) (hdb : (x == ("__debug__" : Str)) = false := by decide) (he : starEach (e :: es) X.env = (false, eval e X.env) :: starEach es X.env := by rfl) (hpl : (backTo pos (starEach es X.env)).any (·.1) = false := by rfl) :
    PM X W (.Call (.Name x p) (e :: es) [] pos) (tCB r tA) (eCB g fA) := ⟨pe_callTy hr hg hm hv ha.pe hn hdb he hpl, snd_cb hd ha.sd⟩
theorem pm_chain {op op' : CmpOp} {r r' : R2} {g g' : DV → DV → Mem → Res R} (ho : OpR X (compareOp op) r) (hd : OpD X.K r g) (ho' : OpR X (compareOp op') r') (hd' : OpD X.K r' g') (ha : PM X W a ta fa) (hb : PM X W b tb fb) (hc : PM X W c tc fc) (hm : lastMarks [op, op'] [b, c] = false := by rfl) :
    PM X W (.Compare a [op, op'] [b, c] pos) (tChain r r' ta tb tc) (eChain g g' fa fb fc) := ⟨pe_chain ho ho' ha.pe hb.pe hc.pe hm, snd_chain hd hd' ha.sd hb.sd hc.sd⟩
theorem pt_chain {op op' : CmpOp} {r r' : R2} {g g' : DV → DV → Mem → Res R} (ho : OpR X (compareOp op) r) (hd : OpD X.K r g) (ho' : OpR X (compareOp op') r') (hd' : OpD X.K r' g') (ha : PM X W a ta fa) (hb : PM X W b tb fb) (hc : PM X W c tc fc) (hm : lastMarks [op, op'] [b, c] = false := by rfl) :
    PMT X W (.Compare a [op, op'] [b, c] pos) (tTest (tChain r r' ta tb tc)) (tmB (eChain g g' fa fb fc)) := ⟨L2.pt_chain ho ho' ha.pe hb.pe hc.pe hm, snd_tmB (snd_chain hd hd' ha.sd hb.sd hc.sd) fun _ _ _ h => h⟩
/-- name = [.. for ..] on one line -/
theorem sm_lc (fresh : Bool) {j : Nat} {y : Str} {elt tg iter : Expr} {ifs : List Expr} {scope : Scope} {own : List (Str × Nat)} {wi : TI} {fI : IM} {g : TG} {h : D → Env → Option Env} {tv : List Nat} {tt : TT} {ft : TM} {fe : EM} (hc : X.calm = true) (hN : X.N.Nodup) (hy : X.N[j]? = some y) (hyl : X.env.scope.names.lookup y = some .local)
    (hsw : swapsWith (.ListComp elt [⟨tg, iter, ifs, 0⟩] scope pos) (some (.Name y py)) spos.line X.env = pure true)
    (hi : PMI X W tg iter wi fI) (ok : BlkOk X.N X.env.scope scope own)
    (hg : ∀ (s : Shared) (H : Hp) (C : Addr) (cl : List (Str × Addr)) (fp : List Addr), PMG (X.blk s H scope (compEnvC scope cl C X.env) fp) tg g h tv)
    (hv : ∀ i ∈ tv, i ∈ own.map (·.2))
    (ht : ∀ (s : Shared) (H : Hp) (C : Addr) (cl : List (Str × Addr)) (fp : List Addr), PMTs (X.blk s H scope (compEnvC scope cl C X.env) fp) WF ifs tt ft)
    (he : ∀ (s : Shared) (H : Hp) (C : Addr) (cl : List (Str × Addr)) (fp : List Addr), PM (X.blk s H scope (compEnvC scope cl C X.env) fp) WF elt te fe)
    (hs : ∀ x, foldedSetIterable iter X.env x = pure x := by intro _; rfl) :
    PSM X W (.Assign [.Name y py] (.ListComp elt [⟨tg, iter, ifs, 0⟩] scope pos) spos) (tAsg (tLc wi g tt te (own.map (·.2))) (gName j)) (if fresh = true then gNew j (eLc fI h ft fe (own.map (·.2))) else gAsg j (eLc fI h ft fe (own.map (·.2)))) := by
  have sd : SndE X.K W (tLc wi g tt te (own.map (·.2))) (eLc fI h ft fe (own.map (·.2))) := snd_lc hi.sd (hg X.s_0 X.H_0 0 [] []).ok hv (ht X.s_0 X.H_0 0 [] []).sd (he X.s_0 X.H_0 0 [] []).sd
  refine ⟨ps_setLc hc hN hy hyl hsw hi.pi ok (fun s H C cl fp => (hg s H C cl fp).pg) (fun s H C cl fp => (ht s H C cl fp).pe) (fun s H C cl fp => (he s H C cl fp).pe) hs, ?_⟩
  cases fresh with
  | true => exact snd_new j sd
  | false => exact snd_asg j sd
theorem pm_isN {k : Nat} {pc : Pos} (ha : PM X W a ta fa) : PM X W (.Compare a [.Is] [.Constant .none k pc] pos) (tIsN ta) (eIsN fa) := ⟨pe_cmp (pc_isN ha.pe), snd_isN ha.sd⟩
theorem pm_notN {k : Nat} {pc : Pos} (ha : PM X W a ta fa) : PM X W (.Compare a [.IsNot] [.Constant .none k pc] pos) (tNotN ta) (eNotN fa) := ⟨pe_cmp (pc_notN ha.pe), snd_notN ha.sd⟩
end
end DL
/-! sets of ints and texts: set(xs), sorted(set(xs)), len(set(xs)) -/
namespace DL
open PySem PySem.Spec PyProof.Rows L2
def keyAt (e : Int × Value) : Key := match e.2 with
  | .int k _ => .inl k
  | .str x _ => .inr x
  | _ => .inl 0
def Good (w : World) (e : Int × Value) : Prop := keyIs (keyAt e) e.2 = true ∧ e.1 = keyH w (keyAt e)
theorem good_of (w : World) {k : Key} {v : Value} (h : keyIs k v = true) : Good w (keyH w k, v) ∧ keyAt (keyH w k, v) = k := by
  rcases keyIs_shape h with ⟨i, t, rfl, rfl⟩ | ⟨x, t, rfl, rfl⟩
  · exact ⟨⟨keyIs_int i t, rfl⟩, rfl⟩
  · exact ⟨⟨keyIs_str x t, rfl⟩, rfl⟩
theorem key_scan {k : Key} {v : Value} (h : keyIs k v = true) : v.scannable = true := by
  rcases keyIs_shape h with ⟨i, t, rfl, rfl⟩ | ⟨x, t, rfl, rfl⟩ <;> rfl
theorem key_one {k j : Key} {v : Value} (h : keyIs k v = true) : keyIs j v = true ↔ k = j := by
  rcases keyIs_shape h with ⟨i, t, rfl, rfl⟩ | ⟨x, t, rfl, rfl⟩
  · constructor
    · intro q
      rcases keyIs_shape q with ⟨i', t', rfl, e⟩ | ⟨y, u, _, e⟩
      · cases e; rfl
      · cases e
    · rintro rfl; exact h
  · constructor
    · intro q
      rcases keyIs_shape q with ⟨i', t', _, e⟩ | ⟨y, u, rfl, e⟩
      · cases e
      · cases e; rfl
    · rintro rfl; exact h
/-- the set at a: its members, their number; its table rises and can be walked -/
structure SetW (w : World) (h : Heap) (a : Addr) (S : Key → Bool) (n : Nat) (o : Obj) (es : Array (Int × Value)) (ep : Nat) (t : SetTable) : Prop where
  ob : h.get? a = some o
  ex : o.ExactSet
  da : o.data = .set es ep t
  gd : ∀ e ∈ es.toList, Good w e
  nd : (es.toList.map keyAt).Nodup
  mb : ∀ k, S k = true ↔ k ∈ es.toList.map keyAt
  bd : es.size < scanBound
  ft : t.fits es.size = true
  sz : es.size = n
  rs : Ris t.place.toList
  ld : w.params.followText "set-order" = true ∨ t.led = true
def SetX (w : World) (h : Heap) (a : Addr) (S : Key → Bool) (n : Nat) : Prop := ∃ o es ep t, SetW w h a S n o es ep t
section
variable {P : Program} {w : World} {A : Around} {E : Value → Shared → Prop} {s : Shared} {a : Addr} {S : Key → Bool} {n : Nat} {h h' : Heap}
theorem SetX.at (R : SetX w h a S n) (k : ∀ o, h.get? a = some o → h'.get? a = some o) : SetX w h' a S n := by
  obtain ⟨o, es, ep, t, r⟩ := R
  exact ⟨o, es, ep, t, ⟨k o r.ob, r.ex, r.da, r.gd, r.nd, r.mb, r.bd, r.ft, r.sz, r.rs, r.ld⟩⟩
theorem SetX.congr {S' : Key → Bool} (R : SetX w h a S n) (e : ∀ k, S' k = S k) : SetX w h a S' n := by
  rw [show S' = S from funext e]; exact R
theorem SetW.elems {o : Obj} {es : Array (Int × Value)} {ep : Nat} {t : SetTable} (r : SetW w h a S n o es ep t) : ElemsOf (mixKind P w) es.toList := fun e he =>
  ⟨⟨keyAt e, (r.gd e he).1, (r.gd e he).2⟩, key_scan (r.gd e he).1⟩
theorem mem_keys {es : List (Int × Value)} (g : ∀ e ∈ es, Good w e) (k : Key) : k ∈ es.map keyAt ↔ ∃ e ∈ es, (mixKind P w).is k e.2 = true := by
  rw [List.mem_map]
  constructor
  · rintro ⟨e, he, q⟩; exact ⟨e, he, (key_one (g e he).1).2 q⟩
  · rintro ⟨e, he, q⟩; exact ⟨e, he, (key_one (g e he).1).1 q⟩
theorem set_put {g : Bool → Sem Unit} (hg : ∀ (b : Bool) (s₁ : Shared) (Q' : Unit → Shared → Prop), Q' () s₁ → wpAny (model P w) A (g b) Q' E s₁) {o : Obj} {es es1 : Array (Int × Value)} {ep : Nat} {t t2 : SetTable} {S' : Key → Bool}
    (ho : s.heap.get? a = some o) (hex : o.ExactSet) (hd : o.data = .set es ep t) (g1 : ∀ e ∈ es1.toList, Good w e) (nd1 : (es1.toList.map keyAt).Nodup) (m1 : ∀ k, S' k = true ↔ k ∈ es1.toList.map keyAt)
    (hb1 : es1.size < scanBound) (hf2 : t2.fits es1.size = true) (hr : Ris t2.place.toList) (hl : w.params.followText "set-order" = true ∨ t2.led = true) {wd : Bool} {R : Option Bool → Shared → Prop}
    (hR : ∀ h', Heap.SameBut a s.heap h' → SetX w h' a S' es1.size → R (some true) { s with heap := h' }) :
    wpAny (model P w) A (do
        storeSet a es1 t2
        if (!wd && t2.tooFull) = true then do
            g (relayAll t2 es1 (SetTable.grown es1.size)).2.2
            storeSet a (relayAll t2 es1 (SetTable.grown es1.size)).1 (relayAll t2 es1 (SetTable.grown es1.size)).2.1
            pure (some true)
          else pure (some true)) R E s := by
  refine wpAny_bind (wpAny_storeSet_of ho hd ?_ (fits_of_scanBound hb1))
  have ho1 := store_at (es' := es1) (t' := t2) ho hd
  have sb1 := Heap.SameBut.update s.heap a (Obj.putSet es1 t2)
  split
  · have pm := relayAll_perm t2 es1 (SetTable.grown es1.size)
    have f3 := relayAll_fits t2 es1 (SetTable.grown es1.size)
    have r3 := relayAll_ris t2 es1 (SetTable.grown es1.size)
    have l3 := relayAll_led t2 es1 (SetTable.grown es1.size)
    generalize relayAll t2 es1 (SetTable.grown es1.size) = Z at pm f3 r3 l3 ⊢
    obtain ⟨es2, t3, gave⟩ := Z
    dsimp only at pm f3 r3 l3 ⊢
    have hsz : es2.size = es1.size := by rw [← Array.length_toList, pm.length_eq, Array.length_toList]
    have hb2 : es2.size < scanBound := hsz ▸ hb1
    refine wpAny_bind (hg _ _ _ (wpAny_bind (wpAny_storeSet_of ho1 rfl ?_ (fits_of_scanBound hb2))))
    have pk := pm.map keyAt
    exact wpAny_pure (hR _ (sb1.trans (Heap.SameBut.update _ a _)) ⟨_, es2, _, t3, ⟨store_at (es' := es2) (t' := t3) ho1 rfl, hex, rfl, fun e he => g1 e (pm.mem_iff.mp he), pk.nodup_iff.mpr nd1, fun k => (m1 k).trans pk.mem_iff.symm, hb2, f3, hsz, r3, hl.imp id fun z => l3.trans z⟩⟩)
  · exact wpAny_pure (hR _ sb1 ⟨_, es1, _, t2, ⟨ho1, hex, rfl, g1, nd1, m1, hb1, hf2, rfl, hr, hl⟩⟩)
theorem set_add {k : Key} {v : Value} {Q : Bool → Shared → Prop} (hk : keyIs k v = true) (R : SetX w s.heap a S n) (room : n + 1 < scanBound)
    (hQ : ∀ h', Heap.SameBut a s.heap h' → SetX w h' a (fun j => S j || decide (j = k)) (if S k = true then n else n + 1) → Q (!S k) { s with heap := h' }) :
    wpAny (model P w) A (setAddHashed a v (keyH w k)) Q E s := by
  obtain ⟨o, es, ep, t, r⟩ := R
  have hsc := key_scan hk
  have hel : ElemsOf (mixKind P w) es.toList := r.elems
  have hkm : (mixKind P w).is k v = true := hk
  unfold setAddHashed setAddHashedIn
  refine wpAny_holding (wpAny_bind (wpAny_setState_of r.ob r.da r.ft ?_))
  dsimp only
  rw [byScan_of hsc r.bd hel]
  simp only [↓reduceIte]
  unfold setAddByScan
  refine wpAny_bind (wpAny_bind (wpAny_rule (wpAny_bind (wpAny_setScan_of (knd := mixKind P w) hkm r.ob r.da r.ft hel ?_))))
  cases hfi : List.findIdx? (fun e => (mixKind P w).is k e.2) es.toList with
  | some j =>
    dsimp only
    obtain ⟨hj, pj, _⟩ := List.findIdx?_eq_some_iff_getElem.mp hfi
    have hSk : S k = true := (r.mb k).2 ((mem_keys (P := P) r.gd k).2 ⟨es.toList[j], List.getElem_mem hj, pj⟩)
    have q := hQ s.heap (Heap.SameBut.refl a s.heap) ⟨o, es, ep, t, ⟨r.ob, r.ex, r.da, r.gd, r.nd, fun i => by
      rw [Bool.or_eq_true, decide_eq_true_eq, ← r.mb i]
      exact ⟨fun z => z.elim id (fun e => e ▸ hSk), .inl⟩, r.bd, r.ft, by rw [if_pos hSk]; exact r.sz, r.rs, r.ld⟩⟩
    rw [hSk] at q
    exact wpAny_pure (wpAny_pure q)
  | none =>
    dsimp only
    have hnk : k ∉ es.toList.map keyAt := fun z => by
      obtain ⟨e, he, q⟩ := (mem_keys (P := P) r.gd k).1 z
      have c := List.findIdx?_eq_none_iff.mp hfi e he
      rw [q] at c; cases c
    have hSk : S k = false := by
      cases q : S k with
      | false => rfl
      | true => exact absurd ((r.mb k).1 q) hnk
    have pm := layNew_perm t es (keyH w k) v
    have f1 := layNew_fits t es (keyH w k) v
    have r1 := layNew_ris t es (keyH w k) v r.rs
    have l1 := layNew_led t es (keyH w k) v
    show wpAny (model P w) A _ _ E s
    have eH : (mixKind P w).hash k = keyH w k := rfl
    try rw [eH]
    generalize layNew t es (keyH w k) v = Z at pm f1 r1 l1 ⊢
    obtain ⟨es1, t1, wd, gave⟩ := Z
    dsimp only at pm f1 r1 l1 ⊢
    rw [Array.toList_push] at pm
    have pc : es1.toList.Perm ((keyH w k, v) :: es.toList) := pm.trans (List.perm_append_singleton _ _)
    have pk : (es1.toList.map keyAt).Perm (k :: es.toList.map keyAt) := by
      have q := pc.map keyAt
      rw [List.map_cons, (good_of w hk).2] at q
      exact q
    have g1 : ∀ e ∈ es1.toList, Good w e := fun e he => (List.mem_cons.mp (pc.mem_iff.mp he)).elim (fun z => z ▸ (good_of w hk).1) (r.gd e)
    have nd1 : (es1.toList.map keyAt).Nodup := pk.nodup_iff.mpr (List.nodup_cons.mpr ⟨hnk, r.nd⟩)
    have m1 : ∀ i, (S i || decide (i = k)) = true ↔ i ∈ es1.toList.map keyAt := fun i => by
      rw [Bool.or_eq_true, decide_eq_true_eq, r.mb i, pk.mem_iff, List.mem_cons]
      exact Or.comm
    have hsz : es1.size = n + 1 := by rw [← Array.length_toList, pc.length_eq, List.length_cons, Array.length_toList, r.sz]
    have hb1 : es1.size < scanBound := hsz ▸ room
    have hled : w.params.followText "set-order" = true ∨ t1.led = true := r.ld.imp id fun z => l1.trans z
    have fin : ∀ h', Heap.SameBut a s.heap h' → SetX w h' a (fun j => S j || decide (j = k)) es1.size → Q true { s with heap := h' } := fun h' sb x => by
      have q := hQ h' sb
      rw [hSk] at q
      exact q (hsz ▸ x)
    have gw : ∀ (b : Bool) {s₁ : Shared} {Q' : Unit → Shared → Prop}, Q' () s₁ → wpAny (model P w) A (match b with | true => rule "set.scan.the-table-gave-way" | false => pure ()) Q' E s₁ := fun b s₁ Q' q => by
      cases b
      · exact wpAny_pure q
      · exact wpAny_rule q
    refine wpAny_bind (gw _ ?_)
    split
    · refine wpAny_bind ?_
      rw [hashByValue_scannable 8 hsc]
      refine wpAny_pure (set_put ?_ r.ob r.ex r.da g1 nd1 m1 hb1 ?_ ?_ ?_ ?_)
      · intro b s₁ Q' q
        cases b <;> first | exact wpAny_pure q | exact wpAny_rule q
      · first | (split <;> first | exact f1 | exact SetTable.fits_plain_off f1) | exact f1
      · first | (split <;> exact r1) | exact r1
      · first | (split <;> exact hled) | exact hled
      · intro h' sb x; dsimp only; exact wpAny_pure (fin h' sb x)
    · refine wpAny_bind (wpAny_pure ?_)
      simp only [↓reduceIte]
      refine set_put ?_ r.ob r.ex r.da g1 nd1 m1 hb1 f1 r1 hled ?_
      · intro b s₁ Q' q
        cases b <;> first | exact wpAny_pure q | exact wpAny_rule q
      · intro h' sb x; dsimp only; exact wpAny_pure (fin h' sb x)
end
end DL
namespace DL
open PySem PySem.Spec PyProof.Rows L2
def kIn (ks : List Key) (j : Key) : Bool := ks.any fun k => decide (j = k)
theorem kIn_iff {ks : List Key} {j : Key} : kIn ks j = true ↔ j ∈ ks := by
  unfold kIn
  rw [List.any_eq_true]
  exact ⟨fun ⟨k, h, e⟩ => of_decide_eq_true e ▸ h, fun h => ⟨j, h, decide_eq_true rfl⟩⟩
/-- values that are these keys -/
abbrev KeysAre : List Value → List Key → Prop := Paired fun v k => keyIs k v = true
section
variable {P : Program} {w : World} {A : Around} {E : Value → Shared → Prop} {s : Shared}
theorem setX_fresh {h : Heap} {a : Addr} {ks : List Key} (ho : h.get? a = some { cls := .type "set", dict := none, data := .set #[] 0 (.fresh 0 0 (!w.params.followText "set-order")) }) : SetX w h a (kIn (ks.take 0)) 0 :=
  ⟨_, #[], 0, _, ⟨ho, ⟨rfl, rfl, rfl⟩, rfl, (fun e he => by simp at he), (by simp), (fun k => by simp [kIn]), (by decide), (by rfl), rfl, List.Pairwise.nil, by
    show _ ∨ (!w.params.followText "set-order") = true
    cases w.params.followText "set-order"
    · exact .inr rfl
    · exact .inl rfl⟩⟩
theorem key_hash {k : Key} {v : Value} {Q : Int → Shared → Prop} (h : keyIs k v = true) (q : Q (keyH w k) { s with toks := s.toks + 1 }) : wpAny (model P w) A (pyHash v) Q E s := (mixKind P w).pyHash (k := k) h q
theorem set_update_keys {I : Addr} {fp wr : List Addr} {G : Array GenState → Array GenState → Prop} {n : Nat} {Pv : Nat → Value → Prop} {St : Nat → Shared → Prop} {R : Result → Shared → Prop}
    (W : WalksS P w A.in1 I fp wr G n Pv St) (S : Addr) (hSf : S ∉ fp) (ks : List Key) (hn : n = ks.length) (hb : ks.length + 1 < scanBound) (hval : ∀ i v, Pv i v → ∃ k, ks[i]? = some k ∧ keyIs k v = true) :
    ∀ (m i : Nat) (s : Shared), n - i = m → i ≤ n → St i s → (∃ c, c ≤ i ∧ SetX w s.heap S (kIn (ks.take i)) c) →
      (∀ s' c, Moved (S :: wr) G s s' → c ≤ n → SetX w s'.heap S (kIn ks) c → R (.ok (.ret .none)) s') →
      codeAny (model P w) A (.builtin "set.update.loop" ⟨[.ref S, .ref I], []⟩) R s := by
  have hSw : S ∉ wr := fun h => hSf (W.sub _ h)
  have hsub : ∀ b ∈ wr, b ∈ S :: wr := fun b hb => List.mem_cons_of_mem _ hb
  intro m
  induction m with
  | zero =>
    rintro i s hk' hi hst ⟨c, hc, hS⟩ hR
    obtain rfl : i = n := by omega
    refine codeAny_builtin PyProof.Rows.F.entry_set_update_loop ?_
    rw [Around.under_plainId PyProof.Rows.F.plain_set_update_loop _]
    show wpAny _ A.in1 (pyNext (.ref I) >>= _) _ _ s
    refine wpAny_bind (W.done s _ _ hst fun s' hm => ?_)
    show wpAny _ A.in1 (ret Value.none) _ _ s'
    rw [List.take_of_length_le (by omega)] at hS
    exact wpAny_pure (hR s' c (hm.mono hsub) hc (hS.at fun o e => hm.heap S o hSw e))
  | succ m ih =>
    rintro i s hk' hi hst ⟨c, hc, hS⟩ hR
    have hlt : i < n := by omega
    refine codeAny_builtin PyProof.Rows.F.entry_set_update_loop ?_
    rw [Around.under_plainId PyProof.Rows.F.plain_set_update_loop _]
    show wpAny _ A.in1 (pyNext (.ref I) >>= _) _ _ s
    refine wpAny_bind (W.item i s _ _ hlt hst fun v s' hP hst' hm => ?_)
    obtain ⟨z, hz, hkz⟩ := hval i v hP
    have hS' : SetX w s'.heap S (kIn (ks.take i)) c := hS.at fun o e => hm.heap S o hSw e
    show wpAny _ A.in1 (holding [v] (setAdd S v) >>= _) _ _ s'
    refine wpAny_bind (wpAny_holding ?_)
    unfold setAdd
    refine wpAny_holding (wpAny_bind (key_hash hkz ?_))
    refine set_add (s := { s' with toks := s'.toks + 1 }) hkz hS' (by omega) fun h' hsb hS2 => ?_
    have hS3 : SetX w h' S (kIn (ks.take (i + 1))) (if kIn (ks.take i) z = true then c else c + 1) := hS2.congr fun j => by
      unfold kIn
      rw [List.take_add_one, hz, List.any_append]
      simp
    have hc3 : (if kIn (ks.take i) z = true then c else c + 1) ≤ i + 1 := by split <;> omega
    refine wpAny_pure ⟨plainId_quiet PyProof.Rows.F.plain_set_update_loop _, ih (i + 1) _ (by omega) hlt (W.frame _ s' _ _ hst' (Nat.le_succ _) fun b hb o e => ?_) ⟨_, hc3, hS3⟩ fun s'' c2 hm'' hc'' hS'' => ?_⟩
    · rw [hsb.2 b (fun h : b = S => hSf (h ▸ hb))]; exact e
    · refine hR s'' c2 (Moved.trans W.gtrans ((hm.mono hsub).then_heap (Nat.le_succ _) fun b o hb e => ?_) hm'') hc'' hS''
      rw [hsb.2 b (fun h : b = S => hb (by rw [h]; exact List.mem_cons_self))]; exact e
theorem keys_get : ∀ {vs : List Value} {ks : List Key} {i : Nat} {v : Value}, KeysAre vs ks → vs[i]? = some v → ∃ k, ks[i]? = some k ∧ keyIs k v = true
  | _, _, _, _, .nil, h => by simp at h
  | _, _, 0, _, .cons a _, h => by cases h; exact ⟨_, rfl, a⟩
  | _, _, i + 1, _, .cons _ b, h => keys_get (i := i) b h
set_option maxHeartbeats 3200000 in
theorem call_set_tup {l : Addr} {items : Array Value} (ks : List Key) {Q : Value → Shared → Prop} (hh : A.handled = none) (hl : s.heap.IsTuple l items) (hit : KeysAre items.toList ks) (hb : ks.length + 1 < scanBound)
    (h : ∀ (h' : Heap) (tk c : Nat), SetX w h' s.heap.objs.size (kIn ks) c → (∀ b o, s.heap.get? b = some o → h'.get? b = some o) → Q (.ref s.heap.objs.size) { s with heap := h', toks := tk }) :
    wpAny (model P w) A (call (.type "set") [.ref l]) Q E s := by
  have hisz : items.size = ks.length := by rw [← paired_len hit, Array.length_toList]
  obtain ⟨c, tl, hmro⟩ := F.called_set.mro
  have hmade := F.called_set.made
  have hsub := F.called_set.sub
  refine wpAny_call (codeAny_of_tree ?_)
  show wpAny _ _ (callAny (.type "set") _) _ _ _
  refine wpAny_pure ⟨Code.quiet_builtin _ (by decide +kernel), codeAny_builtin F.entry_type_call ?_⟩
  rw [Around.under_plain (weight_type_call_type "set" [.ref l] []) rfl]
  have h1 := F.called_set.notType
  have h2 := F.called_set.canCreate
  have hct := F.typeCall_set_1 (.ref l)
  repeat (any_goals (first | assumption | wp_step))
  let so : Obj := { cls := .type "set", dict := none, data := .set #[] 0 (.fresh 0 0 (!w.params.followText "set-order")) }
  refine codeAny_mono (code_set_led1 (.ref l) (E := E) (Q₁ := fun obj s₁ => obj = .ref s.heap.objs.size ∧ s₁ = { s with heap := s.heap.push so }) ⟨rfl, rfl⟩) fun r s₁ hr => ?_
  match r, hr with
  | .error e, hr => exact hr
  | .ok .next, hr => exact hr.elim
  | .ok .brk, hr => exact hr.elim
  | .ok .cont, hr => exact hr.elim
  | .ok (.ret obj), hr =>
    obtain ⟨rfl, rfl⟩ := hr
    have hS : (s.heap.push so).get? s.heap.objs.size = some so := Heap.get?_push_size _ rfl
    have hT : Shared.TypeIs { s with heap := s.heap.push so } (.ref s.heap.objs.size) "set" := ⟨_, hS, rfl⟩
    have hli := F.called_set.init.lookup
    have hbi := F.called_set.init.bind (.ref s.heap.objs.size)
    repeat (any_goals (first | assumption | wp_step))
    refine codeAny_mono (codeAny_call_builtin (R := wants (fun r s₂ => r = .none ∧ ∃ h' tk c, s₂ = { s with heap := h', toks := tk } ∧ SetX w h' s.heap.objs.size (kIn ks) c ∧
        (∀ b o, s.heap.get? b = some o → h'.get? b = some o)) E) F.called_set.init.plain F.entry_set_init (check_set_init_1 hT ?_)) fun r₂ s₂ hr₂ => ?_
    · obtain ⟨⟨ocls, odict, odata, oslots⟩, hol, hcl, nl, hdl⟩ := hl
      obtain rfl : ocls = .type "tuple" := hcl
      obtain rfl : odata = .seq items nl := hdl
      have hol' : (s.heap.push so).get? l = some { cls := .type "tuple", dict := odict, data := .seq items nl, slots := oslots } := Heap.get?_push_of_some _ hol
      have hsls := F.sub_tuple_set
      have hslf := F.sub_tuple_frozenset
      have hne : (Value.type "tuple" == Value.type "dict") = false := by decide
      have hl1 : (s.heap.push so).IsTuple l items := ⟨_, hol', rfl, nl, rfl⟩
      unfold Builtin.«set.__init__» noKeywords Builtin.Frozenset.updateFrom
      generalize hPI : pyIter = PI
      wp_walk
      subst hPI
      refine wpAny_pyIter_tuple hl1 (wpAny_bind (wpAny_runValue ?_))
      have hlS : l < s.heap.objs.size := Heap.lt_size hol
      have hh3 : A.in1.in1.in1.handled = none := by simp [hh]
      have hz1 : (s.heap.push so).objs.size = s.heap.objs.size + 1 := Heap.size_push ..
      have hneI : l ≠ (s.heap.push so).objs.size := by rw [hz1]; exact Nat.ne_of_lt (Nat.lt_succ_of_lt hlS)
      have hSf : s.heap.objs.size ∉ [(s.heap.push so).objs.size, l] := by
        rw [hz1]
        simp only [List.mem_cons, List.not_mem_nil, or_false, not_or]
        exact ⟨Nat.ne_of_lt (Nat.lt_succ_self _), Nat.ne_of_gt hlS⟩
      have hval : ∀ (i : Nat) (v : Value), items[i]? = some v → ∃ k, ks[i]? = some k ∧ keyIs k v = true := fun i v hv => keys_get hit (by rw [Array.getElem?_toList]; exact hv)
      refine set_update_keys ((Walks.tuple hh3 _ l hneI items).toS) s.heap.objs.size hSf ks hisz hb hval (items.size - 0) 0 _ (by omega) (Nat.zero_le _)
        ⟨⟨_, Heap.get?_push_size _ rfl, rfl, rfl⟩, (hl1.push _)⟩ ⟨0, Nat.le_refl 0, setX_fresh (Heap.get?_push_of_some _ hS)⟩ fun s' c' hm hc' hS' => ?_
      obtain ⟨h', g2, d', tk', os'⟩ := s'
      obtain rfl : g2 = s.gens := hm.gens
      obtain rfl : d' = s.drawn := hm.drawn
      obtain rfl : os' = s.os := hm.os
      show wpAny _ _ _ _ _ _
      refine wpAny_pure ?_
      show wpAny _ _ (ret Value.none) _ _ _
      refine wpAny_pure ⟨rfl, h', tk', c', rfl, hS', fun b o e => ?_⟩
      have hb0 : b < s.heap.objs.size := Heap.lt_size e
      refine hm.heap b o ?_ (Heap.get?_push_of_some _ (Heap.get?_push_of_some _ e))
      rw [hz1]
      simp only [List.mem_cons, List.not_mem_nil, or_false, not_or]
      exact ⟨Nat.ne_of_lt hb0, Nat.ne_of_lt (Nat.lt_succ_of_lt hb0)⟩
    · match r₂, hr₂ with
      | .error e, hr₂ => exact hr₂
      | .ok .next, hr₂ => exact hr₂.elim
      | .ok .brk, hr₂ => exact hr₂.elim
      | .ok .cont, hr₂ => exact hr₂.elim
      | .ok (.ret r), hr₂ =>
        obtain ⟨rfl, h', tk, c', rfl, hS', hk'⟩ := hr₂
        repeat (any_goals (first | assumption | wp_step))
        exact h _ _ _ hS' hk'
set_option maxHeartbeats 3200000 in
theorem call_set_lst {l : Addr} {items : Array Value} (ks : List Key) {Q : Value → Shared → Prop} (hh : A.handled = none) (hl : s.heap.IsList l items) (hit : KeysAre items.toList ks) (hb : ks.length + 1 < scanBound)
    (h : ∀ (h' : Heap) (tk c : Nat), SetX w h' s.heap.objs.size (kIn ks) c → (∀ b o, s.heap.get? b = some o → h'.get? b = some o) → Q (.ref s.heap.objs.size) { s with heap := h', toks := tk }) :
    wpAny (model P w) A (call (.type "set") [.ref l]) Q E s := by
  have hisz : items.size = ks.length := by rw [← paired_len hit, Array.length_toList]
  obtain ⟨c, tl, hmro⟩ := F.called_set.mro
  have hmade := F.called_set.made
  have hsub := F.called_set.sub
  refine wpAny_call (codeAny_of_tree ?_)
  show wpAny _ _ (callAny (.type "set") _) _ _ _
  refine wpAny_pure ⟨Code.quiet_builtin _ (by decide +kernel), codeAny_builtin F.entry_type_call ?_⟩
  rw [Around.under_plain (weight_type_call_type "set" [.ref l] []) rfl]
  have h1 := F.called_set.notType
  have h2 := F.called_set.canCreate
  have hct := F.typeCall_set_1 (.ref l)
  repeat (any_goals (first | assumption | wp_step))
  let so : Obj := { cls := .type "set", dict := none, data := .set #[] 0 (.fresh 0 0 (!w.params.followText "set-order")) }
  refine codeAny_mono (code_set_led1 (.ref l) (E := E) (Q₁ := fun obj s₁ => obj = .ref s.heap.objs.size ∧ s₁ = { s with heap := s.heap.push so }) ⟨rfl, rfl⟩) fun r s₁ hr => ?_
  match r, hr with
  | .error e, hr => exact hr
  | .ok .next, hr => exact hr.elim
  | .ok .brk, hr => exact hr.elim
  | .ok .cont, hr => exact hr.elim
  | .ok (.ret obj), hr =>
    obtain ⟨rfl, rfl⟩ := hr
    have hS : (s.heap.push so).get? s.heap.objs.size = some so := Heap.get?_push_size _ rfl
    have hT : Shared.TypeIs { s with heap := s.heap.push so } (.ref s.heap.objs.size) "set" := ⟨_, hS, rfl⟩
    have hli := F.called_set.init.lookup
    have hbi := F.called_set.init.bind (.ref s.heap.objs.size)
    repeat (any_goals (first | assumption | wp_step))
    refine codeAny_mono (codeAny_call_builtin (R := wants (fun r s₂ => r = .none ∧ ∃ h' tk c, s₂ = { s with heap := h', toks := tk } ∧ SetX w h' s.heap.objs.size (kIn ks) c ∧
        (∀ b o, s.heap.get? b = some o → h'.get? b = some o)) E) F.called_set.init.plain F.entry_set_init (check_set_init_1 hT ?_)) fun r₂ s₂ hr₂ => ?_
    · obtain ⟨⟨ocls, odict, odata, oslots⟩, hol, hcl, nl, hdl⟩ := hl
      obtain rfl : ocls = .type "list" := hcl
      obtain rfl : odata = .seq items nl := hdl
      have hol' : (s.heap.push so).get? l = some { cls := .type "list", dict := odict, data := .seq items nl, slots := oslots } := Heap.get?_push_of_some _ hol
      have hsls := F.sub_list_set
      have hslf := F.sub_list_frozenset
      have hne : (Value.type "list" == Value.type "dict") = false := by decide
      have hl1 : (s.heap.push so).IsList l items := ⟨_, hol', rfl, nl, rfl⟩
      unfold Builtin.«set.__init__» noKeywords Builtin.Frozenset.updateFrom
      generalize hPI : pyIter = PI
      wp_walk
      subst hPI
      refine wpAny_pyIter_list hl1 (wpAny_bind (wpAny_runValue ?_))
      have hlS : l < s.heap.objs.size := Heap.lt_size hol
      have hh3 : A.in1.in1.in1.handled = none := by simp [hh]
      have hz1 : (s.heap.push so).objs.size = s.heap.objs.size + 1 := Heap.size_push ..
      have hneI : l ≠ (s.heap.push so).objs.size := by rw [hz1]; exact Nat.ne_of_lt (Nat.lt_succ_of_lt hlS)
      have hSf : s.heap.objs.size ∉ [(s.heap.push so).objs.size, l] := by
        rw [hz1]
        simp only [List.mem_cons, List.not_mem_nil, or_false, not_or]
        exact ⟨Nat.ne_of_lt (Nat.lt_succ_self _), Nat.ne_of_gt hlS⟩
      have hval : ∀ (i : Nat) (v : Value), items[i]? = some v → ∃ k, ks[i]? = some k ∧ keyIs k v = true := fun i v hv => keys_get hit (by rw [Array.getElem?_toList]; exact hv)
      refine set_update_keys ((Walks.list hh3 _ l hneI items).toS) s.heap.objs.size hSf ks hisz hb hval (items.size - 0) 0 _ (by omega) (Nat.zero_le _)
        ⟨⟨_, Heap.get?_push_size _ rfl, rfl, rfl⟩, (hl1.push _)⟩ ⟨0, Nat.le_refl 0, setX_fresh (Heap.get?_push_of_some _ hS)⟩ fun s' c' hm hc' hS' => ?_
      obtain ⟨h', g2, d', tk', os'⟩ := s'
      obtain rfl : g2 = s.gens := hm.gens
      obtain rfl : d' = s.drawn := hm.drawn
      obtain rfl : os' = s.os := hm.os
      show wpAny _ _ _ _ _ _
      refine wpAny_pure ?_
      show wpAny _ _ (ret Value.none) _ _ _
      refine wpAny_pure ⟨rfl, h', tk', c', rfl, hS', fun b o e => ?_⟩
      have hb0 : b < s.heap.objs.size := Heap.lt_size e
      refine hm.heap b o ?_ (Heap.get?_push_of_some _ (Heap.get?_push_of_some _ e))
      rw [hz1]
      simp only [List.mem_cons, List.not_mem_nil, or_false, not_or]
      exact ⟨Nat.ne_of_lt hb0, Nat.ne_of_lt (Nat.lt_succ_of_lt hb0)⟩
    · match r₂, hr₂ with
      | .error e, hr₂ => exact hr₂
      | .ok .next, hr₂ => exact hr₂.elim
      | .ok .brk, hr₂ => exact hr₂.elim
      | .ok .cont, hr₂ => exact hr₂.elim
      | .ok (.ret r), hr₂ =>
        obtain ⟨rfl, h', tk, c', rfl, hS', hk'⟩ := hr₂
        repeat (any_goals (first | assumption | wp_step))
        exact h _ _ _ hS' hk'
end
end DL
namespace DL
open PySem PySem.Spec PyProof.Rows L2
/-! ### texts in order -/
def ltS (a b : Str) : Bool := ltCps a.cps.toList b.cps.toList
theorem ltC_irrefl : ∀ a : List Nat, ltCps a a = false
  | [] => rfl
  | x :: r => by simp [ltCps, ltC_irrefl r]
theorem ltC_trans : ∀ {a b c : List Nat}, ltCps a b = true → ltCps b c = true → ltCps a c = true
  | [], [], _, h, _ => by cases h
  | [], _ :: _, [], _, h => by cases h
  | [], _ :: _, _ :: _, _, _ => rfl
  | _ :: _, [], _, h, _ => by cases h
  | _ :: _, _ :: _, [], _, h => by cases h
  | x :: a, y :: b, z :: c, h, h' => by
    simp only [ltCps, Bool.or_eq_true, decide_eq_true_eq, Bool.and_eq_true, beq_iff_eq] at h h' ⊢
    rcases h with h | ⟨rfl, h⟩
    · rcases h' with h' | ⟨rfl, h'⟩
      · exact .inl (Nat.lt_trans h h')
      · exact .inl h
    · rcases h' with h' | ⟨rfl, h'⟩
      · exact .inl h'
      · exact .inr ⟨rfl, ltC_trans h h'⟩
theorem ltC_total : ∀ {a b : List Nat}, ltCps a b = false → ltCps b a = false → a = b
  | [], [], _, _ => rfl
  | [], _ :: _, h, _ => by cases h
  | _ :: _, [], _, h => by cases h
  | x :: a, y :: b, h, h' => by
    simp only [ltCps, Bool.or_eq_false_iff, decide_eq_false_iff_not, Bool.and_eq_false_iff] at h h'
    obtain rfl : x = y := by omega
    have h1 : ltCps a b = false := h.2.elim (fun z => by simp at z) id
    have h2 : ltCps b a = false := h'.2.elim (fun z => by simp at z) id
    rw [ltC_total h1 h2]
theorem str_ext {a b : Str} (h : a.cps.toList = b.cps.toList) : a = b := by
  cases a; cases b
  have : (_ : Array Nat) = _ := Array.toList_inj.mp h
  simp_all
theorem ltS_irrefl (a : Str) : ltS a a = false := ltC_irrefl _
theorem ltS_trans {a b c : Str} (h : ltS a b = true) (h' : ltS b c = true) : ltS a c = true := ltC_trans h h'
theorem ltS_total {a b : Str} (h : ltS a b = false) (h' : ltS b a = false) : a = b := str_ext (ltC_total h h')
/-- ascending, each once -/
def insU (x : Str) : List Str → List Str
  | [] => [x]
  | y :: ys => if ltS x y = true then x :: y :: ys else if ltS y x = true then y :: insU x ys else y :: ys
def sortU : List Str → List Str
  | [] => []
  | x :: xs => insU x (sortU xs)
theorem insU_mem (x y : Str) : ∀ ys : List Str, y ∈ insU x ys ↔ y = x ∨ y ∈ ys
  | [] => by simp [insU]
  | z :: zs => by
    unfold insU
    split
    · simp
    · split
      · rw [List.mem_cons, insU_mem x y zs, List.mem_cons]
        constructor
        · rintro (h | h | h) <;> simp [h]
        · rintro (h | h | h) <;> simp [h]
      · rename_i h1 h2
        have e : x = z := ltS_total (by simpa using h1) (by simpa using h2)
        rw [e, List.mem_cons]
        constructor
        · exact .inr
        · rintro (h | h)
          · exact .inl h
          · exact h
theorem insU_rises {x : Str} : ∀ {ys : List Str}, ys.Pairwise (fun a b => ltS a b = true) → (insU x ys).Pairwise (fun a b => ltS a b = true)
  | [], _ => by simp [insU]
  | z :: zs, h => by
    obtain ⟨h1, h2⟩ := List.pairwise_cons.mp h
    unfold insU
    split
    · rename_i c
      exact List.pairwise_cons.mpr ⟨fun y hy => (List.mem_cons.mp hy).elim (fun e => e ▸ c) fun q => ltS_trans c (h1 y q), h⟩
    · split
      · rename_i c
        exact List.pairwise_cons.mpr ⟨fun y hy => ((insU_mem x y zs).1 hy).elim (fun e => e ▸ c) (h1 y), insU_rises h2⟩
      · exact h
theorem sortU_mem (y : Str) : ∀ xs : List Str, y ∈ sortU xs ↔ y ∈ xs
  | [] => Iff.rfl
  | x :: xs => by rw [sortU, insU_mem, sortU_mem y xs, List.mem_cons]
theorem sortU_rises : ∀ xs : List Str, (sortU xs).Pairwise (fun a b => ltS a b = true)
  | [] => .nil
  | x :: xs => insU_rises (sortU_rises xs)
theorem rises_one : ∀ {xs ys : List Str}, xs.Pairwise (fun a b => ltS a b = true) → ys.Pairwise (fun a b => ltS a b = true) → (∀ z, z ∈ xs ↔ z ∈ ys) → xs = ys
  | [], [], _, _, _ => rfl
  | [], y :: ys, _, _, h => absurd ((h y).2 List.mem_cons_self) (fun z => nomatch z)
  | x :: xs, [], _, _, h => absurd ((h x).1 List.mem_cons_self) (fun z => nomatch z)
  | x :: xs, y :: ys, hx, hy, h => by
    obtain ⟨x1, x2⟩ := List.pairwise_cons.mp hx
    obtain ⟨y1, y2⟩ := List.pairwise_cons.mp hy
    have e : x = y := by
      rcases List.mem_cons.mp ((h x).1 List.mem_cons_self) with e | q
      · exact e
      · rcases List.mem_cons.mp ((h y).2 List.mem_cons_self) with e | q'
        · exact e.symm
        · have a := y1 x q
          have b := x1 y q'
          have c := ltS_trans a b
          rw [ltS_irrefl] at c; cases c
    subst e
    rw [rises_one x2 y2 fun z => ?_]
    constructor
    · intro hz
      rcases List.mem_cons.mp ((h z).1 (List.mem_cons_of_mem _ hz)) with e | q
      · have := x1 z hz
        rw [e, ltS_irrefl] at this; cases this
      · exact q
    · intro hz
      rcases List.mem_cons.mp ((h z).2 (List.mem_cons_of_mem _ hz)) with e | q
      · have := y1 z hz
        rw [e, ltS_irrefl] at this; cases this
      · exact q
theorem sortU_len : ∀ xs : List Str, (sortU xs).length ≤ xs.length := by
  have ins : ∀ (x : Str) (ys : List Str), (insU x ys).length ≤ ys.length + 1 := by
    intro x ys
    induction ys with
    | nil => simp [insU]
    | cons y ys ih =>
      unfold insU
      split
      · simp
      · split
        · simp; omega
        · simp
  intro xs
  induction xs with
  | nil => simp [sortU]
  | cons x xs ih => have := ins x (sortU xs); simp [sortU]; omega
theorem rises_of_sortedS {ss : List Str} (h : sortedS ss = true) (nd : ss.Nodup) : ss.Pairwise (fun a b => ltS a b = true) := by
  have key : ∀ (r : List Str) (x : Str), risingS x r = true → (x :: r).Nodup → (x :: r).Pairwise (fun a b => ltS a b = true) := by
    intro r
    induction r with
    | nil => intro x _ _; simp
    | cons y r ih =>
      intro x h nd
      simp only [risingS, Bool.and_eq_true] at h
      obtain ⟨n1, n2⟩ := List.nodup_cons.mp nd
      have q := ih y h.2 n2
      obtain ⟨q1, q2⟩ := List.pairwise_cons.mp q
      have hxy : ltS x y = true := by
        cases e : ltS x y with
        | true => rfl
        | false =>
          have e2 : ltS y x = false := by
            have h1 := h.1
            simp only [Bool.not_eq_true'] at h1
            exact h1
          exact absurd (ltS_total e e2) (fun z => n1 (by rw [z]; exact List.mem_cons_self))
      exact List.pairwise_cons.mpr ⟨fun z hz => (List.mem_cons.mp hz).elim (fun e => e ▸ hxy) fun q => ltS_trans hxy (q1 z q), q⟩
  cases ss with
  | nil => exact .nil
  | cons x r => exact key r x h nd
end DL
namespace DL
open PySem PySem.Spec PyProof.Rows L2
section
variable {P : Program} {w : World} {A : Around} {E : Value → Shared → Prop} {s : Shared} {a : Addr} {S : Key → Bool} {n : Nat}
theorem strs_of_keys : ∀ (vs : List Value), (∀ v ∈ vs, ∃ x t, v = Value.str x t) → ∃ ss, StrsAre vs ss ∧ ∀ (f : Value → Key), (∀ x t, f (.str x t) = .inr x) → vs.map f = ss.map Sum.inr
  | [], _ => ⟨[], .nil, fun _ _ => rfl⟩
  | v :: vs, h => by
    obtain ⟨x, t, rfl⟩ := h v List.mem_cons_self
    obtain ⟨ss, h1, h2⟩ := strs_of_keys vs fun u hu => h u (List.mem_cons_of_mem _ hu)
    exact ⟨x :: ss, .cons x t h1, fun f hf => by rw [List.map_cons, List.map_cons, hf, h2 f hf]⟩
/-- sorted(set of texts) -/
theorem sorted_setS {zs : List Str} {Q : Value → Shared → Prop} (R : SetX w s.heap a S n) (hS : ∀ k, S k = true ↔ k ∈ zs.map Sum.inr) (hh : A.handled = none)
    (hQ : ∀ s' p (out : Array Value) (c : Nat), (∀ b o, s.heap.get? b = some o → s'.heap.get? b = some o) → s'.gens = s.gens → s'.os = s.os → s.heap.objs.size ≤ p →
      s'.heap.get? p = some (seqObj "list" out c) → StrsAre out.toList (sortU zs) → (sortU zs).length < scanBound → Q (.ref p) s') :
    wpAny (model P w) A (call (.builtin "sorted") [.ref a]) Q E s := by
  obtain ⟨o, es, ep, t, r⟩ := R
  refine Calls.call_function_entry kind_sorted plain_sorted entry_sorted (args_sorted1 _) ?_
  unfold Builtin.«sorted»
  refine wpAny_bind (m := checkCount "sorted" 1 1 _) (wpAny_pure ?_)
  refine wpAny_bind (collect_set (A := A.in1) hh ⟨o, r.ob, r.ex.1, r.da⟩ r.ft r.bd r.rs r.ld fun s1 vs k1 hz g1 o1 pm => ?_)
  have hvl : vs.length = n := by rw [pm.length_eq, List.length_map, Array.length_toList]; exact r.sz
  have hbd : vs.length < scanBound := by rw [hvl, ← r.sz]; exact r.bd
  let kv : Value → Key := fun v => keyAt (0, v)
  have hmap : (vs.map kv).Perm (es.toList.map keyAt) := by
    have q := pm.map kv
    rw [List.map_map] at q
    exact q
  have hstr : ∀ v ∈ vs, ∃ x t, v = Value.str x t := fun v hv => by
    obtain ⟨e, he, rfl⟩ := List.mem_map.mp (pm.mem_iff.mp hv)
    have hk : keyAt e ∈ zs.map Sum.inr := (hS _).1 ((r.mb _).2 (List.mem_map.mpr ⟨e, he, rfl⟩))
    obtain ⟨x, _, ex⟩ := List.mem_map.mp hk
    rcases keyIs_shape (r.gd e he).1 with ⟨i, t, e1, _⟩ | ⟨y, t, _, e2⟩
    · rw [e1] at ex; cases ex
    · exact ⟨y, t, e2⟩
  obtain ⟨ss, hss, hk⟩ := strs_of_keys vs hstr
  have eqm : vs.map kv = ss.map Sum.inr := hk kv fun _ _ => rfl
  have hL : vs.length ≤ sizeLine := Nat.le_trans (Nat.le_of_lt hbd) (by decide)
  refine wpAny_bind (wpAny_newList ?_ hL)
  have hoL : (s1.heap.push (seqObj "list" vs.toArray 0)).get? s1.heap.objs.size = some (seqObj "list" vs.toArray 0) := Heap.get?_push_size _ rfl
  refine wpAny_bind (wpAny_holding (wpAny_call_entry slot_list_sort ⟨_, hoL, rfl⟩ entry_list_sort
    (list_sort_treeKAny strKind_oneLt hoL hss.keysOf (fun v₁ v₂ rest e => keyKind_strs (by rw [← e]; exact hss)) hL fun st' hp hs => ⟨_, rfl, ?_⟩) (args_list_sort _)))
  obtain ⟨ss', q1, q2, q3⟩ := sorted_out_str hss hp hs
  obtain ⟨c, hc⟩ := sortedHeap_at (vs := vs) (out := (arrOf st').map (·.2)) hoL
  have nd : ss.Nodup := by
    have z : (ss.map (Sum.inr : Str → Key)).Nodup := by rw [← eqm]; exact hmap.nodup_iff.mpr r.nd
    exact List.Pairwise.of_map _ (fun _ _ hne e => hne (congrArg _ e)) z
  have es' : ss' = sortU zs := rises_one (rises_of_sortedS q3 (q2.nodup_iff.mpr nd)) (sortU_rises zs) fun z => by
    rw [q2.mem_iff, sortU_mem]
    have m1 : (Sum.inr z : Key) ∈ ss.map Sum.inr ↔ (Sum.inr z : Key) ∈ zs.map Sum.inr := by
      rw [← eqm, hmap.mem_iff, ← r.mb, hS]
    have inj : ∀ l : List Str, (Sum.inr z : Key) ∈ l.map Sum.inr ↔ z ∈ l := fun l => by
      rw [List.mem_map]
      exact ⟨fun ⟨y, h, e⟩ => Sum.inr.inj e ▸ h, fun h => ⟨z, h, rfl⟩⟩
    rw [inj, inj] at m1
    exact m1
  subst es'
  refine wpAny_pure ⟨_, rfl, hQ _ s1.heap.objs.size _ c (fun b u e => ?_) g1 o1 hz hc q1 ?_⟩
  · have q := k1 b u e
    have hlt := Heap.lt_size q
    show (sortedHeap (s1.heap.push (seqObj "list" vs.toArray 0)) s1.heap.objs.size vs _).get? b = some u
    rw [sortedHeap_old (Nat.ne_of_lt hlt) (by rw [size_push']; exact Nat.lt_succ_of_lt hlt)]
    exact Heap.get?_push_of_some _ q
  · rw [q2.length_eq, ← hss.length]; exact hbd

end
/-! ### over the abstract heap -/
def SetH (w : World) (a : Addr) (S : Key → Bool) : HO := .ext fun h => ∃ n, SetX w h a S n
theorem setH_ok {P : Program} {w : World} {H : Hp} {h : Heap} {a : Addr} {S : Key → Bool} {n : Nat} (R : SetX w h a S n) : ObjOk P w H h a (SetH w a S) :=
  ⟨⟨n, R⟩, by obtain ⟨o, _, _, _, r⟩ := R; exact ⟨o, r.ob⟩, fun h1 h2 ⟨m, x⟩ k => ⟨m, x.at k⟩⟩
section
variable {X : Cx}
def rSetK (K : PySem.W.Frag) (w : World) : List V → Hp → VK → Prop := fun xs H Q => ∃ l ys ks, xs = [.ref l] ∧ (SqL K H l ys ∨ SqT K H l ys) ∧ ys = (ks : List Key).map kV ∧ ks.length + 1 < scanBound ∧
  ∀ a, H a = none → Q (.ref a) (upd H a (SetH w a (kIn ks)))
theorem keys_of_vals : ∀ {ks : List Key} {us : List Value}, Vals (ks.map kV) us → KeysAre us ks
  | [], _, r => by cases r; exact .nil
  | .inl i :: ks, _, r => by
    cases r with
    | cons r1 r2 => obtain ⟨t, rfl⟩ := r1; exact .cons (keyIs_int i t) (keys_of_vals r2)
  | .inr x :: ks, _, r => by
    cases r with
    | cons r1 r2 => obtain ⟨t, rfl⟩ := r1; exact .cons (keyIs_str x t) (keys_of_vals r2)
theorem cr_setK (hc : X.calm = true) : CallR X (.type "set") (rSetK X.K X.w) := by
  intro pins s σ H vs us Q I r h
  obtain ⟨l, ys, ks, rfl, hs, rfl, hb, q⟩ := h
  rw [Vals.ref1 r]
  have fin : ∀ (h' : Heap) (tk c : Nat), SetX X.w h' s.heap.objs.size (kIn ks) c → (∀ b o, s.heap.get? b = some o → h'.get? b = some o) → EP X pins σ Q (.ref s.heap.objs.size) { s with heap := h', toks := tk } := fun h' tk c R kp =>
    ⟨.ref s.heap.objs.size, _, I.laid (o := SetH X.w s.heap.objs.size (kIn ks)) kp (Nat.le_refl _) (setH_ok R), rfl, q _ (I.hok.fresh (Nat.le_refl _))⟩
  rcases hs with hs | hs
  · obtain ⟨its, rv, pl, _⟩ := I.list hs
    exact call_set_lst ks (I.ok.hd hc) pl.isList (by simpa using keys_of_vals rv) hb fin
  · obtain ⟨its, rv, pl, _⟩ := I.tuple hs
    exact call_set_tup ks (I.ok.hd hc) (show s.heap.IsTuple l its.toArray from pl) (by simpa using keys_of_vals rv) hb fin
def rSortedS' (w : World) : List V → Hp → VK → Prop := fun xs H Q => ∃ a S zs, xs = [.ref a] ∧ H a = some (SetH w a S) ∧ (∀ k, S k = true ↔ k ∈ (zs : List Str).map Sum.inr) ∧
  ∀ p, H p = none → Q (.ref p) (upd H p (.lst ((sortU zs).map V.str)))
theorem cr_sortedU (hc : X.calm = true) : CallR X (.builtin "sorted") (rSortedS' X.w) := by
  intro pins s σ H vs us Q I r h
  obtain ⟨a, S, zs, rfl, ha, hS, q⟩ := h
  rw [Vals.ref1 r]
  obtain ⟨⟨n, R⟩, _⟩ := I.hok a _ ha
  refine sorted_setS R hS (I.ok.hd hc) fun s' p out c k g o hp hg hi hl => ?_
  have hlen : ((sortU zs).map V.str).length ≤ sizeLine := by rw [List.length_map]; exact Nat.le_trans (Nat.le_of_lt hl) (by decide)
  have hn : H p = none := I.hok.fresh hp
  have J : L2.Inv X pins σ (upd H p (.lst ((sortU zs).map V.str))) { s with heap := s'.heap, gens := s'.gens, drawn := s'.drawn, toks := s'.toks } :=
    I.call (ch := []) (Un.laid k hp hn) (I.hok.laid k hp ⟨hlen, out.toList, c, vals_of_strs hi, hg⟩) (by rw [g]; exact I.bare) (fun _ z => nomatch z)
  have e : s' = { s with heap := s'.heap, gens := s'.gens, drawn := s'.drawn, toks := s'.toks } := by
    cases s'; cases s; cases o; rfl
  rw [e]
  exact ⟨.ref p, _, J, rfl, q p hn⟩
end
/-! ### sorted(set(xs)), xs texts -/
def asStrs : List DV → Option (List Str)
  | [] => some []
  | x :: xs => match asStr x with
    | none => none
    | some s => (asStrs xs).map (s :: ·)
section
variable {K : PySem.W.Frag} {W : WX} {ρ : Pm} {G H : Hp} {w : World}
theorem asStrs_ok : ∀ {xs : List DV} {vs : List V} {ss : List Str}, DvL K ρ G vs xs → asStrs xs = some ss → vs = ss.map V.str
  | [], _, _, h, e => by cases e; cases h; rfl
  | x :: xs, _, _, h, e => by
    cases h with
    | cons r1 r2 =>
      simp only [asStrs] at e
      cases q : asStr x with
      | none => rw [q] at e; cases e
      | some b =>
        rw [q] at e
        cases q2 : asStrs xs with
        | none => rw [q2] at e; cases e
        | some bs => rw [q2] at e; cases e; rw [asStr_ok r1 q, asStrs_ok r2 q2]; rfl
def strsR (ss : List Str) : R := .nl (ss.map fun s => .dat (.str s))
def eSortSet (f : EM) : EM := fun δ μ => (frzV f δ μ).bind fun x μ' => match asS μ' x with
  | none => .bad
  | some xs => match asStrs xs with
    | none => .bad
    | some ss => if ss.length + 1 < scanBound then .ok (strsR (sortU ss)) μ' else .bad
theorem snd_sortset {te : TE} {f : EM} (h : SndE K W te f) : SndE K W (tCB (rSortedS' w) (tCons (tCB (rSetK K w) (tCons te tNil)) tNil)) (eSortSet f) := fun ρ G H σ δ μ Q R E hp => by
  refine SndG.seq (t := te) h.toV R E hp fun x μ1 G1 H1 v t1 R1 E1 d1 hp1 => ?_
  cases e : asS μ1 x with
  | none => rw [e] at hp1; exact hp1.elim
  | some xs =>
    simp only [e] at hp1
    cases e2 : asStrs xs with
    | none => rw [e2] at hp1; exact hp1.elim
    | some ss =>
      simp only [e2] at hp1
      by_cases c : ss.length + 1 < scanBound
      case neg => rw [if_neg c] at hp1; exact hp1.elim
      rw [if_pos c] at hp1
      obtain ⟨a, vs, rfl, h2, h3⟩ := asS_ok R1 d1 e
      have ev := asStrs_ok h3 e2
      refine ⟨a, vs, ss.map Sum.inr, rfl, h2, by rw [ev, List.map_map]; rfl, by rw [List.length_map]; exact c, fun b hb => ?_⟩
      obtain ⟨R2, t2⟩ := R1.lay (o := SetH w b (kIn (ss.map Sum.inr))) hb
      refine ⟨b, _, ss, rfl, upd_same, fun k => kIn_iff, fun p hpn => ?_⟩
      exact new_list R2 (t1.trans t2) hpn (dvl_strs _) hp1
end
theorem pm_sortset {X : Cx} {W : WX} {p p2 q pos : Pos} {e : Expr} {te : TE} {f : EM} (hc : X.calm = true) (hg : Gl X "sorted") (hm : X.mg "sorted" = none) (hg2 : Gl X "set") (hm2 : X.mg "set" = none) (he : PM X W e te f)
    (h1 : starEach [e] X.env = (false, eval e X.env) :: starEach [] X.env := by rfl) (h2 : (backTo q (starEach [] X.env)).any (·.1) = false := by rfl)
    (h3 : starEach [Expr.Call (.Name "set" p2) [e] [] q] X.env = (false, eval (Expr.Call (.Name "set" p2) [e] [] q) X.env) :: starEach [] X.env := by rfl) (h4 : (backTo pos (starEach [] X.env)).any (·.1) = false := by rfl) :
    PM X W (.Call (.Name "sorted" p) [.Call (.Name "set" p2) [e] [] q] [] pos) (tCB (rSortedS' X.w) (tCons (tCB (rSetK X.K X.w) (tCons te tNil)) tNil)) (eSortSet f) :=
  ⟨pe_callB (cr_sortedU hc) hg hm (by decide +kernel) (pa_cons (pe_callTy (cr_setK hc) hg2 hm2 (by decide +kernel) (pa_cons he.pe pa_nil h1) (by decide) (by decide) h1 h2) pa_nil h3) (by decide) (by decide) h3 h4, snd_sortset he.sd⟩
end DL
namespace DL
open PySem PySem.Spec PyProof.Rows L2
section
variable {K : PySem.W.Frag} {W : WX} {N M : Nat} {ρ : Pm} {G H : Hp} {σ : Slots} {δ : Env} {μ : Mem} {Q : VK} {v w : V} {x y : DV}
/-! ### a target of several names, any value -/
def gTgt (h : D → Env → Option Env) (f : EM) : SM := fun _ δ μ => lift (frzV f δ μ) δ fun x μ' => match x with
  | .dat d => match h d δ with
    | some δ' => .next δ' μ'
    | none => .bad
  | .loc _ => .bad
theorem snd_tgt {te : TE} {f : EM} {g : TG} {h : D → Env → Option Env} {ts : List Nat} (hg : TgOk K g h ts) (he : SndE K W te f) : SndS K W (tAsg te g) (gTgt h f) := fun N ρ G H σ δ μ Dn R E hp => by
  refine SndG.stm (t := te) he.toV R E hp fun x μ' G' H' v t' R' E' d hp' => ?_
  cases x with
  | loc n => exact hp'.elim
  | dat d0 =>
    simp only at hp'
    cases e : h d0 δ with
    | none => rw [e] at hp'; exact hp'.elim
    | some δ' =>
      rw [e] at hp'
      exact hg ρ G' H' μ' σ δ δ' v d0 _ R' E' d e fun σ' E2 _ _ => hp' ρ G' H' σ' t'.toS R' E2
/-! ### a display whose new lists are places -/
def newPl (N : Nat) (r : R) (μ : Mem) : Option (DV × Mem) := match r with
  | .dat d => some (.dat d, μ)
  | .loc n => some (.loc n, μ)
  | .nl xs => if N ≤ μ.length then some (.loc μ.length, μ ++ [.lst xs]) else none
  | .nk kvs => if N ≤ μ.length then some (.loc μ.length, μ ++ [.dct kvs]) else none
theorem newPl_ok {r : R} {G0 H0 : Hp} {μ2 : Mem} (R' : Rel K ρ G H μ) (t' : TrS N ρ G0 H0 ρ G H) (d : RpR K ρ G H0 H v r) (e : newPl N r μ = some (x, μ2)) :
    ∃ ρ1, TrS N ρ G0 H0 ρ1 G H ∧ Rel K ρ1 G H μ2 ∧ (∀ n b, ρ n = some b → ρ1 n = some b) ∧ DvOk K ρ1 G v x := by
  have key : bindR N 0 r [none] μ = .next [some x] μ2 := by
    cases r with
    | dat d => cases e; rfl
    | loc n => cases e; rfl
    | nl xs =>
      simp only [newPl] at e
      by_cases h : N ≤ μ.length
      · rw [if_pos h] at e; cases e; exact if_pos h
      · rw [if_neg h] at e; cases e
    | nk xs =>
      simp only [newPl] at e
      by_cases h : N ≤ μ.length
      · rw [if_pos h] at e; cases e; exact if_pos h
      · rw [if_neg h] at e; cases e
  obtain ⟨ρ1, y, h1, h2, h3, h4, h5⟩ := bindR_ok R' t' d key
  cases h5
  exact ⟨ρ1, h1, h2, h3, h4⟩
abbrev NM := Nat → Env → Mem → Res (List DV)
def nNil : NM := fun _ _ μ => .ok [] μ
def nCons (f : EM) (g : NM) : NM := fun N δ μ => (f δ μ).bind fun r μ1 => match newPl N r μ1 with
  | none => .bad
  | some (x, μ2) => (g N δ μ2).bind fun xs μ3 => .ok (x :: xs) μ3
/-- what is given by items that may be new places -/
def SndN (K : PySem.W.Frag) (W : WX) (t : TA) (f : NM) : Prop := ∀ (N : Nat) (ρ : Pm) (G H : Hp) (σ : Slots) (δ : Env) (μ : Mem) (Q : List V → Hp → Prop), Rel K ρ G H μ → EnvOk K ρ G σ δ →
  (match f N δ μ with
    | .ok xs μ' => ∀ ρ' G' H' vs, TrS N ρ G H ρ' G' H' → Rel K ρ' G' H' μ' → (∀ n b, ρ n = some b → ρ' n = some b) → DvL K ρ' G' vs xs → Q vs H'
    | .exc x μ' => ∀ ρ' G' H' cls d, TrS N ρ G H ρ' G' H' → Rel K ρ' G' H' μ' → (∀ n b, ρ n = some b → ρ' n = some b) → XcOk K G' H' x cls d → W cls d σ H'
    | .bad => False) → t σ H Q
theorem snd_nnil : SndN K W tNil nNil := fun N ρ G H σ δ μ Q R E hp => hp ρ G H [] (TrS.refl _ _ _ _) R (fun _ _ q => q) .nil
theorem snd_ncons {t : TE} {ts : TA} {f : EM} {g : NM} (h : SndE K W t f) (hs : SndN K W ts g) : SndN K W (tCons t ts) (nCons f g) := fun N ρ G H σ δ μ Q R E hp => by
  unfold nCons at hp
  refine h ρ G H σ δ μ _ R E ?_
  cases e : f δ μ with
  | bad => rw [e] at hp; exact hp
  | exc x μ' => rw [e] at hp; exact fun G' H' cls d t' R' q => hp ρ G' H' cls d t'.toS R' (fun _ _ q => q) q
  | ok r μ1 =>
    rw [e] at hp
    intro G1 H1 v t1 R1 d1
    simp only [Res.bind_ok] at hp
    cases e2 : newPl N r μ1 with
    | none => rw [e2] at hp; exact hp.elim
    | some q =>
      obtain ⟨x, μ2⟩ := q
      rw [e2] at hp
      obtain ⟨ρ1, T1, R2, up, dx⟩ := newPl_ok R1 (t1.toS (N := N)) d1 e2
      refine hs N ρ1 G1 H1 σ δ μ2 _ R2 ((E.mono t1.exG).up (Ex.refl _) up) ?_
      simp only at hp
      cases e3 : g N δ μ2 with
      | bad => rw [e3] at hp; exact hp
      | exc z μ3 =>
        rw [e3] at hp
        exact fun ρ' G' H' cls d t' R' up' q => hp ρ' G' H' cls d (T1.trans t') R' (fun n b z => up' n b (up n b z)) q
      | ok xs μ3 =>
        rw [e3] at hp
        exact fun ρ' G' H' vs t' R' up' dl => hp ρ' G' H' (v :: vs) (T1.trans t') R' (fun n b z => up' n b (up n b z)) (.cons (dx.mono t'.exG up') dl)
def gDisp (i : Nat) (f : NM) : SM := fun N δ μ => match f N δ μ with
  | .ok xs μ1 => if xs.length ≤ sizeLine then bindR N i (.nl xs) δ μ1 else .bad
  | .exc x μ1 => .exc x δ μ1
  | .bad => .bad
theorem snd_disp {ta : TA} {f : NM} (i : Nat) (h : SndN K W ta f) : SndS K W (tAsg (tLst ta) (gName i)) (gDisp i f) := fun N ρ G H σ δ μ Dn R E hp => by
  refine h N ρ G H σ δ μ _ R E ?_
  unfold gDisp at hp
  cases e : f N δ μ with
  | bad => rw [e] at hp; exact hp
  | exc x μ' => rw [e] at hp; exact fun ρ' G' H' cls d t' R' up q => hp ρ' G' H' σ cls d t' R' (E.up t'.exG up) q
  | ok xs μ1 =>
    rw [e] at hp
    intro ρ' G' H' vs t' R' up dl
    simp only at hp
    by_cases c : xs.length ≤ sizeLine
    case neg => rw [if_neg c] at hp; exact hp.elim
    rw [if_pos c] at hp
    refine ⟨by rw [paired_len dl]; exact c, fun p hn => ?_⟩
    obtain ⟨n1, n2⟩ := fresh_ne R' hn
    obtain ⟨R2, t2⟩ := R'.lay (o := .lst vs) hn
    refine snd_bindR (σ := σ) i R2 (E.up t'.exG up) (t2.toS (N := N)) (G0 := G') (H0 := H') (r := .nl xs) ⟨p, vs, rfl, upd_same, dl, n1, n2, hn⟩ (PostS.shift t' hp)
/-! ### -x -/
def dNeg (x : DV) (μ : Mem) : Res R := match asI x with
  | some i => .ok (.dat (.int (-i))) μ
  | none => .bad
def eUn (g : DV → Mem → Res R) (f : EM) : EM := fun δ μ => (frzV f δ μ).bind fun x μ' => g x μ'
theorem snd_neg {ta : TE} {f : EM} (h : SndE K W ta f) : SndE K W (tUn (rU fun i => .int (-i)) ta) (eUn dNeg f) := fun ρ G H σ δ μ Q R E hp => by
  refine SndG.seq (t := ta) h.toV R E hp fun x μ1 G1 H1 v t1 R1 E1 d1 hp1 => ?_
  unfold dNeg at hp1
  split at hp1
  · rename_i i e
    exact ⟨i, asI_ok d1 e, hp1 G1 H1 _ t1 R1 (Rp.int _)⟩
  · exact hp1.elim
/-! ### constants of the text -/
def absL : List Value → Option (List V)
  | [] => some []
  | u :: us => match absV u with
    | none => none
    | some v => (absL us).map (v :: ·)
theorem relV_of_abs {u : Value} {v : V} (h : absV u = some v) : L2.RelV v u := by
  cases u with
  | none => cases h; rfl
  | bool b => cases h; rfl
  | int i t => cases h; exact ⟨t, rfl⟩
  | str s t => cases h; exact ⟨t, rfl⟩
  | bytes s t => cases h; exact ⟨t, rfl⟩
  | float s t => cases h; exact ⟨t, rfl⟩
  | ref a => cases h; rfl
  | type n => cases h; rfl
  | _ => cases h
theorem absL_ok : ∀ {us : List Value} {vs : List V}, absL us = some vs → Vals vs us
  | [], _, h => by cases h; exact .nil
  | u :: us, _, h => by
    simp only [absL] at h
    cases e : absV u with
    | none => rw [e] at h; cases h
    | some v =>
      rw [e] at h
      cases e2 : absL us with
      | none => rw [e2] at h; cases h
      | some vs => rw [e2] at h; cases h; exact .cons (relV_of_abs e) (absL_ok e2)
/-- a tuple of texts that the text holds -/
theorem rp_ktup {a : Addr} {oc : Option Addr} {its : Array Value} {n : Nat} {sl : Array (Option Value)} {ss : List Str} (hk : K.lookup a = some ⟨.type "tuple", oc, .seq its n, sl⟩) (hz : its.size ≤ sizeLine) (hv : absL its.toList = some (ss.map V.str)) (G : Hp) :
    Rp K G (.ref a) (.tup (ss.map D.str)) := by
  refine Rp.tup (vs := ss.map V.str) (.inr ⟨_, its, n, hk, rfl, rfl, hz, absL_ok hv⟩) ?_
  clear hv
  induction ss with
  | nil => exact .nil
  | cons s ss ih => exact .cons (.str s) ih
/-- x in d, d a dict of the text whose keys are texts -/
def rInKd (K : PySem.W.Frag) (d : Addr) (neg : Bool) : R2 := fun x y H Q => ∃ (z : Str) (r : Option Value), x = .str z ∧ y = .ref d ∧ PySem.W.nsIn K d z = some r ∧ Q (.bl (if neg = true then !r.isSome else r.isSome)) H
def eInK (neg : Bool) (ks : List Str) (f : EM) : EM := fun δ μ => (frzV f δ μ).bind fun x μ' => match asStr x with
  | some z => .ok (.dat (.bl (if neg = true then !(ks.any fun k => decide (k = z)) else ks.any fun k => decide (k = z)))) μ'
  | none => .bad
theorem snd_inKd {d : Addr} {ks : List Str} {te : TE} {f : EM} {neg : Bool} (hk : ∀ z, ∃ r, PySem.W.nsIn K d z = some r ∧ r.isSome = (ks.any fun k => decide (k = z))) (h : SndE K W te f) : SndE K W (tOp (rInKd K d neg) te (tC (.ref d))) (eInK neg ks f) := fun ρ G H σ δ μ Q R E hp => by
  refine SndG.seq (t := te) h.toV R E hp fun x μ1 G1 H1 v t1 R1 E1 d1 hp1 => ?_
  cases e : asStr x with
  | none => rw [e] at hp1; exact hp1.elim
  | some z =>
    rw [e] at hp1
    obtain ⟨r, h1, h2⟩ := hk z
    exact ⟨z, r, asStr_ok d1 e, rfl, h1, by rw [h2]; exact hp1 G1 H1 _ t1 R1 (Rp.bl _)⟩
theorem nsIn_keys {d : Addr} {es : Array DictEntry} {n : Nat} {ks : List Str} (hl : K.lookup d = some ⟨.type "dict", none, .dict es n, #[]⟩) (he : es.toList.map (fun e => match e.key with | .str x _ => some x | _ => none) = ks.map some) (z : Str) :
    ∃ r, PySem.W.nsIn K d z = some r ∧ r.isSome = (ks.any fun k => decide (k = z)) := by
  have key : ∀ (l : List DictEntry) (ks : List Str), l.map (fun e => match e.key with | .str x _ => some x | _ => none) = ks.map some →
      (∃ e, l.find? (·.key.isStr z) = some e ∧ (ks.any fun k => decide (k = z)) = true) ∨ (l.find? (·.key.isStr z) = none ∧ l.any (·.refKey) = false ∧ (ks.any fun k => decide (k = z)) = false) := by
    intro l
    induction l with
    | nil => intro ks h; cases ks with
      | nil => exact .inr ⟨rfl, rfl, rfl⟩
      | cons _ _ => cases h
    | cons e l ih =>
      intro ks h
      cases ks with
      | nil => cases h
      | cons k ks =>
        simp only [List.map_cons, List.cons.injEq] at h
        obtain ⟨h1, h2⟩ := h
        cases ek : e.key with
        | str x t =>
          rw [ek] at h1
          simp only [Option.some.injEq] at h1
          subst h1
          have es : e.key.isStr z = decide (x = z) := by
            rw [ek]
            show (x == z) = decide (x = z)
            by_cases c : x = z
            · subst c; simp
            · rw [decide_eq_false c]; exact beq_eq_false_iff_ne.mpr c
          by_cases c : x = z
          · refine .inl ⟨e, ?_, by simp [c]⟩
            rw [List.find?_cons_of_pos]
            rw [es]; exact decide_eq_true c
          · have q : ¬ (e.key.isStr z = true) := by rw [es]; simp [c]
            rw [List.find?_cons_of_neg (by simpa using q)]
            rcases ih ks h2 with ⟨f, f1, f2⟩ | ⟨f1, f2, f3⟩
            · exact .inl ⟨f, f1, by rw [List.any_cons, f2, Bool.or_true]⟩
            · refine .inr ⟨f1, ?_, by rw [List.any_cons, f3, decide_eq_false c]; rfl⟩
              rw [List.any_cons, f2, Bool.or_false]
              simp [DictEntry.refKey, ek]
        | _ => rw [ek] at h1; cases h1
  unfold PySem.W.nsIn
  rw [hl]
  rcases key es.toList ks he with ⟨e, h1, h2⟩ | ⟨h1, h2, h3⟩
  · simp only [h1]; exact ⟨_, rfl, by rw [h2]; rfl⟩
  · simp only [h1, h2]; exact ⟨none, rfl, by rw [h3]; rfl⟩
end
structure PMN (X : Cx) (W : WX) (es : List Expr) (ta : TA) (f : NM) : Prop where
  pe : PA X es ta
  sd : SndN X.K W ta f
section
variable {X : Cx} {W : WX} {pos p : Pos} {e a tg : Expr} {es : List Expr} {te ta : TE} {f fa : EM} {tA : TA} {fN : NM}
theorem sm_tgt {g : TG} {h : D → Env → Option Env} {ts : List Nat} (hg : PMG X tg g h ts) (he : PM X W e te f) (a1 : swapsWithSole [tg] e pos.line X.env = pure false := by rfl) (a2 : swappedStores [tg] e X.env = pure none := by rfl) (a3 : List.map (fun x => x.snd) (assignEach [tg] X.env) = [assign tg X.env] := by rfl) :
    PSM X W (.Assign [tg] e pos) (tAsg te g) (gTgt h f) := ⟨ps_asg he.pe hg.pg a1 a2 a3, snd_tgt hg.ok he.sd⟩
theorem n_nil : PMN X W [] tNil nNil := ⟨pa_nil, snd_nnil⟩
theorem n_cons (h : PM X W e te f) (hs : PMN X W es tA fN) (hst : starEach (e :: es) X.env = (false, eval e X.env) :: starEach es X.env := by rfl) : PMN X W (e :: es) (tCons te tA) (nCons f fN) := ⟨pa_cons h.pe hs.pe hst, snd_ncons h.sd hs.sd⟩
theorem sm_disp {x : Str} {q : Pos} (i : Nat) (hN : X.N.Nodup) (h : PMN X W es tA fN) (hi : X.N[i]? = some x := by rfl) (hx : Loc X.env.scope x := by first | exact Or.inl rfl | exact Or.inr rfl)
    (hf : X.fn x = true ∨ X.env.scope.names.lookup x = some .local := by first | exact .inl rfl | exact .inr rfl)
    (a1 : swapsWithSole [.Name x p] (.List es q) pos.line X.env = pure false := by rfl) (a2 : swappedStores [.Name x p] (.List es q) X.env = pure none := by rfl) (a3 : List.map (fun x => x.snd) (assignEach [.Name x p] X.env) = [assign (.Name x p) X.env] := by rfl) :
    PSM X W (.Assign [.Name x p] (.List es q) pos) (tAsg (tLst tA) (gName i)) (gDisp i fN) := ⟨ps_asg (pe_lst h.pe) (pg_name hN hi hx hf) a1 a2 a3, snd_disp i h.sd⟩
theorem pm_inKd {x : Str} {ks : List Str} {d : Addr} {es : Array DictEntry} {n : Nat} (Dd : KDict X.K X.w d es n) (hk : es.toList.map (fun e => match e.key with | .str x _ => some x | _ => none) = ks.map some) (hg : Gl X x) (hm : X.mg x = some (.ref d)) (ha : PM X W a ta fa)
    (hd : (x == ("__debug__" : Str)) = false := by decide) (hb : behindInMarks .In (.Name x p) = false := by rfl) : PM X W (.Compare a [.In] [.Name x p] pos) (tOp (rInKd X.K d false) ta (tC (.ref d))) (eInK false ks fa) :=
  ⟨pe_cmpR (op_in_kd Dd) ha.pe (pe_glob hg hm rfl hd) hb, snd_inKd (nsIn_keys Dd.at_ hk) ha.sd⟩
theorem pm_notInKd {x : Str} {ks : List Str} {d : Addr} {es : Array DictEntry} {n : Nat} (Dd : KDict X.K X.w d es n) (hk : es.toList.map (fun e => match e.key with | .str x _ => some x | _ => none) = ks.map some) (hg : Gl X x) (hm : X.mg x = some (.ref d)) (ha : PM X W a ta fa)
    (hd : (x == ("__debug__" : Str)) = false := by decide) (hb : behindInMarks .NotIn (.Name x p) = false := by rfl) : PM X W (.Compare a [.NotIn] [.Name x p] pos) (tOp (rInKd X.K d true) ta (tC (.ref d))) (eInK true ks fa) :=
  ⟨pe_cmpR (op_notIn_kd Dd) ha.pe (pe_glob hg hm rfl hd) hb, snd_inKd (nsIn_keys Dd.at_ hk) ha.sd⟩
theorem pm_neg (ha : PM X W a ta fa) : PM X W (.UnaryOp .USub a pos) (tUn (rU fun i => .int (-i)) ta) (eUn dNeg fa) := ⟨pe_un un_neg ha.pe, snd_neg ha.sd⟩
end
end DL
namespace DL
open PySem PySem.Spec PyProof.Rows L2
/-! ### the rules again, with the frame named (so that they hold inside a comprehension) -/
section
variable {X : Cx} {W : WX} {pos p p2 q tpos apos cpos : Pos} {a b e o i : Expr} {es : List Expr} {lo hi : Option Expr} {te ta tb to ti : TE} {tA : TA} {fA : AM} {tl th : TO} {f fa fb fo fi : EM} {fl fh : OM}
theorem op_eqK (K : PySem.W.Frag) (h : X.A.units + 64 < cLine) (hK : X.K = K := by rfl) : OpR X (compareOp .Eq) (rEqQ K) := by subst hK; exact op_eqQ h
theorem op_neK (K : PySem.W.Frag) (h : X.A.units + 64 < cLine) (hK : X.K = K := by rfl) : OpR X (compareOp .NotEq) (rNeQ K) := by subst hK; exact op_neQ h
theorem op_inK (K : PySem.W.Frag) (hK : X.K = K := by rfl) : OpR X (compareOp .In) (rIn K false) := by subst hK; exact op_in_seq
theorem op_notInK (K : PySem.W.Frag) (hK : X.K = K := by rfl) : OpR X (compareOp .NotIn) (rIn K true) := by subst hK; exact op_notIn_seq
theorem pm_cmpK {op : CmpOp} {r : R2} {g : DV → DV → Mem → Res R} {K : PySem.W.Frag} (ho : OpR X (compareOp op) r) (hd : OpD K r g) (ha : PM X W a ta fa) (hb : PM X W b tb fb) (hm : behindInMarks op b = false) (hK : X.K = K := by rfl) : PM X W (.Compare a [op] [b] pos) (tOp r ta tb) (eOp g fa fb) := by
  subst hK; exact pm_cmp ho hd ha hb hm
theorem pt_cmpK {op : CmpOp} {r : R2} {g : DV → DV → Mem → Res R} {K : PySem.W.Frag} (ho : OpR X (compareOp op) r) (hd : OpD K r g) (ha : PM X W a ta fa) (hb : PM X W b tb fb) (hm : behindInMarks op b = false) (hK : X.K = K := by rfl) : PMT X W (.Compare a [op] [b] pos) (tTest (tOp r ta tb)) (tmB (eOp g fa fb)) := by
  subst hK; exact pt_cmp ho hd ha hb hm
theorem call_lenK (K : PySem.W.Frag) (hK : X.K = K := by rfl) : CallR X (.builtin "len") (fun xs H Q => ∃ x n, xs = [x] ∧ LenV K x H n ∧ Q (V.int ↑n) H) := by subst hK; exact call_len
theorem call_list_ofK (K : PySem.W.Frag) (hK : X.K = K := by rfl) : CallR X (.type "list") (fun xs H Q => ∃ p ys, xs = [V.ref p] ∧ (SqL K H p ys ∨ SqT K H p ys) ∧ ∀ (l : Addr), H l = none → Q (V.ref l) (upd H l (HO.lst ys))) := by subst hK; exact call_list_of
theorem call_tuple_ofK (K : PySem.W.Frag) (hK : X.K = K := by rfl) : CallR X (.type "tuple") (fun xs H Q => ∃ p ys, xs = [V.ref p] ∧ ((SqL K H p ys ∧ ∀ (l : Addr), H l = none → Q (V.ref l) (upd H l (HO.tup ys))) ∨ SqT K H p ys ∧ Q (V.ref p) H)) := by subst hK; exact call_tuple_of
theorem cr_allK (K : PySem.W.Frag) (h : X.calm = true) (hK : X.K = K := by rfl) : CallR X (.builtin "all") (rAll K) := by subst hK; exact cr_all h
theorem cr_anyK (K : PySem.W.Frag) (h : X.calm = true) (hK : X.K = K := by rfl) : CallR X (.builtin "any") (rAny K) := by subst hK; exact cr_any h
theorem cr_reprK (K : PySem.W.Frag) {k : Nat} (h : Room k X.A) (hg : X.A.guards = some []) (hK : X.K = K := by rfl) : CallR X (.builtin "repr") (rRepr K) := by subst hK; exact cr_repr h hg
theorem pm_cbK {x : Str} {id : String} {r : List V → Hp → VK → Prop} {g : List DV → Mem → Res R} {K : PySem.W.Frag} (hr : CallR X (.builtin id) r) (hd : CallD K r g) (hg : Gl X x) (hm : X.mg x = none) (hv : bootBuiltins x = some (.builtin id)) (ha : PMA X W (e :: es) tA fA) (hK : X.K = K := by rfl)
    (hn : x ≠ "__name__" := by decide) (hdb : (x == ("__debug__" : Str)) = false := by decide) (he : starEach (e :: es) X.env = (false, eval e X.env) :: starEach es X.env := by rfl) (hpl : (backTo pos (starEach es X.env)).any (·.1) = false := by rfl) :
    PM X W (.Call (.Name x p) (e :: es) [] pos) (tCB r tA) (eCB g fA) := by subst hK; exact pm_cb hr hd hg hm hv ha hn hdb he hpl
theorem pm_ctK {x : Str} {T : String} {r : List V → Hp → VK → Prop} {g : List DV → Mem → Res R} {K : PySem.W.Frag} (hr : CallR X (.type T) r) (hd : CallD K r g) (hg : Gl X x) (hm : X.mg x = none) (hv : bootBuiltins x = some (.type T)) (ha : PMA X W (e :: es) tA fA) (hK : X.K = K := by rfl)
    (hn : x ≠ "__name__" := by decide) (hdb : (x == ("__debug__" : Str)) = false := by decide) (he : starEach (e :: es) X.env = (false, eval e X.env) :: starEach es X.env := by rfl) (hpl : (backTo pos (starEach es X.env)).any (·.1) = false := by rfl) :
    PM X W (.Call (.Name x p) (e :: es) [] pos) (tCB r tA) (eCB g fA) := by subst hK; exact pm_ct hr hd hg hm hv ha hn hdb he hpl
theorem pm_callK {P : Program} {w : World} {K : PySem.W.Frag} {mg : Str → Option Value} {base : Heap} {cx : CXT} {k n : Nat} {x : Str} {F : List DV → Mem → Res R} (Fn : FnD P w K mg base cx k x n F) (hr : Room k X.A) (hgd : X.A.guards = some []) (hg : Gl X x)
    (hx : ∀ σ, PassesAt cx X σ (EW W σ)) (ha : PMA X W (e :: es) tA fA) (h1 : X.prog = P := by rfl) (h2 : X.w = w := by rfl) (h3 : X.K = K := by rfl) (h4 : X.mg = mg := by rfl) (h5 : X.base = base := by rfl) (hdb : (x == ("__debug__" : Str)) = false := by decide)
    (he : starEach (e :: es) X.env = (false, eval e X.env) :: starEach es X.env := by rfl) (hpl : (backTo pos (starEach es X.env)).any (·.1) = false := by rfl) :
    PM X W (.Call (.Name x p) (e :: es) [] pos) (tCallSD (spF K n F) [] (EW W) tA) (eCB F fA) := by subst h1 h2 h3 h4 h5; exact pm_call Fn hr hgd hg hx ha hdb he hpl
theorem pm_slK (K : PySem.W.Frag) (h : PM X W e te f) (hl : PMO X W lo tl fl) (hh : PMO X W hi th fh) (hK : X.K = K := by rfl) : PM X W (.Subscript e (.Slice lo hi none p2) pos) (tSl (rSl K) te tl th) (eSl f fl fh) := by subst hK; exact pm_sl h hl hh
theorem pm_addK (K : PySem.W.Frag) (ha : PM X W a ta fa) (hb : PM X W b tb fb) (hK : X.K = K := by rfl) : PM X W (.BinOp a .Add b pos) (tOp (rPlus K) ta tb) (eOp dAdd fa fb) := by subst hK; exact pm_add ha hb
theorem pm_idxK (K : PySem.W.Frag) (ha : PM X W a ta fa) (hb : PM X W b tb fb) (hs : PlainIx b) (hK : X.K = K := by rfl) : PM X W (.Subscript a b pos) (tOp (rIx K) ta tb) (eOp dIx fa fb) := by subst hK; exact pm_idx ha hb hs
theorem mi_seqK (K : PySem.W.Frag) {tg : Expr} (h : PM X W e te f) (hK : X.K = K := by rfl) : PMI X W tg e (iSeq K te) (imSeq f) := by subst hK; exact mi_seq h
theorem mi_enumK (K : PySem.W.Frag) {elts : List Expr} {kk : Nat} (hg : Gl X "enumerate") (hm : X.mg "enumerate" = none) (h : PMA X W [e] tA fA) (hK : X.K = K := by rfl) (hs : starEach [e] X.env = [(false, eval e X.env)] := by rfl) : PMI X W (.Tuple elts kk tpos) (.Call (.Name "enumerate" p) [e] [] pos) (iEnumS K tA) (imEnum fA) := by subst hK; exact mi_enum hg hm h hs
theorem mt_extK (K : PySem.W.Frag) (hK : X.K = K := by rfl) : MtM X "list.extend" (rExt K) := by subst hK; exact mt_ext
theorem pm_bmK (K : PySem.W.Frag) {name : Str} {T id : String} {r : V → List V → Hp → VK → Prop} {c : DV → Mem → Bool} {g : DV → List DV → Mem → Res R} (hp : PlainAttrs T) (hsl : Slot T name id) (hty : typeOf (Value.builtin id) = pure (Value.type "method_descriptor")) (hm : MtR X id r) (hT : TyD K T c) (hd : MtD K r g) (ho : PM X W o to f) (ha : PMA X W (e :: es) tA fA) (hK : X.K = K := by rfl)
    (h1 : attributeBase o name X.env (eval o X.env) = eval o X.env := by rfl)
    (h2 : (((((backTo cpos (starEach (e :: es) X.env)).all fun x => !x.fst) && (backToKw cpos (keywordEach [] X.env)).all fun x => x.fst.isSome) && decide (((e :: es).length + ([] : List Keyword).length + if ([] : List Keyword).isEmpty = true then 0 else 1) < 30)) = true) := by rfl)
    (h3 : (apos.endLine == cpos.line) = true := by rfl) (h4 : starEach (e :: es) X.env = (false, eval e X.env) :: starEach es X.env := by rfl) (h5 : ((backTo cpos (starEach es X.env)).any fun x => x.fst) = false := by rfl) :
    PM X W ((o.Attribute name apos).Call (e :: es) [] cpos) (tBM K T r to tA) (eBM c g f fA) := by subst hK; exact pm_bm hp hsl hty hm hT hd ho ha h1 h2 h3 h4 h5
theorem pm_bm0K (K : PySem.W.Frag) {name : Str} {T id : String} {r : V → List V → Hp → VK → Prop} {c : DV → Mem → Bool} {g : DV → List DV → Mem → Res R} (hp : PlainAttrs T) (hsl : Slot T name id) (hty : typeOf (Value.builtin id) = pure (Value.type "method_descriptor")) (hm : MtR X id r) (hT : TyD K T c) (hd : MtD K r g) (ho : PM X W o to f) (hK : X.K = K := by rfl)
    (h1 : attributeBase o name X.env (eval o X.env) = eval o X.env := by rfl) (h3 : (apos.endLine == cpos.line) = true := by rfl) :
    PM X W ((o.Attribute name apos).Call [] [] cpos) (tBM0 K T r to) (eBM0 c g f) := by subst hK; exact pm_bm0 hp hsl hty hm hT hd ho h1 h3
theorem pm_sortsetK (K : PySem.W.Frag) (w : World) (hc : X.calm = true) (hg : Gl X "sorted") (hm : X.mg "sorted" = none) (hg2 : Gl X "set") (hm2 : X.mg "set" = none) (he : PM X W e te f) (hK : X.K = K := by rfl) (hw : X.w = w := by rfl)
    (h1 : starEach [e] X.env = (false, eval e X.env) :: starEach [] X.env := by rfl) (h2 : (backTo q (starEach [] X.env)).any (·.1) = false := by rfl)
    (h3 : starEach [Expr.Call (.Name "set" p2) [e] [] q] X.env = (false, eval (Expr.Call (.Name "set" p2) [e] [] q) X.env) :: starEach [] X.env := by rfl) (h4 : (backTo pos (starEach [] X.env)).any (·.1) = false := by rfl) :
    PM X W (.Call (.Name "sorted" p) [.Call (.Name "set" p2) [e] [] q] [] pos) (tCB (rSortedS' w) (tCons (tCB (rSetK K w) (tCons te tNil)) tNil)) (eSortSet f) := by subst hK hw; exact pm_sortset hc hg hm hg2 hm2 he h1 h2 h3 h4
theorem pm_inKdK {K : PySem.W.Frag} {w : World} {x : Str} {ks : List Str} {d : Addr} {es : Array DictEntry} {n : Nat} (Dd : KDict K w d es n) (hk : es.toList.map (fun e => match e.key with | .str x _ => some x | _ => none) = ks.map some) (hg : Gl X x) (hm : X.mg x = some (.ref d)) (ha : PM X W a ta fa) (hK : X.K = K := by rfl) (hw : X.w = w := by rfl)
    (hd : (x == ("__debug__" : Str)) = false := by decide) (hb : behindInMarks .In (.Name x p) = false := by rfl) : PM X W (.Compare a [.In] [.Name x p] pos) (tOp (rInKd K d false) ta (tC (.ref d))) (eInK false ks fa) := by subst hK hw; exact pm_inKd Dd hk hg hm ha hd hb
theorem pm_notInKdK {K : PySem.W.Frag} {w : World} {x : Str} {ks : List Str} {d : Addr} {es : Array DictEntry} {n : Nat} (Dd : KDict K w d es n) (hk : es.toList.map (fun e => match e.key with | .str x _ => some x | _ => none) = ks.map some) (hg : Gl X x) (hm : X.mg x = some (.ref d)) (ha : PM X W a ta fa) (hK : X.K = K := by rfl) (hw : X.w = w := by rfl)
    (hd : (x == ("__debug__" : Str)) = false := by decide) (hb : behindInMarks .NotIn (.Name x p) = false := by rfl) : PM X W (.Compare a [.NotIn] [.Name x p] pos) (tOp (rInKd K d true) ta (tC (.ref d))) (eInK true ks fa) := by subst hK hw; exact pm_notInKd Dd hk hg hm ha hd hb
theorem pt_inKdK {K : PySem.W.Frag} {w : World} {x : Str} {ks : List Str} {d : Addr} {es : Array DictEntry} {n : Nat} (Dd : KDict K w d es n) (hk : es.toList.map (fun e => match e.key with | .str x _ => some x | _ => none) = ks.map some) (hg : Gl X x) (hm : X.mg x = some (.ref d)) (ha : PM X W a ta fa) (hK : X.K = K := by rfl) (hw : X.w = w := by rfl)
    (hd : (x == ("__debug__" : Str)) = false := by decide) (hb : behindInMarks .In (.Name x p) = false := by rfl) : PMT X W (.Compare a [.In] [.Name x p] pos) (tTest (tOp (rInKd K d false) ta (tC (.ref d)))) (tmB (eInK false ks fa)) := by
  subst hK hw; exact ⟨pt_cmpR (op_in_kd Dd) ha.pe (pe_glob hg hm rfl hd) hb, snd_tmB (snd_inKd (nsIn_keys Dd.at_ hk) ha.sd) fun _ _ _ h => h⟩
theorem pt_notInKdK {K : PySem.W.Frag} {w : World} {x : Str} {ks : List Str} {d : Addr} {es : Array DictEntry} {n : Nat} (Dd : KDict K w d es n) (hk : es.toList.map (fun e => match e.key with | .str x _ => some x | _ => none) = ks.map some) (hg : Gl X x) (hm : X.mg x = some (.ref d)) (ha : PM X W a ta fa) (hK : X.K = K := by rfl) (hw : X.w = w := by rfl)
    (hd : (x == ("__debug__" : Str)) = false := by decide) (hb : behindInMarks .NotIn (.Name x p) = false := by rfl) : PMT X W (.Compare a [.NotIn] [.Name x p] pos) (tTest (tOp (rInKd K d true) ta (tC (.ref d)))) (tmB (eInK true ks fa)) := by
  subst hK hw; exact ⟨pt_cmpR (op_notIn_kd Dd) ha.pe (pe_glob hg hm rfl hd) hb, snd_tmB (snd_inKd (nsIn_keys Dd.at_ hk) ha.sd) fun _ _ _ h => h⟩
theorem pg_tpK (K : PySem.W.Frag) {k n : Nat} {gs : TGs} {hs : List D → Env → Option Env} {ts : List Nat} (hc : X.calm = true) (h : PMGs X es gs hs ts) (hK : X.K = K := by rfl) (h1 : (assignEach es X.env).length = n := by rfl) (h2 : List.findIdx? (fun x => x.fst) (assignEach es X.env) = none := by rfl) :
    PMG X (.Tuple es k pos) (gTup K n gs) (tgTup n hs) ts := by subst hK; exact pg_tp hc h h1 h2
theorem sm_augSK (K : PySem.W.Frag) (ho : PM X W o to fo) (hi : PM X W i ti fi) (he : PM X W e te f) (hK : X.K = K := by rfl)
    (hs : ∀ (ov iv new : Value), augStore i ov iv new = (do
                      holding [new, ov, iv] (setItem ov iv new)
                      release [new, ov, iv] []
                      pure Flow.next) := by intro _ _ _; rfl) :
    PSM X W (.AugAssign (o.Subscript i tpos) .Add e pos) (tAugS to ti te (rGetL K) (ipI fun i j => i + j) rSetL) (gAugS (fun i j => i + j) fo fi f) := by subst hK; exact sm_augS ho hi he hs
end
end DL
namespace DL
open PySem PySem.Spec PyProof.Rows L2
/-! ### the bag of draws -/
structure Bg where
  a : Int
  b : Int
  c : Int
  cs : List Int
def Bg.pl (B : Bg) : Pl := .lst [.dat (.int B.a), .dat (.int B.b), .dat (.int B.c), .dat (.lst (B.cs.map D.int))]
structure Bg.ok (B : Bg) : Prop where
  a : 0 ≤ B.a
  b : 0 ≤ B.b
  b' : B.b < 2147483647
  c : 0 ≤ B.c
  cs : ∀ z ∈ B.cs, 0 ≤ z
def Bg.cell (B : Bg) : Int := if B.c < B.cs.length then B.cs.getD B.c.toNat 0 else 0
def Bg.fill (B : Bg) : Bg := if B.a = 0 then ⟨if 1000000000000000000 ≤ B.cell then B.cell else 0, (B.b * 48271 + B.cell % 2147483647 + 7919 * (B.c + 1)) % 2147483647, B.c + 1, B.cs⟩ else B
def Bg.low (B : Bg) (m : Int) : Int := ((B.b + 1) * 39373 % 1000000007 * ((B.b + 1) * 39373 % 1000000007) % 998244353 * 30011) % 998244353 / 7 % m
def takeB (B : Bg) (m : Int) : Int × Bg := if 0 < B.fill.a then (B.fill.a % m, { B.fill with a := B.fill.a / m }) else (B.fill.low m, B.fill)
def gTake : SM :=
    (gSeq (gIf (tmB (eOp dEq (eOp dIx (eVar 0) (eD (.int 0))) (eD (.int 0)))) (gSeq (gAsg 2 (eD (.int 0)))
    (gSeq (gIf (tmB (eOp dLt (eOp dIx (eVar 0) (eD (.int 2))) (eCB (d1 dLen) (aCons (eOp dIx (eVar 0) (eD (.int 3))) aNil)))) (gAsg 2 (eOp dIx (eOp dIx (eVar 0) (eD (.int 3))) (eOp dIx (eVar 0) (eD (.int 2))))) gNext)
    (gSeq (gAugS (fun i j => i + j) (eVar 0) (eD (.int 2)) (eD (.int 1)))
    (gSeq (gIf (tmB (eOp dGe (eVar 2) (eD (.int 1000000000000000000)))) (gSet (eVar 0) (eD (.int 0)) (eVar 2)) gNext)
    (gSeq (gAsg 3 (eOp dAdd (eOp dAdd (eOp dMul (eOp dIx (eVar 0) (eD (.int 1))) (eD (.int 48271))) (eOp dMod (eCB (d1 dInt) (aCons (eVar 2) aNil)) (eD (.int 2147483647)))) (eOp dMul (eD (.int 7919)) (eOp dIx (eVar 0) (eD (.int 2))))))
    (gSet (eVar 0) (eD (.int 1)) (eOp dMod (eCB (d1 dInt) (aCons (eVar 3) aNil)) (eD (.int 2147483647))))))))) gNext)
    (gSeq (gIf (tmB (eOp dGt (eOp dIx (eVar 0) (eD (.int 0))) (eD (.int 0)))) (gSeq (gAsg 4 (eOp dMod (eCB (d1 dInt) (aCons (eOp dIx (eVar 0) (eD (.int 0))) aNil)) (eVar 1)))
    (gSeq (gSet (eVar 0) (eD (.int 0)) (eOp dDiv (eCB (d1 dInt) (aCons (eOp dIx (eVar 0) (eD (.int 0))) aNil)) (eVar 1)))
    (gRet (eVar 4)))) gNext)
    (gSeq (gAsg 5 (eOp dMod (eCB (d1 dInt) (aCons (eOp dMul (eOp dAdd (eOp dIx (eVar 0) (eD (.int 1))) (eD (.int 1))) (eD (.int 39373))) aNil)) (eD (.int 1000000007))))
    (gSeq (gAsg 6 (eOp dMod (eCB (d1 dInt) (aCons (eOp dMul (eOp dMod (eCB (d1 dInt) (aCons (eOp dMul (eVar 5) (eVar 5)) aNil)) (eD (.int 998244353))) (eD (.int 30011))) aNil)) (eD (.int 998244353))))
    (gRet (eOp dMod (eCB (d1 dInt) (aCons (eOp dDiv (eVar 6) (eD (.int 7))) aNil)) (eVar 1)))))))
theorem dEqB_int (b : Bool) (i j : Int) (μ : Mem) : dEqS b (.dat (.int i)) (.dat (.int j)) μ = .ok (.dat (.bl ((i == j) == b))) μ := by
  simp [dEqS, asStr, dEqB, peekPy, peek, peekK, toPy, SeqAt.shaped, PyData.eqv, PyData.canLay0, PyData.depth]
theorem frz_ofV (x : DV) : frz (ofV x) = some x := by cases x <;> rfl
/-- the first part: a new cell when the last is used up -/
theorem fill_ok {B : Bg} (h : B.ok) : B.fill.ok := by
  unfold Bg.fill
  split
  · rename_i e
    have hc : 0 ≤ B.cell := by
      unfold Bg.cell
      split
      · rw [List.getD_eq_getElem?_getD]
        cases q : B.cs[B.c.toNat]? with
        | none => exact Int.le_refl 0
        | some z => exact h.cs z (List.mem_of_getElem? q)
      · exact Int.le_refl 0
    exact ⟨by dsimp only; split <;> omega, by dsimp only; omega, by dsimp only; omega, by dsimp only; have := h.c; omega, h.cs⟩
  · exact h
theorem takeB_ok {B : Bg} (h : B.ok) {m : Int} (hm : 0 < m) : (takeB B m).2.ok ∧ 0 ≤ (takeB B m).1 ∧ (takeB B m).1 < m := by
  have f := fill_ok h
  unfold takeB
  split
  · exact ⟨⟨Int.ediv_nonneg f.a (by omega), f.b, f.b', f.c, f.cs⟩, Int.emod_nonneg _ (by omega), Int.emod_lt_of_pos _ hm⟩
  · exact ⟨f, Int.emod_nonneg _ (by omega), Int.emod_lt_of_pos _ hm⟩

def gFill : SM := (gIf (tmB (eOp dEq (eOp dIx (eVar 0) (eD (.int 0))) (eD (.int 0)))) (gSeq (gAsg 2 (eD (.int 0)))
    (gSeq (gIf (tmB (eOp dLt (eOp dIx (eVar 0) (eD (.int 2))) (eCB (d1 dLen) (aCons (eOp dIx (eVar 0) (eD (.int 3))) aNil)))) (gAsg 2 (eOp dIx (eOp dIx (eVar 0) (eD (.int 3))) (eOp dIx (eVar 0) (eD (.int 2))))) gNext)
    (gSeq (gAugS (fun i j => i + j) (eVar 0) (eD (.int 2)) (eD (.int 1)))
    (gSeq (gIf (tmB (eOp dGe (eVar 2) (eD (.int 1000000000000000000)))) (gSet (eVar 0) (eD (.int 0)) (eVar 2)) gNext)
    (gSeq (gAsg 3 (eOp dAdd (eOp dAdd (eOp dMul (eOp dIx (eVar 0) (eD (.int 1))) (eD (.int 48271))) (eOp dMod (eCB (d1 dInt) (aCons (eVar 2) aNil)) (eD (.int 2147483647)))) (eOp dMul (eD (.int 7919)) (eOp dIx (eVar 0) (eD (.int 2))))))
    (gSet (eVar 0) (eD (.int 1)) (eOp dMod (eCB (d1 dInt) (aCons (eVar 3) aNil)) (eD (.int 2147483647))))))))) gNext)
theorem pl_lt {μ : Mem} {n : Nat} {p : Pl} (h : μ[n]? = some p) : n < μ.length := (List.getElem?_eq_some_iff.mp h).1
theorem asL_loc {μ : Mem} {n : Nat} {xs : List DV} (h : μ[n]? = some (.lst xs)) : asL μ (.loc n) = some xs := by simp [asL, h]
theorem dIx_loc {μ : Mem} {n : Nat} {xs : List DV} {i : Int} {x : DV} (h : μ[n]? = some (.lst xs)) (hx : atI xs i = some x) : dIx (.loc n) (.dat (.int i)) μ = .ok (ofV x) μ := by
  simp [dIx, asI, asS, asL, h, hx]
theorem dIx_lst {μ : Mem} {ds : List D} {i : Int} {d : D} (h : atI ds i = some d) : dIx (.dat (.lst ds)) (.dat (.int i)) μ = .ok (.dat d) μ := by
  have : atI (ds.map DV.dat) i = some (.dat d) := by
    unfold atI at h ⊢
    rw [List.length_map]
    cases q : ixN ds.length i with
    | none => rw [q] at h; cases h
    | some j => rw [q] at h; simp only [Option.bind_some] at h ⊢; rw [List.getElem?_map, h]; rfl
  simp [dIx, asI, asS, asL, this, ofV]
theorem atI_nat {α : Type} {xs : List α} {k : Nat} {x : α} (h : xs[k]? = some x) : atI xs (k : Int) = some x := by
  have : k < xs.length := (List.getElem?_eq_some_iff.mp h).1
  unfold atI ixN
  rw [if_pos (by omega), if_pos (by omega)]
  simpa using h
theorem ev_var {δ : Env} {i : Nat} {x : DV} {μ : Mem} (h : δ[i]? = some (some x)) : eVar i δ μ = .ok (ofV x) μ := by unfold eVar; rw [h]
theorem fz_var {δ : Env} {i : Nat} {x : DV} {μ : Mem} (h : δ[i]? = some (some x)) : frzV (eVar i) δ μ = .ok x μ := by unfold frzV; rw [ev_var h]; simp [Res.bind, frz_ofV]
theorem fz_D {δ : Env} {d : D} {μ : Mem} : frzV (eD d) δ μ = .ok (.dat d) μ := rfl
theorem fz_of {f : EM} {δ : Env} {μ μ' : Mem} {x : DV} (h : f δ μ = .ok (ofV x) μ') : frzV f δ μ = .ok x μ' := by unfold frzV; rw [h]; simp [Res.bind, frz_ofV]
theorem fz_ofD {f : EM} {δ : Env} {μ μ' : Mem} {x : D} (h : f δ μ = .ok (.dat x) μ') : frzV f δ μ = .ok (.dat x) μ' := fz_of (x := .dat x) h
theorem ev_op {g : DV → DV → Mem → Res R} {f h : EM} {δ : Env} {μ μ1 μ2 : Mem} {x y : DV} {r : Res R} (h1 : frzV f δ μ = .ok x μ1) (h2 : frzV h δ μ1 = .ok y μ2) (h3 : g x y μ2 = r) : eOp g f h δ μ = r := by unfold eOp; rw [h1]; simp only [Res.bind]; rw [h2]; exact h3
theorem ev_cb1 {g : List DV → Mem → Res R} {f : EM} {δ : Env} {μ μ1 : Mem} {x : DV} {r : Res R} (h1 : frzV f δ μ = .ok x μ1) (h2 : g [x] μ1 = r) : eCB g (aCons f aNil) δ μ = r := by unfold eCB aCons aNil; rw [h1]; simp only [Res.bind]; exact h2
theorem ev_cb2 {g : List DV → Mem → Res R} {f h : EM} {δ : Env} {μ μ1 μ2 : Mem} {x y : DV} {r : Res R} (h1 : frzV f δ μ = .ok x μ1) (h2 : frzV h δ μ1 = .ok y μ2) (h3 : g [x, y] μ2 = r) : eCB g (aCons f (aCons h aNil)) δ μ = r := by unfold eCB aCons aNil; rw [h1]; simp only [Res.bind]; rw [h2]; exact h3
theorem sq_next {g h : SM} {N : Nat} {δ δ' : Env} {μ μ' : Mem} {o : Out} (e : g N δ μ = .next δ' μ') (k : h N δ' μ' = o) : gSeq g h N δ μ = o := by unfold gSeq; rw [e]; exact k
theorem sq_ret {g h : SM} {N : Nat} {δ : Env} {μ μ' : Mem} {r : R} (e : g N δ μ = .ret r μ') : gSeq g h N δ μ = .ret r μ' := by unfold gSeq; rw [e]
theorem tm_of {f : EM} {δ : Env} {μ μ' : Mem} {b : Bool} (h : f δ μ = .ok (.dat (.bl b)) μ') : tmB f δ μ = .ok b μ' := by unfold tmB; rw [h]; rfl
theorem if_true {ft : TM} {g h : SM} {N : Nat} {δ : Env} {μ μ' : Mem} {o : Out} (e : ft δ μ = .ok true μ') (k : g N δ μ' = o) : gIf ft g h N δ μ = o := by unfold gIf; rw [e]; exact k
theorem if_false {ft : TM} {g h : SM} {N : Nat} {δ : Env} {μ μ' : Mem} {o : Out} (e : ft δ μ = .ok false μ') (k : h N δ μ' = o) : gIf ft g h N δ μ = o := by unfold gIf; rw [e]; exact k
theorem asg_ok {f : EM} {i : Nat} {N : Nat} {δ : Env} {μ μ' : Mem} {x : DV} (e : frzV f δ μ = .ok x μ') : gAsg i f N δ μ = .next (δ.set i (some x)) μ' := by unfold gAsg; rw [e]; rfl
theorem ret_ok {f : EM} {N : Nat} {δ : Env} {μ μ' : Mem} {r : R} (e : f δ μ = .ok r μ') : gRet f N δ μ = .ret r μ' := by unfold gRet; rw [e]; rfl
theorem drop_ok {f : EM} {N : Nat} {δ : Env} {μ μ' : Mem} {r : R} (e : f δ μ = .ok r μ') : gDrop f N δ μ = .next δ μ' := by unfold gDrop; rw [e]; rfl
theorem set_lp {μ : Mem} {n : Nat} {xs : List DV} {k : Int} {j : Nat} {y : DV} (h : μ[n]? = some (.lst xs)) (hk : ixN xs.length k = some j) (hb : belowB n y = true) : setPl μ (.loc n) (.dat (.int k)) y = some (μ.set n (.lst (xs.set j y))) := by
  simp [setPl, atPl, h, asI, hk, hb]
theorem set_at {μ : Mem} {n : Nat} {p q : Pl} (h : μ[n]? = some p) : (μ.set n q)[n]? = some q := by rw [List.getElem?_set_self (pl_lt h)]
theorem mul_ok {i j : Int} {μ : Mem} (h : cMul i j = true) : dMul (.dat (.int i)) (.dat (.int j)) μ = .ok (.dat (.int (i * j))) μ := by simp [d2I, asI, h]
theorem mod_ok {i j : Int} {μ : Mem} (h : 0 < j) : dMod (.dat (.int i)) (.dat (.int j)) μ = .ok (.dat (.int (i % j))) μ := by simp [d2I, asI, h]
theorem div_ok {i j : Int} {μ : Mem} (h : 0 < j) (h' : j < 1073741824) : dDiv (.dat (.int i)) (.dat (.int j)) μ = .ok (.dat (.int (i / j))) μ := by simp [d2I, asI, h, h']
theorem add_ok {i j : Int} {μ : Mem} : dAdd (.dat (.int i)) (.dat (.int j)) μ = .ok (.dat (.int (i + j))) μ := by simp [dAdd, asI]
theorem lt_ok {i j : Int} {μ : Mem} : dLt (.dat (.int i)) (.dat (.int j)) μ = .ok (.dat (.bl (decide (i < j)))) μ := by simp [d2I, asI]
theorem ge_ok {i j : Int} {μ : Mem} : dGe (.dat (.int i)) (.dat (.int j)) μ = .ok (.dat (.bl (decide (j ≤ i)))) μ := by simp [d2I, asI]
theorem gt_ok {i j : Int} {μ : Mem} : dGt (.dat (.int i)) (.dat (.int j)) μ = .ok (.dat (.bl (decide (j < i)))) μ := by simp [d2I, asI]
theorem int_ok {i : Int} {μ : Mem} : d1 dInt [.dat (.int i)] μ = .ok (.dat (.int i)) μ := rfl
theorem cMul_r {i j : Int} (h : -2 ^ 64 < j ∧ j < 2 ^ 64) : cMul i j = true := by unfold cMul; rw [decide_eq_true (p := _ ∧ _) h]; simp
theorem cMul_l {i j : Int} (h : -2 ^ 64 < i ∧ i < 2 ^ 64) : cMul i j = true := by unfold cMul; rw [decide_eq_true (p := _ ∧ _) h]; simp
theorem ev_int {f : EM} {δ : Env} {μ μ1 : Mem} {i : Int} (h : frzV f δ μ = .ok (.dat (.int i)) μ1) : frzV (eCB (d1 dInt) (aCons f aNil)) δ μ = .ok (.dat (.int i)) μ1 := fz_ofD (ev_cb1 h int_ok)
theorem ixN_nat {n k : Nat} (h : k < n) : ixN n (k : Int) = some k := by unfold ixN; rw [if_pos (by omega), if_pos (by omega)]; simp
/-- an item of the bag -/
theorem bag_at {μ : Mem} {n : Nat} {xs : List DV} {d : D} {δ : Env} {i : Int} (k : Nat) (h : μ[n]? = some (.lst xs)) (hd : δ[0]? = some (some (.loc n))) (hk : xs[k]? = some (.dat d)) (hi : i = (k : Int) := by rfl) : frzV (eOp dIx (eVar 0) (eD (.int i))) δ μ = .ok (.dat d) μ := by
  subst hi; exact fz_ofD (ev_op (fz_var hd) fz_D (dIx_loc h (atI_nat hk)))
theorem gset_ok {fe : EM} {δ : Env} {μ μ1 : Mem} {n N : Nat} {xs : List DV} {y : D} {i : Int} (k : Nat) (e : frzV fe δ μ = .ok (.dat y) μ1) (h : μ1[n]? = some (.lst xs)) (hd : δ[0]? = some (some (.loc n))) (hk : k < xs.length) (hi : i = (k : Int) := by rfl) : gSet (eVar 0) (eD (.int i)) fe N δ μ = .next δ (μ1.set n (.lst (xs.set k (.dat y)))) := by
  subst hi
  unfold gSet
  rw [e]; simp only [Res.bind]; rw [fz_var hd]; simp only [Res.bind]; rw [fz_D]; simp only []
  rw [set_lp (j := k) h (ixN_nat hk) rfl]; rfl
theorem faug_ok {δ : Env} {μ : Mem} {n N : Nat} {xs : List DV} {i j ki : Int} (k : Nat) (h : μ[n]? = some (.lst xs)) (hd : δ[0]? = some (some (.loc n))) (hk : xs[k]? = some (.dat (.int i))) (hk3 : k < 2 ^ 63) (hi : ki = (k : Int) := by rfl) : gAugS (fun i j => i + j) (eVar 0) (eD (.int ki)) (eD (.int j)) N δ μ = .next δ (μ.set n (.lst (xs.set k (.dat (.int (i + j)))))) := by
  subst hi
  have hl : k < xs.length := (List.getElem?_eq_some_iff.mp hk).1
  have g : getPl μ (.loc n) (.dat (.int k)) = some i := by
    have : (0 : Int) ≤ (k : Int) ∧ (k : Int) < 2 ^ 63 := ⟨by omega, by exact_mod_cast hk3⟩
    simp [getPl, asL, h, asI, this, hk]; omega
  unfold gAugS
  rw [fz_var hd]; simp only [Res.bind]; rw [fz_D]; simp only []; rw [g]; simp only []; rw [fz_D]; simp only [asI]
  rw [set_lp (j := k) h (ixN_nat hl) rfl]; rfl
theorem fill_spec {B : Bg} (hB : B.ok) {μ : Mem} {n N : Nat} {m : DV} (h : μ[n]? = some B.pl) : ∃ y z, gFill N [some (.loc n), some m, none, none, none, none, none] μ = .next [some (.loc n), some m, y, z, none, none, none] (μ.set n B.fill.pl) := by
  have e0 : eOp dEq (eOp dIx (eVar 0) (eD (.int 0))) (eD (.int 0)) [some (.loc n), some m, none, none, none, none, none] μ = .ok (.dat (.bl ((B.a == 0) == true))) μ := ev_op (bag_at 0 h rfl rfl) fz_D (dEqB_int _ _ _ _)
  unfold gFill
  by_cases ha : B.a = 0
  · have e1 : ((B.a == 0) == true) = true := by simp [ha]
    rw [e1] at e0
    have e2 : gIf (tmB (eOp dLt (eOp dIx (eVar 0) (eD (.int 2))) (eCB (d1 dLen) (aCons (eOp dIx (eVar 0) (eD (.int 3))) aNil)))) (gAsg 2 (eOp dIx (eOp dIx (eVar 0) (eD (.int 3))) (eOp dIx (eVar 0) (eD (.int 2))))) gNext N [some (.loc n), some m, some (.dat (.int 0)), none, none, none, none] μ =
        .next [some (.loc n), some m, some (.dat (.int B.cell)), none, none, none, none] μ := by
      have l : eCB (d1 dLen) (aCons (eOp dIx (eVar 0) (eD (.int 3))) aNil) [some (.loc n), some m, some (.dat (.int 0)), none, none, none, none] μ = .ok (.dat (.int B.cs.length)) μ :=
        ev_cb1 (bag_at 3 h rfl rfl) (by simp [d1, dLen, asS, asL])
      have t : eOp dLt (eOp dIx (eVar 0) (eD (.int 2))) (eCB (d1 dLen) (aCons (eOp dIx (eVar 0) (eD (.int 3))) aNil)) [some (.loc n), some m, some (.dat (.int 0)), none, none, none, none] μ = .ok (.dat (.bl (decide (B.c < B.cs.length)))) μ :=
        ev_op (bag_at 2 h rfl rfl) (fz_ofD l) lt_ok
      by_cases c : B.c < B.cs.length
      · rw [decide_eq_true c] at t
        have hc := hB.c
        have hl : B.c.toNat < B.cs.length := by omega
        have g : B.cs[B.c.toNat]? = some B.cell := by
          unfold Bg.cell; rw [if_pos c, List.getD_eq_getElem?_getD, List.getElem?_eq_getElem hl]; rfl
        have w : dIx (.dat (.lst (B.cs.map D.int))) (.dat (.int B.c)) μ = .ok (.dat (.int B.cell)) μ := by
          have : B.c = ((B.c.toNat : Nat) : Int) := by omega
          rw [this]
          exact dIx_lst (atI_nat (by rw [List.getElem?_map, g]; rfl))
        exact if_true (tm_of t) (asg_ok (fz_ofD (ev_op (bag_at 3 h rfl rfl) (bag_at 2 h rfl rfl) w)))
      · rw [decide_eq_false c] at t
        have : B.cell = 0 := by unfold Bg.cell; rw [if_neg c]
        rw [this]
        exact if_false (tm_of t) rfl
    have h2 := set_at (q := .lst [.dat (.int B.a), .dat (.int B.b), .dat (.int (B.c + 1)), .dat (.lst (B.cs.map D.int))]) h
    have e3 : gIf (tmB (eOp dGe (eVar 2) (eD (.int 1000000000000000000)))) (gSet (eVar 0) (eD (.int 0)) (eVar 2)) gNext N [some (.loc n), some m, some (.dat (.int B.cell)), none, none, none, none] (μ.set n (.lst [.dat (.int B.a), .dat (.int B.b), .dat (.int (B.c + 1)), .dat (.lst (B.cs.map D.int))])) =
        .next [some (.loc n), some m, some (.dat (.int B.cell)), none, none, none, none] (μ.set n (.lst [.dat (.int (if 1000000000000000000 ≤ B.cell then B.cell else 0)), .dat (.int B.b), .dat (.int (B.c + 1)), .dat (.lst (B.cs.map D.int))])) := by
      have t : eOp dGe (eVar 2) (eD (.int 1000000000000000000)) [some (.loc n), some m, some (.dat (.int B.cell)), none, none, none, none] (μ.set n (.lst [.dat (.int B.a), .dat (.int B.b), .dat (.int (B.c + 1)), .dat (.lst (B.cs.map D.int))])) = .ok (.dat (.bl (decide (1000000000000000000 ≤ B.cell)))) (μ.set n (.lst [.dat (.int B.a), .dat (.int B.b), .dat (.int (B.c + 1)), .dat (.lst (B.cs.map D.int))])) :=
        ev_op (fz_var (i := 2) rfl) fz_D ge_ok
      by_cases c : 1000000000000000000 ≤ B.cell
      · rw [decide_eq_true c] at t
        rw [if_pos c]
        refine if_true (tm_of t) ((gset_ok 0 (fz_var (i := 2) (x := .dat (.int B.cell)) rfl) h2 rfl (by simp)).trans ?_)
        rw [List.set_set]; rfl
      · rw [decide_eq_false c] at t
        rw [if_neg c]
        rw [ha] at t ⊢
        exact if_false (tm_of t) rfl
    have h3 := set_at (q := .lst [.dat (.int (if 1000000000000000000 ≤ B.cell then B.cell else 0)), .dat (.int B.b), .dat (.int (B.c + 1)), .dat (.lst (B.cs.map D.int))]) h
    refine ⟨some (.dat (.int B.cell)), some (.dat (.int (B.b * 48271 + B.cell % 2147483647 + 7919 * (B.c + 1)))), ?_⟩
    refine if_true (tm_of e0) (sq_next (asg_ok fz_D) (sq_next e2 (sq_next (faug_ok 2 h rfl rfl (by decide)) (sq_next e3 ?_))))
    have fe : B.fill.pl = .lst [.dat (.int (if 1000000000000000000 ≤ B.cell then B.cell else 0)), .dat (.int ((B.b * 48271 + B.cell % 2147483647 + 7919 * (B.c + 1)) % 2147483647)), .dat (.int (B.c + 1)), .dat (.lst (B.cs.map D.int))] := by
      unfold Bg.fill; rw [if_pos ha]; rfl
    rw [fe]
    generalize hz : μ.set n (.lst [.dat (.int (if 1000000000000000000 ≤ B.cell then B.cell else 0)), .dat (.int B.b), .dat (.int (B.c + 1)), .dat (.lst (B.cs.map D.int))]) = μ3 at h3
    refine sq_next (asg_ok (x := .dat (.int (B.b * 48271 + B.cell % 2147483647 + 7919 * (B.c + 1)))) (fz_ofD (ev_op (fz_ofD (ev_op (fz_ofD (ev_op (bag_at 1 h3 rfl rfl) fz_D (mul_ok (cMul_r (by decide)))))
      (fz_ofD (ev_op (ev_int (fz_var (i := 2) (x := .dat (.int B.cell)) rfl)) fz_D (mod_ok (by decide)))) add_ok)) (fz_ofD (ev_op fz_D (bag_at 2 h3 rfl rfl) (mul_ok (cMul_l (by decide))))) add_ok))) ?_
    refine (gset_ok 1 (fz_ofD (ev_op (ev_int (fz_var (i := 3) (x := .dat (.int (B.b * 48271 + B.cell % 2147483647 + 7919 * (B.c + 1)))) rfl)) fz_D (mod_ok (by decide)))) h3 rfl (by simp)).trans ?_
    rw [← hz, List.set_set]; rfl
  · have e1 : ((B.a == 0) == true) = false := by simp [ha]
    rw [e1] at e0
    refine ⟨none, none, if_false (tm_of e0) ?_⟩
    unfold Bg.fill; rw [if_neg ha]
    show Out.next _ μ = _
    rw [show μ.set n B.pl = μ from by
      apply List.ext_getElem?
      intro i
      by_cases c : n = i
      · subst c; rw [set_at h, h]
      · rw [List.getElem?_set_ne c]]
theorem take_len {μ : Mem} {n : Nat} {p : Pl} : (μ.set n p).take μ.length = μ.set n p := List.take_of_length_le (by rw [List.length_set]; exact Nat.le_refl _)
theorem call_ret {g : SM} {k m : Nat} {xs : List DV} {μ μ' : Mem} {r : R} {o : Res R} (hk : xs.length = k) (h : g μ.length (xs.map some ++ List.replicate m none) μ = .ret r μ') (hc : closeR μ.length r μ' = o) : callD g k m xs μ = o := by
  unfold callD; rw [if_pos hk]; unfold callF; rw [h]; exact hc
theorem take_spec {B : Bg} (hB : B.ok) {μ : Mem} {n : Nat} {m : Int} (h : μ[n]? = some B.pl) (hm : 0 < m) (hm' : m < 1073741824) :
    callD gTake 2 5 [.loc n, .dat (.int m)] μ = .ok (.dat (.int (takeB B m).1)) (μ.set n (takeB B m).2.pl) := by
  obtain ⟨y, z, hf⟩ := fill_spec hB (N := μ.length) (m := .dat (.int m)) h
  have h1 := set_at (q := B.fill.pl) h
  have f := fill_ok hB
  have key : gTake μ.length [some (.loc n), some (.dat (.int m)), none, none, none, none, none] μ = .ret (.dat (.int (takeB B m).1)) (μ.set n (takeB B m).2.pl) := by
    refine sq_next hf ?_
    have t : eOp dGt (eOp dIx (eVar 0) (eD (.int 0))) (eD (.int 0)) [some (.loc n), some (.dat (.int m)), y, z, none, none, none] (μ.set n B.fill.pl) = .ok (.dat (.bl (decide (0 < B.fill.a)))) (μ.set n B.fill.pl) :=
      ev_op (bag_at 0 h1 rfl rfl) fz_D gt_ok
    by_cases c : 0 < B.fill.a
    · rw [decide_eq_true c] at t
      have tk : takeB B m = (B.fill.a % m, { B.fill with a := B.fill.a / m }) := by unfold takeB; rw [if_pos c]
      rw [tk]
      refine sq_ret (if_true (tm_of t) (sq_next (asg_ok (fz_ofD (ev_op (ev_int (bag_at 0 h1 rfl rfl)) (fz_var (i := 1) (x := .dat (.int m)) rfl) (mod_ok hm))))
        (sq_next (gset_ok 0 (fz_ofD (ev_op (ev_int (bag_at 0 h1 rfl rfl)) (fz_var (i := 1) (x := .dat (.int m)) rfl) (div_ok hm hm'))) h1 rfl (by simp [Bg.pl]))
          ((ret_ok (ev_var (i := 4) (x := .dat (.int (B.fill.a % m))) rfl)).trans ?_))))
      rw [List.set_set]; rfl
    · rw [decide_eq_false c] at t
      have tk : takeB B m = (B.fill.low m, B.fill) := by unfold takeB; rw [if_neg c]
      rw [tk]
      refine sq_next (if_false (tm_of t) rfl) ?_
      have hb := f.b
      have hb' := f.b'
      have q1 : 0 ≤ (B.fill.b + 1) * 39373 % 1000000007 ∧ (B.fill.b + 1) * 39373 % 1000000007 < 1000000007 := by omega
      refine sq_next (asg_ok (fz_ofD (ev_op (ev_int (fz_ofD (ev_op (fz_ofD (ev_op (bag_at 1 h1 rfl rfl) fz_D add_ok)) fz_D (mul_ok (cMul_r (by decide)))))) fz_D (mod_ok (by decide))))) ?_
      unfold Bg.low
      generalize (B.fill.b + 1) * 39373 % 1000000007 = e at q1
      refine sq_next (asg_ok (fz_ofD (ev_op (ev_int (fz_ofD (ev_op (fz_ofD (ev_op (ev_int (fz_ofD (ev_op (fz_var (i := 5) (x := .dat (.int e)) rfl) (fz_var (i := 5) (x := .dat (.int e)) rfl) (mul_ok (cMul_r (by omega)))))) fz_D (mod_ok (by decide)))) fz_D (mul_ok (cMul_r (by decide)))))) fz_D (mod_ok (by decide))))) ?_
      exact ret_ok (ev_op (ev_int (fz_ofD (ev_op (fz_var (i := 6) (x := .dat (.int (e * e % 998244353 * 30011 % 998244353))) rfl) fz_D (div_ok (by decide) (by decide))))) (fz_var (i := 1) (x := .dat (.int m)) rfl) (mod_ok hm))
  refine call_ret rfl key ?_
  show Res.ok _ (List.take _ _) = _
  rw [take_len]
end DL
namespace DL
open PySem PySem.Spec PyProof.Rows L2
/-! ### data that == and repr take -/
structure Fit (k w : Nat) (p : PyData) : Prop where
  lay : p.canLay0 = true
  dep : p.depth ≤ k
  wt : p.weight ≤ w
  sh : p.showable = true
  is : p.intsShort 13 = true
theorem Fit.mono {k k' w w' : Nat} {p : PyData} (h : Fit k w p) (hk : k ≤ k') (hw : w ≤ w') : Fit k' w' p := ⟨h.lay, Nat.le_trans h.dep hk, Nat.le_trans h.wt hw, h.sh, h.is⟩
theorem fitAll {k w : Nat} : ∀ (ps : List PyData), (∀ p ∈ ps, Fit k w p) → PyData.canLayAll0 ps = true ∧ PyData.depthAll ps ≤ k ∧ PyData.weightAll ps ≤ ps.length * (w + 1) ∧ PyData.showableAll ps = true ∧ PyData.intsShortAll 13 ps = true
  | [], _ => ⟨rfl, Nat.zero_le _, Nat.zero_le _, rfl, rfl⟩
  | p :: ps, h => by
    obtain ⟨a, b, c, d, e⟩ := fitAll ps fun q hq => h q (List.mem_cons_of_mem _ hq)
    have f := h p List.mem_cons_self
    have g1 := f.dep
    have g2 := f.wt
    refine ⟨by simp [PyData.canLayAll0, a, f.lay], by simp only [PyData.depthAll]; omega, ?_, by simp [PyData.showableAll, d, f.sh], by simp [PyData.intsShortAll, e, f.is]⟩
    simp only [PyData.weightAll, List.length_cons, Nat.succ_mul]; omega
theorem fit_list {k w n : Nat} {ps : List PyData} (h : ∀ p ∈ ps, Fit k w p) (hn : ps.length ≤ n) : Fit (k + 1) (n * (w + 1)) (.list ps) := by
  obtain ⟨a, b, c, d, e⟩ := fitAll ps h
  exact ⟨a, by simp only [PyData.depth]; omega, by simp only [PyData.weight]; exact Nat.le_trans c (Nat.mul_le_mul_right _ hn), d, e⟩
theorem fit_tuple {k w n : Nat} {ps : List PyData} (h : ∀ p ∈ ps, Fit k w p) (hn : ps.length ≤ n) : Fit (k + 1) (n * (w + 1)) (.tuple ps) := by
  obtain ⟨a, b, c, d, e⟩ := fitAll ps h
  exact ⟨a, by simp only [PyData.depth]; omega, by simp only [PyData.weight]; exact Nat.le_trans c (Nat.mul_le_mul_right _ hn), d, e⟩
theorem fit_bool (b : Bool) : Fit 0 0 (.bool b) := ⟨rfl, Nat.zero_le _, Nat.zero_le _, rfl, rfl⟩
theorem fit_none : Fit 0 0 .none := ⟨rfl, Nat.zero_le _, Nat.zero_le _, rfl, rfl⟩
theorem fit_str {s : Str} {w : Nat} (h : PyData.strOk s = true) (hw : s.cps.size ≤ w) : Fit 0 w (.str s) := ⟨h, Nat.zero_le _, hw, rfl, rfl⟩
theorem Fit.shaped {k w : Nat} {p : PyData} (h : Fit k w p) (hk : k ≤ 64) : SeqAt.shaped p = true := by
  unfold SeqAt.shaped; rw [h.lay, decide_eq_true (Nat.le_trans h.dep hk)]; rfl
theorem Fit.shown {k w : Nat} {p : PyData} (h : Fit k w p) (hk : k ≤ 64) (hw : w ≤ 2 ^ 20) : p.shown.length ≤ sizeLine :=
  PyData.shown_fits_of_layable0 (B := 13) (by decide) (by decide) (by unfold PyData.layable0; rw [h.lay, decide_eq_true (Nat.le_trans h.dep hk), decide_eq_true (Nat.le_trans h.wt hw)]; rfl) h.is
theorem eq_anyB {μ : Mem} {x y : DV} {p q : PyData} {k w k' w' : Nat} (b : Bool) (hx : peekPy μ x = some p) (hy : peekPy μ y = some q) (h : Fit k w p) (h' : Fit k' w' q) (hk : k ≤ 64) (hk' : k' ≤ 64) : dEqB b x y μ = .ok (.dat (.bl (PyData.eqv p q == b))) μ := by
  unfold dEqB; rw [hx]; simp only; rw [hy]; simp only; rw [if_pos ⟨h.shaped hk, h'.shaped hk'⟩]
theorem str_beq (s t : Str) : (s == t) = decide (s = t) := by
  by_cases c : s = t
  · subst c; simp
  · rw [decide_eq_false c]; exact beq_false_of_ne c
theorem asStr_dat {x : DV} {s : Str} (h : asStr x = some s) : x = .dat (.str s) := by
  unfold asStr at h; split at h <;> cases h; rfl
theorem eq_str {b : Bool} {s t : Str} {μ : Mem} : dEqS b (.dat (.str s)) (.dat (.str t)) μ = .ok (.dat (.bl (decide (s = t) == b))) μ := rfl
theorem eq_any {μ : Mem} {x y : DV} {p q : PyData} {k w k' w' : Nat} (b : Bool) (hx : peekPy μ x = some p) (hy : peekPy μ y = some q) (h : Fit k w p) (h' : Fit k' w' q) (hk : k ≤ 64) (hk' : k' ≤ 64) : dEqS b x y μ = .ok (.dat (.bl (PyData.eqv p q == b))) μ := by
  have e := eq_anyB b hx hy h h' hk hk'
  unfold dEqS
  cases e1 : asStr x with
  | none => exact e
  | some s =>
    cases e2 : asStr y with
    | none => exact e
    | some t =>
      rw [asStr_dat e1] at hx
      rw [asStr_dat e2] at hy
      have hx' : some (PyData.str s) = some p := by rw [← hx]; unfold peekPy peek; cases s; rfl
      have hy' : some (PyData.str t) = some q := by rw [← hy]; unfold peekPy peek; cases t; rfl
      cases hx'; cases hy'
      simp only [PyData.eqv, str_beq]
theorem eq_same {μ : Mem} {x y : DV} {p : PyData} {k w : Nat} (hx : peekPy μ x = some p) (hy : peekPy μ y = some p) (h : Fit k w p) (hk : k ≤ 64) : dEq x y μ = .ok (.dat (.bl true)) μ := by
  refine (eq_any true hx hy h h hk hk).trans ?_
  rw [SeqAt.eqv_refl p h.lay]; rfl
theorem repr_same {μ : Mem} {x : DV} {p : PyData} {k w : Nat} (hx : peekPy μ x = some p) (h : Fit k w p) (hk : k ≤ 64) (hw : w ≤ 2 ^ 20) : d1 dRepr [x] μ = .ok (.dat (.str p.shown)) μ := by
  show dRepr x μ = _
  unfold dRepr; rw [hx]; simp only; rw [if_pos ⟨h.sh, h.shaped hk, h.shown hk hw⟩]
theorem toPyL_map {α : Type} {f : α → D} {g : α → PyData} : ∀ (xs : List α), (∀ x ∈ xs, toPy (f x) = some (g x)) → toPyL (xs.map f) = some (xs.map g)
  | [], _ => rfl
  | x :: xs, h => by
    have h1 := h x List.mem_cons_self
    have h2 := toPyL_map xs fun y hy => h y (List.mem_cons_of_mem _ hy)
    simp [toPyL, h1, h2]
theorem peekL_dat {f : DV → Option D} (hf : ∀ d, f (.dat d) = some d) : ∀ ds : List D, peekL f (ds.map DV.dat) = some ds
  | [] => rfl
  | d :: ds => by simp [peekL, hf, peekL_dat hf ds]
theorem peekK_dat (k : Nat) (μ : Mem) (d : D) : peekK k μ (.dat d) = some d := by cases k <;> rfl
theorem peekK_loc {k n : Nat} {μ : Mem} {ds : List D} (h : μ[n]? = some (.lst (ds.map DV.dat))) : peekK (k + 1) μ (.loc n) = some (.lst ds) := by
  unfold peekK; rw [h]; simp only; rw [peekL_dat (peekK_dat k μ)]; rfl
theorem peek_loc {n : Nat} {μ : Mem} {ds : List D} (h : μ[n]? = some (.lst (ds.map DV.dat))) : peek μ (.loc n) = some (.lst ds) := peekK_loc h
theorem peekPy_loc {n : Nat} {μ : Mem} {ds : List D} {ps : List PyData} (h : μ[n]? = some (.lst (ds.map DV.dat))) (hp : toPyL ds = some ps) : peekPy μ (.loc n) = some (.list ps) := by
  unfold peekPy; rw [peek_loc h]; simp [toPy, hp]
theorem peekPy_dat {μ : Mem} {d : D} {p : PyData} (h : toPy d = some p) : peekPy μ (.dat d) = some p := by unfold peekPy peek; rw [peekK_dat]; exact h
/-! ### methods -/
theorem ev_bm1 {c : DV → Mem → Bool} {g : DV → List DV → Mem → Res R} {f h : EM} {δ : Env} {μ μ1 μ2 : Mem} {x y : DV} {r : Res R} (h1 : frzV f δ μ = .ok x μ1) (hc : c x μ1 = true) (h2 : frzV h δ μ1 = .ok y μ2) (h3 : g x [y] μ2 = r) : eBM c g f (aCons h aNil) δ μ = r := by
  unfold eBM; rw [h1]; simp only [Res.bind]; rw [if_pos hc]; unfold aCons aNil; rw [h2]; simp only [Res.bind]; exact h3
theorem ev_bm0 {c : DV → Mem → Bool} {g : DV → List DV → Mem → Res R} {f : EM} {δ : Env} {μ μ1 : Mem} {x : DV} {r : Res R} (h1 : frzV f δ μ = .ok x μ1) (hc : c x μ1 = true) (h3 : g x [] μ1 = r) : eBM0 c g f δ μ = r := by
  unfold eBM0; rw [h1]; simp only [Res.bind]; rw [if_pos hc]; exact h3
theorem tyL_loc {μ : Mem} {n : Nat} {xs : List DV} (h : μ[n]? = some (.lst xs)) : tyL (.loc n) μ = true := by unfold tyL; rw [asL_loc h]; rfl
theorem pop_ok {μ : Mem} {n k : Nat} {ys : List DV} {y : DV} (h : μ[n]? = some (.lst ys)) (hk : ys[k]? = some y) (hb : k < 2 ^ 63) : dPop (.loc n) [.dat (.int k)] μ = .ok (ofV y) (μ.set n (.lst (ys.eraseIdx k))) := by
  have hl : k < ys.length := (List.getElem?_eq_some_iff.mp hk).1
  have e : seqIndex? (k : Int) ys.length = some k := by
    have : ¬ ((k : Int) < 0) := by omega
    simp [seqIndex?, this, hl]
  have c : -2 ^ 63 ≤ (k : Int) ∧ (k : Int) < 2 ^ 63 := ⟨by omega, by exact_mod_cast hb⟩
  simp only [dPop, atPl, h, asI]
  rw [if_pos c]
  simp only [e, hk]
theorem app_ok {μ : Mem} {n : Nat} {ys : List DV} {y : DV} (h : μ[n]? = some (.lst ys)) (hl : ys.length < sizeLine) (hb : belowB n y = true) : dAppend (.loc n) [y] μ = .ok (.dat .non) (μ.set n (.lst (ys ++ [y]))) := by
  simp only [dAppend, atPl, h]; rw [if_pos ⟨hl, hb⟩]
theorem clear_ok {μ : Mem} {n : Nat} {ys : List DV} (h : μ[n]? = some (.lst ys)) : dClear (.loc n) [] μ = .ok (.dat .non) (μ.set n (.lst [])) := by
  simp only [dClear, atPl, h]
theorem len_loc {μ : Mem} {n : Nat} {ys : List DV} (h : μ[n]? = some (.lst ys)) : d1 dLen [.loc n] μ = .ok (.dat (.int ys.length)) μ := by simp [d1, dLen, asS, asL, h]
theorem len_lst {μ : Mem} {ds : List D} : d1 dLen [.dat (.lst ds)] μ = .ok (.dat (.int ds.length)) μ := by simp [d1, dLen, asS, asL]
/-! ### the mixed list -/
def gMixed : SM :=
    (gSeq (gPar2 2 3 (eCB (d1 dList) (aCons (eVar 1) aNil)) (eLst aNil))
    (gSeq (gWh 100000 [true, true, true, true] (tmB (eOp dNe (eVar 2) (eLst aNil))) (gDrop (eBM tyL dAppend (eVar 3) (aCons (eBM tyL dPop (eVar 2) (aCons (eCB (callD gTake 2 5) (aCons (eVar 0) (aCons (eCB (d1 dLen) (aCons (eVar 2) aNil)) aNil))) aNil)) aNil))))
    (gRet (eVar 3))))
theorem map_erase {α β : Type} (f : α → β) : ∀ (l : List α) (k : Nat), (l.map f).eraseIdx k = (l.eraseIdx k).map f
  | [], k => by simp
  | a :: l, 0 => by simp
  | a :: l, k + 1 => by simp [map_erase f l k]
theorem ap0 {μ : Mem} {a b : Pl} : (μ ++ [a, b])[μ.length]? = some a := by simp
theorem ap1 {μ : Mem} {a b : Pl} : (μ ++ [a, b])[μ.length + 1]? = some b := by simp
theorem st0 {μ : Mem} {a b c : Pl} : (μ ++ [a, b]).set μ.length c = μ ++ [c, b] := by simp [List.set_append]
theorem st1 {μ : Mem} {a b c : Pl} : (μ ++ [a, b]).set (μ.length + 1) c = μ ++ [a, c] := by simp [List.set_append]
theorem apn {μ X : Mem} {n : Nat} {p : Pl} (h : μ[n]? = some p) : (μ ++ X)[n]? = some p := by rw [List.getElem?_append_left (pl_lt h)]; exact h
theorem stn {μ X : Mem} {n : Nat} {p q : Pl} (h : μ[n]? = some p) : (μ ++ X).set n q = μ.set n q ++ X := by rw [List.set_append_left _ _ (pl_lt h)]
theorem toPyL_fit {k w : Nat} : ∀ (ds : List D), (∀ d ∈ ds, ∃ p, toPy d = some p ∧ Fit k w p) → ∃ ps, toPyL ds = some ps ∧ ps.length = ds.length ∧ ∀ p ∈ ps, Fit k w p
  | [], _ => ⟨[], rfl, rfl, fun _ h => by cases h⟩
  | d :: ds, h => by
    obtain ⟨p, h1, h2⟩ := h d List.mem_cons_self
    obtain ⟨ps, h3, h4, h5⟩ := toPyL_fit ds fun e he => h e (List.mem_cons_of_mem _ he)
    refine ⟨p :: ps, by simp [toPyL, h1, h3], by simp [h4], fun q hq => ?_⟩
    rcases List.mem_cons.mp hq with rfl | hq
    · exact h2
    · exact h5 q hq
theorem ne_nil {μ : Mem} {n k w : Nat} {ds : List D} (hk : k < 64) (h : μ[n]? = some (.lst (ds.map DV.dat))) (hd : ∀ d ∈ ds, ∃ p, toPy d = some p ∧ Fit k w p) : dNe (.loc n) (.dat (.lst [])) μ = .ok (.dat (.bl (!ds.isEmpty))) μ := by
  obtain ⟨ps, h1, h2, h3⟩ := toPyL_fit ds hd
  have f := fit_list h3 (Nat.le_refl _)
  have f0 : Fit 1 0 (.list []) := (fit_list (k := 0) (w := 0) (n := 0) (ps := []) (fun _ h => by cases h) (Nat.le_refl _)).mono (Nat.le_refl _) (Nat.le_refl _)
  refine (eq_any false (peekPy_loc h h1) (peekPy_dat (d := .lst []) (p := .list []) rfl) f f0 (by omega) (by omega)).trans ?_
  cases ds with
  | nil => cases ps with
    | nil => rfl
    | cons _ _ => cases h2
  | cons d ds => cases ps with
    | nil => cases h2
    | cons _ _ => rfl
theorem mixed_turn {n : Nat} {th : DV} {left found : List D} {B : Bg} {μ : Mem} {N : Nat} (hB : B.ok) (h : μ[n]? = some B.pl) (hl : 0 < left.length) (hs : left.length + found.length < 16777216) :
    ∃ (k : Nat) (d : D), left[k]? = some d ∧ gDrop (eBM tyL dAppend (eVar 3) (aCons (eBM tyL dPop (eVar 2) (aCons (eCB (callD gTake 2 5) (aCons (eVar 0) (aCons (eCB (d1 dLen) (aCons (eVar 2) aNil)) aNil))) aNil)) aNil))
        N [some (.loc n), some th, some (.loc μ.length), some (.loc (μ.length + 1))] (μ ++ [.lst (left.map DV.dat), .lst (found.map DV.dat)]) =
      .next [some (.loc n), some th, some (.loc μ.length), some (.loc (μ.length + 1))] (μ.set n (takeB B left.length).2.pl ++ [.lst ((left.eraseIdx k).map DV.dat), .lst ((found ++ [d]).map DV.dat)]) := by
  obtain ⟨o1, o2, o3⟩ := takeB_ok hB (m := (left.length : Int)) (by omega)
  have e1 : eCB (callD gTake 2 5) (aCons (eVar 0) (aCons (eCB (d1 dLen) (aCons (eVar 2) aNil)) aNil)) [some (.loc n), some th, some (.loc μ.length), some (.loc (μ.length + 1))] (μ ++ [.lst (left.map DV.dat), .lst (found.map DV.dat)]) =
      .ok (.dat (.int (takeB B left.length).1)) (μ.set n (takeB B left.length).2.pl ++ [.lst (left.map DV.dat), .lst (found.map DV.dat)]) := by
    have l : eCB (d1 dLen) (aCons (eVar 2) aNil) [some (.loc n), some th, some (.loc μ.length), some (.loc (μ.length + 1))] (μ ++ [.lst (left.map DV.dat), .lst (found.map DV.dat)]) = .ok (.dat (.int left.length)) (μ ++ [.lst (left.map DV.dat), .lst (found.map DV.dat)]) := by
      refine (ev_cb1 (fz_var (i := 2) rfl) (len_loc ap0)).trans ?_; rw [List.length_map]
    refine (ev_cb2 (fz_var (i := 0) rfl) (fz_ofD l) (take_spec hB (apn h) (by omega) (by omega))).trans ?_
    rw [stn h]
  generalize (takeB B left.length).1 = t at *
  generalize (takeB B left.length).2 = B2 at *
  obtain ⟨k, rfl⟩ := Int.eq_ofNat_of_zero_le o2
  have hk : k < left.length := by omega
  have hk' : left[k]? = some (left[k]'hk) := List.getElem?_eq_getElem hk
  generalize left[k]'hk = d at hk'
  refine ⟨k, d, hk', ?_⟩
  have hL : μ.length = (μ.set n B2.pl).length := (List.length_set ..).symm
  have e2 : eBM tyL dPop (eVar 2) (aCons (eCB (callD gTake 2 5) (aCons (eVar 0) (aCons (eCB (d1 dLen) (aCons (eVar 2) aNil)) aNil))) aNil) [some (.loc n), some th, some (.loc μ.length), some (.loc (μ.length + 1))] (μ ++ [.lst (left.map DV.dat), .lst (found.map DV.dat)]) =
      .ok (ofV (.dat d)) (μ.set n B2.pl ++ [.lst ((left.eraseIdx k).map DV.dat), .lst (found.map DV.dat)]) := by
    refine (ev_bm1 (fz_var (i := 2) rfl) (tyL_loc ap0) (fz_ofD e1) (pop_ok (k := k) (y := .dat d) (ys := left.map DV.dat) (by rw [hL]; exact ap0) (by rw [List.getElem?_map, hk']; rfl) (by omega))).trans ?_
    rw [hL, st0, map_erase]
  refine drop_ok (r := .dat .non) ((ev_bm1 (fz_var (i := 3) rfl) (tyL_loc ap1) (fz_of e2) (app_ok (ys := found.map DV.dat) (by rw [hL]; exact ap1) (by rw [List.length_map]; exact Nat.lt_of_lt_of_le (show found.length < 16777216 by omega) (by decide)) rfl)).trans ?_)
  rw [hL, st1, List.map_append]; rfl
theorem erase_perm {α : Type} : ∀ (l : List α) (k : Nat) (d : α), l[k]? = some d → (d :: l.eraseIdx k).Perm l
  | [], k, d, h => by simp at h
  | a :: l, 0, d, h => by simp at h; subst h; exact List.Perm.refl _
  | a :: l, k + 1, d, h => by
    have := erase_perm l k d (by simpa using h)
    exact (List.Perm.swap a d _).trans (List.Perm.cons a this)
theorem mixed_loop {n : Nat} {th : D} {k w : Nat} (hk : k < 64) : ∀ (m : Nat) (left found : List D) (B : Bg) (μ : Mem) (fuel N : Nat), B.ok → μ[n]? = some B.pl → left.length = m → m < fuel → left.length + found.length < 16777216 →
    (∀ d ∈ left, ∃ p, toPy d = some p ∧ Fit k w p) →
    ∃ (ys : List D) (B' : Bg), B'.ok ∧ ys.Perm (found ++ left) ∧
      whL (μ.length + 2) [true, true, true, true] (tmB (eOp dNe (eVar 2) (eLst aNil))) (gDrop (eBM tyL dAppend (eVar 3) (aCons (eBM tyL dPop (eVar 2) (aCons (eCB (callD gTake 2 5) (aCons (eVar 0) (aCons (eCB (d1 dLen) (aCons (eVar 2) aNil)) aNil))) aNil)) aNil)))
        N fuel [some (.loc n), some (.dat th), some (.loc μ.length), some (.loc (μ.length + 1))] (μ ++ [.lst (left.map DV.dat), .lst (found.map DV.dat)]) =
      .next [some (.loc n), some (.dat th), some (.loc μ.length), some (.loc (μ.length + 1))] (μ.set n B'.pl ++ [.lst [], .lst (ys.map DV.dat)]) := by
  intro m
  induction m with
  | zero =>
    intro left found B μ fuel N hB h hm hf hs hd
    cases left with
    | cons _ _ => cases hm
    | nil =>
      cases fuel with
      | zero => omega
      | succ fuel =>
        refine ⟨found, B, hB, by simp, ?_⟩
        have t : tmB (eOp dNe (eVar 2) (eLst aNil)) [some (.loc n), some (.dat th), some (.loc μ.length), some (.loc (μ.length + 1))] (μ ++ [.lst (([] : List D).map DV.dat), .lst (found.map DV.dat)]) = .ok false (μ ++ [.lst (([] : List D).map DV.dat), .lst (found.map DV.dat)]) :=
          tm_of (ev_op (fz_var (i := 2) rfl) (show frzV (eLst aNil) _ _ = .ok (.dat (.lst [])) _ from rfl) (ne_nil hk (ds := []) ap0 hd))
        unfold whL
        rw [t]
        have : μ.set n B.pl = μ := by
          apply List.ext_getElem?
          intro i
          by_cases c : n = i
          · subst c; rw [set_at h, h]
          · rw [List.getElem?_set_ne c]
        rw [this]; rfl
  | succ m ih =>
    intro left found B μ fuel N hB h hm hf hs hd
    cases fuel with
    | zero => omega
    | succ fuel =>
      obtain ⟨j, d, hj, e⟩ := mixed_turn (th := .dat th) (N := N) (left := left) (found := found) hB h (by omega) hs
      obtain ⟨o1, o2, o3⟩ := takeB_ok hB (m := (left.length : Int)) (by omega)
      have hjl : j < left.length := (List.getElem?_eq_some_iff.mp hj).1
      have hl : (left.eraseIdx j).length = m := by rw [List.length_eraseIdx, if_pos hjl]; omega
      obtain ⟨ys, B', oB, pm, eq⟩ := ih (left.eraseIdx j) (found ++ [d]) (takeB B left.length).2 (μ.set n (takeB B left.length).2.pl) fuel N o1 (set_at h) hl (by omega) (by rw [List.length_append, hl]; simp; omega) (fun x hx => hd x (List.mem_of_mem_eraseIdx hx))
      refine ⟨ys, B', oB, pm.trans ?_, ?_⟩
      · rw [List.append_assoc]
        exact List.Perm.append_left found (erase_perm left j d hj)
      · have t : tmB (eOp dNe (eVar 2) (eLst aNil)) [some (.loc n), some (.dat th), some (.loc μ.length), some (.loc (μ.length + 1))] (μ ++ [.lst (left.map DV.dat), .lst (found.map DV.dat)]) = .ok true (μ ++ [.lst (left.map DV.dat), .lst (found.map DV.dat)]) := by
          refine tm_of ((ev_op (fz_var (i := 2) rfl) (show frzV (eLst aNil) _ _ = .ok (.dat (.lst [])) _ from rfl) (ne_nil hk (ds := left) ap0 hd)).trans ?_)
          cases left with
          | nil => cases hm
          | cons _ _ => rfl
        unfold whL
        rw [t]
        show turnL _ _ (gDrop _ _ _ _) _ = _
        rw [e]
        have hn := pl_lt h
        have c1 : n < μ.length + 2 := by omega
        have c2 : μ.length < μ.length + 2 := by omega
        have c3 : μ.length + 1 < μ.length + 2 := by omega
        rw [List.length_set, List.set_set] at eq
        rw [← eq]
        simp only [turnL, cut, cutV, if_pos c1, if_pos c2, if_pos c3, if_true]
        congr 1
        exact List.take_of_length_le (by simp)
theorem mixed_spec {n : Nat} {ds : List D} {k w : Nat} {B : Bg} {μ : Mem} (hk : k < 64) (hB : B.ok) (h : μ[n]? = some B.pl) (hs : ds.length < 100000) (hd : ∀ d ∈ ds, ∃ p, toPy d = some p ∧ Fit k w p) :
    ∃ (ys : List D) (B' : Bg), B'.ok ∧ ys.Perm ds ∧ callD gMixed 2 2 [.loc n, .dat (.lst ds)] μ = .ok (.nl (ys.map DV.dat)) (μ.set n B'.pl) := by
  obtain ⟨ys, B', oB, pm, eq⟩ := mixed_loop (th := .lst ds) (n := n) hk ds.length ds [] B μ 100000 μ.length hB h rfl hs (by simp; omega) hd
  refine ⟨ys, B', oB, by simpa using pm, ?_⟩
  have hL : μ.length = (μ.set n B'.pl).length := (List.length_set ..).symm
  have g1 : gPar2 2 3 (eCB (d1 dList) (aCons (eVar 1) aNil)) (eLst aNil) μ.length [some (.loc n), some (.dat (.lst ds)), none, none] μ = .next [some (.loc n), some (.dat (.lst ds)), some (.loc μ.length), some (.loc (μ.length + 1))] (μ ++ [.lst (ds.map DV.dat), .lst []]) := by
    have e1 : eCB (d1 dList) (aCons (eVar 1) aNil) [some (.loc n), some (.dat (.lst ds)), none, none] μ = .ok (.nl (ds.map DV.dat)) μ := ev_cb1 (fz_var (i := 1) rfl) (by simp [d1, dList, asS, asL])
    have e2 : eLst aNil [some (.loc n), some (.dat (.lst ds)), none, none] (μ ++ [.lst (ds.map DV.dat)]) = .ok (.nl []) (μ ++ [.lst (ds.map DV.dat)]) := rfl
    unfold gPar2
    rw [e1]
    simp only [lift, bindR, if_pos (Nat.le_refl μ.length)]
    rw [e2]
    simp only [lift, bindR]
    rw [if_pos (by simp)]
    simp
  refine call_ret (r := .loc (μ.length + 1)) rfl (sq_next g1 (sq_next (μ' := μ.set n B'.pl ++ [.lst [], .lst (ys.map DV.dat)]) (δ' := [some (.loc n), some (.dat (.lst ds)), some (.loc μ.length), some (.loc (μ.length + 1))]) ?_ (ret_ok (ev_var (i := 3) (x := .loc (μ.length + 1)) rfl)))) ?_
  · show whL (μ ++ _).length _ _ _ _ _ _ _ = _
    rw [show (μ ++ [Pl.lst (ds.map DV.dat), Pl.lst []]).length = μ.length + 2 by simp]
    exact eq
  · unfold closeR
    simp only
    rw [if_neg (by omega)]
    rw [hL, ap1]
    simp only
    have : belowA (μ.set n B'.pl).length (ys.map DV.dat) = true := by
      unfold belowA; rw [List.all_eq_true]; intro x hx
      obtain ⟨d, _, rfl⟩ := List.mem_map.mp hx; rfl
    rw [if_pos this, List.take_left]
/-! ### one of a list -/
def gOne : SM := (gRet (eOp dIx (eVar 1) (eCB (callD gTake 2 5) (aCons (eVar 0) (aCons (eCB (d1 dLen) (aCons (eVar 1) aNil)) aNil)))))
theorem one_spec {n : Nat} {ds : List D} {B : Bg} {μ : Mem} (hB : B.ok) (h : μ[n]? = some B.pl) (h0 : 0 < ds.length) (hs : ds.length < 1073741824) :
    ∃ (d : D) (B' : Bg), B'.ok ∧ d ∈ ds ∧ callD gOne 2 0 [.loc n, .dat (.lst ds)] μ = .ok (.dat d) (μ.set n B'.pl) := by
  obtain ⟨o1, o2, o3⟩ := takeB_ok hB (m := (ds.length : Int)) (by omega)
  have e1 := take_spec hB h (m := (ds.length : Int)) (by omega) (by omega)
  generalize (takeB B ds.length).1 = t at *
  generalize (takeB B ds.length).2 = B2 at *
  obtain ⟨k, rfl⟩ := Int.eq_ofNat_of_zero_le o2
  have hk : k < ds.length := by omega
  have hk' : ds[k]? = some (ds[k]'hk) := List.getElem?_eq_getElem hk
  refine ⟨ds[k], B2, o1, List.getElem_mem hk, call_ret rfl (ret_ok (ev_op (fz_var (i := 1) rfl) (fz_ofD (ev_cb2 (fz_var (i := 0) rfl) (fz_ofD (ev_cb1 (fz_var (i := 1) rfl) len_lst)) e1)) (dIx_lst (atI_nat hk')))) ?_⟩
  show Res.ok _ (List.take _ _) = _
  rw [take_len]
/-! ### the bag at the start -/
def gBag : SM := (gRet (eLst (aCons (eD (.int 0)) (aCons (eD (.int 1234567891)) (aCons (eD (.int 0)) (aCons (eLc (imSeq (eSl (eVar 0) oNone (oSome (eD (.int 63))))) (tgName 1) tmYes (eCB (d1 dAbs) (aCons (eVar 1) aNil)) [1]) aNil))))))
def bag0 (ns : List Int) : Bg := ⟨0, 1234567891, 0, (ns.take 63).map fun i => if i < 0 then -i else i⟩
theorem bag0_ok (ns : List Int) : (bag0 ns).ok := ⟨Int.le_refl 0, by show (0 : Int) ≤ 1234567891; decide, by show (1234567891 : Int) < 2147483647; decide, Int.le_refl 0, fun z hz => by
  obtain ⟨i, _, rfl⟩ := List.mem_map.mp hz
  split <;> omega⟩
theorem lc_bag {d0 : D} {μ : Mem} : ∀ (is : List Int), lcL (tgName 1) tmYes (eCB (d1 dAbs) (aCons (eVar 1) aNil)) [some (.dat d0), none] (is.map D.int) μ = .ok (is.map fun i => .dat (.int (if i < 0 then -i else i))) μ
  | [] => rfl
  | i :: is => by
    have e : frzV (eCB (d1 dAbs) (aCons (eVar 1) aNil)) [some (.dat d0), some (.dat (.int i))] μ = .ok (.dat (.int (if i < 0 then -i else i))) μ := fz_ofD (ev_cb1 (fz_var (i := 1) rfl) rfl)
    have ih := lc_bag (d0 := d0) (μ := μ) is
    simp only [List.map_cons, lcL, tgName, tmYes, List.set_cons_succ, List.set_cons_zero, e, ih, Res.bind]
theorem bag_spec {ns : List Int} {μ : Mem} : callD gBag 1 1 [.dat (.fro (ns.map D.int))] μ = .ok (.nl [.dat (.int (bag0 ns).a), .dat (.int (bag0 ns).b), .dat (.int (bag0 ns).c), .dat (.lst ((bag0 ns).cs.map D.int))]) μ := by
  have e1 : eLc (imSeq (eSl (eVar 0) oNone (oSome (eD (.int 63))))) (tgName 1) tmYes (eCB (d1 dAbs) (aCons (eVar 1) aNil)) [1] [some (.dat (.fro (ns.map D.int))), none] μ = .ok (.nl ((bag0 ns).cs.map fun i => .dat (.int i))) μ := by
    have s : imSeq (eSl (eVar 0) oNone (oSome (eD (.int 63)))) [some (.dat (.fro (ns.map D.int))), none] μ = .ok ((ns.take 63).map D.int) μ := by
      have q : eSl (eVar 0) oNone (oSome (eD (.int 63))) [some (.dat (.fro (ns.map D.int))), none] μ = .ok (.nl (((ns.take 63).map D.int).map DV.dat)) μ := by
        unfold eSl; rw [fz_var (i := 0) (x := .dat (.fro (ns.map D.int))) rfl]
        simp only [Res.bind, oNone, oSome, fz_D, asI, dSl, asL]
        congr 2
        unfold cutL
        rw [HT.sIx_none, show (some (63 : Int)) = some ((63 : Nat) : Int) from rfl, HT.sIx_nat]
        simp [List.map_take]
      unfold imSeq frzV
      rw [q]
      simp only [Res.bind, frz]
      rw [allDat_map]
      rfl
    unfold eLc
    rw [s]
    simp only [Res.bind]
    rw [if_pos (by simp; exact Nat.le_trans (Nat.min_le_left _ _) (by decide))]
    show Res.bind (lcL _ _ _ [some (.dat (.fro (ns.map D.int))), none] _ _) _ = _
    rw [lc_bag]
    simp [Res.bind, bag0, Function.comp_def]
  refine call_ret rfl (ret_ok (r := .nl [.dat (.int (bag0 ns).a), .dat (.int (bag0 ns).b), .dat (.int (bag0 ns).c), .dat (.lst ((bag0 ns).cs.map D.int))]) (μ' := μ) ?_) ?_
  · have e2 : frzV (eLc (imSeq (eSl (eVar 0) oNone (oSome (eD (.int 63))))) (tgName 1) tmYes (eCB (d1 dAbs) (aCons (eVar 1) aNil)) [1]) [some (.dat (.fro (ns.map D.int))), none] μ = .ok (.dat (.lst ((bag0 ns).cs.map D.int))) μ := by
      unfold frzV; rw [e1]; simp only [Res.bind, frz]
      rw [show ((bag0 ns).cs.map fun i => DV.dat (D.int i)) = ((bag0 ns).cs.map D.int).map DV.dat by simp, allDat_map]; rfl
    show eLst _ [some (.dat (.fro (ns.map D.int))), none] μ = _
    generalize (eLc (imSeq (eSl (eVar 0) oNone (oSome (eD (.int 63))))) (tgName 1) tmYes (eCB (d1 dAbs) (aCons (eVar 1) aNil)) [1]) = ff at *
    unfold eLst aCons aNil
    simp only [fz_D, Res.bind, e2]
    rw [if_pos (by simp; decide)]
    rfl
  · unfold closeR
    simp only
    rw [if_pos (show belowA _ _ = true from rfl), List.take_length]
end DL
namespace DL
open PySem PySem.Spec PyProof.Rows L2
/-! ### more evaluation -/
theorem ev_lc {fi : IM} {h : D → Env → Option Env} {ft : TM} {fe : EM} {vs : List Nat} {δ : Env} {μ μ1 μ2 : Mem} {ds : List D} {ys : List DV} (hi : fi δ μ = .ok ds μ1) (hl : ds.length ≤ sizeLine) (hp : lcL h ft fe (wipeE δ vs) ds μ1 = .ok ys μ2) : eLc fi h ft fe vs δ μ = .ok (.nl ys) μ2 := by
  unfold eLc; rw [hi]; simp only [Res.bind]; rw [if_pos hl, hp]
theorem lc_pure {h : D → Env → Option Env} {ft : TM} {fe : EM} {δ : Env} {μ : Mem} (δ1 : D → Env) (c : D → Bool) (y : D → DV) : ∀ (ds : List D), (∀ d ∈ ds, h d δ = some (δ1 d) ∧ ft (δ1 d) μ = .ok (c d) μ ∧ (c d = true → frzV fe (δ1 d) μ = .ok (y d) μ)) → lcL h ft fe δ ds μ = .ok ((ds.filter c).map y) μ
  | [], _ => rfl
  | d :: ds, H => by
    obtain ⟨h1, h2, h3⟩ := H d List.mem_cons_self
    have ih := lc_pure (h := h) (ft := ft) (fe := fe) (δ := δ) (μ := μ) δ1 c y ds fun e he => H e (List.mem_cons_of_mem _ he)
    cases hc : c d with
    | true => simp only [lcL, h1, h2, hc, h3 hc, ih, Res.bind, List.filter_cons, if_true, if_pos trivial, List.map_cons]
    | false => simp [lcL, h1, h2, hc, ih, List.filter_cons]
theorem lc_all {h : D → Env → Option Env} {fe : EM} {δ : Env} {μ : Mem} (δ1 : D → Env) (y : D → DV) (ds : List D) (H : ∀ d ∈ ds, h d δ = some (δ1 d) ∧ frzV fe (δ1 d) μ = .ok (y d) μ) : lcL h tmYes fe δ ds μ = .ok (ds.map y) μ := by
  refine (lc_pure δ1 (fun _ => true) y ds fun d hd => ⟨(H d hd).1, rfl, fun _ => (H d hd).2⟩).trans ?_
  rw [List.filter_eq_self.mpr (fun _ _ => rfl)]
theorem im_seq {f : EM} {δ : Env} {μ μ' : Mem} {x : DV} {ds : List D} (h : frzV f δ μ = .ok x μ') (hs : seqD x = some ds) : imSeq f δ μ = .ok ds μ' := by unfold imSeq; rw [h]; simp only [Res.bind, hs]
theorem im_rng {f : EM} {δ : Env} {μ μ' : Mem} {j : Int} (h : frzV f δ μ = .ok (.dat (.int j)) μ') (hj : -2 ^ 62 ≤ j ∧ j < 2 ^ 62) : imRng (aCons f aNil) δ μ = .ok (rngD 0 j.toNat) μ' := by
  unfold imRng aCons aNil; rw [h]; simp only [Res.bind, asI]; rw [if_pos hj]
theorem im_enum {f : EM} {δ : Env} {μ μ' : Mem} {x : DV} {ds : List D} (h : frzV f δ μ = .ok x μ') (hs : seqD x = some ds) : imEnum (aCons f aNil) δ μ = .ok (enumD 0 ds) μ' := by
  unfold imEnum aCons aNil; rw [h]; simp only [Res.bind, hs]
theorem ev_sl {f : EM} {lo hi : OM} {δ : Env} {μ μ1 μ2 μ3 : Mem} {x : DV} {l u : Option Int} {r : Res R} (h : frzV f δ μ = .ok x μ1) (hl : lo δ μ1 = .ok l μ2) (hh : hi δ μ2 = .ok u μ3) (hr : dSl x l u μ3 = r) : eSl f lo hi δ μ = r := by
  unfold eSl; rw [h]; simp only [Res.bind]; rw [hl]; simp only; rw [hh]; exact hr
theorem o_some {f : EM} {δ : Env} {μ μ' : Mem} {i : Int} (h : frzV f δ μ = .ok (.dat (.int i)) μ') : oSome f δ μ = .ok (some i) μ' := by unfold oSome; rw [h]; simp only [Res.bind, asI]
theorem fz_nl {f : EM} {δ : Env} {μ μ' : Mem} {ds : List D} (h : f δ μ = .ok (.nl (ds.map DV.dat)) μ') : frzV f δ μ = .ok (.dat (.lst ds)) μ' := by unfold frzV; rw [h]; simp only [Res.bind, frz]; rw [allDat_map]; rfl
theorem sl_lst {ds : List D} {l u : Option Int} {μ : Mem} : dSl (.dat (.lst ds)) l u μ = .ok (.nl ((cutL ds l u).map DV.dat)) μ := by
  simp only [dSl, asL]; congr 2; unfold cutL; simp [List.map_drop, List.map_take]
theorem sl_tup {ds : List D} {l u : Option Int} {μ : Mem} : dSl (.dat (.tup ds)) l u μ = .ok (.dat (.tup (cutL ds l u))) μ := rfl
theorem cut_from {α : Type} (xs : List α) (k : Nat) {i : Int} (hi : i = (k : Int) := by rfl) : cutL xs (some i) none = xs.drop k := by
  subst hi
  unfold cutL; rw [HT.sIx_none, HT.sIx_nat]
  by_cases c : k ≤ xs.length
  · rw [Nat.min_eq_left c]; exact List.take_of_length_le (by simp)
  · rw [Nat.min_eq_right (by omega), List.drop_of_length_le (Nat.le_refl _), List.drop_of_length_le (by omega)]; simp
theorem cut_to {α : Type} (xs : List α) (k : Nat) : cutL xs none (some (k : Int)) = xs.take k := by
  unfold cutL; rw [HT.sIx_none, HT.sIx_nat, List.drop_zero, Nat.sub_zero]
  by_cases c : k ≤ xs.length
  · rw [Nat.min_eq_left c]
  · rw [Nat.min_eq_right (by omega), List.take_of_length_le (Nat.le_refl _), List.take_of_length_le (by omega)]
theorem cut_at2 {α : Type} (xs : List α) (a b : Nat) (h : a ≤ b) (hb : b ≤ xs.length) : cutL xs (some (a : Int)) (some (b : Int)) = (xs.drop a).take (b - a) := by
  unfold cutL; rw [HT.sIx_nat, HT.sIx_nat, Nat.min_eq_left (show a ≤ xs.length by omega), Nat.min_eq_left hb]
theorem cutL_mem {α : Type} {xs : List α} {l u : Option Int} {x : α} (h : x ∈ cutL xs l u) : x ∈ xs := List.mem_of_mem_drop (List.mem_of_mem_take h)
theorem dIx_tup {μ : Mem} {ds : List D} {i : Int} {d : D} (h : atI ds i = some d) : dIx (.dat (.tup ds)) (.dat (.int i)) μ = .ok (.dat d) μ := by
  have : atI (ds.map DV.dat) i = some (.dat d) := by
    unfold atI at h ⊢
    rw [List.length_map]
    cases q : ixN ds.length i with
    | none => rw [q] at h; cases h
    | some j => rw [q] at h; simp only [Option.bind_some] at h ⊢; rw [List.getElem?_map, h]; rfl
  simp [dIx, asI, asS, asL, asT, this, ofV]
theorem flats_str : ∀ ss : List Str, flats (ss.map fun s => .dat (.str s)) = some (ss.map V.str)
  | [] => rfl
  | s :: ss => by simp [flats, flat, flats_str ss]
theorem inV_str (s : Str) (ss : List Str) : inV (.str s) (ss.map V.str) = decide (s ∈ ss) := by
  induction ss with
  | nil => rfl
  | cons t ss ih =>
    unfold inV at ih ⊢
    rw [List.map_cons, List.any_cons, ih]
    have : eqV (V.str t) (V.str s) = decide (t = s) := by
      show (t == s) = _
      by_cases c : t = s
      · subst c; simp
      · rw [decide_eq_false c]; exact beq_false_of_ne c
    rw [this]
    by_cases c : t = s
    · subst c; simp
    · have c' : ¬ s = t := fun h => c h.symm
      simp [c, c']
theorem in_tup {neg : Bool} {s : Str} {ss : List Str} {μ : Mem} : dIn neg (.dat (.str s)) (.dat (.tup (ss.map D.str))) μ = .ok (.dat (.bl (if neg = true then !decide (s ∈ ss) else decide (s ∈ ss)))) μ := by
  have : (ss.map D.str).map DV.dat = ss.map fun s => .dat (.str s) := by simp
  simp only [dIn, flat, asS, asL, asT, Option.map, this, flats_str, inV_str]
theorem tup_ok {g : AM} {δ : Env} {μ μ' : Mem} {ds : List D} (h : g δ μ = .ok (ds.map DV.dat) μ') (hl : ds.length ≤ sizeLine) : eTup g δ μ = .ok (.dat (.tup ds)) μ' := by
  unfold eTup; rw [h]; simp only [Res.bind, allDat_map]; rw [if_pos hl]
theorem a_cons {f : EM} {g : AM} {δ : Env} {μ μ1 μ2 : Mem} {x : DV} {xs : List DV} (h : frzV f δ μ = .ok x μ1) (hs : g δ μ1 = .ok xs μ2) : aCons f g δ μ = .ok (x :: xs) μ2 := by unfold aCons; rw [h]; simp only [Res.bind]; rw [hs]
theorem a_nil {δ : Env} {μ : Mem} : aNil δ μ = .ok [] μ := rfl
theorem ev_cb {g : List DV → Mem → Res R} {fa : AM} {δ : Env} {μ μ1 : Mem} {xs : List DV} {r : Res R} (h : fa δ μ = .ok xs μ1) (hr : g xs μ1 = r) : eCB g fa δ μ = r := by unfold eCB; rw [h]; exact hr
theorem lst_ok {g : AM} {δ : Env} {μ μ' : Mem} {xs : List DV} (h : g δ μ = .ok xs μ') (hl : xs.length ≤ sizeLine) : eLst g δ μ = .ok (.nl xs) μ' := by unfold eLst; rw [h]; simp only [Res.bind]; rw [if_pos hl]
theorem add_lst {a b : List D} {μ : Mem} (h : a.length + b.length ≤ sizeLine) : dAdd (.dat (.lst a)) (.dat (.lst b)) μ = .ok (.nl ((a ++ b).map DV.dat)) μ := by
  simp only [dAdd, asI, asStr, asT, asM, List.length_map]; rw [if_pos h, List.map_append]
theorem if_ev {ft : TM} {g h : EM} {δ : Env} {μ μ' : Mem} {b : Bool} {r : Res R} (e : ft δ μ = .ok b μ') (k : (if b = true then g δ μ' else h δ μ') = r) : eIf ft g h δ μ = r := by unfold eIf; rw [e]; exact k
theorem close_dat {d : D} {μ μ' : Mem} {N : Nat} (h : μ'.take N = μ) : closeR N (.dat d) μ' = .ok (.dat d) μ := by unfold closeR; simp only; rw [h]
theorem close_nl {ds : List D} {μ μ' : Mem} {N : Nat} (h : μ'.take N = μ) : closeR N (.nl (ds.map DV.dat)) μ' = .ok (.nl (ds.map DV.dat)) μ := by
  have : belowA N (ds.map DV.dat) = true := by
    unfold belowA; rw [List.all_eq_true]; intro x hx
    obtain ⟨d, _, rfl⟩ := List.mem_map.mp hx; rfl
  unfold closeR; simp only; rw [if_pos this, h]
theorem tgt_ok {h : D → Env → Option Env} {f : EM} {N : Nat} {δ δ' : Env} {μ μ' : Mem} {d : D} (e : frzV f δ μ = .ok (.dat d) μ') (k : h d δ = some δ') : gTgt h f N δ μ = .next δ' μ' := by unfold gTgt; rw [e]; simp only [lift, k]
theorem new_nl {f : EM} {i N : Nat} {δ : Env} {μ μ' : Mem} {xs : List DV} (e : f δ μ = .ok (.nl xs) μ') (hN : N ≤ μ'.length) : gNew i f N δ μ = .next (δ.set i (some (.loc μ'.length))) (μ' ++ [.lst xs]) := by unfold gNew; rw [e]; simp only [lift, bindR]; rw [if_pos hN]
theorem ext_tup {μ : Mem} {n : Nat} {ys : List DV} {ds : List D} (h : μ[n]? = some (.lst ys)) (hl : ys.length + ds.length ≤ sizeLine) : dExtend (.loc n) [.dat (.tup ds)] μ = .ok (.dat .non) (μ.set n (.lst (ys ++ ds.map DV.dat))) := by
  simp only [dExtend, atPl, h, asM, asT]; rw [if_pos hl]
theorem asStrs_map : ∀ ss : List Str, asStrs (ss.map fun s => .dat (.str s)) = some ss
  | [] => rfl
  | s :: ss => by simp [asStrs, asStr, asStrs_map ss]
theorem sortset_loc {f : EM} {δ : Env} {μ : Mem} {n : Nat} {ss : List Str} (e : frzV f δ μ = .ok (.loc n) μ) (h : μ[n]? = some (.lst (ss.map fun s => .dat (.str s)))) (hl : ss.length + 1 < scanBound) : eSortSet f δ μ = .ok (strsR (sortU ss)) μ := by
  unfold eSortSet; rw [e]; simp only [Res.bind, asS, asL, h, asStrs_map]; rw [if_pos hl]
theorem tuple_lst {ds : List D} {μ : Mem} : d1 dTuple [.dat (.lst ds)] μ = .ok (.dat (.tup ds)) μ := by simp only [d1, dTuple, asL, allDat_map]
end DL
namespace DL
open PySem PySem.Spec PyProof.Rows L2
/-! ### the law's def itself, and its promise -/
section
variable {P : Program} {w : World} {K : PySem.W.Frag} {mg : Str → Option Value} {base : Heap}
theorem fn_okG {x qual : Str} {st : Stmt} {f : Addr} {fd : FuncData} {Nm ps : List Str} {k n m : Nat} {g : SM} (F : Fun K x qual st f fd) (S : FnScope Nm ps (defScope st)) (hn : ps.length = n) (hmn : Nm.length = n + m)
    (body : ∀ (cdv : Value) (A : Around) (out : List PySem.Env) (s : Shared) (H : Hp) (E : XK), Room k (A.deeper (envOfC qual (defScope st) s.heap.objs.size f cdv)) → A.guards = some [] →
      ∃ ts, PSMs (cxOf CX0 P w K mg base Nm qual (defScope st) f cdv A out s H E).nox (fun cls d _ H => E cls d H) (defBody st) ts g) :
    FnG P w K mg base CX0 (k + 1) f fd ps (spF K n (callD g n m)) := by
  obtain ⟨oc, od, kV, doc, pm, an, cdv, ct, osl, rfl, lk, hcd⟩ := F.ex
  refine fnG_of lk hcd S (fun vs H Q E h => by rw [h.1, hn]) fun A out s H vs Q E hr hg hsp => ?_
  obtain ⟨ts, b⟩ := body cdv A out s H E hr hg
  refine ⟨ts, b.ps.nox, ?_⟩
  have e : Nm.length - n = m := by omega
  exact body_ok (n := n) b.sd (by omega) (by rw [e]; exact sp_callD hsp)
theorem rpl_ints {G : Hp} : ∀ ns : List Int, RpL K G (ns.map V.int) (ns.map D.int)
  | [] => .nil
  | i :: ns => .cons (.int i) (rpl_ints ns)
theorem law_sp {H : Hp} {a : Addr} {ns : List Int} {F : List DV → Mem → Res R} (hS : SqL K H a (ns.map V.int)) {μ' : Mem} (h : F [.dat (.fro (ns.map D.int))] [] = .ok (.dat (.bl true)) μ') :
    spF K 1 F [.ref a] H (fun v _ => v = .bl true) (fun _ _ _ => False) := by
  refine ⟨rfl, fun _ => none, H, [], [.dat (.fro (ns.map D.int))], ⟨Ex.refl _, (fun _ _ _ h => by cases h), (fun _ _ h => by cases h), (fun _ _ h => by cases h), (fun _ _ h => by cases h), (fun _ _ h => by simp at h)⟩, .cons (Rp.fro hS (rpl_ints ns)) .nil, ?_⟩
  rw [h]
  intro G' H' v t R q
  cases q; rfl
theorem dict_mk {d : Addr} {es : Array DictEntry} {n : Nat} (h1 : K.lookup d = some ⟨.type "dict", none, .dict es n, #[]⟩) (h2 : PySem.W.KeysLit w.params es.toList) (h3 : (d == sysModules) = false) : KDict K w d es n := ⟨h1, h2, h3⟩
end
end DL
namespace K12
open PySem PySem.Spec PyProof.Rows L2 DL

section
def topS (i : Nat) : Stmt := PySem.Challenge.pw_smallcount_k12_names_and_countings.main.body.getD i (.Pass ⟨0, 0, 0, 0⟩)
abbrev s__law_alike : Stmt := topS 11
abbrev N__law_alike : List Str := ["_law_found", "_law_due"]
theorem sc__law_alike : FnScope N__law_alike ["_law_found", "_law_due"] (defScope s__law_alike) := ⟨rfl, rfl, rfl, by decide +kernel, rfl, by decide +kernel, by decide +kernel⟩
abbrev s__law_all_names : Stmt := topS 17
abbrev N__law_all_names : List Str := ["_law_deed_here", "_law_found", "_law_step_here"]
theorem sc__law_all_names : FnScope N__law_all_names ["_law_deed_here"] (defScope s__law_all_names) := ⟨rfl, rfl, rfl, by decide +kernel, rfl, by decide +kernel, by decide +kernel⟩
abbrev s__law_bag : Stmt := topS 9
abbrev N__law_bag : List Str := ["_law_script", "_law_cell"]
theorem sc__law_bag : FnScope N__law_bag ["_law_script"] (defScope s__law_bag) := ⟨rfl, rfl, rfl, by decide +kernel, rfl, by decide +kernel, by decide +kernel⟩
abbrev s__law_take : Stmt := topS 10
abbrev N__law_take : List Str := ["_law_bag_here", "_law_many", "_law_cell", "_law_mixed_here", "_law_drawn", "_law_early", "_law_second"]
theorem sc__law_take : FnScope N__law_take ["_law_bag_here", "_law_many"] (defScope s__law_take) := ⟨rfl, rfl, rfl, by decide +kernel, rfl, by decide +kernel, by decide +kernel⟩
abbrev s__law_mixed : Stmt := topS 12
abbrev N__law_mixed : List Str := ["_law_bag_here", "_law_things", "_law_left", "_law_found"]
theorem sc__law_mixed : FnScope N__law_mixed ["_law_bag_here", "_law_things"] (defScope s__law_mixed) := ⟨rfl, rfl, rfl, by decide +kernel, rfl, by decide +kernel, by decide +kernel⟩
abbrev s__law_names : Stmt := topS 14
abbrev N__law_names : List Str := ["_law_bag_here", "_law_many", "_law_menu", "_law_at"]
theorem sc__law_names : FnScope N__law_names ["_law_bag_here", "_law_many"] (defScope s__law_names) := ⟨rfl, rfl, rfl, by decide +kernel, rfl, by decide +kernel, by decide +kernel⟩
abbrev s__law_one : Stmt := topS 13
abbrev N__law_one : List Str := ["_law_bag_here", "_law_things"]
theorem sc__law_one : FnScope N__law_one ["_law_bag_here", "_law_things"] (defScope s__law_one) := ⟨rfl, rfl, rfl, by decide +kernel, rfl, by decide +kernel, by decide +kernel⟩
abbrev s__law_step : Stmt := topS 15
abbrev N__law_step : List Str := ["_law_bag_here", "_law_names_here", "_law_only_loud", "_law_loud", "_law_word", "_law_a", "_law_others", "_law_name"]
theorem sc__law_step : FnScope N__law_step ["_law_bag_here", "_law_names_here", "_law_only_loud"] (defScope s__law_step) := ⟨rfl, rfl, rfl, by decide +kernel, rfl, by decide +kernel, by decide +kernel⟩
abbrev s__law_deed : Stmt := topS 16
abbrev N__law_deed : List Str := ["_law_bag_here", "_law_only_loud", "_law_names_here", "_law_args", "_law_own_here", "_law_many", "_law_k"]
theorem sc__law_deed : FnScope N__law_deed ["_law_bag_here", "_law_only_loud"] (defScope s__law_deed) := ⟨rfl, rfl, rfl, by decide +kernel, rfl, by decide +kernel, by decide +kernel⟩
abbrev s__law_own : Stmt := topS 18
abbrev N__law_own : List Str := ["_law_deed_here", "_law_name"]
theorem sc__law_own : FnScope N__law_own ["_law_deed_here"] (defScope s__law_own) := ⟨rfl, rfl, rfl, by decide +kernel, rfl, by decide +kernel, by decide +kernel⟩
abbrev s_all_names : Stmt := topS 4
abbrev N_all_names : List Str := ["deed", "found", "step"]
theorem sc_all_names : FnScope N_all_names ["deed"] (defScope s_all_names) := ⟨rfl, rfl, rfl, by decide +kernel, rfl, by decide +kernel, by decide +kernel⟩
abbrev s_countings : Stmt := topS 7
abbrev N_countings : List Str := ["deed", "index", "step"]
theorem sc_countings : FnScope N_countings ["deed"] (defScope s_countings) := ⟨rfl, rfl, rfl, by decide +kernel, rfl, by decide +kernel, by decide +kernel⟩
abbrev s_is_loud : Stmt := topS 6
abbrev N_is_loud : List Str := ["deed", "step"]
theorem sc_is_loud : FnScope N_is_loud ["deed"] (defScope s_is_loud) := ⟨rfl, rfl, rfl, by decide +kernel, rfl, by decide +kernel, by decide +kernel⟩
abbrev s_names_in : Stmt := topS 3
abbrev N_names_in : List Str := ["step"]
theorem sc_names_in : FnScope N_names_in ["step"] (defScope s_names_in) := ⟨rfl, rfl, rfl, by decide +kernel, rfl, by decide +kernel, by decide +kernel⟩
abbrev s_own_names : Stmt := topS 5
abbrev N_own_names : List Str := ["deed", "name"]
theorem sc_own_names : FnScope N_own_names ["deed"] (defScope s_own_names) := ⟨rfl, rfl, rfl, by decide +kernel, rfl, by decide +kernel, by decide +kernel⟩
abbrev s_law : Stmt := topS 19
abbrev N_law : List Str := ["_law_script", "_law_bag_here", "_law_turn", "_law_deed_here", "_law_words", "_law_due", "_law_is_due", "_law_again", "_law_found", "_law_step_here", "_law_at", "_law_word"]
theorem sc_law : FnScope N_law ["_law_script"] (defScope s_law) := ⟨rfl, rfl, rfl, by decide +kernel, rfl, by decide +kernel, by decide +kernel⟩
/-! what the defs are, as functions -/
def g__law_alike : SM :=
    (gRet (eAnd (eOp dEq (eVar 0) (eVar 1)) (eOp dEq (eCB (d1 dRepr) (aCons (eVar 0) aNil)) (eCB (d1 dRepr) (aCons (eVar 1) aNil)))))
def F__law_alike : List DV → Mem → Res R := callD g__law_alike 2 0
def g__law_all_names : SM :=
    (gSeq (gNew 1 (eCB (d1 dList) (aCons (eOp dIx (eVar 0) (eD (.int 0))) aNil)))
    (gSeq (gFor [true, true, false] (imSeq (eOp dIx (eVar 0) (eD (.int 1)))) (tgName 2) (gDrop (eBM tyL dExtend (eVar 1) (aCons (eSl (eVar 2) (oSome (eD (.int 1))) oNone) aNil))))
    (gRet (eSortSet (eVar 1)))))
def F__law_all_names : List DV → Mem → Res R := callD g__law_all_names 1 2
def g__law_bag : SM :=
    (gRet (eLst (aCons (eD (.int 0)) (aCons (eD (.int 1234567891)) (aCons (eD (.int 0)) (aCons (eLc (imSeq (eSl (eVar 0) oNone (oSome (eD (.int 63))))) (tgName 1) tmYes (eCB (d1 dAbs) (aCons (eVar 1) aNil)) [1]) aNil))))))
def F__law_bag : List DV → Mem → Res R := callD g__law_bag 1 1
def g__law_take : SM :=
    (gSeq (gIf (tmB (eOp dEq (eOp dIx (eVar 0) (eD (.int 0))) (eD (.int 0)))) (gSeq (gAsg 2 (eD (.int 0)))
    (gSeq (gIf (tmB (eOp dLt (eOp dIx (eVar 0) (eD (.int 2))) (eCB (d1 dLen) (aCons (eOp dIx (eVar 0) (eD (.int 3))) aNil)))) (gAsg 2 (eOp dIx (eOp dIx (eVar 0) (eD (.int 3))) (eOp dIx (eVar 0) (eD (.int 2))))) gNext)
    (gSeq (gAugS (fun i j => i + j) (eVar 0) (eD (.int 2)) (eD (.int 1)))
    (gSeq (gIf (tmB (eOp dGe (eVar 2) (eD (.int 1000000000000000000)))) (gSet (eVar 0) (eD (.int 0)) (eVar 2)) gNext)
    (gSeq (gAsg 3 (eOp dAdd (eOp dAdd (eOp dMul (eOp dIx (eVar 0) (eD (.int 1))) (eD (.int 48271))) (eOp dMod (eCB (d1 dInt) (aCons (eVar 2) aNil)) (eD (.int 2147483647)))) (eOp dMul (eD (.int 7919)) (eOp dIx (eVar 0) (eD (.int 2))))))
    (gSet (eVar 0) (eD (.int 1)) (eOp dMod (eCB (d1 dInt) (aCons (eVar 3) aNil)) (eD (.int 2147483647))))))))) gNext)
    (gSeq (gIf (tmB (eOp dGt (eOp dIx (eVar 0) (eD (.int 0))) (eD (.int 0)))) (gSeq (gAsg 4 (eOp dMod (eCB (d1 dInt) (aCons (eOp dIx (eVar 0) (eD (.int 0))) aNil)) (eVar 1)))
    (gSeq (gSet (eVar 0) (eD (.int 0)) (eOp dDiv (eCB (d1 dInt) (aCons (eOp dIx (eVar 0) (eD (.int 0))) aNil)) (eVar 1)))
    (gRet (eVar 4)))) gNext)
    (gSeq (gAsg 5 (eOp dMod (eCB (d1 dInt) (aCons (eOp dMul (eOp dAdd (eOp dIx (eVar 0) (eD (.int 1))) (eD (.int 1))) (eD (.int 39373))) aNil)) (eD (.int 1000000007))))
    (gSeq (gAsg 6 (eOp dMod (eCB (d1 dInt) (aCons (eOp dMul (eOp dMod (eCB (d1 dInt) (aCons (eOp dMul (eVar 5) (eVar 5)) aNil)) (eD (.int 998244353))) (eD (.int 30011))) aNil)) (eD (.int 998244353))))
    (gRet (eOp dMod (eCB (d1 dInt) (aCons (eOp dDiv (eVar 6) (eD (.int 7))) aNil)) (eVar 1)))))))
def F__law_take : List DV → Mem → Res R := callD g__law_take 2 5
def g__law_mixed : SM :=
    (gSeq (gPar2 2 3 (eCB (d1 dList) (aCons (eVar 1) aNil)) (eLst aNil))
    (gSeq (gWh 100000 [true, true, true, true] (tmB (eOp dNe (eVar 2) (eLst aNil))) (gDrop (eBM tyL dAppend (eVar 3) (aCons (eBM tyL dPop (eVar 2) (aCons (eCB F__law_take (aCons (eVar 0) (aCons (eCB (d1 dLen) (aCons (eVar 2) aNil)) aNil))) aNil)) aNil))))
    (gRet (eVar 3))))
def F__law_mixed : List DV → Mem → Res R := callD g__law_mixed 2 2
def g__law_names : SM :=
    (gSeq (gAsg 2 (eBM tyS dSplit (eD (.str "a ab end l more new share write x zzzzzzzz")) (aCons (eD (.str " ")) aNil)))
    (gSeq (gAsg 3 (eCB F__law_take (aCons (eVar 0) (aCons (eD (.int 10)) aNil))))
    (gRet (eCB F__law_mixed (aCons (eVar 0) (aCons (eSl (eOp dAdd (eVar 2) (eVar 2)) (oSome (eVar 3)) (oSome (eOp dAdd (eVar 3) (eVar 1)))) aNil))))))
def F__law_names : List DV → Mem → Res R := callD g__law_names 2 2
def g__law_one : SM :=
    (gRet (eOp dIx (eVar 1) (eCB F__law_take (aCons (eVar 0) (aCons (eCB (d1 dLen) (aCons (eVar 1) aNil)) aNil)))))
def F__law_one : List DV → Mem → Res R := callD g__law_one 2 0
def g__law_step : SM :=
    (gSeq (gAsg 3 (eLst (aCons (eD (.str "new")) (aCons (eD (.str "share")) (aCons (eD (.str "share")) (aCons (eD (.str "end")) (aCons (eD (.str "write")) (aCons (eD (.str "write")) aNil))))))))
    (gSeq (gAsg 4 (eCB F__law_one (aCons (eVar 0) (aCons (eIf (tmB (eVar 2)) (eVar 3) (eOp dAdd (eVar 3) (eLst (aCons (eD (.str "hold")) (aCons (eD (.str "leave")) (aCons (eD (.str "more")) (aCons (eD (.str "less")) aNil))))))) aNil))))
    (gSeq (gAsg 5 (eCB F__law_one (aCons (eVar 0) (aCons (eVar 1) aNil))))
    (gSeq (gIf (tmB (eOp (dIn true) (eVar 4) (eTup (aCons (eD (.str "share")) (aCons (eD (.str "hold")) aNil))))) (gRet (eTup (aCons (eVar 4) (aCons (eVar 5) aNil)))) gNext)
    (gSeq (gAsg 6 (eLc (imSeq (eVar 1)) (tgName 7) (tmB (eOp dNe (eVar 7) (eVar 5))) (eVar 7) [7]))
    (gRet (eIf (tmB (eOp dNe (eVar 6) (eLst aNil))) (eTup (aCons (eVar 4) (aCons (eVar 5) (aCons (eCB F__law_one (aCons (eVar 0) (aCons (eVar 6) aNil))) aNil)))) (eTup (aCons (eD (.str "end")) (aCons (eVar 5) aNil))))))))))
def F__law_step : List DV → Mem → Res R := callD g__law_step 3 5
def g__law_deed : SM :=
    (gSeq (gAsg 2 (eCB F__law_names (aCons (eVar 0) (aCons (eD (.int 5)) aNil))))
    (gSeq (gTgt (tgTup 2 (tgCons (tgName 3) (tgCons (tgName 4) tgNil))) (eTup (aCons (eSl (eVar 2) oNone (oSome (eOp dAdd (eD (.int 1)) (eCB F__law_take (aCons (eVar 0) (aCons (eD (.int 3)) aNil)))))) (aCons (eSl (eVar 2) (oSome (eD (.int 3))) (oSome (eOp dAdd (eD (.int 3)) (eOp dIx (eLst (aCons (eD (.int 0)) (aCons (eD (.int 0)) (aCons (eD (.int 1)) (aCons (eD (.int 2)) aNil))))) (eCB F__law_take (aCons (eVar 0) (aCons (eD (.int 4)) aNil))))))) aNil))))
    (gSeq (gAsg 5 (eOp dIx (eLst (aCons (eD (.int 1)) (aCons (eD (.int 1)) (aCons (eD (.int 2)) (aCons (eD (.int 3)) (aCons (eD (.int 4)) (aCons (eD (.int 8)) aNil))))))) (eCB F__law_take (aCons (eVar 0) (aCons (eD (.int 6)) aNil)))))
    (gRet (eTup (aCons (eCB (d1 dTuple) (aCons (eVar 3) aNil)) (aCons (eCB (d1 dTuple) (aCons (eLc (imRng (aCons (eVar 5) aNil)) (tgName 6) tmYes (eCB F__law_step (aCons (eVar 0) (aCons (eOp dAdd (eVar 3) (eVar 4)) (aCons (eVar 1) aNil)))) [6]) aNil)) aNil)))))))
def F__law_deed : List DV → Mem → Res R := callD g__law_deed 2 5
def g__law_own : SM :=
    (gRet (eLc (imSeq (eCB F__law_all_names (aCons (eVar 0) aNil))) (tgName 1) (tmB (eOp (dIn true) (eVar 1) (eOp dIx (eVar 0) (eD (.int 0))))) (eVar 1) [1]))
def F__law_own : List DV → Mem → Res R := callD g__law_own 1 1
def g_all_names : SM :=
    (gSeq (gNew 1 (eCB (d1 dList) (aCons (eOp dIx (eVar 0) (eD (.int 0))) aNil)))
    (gSeq (gFor [true, true, false] (imSeq (eOp dIx (eVar 0) (eD (.int 1)))) (tgName 2) (gDrop (eBM tyL dExtend (eVar 1) (aCons (eSl (eVar 2) (oSome (eD (.int 1))) oNone) aNil))))
    (gRet (eSortSet (eVar 1)))))
def F_all_names : List DV → Mem → Res R := callD g_all_names 1 2
def g_countings : SM :=
    (gRet (eLc (imEnum (aCons (eOp dIx (eVar 0) (eD (.int 1))) aNil)) (tgTup 2 (tgCons (tgName 1) (tgCons (tgName 2) tgNil))) (tmB (eInK false ["share", "end"] (eOp dIx (eVar 2) (eD (.int 0))))) (eVar 1) [1, 2]))
def F_countings : List DV → Mem → Res R := callD g_countings 1 2
def g_is_loud : SM :=
    (gRet (eCB (d1 (dAll fun bs => bs.all id)) (aCons (eLc (imSeq (eOp dIx (eVar 0) (eD (.int 1)))) (tgName 1) tmYes (eOp (dIn true) (eOp dIx (eVar 1) (eD (.int 0))) (eD (.tup ((["hold", "leave", "more", "less"] : List Str).map D.str)))) [1]) aNil)))
def F_is_loud : List DV → Mem → Res R := callD g_is_loud 1 1
def g_names_in : SM :=
    (gRet (eSl (eVar 0) (oSome (eD (.int 1))) oNone))
def F_names_in : List DV → Mem → Res R := callD g_names_in 1 0
def g_own_names : SM :=
    (gRet (eCB (d1 dTuple) (aCons (eLc (imSeq (eCB F_all_names (aCons (eVar 0) aNil))) (tgName 1) (tmB (eOp (dIn true) (eVar 1) (eOp dIx (eVar 0) (eD (.int 0))))) (eVar 1) [1]) aNil)))
def F_own_names : List DV → Mem → Res R := callD g_own_names 1 1
def g_law : SM :=
    (gSeq (gNew 1 (eCB F__law_bag (aCons (eVar 0) aNil)))
    (gSeq (gFor [true, true, false, false, false, false, false, false, false, false, false, false] (imRng (aCons (eD (.int 20)) aNil)) (tgName 2) (gSeq (gAsg 3 (eCB F__law_deed (aCons (eVar 1) (aCons (eOp dEq (eCB F__law_take (aCons (eVar 1) (aCons (eD (.int 2)) aNil))) (eD (.int 0))) aNil))))
    (gSeq (gAsg 4 (eLc (imSeq (eOp dIx (eVar 3) (eD (.int 1)))) (tgName 9) tmYes (eOp dIx (eVar 9) (eD (.int 0))) [9]))
    (gSeq (gDisp 5 (nCons (eCB F__law_all_names (aCons (eVar 3) aNil)) (nCons (eCB (d1 dTuple) (aCons (eCB F__law_own (aCons (eVar 3) aNil)) aNil)) nNil)))
    (gSeq (gDrop (eBM tyL dAppend (eVar 5) (aCons (eLc (imRng (aCons (eCB (d1 dLen) (aCons (eVar 4) aNil)) aNil)) (tgName 10) (tmB (eOp (dIn false) (eOp dIx (eVar 4) (eVar 10)) (eTup (aCons (eD (.str "share")) (aCons (eD (.str "end")) aNil))))) (eVar 10) [10]) aNil)))
    (gSeq (gAsg 6 (eOp dEq (eLc (imSeq (eVar 4)) (tgName 11) (tmB (eOp (dIn false) (eVar 11) (eTup (aCons (eD (.str "hold")) (aCons (eD (.str "leave")) (aCons (eD (.str "more")) (aCons (eD (.str "less")) aNil))))))) (eVar 11) [11]) (eLst aNil)))
    (gFor [true, true, true, true, true, true, true, false, false, false, false, false] (imRng (aCons (eD (.int 2)) aNil)) (tgName 7) (gSeq (gDisp 8 (nCons (eCB F_all_names (aCons (eVar 3) aNil)) (nCons (eCB F_own_names (aCons (eVar 3) aNil)) (nCons (eCB F_countings (aCons (eVar 3) aNil)) nNil))))
    (gSeq (gIf (tmOr (tmNot (tmB (eCB F__law_alike (aCons (eVar 8) (aCons (eVar 5) aNil))))) (tmNot (tmB (eCB F__law_alike (aCons (eCB F_is_loud (aCons (eVar 3) aNil)) (aCons (eVar 6) aNil)))))) (gRet (eD (.bl false))) gNext)
    (gSeq (gDrop (eBM tyL dAppend (eOp dIx (eVar 8) (eD (.int 0))) (aCons (eD .non) aNil)))
    (gSeq (gDrop (eBM0 tyL dClear (eOp dIx (eVar 8) (eD (.int 2)))))
    (gIf (tmNot (tmB (eCB F__law_alike (aCons (eLc (imSeq (eOp dIx (eVar 3) (eD (.int 1)))) (tgName 9) tmYes (eCB F_names_in (aCons (eVar 9) aNil)) [9]) (aCons (eLc (imSeq (eOp dIx (eVar 3) (eD (.int 1)))) (tgName 9) tmYes (eSl (eVar 9) (oSome (eD (.int 1))) oNone) [9]) aNil))))) (gRet (eD (.bl false))) gNext))))))))))))
    (gRet (eD (.bl true)))))
def F_law : List DV → Mem → Res R := callD g_law 1 11
/-! what the text holds besides -/
structure Tx (w : World) (K : PySem.W.Frag) (mg : Str → Option Value) (c_NOT_LOUD : Addr) (c_QUIET : Addr) : Prop where
  m_abs : mg "abs" = none
  m_all : mg "all" = none
  m_enumerate : mg "enumerate" = none
  m_int : mg "int" = none
  m_len : mg "len" = none
  m_list : mg "list" = none
  m_range : mg "range" = none
  m_repr : mg "repr" = none
  m_set : mg "set" = none
  m_sorted : mg "sorted" = none
  m_tuple : mg "tuple" = none
  g_NOT_LOUD : mg "NOT_LOUD" = some (.ref c_NOT_LOUD)
  r_NOT_LOUD : ∀ G, Rp K G (.ref c_NOT_LOUD) (.tup ((["hold", "leave", "more", "less"] : List Str).map D.str))
  g_QUIET : mg "QUIET" = some (.ref c_QUIET)
  x_QUIET : ∃ es n, KDict K w c_QUIET es n ∧ es.toList.map (fun e => match e.key with | .str x _ => some x | _ => none) = (["share", "end"] : List Str).map some
section
variable {P : Program} {w : World} {K : PySem.W.Frag} {mg : Str → Option Value} {base : Heap} {c_NOT_LOUD c_QUIET : Addr}
set_option maxHeartbeats 4000000 in
theorem ok__law_alike {f : Addr} {fd : FuncData} (F : Fun K "_law_alike" "_law_alike" s__law_alike f fd) (hm : mg "_law_alike" = some (.ref f)) (T : Tx w K mg c_NOT_LOUD c_QUIET)  : FnD P w K mg base CX0 1 "_law_alike" 2 F__law_alike := by
  refine fn_ok F sc__law_alike hm rfl rfl (fun _ _ _ _ _ _ us hl => match us, hl with | [_, _], _ => rfl) fun cdv A out s H E hr hgd => ?_
  have nd := (sc__law_alike).nd
  exact Exists.intro _ (ss_one (sm_ret (pm_and (pm_cmpK (op_eqK K hr.units) (od_eq (K := K)) (pm_var 0) (pm_var 1) (nomark _)) (pm_one (pm_cmpK (op_eqK K hr.units) (od_eq (K := K)) (pm_cbK (cr_reprK K hr hgd) (cd_repr (K := K)) (by rfl) T.m_repr (by decide +kernel) (pma_cons (pm_var 0) pma_nil)) (pm_cbK (cr_reprK K hr hgd) (cd_repr (K := K)) (by rfl) T.m_repr (by decide +kernel) (pma_cons (pm_var 1) pma_nil)) (nomark _))))))
set_option maxHeartbeats 4000000 in
theorem ok__law_all_names {f : Addr} {fd : FuncData} (F : Fun K "_law_all_names" "_law_all_names" s__law_all_names f fd) (hm : mg "_law_all_names" = some (.ref f)) (T : Tx w K mg c_NOT_LOUD c_QUIET)  : FnD P w K mg base CX0 1 "_law_all_names" 1 F__law_all_names := by
  refine fn_ok F sc__law_all_names hm rfl rfl (fun _ _ _ _ _ _ us hl => match us, hl with | [_], _ => rfl) fun cdv A out s H E hr hgd => ?_
  have nd := (sc__law_all_names).nd
  exact Exists.intro _ (ss_cons (sm_new 1 nd (pm_ctK (call_list_ofK K) (cd_list (K := K)) (by rfl) T.m_list (by decide +kernel) (pma_cons (pm_idxK K (pm_var 0) pm_int (fun _ _ => rfl)) pma_nil)))
      (ss_cons (sm_for [true, true, false] PassesOwn.never rfl (mi_seqK K (pm_idxK K (pm_var 0) pm_int (fun _ _ => rfl))) (pg_nm 2 nd) (ss_one (sm_expr (pm_bmK K PySem.F.plainAttrs_list PySem.F.slot_list_extend PySem.F.type_list_extend (mt_extK K) td_list md_ext (pm_var 1) (pma_cons (pm_slK K (pm_var 2) (mo_some pm_int) mo_none) pma_nil)))))
      (ss_one (sm_ret (pm_sortsetK K w rfl rfl T.m_sorted rfl T.m_set (pm_var 1))))))
set_option maxHeartbeats 4000000 in
theorem ok__law_bag {f : Addr} {fd : FuncData} (F : Fun K "_law_bag" "_law_bag" s__law_bag f fd) (hm : mg "_law_bag" = some (.ref f)) (T : Tx w K mg c_NOT_LOUD c_QUIET)  : FnD P w K mg base CX0 1 "_law_bag" 1 F__law_bag := by
  refine fn_ok F sc__law_bag hm rfl rfl (fun _ _ _ _ _ _ us hl => match us, hl with | [_], _ => rfl) fun cdv A out s H E hr hgd => ?_
  have nd := (sc__law_bag).nd
  exact Exists.intro _ (ss_one (sm_ret (pm_lst (pma_cons pm_int (pma_cons pm_int (pma_cons pm_int (pma_cons (pm_lc (own := [("_law_cell", 1)]) rfl nd (mi_seqK K (pm_slK K (pm_var 0) mo_none (mo_some pm_int))) (blkOk_by (N := N__law_bag) (sc := defScope s__law_bag) (by decide +kernel)) (fun _ _ _ _ _ => (pg_nm 1 nd)) (by decide) (fun _ _ _ _ _ => ts_nil) (fun _ _ _ _ _ => (pm_cbK call_abs (cd_abs (K := K)) (by rfl) T.m_abs (by decide +kernel) (pma_cons (pm_var 1) pma_nil)))) pma_nil)))))))
set_option maxHeartbeats 4000000 in
theorem ok__law_take {f : Addr} {fd : FuncData} (F : Fun K "_law_take" "_law_take" s__law_take f fd) (hm : mg "_law_take" = some (.ref f)) (T : Tx w K mg c_NOT_LOUD c_QUIET)  : FnD P w K mg base CX0 1 "_law_take" 2 F__law_take := by
  refine fn_ok F sc__law_take hm rfl rfl (fun _ _ _ _ _ _ us hl => match us, hl with | [_, _], _ => rfl) fun cdv A out s H E hr hgd => ?_
  have nd := (sc__law_take).nd
  exact Exists.intro _ (ss_cons (sm_if (pt_cmpK (op_eqK K hr.units) (od_eq (K := K)) (pm_idxK K (pm_var 0) pm_int (fun _ _ => rfl)) pm_int (nomark _)) (ss_cons (sm_asg 2 nd pm_int)
      (ss_cons (sm_if (pt_cmpK op_lt (od_lt (K := K)) (pm_idxK K (pm_var 0) pm_int (fun _ _ => rfl)) (pm_cbK (call_lenK K) (cd_len (K := K)) (by rfl) T.m_len PySem.boot_len (pma_cons (pm_idxK K (pm_var 0) pm_int (fun _ _ => rfl)) pma_nil)) (nomark _)) (ss_one (sm_asg 2 nd (pm_idxK K (pm_idxK K (pm_var 0) pm_int (fun _ _ => rfl)) (pm_idxK K (pm_var 0) pm_int (fun _ _ => rfl)) (fun _ _ => rfl)))) ss_nil)
      (ss_cons (sm_augSK K (pm_var 0) pm_int pm_int)
      (ss_cons (sm_if (pt_cmpK op_ge (od_ge (K := K)) (pm_var 2) pm_int (nomark _)) (ss_one (sm_set (pm_var 0) pm_int (pm_var 2))) ss_nil)
      (ss_cons (sm_asg 3 nd (pm_addK K (pm_addK K (pm_mul (pm_idxK K (pm_var 0) pm_int (fun _ _ => rfl)) pm_int) (pm_mod (pm_ctK call_int1 (cd_int (K := K)) (by rfl) T.m_int (by decide +kernel) (pma_cons (pm_var 2) pma_nil)) pm_int)) (pm_mul pm_int (pm_idxK K (pm_var 0) pm_int (fun _ _ => rfl)))))
      (ss_one (sm_set (pm_var 0) pm_int (pm_mod (pm_ctK call_int1 (cd_int (K := K)) (by rfl) T.m_int (by decide +kernel) (pma_cons (pm_var 3) pma_nil)) pm_int)))))))) ss_nil)
      (ss_cons (sm_if (pt_cmpK op_gt (od_gt (K := K)) (pm_idxK K (pm_var 0) pm_int (fun _ _ => rfl)) pm_int (nomark _)) (ss_cons (sm_asg 4 nd (pm_mod (pm_ctK call_int1 (cd_int (K := K)) (by rfl) T.m_int (by decide +kernel) (pma_cons (pm_idxK K (pm_var 0) pm_int (fun _ _ => rfl)) pma_nil)) (pm_var 1)))
      (ss_cons (sm_set (pm_var 0) pm_int (pm_div (pm_ctK call_int1 (cd_int (K := K)) (by rfl) T.m_int (by decide +kernel) (pma_cons (pm_idxK K (pm_var 0) pm_int (fun _ _ => rfl)) pma_nil)) (pm_var 1)))
      (ss_one (sm_ret (pm_var 4))))) ss_nil)
      (ss_cons (sm_asg 5 nd (pm_mod (pm_ctK call_int1 (cd_int (K := K)) (by rfl) T.m_int (by decide +kernel) (pma_cons (pm_mul (pm_addK K (pm_idxK K (pm_var 0) pm_int (fun _ _ => rfl)) pm_int) pm_int) pma_nil)) pm_int))
      (ss_cons (sm_asg 6 nd (pm_mod (pm_ctK call_int1 (cd_int (K := K)) (by rfl) T.m_int (by decide +kernel) (pma_cons (pm_mul (pm_mod (pm_ctK call_int1 (cd_int (K := K)) (by rfl) T.m_int (by decide +kernel) (pma_cons (pm_mul (pm_var 5) (pm_var 5)) pma_nil)) pm_int) pm_int) pma_nil)) pm_int))
      (ss_one (sm_ret (pm_mod (pm_ctK call_int1 (cd_int (K := K)) (by rfl) T.m_int (by decide +kernel) (pma_cons (pm_div (pm_var 6) pm_int) pma_nil)) (pm_var 1))))))))
set_option maxHeartbeats 4000000 in
theorem ok__law_mixed {f : Addr} {fd : FuncData} (F : Fun K "_law_mixed" "_law_mixed" s__law_mixed f fd) (hm : mg "_law_mixed" = some (.ref f)) (T : Tx w K mg c_NOT_LOUD c_QUIET) (C__law_take : FnD P w K mg base CX0 1 "_law_take" 2 F__law_take) : FnD P w K mg base CX0 2 "_law_mixed" 2 F__law_mixed := by
  refine fn_ok F sc__law_mixed hm rfl rfl (fun _ _ _ _ _ _ us hl => match us, hl with | [_, _], _ => rfl) fun cdv A out s H E hr hgd => ?_
  have nd := (sc__law_mixed).nd
  exact Exists.intro _ (ss_cons (sm_par2 2 3 rfl nd (pm_ctK (call_list_ofK K) (cd_list (K := K)) (by rfl) T.m_list (by decide +kernel) (pma_cons (pm_var 1) pma_nil)) (pm_lst pma_nil))
      (ss_cons (sm_while 100000 [true, true, true, true] PassesOwn.never (pt_cmpK (op_neK K hr.units) (od_ne (K := K)) (pm_var 2) (pm_lst pma_nil) (nomark _)) (ss_one (sm_expr (pm_bmK K PySem.F.plainAttrs_list PySem.F.slot_list_append PySem.F.type_list_append mt_append td_list md_append (pm_var 3) (pma_cons (pm_bmK K PySem.F.plainAttrs_list PySem.F.slot_list_pop PySem.F.type_list_pop mt_popAt td_list md_popAt (pm_var 2) (pma_cons (pm_callK C__law_take (hr.mono (by decide)) hgd rfl pass_0 (pma_cons (pm_var 0) (pma_cons (pm_cbK (call_lenK K) (cd_len (K := K)) (by rfl) T.m_len PySem.boot_len (pma_cons (pm_var 2) pma_nil)) pma_nil))) pma_nil)) pma_nil)))))
      (ss_one (sm_ret (pm_var 3)))))
set_option maxHeartbeats 4000000 in
theorem ok__law_names {f : Addr} {fd : FuncData} (F : Fun K "_law_names" "_law_names" s__law_names f fd) (hm : mg "_law_names" = some (.ref f)) (T : Tx w K mg c_NOT_LOUD c_QUIET) (C__law_mixed : FnD P w K mg base CX0 2 "_law_mixed" 2 F__law_mixed) (C__law_take : FnD P w K mg base CX0 1 "_law_take" 2 F__law_take) : FnD P w K mg base CX0 3 "_law_names" 2 F__law_names := by
  refine fn_ok F sc__law_names hm rfl rfl (fun _ _ _ _ _ _ us hl => match us, hl with | [_, _], _ => rfl) fun cdv A out s H E hr hgd => ?_
  have nd := (sc__law_names).nd
  exact Exists.intro _ (ss_cons (sm_asg 2 nd (pm_bmK K PySem.F.plainAttrs_str PySem.F.slot_str_split PySem.F.type_str_split mt_split td_str md_split pm_str (pma_cons pm_str pma_nil)))
      (ss_cons (sm_asg 3 nd (pm_callK C__law_take (hr.mono (by decide)) hgd rfl pass_0 (pma_cons (pm_var 0) (pma_cons pm_int pma_nil))))
      (ss_one (sm_ret (pm_callK C__law_mixed (hr.mono (by decide)) hgd rfl pass_0 (pma_cons (pm_var 0) (pma_cons (pm_slK K (pm_addK K (pm_var 2) (pm_var 2)) (mo_some (pm_var 3)) (mo_some (pm_addK K (pm_var 3) (pm_var 1)))) pma_nil)))))))
set_option maxHeartbeats 4000000 in
theorem ok__law_one {f : Addr} {fd : FuncData} (F : Fun K "_law_one" "_law_one" s__law_one f fd) (hm : mg "_law_one" = some (.ref f)) (T : Tx w K mg c_NOT_LOUD c_QUIET) (C__law_take : FnD P w K mg base CX0 1 "_law_take" 2 F__law_take) : FnD P w K mg base CX0 2 "_law_one" 2 F__law_one := by
  refine fn_ok F sc__law_one hm rfl rfl (fun _ _ _ _ _ _ us hl => match us, hl with | [_, _], _ => rfl) fun cdv A out s H E hr hgd => ?_
  have nd := (sc__law_one).nd
  exact Exists.intro _ (ss_one (sm_ret (pm_idxK K (pm_var 1) (pm_callK C__law_take (hr.mono (by decide)) hgd rfl pass_0 (pma_cons (pm_var 0) (pma_cons (pm_cbK (call_lenK K) (cd_len (K := K)) (by rfl) T.m_len PySem.boot_len (pma_cons (pm_var 1) pma_nil)) pma_nil))) (fun _ _ => rfl))))
set_option maxHeartbeats 4000000 in
theorem ok__law_step {f : Addr} {fd : FuncData} (F : Fun K "_law_step" "_law_step" s__law_step f fd) (hm : mg "_law_step" = some (.ref f)) (T : Tx w K mg c_NOT_LOUD c_QUIET) (C__law_one : FnD P w K mg base CX0 2 "_law_one" 2 F__law_one) : FnD P w K mg base CX0 3 "_law_step" 3 F__law_step := by
  refine fn_ok F sc__law_step hm rfl rfl (fun _ _ _ _ _ _ us hl => match us, hl with | [_, _, _], _ => rfl) fun cdv A out s H E hr hgd => ?_
  have nd := (sc__law_step).nd
  exact Exists.intro _ (ss_cons (sm_asg 3 nd (pm_lst (pma_cons pm_str (pma_cons pm_str (pma_cons pm_str (pma_cons pm_str (pma_cons pm_str (pma_cons pm_str pma_nil))))))))
      (ss_cons (sm_asg 4 nd (pm_callK C__law_one (hr.mono (by decide)) hgd rfl pass_0 (pma_cons (pm_var 0) (pma_cons (pm_if (pt_of (pm_var 2)) (pm_var 3) (pm_addK K (pm_var 3) (pm_lst (pma_cons pm_str (pma_cons pm_str (pma_cons pm_str (pma_cons pm_str pma_nil))))))) pma_nil))))
      (ss_cons (sm_asg 5 nd (pm_callK C__law_one (hr.mono (by decide)) hgd rfl pass_0 (pma_cons (pm_var 0) (pma_cons (pm_var 1) pma_nil))))
      (ss_cons (sm_if (pt_cmpK (op_notInK K) (od_in (K := K) true) (pm_var 4) (pm_tup (pma_cons pm_str (pma_cons pm_str pma_nil))) (by rfl)) (ss_one (sm_ret (pm_tup (pma_cons (pm_var 4) (pma_cons (pm_var 5) pma_nil))))) ss_nil)
      (ss_cons (sm_lc false (own := [("_law_name", 7)]) (j := 6) rfl nd rfl rfl (sw_true rfl rfl rfl (by decide +kernel)) (mi_seqK K (pm_var 1)) (blkOk_by (N := N__law_step) (sc := defScope s__law_step) (by decide +kernel)) (fun _ _ _ _ _ => (pg_nm 7 nd)) (by decide) (fun _ _ _ _ _ => (ts_one (pt_cmpK (op_neK K hr.units) (od_ne (K := K)) (pm_var 7) (pm_var 5) (nomark _)))) (fun _ _ _ _ _ => (pm_var 7)))
      (ss_one (sm_ret (pm_if (pt_cmpK (op_neK K hr.units) (od_ne (K := K)) (pm_var 6) (pm_lst pma_nil) (nomark _)) (pm_tup (pma_cons (pm_var 4) (pma_cons (pm_var 5) (pma_cons (pm_callK C__law_one (hr.mono (by decide)) hgd rfl pass_0 (pma_cons (pm_var 0) (pma_cons (pm_var 6) pma_nil))) pma_nil)))) (pm_tup (pma_cons pm_str (pma_cons (pm_var 5) pma_nil)))))))))))
set_option maxHeartbeats 4000000 in
theorem ok__law_deed {f : Addr} {fd : FuncData} (F : Fun K "_law_deed" "_law_deed" s__law_deed f fd) (hm : mg "_law_deed" = some (.ref f)) (T : Tx w K mg c_NOT_LOUD c_QUIET) (C__law_names : FnD P w K mg base CX0 3 "_law_names" 2 F__law_names) (C__law_step : FnD P w K mg base CX0 3 "_law_step" 3 F__law_step) (C__law_take : FnD P w K mg base CX0 1 "_law_take" 2 F__law_take) : FnD P w K mg base CX0 4 "_law_deed" 2 F__law_deed := by
  refine fn_ok F sc__law_deed hm rfl rfl (fun _ _ _ _ _ _ us hl => match us, hl with | [_, _], _ => rfl) fun cdv A out s H E hr hgd => ?_
  have nd := (sc__law_deed).nd
  exact Exists.intro _ (ss_cons (sm_asg 2 nd (pm_callK C__law_names (hr.mono (by decide)) hgd rfl pass_0 (pma_cons (pm_var 0) (pma_cons pm_int pma_nil))))
      (ss_cons (sm_tgt (pg_tpK K rfl (gs_cons (pg_nm 3 nd) (gs_cons (pg_nm 4 nd) gs_nil))) (pm_tup (pma_cons (pm_slK K (pm_var 2) mo_none (mo_some (pm_addK K pm_int (pm_callK C__law_take (hr.mono (by decide)) hgd rfl pass_0 (pma_cons (pm_var 0) (pma_cons pm_int pma_nil)))))) (pma_cons (pm_slK K (pm_var 2) (mo_some pm_int) (mo_some (pm_addK K pm_int (pm_idxK K (pm_lst (pma_cons pm_int (pma_cons pm_int (pma_cons pm_int (pma_cons pm_int pma_nil))))) (pm_callK C__law_take (hr.mono (by decide)) hgd rfl pass_0 (pma_cons (pm_var 0) (pma_cons pm_int pma_nil))) (fun _ _ => rfl))))) pma_nil))))
      (ss_cons (sm_asg 5 nd (pm_idxK K (pm_lst (pma_cons pm_int (pma_cons pm_int (pma_cons pm_int (pma_cons pm_int (pma_cons pm_int (pma_cons pm_int pma_nil))))))) (pm_callK C__law_take (hr.mono (by decide)) hgd rfl pass_0 (pma_cons (pm_var 0) (pma_cons pm_int pma_nil))) (fun _ _ => rfl)))
      (ss_one (sm_ret (pm_tup (pma_cons (pm_ctK (call_tuple_ofK K) (cd_tuple (K := K)) (by rfl) T.m_tuple (by decide +kernel) (pma_cons (pm_var 3) pma_nil)) (pma_cons (pm_ctK (call_tuple_ofK K) (cd_tuple (K := K)) (by rfl) T.m_tuple (by decide +kernel) (pma_cons (pm_lc (own := [("_law_k", 6)]) rfl nd (mi_rng1 rfl T.m_range (pma_cons (pm_var 5) pma_nil)) (blkOk_by (N := N__law_deed) (sc := defScope s__law_deed) (by decide +kernel)) (fun _ _ _ _ _ => (pg_nm 6 nd)) (by decide) (fun _ _ _ _ _ => ts_nil) (fun _ _ _ _ _ => (pm_callK C__law_step (hr.mono (by decide)) hgd rfl pass_0 (pma_cons (pm_var 0) (pma_cons (pm_addK K (pm_var 3) (pm_var 4)) (pma_cons (pm_var 1) pma_nil)))))) pma_nil)) pma_nil))))))))
set_option maxHeartbeats 4000000 in
theorem ok__law_own {f : Addr} {fd : FuncData} (F : Fun K "_law_own" "_law_own" s__law_own f fd) (hm : mg "_law_own" = some (.ref f)) (T : Tx w K mg c_NOT_LOUD c_QUIET) (C__law_all_names : FnD P w K mg base CX0 1 "_law_all_names" 1 F__law_all_names) : FnD P w K mg base CX0 2 "_law_own" 1 F__law_own := by
  refine fn_ok F sc__law_own hm rfl rfl (fun _ _ _ _ _ _ us hl => match us, hl with | [_], _ => rfl) fun cdv A out s H E hr hgd => ?_
  have nd := (sc__law_own).nd
  exact Exists.intro _ (ss_one (sm_ret (pm_lc (own := [("_law_name", 1)]) rfl nd (mi_seqK K (pm_callK C__law_all_names (hr.mono (by decide)) hgd rfl pass_0 (pma_cons (pm_var 0) pma_nil))) (blkOk_by (N := N__law_own) (sc := defScope s__law_own) (by decide +kernel)) (fun _ _ _ _ _ => (pg_nm 1 nd)) (by decide) (fun _ _ _ _ _ => (ts_one (pt_cmpK (op_notInK K) (od_in (K := K) true) (pm_var 1) (pm_idxK K (pm_var 0) pm_int (fun _ _ => rfl)) (by rfl)))) (fun _ _ _ _ _ => (pm_var 1)))))
set_option maxHeartbeats 4000000 in
theorem ok_all_names {f : Addr} {fd : FuncData} (F : Fun K "all_names" "all_names" s_all_names f fd) (hm : mg "all_names" = some (.ref f)) (T : Tx w K mg c_NOT_LOUD c_QUIET)  : FnD P w K mg base CX0 1 "all_names" 1 F_all_names := by
  refine fn_ok F sc_all_names hm rfl rfl (fun _ _ _ _ _ _ us hl => match us, hl with | [_], _ => rfl) fun cdv A out s H E hr hgd => ?_
  have nd := (sc_all_names).nd
  exact Exists.intro _ (ss_cons (sm_new 1 nd (pm_ctK (call_list_ofK K) (cd_list (K := K)) (by rfl) T.m_list (by decide +kernel) (pma_cons (pm_idxK K (pm_var 0) pm_int (fun _ _ => rfl)) pma_nil)))
      (ss_cons (sm_for [true, true, false] PassesOwn.never rfl (mi_seqK K (pm_idxK K (pm_var 0) pm_int (fun _ _ => rfl))) (pg_nm 2 nd) (ss_one (sm_expr (pm_bmK K PySem.F.plainAttrs_list PySem.F.slot_list_extend PySem.F.type_list_extend (mt_extK K) td_list md_ext (pm_var 1) (pma_cons (pm_slK K (pm_var 2) (mo_some pm_int) mo_none) pma_nil)))))
      (ss_one (sm_ret (pm_sortsetK K w rfl rfl T.m_sorted rfl T.m_set (pm_var 1))))))
set_option maxHeartbeats 4000000 in
theorem ok_countings {f : Addr} {fd : FuncData} (F : Fun K "countings" "countings" s_countings f fd) (hm : mg "countings" = some (.ref f)) (T : Tx w K mg c_NOT_LOUD c_QUIET)  : FnD P w K mg base CX0 1 "countings" 1 F_countings := by
  obtain ⟨es_QUIET, n_QUIET, kd_QUIET, kk_QUIET⟩ := T.x_QUIET
  refine fn_ok F sc_countings hm rfl rfl (fun _ _ _ _ _ _ us hl => match us, hl with | [_], _ => rfl) fun cdv A out s H E hr hgd => ?_
  have nd := (sc_countings).nd
  exact Exists.intro _ (ss_one (sm_ret (pm_lc (own := [("index", 1), ("step", 2)]) rfl nd (mi_enumK K rfl T.m_enumerate (pma_cons (pm_idxK K (pm_var 0) pm_int (fun _ _ => rfl)) pma_nil)) (blkOk_by (N := N_countings) (sc := defScope s_countings) (by decide +kernel)) (fun _ _ _ _ _ => (pg_tpK K rfl (gs_cons (pg_nm 1 nd) (gs_cons (pg_nm 2 nd) gs_nil)))) (by decide) (fun _ _ _ _ _ => (ts_one (pt_inKdK kd_QUIET kk_QUIET rfl T.g_QUIET (pm_idxK K (pm_var 2) pm_int (fun _ _ => rfl))))) (fun _ _ _ _ _ => (pm_var 1)))))
set_option maxHeartbeats 4000000 in
theorem ok_is_loud {f : Addr} {fd : FuncData} (F : Fun K "is_loud" "is_loud" s_is_loud f fd) (hm : mg "is_loud" = some (.ref f)) (T : Tx w K mg c_NOT_LOUD c_QUIET)  : FnD P w K mg base CX0 1 "is_loud" 1 F_is_loud := by
  refine fn_ok F sc_is_loud hm rfl rfl (fun _ _ _ _ _ _ us hl => match us, hl with | [_], _ => rfl) fun cdv A out s H E hr hgd => ?_
  have nd := (sc_is_loud).nd
  exact Exists.intro _ (ss_one (sm_ret (pm_cbK (cr_allK K rfl) (cd_all (K := K) fun bs => bs.all id) (by rfl) T.m_all (by decide +kernel) (pma_cons (pm_lc (own := [("step", 1)]) rfl nd (mi_seqK K (pm_idxK K (pm_var 0) pm_int (fun _ _ => rfl))) (blkOk_by (N := N_is_loud) (sc := defScope s_is_loud) (by decide +kernel)) (fun _ _ _ _ _ => (pg_nm 1 nd)) (by decide) (fun _ _ _ _ _ => ts_nil) (fun _ _ _ _ _ => (pm_cmpK (op_notInK K) (od_in (K := K) true) (pm_idxK K (pm_var 1) pm_int (fun _ _ => rfl)) (pm_glob (v := .ref c_NOT_LOUD) rfl T.g_NOT_LOUD rfl T.r_NOT_LOUD) (by rfl)))) pma_nil))))
set_option maxHeartbeats 4000000 in
theorem ok_names_in {f : Addr} {fd : FuncData} (F : Fun K "names_in" "names_in" s_names_in f fd) (hm : mg "names_in" = some (.ref f)) (T : Tx w K mg c_NOT_LOUD c_QUIET)  : FnD P w K mg base CX0 1 "names_in" 1 F_names_in := by
  refine fn_ok F sc_names_in hm rfl rfl (fun _ _ _ _ _ _ us hl => match us, hl with | [_], _ => rfl) fun cdv A out s H E hr hgd => ?_
  have nd := (sc_names_in).nd
  exact Exists.intro _ (ss_one (sm_ret (pm_slK K (pm_var 0) (mo_some pm_int) mo_none)))
set_option maxHeartbeats 4000000 in
theorem ok_own_names {f : Addr} {fd : FuncData} (F : Fun K "own_names" "own_names" s_own_names f fd) (hm : mg "own_names" = some (.ref f)) (T : Tx w K mg c_NOT_LOUD c_QUIET) (C_all_names : FnD P w K mg base CX0 1 "all_names" 1 F_all_names) : FnD P w K mg base CX0 2 "own_names" 1 F_own_names := by
  refine fn_ok F sc_own_names hm rfl rfl (fun _ _ _ _ _ _ us hl => match us, hl with | [_], _ => rfl) fun cdv A out s H E hr hgd => ?_
  have nd := (sc_own_names).nd
  exact Exists.intro _ (ss_one (sm_ret (pm_ctK (call_tuple_ofK K) (cd_tuple (K := K)) (by rfl) T.m_tuple (by decide +kernel) (pma_cons (pm_lc (own := [("name", 1)]) rfl nd (mi_seqK K (pm_callK C_all_names (hr.mono (by decide)) hgd rfl pass_0 (pma_cons (pm_var 0) pma_nil))) (blkOk_by (N := N_own_names) (sc := defScope s_own_names) (by decide +kernel)) (fun _ _ _ _ _ => (pg_nm 1 nd)) (by decide) (fun _ _ _ _ _ => (ts_one (pt_cmpK (op_notInK K) (od_in (K := K) true) (pm_var 1) (pm_idxK K (pm_var 0) pm_int (fun _ _ => rfl)) (by rfl)))) (fun _ _ _ _ _ => (pm_var 1))) pma_nil))))
set_option maxHeartbeats 4000000 in
theorem ok_law {f : Addr} {fd : FuncData} (F : Fun K "law" "law" s_law f fd) (T : Tx w K mg c_NOT_LOUD c_QUIET) (C__law_alike : FnD P w K mg base CX0 1 "_law_alike" 2 F__law_alike) (C__law_all_names : FnD P w K mg base CX0 1 "_law_all_names" 1 F__law_all_names) (C__law_bag : FnD P w K mg base CX0 1 "_law_bag" 1 F__law_bag) (C__law_deed : FnD P w K mg base CX0 4 "_law_deed" 2 F__law_deed) (C__law_own : FnD P w K mg base CX0 2 "_law_own" 1 F__law_own) (C__law_take : FnD P w K mg base CX0 1 "_law_take" 2 F__law_take) (C_all_names : FnD P w K mg base CX0 1 "all_names" 1 F_all_names) (C_countings : FnD P w K mg base CX0 1 "countings" 1 F_countings) (C_is_loud : FnD P w K mg base CX0 1 "is_loud" 1 F_is_loud) (C_names_in : FnD P w K mg base CX0 1 "names_in" 1 F_names_in) (C_own_names : FnD P w K mg base CX0 2 "own_names" 1 F_own_names) : FnG P w K mg base CX0 5 f fd ["_law_script"] (spF K 1 F_law) := by
  refine fn_okG F sc_law rfl rfl fun cdv A out s H E hr hgd => ?_
  have nd := (sc_law).nd
  exact Exists.intro _ (ss_cons (sm_new 1 nd (pm_callK C__law_bag (hr.mono (by decide)) hgd rfl pass_0 (pma_cons (pm_var 0) pma_nil)))
      (ss_cons (sm_for [true, true, false, false, false, false, false, false, false, false, false, false] PassesOwn.never rfl (mi_rng1 rfl T.m_range (pma_cons pm_int pma_nil)) (pg_nm 2 nd) (ss_cons (sm_asg 3 nd (pm_callK C__law_deed (hr.mono (by decide)) hgd rfl pass_0 (pma_cons (pm_var 1) (pma_cons (pm_cmpK (op_eqK K hr.units) (od_eq (K := K)) (pm_callK C__law_take (hr.mono (by decide)) hgd rfl pass_0 (pma_cons (pm_var 1) (pma_cons pm_int pma_nil))) pm_int (nomark _)) pma_nil))))
      (ss_cons (sm_asg 4 nd (pm_lc (own := [("_law_step_here", 9)]) rfl nd (mi_seqK K (pm_idxK K (pm_var 3) pm_int (fun _ _ => rfl))) (blkOk_by (N := N_law) (sc := defScope s_law) (by decide +kernel)) (fun _ _ _ _ _ => (pg_nm 9 nd)) (by decide) (fun _ _ _ _ _ => ts_nil) (fun _ _ _ _ _ => (pm_idxK K (pm_var 9) pm_int (fun _ _ => rfl)))))
      (ss_cons (sm_disp 5 nd (n_cons (pm_callK C__law_all_names (hr.mono (by decide)) hgd rfl pass_0 (pma_cons (pm_var 3) pma_nil)) (n_cons (pm_ctK (call_tuple_ofK K) (cd_tuple (K := K)) (by rfl) T.m_tuple (by decide +kernel) (pma_cons (pm_callK C__law_own (hr.mono (by decide)) hgd rfl pass_0 (pma_cons (pm_var 3) pma_nil)) pma_nil)) n_nil)))
      (ss_cons (sm_expr (pm_bmK K PySem.F.plainAttrs_list PySem.F.slot_list_append PySem.F.type_list_append mt_append td_list md_append (pm_var 5) (pma_cons (pm_lc (own := [("_law_at", 10)]) rfl nd (mi_rng1 rfl T.m_range (pma_cons (pm_cbK (call_lenK K) (cd_len (K := K)) (by rfl) T.m_len PySem.boot_len (pma_cons (pm_var 4) pma_nil)) pma_nil)) (blkOk_by (N := N_law) (sc := defScope s_law) (by decide +kernel)) (fun _ _ _ _ _ => (pg_nm 10 nd)) (by decide) (fun _ _ _ _ _ => (ts_one (pt_cmpK (op_inK K) (od_in (K := K) false) (pm_idxK K (pm_var 4) (pm_var 10) (fun _ _ => rfl)) (pm_tup (pma_cons pm_str (pma_cons pm_str pma_nil))) (by rfl)))) (fun _ _ _ _ _ => (pm_var 10))) pma_nil)))
      (ss_cons (sm_asg 6 nd (pm_cmpK (op_eqK K hr.units) (od_eq (K := K)) (pm_lc (own := [("_law_word", 11)]) rfl nd (mi_seqK K (pm_var 4)) (blkOk_by (N := N_law) (sc := defScope s_law) (by decide +kernel)) (fun _ _ _ _ _ => (pg_nm 11 nd)) (by decide) (fun _ _ _ _ _ => (ts_one (pt_cmpK (op_inK K) (od_in (K := K) false) (pm_var 11) (pm_tup (pma_cons pm_str (pma_cons pm_str (pma_cons pm_str (pma_cons pm_str pma_nil))))) (by rfl)))) (fun _ _ _ _ _ => (pm_var 11))) (pm_lst pma_nil) (nomark _)))
      (ss_one (sm_for [true, true, true, true, true, true, true, false, false, false, false, false] PassesOwn.never rfl (mi_rng1 rfl T.m_range (pma_cons pm_int pma_nil)) (pg_nm 7 nd) (ss_cons (sm_disp 8 nd (n_cons (pm_callK C_all_names (hr.mono (by decide)) hgd rfl pass_0 (pma_cons (pm_var 3) pma_nil)) (n_cons (pm_callK C_own_names (hr.mono (by decide)) hgd rfl pass_0 (pma_cons (pm_var 3) pma_nil)) (n_cons (pm_callK C_countings (hr.mono (by decide)) hgd rfl pass_0 (pma_cons (pm_var 3) pma_nil)) n_nil))))
      (ss_cons (sm_if (PMW.t (w_or (pt_no (pt_of (pm_callK C__law_alike (hr.mono (by decide)) hgd rfl pass_0 (pma_cons (pm_var 8) (pma_cons (pm_var 5) pma_nil))))) (w_or1 (pt_no (pt_of (pm_callK C__law_alike (hr.mono (by decide)) hgd rfl pass_0 (pma_cons (pm_callK C_is_loud (hr.mono (by decide)) hgd rfl pass_0 (pma_cons (pm_var 3) pma_nil)) (pma_cons (pm_var 6) pma_nil)))))))) (ss_one (sm_ret pm_bl)) ss_nil)
      (ss_cons (sm_expr (pm_bmK K PySem.F.plainAttrs_list PySem.F.slot_list_append PySem.F.type_list_append mt_append td_list md_append (pm_idxK K (pm_var 8) pm_int (fun _ _ => rfl)) (pma_cons pm_non pma_nil)))
      (ss_cons (sm_expr (pm_bm0K K PySem.F.plainAttrs_list PySem.F.slot_list_clear PySem.F.type_list_clear mt_clear td_list md_clear (pm_idxK K (pm_var 8) pm_int (fun _ _ => rfl))))
      (ss_one (sm_if (pt_no (pt_of (pm_callK C__law_alike (hr.mono (by decide)) hgd rfl pass_0 (pma_cons (pm_lc (own := [("_law_step_here", 9)]) rfl nd (mi_seqK K (pm_idxK K (pm_var 3) pm_int (fun _ _ => rfl))) (blkOk_by (N := N_law) (sc := defScope s_law) (by decide +kernel)) (fun _ _ _ _ _ => (pg_nm 9 nd)) (by decide) (fun _ _ _ _ _ => ts_nil) (fun _ _ _ _ _ => (pm_callK C_names_in (hr.mono (by decide)) hgd rfl pass_0 (pma_cons (pm_var 9) pma_nil)))) (pma_cons (pm_lc (own := [("_law_step_here", 9)]) rfl nd (mi_seqK K (pm_idxK K (pm_var 3) pm_int (fun _ _ => rfl))) (blkOk_by (N := N_law) (sc := defScope s_law) (by decide +kernel)) (fun _ _ _ _ _ => (pg_nm 9 nd)) (by decide) (fun _ _ _ _ _ => ts_nil) (fun _ _ _ _ _ => (pm_slK K (pm_var 9) (mo_some pm_int) mo_none))) pma_nil))))) (ss_one (sm_ret pm_bl)) ss_nil))))))))))))))
      (ss_one (sm_ret pm_bl))))
end
end
end K12
namespace K12
open PySem PySem.Spec PyProof.Rows L2 DL
theorem sz {α : Type} {l : List α} (h : l.length ≤ 1000 := by simp) : l.length ≤ sizeLine := Nat.le_trans h (by decide)
def menu : List Str := ["a", "ab", "end", "l", "more", "new", "share", "write", "x", "zzzzzzzz"]
def words : List Str := ["new", "share", "share", "end", "write", "write", "hold", "leave", "more", "less"]
theorem menu_fit : ∀ s ∈ menu, PyData.strOk s = true ∧ s.cps.size ≤ 16 := by decide +kernel
theorem words_fit : ∀ s ∈ words, PyData.strOk s = true ∧ s.cps.size ≤ 16 := by decide +kernel
theorem split_menu : Txt.split "a ab end l more new share write x zzzzzzzz" " " = menu := by decide +kernel
def sD (s : Str) : D := .str s
theorem fit_sD {s : Str} (h : s ∈ menu) : ∃ p, toPy (.str s) = some p ∧ Fit 0 16 p := ⟨_, rfl, fit_str (menu_fit s h).1 (menu_fit s h).2⟩
/-- a step: a word and its names -/
abbrev Sp1 := Str × List Str
def stD (x : Sp1) : D := .tup (.str x.1 :: x.2.map D.str)
structure StOk (x : Sp1) : Prop where
  w : x.1 ∈ words
  n : ∀ s ∈ x.2, s ∈ menu
  l : x.2.length ≤ 2
theorem take_k {B : Bg} (hB : B.ok) {μ : Mem} {n : Nat} {m : Int} (h : μ[n]? = some B.pl) (hm : 0 < m) (hm' : m < 1073741824) :
    ∃ (r : Nat) (B' : Bg), B'.ok ∧ (r : Int) < m ∧ F__law_take [.loc n, .dat (.int m)] μ = .ok (.dat (.int r)) (μ.set n B'.pl) := by
  obtain ⟨o1, o2, o3⟩ := takeB_ok hB hm
  have e : F__law_take [.loc n, .dat (.int m)] μ = .ok (.dat (.int (takeB B m).1)) (μ.set n (takeB B m).2.pl) := take_spec hB h hm hm'
  generalize (takeB B m).1 = t at *
  generalize (takeB B m).2 = B2 at *
  obtain ⟨k, rfl⟩ := Int.eq_ofNat_of_zero_le o2
  exact ⟨k, B2, o1, o3, e⟩
theorem names_spec {B : Bg} (hB : B.ok) {μ : Mem} {n : Nat} (h : μ[n]? = some B.pl) :
    ∃ (ss : List Str) (B' : Bg), B'.ok ∧ ss.length = 5 ∧ (∀ s ∈ ss, s ∈ menu) ∧ F__law_names [.loc n, .dat (.int 5)] μ = .ok (.nl ((ss.map D.str).map DV.dat)) (μ.set n B'.pl) := by
  obtain ⟨r, B1, o1, hr, e1⟩ := take_k hB h (m := 10) (by decide) (by decide)
  have h1 := set_at (q := B1.pl) h
  have sl : cutL ((menu ++ menu).map D.str) (some (r : Int)) (some ((r : Int) + 5)) = (((menu ++ menu).map D.str).drop r).take 5 := by
    rw [show (r : Int) + 5 = ((r + 5 : Nat) : Int) by omega]
    rw [cut_at2 _ r (r + 5) (by omega) (by simp [menu]; omega)]
    rw [show r + 5 - r = 5 by omega]
  have hl : ((((menu ++ menu).map D.str).drop r).take 5).length = 5 := by simp [menu]; omega
  obtain ⟨ys, B2, o2, pm, e2⟩ := mixed_spec (ds := (((menu ++ menu).map D.str).drop r).take 5) (k := 0) (w := 16) (by decide) o1 h1 (by rw [hl]; decide) (fun d hd => by
    have := List.mem_of_mem_drop (List.mem_of_mem_take hd)
    obtain ⟨s, hs, rfl⟩ := List.mem_map.mp this
    exact fit_sD (by rcases List.mem_append.mp hs with h | h <;> exact h))
  have hy : ∀ d ∈ ys, ∃ s ∈ menu, d = .str s := fun d hd => by
    have := List.mem_of_mem_drop (List.mem_of_mem_take (pm.mem_iff.mp hd))
    obtain ⟨s, hs, rfl⟩ := List.mem_map.mp this
    exact ⟨s, by rcases List.mem_append.mp hs with h | h <;> exact h, rfl⟩
  have : ∃ ss : List Str, ys = ss.map D.str ∧ ∀ s ∈ ss, s ∈ menu := by
    clear pm e2
    induction ys with
    | nil => exact ⟨[], rfl, fun _ h => by cases h⟩
    | cons d ys ih =>
      obtain ⟨ss, e, hss⟩ := ih fun x hx => hy x (List.mem_cons_of_mem _ hx)
      obtain ⟨s, hs, rfl⟩ := hy d List.mem_cons_self
      exact ⟨s :: ss, by rw [e]; rfl, fun x hx => by rcases List.mem_cons.mp hx with rfl | hx; exact hs; exact hss x hx⟩
  obtain ⟨ss, rfl, hss⟩ := this
  refine ⟨ss, B2, o2, ?_, hss, ?_⟩
  · have := pm.length_eq; rw [List.length_map, hl] at this; exact this
  · have g1 : frzV (eBM tyS dSplit (eD (.str "a ab end l more new share write x zzzzzzzz")) (aCons (eD (.str " ")) aNil)) [some (.loc n), some (.dat (.int 5)), none, none] μ = .ok (.dat (.lst (menu.map D.str))) μ := by
      refine fz_nl (ev_bm1 fz_D rfl fz_D ?_)
      simp only [dSplit, asStr]
      rw [if_pos (by decide +kernel), split_menu]
      simp
    refine call_ret (r := .nl ((ss.map D.str).map DV.dat)) (μ' := (μ.set n B1.pl).set n B2.pl) rfl (sq_next (asg_ok g1) (sq_next (asg_ok (fz_ofD (ev_cb2 (fz_var (i := 0) rfl) fz_D e1))) (ret_ok ?_))) (close_nl ?_)
    · refine ev_cb2 (fz_var (i := 0) (x := .loc n) rfl) (fz_nl (ds := (((menu ++ menu).map D.str).drop r).take 5) ?_) e2
      refine (ev_sl (x := .dat (.lst ((menu ++ menu).map D.str))) (l := some (r : Int)) (u := some ((r : Int) + 5)) (fz_nl ((ev_op (fz_var (i := 2) (x := .dat (.lst (menu.map D.str))) rfl) (fz_var (i := 2) (x := .dat (.lst (menu.map D.str))) rfl) (add_lst (by decide +kernel))).trans (congrArg (fun l => Res.ok (R.nl (l.map DV.dat)) (μ.set n B1.pl)) (List.map_append (f := D.str) (l₁ := menu) (l₂ := menu)).symm))) (o_some (fz_var (i := 3) (x := .dat (.int r)) rfl)) (o_some (fz_ofD (ev_op (fz_var (i := 3) (x := .dat (.int r)) rfl) (fz_var (i := 1) (x := .dat (.int 5)) rfl) add_ok))) sl_lst).trans ?_
      rw [sl]
    · rw [List.set_set, take_len]
theorem one_k {B : Bg} (hB : B.ok) {μ : Mem} {n : Nat} {ss : List Str} (h : μ[n]? = some B.pl) (h0 : 0 < ss.length) (hs : ss.length < 1000) :
    ∃ (s : Str) (B' : Bg), B'.ok ∧ s ∈ ss ∧ F__law_one [.loc n, .dat (.lst (ss.map D.str))] μ = .ok (.dat (.str s)) (μ.set n B'.pl) := by
  obtain ⟨d, B', o, hd, e⟩ := one_spec hB h (ds := ss.map D.str) (by simpa using h0) (by rw [List.length_map]; omega)
  obtain ⟨s, hs', rfl⟩ := List.mem_map.mp hd
  exact ⟨s, B', o, hs', e⟩
theorem step_spec {B : Bg} (hB : B.ok) {μ : Mem} {n : Nat} {ss : List Str} {b : Bool} (h : μ[n]? = some B.pl) (h0 : 0 < ss.length) (hs : ss.length < 1000) (hss : ∀ s ∈ ss, s ∈ menu) :
    ∃ (x : Sp1) (B' : Bg), B'.ok ∧ StOk x ∧ F__law_step [.loc n, .dat (.lst (ss.map D.str)), .dat (.bl b)] μ = .ok (.dat (stD x)) (μ.set n B'.pl) := by
  obtain ⟨ws, hw0, hw1, hww, ew⟩ : ∃ ws : List Str, 0 < ws.length ∧ ws.length < 1000 ∧ (∀ s ∈ ws, s ∈ words) ∧ ∀ δ : DL.Env, δ[2]? = some (some (.dat (.bl b))) → δ[3]? = some (some (.dat (.lst ((["new", "share", "share", "end", "write", "write"] : List Str).map D.str)))) →
      frzV (eIf (tmB (eVar 2)) (eVar 3) (eOp dAdd (eVar 3) (eLst (aCons (eD (.str "hold")) (aCons (eD (.str "leave")) (aCons (eD (.str "more")) (aCons (eD (.str "less")) aNil))))))) δ μ = .ok (.dat (.lst (ws.map D.str))) μ := by
    cases b with
    | true => exact ⟨["new", "share", "share", "end", "write", "write"], by decide, by decide, by decide +kernel, fun δ h2 h3 => fz_ofD (if_ev (tm_of (ev_var h2)) (ev_var h3))⟩
    | false =>
      refine ⟨words, by decide, by decide, fun _ h => h, fun δ h2 h3 => fz_nl (if_ev (tm_of (ev_var h2)) (ev_op (fz_var h3) (fz_nl (ds := (["hold", "leave", "more", "less"] : List Str).map D.str) (lst_ok (a_cons fz_D (a_cons fz_D (a_cons fz_D (a_cons fz_D a_nil)))) (by decide +kernel))) (add_lst (a := ((["new", "share", "share", "end", "write", "write"] : List Str).map D.str)) (by decide +kernel))))⟩
  obtain ⟨wd, B1, o1, hwd, e1⟩ := one_k hB h hw0 hw1
  have h1 := set_at (q := B1.pl) h
  obtain ⟨a, B2, o2, ha, e2⟩ := one_k o1 h1 h0 hs
  rw [List.set_set] at e2
  have h2 := set_at (q := B2.pl) h
  have s0 : gAsg 3 (eLst (aCons (eD (.str "new")) (aCons (eD (.str "share")) (aCons (eD (.str "share")) (aCons (eD (.str "end")) (aCons (eD (.str "write")) (aCons (eD (.str "write")) aNil)))))))
      μ.length [some (.loc n), some (.dat (.lst (ss.map D.str))), some (.dat (.bl b)), none, none, none, none, none] μ =
      .next [some (.loc n), some (.dat (.lst (ss.map D.str))), some (.dat (.bl b)), some (.dat (.lst ((["new", "share", "share", "end", "write", "write"] : List Str).map D.str))), none, none, none, none] μ :=
    asg_ok (fz_nl (ds := (["new", "share", "share", "end", "write", "write"] : List Str).map D.str) (lst_ok (a_cons fz_D (a_cons fz_D (a_cons fz_D (a_cons fz_D (a_cons fz_D (a_cons fz_D a_nil)))))) (by decide +kernel)))
  have run : ∀ (x : Sp1) (B' : Bg), gSeq (gIf (tmB (eOp (dIn true) (eVar 4) (eTup (aCons (eD (.str "share")) (aCons (eD (.str "hold")) aNil))))) (gRet (eTup (aCons (eVar 4) (aCons (eVar 5) aNil)))) gNext)
      (gSeq (gAsg 6 (eLc (imSeq (eVar 1)) (tgName 7) (tmB (eOp dNe (eVar 7) (eVar 5))) (eVar 7) [7])) (gRet (eIf (tmB (eOp dNe (eVar 6) (eLst aNil))) (eTup (aCons (eVar 4) (aCons (eVar 5) (aCons (eCB F__law_one (aCons (eVar 0) (aCons (eVar 6) aNil))) aNil)))) (eTup (aCons (eD (.str "end")) (aCons (eVar 5) aNil))))))
      μ.length [some (.loc n), some (.dat (.lst (ss.map D.str))), some (.dat (.bl b)), some (.dat (.lst ((["new", "share", "share", "end", "write", "write"] : List Str).map D.str))), some (.dat (.str wd)), some (.dat (.str a)), none, none] (μ.set n B2.pl) = .ret (.dat (stD x)) (μ.set n B'.pl) →
      F__law_step [.loc n, .dat (.lst (ss.map D.str)), .dat (.bl b)] μ = .ok (.dat (stD x)) (μ.set n B'.pl) := fun x B' hrun => by
    refine call_ret (r := .dat (stD x)) (μ' := μ.set n B'.pl) rfl (sq_next s0 (sq_next (asg_ok (fz_ofD (ev_cb2 (fz_var (i := 0) rfl) (ew _ rfl rfl) e1))) (sq_next (asg_ok (fz_ofD (ev_cb2 (fz_var (i := 0) rfl) (fz_var (i := 1) rfl) e2))) hrun))) (close_dat take_len)
  have t1 : tmB (eOp (dIn true) (eVar 4) (eTup (aCons (eD (.str "share")) (aCons (eD (.str "hold")) aNil)))) [some (.loc n), some (.dat (.lst (ss.map D.str))), some (.dat (.bl b)), some (.dat (.lst ((["new", "share", "share", "end", "write", "write"] : List Str).map D.str))), some (.dat (.str wd)), some (.dat (.str a)), none, none] (μ.set n B2.pl) = .ok (!decide (wd ∈ (["share", "hold"] : List Str))) (μ.set n B2.pl) :=
    tm_of (ev_op (fz_var (i := 4) rfl) (fz_ofD (tup_ok (ds := (["share", "hold"] : List Str).map D.str) (a_cons fz_D (a_cons fz_D a_nil)) (by decide +kernel))) in_tup)
  by_cases c : wd ∈ (["share", "hold"] : List Str)
  · rw [decide_eq_true c] at t1
    have lc : frzV (eLc (imSeq (eVar 1)) (tgName 7) (tmB (eOp dNe (eVar 7) (eVar 5))) (eVar 7) [7]) [some (.loc n), some (.dat (.lst (ss.map D.str))), some (.dat (.bl b)), some (.dat (.lst ((["new", "share", "share", "end", "write", "write"] : List Str).map D.str))), some (.dat (.str wd)), some (.dat (.str a)), none, none] (μ.set n B2.pl) =
        .ok (.dat (.lst ((ss.filter fun s => !decide (s = a)).map D.str))) (μ.set n B2.pl) := by
      refine fz_nl (ev_lc (im_seq (fz_var (i := 1) rfl) rfl) (by rw [List.length_map]; exact Nat.le_trans (Nat.le_of_lt hs) (by decide)) ((lc_pure (fun d => [some (.loc n), some (.dat (.lst (ss.map D.str))), some (.dat (.bl b)), some (.dat (.lst ((["new", "share", "share", "end", "write", "write"] : List Str).map D.str))), some (.dat (.str wd)), some (.dat (.str a)), none, some (.dat d)]) (fun d => match d with | .str s => !decide (s = a) | _ => false) (fun d => .dat d) _ fun d hd => ?_).trans ?_))
      · obtain ⟨s, hs', rfl⟩ := List.mem_map.mp hd
        refine ⟨rfl, tm_of ((ev_op (fz_var (i := 7) rfl) (fz_var (i := 5) rfl) (eq_any false (peekPy_dat (d := .str s) rfl) (peekPy_dat (d := .str a) rfl) (fit_str (menu_fit s (hss s hs')).1 (menu_fit s (hss s hs')).2) (fit_str (menu_fit a (hss a ha)).1 (menu_fit a (hss a ha)).2) (by decide) (by decide))).trans ?_), fun _ => fz_var (i := 7) rfl⟩
        congr 3
        show ((s == a) == false) = !decide (s = a)
        by_cases q : s = a
        · subst q; simp
        · rw [decide_eq_false q, beq_false_of_ne q]; rfl
      · rw [List.filter_map]
        rfl
    have hoo : ∀ s ∈ ss.filter (fun s => !decide (s = a)), s ∈ menu := fun s h => hss s (List.mem_filter.mp h).1
    have hol : (ss.filter fun s => !decide (s = a)).length < 1000 := Nat.lt_of_le_of_lt (List.length_filter_le _ _) hs
    generalize (ss.filter fun s => !decide (s = a)) = os at lc hoo hol
    have t2 : tmB (eOp dNe (eVar 6) (eLst aNil)) [some (.loc n), some (.dat (.lst (ss.map D.str))), some (.dat (.bl b)), some (.dat (.lst ((["new", "share", "share", "end", "write", "write"] : List Str).map D.str))), some (.dat (.str wd)), some (.dat (.str a)), some (.dat (.lst (os.map D.str))), none] (μ.set n B2.pl) = .ok (!os.isEmpty) (μ.set n B2.pl) := by
      have hp : toPy (.lst (os.map D.str)) = some (.list (os.map PyData.str)) := by simp only [toPy]; rw [toPyL_map (g := PyData.str) os fun _ _ => rfl]; rfl
      have f := fit_list (k := 0) (w := 16) (ps := os.map PyData.str) (n := os.length) (fun p hp => by
        obtain ⟨s, hs, rfl⟩ := List.mem_map.mp hp; exact fit_str (menu_fit s (hoo s hs)).1 (menu_fit s (hoo s hs)).2) (by simp)
      have f0 : Fit 1 0 (.list []) := (fit_list (k := 0) (w := 0) (n := 0) (ps := []) (fun _ h => by cases h) (Nat.le_refl _)).mono (Nat.le_refl _) (Nat.le_refl _)
      refine tm_of ((ev_op (fz_var (i := 6) rfl) (show frzV (eLst aNil) _ _ = .ok (.dat (.lst [])) _ from rfl) (eq_any false (peekPy_dat hp) (peekPy_dat (d := .lst []) (p := .list []) rfl) f f0 (by omega) (by omega))).trans ?_)
      cases os <;> rfl
    cases os with
    | nil =>
      refine ⟨("end", [a]), B2, o2, ⟨(by decide +kernel : ("end" : Str) ∈ words), fun s hs => by rcases List.mem_singleton.mp hs with rfl; exact hss _ ha, by simp⟩, run _ _ (sq_next (if_false t1 rfl) (sq_next (asg_ok lc) (ret_ok (if_ev t2 ?_))))⟩
      exact tup_ok (ds := [.str "end", .str a]) (a_cons fz_D (a_cons (fz_var (i := 5) rfl) a_nil)) sz
    | cons o os =>
      obtain ⟨a2, B3, o3, ha2, e3⟩ := one_k o2 h2 (ss := o :: os) (by simp) hol
      rw [List.set_set] at e3
      refine ⟨(wd, [a, a2]), B3, o3, ⟨hww wd hwd, fun s hs => ?_, by simp⟩, run _ _ (sq_next (if_false t1 rfl) (sq_next (asg_ok lc) (ret_ok (if_ev t2 ?_))))⟩
      · rcases List.mem_cons.mp hs with rfl | hs
        · exact hss _ ha
        · rcases List.mem_singleton.mp hs with rfl; exact hoo _ ha2
      · exact tup_ok (ds := [.str wd, .str a, .str a2]) (a_cons (fz_var (i := 4) rfl) (a_cons (fz_var (i := 5) rfl) (a_cons (fz_ofD (ev_cb2 (fz_var (i := 0) rfl) (fz_var (i := 6) rfl) e3)) a_nil))) sz
  · rw [decide_eq_false c] at t1
    refine ⟨(wd, [a]), B2, o2, ⟨hww wd hwd, fun s hs => by rcases List.mem_singleton.mp hs with rfl; exact hss _ ha, by simp⟩, run _ _ (sq_ret (if_true t1 (ret_ok ?_)))⟩
    exact tup_ok (ds := [.str wd, .str a]) (a_cons (fz_var (i := 4) rfl) (a_cons (fz_var (i := 5) rfl) a_nil)) sz
theorem cutL_map {α β : Type} (f : α → β) (xs : List α) (l u : Option Int) : cutL (xs.map f) l u = (cutL xs l u).map f := by
  unfold cutL; rw [List.length_map, List.map_take, List.map_drop]
theorem cutL_len {α : Type} (xs : List α) (l u : Option Int) : (cutL xs l u).length ≤ xs.length := by
  unfold cutL; rw [List.length_take, List.length_drop]; omega
structure DeedOk (as : List Str) (xs : List Sp1) : Prop where
  a : ∀ s ∈ as, s ∈ menu
  l : as.length ≤ 5
  x : ∀ x ∈ xs, StOk x
  n : xs.length ≤ 8
def deedD (as : List Str) (xs : List Sp1) : D := .tup [.tup (as.map D.str), .tup (xs.map stD)]
theorem deed_loop {n : Nat} {as os : List Str} {b : Bool} {x2 x5 : DV} (h0 : 0 < (as ++ os).length) (hs : (as ++ os).length < 1000) (hss : ∀ s ∈ as ++ os, s ∈ menu) : ∀ (ds : List D) (B : Bg) (μ : Mem), B.ok → μ[n]? = some B.pl →
    ∃ (xs : List Sp1) (B' : Bg), B'.ok ∧ (∀ x ∈ xs, StOk x) ∧ xs.length = ds.length ∧
      lcL (tgName 6) tmYes (eCB F__law_step (aCons (eVar 0) (aCons (eOp dAdd (eVar 3) (eVar 4)) (aCons (eVar 1) aNil)))) [some (.loc n), some (.dat (.bl b)), some x2, some (.dat (.lst (as.map D.str))), some (.dat (.lst (os.map D.str))), some x5, none] ds μ = .ok ((xs.map stD).map DV.dat) (μ.set n B'.pl)
  | [], B, μ, hB, h => by
    refine ⟨[], B, hB, (fun _ h => by cases h), rfl, ?_⟩
    have : μ.set n B.pl = μ := by
      apply List.ext_getElem?
      intro i
      by_cases c : n = i
      · subst c; rw [set_at h, h]
      · rw [List.getElem?_set_ne c]
    rw [this]; rfl
  | d :: ds, B, μ, hB, h => by
    obtain ⟨x, B1, o1, hx, e1⟩ := step_spec hB h (b := b) h0 hs hss
    obtain ⟨xs, B2, o2, hxs, hl, e2⟩ := deed_loop (x2 := x2) (x5 := x5) (b := b) h0 hs hss ds B1 (μ.set n B1.pl) o1 (set_at h)
    rw [List.set_set] at e2
    refine ⟨x :: xs, B2, o2, fun y hy => by rcases List.mem_cons.mp hy with rfl | hy; exact hx; exact hxs y hy, by simp [hl], ?_⟩
    have e : frzV (eCB F__law_step (aCons (eVar 0) (aCons (eOp dAdd (eVar 3) (eVar 4)) (aCons (eVar 1) aNil)))) [some (.loc n), some (.dat (.bl b)), some x2, some (.dat (.lst (as.map D.str))), some (.dat (.lst (os.map D.str))), some x5, some (.dat d)] μ = .ok (.dat (stD x)) (μ.set n B1.pl) := by
      refine fz_ofD (ev_cb (a_cons (fz_var (i := 0) rfl) (a_cons (x := .dat (.lst ((as ++ os).map D.str))) (fz_nl ((ev_op (fz_var (i := 3) rfl) (fz_var (i := 4) rfl) (add_lst (a := as.map D.str) (b := os.map D.str) ?_)).trans (congrArg (fun l => Res.ok (R.nl (l.map DV.dat)) μ) (List.map_append (f := D.str)).symm))) (a_cons (fz_var (i := 1) rfl) a_nil))) e1)
      rw [List.length_map, List.length_map]; rw [List.length_append] at hs; exact Nat.le_trans (Nat.le_of_lt hs) (by decide)
    simp only [lcL, tgName, tmYes, List.set_cons_succ, List.set_cons_zero, e, e2, Res.bind, List.map_cons]
theorem rng_len (k : Int) (n : Nat) : (rngD k n).length = n := by unfold rngD; simp
theorem deed_spec {B : Bg} (hB : B.ok) {μ : Mem} {n : Nat} {b : Bool} (h : μ[n]? = some B.pl) :
    ∃ (as : List Str) (xs : List Sp1) (B' : Bg), B'.ok ∧ DeedOk as xs ∧ F__law_deed [.loc n, .dat (.bl b)] μ = .ok (.dat (deedD as xs)) (μ.set n B'.pl) := by
  obtain ⟨ss, B1, o1, hl, hss, e1⟩ := names_spec hB h
  have h1 := set_at (q := B1.pl) h
  obtain ⟨r1, B2, o2, hr1, e2⟩ := take_k o1 h1 (m := 3) (by decide) (by decide)
  rw [List.set_set] at e2
  have h2 := set_at (q := B2.pl) h
  obtain ⟨r2, B3, o3, hr2, e3⟩ := take_k o2 h2 (m := 4) (by decide) (by decide)
  rw [List.set_set] at e3
  have h3 := set_at (q := B3.pl) h
  obtain ⟨r3, B4, o4, hr3, e4⟩ := take_k o3 h3 (m := 6) (by decide) (by decide)
  rw [List.set_set] at e4
  have h4 := set_at (q := B4.pl) h
  obtain ⟨j, hj⟩ : ∃ j : Int, ([0, 0, 1, 2] : List Int)[r2]? = some j := ⟨_, List.getElem?_eq_getElem (show r2 < 4 by omega)⟩
  obtain ⟨m, hm⟩ : ∃ m : Int, ([1, 1, 2, 3, 4, 8] : List Int)[r3]? = some m := ⟨_, List.getElem?_eq_getElem (show r3 < 6 by omega)⟩
  have hm8 : 0 ≤ m ∧ m ≤ 8 := by
    have : ∀ z ∈ ([1, 1, 2, 3, 4, 8] : List Int), 0 ≤ z ∧ z ≤ 8 := by decide
    exact this m (List.mem_of_getElem? hm)
  have cu : cutL ss none (some (1 + (r1 : Int))) = ss.take (1 + r1) := by
    rw [show (1 : Int) + (r1 : Int) = ((1 + r1 : Nat) : Int) by omega]; exact cut_to ss (1 + r1)
  have hal : (ss.take (1 + r1)).length = 1 + r1 := by rw [List.length_take, hl]; omega
  have hol := cutL_len ss (some 3) (some (3 + j))
  have hom : ∀ s ∈ cutL ss (some 3) (some (3 + j)), s ∈ menu := fun s h => hss s (cutL_mem h)
  generalize hos : cutL ss (some 3) (some (3 + j)) = os at hol hom
  have ham : ∀ s ∈ ss.take (1 + r1), s ∈ menu := fun s h => hss s (List.mem_of_mem_take h)
  have hab : (ss.take (1 + r1)).length ≤ 5 := by rw [List.length_take, hl]; omega
  generalize has : ss.take (1 + r1) = as at cu hal ham hab
  obtain ⟨xs, B5, o5, hx, hxl, e5⟩ := deed_loop (n := n) (as := as) (os := os) (b := b) (x2 := .dat (.lst (ss.map D.str))) (x5 := .dat (.int m)) (by rw [List.length_append]; omega) (by rw [List.length_append]; omega) (fun s hs => by rcases List.mem_append.mp hs with h | h; exact ham s h; exact hom s h) (rngD 0 m.toNat) B4 (μ.set n B4.pl) o4 h4
  rw [List.set_set] at e5
  refine ⟨as, xs, B5, o5, ⟨ham, hab, hx, by rw [hxl, rng_len]; omega⟩, ?_⟩
  refine call_ret (r := .dat (deedD as xs)) (μ' := μ.set n B5.pl) rfl (sq_next (asg_ok (fz_nl (ev_cb2 (fz_var (i := 0) rfl) fz_D e1))) (sq_next (tgt_ok (δ' := [some (.loc n), some (.dat (.bl b)), some (.dat (.lst (ss.map D.str))), some (.dat (.lst (as.map D.str))), some (.dat (.lst (os.map D.str))), none, none]) (fz_ofD (tup_ok (ds := [.lst (as.map D.str), .lst (os.map D.str)]) (a_cons (x := .dat (.lst (as.map D.str))) (fz_nl (μ' := μ.set n B2.pl) ?_) (a_cons (x := .dat (.lst (os.map D.str))) (fz_nl (μ' := μ.set n B3.pl) ?_) a_nil)) sz)) rfl) (sq_next (asg_ok (x := .dat (.int m)) (μ' := μ.set n B4.pl) ?_) (ret_ok ?_)))) (close_dat take_len)
  · refine (ev_sl (fz_var (i := 2) rfl) rfl (o_some (fz_ofD (ev_op fz_D (fz_ofD (ev_cb2 (fz_var (i := 0) rfl) fz_D e2)) add_ok))) sl_lst).trans ?_
    rw [cutL_map, cu]
  · refine (ev_sl (fz_var (i := 2) rfl) (o_some fz_D) (o_some (fz_ofD (ev_op fz_D (fz_ofD (ev_op (fz_nl (ds := ([0, 0, 1, 2] : List Int).map D.int) (lst_ok (a_cons fz_D (a_cons fz_D (a_cons fz_D (a_cons fz_D a_nil)))) sz)) (fz_ofD (ev_cb2 (fz_var (i := 0) rfl) fz_D e3)) (dIx_lst (d := .int j) (DL.atI_nat (by rw [List.getElem?_map, hj]; rfl))))) add_ok))) sl_lst).trans ?_
    rw [cutL_map, hos]
  · exact fz_ofD (ev_op (fz_nl (ds := ([1, 1, 2, 3, 4, 8] : List Int).map D.int) (lst_ok (a_cons fz_D (a_cons fz_D (a_cons fz_D (a_cons fz_D (a_cons fz_D (a_cons fz_D a_nil)))))) sz)) (fz_ofD (ev_cb2 (fz_var (i := 0) rfl) fz_D e4)) (dIx_lst (d := .int m) (DL.atI_nat (by rw [List.getElem?_map, hm]; rfl))))
  · refine tup_ok (ds := [.tup (as.map D.str), .tup (xs.map stD)]) (a_cons (fz_ofD (ev_cb1 (fz_var (i := 3) rfl) tuple_lst)) (a_cons (fz_ofD (ev_cb1 (fz_nl (ev_lc (im_rng (fz_var (i := 5) rfl) (by omega)) ?_ e5)) tuple_lst)) a_nil)) sz
    rw [rng_len]; exact Nat.le_trans (show m.toNat ≤ 1000 by omega) (by decide)
end K12
namespace K12
open PySem PySem.Spec PyProof.Rows L2 DL
abbrev sDs (ss : List Str) : List DV := (ss.map D.str).map DV.dat
theorem sDs_eq (ss : List Str) : sDs ss = ss.map fun s => DV.dat (.str s) := by simp [sDs]
def allN (as : List Str) (xs : List Sp1) : List Str := as ++ xs.flatMap (·.2)
theorem ix0 {as : List Str} {xs : List Sp1} {δ : DL.Env} {μ : Mem} {i : Nat} (h : δ[i]? = some (some (.dat (deedD as xs)))) : frzV (eOp dIx (eVar i) (eD (.int 0))) δ μ = .ok (.dat (.tup (as.map D.str))) μ := fz_ofD (ev_op (fz_var h) fz_D (dIx_tup rfl))
theorem ix1 {as : List Str} {xs : List Sp1} {δ : DL.Env} {μ : Mem} {i : Nat} (h : δ[i]? = some (some (.dat (deedD as xs)))) : frzV (eOp dIx (eVar i) (eD (.int 1))) δ μ = .ok (.dat (.tup (xs.map stD))) μ := fz_ofD (ev_op (fz_var h) fz_D (dIx_tup rfl))
theorem word_at {x : Sp1} {δ : DL.Env} {μ : Mem} {i : Nat} (h : δ[i]? = some (some (.dat (stD x)))) : frzV (eOp dIx (eVar i) (eD (.int 0))) δ μ = .ok (.dat (.str x.1)) μ := fz_ofD (ev_op (fz_var h) fz_D (dIx_tup (DL.atI_nat (k := 0) rfl)))
theorem tail_at {x : Sp1} {δ : DL.Env} {μ : Mem} {i : Nat} (h : δ[i]? = some (some (.dat (stD x)))) : frzV (eSl (eVar i) (oSome (eD (.int 1))) oNone) δ μ = .ok (.dat (.tup (x.2.map D.str))) μ := by
  refine fz_ofD ((ev_sl (fz_var h) (o_some fz_D) rfl sl_tup).trans ?_)
  rw [cut_from _ 1]; rfl
theorem ap_1 {μ : Mem} {a : Pl} : (μ ++ [a])[μ.length]? = some a := by simp
theorem st_1 {μ : Mem} {a b : Pl} : (μ ++ [a]).set μ.length b = μ ++ [b] := by simp [List.set_append]
theorem all_loop {N : Nat} {dd : D} {μ : Mem} : ∀ (xs : List Sp1) (ss : List Str), ss.length + (xs.flatMap (·.2)).length ≤ 1000 →
    forL (μ.length + 1) [true, true, false] (tgName 2) (gDrop (eBM tyL dExtend (eVar 1) (aCons (eSl (eVar 2) (oSome (eD (.int 1))) oNone) aNil))) N (xs.map stD) [some (.dat dd), some (.loc μ.length), none] (μ ++ [.lst (sDs ss)]) =
      .next [some (.dat dd), some (.loc μ.length), none] (μ ++ [.lst (sDs (ss ++ xs.flatMap (·.2)))])
  | [], ss, _ => by simp [forL]
  | x :: xs, ss, hl => by
    have hl' : ss.length + x.2.length + (xs.flatMap (·.2)).length ≤ 1000 := by simp [List.flatMap_cons] at hl ⊢; omega
    have e : gDrop (eBM tyL dExtend (eVar 1) (aCons (eSl (eVar 2) (oSome (eD (.int 1))) oNone) aNil)) N [some (.dat dd), some (.loc μ.length), some (.dat (stD x))] (μ ++ [.lst (sDs ss)]) = .next [some (.dat dd), some (.loc μ.length), some (.dat (stD x))] (μ ++ [.lst (sDs (ss ++ x.2))]) := by
      refine drop_ok (r := .dat .non) ((ev_bm1 (fz_var (i := 1) rfl) (tyL_loc ap_1) (tail_at (i := 2) rfl) (ext_tup ap_1 ?_)).trans ?_)
      · simp [sDs]; exact Nat.le_trans (show ss.length + x.2.length ≤ 1000 by omega) (by decide)
      · rw [st_1]; simp [sDs]
    have ih := all_loop (N := N) (dd := dd) (μ := μ) xs (ss ++ x.2) (by rw [List.length_append]; omega)
    have c1 : μ.length < μ.length + 1 := by omega
    simp only [List.map_cons, forL, tgName, List.set_cons_succ, List.set_cons_zero, e, turnL, cut, DL.cutV, if_pos c1, if_pos trivial]
    rw [List.take_of_length_le (by simp)]
    simp only [Bool.false_eq_true, if_neg (fun h => h : ¬ False)]
    rw [ih, List.flatMap_cons, List.append_assoc]
theorem all_spec {as : List Str} {xs : List Sp1} {μ : Mem} (hd : DeedOk as xs) (hn : (allN as xs).length ≤ 100) : F_all_names [.dat (deedD as xs)] μ = .ok (.nl (sDs (sortU (allN as xs)))) μ := by
  have hn' : as.length + (xs.flatMap (·.2)).length ≤ 100 := by unfold allN at hn; rw [List.length_append] at hn; exact hn
  refine call_ret (r := .nl (sDs (sortU (allN as xs)))) (μ' := μ ++ [.lst (sDs (allN as xs))]) rfl (sq_next (δ' := [some (.dat (deedD as xs)), some (.loc μ.length), none]) (μ' := μ ++ [.lst (sDs as)]) ?_ (sq_next (δ' := [some (.dat (deedD as xs)), some (.loc μ.length), none]) (μ' := μ ++ [.lst (sDs (allN as xs))]) ?_ (ret_ok ?_))) (close_nl List.take_left)
  · exact new_nl (xs := sDs as) (ev_cb1 (ix0 (as := as) (xs := xs) (i := 0) rfl) (by simp [d1, dList, asS, asL, asT])) (Nat.le_refl _)
  · unfold gFor
    rw [im_seq (ix1 (as := as) (xs := xs) (i := 0) rfl) rfl]
    show forL (μ ++ _).length _ _ _ _ _ _ _ = _
    rw [show (μ ++ [Pl.lst (sDs as)]).length = μ.length + 1 by simp]
    exact all_loop xs as (by omega)
  · refine (sortset_loc (ss := allN as xs) (fz_var (i := 1) rfl) (by rw [ap_1, sDs_eq]) (Nat.lt_of_le_of_lt (show _ ≤ 101 by omega) (by decide))).trans ?_
    unfold strsR; rw [sDs_eq, sDs_eq]
theorem alike_spec {x y : DV} {μ : Mem} {p : PyData} {k w : Nat} (hx : peekPy μ x = some p) (hy : peekPy μ y = some p) (h : Fit k w p) (hk : k ≤ 64) (hw : w ≤ 2 ^ 20) : F__law_alike [x, y] μ = .ok (.dat (.bl true)) μ := by
  have e1 : eOp dEq (eVar 0) (eVar 1) [some x, some y] μ = .ok (.dat (.bl true)) μ := ev_op (fz_var (i := 0) rfl) (fz_var (i := 1) rfl) (eq_same hx hy h hk)
  have e2 : eOp dEq (eCB (d1 dRepr) (aCons (eVar 0) aNil)) (eCB (d1 dRepr) (aCons (eVar 1) aNil)) [some x, some y] μ = .ok (.dat (.bl true)) μ := by
    refine ev_op (fz_ofD (ev_cb1 (fz_var (i := 0) rfl) (repr_same hx h hk hw))) (fz_ofD (ev_cb1 (fz_var (i := 1) rfl) (repr_same hy h hk hw))) (eq_str.trans ?_)
    simp
  refine call_ret rfl (ret_ok (r := .dat (.bl true)) (μ' := μ) ?_) (close_dat List.take_length)
  show eAnd _ _ [some x, some y] μ = _
  unfold eAnd; rw [e1]; simp only [Res.bind, asB]; exact e2
theorem lc_yes {h : D → DL.Env → Option DL.Env} {ft : TM} {fe : EM} {δ δ1 : DL.Env} {μ μ1 μ2 μ3 : Mem} {d : D} {ds : List D} {y : DV} {ys : List DV} (h1 : h d δ = some δ1) (h2 : ft δ1 μ = .ok true μ1) (h3 : frzV fe δ1 μ1 = .ok y μ2) (h4 : lcL h ft fe δ ds μ2 = .ok ys μ3) : lcL h ft fe δ (d :: ds) μ = .ok (y :: ys) μ3 := by
  unfold lcL; rw [h1]; simp only; rw [h2]; simp only; rw [h3]; simp only; rw [h4]; rfl
theorem lc_no {h : D → DL.Env → Option DL.Env} {ft : TM} {fe : EM} {δ δ1 : DL.Env} {μ μ1 μ3 : Mem} {d : D} {ds : List D} {ys : List DV} (h1 : h d δ = some δ1) (h2 : ft δ1 μ = .ok false μ1) (h4 : lcL h ft fe δ ds μ1 = .ok ys μ3) : lcL h ft fe δ (d :: ds) μ = .ok ys μ3 := by
  rw [lcL, h1]; simp only; rw [h2]; exact h4
theorem own_lc {as : List Str} {xs : List Sp1} {μ : Mem} (hd : DeedOk as xs) (hn : (allN as xs).length ≤ 100) :
    eLc (imSeq (eCB F_all_names (aCons (eVar 0) aNil))) (tgName 1) (tmB (eOp (dIn true) (eVar 1) (eOp dIx (eVar 0) (eD (.int 0))))) (eVar 1) [1] [some (.dat (deedD as xs)), none] μ = .ok (.nl (sDs ((sortU (allN as xs)).filter fun s => !decide (s ∈ as)))) μ := by
  refine ev_lc (im_seq (fz_nl (ev_cb1 (fz_var (i := 0) rfl) (all_spec hd hn))) rfl) ?_ ((lc_pure (fun d => [some (.dat (deedD as xs)), some (.dat d)]) (fun d => match d with | .str s => !decide (s ∈ as) | _ => false) (fun d => .dat d) _ fun d hd' => ?_).trans ?_)
  · rw [List.length_map]; exact Nat.le_trans (Nat.le_trans (sortU_len _) hn) (by decide)
  · obtain ⟨s, _, rfl⟩ := List.mem_map.mp hd'
    exact ⟨rfl, tm_of (ev_op (fz_var (i := 1) rfl) (ix0 (as := as) (xs := xs) (i := 0) rfl) in_tup), fun _ => fz_var (i := 1) rfl⟩
  · rw [List.filter_map]; rfl
theorem own_spec {as : List Str} {xs : List Sp1} {μ : Mem} (hd : DeedOk as xs) (hn : (allN as xs).length ≤ 100) : F_own_names [.dat (deedD as xs)] μ = .ok (.dat (.tup (((sortU (allN as xs)).filter fun s => !decide (s ∈ as)).map D.str))) μ :=
  call_ret rfl (ret_ok (ev_cb1 (fz_nl (own_lc hd hn)) tuple_lst)) (close_dat List.take_length)
theorem lown_spec {as : List Str} {xs : List Sp1} {μ : Mem} (hd : DeedOk as xs) (hn : (allN as xs).length ≤ 100) : F__law_own [.dat (deedD as xs)] μ = .ok (.nl (sDs ((sortU (allN as xs)).filter fun s => !decide (s ∈ as)))) μ :=
  call_ret rfl (ret_ok (own_lc hd hn)) (close_nl List.take_length)
/-! the countings -/
def cnt : Nat → List Sp1 → List Nat
  | _, [] => []
  | k, x :: xs => if x.1 ∈ (["share", "end"] : List Str) then k :: cnt (k + 1) xs else cnt (k + 1) xs
theorem cnt_lt : ∀ (xs : List Sp1) (k i : Nat), i ∈ cnt k xs → i < k + xs.length
  | [], k, i, h => by cases h
  | x :: xs, k, i, h => by
    unfold cnt at h
    split at h
    · rcases List.mem_cons.mp h with rfl | h
      · simp
      · have := cnt_lt xs (k + 1) i h; simp; omega
    · have := cnt_lt xs (k + 1) i h; simp; omega
theorem cnt_len : ∀ (xs : List Sp1) (k : Nat), (cnt k xs).length ≤ xs.length
  | [], k => Nat.le_refl _
  | x :: xs, k => by
    unfold cnt
    have := cnt_len xs (k + 1)
    split <;> simp <;> omega
abbrev iDs (is : List Nat) : List DV := (is.map fun (i : Nat) => D.int (i : Int)).map DV.dat
theorem keys_any0 (s : Str) (ks : List Str) : ks.any (fun k => decide (k = s)) = decide (s ∈ ks) := by
  rw [Bool.eq_iff_iff, List.any_eq_true, decide_eq_true_iff]
  constructor
  · rintro ⟨k, h1, h2⟩; rw [← of_decide_eq_true h2]; exact h1
  · exact fun h => ⟨s, h, decide_eq_true rfl⟩
theorem keys_any (s : Str) : (["share", "end"] : List Str).any (fun k => decide (k = s)) = decide (s ∈ (["share", "end"] : List Str)) := keys_any0 s _
theorem cnt_loop {dd : D} {μ : Mem} : ∀ (xs : List Sp1) (k : Nat),
    lcL (tgTup 2 (tgCons (tgName 1) (tgCons (tgName 2) tgNil))) (tmB (eInK false ["share", "end"] (eOp dIx (eVar 2) (eD (.int 0))))) (eVar 1) [some (.dat dd), none, none] (enumD k (xs.map stD)) μ = .ok (iDs (cnt k xs)) μ
  | [], k => rfl
  | x :: xs, k => by
    have ih := cnt_loop (dd := dd) (μ := μ) xs (k + 1)
    have t : tmB (eInK false ["share", "end"] (eOp dIx (eVar 2) (eD (.int 0)))) [some (.dat dd), some (.dat (.int k)), some (.dat (stD x))] μ = .ok (decide (x.1 ∈ (["share", "end"] : List Str))) μ := by
      refine tm_of ?_
      unfold eInK
      rw [word_at (x := x) (i := 2) rfl]
      simp only [Res.bind, asStr, keys_any, Bool.false_eq_true, if_neg (fun h => h : ¬ False)]
    have v : frzV (eVar 1) [some (.dat dd), some (.dat (.int k)), some (.dat (stD x))] μ = .ok (.dat (.int k)) μ := fz_var (i := 1) rfl
    unfold cnt
    by_cases c : x.1 ∈ (["share", "end"] : List Str)
    · rw [decide_eq_true c] at t
      rw [if_pos c]
      exact lc_yes (d := .tup [.int k, stD x]) rfl t v ih
    · rw [decide_eq_false c] at t
      rw [if_neg c]
      exact lc_no (d := .tup [.int k, stD x]) rfl t ih
theorem count_spec {as : List Str} {xs : List Sp1} {μ : Mem} (hd : DeedOk as xs) : F_countings [.dat (deedD as xs)] μ = .ok (.nl (iDs (cnt 0 xs))) μ := by
  refine call_ret rfl (ret_ok (ev_lc (im_enum (ix1 (as := as) (xs := xs) (i := 0) rfl) rfl) ?_ (cnt_loop xs 0))) (close_nl List.take_length)
  rw [enumD_len, List.length_map]; exact Nat.le_trans hd.n (by decide)
theorem lcnt_loop {δ : DL.Env} {μ : Mem} (ws : List Str) (hδ : ∀ v, (δ.set 10 v)[4]? = some (some (.dat (.lst (ws.map D.str))))) (hδ' : ∀ v, (δ.set 10 v)[10]? = some v) : ∀ (xs : List Sp1) (pre : List Str), ws = pre ++ xs.map (·.1) →
    lcL (tgName 10) (tmB (eOp (dIn false) (eOp dIx (eVar 4) (eVar 10)) (eTup (aCons (eD (.str "share")) (aCons (eD (.str "end")) aNil))))) (eVar 10) δ ((List.range' pre.length xs.length).map fun (i : Nat) => D.int (0 + (i : Int))) μ = .ok (iDs (cnt pre.length xs)) μ
  | [], pre, _ => rfl
  | x :: xs, pre, hw => by
    have ih := lcnt_loop (μ := μ) ws hδ hδ' xs (pre ++ [x.1]) (by rw [hw]; simp)
    rw [List.length_append, List.length_singleton] at ih
    have t : tmB (eOp (dIn false) (eOp dIx (eVar 4) (eVar 10)) (eTup (aCons (eD (.str "share")) (aCons (eD (.str "end")) aNil)))) (δ.set 10 (some (.dat (.int (0 + (pre.length : Nat)))))) μ = .ok (decide (x.1 ∈ (["share", "end"] : List Str))) μ := by
      refine tm_of (ev_op (fz_ofD (ev_op (fz_var (hδ _)) (fz_var (hδ' _)) (dIx_lst (d := .str x.1) ?_))) (fz_ofD (tup_ok (ds := (["share", "end"] : List Str).map D.str) (a_cons fz_D (a_cons fz_D a_nil)) sz)) in_tup)
      rw [Int.zero_add]
      refine DL.atI_nat ?_
      rw [List.getElem?_map, hw]; simp
    have v : frzV (eVar 10) (δ.set 10 (some (.dat (.int (0 + (pre.length : Nat)))))) μ = .ok (.dat (.int (0 + (pre.length : Nat)))) μ := fz_var (hδ' _)
    unfold cnt
    rw [List.length_cons, List.range'_succ, List.map_cons]
    by_cases c : x.1 ∈ (["share", "end"] : List Str)
    · rw [decide_eq_true c] at t
      rw [if_pos c]
      refine (lc_yes rfl t v ih).trans ?_
      rw [Int.zero_add]; rfl
    · rw [decide_eq_false c] at t
      rw [if_neg c]
      exact lc_no rfl t ih
/-! loud or not -/
abbrev NL : List Str := ["hold", "leave", "more", "less"]
theorem bools_map : ∀ bs : List Bool, bools ((bs.map D.bl).map DV.dat) = some bs
  | [] => rfl
  | b :: bs => by simp only [List.map_cons, bools, asBl, bools_map bs]; rfl
theorem loud_spec {as : List Str} {xs : List Sp1} {μ : Mem} (hd : DeedOk as xs) : F_is_loud [.dat (deedD as xs)] μ = .ok (.dat (.bl (xs.all fun x => !decide (x.1 ∈ NL)))) μ := by
  refine call_ret rfl (ret_ok (μ' := μ) (ev_cb1 (μ1 := μ) (fz_nl (ds := (xs.map fun x => !decide (x.1 ∈ NL)).map D.bl) (ev_lc (im_seq (ix1 (as := as) (xs := xs) (i := 0) rfl) rfl) ?_ ((lc_all (fun d => [some (.dat (deedD as xs)), some (.dat d)]) (fun d => match d with | .tup (.str s :: _) => .dat (.bl (!decide (s ∈ NL))) | _ => .dat .non) _ fun d hd' => ?_).trans ?_))) ?_)) (close_dat List.take_length)
  · rw [List.length_map]; exact Nat.le_trans hd.n (by decide)
  · obtain ⟨x, _, rfl⟩ := List.mem_map.mp hd'
    exact ⟨rfl, fz_ofD (ev_op (word_at (x := x) (i := 1) rfl) fz_D in_tup)⟩
  · simp only [List.map_map]; rfl
  · simp only [d1, dAll, asL, bools_map, List.all_map]; rfl
theorem loud_due (xs : List Sp1) : (xs.all fun x => !decide (x.1 ∈ NL)) = ((xs.map (·.1)).filter fun s => decide (s ∈ NL)).isEmpty := by
  induction xs with
  | nil => rfl
  | cons x xs ih =>
    rw [List.all_cons, ih, List.map_cons, List.filter_cons]
    by_cases c : x.1 ∈ NL
    · rw [decide_eq_true c]; simp
    · rw [decide_eq_false c]; simp
theorem names_in_spec {x : Sp1} {μ : Mem} : F_names_in [.dat (stD x)] μ = .ok (.dat (.tup (x.2.map D.str))) μ := by
  refine call_ret rfl (ret_ok (μ' := μ) ?_) (close_dat List.take_length)
  refine (ev_sl (fz_var (i := 0) rfl) (o_some fz_D) rfl sl_tup).trans ?_
  rw [cut_from _ 1]; rfl
/-! the data compared fit -/
theorem fit_strs {ss : List Str} (h : ∀ s ∈ ss, s ∈ menu) (hl : ss.length ≤ 100) : Fit 1 1700 (.list (ss.map PyData.str)) := fit_list (n := 100) (fun p hp => by
  obtain ⟨s, hs, rfl⟩ := List.mem_map.mp hp; exact fit_str (menu_fit s (h s hs)).1 (menu_fit s (h s hs)).2) (by rw [List.length_map]; exact hl)
theorem fit_strsT {ss : List Str} (h : ∀ s ∈ ss, s ∈ menu) (hl : ss.length ≤ 100) : Fit 1 1700 (.tuple (ss.map PyData.str)) := fit_tuple (n := 100) (fun p hp => by
  obtain ⟨s, hs, rfl⟩ := List.mem_map.mp hp; exact fit_str (menu_fit s (h s hs)).1 (menu_fit s (h s hs)).2) (by rw [List.length_map]; exact hl)
theorem fit_small : ∀ i : Fin 16, (PyData.int ((i.val : Nat) : Int)).showable = true ∧ (PyData.int ((i.val : Nat) : Int)).weight ≤ 8 ∧ (PyData.int ((i.val : Nat) : Int)).intsShort 13 = true := by decide +kernel
theorem fit_ints {is : List Nat} (h : ∀ i ∈ is, i < 16) (hl : is.length ≤ 100) : Fit 1 900 (.list (is.map fun (i : Nat) => PyData.int (i : Int))) := fit_list (w := 8) (n := 100) (fun p hp => by
  obtain ⟨i, hi, rfl⟩ := List.mem_map.mp hp
  obtain ⟨a, b, c⟩ := fit_small ⟨i, h i hi⟩
  exact ⟨rfl, Nat.zero_le _, b, a, c⟩) (by rw [List.length_map]; exact hl)
theorem allN_ok {as : List Str} {xs : List Sp1} (hd : DeedOk as xs) : (∀ s ∈ allN as xs, s ∈ menu) ∧ (allN as xs).length ≤ 100 := by
  constructor
  · intro s hs
    rcases List.mem_append.mp hs with h | h
    · exact hd.a s h
    · obtain ⟨x, hx, h⟩ := List.mem_flatMap.mp h; exact (hd.x x hx).n s h
  · have : ∀ xs : List Sp1, (∀ x ∈ xs, StOk x) → (xs.flatMap (·.2)).length ≤ 2 * xs.length := by
      intro xs
      induction xs with
      | nil => intro _; exact Nat.le_refl _
      | cons x xs ih =>
        intro h
        have h1 := (h x List.mem_cons_self).l
        have h2 := ih fun y hy => h y (List.mem_cons_of_mem _ hy)
        rw [List.flatMap_cons, List.length_append, List.length_cons]; omega
    have h1 := this xs hd.x
    have h2 := hd.n
    have h3 := hd.l
    unfold allN; rw [List.length_append]; omega
end K12
namespace K12
open PySem PySem.Spec PyProof.Rows L2 DL
theorem toPyL_str (ss : List Str) : toPyL (ss.map D.str) = some (ss.map PyData.str) := toPyL_map ss fun _ _ => rfl
theorem toPyL_int (is : List Nat) : toPyL (is.map fun (i : Nat) => D.int (i : Int)) = some (is.map fun (i : Nat) => PyData.int (i : Int)) := toPyL_map is fun _ _ => rfl
def pAll (ns os : List Str) (is : List Nat) : PyData := .list [.list (ns.map PyData.str), .tuple (os.map PyData.str), .list (is.map fun (i : Nat) => PyData.int (i : Int))]
theorem toPy_all (ns os : List Str) (is : List Nat) : toPy (.lst [.lst (ns.map D.str), .tup (os.map D.str), .lst (is.map fun (i : Nat) => D.int (i : Int))]) = some (pAll ns os is) := by
  simp only [toPy, toPyL, toPyL_str, toPyL_int, Option.map]; rfl
theorem fit_all {ns os : List Str} {is : List Nat} (h1 : ∀ s ∈ ns, s ∈ menu) (h2 : ∀ s ∈ os, s ∈ menu) (h3 : ∀ i ∈ is, i < 16) (l1 : ns.length ≤ 100) (l2 : os.length ≤ 100) (l3 : is.length ≤ 100) : Fit 2 5103 (pAll ns os is) :=
  fit_list (k := 1) (w := 1700) (n := 3) (fun p hp => by
    rcases List.mem_cons.mp hp with rfl | hp
    · exact fit_strs h1 l1
    · rcases List.mem_cons.mp hp with rfl | hp
      · exact fit_strsT h2 l2
      · rcases List.mem_singleton.mp hp with rfl; exact (fit_ints h3 l3).mono (by decide) (by decide)) (by simp)
section
variable {as : List Str} {xs : List Sp1}
abbrev nsOf (as : List Str) (xs : List Sp1) : List Str := sortU (allN as xs)
abbrev osOf (as : List Str) (xs : List Sp1) : List Str := (sortU (allN as xs)).filter fun s => !decide (s ∈ as)
abbrev dueOf (xs : List Sp1) : Bool := xs.all fun x => !decide (x.1 ∈ NL)
theorem fit_deed (hd : DeedOk as xs) : Fit 2 5103 (pAll (nsOf as xs) (osOf as xs) (cnt 0 xs)) := by
  obtain ⟨h1, h2⟩ := allN_ok hd
  have m : ∀ s ∈ nsOf as xs, s ∈ menu := fun s hs => h1 s ((sortU_mem s _).mp hs)
  have l := Nat.le_trans (sortU_len (allN as xs)) h2
  exact fit_all m (fun s hs => m s (List.mem_filter.mp hs).1) (fun i hi => by have := cnt_lt xs 0 i hi; have := hd.n; omega) l (Nat.le_trans (List.length_filter_le _ _) l) (Nat.le_trans (cnt_len xs 0) (by have := hd.n; omega))
def gInner : SM := (gSeq (gDisp 8 (nCons (eCB F_all_names (aCons (eVar 3) aNil)) (nCons (eCB F_own_names (aCons (eVar 3) aNil)) (nCons (eCB F_countings (aCons (eVar 3) aNil)) nNil))))
    (gSeq (gIf (tmOr (tmNot (tmB (eCB F__law_alike (aCons (eVar 8) (aCons (eVar 5) aNil))))) (tmNot (tmB (eCB F__law_alike (aCons (eCB F_is_loud (aCons (eVar 3) aNil)) (aCons (eVar 6) aNil)))))) (gRet (eD (.bl false))) gNext)
    (gSeq (gDrop (eBM tyL dAppend (eOp dIx (eVar 8) (eD (.int 0))) (aCons (eD .non) aNil)))
    (gSeq (gDrop (eBM0 tyL dClear (eOp dIx (eVar 8) (eD (.int 2)))))
    (gIf (tmNot (tmB (eCB F__law_alike (aCons (eLc (imSeq (eOp dIx (eVar 3) (eD (.int 1)))) (tgName 9) tmYes (eCB F_names_in (aCons (eVar 9) aNil)) [9]) (aCons (eLc (imSeq (eOp dIx (eVar 3) (eD (.int 1)))) (tgName 9) tmYes (eSl (eVar 9) (oSome (eD (.int 1))) oNone) [9]) aNil))))) (gRet (eD (.bl false))) gNext)))))
theorem not_t {ft : TM} {δ : DL.Env} {μ μ' : Mem} {b : Bool} (h : ft δ μ = .ok b μ') : tmNot ft δ μ = .ok (!b) μ' := by unfold tmNot; rw [h]; rfl
theorem or_ff {f g : TM} {δ : DL.Env} {μ μ' μ2 : Mem} (h : f δ μ = .ok false μ') (h2 : g δ μ' = .ok false μ2) : tmOr f g δ μ = .ok false μ2 := by unfold tmOr; rw [h]; exact h2
theorem disp_ok {i N : Nat} {f : NM} {δ : DL.Env} {μ μ1 : Mem} {ys : List DV} (h : f N δ μ = .ok ys μ1) (hl : ys.length ≤ sizeLine) (hN : N ≤ μ1.length) : gDisp i f N δ μ = .next (δ.set i (some (.loc μ1.length))) (μ1 ++ [.lst ys]) := by
  unfold gDisp; rw [h]; simp only; rw [if_pos hl]; simp only [bindR]; rw [if_pos hN]
theorem n_nl {N : Nat} {f : EM} {g : NM} {δ : DL.Env} {μ μ1 μ2 : Mem} {xs ys : List DV} (h : f δ μ = .ok (.nl xs) μ1) (hN : N ≤ μ1.length) (h2 : g N δ (μ1 ++ [.lst xs]) = .ok ys μ2) : nCons f g N δ μ = .ok (.loc μ1.length :: ys) μ2 := by
  unfold nCons; rw [h]; simp only [Res.bind, newPl]; rw [if_pos hN]; simp only; rw [h2]
theorem n_dat {N : Nat} {f : EM} {g : NM} {δ : DL.Env} {μ μ1 μ2 : Mem} {d : D} {ys : List DV} (h : f δ μ = .ok (.dat d) μ1) (h2 : g N δ μ1 = .ok ys μ2) : nCons f g N δ μ = .ok (.dat d :: ys) μ2 := by
  unfold nCons; rw [h]; simp only [Res.bind, newPl]; rw [h2]
theorem n_nil0 {N : Nat} {δ : DL.Env} {μ : Mem} : nNil N δ μ = .ok [] μ := rfl
abbrev dueL (as : List Str) (xs : List Sp1) : List DV := [.loc 1, .dat (.tup ((osOf as xs).map D.str)), .dat (.lst ((cnt 0 xs).map fun (i : Nat) => D.int (i : Int)))]
abbrev m3 (b : Pl) (as : List Str) (xs : List Sp1) : Mem := [b, .lst (sDs (nsOf as xs)), .lst (dueL as xs)]
abbrev fL (as : List Str) (xs : List Sp1) : List DV := [.loc 3, .dat (.tup ((osOf as xs).map D.str)), .loc 4]
theorem ev_loc0 {n m : Nat} {δ : DL.Env} {μ : Mem} {ys : List DV} {i : Nat} {x : DV} {z : Int} (k : Nat) (h : δ[i]? = some (some (.loc n))) (hm : μ[n]? = some (.lst ys)) (hk : ys[k]? = some x) (hz : z = (k : Int) := by rfl) : frzV (eOp dIx (eVar i) (eD (.int z))) δ μ = .ok x μ := by
  subst hz; exact fz_of (ev_op (fz_var h) fz_D (dIx_loc hm (DL.atI_nat hk)))
theorem inner_turn (hd : DeedOk as xs) {b : Pl} {sc tu ws ag : DV} :
    ∃ (y : Option DV) (μ' : Mem), gInner 0 [some sc, some (.loc 0), some tu, some (.dat (deedD as xs)), some ws, some (.loc 2), some (.dat (.bl (dueOf xs))), some ag, none, none, none, none] (m3 b as xs) =
      .next [some sc, some (.loc 0), some tu, some (.dat (deedD as xs)), some ws, some (.loc 2), some (.dat (.bl (dueOf xs))), some ag, y, none, none, none] (m3 b as xs ++ μ') := by
  obtain ⟨h1, h2⟩ := allN_ok hd
  have F1 := fit_deed hd
  refine ⟨some (.loc 5), [.lst (sDs (nsOf as xs) ++ [.dat .non]), .lst [], .lst (fL as xs)], ?_⟩
  have g1 : gDisp 8 (nCons (eCB F_all_names (aCons (eVar 3) aNil)) (nCons (eCB F_own_names (aCons (eVar 3) aNil)) (nCons (eCB F_countings (aCons (eVar 3) aNil)) nNil))) 0 [some sc, some (.loc 0), some tu, some (.dat (deedD as xs)), some ws, some (.loc 2), some (.dat (.bl (dueOf xs))), some ag, none, none, none, none] (m3 b as xs) =
      .next [some sc, some (.loc 0), some tu, some (.dat (deedD as xs)), some ws, some (.loc 2), some (.dat (.bl (dueOf xs))), some ag, some (.loc 5), none, none, none] (m3 b as xs ++ [.lst (sDs (nsOf as xs)), .lst (iDs (cnt 0 xs)), .lst (fL as xs)]) :=
    disp_ok (ys := fL as xs) (μ1 := m3 b as xs ++ [.lst (sDs (nsOf as xs)), .lst (iDs (cnt 0 xs))]) (n_nl (ev_cb1 (fz_var (i := 3) rfl) (all_spec hd h2)) (Nat.zero_le _) (n_dat (ev_cb1 (fz_var (i := 3) rfl) (own_spec hd h2)) (n_nl (ev_cb1 (fz_var (i := 3) rfl) (count_spec hd)) (Nat.zero_le _) n_nil0))) sz (Nat.zero_le _)
  have p5 : peekPy (m3 b as xs ++ [.lst (sDs (nsOf as xs)), .lst (iDs (cnt 0 xs)), .lst (fL as xs)]) (.loc 5) = some (pAll (nsOf as xs) (osOf as xs) (cnt 0 xs)) := by
    have e1 := peekK_loc (k := 3) (n := 3) (μ := m3 b as xs ++ [.lst (sDs (nsOf as xs)), .lst (iDs (cnt 0 xs)), .lst (fL as xs)]) (ds := (nsOf as xs).map D.str) rfl
    have e2 := peekK_loc (k := 3) (n := 4) (μ := m3 b as xs ++ [.lst (sDs (nsOf as xs)), .lst (iDs (cnt 0 xs)), .lst (fL as xs)]) (ds := (cnt 0 xs).map fun (i : Nat) => D.int (i : Int)) rfl
    unfold peekPy peek
    rw [show peekK 5 (m3 b as xs ++ [.lst (sDs (nsOf as xs)), .lst (iDs (cnt 0 xs)), .lst (fL as xs)]) (.loc 5) = (peekL (peekK 4 (m3 b as xs ++ [.lst (sDs (nsOf as xs)), .lst (iDs (cnt 0 xs)), .lst (fL as xs)])) (fL as xs)).map .lst from rfl]
    simp only [fL, peekL, e1, e2, peekK_dat, Option.map, Option.bind]
    exact toPy_all _ _ _
  have p2 : peekPy (m3 b as xs ++ [.lst (sDs (nsOf as xs)), .lst (iDs (cnt 0 xs)), .lst (fL as xs)]) (.loc 2) = some (pAll (nsOf as xs) (osOf as xs) (cnt 0 xs)) := by
    have e1 := peekK_loc (k := 3) (n := 1) (μ := m3 b as xs ++ [.lst (sDs (nsOf as xs)), .lst (iDs (cnt 0 xs)), .lst (fL as xs)]) (ds := (nsOf as xs).map D.str) rfl
    unfold peekPy peek
    rw [show peekK 5 (m3 b as xs ++ [.lst (sDs (nsOf as xs)), .lst (iDs (cnt 0 xs)), .lst (fL as xs)]) (.loc 2) = (peekL (peekK 4 (m3 b as xs ++ [.lst (sDs (nsOf as xs)), .lst (iDs (cnt 0 xs)), .lst (fL as xs)])) (dueL as xs)).map .lst from rfl]
    simp only [dueL, peekL, e1, peekK_dat, Option.map, Option.bind]
    exact toPy_all _ _ _
  have lcs : ∀ (fe : EM) (μ : Mem), (∀ (x : Sp1) (δ : DL.Env), δ[9]? = some (some (.dat (stD x))) → frzV fe δ μ = .ok (.dat (.tup (x.2.map D.str))) μ) →
      frzV (eLc (imSeq (eOp dIx (eVar 3) (eD (.int 1)))) (tgName 9) tmYes fe [9]) [some sc, some (.loc 0), some tu, some (.dat (deedD as xs)), some ws, some (.loc 2), some (.dat (.bl (dueOf xs))), some ag, some (.loc 5), none, none, none] μ = .ok (.dat (.lst (xs.map fun x => .tup (x.2.map D.str)))) μ := fun fe μ hfe => by
    refine fz_nl (ev_lc (im_seq (ix1 (as := as) (xs := xs) (i := 3) rfl) rfl) ?_ ((lc_all (fun d => [some sc, some (.loc 0), some tu, some (.dat (deedD as xs)), some ws, some (.loc 2), some (.dat (.bl (dueOf xs))), some ag, some (.loc 5), some (.dat d), none, none]) (fun d => match d with | .tup (_ :: r) => .dat (.tup r) | _ => .dat .non) _ fun d hd' => ?_).trans ?_))
    · rw [List.length_map]; exact Nat.le_trans hd.n (by decide)
    · obtain ⟨x, _, rfl⟩ := List.mem_map.mp hd'
      exact ⟨rfl, hfe x _ rfl⟩
    · simp only [List.map_map]; rfl
  have pn : ∀ μ : Mem, peekPy μ (.dat (.lst (xs.map fun x => .tup (x.2.map D.str)))) = some (.list (xs.map fun x => .tuple (x.2.map PyData.str))) := fun μ => peekPy_dat (by
    simp only [toPy]; rw [toPyL_map (g := fun (x : Sp1) => PyData.tuple (x.2.map PyData.str)) xs fun x _ => by simp only [toPy, toPyL_str]; rfl]; rfl)
  have F2 : Fit 2 (100 * 1701) (.list (xs.map fun x => .tuple (x.2.map PyData.str))) := fit_list (n := 100) (fun p hp => by
    obtain ⟨x, hx, rfl⟩ := List.mem_map.mp hp
    exact fit_strsT (hd.x x hx).n (Nat.le_trans (hd.x x hx).l (by decide))) (by rw [List.length_map]; exact Nat.le_trans hd.n (by decide))
  refine sq_next g1 (sq_next (if_false (or_ff (not_t (tm_of (ev_cb2 (fz_var (i := 8) rfl) (fz_var (i := 5) rfl) (alike_spec p5 p2 F1 (by decide) (by decide))))) (not_t (tm_of (ev_cb2 (fz_ofD (ev_cb1 (fz_var (i := 3) rfl) (loud_spec hd))) (fz_var (i := 6) rfl) (alike_spec (peekPy_dat (d := .bl (dueOf xs)) rfl) (peekPy_dat (d := .bl (dueOf xs)) rfl) (fit_bool _) (by decide) (by decide)))))) rfl) ?_)
  refine sq_next (drop_ok (ev_bm1 (ev_loc0 (m := 0) 0 (i := 8) (n := 5) (ys := fL as xs) rfl rfl rfl) rfl fz_D (app_ok (n := 3) (ys := sDs (nsOf as xs)) rfl ?_ rfl))) ?_
  · simp only [sDs, List.length_map]; exact Nat.lt_of_le_of_lt (Nat.le_trans (sortU_len _) h2) (by decide)
  refine sq_next (drop_ok (ev_bm0 (ev_loc0 (m := 0) 2 (i := 8) (n := 5) (ys := fL as xs) rfl rfl rfl) rfl (clear_ok (n := 4) (ys := iDs (cnt 0 xs)) rfl))) ?_
  exact if_false (not_t (tm_of (ev_cb2 (lcs _ _ fun x δ h => fz_ofD (ev_cb1 (fz_var h) names_in_spec)) (lcs _ _ fun x δ h => tail_at h) (alike_spec (pn _) (pn _) F2 (by decide) (by decide))))) rfl
end
end K12
namespace K12
open PySem PySem.Spec PyProof.Rows L2 DL
def gOuter : SM := (gSeq (gAsg 3 (eCB F__law_deed (aCons (eVar 1) (aCons (eOp dEq (eCB F__law_take (aCons (eVar 1) (aCons (eD (.int 2)) aNil))) (eD (.int 0))) aNil))))
    (gSeq (gAsg 4 (eLc (imSeq (eOp dIx (eVar 3) (eD (.int 1)))) (tgName 9) tmYes (eOp dIx (eVar 9) (eD (.int 0))) [9]))
    (gSeq (gDisp 5 (nCons (eCB F__law_all_names (aCons (eVar 3) aNil)) (nCons (eCB (d1 dTuple) (aCons (eCB F__law_own (aCons (eVar 3) aNil)) aNil)) nNil)))
    (gSeq (gDrop (eBM tyL dAppend (eVar 5) (aCons (eLc (imRng (aCons (eCB (d1 dLen) (aCons (eVar 4) aNil)) aNil)) (tgName 10) (tmB (eOp (dIn false) (eOp dIx (eVar 4) (eVar 10)) (eTup (aCons (eD (.str "share")) (aCons (eD (.str "end")) aNil))))) (eVar 10) [10]) aNil)))
    (gSeq (gAsg 6 (eOp dEq (eLc (imSeq (eVar 4)) (tgName 11) (tmB (eOp (dIn false) (eVar 11) (eTup (aCons (eD (.str "hold")) (aCons (eD (.str "leave")) (aCons (eD (.str "more")) (aCons (eD (.str "less")) aNil))))))) (eVar 11) [11]) (eLst aNil)))
    (gFor [true, true, true, true, true, true, true, false, false, false, false, false] (imRng (aCons (eD (.int 2)) aNil)) (tgName 7) gInner))))))
theorem g_law_eq : g_law = (gSeq (gNew 1 (eCB F__law_bag (aCons (eVar 0) aNil))) (gSeq (gFor [true, true, false, false, false, false, false, false, false, false, false, false] (imRng (aCons (eD (.int 20)) aNil)) (tgName 2) gOuter) (gRet (eD (.bl true))))) := rfl
theorem for_cons {M N : Nat} {ks : List Bool} {h : D → DL.Env → Option DL.Env} {gb : SM} {d : D} {ds : List D} {δ δ1 : DL.Env} {μ : Mem} {o : Out} (h1 : h d δ = some δ1) (h2 : turnL M ks (gb N δ1 μ) (forL M ks h gb N ds) = o) : forL M ks h gb N (d :: ds) δ μ = o := by
  unfold forL; rw [h1]; exact h2
theorem inner_for {as : List Str} {xs : List Sp1} (hd : DeedOk as xs) {b : Pl} {sc tu ws : D} :
    gFor [true, true, true, true, true, true, true, false, false, false, false, false] (imRng (aCons (eD (.int 2)) aNil)) (tgName 7) gInner 0 [some (.dat sc), some (.loc 0), some (.dat tu), some (.dat (deedD as xs)), some (.dat ws), some (.loc 2), some (.dat (.bl (dueOf xs))), none, none, none, none, none] (m3 b as xs) =
      .next [some (.dat sc), some (.loc 0), some (.dat tu), some (.dat (deedD as xs)), some (.dat ws), some (.loc 2), some (.dat (.bl (dueOf xs))), none, none, none, none, none] (m3 b as xs) := by
  have step : ∀ (d : D) (k : DL.Env → Mem → Out), turnL 3 [true, true, true, true, true, true, true, false, false, false, false, false] (gInner 0 [some (.dat sc), some (.loc 0), some (.dat tu), some (.dat (deedD as xs)), some (.dat ws), some (.loc 2), some (.dat (.bl (dueOf xs))), some (.dat d), none, none, none, none] (m3 b as xs)) k =
      k [some (.dat sc), some (.loc 0), some (.dat tu), some (.dat (deedD as xs)), some (.dat ws), some (.loc 2), some (.dat (.bl (dueOf xs))), none, none, none, none, none] (m3 b as xs) := fun d k => by
    obtain ⟨y, μ', e⟩ := inner_turn hd (b := b) (sc := .dat sc) (tu := .dat tu) (ws := .dat ws) (ag := .dat d)
    rw [e]; rfl
  unfold gFor
  rw [im_rng fz_D (by decide)]
  rw [show rngD 0 (Int.toNat 2) = [.int (0 + 0), .int (0 + 1)] by simp [rngD, List.range_succ]]
  simp only [lift]
  exact for_cons rfl ((step _ _).trans (for_cons rfl ((step _ _).trans rfl)))
theorem fit_word {s : Str} (h : s ∈ words) : Fit 0 16 (.str s) := fit_str (words_fit s h).1 (words_fit s h).2
theorem outer_turn {B : Bg} (hB : B.ok) {sc tu : D} :
    ∃ (B' : Bg) (x3 x4 x5 x6 : Option DV) (μ' : Mem), B'.ok ∧ gOuter 0 [some (.dat sc), some (.loc 0), some (.dat tu), none, none, none, none, none, none, none, none, none] [B.pl] = .next [some (.dat sc), some (.loc 0), some (.dat tu), x3, x4, x5, x6, none, none, none, none, none] (B'.pl :: μ') := by
  obtain ⟨r, B1, o1, hr, e1⟩ := take_k hB (μ := [B.pl]) (n := 0) rfl (m := 2) (by decide) (by decide)
  obtain ⟨as, xs, B2, o2, hd, e2⟩ := deed_spec o1 (μ := [B1.pl]) (n := 0) (b := ((r : Int) == 0) == true) rfl
  obtain ⟨h1, h2⟩ := allN_ok hd
  have hwm : ∀ s ∈ xs.map (·.1), s ∈ words := fun s hs => by
    obtain ⟨x, hx, rfl⟩ := List.mem_map.mp hs; exact (hd.x x hx).w
  have hwl : (xs.map (·.1)).length ≤ 8 := by rw [List.length_map]; exact hd.n
  refine ⟨B2, _, _, _, _, _, o2, sq_next (asg_ok (x := .dat (deedD as xs)) (μ' := [B2.pl]) (fz_ofD (ev_cb2 (fz_var (i := 1) rfl) (fz_ofD (ev_op (fz_ofD (ev_cb2 (fz_var (i := 1) rfl) fz_D e1)) fz_D (dEqB_int _ _ _ _))) e2)))
    (sq_next (asg_ok (x := .dat (.lst ((xs.map (·.1)).map D.str))) (μ' := [B2.pl]) (fz_nl (ev_lc (im_seq (ix1 (as := as) (xs := xs) (i := 3) rfl) rfl) ?a ((lc_all (fun d => [some (.dat sc), some (.loc 0), some (.dat tu), some (.dat (deedD as xs)), none, none, none, none, none, some (.dat d), none, none]) (fun d => match d with | .tup (w :: _) => .dat w | _ => .dat .non) _ fun d hd' => ?b).trans ?c))))
    (sq_next (disp_ok (ys := [.loc 1, .dat (.tup ((osOf as xs).map D.str))]) (μ1 := [B2.pl, .lst (sDs (nsOf as xs))]) (n_nl (ev_cb1 (fz_var (i := 3) rfl) (all_spec hd h2)) (Nat.zero_le _) (n_dat (ev_cb1 (fz_nl (ev_cb1 (fz_var (i := 3) rfl) (lown_spec hd h2))) tuple_lst) n_nil0)) sz (Nat.zero_le _))
    (sq_next (drop_ok (r := .dat .non) (μ' := m3 B2.pl as xs) (ev_bm1 (fz_var (i := 5) (x := .loc 2) rfl) rfl (fz_nl (ds := (cnt 0 xs).map fun (i : Nat) => D.int (i : Int)) (μ' := [B2.pl, .lst (sDs (nsOf as xs)), .lst [.loc 1, .dat (.tup ((osOf as xs).map D.str))]]) ?d) (app_ok (n := 2) (ys := [.loc 1, .dat (.tup ((osOf as xs).map D.str))]) rfl (by show 2 < sizeLine; decide) rfl)))
    (sq_next (asg_ok (x := .dat (.bl (dueOf xs))) (μ' := m3 B2.pl as xs) (fz_ofD ?e)) (inner_for hd)))))⟩
  case a => rw [List.length_map]; exact Nat.le_trans hd.n (by decide)
  case b => obtain ⟨x, _, rfl⟩ := List.mem_map.mp hd'; exact ⟨rfl, word_at (x := x) (i := 9) rfl⟩
  case c => simp only [List.map_map]; rfl
  case d =>
    refine ev_lc (im_rng (j := ((xs.map (·.1)).length : Nat)) (fz_ofD ((ev_cb1 (fz_var (i := 4) (x := .dat (.lst ((xs.map (·.1)).map D.str))) rfl) len_lst).trans (by rw [List.length_map (f := D.str)]))) (by omega)) ?_ ?_
    · rw [rng_len]; exact Nat.le_trans (show _ ≤ 8 by simpa using hwl) (by decide)
    · have := lcnt_loop (μ := [B2.pl, .lst (sDs (nsOf as xs)), .lst [.loc 1, .dat (.tup ((osOf as xs).map D.str))]]) (δ := [some (.dat sc), some (.loc 0), some (.dat tu), some (.dat (deedD as xs)), some (.dat (.lst ((xs.map (·.1)).map D.str))), some (.loc 2), none, none, none, none, none, none]) (xs.map (·.1)) (fun _ => rfl) (fun _ => rfl) xs [] rfl
      refine Eq.trans ?_ this
      unfold rngD
      rw [Int.toNat_natCast, List.length_map, List.range_eq_range']
      rfl
  case e =>
    have lc : frzV (eLc (imSeq (eVar 4)) (tgName 11) (tmB (eOp (dIn false) (eVar 11) (eTup (aCons (eD (.str "hold")) (aCons (eD (.str "leave")) (aCons (eD (.str "more")) (aCons (eD (.str "less")) aNil))))))) (eVar 11) [11]) [some (.dat sc), some (.loc 0), some (.dat tu), some (.dat (deedD as xs)), some (.dat (.lst ((xs.map (·.1)).map D.str))), some (.loc 2), none, none, none, none, none, none] (m3 B2.pl as xs) = .ok (.dat (.lst (((xs.map (·.1)).filter fun s => decide (s ∈ NL)).map D.str))) (m3 B2.pl as xs) := by
      refine fz_nl (ev_lc (im_seq (fz_var (i := 4) rfl) rfl) ?_ ((lc_pure (fun d => [some (.dat sc), some (.loc 0), some (.dat tu), some (.dat (deedD as xs)), some (.dat (.lst ((xs.map (·.1)).map D.str))), some (.loc 2), none, none, none, none, none, some (.dat d)]) (fun d => match d with | .str s => decide (s ∈ NL) | _ => false) (fun d => .dat d) _ fun d hd' => ?_).trans ?_))
      · rw [List.length_map]; exact Nat.le_trans hwl (by decide)
      · obtain ⟨s, _, rfl⟩ := List.mem_map.mp hd'
        exact ⟨rfl, tm_of (ev_op (fz_var (i := 11) rfl) (fz_ofD (tup_ok (ds := NL.map D.str) (a_cons fz_D (a_cons fz_D (a_cons fz_D (a_cons fz_D a_nil)))) sz)) in_tup), fun _ => fz_var (i := 11) rfl⟩
      · rw [List.filter_map]; rfl
    have hfm : ∀ s ∈ (xs.map (·.1)).filter (fun s => decide (s ∈ NL)), s ∈ words := fun s hs => hwm s (List.mem_filter.mp hs).1
    rw [dueOf, loud_due]
    generalize (xs.map (·.1)).filter (fun s => decide (s ∈ NL)) = fs at lc hfm
    have f := fit_list (k := 0) (w := 16) (ps := fs.map PyData.str) (n := fs.length) (fun p hp => by
      obtain ⟨s, hs, rfl⟩ := List.mem_map.mp hp; exact fit_word (hfm s hs)) (by simp)
    have f0 : Fit 1 0 (.list []) := (fit_list (k := 0) (w := 0) (n := 0) (ps := []) (fun _ h => by cases h) (Nat.le_refl _)).mono (Nat.le_refl _) (Nat.le_refl _)
    have hp : toPy (.lst (fs.map D.str)) = some (.list (fs.map PyData.str)) := by simp only [toPy, toPyL_str]; rfl
    refine (ev_op lc (show frzV (eLst aNil) _ _ = .ok (.dat (.lst [])) _ from rfl) (eq_any true (peekPy_dat hp) (peekPy_dat (d := .lst []) (p := .list []) rfl) f f0 (by omega) (by omega))).trans ?_
    cases fs <;> rfl
theorem outer_loop {sc : D} : ∀ (ds : List D) (B : Bg), B.ok → ∃ B' : Bg, B'.ok ∧
    forL 1 [true, true, false, false, false, false, false, false, false, false, false, false] (tgName 2) gOuter 0 ds [some (.dat sc), some (.loc 0), none, none, none, none, none, none, none, none, none, none] [B.pl] = .next [some (.dat sc), some (.loc 0), none, none, none, none, none, none, none, none, none, none] [B'.pl]
  | [], B, hB => ⟨B, hB, rfl⟩
  | d :: ds, B, hB => by
    obtain ⟨B1, x3, x4, x5, x6, μ', o1, e⟩ := outer_turn hB (sc := sc) (tu := d)
    obtain ⟨B2, o2, e2⟩ := outer_loop (sc := sc) ds B1 o1
    refine ⟨B2, o2, ?_⟩
    rw [← e2]
    show turnL 1 _ (gOuter 0 [some (.dat sc), some (.loc 0), some (.dat d), none, none, none, none, none, none, none, none, none] [B.pl]) _ = _
    rw [e]; rfl
theorem law_true (ns : List Int) : F_law [.dat (.fro (ns.map D.int))] [] = .ok (.dat (.bl true)) [] := by
  obtain ⟨B', o, e⟩ := outer_loop (sc := .fro (ns.map D.int)) (rngD 0 20) (bag0 ns) (bag0_ok ns)
  refine call_ret (r := .dat (.bl true)) (μ' := [B'.pl]) rfl ?_ rfl
  rw [g_law_eq]
  refine sq_next (new_nl (ev_cb1 (fz_var (i := 0) (x := .dat (.fro (ns.map D.int))) rfl) bag_spec) (Nat.le_refl _)) (sq_next (δ' := [some (.dat (.fro (ns.map D.int))), some (.loc 0), none, none, none, none, none, none, none, none, none, none]) (μ' := [B'.pl]) ?_ (ret_ok rfl))
  unfold gFor
  rw [im_rng fz_D (by decide)]
  exact e
end K12
namespace K12
open PySem PySem.Spec PyProof.Rows L2 DL

theorem all_mk {l : PySem.W.OpenLaw} {w : World} {K : PySem.W.Frag} {h : Heap} {mg : Str → Option Value} {fa : Addr} (X : K.In h) (G : h.Ns mainGlobals mg) (hfa : mg "law" = some (.ref fa))
    {f0 : Addr} {od0 an0 : Option Addr} {sl0 : Array (Option Value)} {oc0 kV0 dc0 pm0 cd0 ct0 : Value}
    {f1 : Addr} {od1 an1 : Option Addr} {sl1 : Array (Option Value)} {oc1 kV1 dc1 pm1 cd1 ct1 : Value}
    {f2 : Addr} {od2 an2 : Option Addr} {sl2 : Array (Option Value)} {oc2 kV2 dc2 pm2 cd2 ct2 : Value}
    {f3 : Addr} {od3 an3 : Option Addr} {sl3 : Array (Option Value)} {oc3 kV3 dc3 pm3 cd3 ct3 : Value}
    {f4 : Addr} {od4 an4 : Option Addr} {sl4 : Array (Option Value)} {oc4 kV4 dc4 pm4 cd4 ct4 : Value}
    {f5 : Addr} {od5 an5 : Option Addr} {sl5 : Array (Option Value)} {oc5 kV5 dc5 pm5 cd5 ct5 : Value}
    {f6 : Addr} {od6 an6 : Option Addr} {sl6 : Array (Option Value)} {oc6 kV6 dc6 pm6 cd6 ct6 : Value}
    {f7 : Addr} {od7 an7 : Option Addr} {sl7 : Array (Option Value)} {oc7 kV7 dc7 pm7 cd7 ct7 : Value}
    {f8 : Addr} {od8 an8 : Option Addr} {sl8 : Array (Option Value)} {oc8 kV8 dc8 pm8 cd8 ct8 : Value}
    {f9 : Addr} {od9 an9 : Option Addr} {sl9 : Array (Option Value)} {oc9 kV9 dc9 pm9 cd9 ct9 : Value}
    {f10 : Addr} {od10 an10 : Option Addr} {sl10 : Array (Option Value)} {oc10 kV10 dc10 pm10 cd10 ct10 : Value}
    {f11 : Addr} {od11 an11 : Option Addr} {sl11 : Array (Option Value)} {oc11 kV11 dc11 pm11 cd11 ct11 : Value}
    {f12 : Addr} {od12 an12 : Option Addr} {sl12 : Array (Option Value)} {oc12 kV12 dc12 pm12 cd12 ct12 : Value}
    {f13 : Addr} {od13 an13 : Option Addr} {sl13 : Array (Option Value)} {oc13 kV13 dc13 pm13 cd13 ct13 : Value}
    {f14 : Addr} {od14 an14 : Option Addr} {sl14 : Array (Option Value)} {oc14 kV14 dc14 pm14 cd14 ct14 : Value}
    {f15 : Addr} {od15 an15 : Option Addr} {sl15 : Array (Option Value)} {oc15 kV15 dc15 pm15 cd15 ct15 : Value}
    (a0 : PySem.W.nsIn K mainGlobals "_law_alike" = some (some (.ref f0))) (l0 : K.lookup f0 = some ⟨oc0, od0, .func (PySem.W.fnOf "_law_alike" "_law_alike" (defArgs s__law_alike) (defBody s__law_alike) (defScope s__law_alike) .none kV0 dc0 pm0 an0 cd0 ct0), sl0⟩) (c0 : PySem.W.codeIn K cd0 "_law_alike" = true) (k0 : PySem.W.keepIn K (.ref f0) = true)
    (a1 : PySem.W.nsIn K mainGlobals "_law_all_names" = some (some (.ref f1))) (l1 : K.lookup f1 = some ⟨oc1, od1, .func (PySem.W.fnOf "_law_all_names" "_law_all_names" (defArgs s__law_all_names) (defBody s__law_all_names) (defScope s__law_all_names) .none kV1 dc1 pm1 an1 cd1 ct1), sl1⟩) (c1 : PySem.W.codeIn K cd1 "_law_all_names" = true) (k1 : PySem.W.keepIn K (.ref f1) = true)
    (a2 : PySem.W.nsIn K mainGlobals "_law_bag" = some (some (.ref f2))) (l2 : K.lookup f2 = some ⟨oc2, od2, .func (PySem.W.fnOf "_law_bag" "_law_bag" (defArgs s__law_bag) (defBody s__law_bag) (defScope s__law_bag) .none kV2 dc2 pm2 an2 cd2 ct2), sl2⟩) (c2 : PySem.W.codeIn K cd2 "_law_bag" = true) (k2 : PySem.W.keepIn K (.ref f2) = true)
    (a3 : PySem.W.nsIn K mainGlobals "_law_take" = some (some (.ref f3))) (l3 : K.lookup f3 = some ⟨oc3, od3, .func (PySem.W.fnOf "_law_take" "_law_take" (defArgs s__law_take) (defBody s__law_take) (defScope s__law_take) .none kV3 dc3 pm3 an3 cd3 ct3), sl3⟩) (c3 : PySem.W.codeIn K cd3 "_law_take" = true) (k3 : PySem.W.keepIn K (.ref f3) = true)
    (a4 : PySem.W.nsIn K mainGlobals "_law_mixed" = some (some (.ref f4))) (l4 : K.lookup f4 = some ⟨oc4, od4, .func (PySem.W.fnOf "_law_mixed" "_law_mixed" (defArgs s__law_mixed) (defBody s__law_mixed) (defScope s__law_mixed) .none kV4 dc4 pm4 an4 cd4 ct4), sl4⟩) (c4 : PySem.W.codeIn K cd4 "_law_mixed" = true) (k4 : PySem.W.keepIn K (.ref f4) = true)
    (a5 : PySem.W.nsIn K mainGlobals "_law_names" = some (some (.ref f5))) (l5 : K.lookup f5 = some ⟨oc5, od5, .func (PySem.W.fnOf "_law_names" "_law_names" (defArgs s__law_names) (defBody s__law_names) (defScope s__law_names) .none kV5 dc5 pm5 an5 cd5 ct5), sl5⟩) (c5 : PySem.W.codeIn K cd5 "_law_names" = true) (k5 : PySem.W.keepIn K (.ref f5) = true)
    (a6 : PySem.W.nsIn K mainGlobals "_law_one" = some (some (.ref f6))) (l6 : K.lookup f6 = some ⟨oc6, od6, .func (PySem.W.fnOf "_law_one" "_law_one" (defArgs s__law_one) (defBody s__law_one) (defScope s__law_one) .none kV6 dc6 pm6 an6 cd6 ct6), sl6⟩) (c6 : PySem.W.codeIn K cd6 "_law_one" = true) (k6 : PySem.W.keepIn K (.ref f6) = true)
    (a7 : PySem.W.nsIn K mainGlobals "_law_step" = some (some (.ref f7))) (l7 : K.lookup f7 = some ⟨oc7, od7, .func (PySem.W.fnOf "_law_step" "_law_step" (defArgs s__law_step) (defBody s__law_step) (defScope s__law_step) .none kV7 dc7 pm7 an7 cd7 ct7), sl7⟩) (c7 : PySem.W.codeIn K cd7 "_law_step" = true) (k7 : PySem.W.keepIn K (.ref f7) = true)
    (a8 : PySem.W.nsIn K mainGlobals "_law_deed" = some (some (.ref f8))) (l8 : K.lookup f8 = some ⟨oc8, od8, .func (PySem.W.fnOf "_law_deed" "_law_deed" (defArgs s__law_deed) (defBody s__law_deed) (defScope s__law_deed) .none kV8 dc8 pm8 an8 cd8 ct8), sl8⟩) (c8 : PySem.W.codeIn K cd8 "_law_deed" = true) (k8 : PySem.W.keepIn K (.ref f8) = true)
    (a9 : PySem.W.nsIn K mainGlobals "_law_own" = some (some (.ref f9))) (l9 : K.lookup f9 = some ⟨oc9, od9, .func (PySem.W.fnOf "_law_own" "_law_own" (defArgs s__law_own) (defBody s__law_own) (defScope s__law_own) .none kV9 dc9 pm9 an9 cd9 ct9), sl9⟩) (c9 : PySem.W.codeIn K cd9 "_law_own" = true) (k9 : PySem.W.keepIn K (.ref f9) = true)
    (a10 : PySem.W.nsIn K mainGlobals "all_names" = some (some (.ref f10))) (l10 : K.lookup f10 = some ⟨oc10, od10, .func (PySem.W.fnOf "all_names" "all_names" (defArgs s_all_names) (defBody s_all_names) (defScope s_all_names) .none kV10 dc10 pm10 an10 cd10 ct10), sl10⟩) (c10 : PySem.W.codeIn K cd10 "all_names" = true) (k10 : PySem.W.keepIn K (.ref f10) = true)
    (a11 : PySem.W.nsIn K mainGlobals "countings" = some (some (.ref f11))) (l11 : K.lookup f11 = some ⟨oc11, od11, .func (PySem.W.fnOf "countings" "countings" (defArgs s_countings) (defBody s_countings) (defScope s_countings) .none kV11 dc11 pm11 an11 cd11 ct11), sl11⟩) (c11 : PySem.W.codeIn K cd11 "countings" = true) (k11 : PySem.W.keepIn K (.ref f11) = true)
    (a12 : PySem.W.nsIn K mainGlobals "is_loud" = some (some (.ref f12))) (l12 : K.lookup f12 = some ⟨oc12, od12, .func (PySem.W.fnOf "is_loud" "is_loud" (defArgs s_is_loud) (defBody s_is_loud) (defScope s_is_loud) .none kV12 dc12 pm12 an12 cd12 ct12), sl12⟩) (c12 : PySem.W.codeIn K cd12 "is_loud" = true) (k12 : PySem.W.keepIn K (.ref f12) = true)
    (a13 : PySem.W.nsIn K mainGlobals "names_in" = some (some (.ref f13))) (l13 : K.lookup f13 = some ⟨oc13, od13, .func (PySem.W.fnOf "names_in" "names_in" (defArgs s_names_in) (defBody s_names_in) (defScope s_names_in) .none kV13 dc13 pm13 an13 cd13 ct13), sl13⟩) (c13 : PySem.W.codeIn K cd13 "names_in" = true) (k13 : PySem.W.keepIn K (.ref f13) = true)
    (a14 : PySem.W.nsIn K mainGlobals "own_names" = some (some (.ref f14))) (l14 : K.lookup f14 = some ⟨oc14, od14, .func (PySem.W.fnOf "own_names" "own_names" (defArgs s_own_names) (defBody s_own_names) (defScope s_own_names) .none kV14 dc14 pm14 an14 cd14 ct14), sl14⟩) (c14 : PySem.W.codeIn K cd14 "own_names" = true) (k14 : PySem.W.keepIn K (.ref f14) = true)
    (a15 : PySem.W.nsIn K mainGlobals "law" = some (some (.ref f15))) (l15 : K.lookup f15 = some ⟨oc15, od15, .func (PySem.W.fnOf "law" "law" (defArgs s_law) (defBody s_law) (defScope s_law) .none kV15 dc15 pm15 an15 cd15 ct15), sl15⟩) (c15 : PySem.W.codeIn K cd15 "law" = true) (k15 : PySem.W.keepIn K (.ref f15) = true)
    (z_abs : PySem.W.nsIn K mainGlobals "abs" = some none)
    (z_all : PySem.W.nsIn K mainGlobals "all" = some none)
    (z_enumerate : PySem.W.nsIn K mainGlobals "enumerate" = some none)
    (z_int : PySem.W.nsIn K mainGlobals "int" = some none)
    (z_len : PySem.W.nsIn K mainGlobals "len" = some none)
    (z_list : PySem.W.nsIn K mainGlobals "list" = some none)
    (z_range : PySem.W.nsIn K mainGlobals "range" = some none)
    (z_repr : PySem.W.nsIn K mainGlobals "repr" = some none)
    (z_set : PySem.W.nsIn K mainGlobals "set" = some none)
    (z_sorted : PySem.W.nsIn K mainGlobals "sorted" = some none)
    (z_tuple : PySem.W.nsIn K mainGlobals "tuple" = some none)
    {c_NOT_LOUD : Addr} {oc_NOT_LOUD : Option Addr} {its_NOT_LOUD : Array Value} {n_NOT_LOUD : Nat} {sl_NOT_LOUD : Array (Option Value)} (q_NOT_LOUD : PySem.W.nsIn K mainGlobals "NOT_LOUD" = some (some (.ref c_NOT_LOUD))) (v_NOT_LOUD : K.lookup c_NOT_LOUD = some ⟨.type "tuple", oc_NOT_LOUD, .seq its_NOT_LOUD n_NOT_LOUD, sl_NOT_LOUD⟩) (x_NOT_LOUD : its_NOT_LOUD.size ≤ sizeLine) (y_NOT_LOUD : absL its_NOT_LOUD.toList = some ((["hold", "leave", "more", "less"] : List Str).map V.str))
    {c_QUIET : Addr} {es_QUIET : Array DictEntry} {n_QUIET : Nat} (q_QUIET : PySem.W.nsIn K mainGlobals "QUIET" = some (some (.ref c_QUIET))) (v_QUIET : K.lookup c_QUIET = some ⟨.type "dict", none, .dict es_QUIET n_QUIET, #[]⟩) (w_QUIET : (c_QUIET == sysModules) = false) (x_QUIET : es_QUIET.toList.map (fun e => match e.key with | .str x _ => some x | _ => none) = (["share", "end"] : List Str).map some) (y_QUIET : PySem.W.KeysLit w.params es_QUIET.toList)
    : ∃ fd : FuncData, (∀ (s : Shared) (v : Value), BindsTo s fd ⟨[v], []⟩ [("_law_script", v)]) ∧ ∀ base : Heap, K.In base → base.Ns mainGlobals mg → FnG l.prog w K mg base CX0 5 fa fd ["_law_script"] (spF K 1 F_law) := by
  have e := hfa.symm.trans (PySem.W.mg_of X G a15)
  cases e
  have T : Tx w K mg c_NOT_LOUD c_QUIET := ⟨PySem.W.mg_none_of X G z_abs, PySem.W.mg_none_of X G z_all, PySem.W.mg_none_of X G z_enumerate, PySem.W.mg_none_of X G z_int, PySem.W.mg_none_of X G z_len, PySem.W.mg_none_of X G z_list, PySem.W.mg_none_of X G z_range, PySem.W.mg_none_of X G z_repr, PySem.W.mg_none_of X G z_set, PySem.W.mg_none_of X G z_sorted, PySem.W.mg_none_of X G z_tuple, PySem.W.mg_of X G q_NOT_LOUD, rp_ktup v_NOT_LOUD x_NOT_LOUD y_NOT_LOUD, PySem.W.mg_of X G q_QUIET, ⟨es_QUIET, n_QUIET, dict_mk v_QUIET y_QUIET w_QUIET, x_QUIET⟩⟩
  refine ⟨PySem.W.fnOf "law" "law" (defArgs s_law) (defBody s_law) (defScope s_law) .none kV15 dc15 pm15 an15 cd15 ct15, fun s v => .of_eq rfl, fun base _ _ => ?_⟩
  have C__law_alike := ok__law_alike (P := l.prog) (w := w) (base := base) (fun_mk (st := s__law_alike) l0 c0 k0) (PySem.W.mg_of X G a0) T 
  have C__law_all_names := ok__law_all_names (P := l.prog) (w := w) (base := base) (fun_mk (st := s__law_all_names) l1 c1 k1) (PySem.W.mg_of X G a1) T 
  have C__law_bag := ok__law_bag (P := l.prog) (w := w) (base := base) (fun_mk (st := s__law_bag) l2 c2 k2) (PySem.W.mg_of X G a2) T 
  have C__law_take := ok__law_take (P := l.prog) (w := w) (base := base) (fun_mk (st := s__law_take) l3 c3 k3) (PySem.W.mg_of X G a3) T 
  have C__law_mixed := ok__law_mixed (P := l.prog) (w := w) (base := base) (fun_mk (st := s__law_mixed) l4 c4 k4) (PySem.W.mg_of X G a4) T C__law_take
  have C__law_names := ok__law_names (P := l.prog) (w := w) (base := base) (fun_mk (st := s__law_names) l5 c5 k5) (PySem.W.mg_of X G a5) T C__law_mixed C__law_take
  have C__law_one := ok__law_one (P := l.prog) (w := w) (base := base) (fun_mk (st := s__law_one) l6 c6 k6) (PySem.W.mg_of X G a6) T C__law_take
  have C__law_step := ok__law_step (P := l.prog) (w := w) (base := base) (fun_mk (st := s__law_step) l7 c7 k7) (PySem.W.mg_of X G a7) T C__law_one
  have C__law_deed := ok__law_deed (P := l.prog) (w := w) (base := base) (fun_mk (st := s__law_deed) l8 c8 k8) (PySem.W.mg_of X G a8) T C__law_names C__law_step C__law_take
  have C__law_own := ok__law_own (P := l.prog) (w := w) (base := base) (fun_mk (st := s__law_own) l9 c9 k9) (PySem.W.mg_of X G a9) T C__law_all_names
  have C_all_names := ok_all_names (P := l.prog) (w := w) (base := base) (fun_mk (st := s_all_names) l10 c10 k10) (PySem.W.mg_of X G a10) T 
  have C_countings := ok_countings (P := l.prog) (w := w) (base := base) (fun_mk (st := s_countings) l11 c11 k11) (PySem.W.mg_of X G a11) T 
  have C_is_loud := ok_is_loud (P := l.prog) (w := w) (base := base) (fun_mk (st := s_is_loud) l12 c12 k12) (PySem.W.mg_of X G a12) T 
  have C_names_in := ok_names_in (P := l.prog) (w := w) (base := base) (fun_mk (st := s_names_in) l13 c13 k13) (PySem.W.mg_of X G a13) T 
  have C_own_names := ok_own_names (P := l.prog) (w := w) (base := base) (fun_mk (st := s_own_names) l14 c14 k14) (PySem.W.mg_of X G a14) T C_all_names
  exact ok_law (fun_mk (st := s_law) l15 c15 k15) T C__law_alike C__law_all_names C__law_bag C__law_deed C__law_own C__law_take C_all_names C_countings C_is_loud C_names_in C_own_names
end K12
open PySem PySem.W PyProof.Rows
set_option maxHeartbeats 0 in
theorem PySem.Challenge.cw_smallcount_k12_names_and_countings_holds : PySem.Challenge.rw_smallcount_k12_names_and_countings.Holds := by
  w_on; o_law; k_head; (case hw => w_witness2)
  k_fill
  refine DL.walk_ofG (l := PySem.Challenge.rw_smallcount_k12_names_and_countings) (n := 63) (k := 5) (x := "_law_script") (cx := fun _ => L2.CX0) (sp := fun w => DL.spF _ 1 K12.F_law) rfl (by decide) rfl ⟨rfl, by decide, by decide⟩ (fun w h Y => PySem.W.kIn_of Y) ?F (fun _ _ a ns _ _ hS => DL.law_sp hS (K12.law_true ns)) (fun _ _ _ _ _ h => h)
  case F =>
    intro w mg fa h KX G hmg
    refine' K12.all_mk KX G hmg ?a0 ?l0 ?c0 ?k0 ?a1 ?l1 ?c1 ?k1 ?a2 ?l2 ?c2 ?k2 ?a3 ?l3 ?c3 ?k3 ?a4 ?l4 ?c4 ?k4 ?a5 ?l5 ?c5 ?k5 ?a6 ?l6 ?c6 ?k6 ?a7 ?l7 ?c7 ?k7 ?a8 ?l8 ?c8 ?k8 ?a9 ?l9 ?c9 ?k9 ?a10 ?l10 ?c10 ?k10 ?a11 ?l11 ?c11 ?k11 ?a12 ?l12 ?c12 ?k12 ?a13 ?l13 ?c13 ?k13 ?a14 ?l14 ?c14 ?k14 ?a15 ?l15 ?c15 ?k15 ?z_abs ?z_all ?z_enumerate ?z_int ?z_len ?z_list ?z_range ?z_repr ?z_set ?z_sorted ?z_tuple ?q_NOT_LOUD ?v_NOT_LOUD ?x_NOT_LOUD ?y_NOT_LOUD ?q_QUIET ?v_QUIET ?w_QUIET ?x_QUIET ?y_QUIET
    (case a0 => k_is)
    (case l0 => k_is)
    (case c0 => k_is)
    (case k0 => k_is)
    (case a1 => k_is)
    (case l1 => k_is)
    (case c1 => k_is)
    (case k1 => k_is)
    (case a2 => k_is)
    (case l2 => k_is)
    (case c2 => k_is)
    (case k2 => k_is)
    (case a3 => k_is)
    (case l3 => k_is)
    (case c3 => k_is)
    (case k3 => k_is)
    (case a4 => k_is)
    (case l4 => k_is)
    (case c4 => k_is)
    (case k4 => k_is)
    (case a5 => k_is)
    (case l5 => k_is)
    (case c5 => k_is)
    (case k5 => k_is)
    (case a6 => k_is)
    (case l6 => k_is)
    (case c6 => k_is)
    (case k6 => k_is)
    (case a7 => k_is)
    (case l7 => k_is)
    (case c7 => k_is)
    (case k7 => k_is)
    (case a8 => k_is)
    (case l8 => k_is)
    (case c8 => k_is)
    (case k8 => k_is)
    (case a9 => k_is)
    (case l9 => k_is)
    (case c9 => k_is)
    (case k9 => k_is)
    (case a10 => k_is)
    (case l10 => k_is)
    (case c10 => k_is)
    (case k10 => k_is)
    (case a11 => k_is)
    (case l11 => k_is)
    (case c11 => k_is)
    (case k11 => k_is)
    (case a12 => k_is)
    (case l12 => k_is)
    (case c12 => k_is)
    (case k12 => k_is)
    (case a13 => k_is)
    (case l13 => k_is)
    (case c13 => k_is)
    (case k13 => k_is)
    (case a14 => k_is)
    (case l14 => k_is)
    (case c14 => k_is)
    (case k14 => k_is)
    (case a15 => k_is)
    (case l15 => k_is)
    (case c15 => k_is)
    (case k15 => k_is)
    (case z_abs => k_is)
    (case z_all => k_is)
    (case z_enumerate => k_is)
    (case z_int => k_is)
    (case z_len => k_is)
    (case z_list => k_is)
    (case z_range => k_is)
    (case z_repr => k_is)
    (case z_set => k_is)
    (case z_sorted => k_is)
    (case z_tuple => k_is)
    (case q_NOT_LOUD => k_is)
    (case v_NOT_LOUD => k_is)
    (case q_QUIET => k_is)
    (case v_QUIET => k_is)
    (case x_NOT_LOUD => decide)
    (case y_NOT_LOUD => rfl)
    (case w_QUIET => rfl)
    (case x_QUIET => rfl)
    (case y_QUIET => exact ⟨⟨_, _, rfl, rfl⟩, ⟨⟨_, _, rfl, rfl⟩, trivial⟩⟩)
