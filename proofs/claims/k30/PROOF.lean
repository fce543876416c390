import PyProof.Rows.All
import KE.RegKSuper
import KE.OsRunLaw
import PySem.Challenge.RW_smallcount_k30_counters_told
import HandS.ForMost
import HandS.Evl
import HandS.ForExc
import HandS.CallSlots
import HandS.Flow
import HandS.SetKeys
import HandS.More
import HandS.TupAny
import KE.GoesMore
import KE.GoesEnum
import HandS.IsInst
import HandS.Dict
import HandS.Iter
import HandS.WordsDict
import HandS.Zip
import PyProof.Rows.TupDisplay
import KE.KDictDisplayH
import KE.KDictWalk
import HandS.Exc
import HandS.ExcSuper
import KE.KExcSuper
import KE.KExcIs
import HandS.ExcField
import HandS.ExcIs
import PyProof.ReprRoads
import HandS.DictEq
import HandS.SortInts
import HandS.Conv
import KE.DatumOrd
import KE.SortData
import HandS.Style
import HandS.ListItems
import HandS.Codes
import PyProof.DictUpdate
import PyProof.InstNe
import HandS.Star
import HandS.Property
import HandS.Small
import PyProof.AssignAttr
import HandS.Set
import HandS.SetFor
import PyProof.Rows.SortShellAny
import HandS.SetBool
import HandS.DictComp
import KE.KDictZip
import PyProof.NeKinds
import PyProof.StrOps2
import HandS.Defaults
import HandS.ExcOwn
import OpenK.KOwn
import HandS.TupMul
import HandS.Text
import KE.KEqDict
import PyProof.SeqRoads2
import KE.KStar
import KE.KDictSum
import HandS.SortKw
import KE.SortKeyHeap
import HandS.MethStar
import HandS.Deep
import KE.KDictCopyH
import KE.KSortKey
import HandS.Wide
import PyProof.EqKinds
import OpenK.KWalk
import PyProof.MeetsDictList
import HandS.HotCalls
import KE.KRevSl
import KE.DatumMoreOrd
import KE.DatumMore
set_option Elab.async false
set_option linter.all false
set_option autoImplicit false
set_option maxRecDepth 100000
namespace K30HD
open PySem PySem.W PySem.Calls PyProof.Rows
noncomputable def seenP:Program:=view PySem.Challenge.pw_smallcount_k30_counters_told [23]
def rest0:List PySem.Str:=["CountError","Wrong","NoMark","MOST_MARKS","is_integer","is_number","is_mark","are_marks","Counter","_law_bag","_law_take","_law_alike","_law_mixed","_law_sticking","_law_counter","_law_near_counter","_law_handed","_law_heard","_law_right"]
def restN:List PySem.Str:=rest0
set_option hygiene false in
local macro_rules | `(tactic| o_headL $H:term) => `(tactic| ((refine PySem.W.holds_open (q := seenP) (loose := restN) (Xt := fun s => PySem.W.xlAt seenP [] s && PySem.W.recOk [] s) (XP := PySem.W.XL seenP []) (Yf := PySem.W.Hook.obs $H) (Ya := PySem.W.Hook.val $H) (YP := PySem.W.Hook.says $H) (N := 40000) ?hl (PySem.W.Hook.of $H) (PySem.W.Hook.keeps $H) (fun s e => PySem.W.xl_of s (Bool.and_eq_true_iff.mp e).1) PySem.W.XL.keeps (by rfl) (by rfl) (by rfl) (fun s e => PySem.W.recFacts_of (Bool.and_eq_true_iff.mp e).2) (by rfl) (by first | assumption | decide +kernel) (by decide +kernel) ⟨rfl, rfl, rfl, rfl, rfl, by decide +kernel⟩ ?hw ?hc); (case hl => refine HeadRun.left_oneK (M := 40000) (by kernel_rfl) (by rfl) (fun s => by kernel_rfl) (by rfl) ?_; intro w os; kernel_rfl)))
local macro_rules | `(tactic| k_head) => `(tactic| k_headL)
set_option maxHeartbeats 0 in
open_top hd for PySem.Challenge.rw_smallcount_k30_counters_told
end K30HD
namespace DL
open PySem PySem.Spec PyProof.Rows L2
structure FnG (P:Program)(w:World)(K:PySem.W.Frag)(mg:Str→Option Value)(base:Heap)(cx:CXT)
  (k:Nat) (f:Addr) (fd:FuncData) (ps:List Str) (sp:Sp):Prop where
 len:∀ vs H Q E,sp vs H Q E→vs.length=ps.length
 run:∀ (A:Around) (out:List Env) (s:Shared) (H:Hp) (args:Args) (us:List Value) (vs:List V) (Q:VK) (E:XK),
  Room k A→A.guards=some []→Env0 P w K mg base A out s H→BindsTo s fd args (ps.zip us)→Vals vs us →
  sp vs H Q E→codeAny (model P w) A (.call (.ref f) args) (CR cx out P w H s Q E) s
theorem FnG.mono {P:Program}{w:World}{K:PySem.W.Frag}{mg:Str→Option Value}{base:Heap}{cx:CXT}
  {j k:Nat} {f:Addr} {fd:FuncData} {ps:List Str} {sp:Sp} (F:FnG P w K mg base cx j f fd ps sp) (h:j≤k) :
  FnG P w K mg base cx k f fd ps sp :=
 ⟨F.len,fun A o s H a us vs Q E hr=>F.run A o s H a us vs Q E (hr.mono h)⟩
theorem fnG_of {cx:CXT}{P:Program}{w:World}{K:PySem.W.Frag}{mg:Str→Option Value}{base:Heap}{k:Nat}
  {f:Addr} {name qual:Str} {params:Arguments} {body:List Stmt} {sc:Scope} {dV kV doc pm cdv ct oc:Value}
  {an od:Option Addr} {osl:Array (Option Value)} {N ps:List Str} {sp:Sp}
  (lk:K.lookup f=some ⟨oc,od,.func (PySem.W.fnOf name qual params body sc dV kV doc pm an cdv ct),osl⟩)
  (hcd:PySem.W.codeIn K cdv qual=true) (S:FnScope N ps sc)
  (len:∀ vs H Q E,sp vs H Q E→vs.length=ps.length)
  (hb:∀ (A:Around) (out:List Env) (s:Shared) (H:Hp) (vs:List V) (Q:VK) (E:XK),
   Room k (A.deeper (envOfC qual sc s.heap.objs.size f cdv))→A.guards=some []→sp vs H Q E →
   ∃ t,PSs (cxOf cx P w K mg base N qual sc f cdv A out s H E) body t ∧
    t { nx:=fun _ H'=>Q .non H',rt:=Q } (start N vs) H) :
  FnG P w K mg base cx (k+1) f (PySem.W.fnOf name qual params body sc dV kV doc pm an cdv ct) ps sp:=by
 refine⟨len,fun A out s H args us vs Q E hr hg e0 bd r hsp=>?_⟩
 have hl:=len _ _ _ _ hsp
 have stay:∀ b o,base.get? b=some o→s.heap.get? b=some o:=fun b o e=>(e0.bs b o e).1
 have KX:K.In s.heap:=e0.mod.kin.keeps stay
 have kinds:∀ y∈ps.zip us,sc.names.lookup y.1=some .local ∨
   (sc.names.lookup y.1=some .cell∧((cellsFrom (s.heap.objs.size+1) sc.names []).lookup y.1).isSome=true):=by
  rintro ⟨n,v⟩ hy
  refine(S.par n (List.of_mem_zip hy).1).imp id fun q=>⟨q,?_⟩
  exact PySem.W.cellsFrom_some _ _ _ (.inl q)
 refine codeAny_call_function hr.depth (KX _ _ lk) rfl S.co S.gen rfl (PySem.W.codeRec_of KX hcd) (bd _ _ _ _ ?_)
 refine wpAny_newFunctionEnv_cells S.kind kinds fun env he s1 x=>?_
 subst he
 refine⟨(e0.mod.nolimit.keeps stay).keeps x.toInCall.keep,codeAny_func ?_⟩
 obtain⟨t,ht,hq⟩:=hb A out s H vs Q E (hr.deeper _) hg hsp
 have I:=inv_start (cd:=cdv) (qual:=qual) (f:=f) (CX:=cx) (E:=E) S hr.hd e0 hl r x
 refine wpAny_mono (ht.run [] s1 (start N vs) H _ I hq) (fun fl s' hs=>?_) fun e s' hs=>hs
 match fl,hs with
 | .ret u,⟨v,_,H',J,rv,q⟩=>exact⟨v,H',J.os,J.bare,J.base,J.hok,rv,q⟩
 | .next,⟨_,H',J,q⟩=>exact⟨V.non,H',J.os,J.bare,J.base,J.hok,rfl,q⟩
 | .brk,⟨_,_,_,q⟩=>exact False.elim q
 | .cont,⟨_,_,_,q⟩=>exact False.elim q
section
variable {X:Cx}{cx:CXT}{k:Nat}{f:Addr}{fd:FuncData}{ps:List Str}{sp:Sp}{dvs:List V}{ds:List Value}
 {E:L2.St→XK} {x:Str} {p pos:Pos} {e:Expr} {es:List Expr} {t:TA}
theorem run_fnG {pins:List (Addr×Obj)}{σ:L2.St}{H:Hp}{s:Shared}{Q:VK}{us:List Value}{vs:List V}
  (F:FnG X.prog X.w X.K X.mg X.base cx k f fd ps sp) (hr:Room k X.A) (hgd:X.A.guards=some [])
  (hb:Binds X.K fd ps ds) (hd:Vals dvs ds) (hx:PassesAt cx X σ (E σ)) (I:Inv X pins σ H s) (r:Vals vs us)
  (h:sp (vs++dvs) H Q (E σ)):wpAny (model X.prog X.w) X.A (call (.ref f) us) (EP X pins σ Q) X.xe s:=by
 have r2:Vals (vs++dvs) (us++ds):=r.append hd
 have hl:(us++ds).length=ps.length:=r2.length▸F.len _ _ _ _ h
 have run:=F.run X.A X.stack s H ⟨us,[]⟩ (us++ds) (vs++dvs) Q (E σ) hr hgd I.env0 (hb s us I.kIn hl) r2 h
 refine wpAny_call (codeAny_mono run fun z s' hq=>?_)
 match z,hq with
 | .error e,hq=>exact hx pins H s e s' I hq
 | .ok (.ret u),hq=>exact I.after hq
 | .ok .next,hq=>exact hq.elim
 | .ok .brk,hq=>exact hq.elim
 | .ok .cont,hq=>exact hq.elim
theorem pe_callG (F:FnG X.prog X.w X.K X.mg X.base cx k f fd ps sp)(hr:Room k X.A)(hgd:X.A.guards=some [])
  (hg:Gl X x) (hm:X.mg x=some (.ref f)) (hk:PySem.W.keepIn X.K (.ref f)=true) (hb:Binds X.K fd ps ds)
  (hd:Vals dvs ds) (hx:∀ σ,PassesAt cx X σ (E σ)) (ha:PA X (e::es) t)
  (hdb:(x==("__debug__":Str))=false:=by decide)
  (he:starEach (e::es) X.env=(false,eval e X.env)::starEach es X.env:=by rfl)
  (hpl:(backTo pos (starEach es X.env)).any (·.1)=false:=by rfl) :
  PE X (.Call (.Name x p) (e::es) [] pos) (tCallSD sp dvs E t):=by
 refine⟨fun pins s σ H Q I h=>wpAny_Call_Name_kw (ld_glob I hg hm ?_ hdb)⟩
 refine PySem.W.callWith_K (h₀:=X.base) I.ok.mod.kin hk (thn (ha.run pos pins s σ H _ I h) ?_) he hpl
 rintro us s1 ⟨vs,H1,I1,r,q⟩
 exact⟨I1.kIn,run_fnG F hr hgd hb hd (hx σ) I1 r q⟩
end
theorem law_callG {P:Program}{w:World}{K:PySem.W.Frag}{mg mb:Str→Option Value}{cx:CXT}{k:Nat}
  {fa a:Addr} {fd:FuncData} {x:Str} {sp:Sp} {s₁:Shared} {vs:List Value} {ns:List Int}
  (KX:K.In s₁.heap) (hns:s₁.heap.Ns mainGlobals mg) (hb:s₁.heap.Ns builtinsNs mb)
  (hbb:∀ x:Str,x≠"__name__"→mb x=bootBuiltins x) (hlim:s₁.heap.NoLimit) (hg:s₁.gens=#[])
  (ha:s₁.heap.get? a=some { cls:=.type "list",data:=.seq vs.toArray }) (hi:IntsAre vs ns)
  (hl:ns.length≤sizeLine) (hr:Room k callerA)
  (F:∀ base:Heap,K.In base→base.Ns mainGlobals mg→FnG P w K mg base cx k fa fd [x] sp)
  (hbind:∀ (s:Shared) (u:Value),BindsTo s fd ⟨[u],[]⟩ [(x,u)])
  (hsp:∀ H:Hp,Only H→SqL K H a (ns.map V.int)→sp [.ref a] H (fun v _=>v=.bl true) fun _ _ _=>False)
  (hcx:∀ H e s',cx [] H s₁ (fun _ _ _=>False) e s'→False) :
  codeAny (model P w) callerA (.call (.ref fa) ⟨[.ref a],[]⟩)
   (fun r s'=>r=.ok (.ret (.bool true))∧OldK s₁.heap s'.heap∧s'.os=s₁.os∧AllBare s'.gens) s₁:=by
 have rv:=vals_ints hi
 have main:∀ H:Hp,Only H→SqL K H a (ns.map V.int)→HOk P w H s₁.heap→(∀ b,H b≠none→b=a) →
   (H a≠none→K.lookup a=none)→codeAny (model P w) callerA (.call (.ref fa) ⟨[.ref a],[]⟩)
   (fun r s'=>r=.ok (.ret (.bool true))∧OldK s₁.heap s'.heap∧s'.os=s₁.os∧AllBare s'.gens) s₁:=by
  intro H hO hS hok hA hK
  have onlyA:∀ {b:Addr} {u:HO},H b=some u→b=a:=fun {b u} q=>hA b (by rw[q];exact fun z=>nomatch z)
  have dictFree:∀ {b:Addr} {o:Obj} {es:Array DictEntry} {ep:Nat},
    s₁.heap.get? b=some o→o.data=.dict es ep→H b=none:=by
   intro b o es ep e d
   match q:H b with
   | none=>rfl
   | some u =>
    obtain rfl:=onlyA q
    rw[ha] at e
    obtain rfl:=Option.some.inj e
    exact nomatch (show Data.seq vs.toArray _=Data.dict es ep from d)
  have ns':∀ {b:Addr} {m:Str→Option Value},s₁.heap.Ns b m→(hidT s₁.heap H).Ns b m :=
   fun⟨o,es,ep,e,d,r⟩=>⟨o,es,ep,hidT_get e (dictFree e d),d,r⟩
  have kb:K.In (hidT s₁.heap H):=fun b o e=>hidT_get (KX b o e) (by
   match q:H b with
   | none=>rfl
   | some u =>
    obtain rfl:=onlyA q
    rw[hK (by rw[q];exact fun z=>nomatch z)] at e
    exact nomatch e)
  have md:Mod K mg (hidT s₁.heap H):=⟨kb,ns' hns,⟨mb,ns' hb,hbb⟩,by
   obtain⟨mc,h1,h2⟩:=hlim
   exact⟨mc,ns' h1,h2⟩⟩
  have nofr:∀ b:Addr,b∉frs []:=fun b z=>nomatch (show b∈([]:List Addr) from z)
  have e0:Env0 P w K mg (hidT s₁.heap H) callerA [] s₁ H :=
   ⟨rfl,md,fun b o e=>of_hidT e,Nat.le_of_eq (hidT_size _ _),trivial,fun b hb=>absurd hb (nofr b),hok,.of_eq hg⟩
  have run:=(F _ kb (ns' hns)).run callerA [] s₁ H ⟨[.ref a],[]⟩ [.ref a] [.ref a] _ _ hr rfl e0
   (hbind s₁ (.ref a)) (.cons rfl .nil) (hsp H hO hS)
  refine codeAny_mono run fun r s' h=>?_
  match r,h with
  | .error e,h=>exact(hcx H e s' h).elim
  | .ok .next,h=>exact h.elim
  | .ok .brk,h=>exact h.elim
  | .ok .cont,h=>exact h.elim
  | .ok (.ret u),⟨v,H',os,bare,un,hok',r',q⟩ =>
   obtain rfl:v=.bl true:=q
   obtain rfl:u=Value.bool true:=r'
   refine⟨rfl,OldK.of_keep fun b o e=>?_,os,bare⟩
   match q:H b with
   | none=>exact un.keep b o e q (nofr b) (fun z=>nomatch z)
   | some u =>
    match hO b with
    | .inl z=>rw[q] at z;exact nomatch z
    | .inr ⟨ob,xs,z⟩ =>
     have e1:=(hok b _ z).1
     rw[e] at e1
     obtain rfl:=Option.some.inj e1
     exact(hok' b _ (un.frzs b _ _ z)).1
 match hk:K.lookup a with
 | some o =>
  have e:=KX a o hk
  rw[ha] at e
  obtain rfl:=Option.some.inj e
  have hz:vs.toArray.size≤sizeLine:=by rw[List.size_toArray,hi.length];exact hl
  refine main (fun _=>none) (fun _=>.inl rfl) (.inr ⟨_,vs.toArray,_,hk,rfl,rfl,rfl,hz,by simpa using rv⟩) ?_ ?_ ?_
  ·exact fun b u z=>nomatch (show(none:Option HO)=some u from z)
  ·exact fun b z=>absurd rfl z
  ·exact fun z=>absurd rfl z
 | none =>
  let so:Obj:={ cls:=.type "list",data:=.seq vs.toArray }
  refine main (fun b=>if b=a then some (.frz so (.lst (ns.map V.int))) else none) (fun b=>?_)
   (.inl (.inr ⟨so,if_pos rfl⟩)) (fun b u z=>?_) (fun b z=>Classical.byContradiction fun hb=>z (if_neg hb)) fun _=>hk
  ·by_cases hb:b=a
   ·exact .inr ⟨_,_,if_pos hb⟩
   ·exact .inl (if_neg hb)
  ·by_cases hb:b=a
   ·have z':=(if_pos hb).symm.trans z
    obtain rfl:=Option.some.inj z'
    subst hb
    exact⟨ha,by rw[List.length_map];exact hl,vs,_,rv,ha⟩
   ·exact nomatch (if_neg hb).symm.trans z
theorem walk_ofG {l:PySem.W.OpenLaw}{n k:Nat}{q:Program}{loose:List Str}{XP:(Str→Option Value)→Heap→Prop}
  {YP:World→Heap→Prop} {d:DefRec} {K:Params→PySem.W.Frag} {cx:World→CXT} {sp:World→Sp} {x:Str}
  (hn:l.most=some n) (hn2:n≤sizeLine) (hdf:d.params.defaults=[]) (hr:Room k callerA)
  (hY:∀ (w:World) (h:Heap),YP w h→(K w.params).In h)
  (F:∀ (w:World) (mg:Str→Option Value) (fa:Addr) (h:Heap),(K w.params).In h→h.Ns mainGlobals mg →
   mg d.name=some (.ref fa)→∃ fd:FuncData,(∀ (s:Shared) (u:Value),BindsTo s fd ⟨[u],[]⟩ [(x,u)]) ∧
    ∀ base:Heap,(K w.params).In base→base.Ns mainGlobals mg →
     FnG l.prog w (K w.params) mg base (cx w) k fa fd [x] (sp w))
  (hsp:∀ (w:World) (H:Hp) (a:Addr) (ns:List Int),ns.length≤n→Only H →
   SqL (K w.params) H a (ns.map V.int)→sp w [.ref a] H (fun v _=>v=.bl true) fun _ _ _=>False)
  (hcx:∀ (w:World) (H:Hp) (s:Shared) (e:Value) (s':Shared),cx w [] H s (fun _ _ _=>False) e s'→False) :
  PySem.W.WalkO q loose XP YP l.row.toRowW d [] (fun f vs=>PySem.call f vs):=by
 refine Att.attach_call hn hdf fun w s₀ s₁ mg mb fa o pm cd doc a vs ns G Y ho hd hcd hmg hobj hints hlen hg=>?_
 obtain⟨fd,hb,hF⟩:=F w mg fa _ (hY w _ Y) G.T.g hmg
 exact law_callG (hY w _ Y) G.T.g G.T.b G.T.builtins G.T.nolimit hg hobj hints (Nat.le_trans hlen hn2) hr hF hb
  (fun H hO hS=>hsp w H a ns hlen hO hS) fun H e s'=>hcx w H s₁ e s'
abbrev Slots:=L2.St
def Ex (H H':Hp):Prop:=∀ a o,H a=some o→H' a=some o
theorem Ex.refl (H:Hp):Ex H H:=fun _ _ h=>h
theorem Ex.trans {H H1 H2:Hp}(a:Ex H H1)(b:Ex H1 H2):Ex H H2:=fun x o h=>b x o (a x o h)
theorem Ex.new {H:Hp}{p:Addr}{o:HO}(h:H p=none):Ex H (upd H p o):=fun a u e=>by
 rw[upd_ne (ne_of_none e h)];exact e
theorem ex_l {K:PySem.W.Frag}{H H':Hp}{a:Addr}{xs:List V}(e:Ex H H')(h:SqL K H a xs):SqL K H' a xs:=by
 rcases h with (h|⟨o,h⟩)|h
 ·exact .inl (.inl (e _ _ h))
 ·exact .inl (.inr ⟨o,e _ _ h⟩)
 ·exact .inr h
theorem ex_t {K:PySem.W.Frag}{H H':Hp}{a:Addr}{xs:List V}(e:Ex H H')(h:SqT K H a xs):SqT K H' a xs:=by
 rcases h with (h|⟨o,h⟩)|h
 ·exact .inl (.inl (e _ _ h))
 ·exact .inl (.inr ⟨o,e _ _ h⟩)
 ·exact .inr h
inductive Ky where
 | k (x:Key)|t (xs:List Key)
deriving DecidableEq
def entI (x:List Int×Addr×Value):DictEntry:=⟨reduceHash (Builtin.Tuple.tupleHashOf (x.1.map hashInt)),.ref x.2.1,x.2.2⟩
def TX (a:Addr)(es:Array DictEntry):HO:=.ext fun h=>∃ o ep,h.get? a=some o∧o.ExactDict∧o.data=.dict es ep
def DctIs (K:PySem.W.Frag)(G:Hp)(a:Addr)(o:HO)(ks:List Ky)(vs:List V):Prop :=
 (∃ kvs:List (Key×V),o=.dK kvs∧ks=kvs.map (fun p=>Ky.k p.1)∧vs=kvs.map (·.2)) ∨
 ∃ (es:Array DictEntry) (xs:List (List Int×Addr×Value)),xs≠[]∧o=TX a es∧es.toList=xs.map entI∧(xs.map (·.1)).Nodup∧(a==sysModules)=false∧xs.length≤sizeLine ∧
  ks=xs.map (fun p=>Ky.t (p.1.map Sum.inl))∧Vals vs (xs.map (·.2.2))∧∀ x∈xs,SqT K G x.2.1 (x.1.map V.int)
theorem DctIs.map {K:PySem.W.Frag}{G G':Hp}{a:Addr}{o:HO}{ks:List Ky}{vs:List V}(e:∀ b xs,SqT K G b xs→SqT K G' b xs)(h:DctIs K G a o ks vs):DctIs K G' a o ks vs:=by
 rcases h with h|⟨es,xs,h0,h1,h2,h3,h4,h5,h6,h7,h8⟩
 ·exact .inl h
 ·exact .inr ⟨es,xs,h0,h1,h2,h3,h4,h5,h6,h7,fun x hx=>e _ _ (h8 x hx)⟩
theorem DctIs.mono {K:PySem.W.Frag}{G G':Hp}{a:Addr}{o:HO}{ks:List Ky}{vs:List V}(e:Ex G G')(h:DctIs K G a o ks vs):DctIs K G' a o ks vs:=by
 rcases h with h|⟨es,xs,h0,h1,h2,h3,h4,h5,h6,h7,h8⟩
 ·exact .inl h
 ·exact .inr ⟨es,xs,h0,h1,h2,h3,h4,h5,h6,h7,fun x hx=>ex_t e (h8 x hx)⟩
def LkIs (K:PySem.W.Frag)(G:Hp)(a:Addr)(o:HO)(ks:List Ky)(vs:List V):Prop:=∃ od u,o=.frz od u∧DctIs K G a u ks vs
theorem LkIs.map {K:PySem.W.Frag}{G G':Hp}{a:Addr}{o:HO}{ks:List Ky}{vs:List V}(e:∀ b xs,SqT K G b xs→SqT K G' b xs)(h:LkIs K G a o ks vs):LkIs K G' a o ks vs :=
 let ⟨od,u,h1,h2⟩:=h;⟨od,u,h1,h2.map e⟩
theorem LkIs.mono {K:PySem.W.Frag}{G G':Hp}{a:Addr}{o:HO}{ks:List Ky}{vs:List V}(e:Ex G G')(h:LkIs K G a o ks vs):LkIs K G' a o ks vs :=
 let ⟨od,u,h1,h2⟩:=h;⟨od,u,h1,h2.mono e⟩
def ClsAt (K:PySem.W.Frag)(nm:Str)(C:Addr):Prop:=PySem.W.nsIn K mainGlobals nm=some (some (.ref C))
inductive D where
 | non|bl (b:Bool)|int (i:Int)|str (s:Str)|ty (n:String)|ref (a:Addr)
 | tup (xs:List D)|lst (xs:List D)|fro (xs:List D)|dct (kvs:List (Ky×D))|ins (nm:Str) (fs:List (Str×D))|err (a C d:Addr) (nm:Str) (fs:List (Str×D))
inductive DV where
 | dat (d:D)|loc (n:Nat)
inductive Pl where
 | lst (xs:List DV)|dct (kvs:List (Ky×DV))|lkd (kvs:List (Ky×DV))|lkl (xs:List DV)|tp (xs:List DV)|own|ins (nm:Str) (fs:List (Str×DV))|gone
inductive R where
 | dat (d:D)|loc (n:Nat)|nl (xs:List DV)|nk (kvs:List (Ky×DV))
abbrev Mem:=List Pl
abbrev Env:=List (Option DV)
abbrev Pm:=Nat→Option Addr
structure Xc where
 nm:Str
 fs:List (Str×D)
inductive Res (α:Type) where
 | ok (a:α) (μ:Mem)|exc (x:Xc) (μ:Mem)|bad
def Res.bind {α β:Type}(r:Res α)(k:α→Mem→Res β):Res β:=match r with
 | .ok a μ=>k a μ
 | .exc x μ=>.exc x μ
 | .bad=>.bad
@[simp] theorem Res.bind_ok {α β:Type}(a:α)(μ:Mem)(k:α→Mem→Res β):(Res.ok a μ).bind k=k a μ:=rfl
@[simp] theorem Res.bind_exc {α β:Type}(x:Xc)(μ:Mem)(k:α→Mem→Res β):(Res.exc x μ).bind k=.exc x μ:=rfl
@[simp] theorem Res.bind_bad {α β:Type}(k:α→Mem→Res β):(Res.bad).bind k=.bad:=rfl
mutual
inductive Rp (K:PySem.W.Frag) (G:Hp):V→D→Prop
 | non:Rp K G .non .non
 | bl (b):Rp K G (.bl b) (.bl b)
 | int (i):Rp K G (.int i) (.int i)
 | str (s):Rp K G (.str s) (.str s)
 | ty (n):Rp K G (.ty n) (.ty n)
 | ref (a):Rp K G (.ref a) (.ref a)
 | tup {a vs ds}:SqT K G a vs→RpL K G vs ds→Rp K G (.ref a) (.tup ds)
 | lst {a vs ds}:G a=some (.lst vs)→RpL K G vs ds→Rp K G (.ref a) (.lst ds)
 | fro {a vs ds}:SqL K G a vs→RpL K G vs ds→Rp K G (.ref a) (.fro ds)
 | dct {a o u vs} {ds:List (Ky×D)}:G a=some (.frz o u)→DctIs K G a u (ds.map (·.1)) vs →
   RpL K G vs (ds.map (·.2))→Rp K G (.ref a) (.dct ds)
 | ins {a dx C nm} {vs:List (Str×V)} {ds:List (Str×D)}:ClsAt K nm C→G a=some (.ins C dx vs)→G dx=some (.own a) →
   vs.map (·.1)=ds.map (·.1)→RpL K G (vs.map (·.2)) (ds.map (·.2))→Rp K G (.ref a) (.ins nm ds)
 | er0 {a C d nm}:ClsAt K nm C→Rp K G (.ref a) (.err a C d nm [])
 | err {a C d nm} {vs:List (Str×V)} {ds:List (Str×D)}:ClsAt K nm C→G d=some (.xd vs)→vs.map (·.1)=ds.map (·.1)→RpL K G (vs.map (·.2)) (ds.map (·.2))→Rp K G (.ref a) (.err a C d nm ds)
inductive RpL (K:PySem.W.Frag) (G:Hp):List V→List D→Prop
 | nil:RpL K G [] []
 | cons {v vs d ds}:Rp K G v d→RpL K G vs ds→RpL K G (v::vs) (d::ds)
end
section
variable {K:PySem.W.Frag}{G G' H H':Hp}{ρ ρ':Pm}
mutual
theorem Rp.mono (e:Ex G G'):∀ {v:V} {d:D},Rp K G v d→Rp K G' v d
 | _,_,.non=>.non
 | _,_,.bl b=>.bl b
 | _,_,.int i=>.int i
 | _,_,.str s=>.str s
 | _,_,.ty n=>.ty n
 | _,_,.ref a=>.ref a
 | _,_,.tup h r=>.tup (ex_t e h) (RpL.mono e r)
 | _,_,.lst h r=>.lst (e _ _ h) (RpL.mono e r)
 | _,_,.fro h r=>.fro (ex_l e h) (RpL.mono e r)
 | _,_,.dct h k r=>.dct (e _ _ h) (k.mono e) (RpL.mono e r)
 | _,_,.ins c h o k r=>.ins c (e _ _ h) (e _ _ o) k (RpL.mono e r)
 | _,_,.er0 c=>.er0 c
 | _,_,.err c h k r=>.err c (e _ _ h) k (RpL.mono e r)
theorem RpL.mono (e:Ex G G'):∀ {vs:List V} {ds:List D},RpL K G vs ds→RpL K G' vs ds
 | _,_,.nil=>.nil
 | _,_,.cons a b=>.cons (Rp.mono e a) (RpL.mono e b)
end
theorem RpL.length:∀ {vs:List V} {ds:List D},RpL K G vs ds→vs.length=ds.length
 | _,_,.nil=>rfl
 | _,_,.cons _ b=>congrArg (·+1) (RpL.length b)
theorem RpL.get:∀ {vs:List V} {ds:List D} {i:Nat} {v:V},RpL K G vs ds→vs[i]?=some v→∃ d,ds[i]?=some d∧Rp K G v d
 | _,_,_,_,.nil,h=>by simp at h
 | _,_,0,_,.cons a _,h=>by cases h;exact⟨_,rfl,a⟩
 | _,_,i+1,v,.cons _ b,h=>RpL.get (i:=i) b h
theorem RpL.get':∀ {vs:List V} {ds:List D} {i:Nat} {d:D},RpL K G vs ds→ds[i]?=some d→∃ v,vs[i]?=some v∧Rp K G v d
 | _,_,_,_,.nil,h=>by simp at h
 | _,_,0,_,.cons a _,h=>by cases h;exact⟨_,rfl,a⟩
 | _,_,i+1,v,.cons _ b,h=>RpL.get' (i:=i) b h
theorem RpL.take:∀ {vs:List V} {ds:List D} (n:Nat),RpL K G vs ds→RpL K G (vs.take n) (ds.take n)
 | _,_,0,_=>.nil
 | _,_,_+1,.nil=>.nil
 | _,_,n+1,.cons a b=>.cons a (RpL.take n b)
theorem RpL.drop:∀ {vs:List V} {ds:List D} (n:Nat),RpL K G vs ds→RpL K G (vs.drop n) (ds.drop n)
 | _,_,0,r=>r
 | _,_,_+1,.nil=>.nil
 | _,_,n+1,.cons _ b=>RpL.drop n b
theorem RpL.append:∀ {vs ws:List V} {ds es:List D},RpL K G vs ds→RpL K G ws es→RpL K G (vs++ws) (ds++es)
 | _,_,_,_,.nil,r=>r
 | _,_,_,_,.cons a b,r=>.cons a (RpL.append b r)
def DvOk (K:PySem.W.Frag)(ρ:Pm)(G:Hp)(v:V):DV→Prop
 | .dat d=>Rp K G v d
 | .loc n=>∃ a,v=.ref a∧ρ n=some a
abbrev DvL (K:PySem.W.Frag)(ρ:Pm)(G:Hp):List V→List DV→Prop:=Paired (DvOk K ρ G)
def DV.below (n:Nat):DV→Prop
 | .dat _=>True
 | .loc m=>m<n
theorem DvOk.mono (e:Ex G G')(hρ:∀ n a,ρ n=some a→ρ' n=some a){v:V}:∀ {x:DV},DvOk K ρ G v x→DvOk K ρ' G' v x
 | .dat _,h=>Rp.mono e h
 | .loc _,⟨a,h,q⟩=>⟨a,h,hρ _ _ q⟩
theorem DvL.mono (e:Ex G G')(hρ:∀ n a,ρ n=some a→ρ' n=some a){vs:List V}{xs:List DV}(h:DvL K ρ G vs xs):DvL K ρ' G' vs xs :=
 Paired.mapP h fun _ _ q=>q.mono e hρ
def PlOk (K:PySem.W.Frag)(ρ:Pm)(G H:Hp)(n:Nat):Pl→Prop
 | .lst xs=>(∀ x∈xs,x.below n)∧∃ a vs,ρ n=some a∧H a=some (.lst vs)∧DvL K ρ G vs xs
 | .dct kvs=>(∀ p∈kvs,p.2.below n)∧∃ (a:Addr) (o:HO) (vs:List V),ρ n=some a∧H a=some o ∧
   DctIs K G a o (kvs.map (·.1)) vs∧DvL K ρ G vs (kvs.map (·.2))
 | .lkd kvs=>(∀ p∈kvs,p.2.below n)∧∃ (a:Addr) (o:HO) (vs:List V),ρ n=some a∧H a=some o ∧
   LkIs K G a o (kvs.map (·.1)) vs∧DvL K ρ G vs (kvs.map (·.2))
 | .lkl xs=>(∀ x∈xs,x.below n)∧∃ a od vs,ρ n=some a∧H a=some (.frz od (.lst vs))∧DvL K ρ G vs xs
 | .tp xs=>(∀ x∈xs,x.below n)∧∃ (a:Addr) (_:Unit) (vs:List V),ρ n=some a∧H a=some (.tup vs)∧DvL K ρ G vs xs
 | .own=>∃ a b,ρ n=some a∧H a=some (.own b)
 | .ins nm fs=>(∀ p∈fs,p.2.below n)∧∃ (a dx C:Addr) (vs:List (Str×V)) (m:Nat),(n=m+1∧ρ m=some dx)∧ρ n=some a∧H a=some (.ins C dx vs)∧ClsAt K nm C∧H dx=some (.own a) ∧
   vs.map (·.1)=fs.map (·.1)∧DvL K ρ G (vs.map (·.2)) (fs.map (·.2))
 | .gone=>ρ n=none
structure Rel (K:PySem.W.Frag)(ρ:Pm)(G H:Hp)(μ:Mem):Prop where
 ex:Ex G H
 inj:∀ m n a,ρ m=some a→ρ n=some a→m=n
 nG:∀ n a,ρ n=some a→G a=none
 lt:∀ n a,ρ n=some a→n<μ.length
 hs:∀ n a,ρ n=some a→H a≠none
 pl:∀ n p,μ[n]?=some p→PlOk K ρ G H n p
structure Tr (ρ:Pm)(G H G' H':Hp):Prop where
 exG:Ex G G'
 keep:∀ a o,(∀ n,ρ n≠some a)→H a=some o→H' a=some o
 th:∀ a,H' a=none→H a=none
 nG:∀ a,G' a≠none→G a≠none∨H a=none
 fz:∀ a od u,H a=some (.frz od u)→H' a=some (.frz od u)
theorem Tr.refl (ρ:Pm)(G H:Hp):Tr ρ G H G H:=⟨Ex.refl _,fun _ _ _ h=>h,fun _ h=>h,fun _ h=>.inl h,fun _ _ _ h=>h⟩
theorem Tr.trans {G1 H1 G2 H2:Hp}(a:Tr ρ G H G1 H1)(b:Tr ρ G1 H1 G2 H2):Tr ρ G H G2 H2 where
 exG:=a.exG.trans b.exG
 keep:=fun c o hc h=>b.keep c o hc (a.keep c o hc h)
 th:=fun c h=>a.th c (b.th c h)
 nG:=fun c h=>(b.nG c h).elim (a.nG c) fun q=>.inr (a.th c q)
 fz:=fun c od u h=>b.fz c od u (a.fz c od u h)
theorem Rel.pmono {G1:Hp}{μ:Mem}(r:Rel K ρ G H μ){n:Nat}{p:Pl}(h:PlOk K ρ G H n p)(e:Ex G G1):PlOk K ρ G1 H n p:=by
 cases p with
 | lst xs=>obtain⟨b,a,vs,h1,h2,h3⟩:=h;exact⟨b,a,vs,h1,h2,DvL.mono e (fun _ _ q=>q) h3⟩
 | dct kvs=>obtain⟨b,a,o,vs,h1,h2,h4,h3⟩:=h;exact⟨b,a,o,vs,h1,h2,h4.mono e,DvL.mono e (fun _ _ q=>q) h3⟩
 | lkd kvs=>obtain⟨b,a,o,vs,h1,h2,h4,h3⟩:=h;exact⟨b,a,o,vs,h1,h2,h4.mono e,DvL.mono e (fun _ _ q=>q) h3⟩
 | lkl xs=>obtain⟨b,a,o,vs,h1,h2,h3⟩:=h;exact⟨b,a,o,vs,h1,h2,DvL.mono e (fun _ _ q=>q) h3⟩
 | tp xs=>obtain⟨b,a,o,vs,h1,h2,h3⟩:=h;exact⟨b,a,o,vs,h1,h2,DvL.mono e (fun _ _ q=>q) h3⟩
 | own=>exact h
 | ins nm fs=>obtain⟨b,a,dx,C,vs,m,hm,h1,h2,c,h4,h5,h3⟩:=h;exact⟨b,a,dx,C,vs,m,hm,h1,h2,c,h4,h5,DvL.mono e (fun _ _ q=>q) h3⟩
 | gone=>exact h
theorem Rel.lay {μ:Mem}{p:Addr}{o:HO}(r:Rel K ρ G H μ)(hp:H p=none):Rel K ρ G (upd H p o) μ∧Tr ρ G H G (upd H p o):=by
 have nG:G p=none:=by
  cases q:G p with
  | none=>rfl
  | some u=>rw[r.ex _ _ q] at hp;cases hp
 have ne:∀ a u,H a=some u→a≠p:=fun a u h e=>by rw[e,hp] at h;cases h
 refine⟨⟨fun a u h=>?_,r.inj,r.nG,r.lt,fun n a h q=>?_,fun n q h=>?_⟩,⟨Ex.refl _,fun a u _ h=>?_,fun a h=>?_,fun a h=>.inl h,fun a od u h=>by rw[upd_ne (ne a _ h)];exact h⟩⟩
 ·rw[upd_ne (ne a u (r.ex a u h))];exact r.ex a u h
 ·have z:=r.hs n a h
  by_cases e:a=p
  ·rw[e] at z;exact z hp
  ·rw[upd_ne e] at q;exact z q
 ·have z:=r.pl n q h
  cases q with
  | lst xs=>obtain⟨b,a,vs,h1,h2,h3⟩:=z;exact⟨b,a,vs,h1,by rw[upd_ne (ne _ _ h2)];exact h2,h3⟩
  | dct kvs=>obtain⟨b,a,o,vs,h1,h2,h3⟩:=z;exact⟨b,a,o,vs,h1,by rw[upd_ne (ne _ _ h2)];exact h2,h3⟩
  | lkd kvs=>obtain⟨b,a,o,vs,h1,h2,h3⟩:=z;exact⟨b,a,o,vs,h1,by rw[upd_ne (ne _ _ h2)];exact h2,h3⟩
  | lkl xs=>obtain⟨b,a,o,vs,h1,h2,h3⟩:=z;exact⟨b,a,o,vs,h1,by rw[upd_ne (ne _ _ h2)];exact h2,h3⟩
  | tp xs=>obtain⟨b,a,o,vs,h1,h2,h3⟩:=z;exact⟨b,a,o,vs,h1,by rw[upd_ne (ne _ _ h2)];exact h2,h3⟩
  | own=>obtain⟨a,b,h1,h2⟩:=z;exact⟨a,b,h1,by rw[upd_ne (ne _ _ h2)];exact h2⟩
  | ins nm fs=>obtain⟨b,a,dx,C,vs,m,hm,h1,h2,c,h4,h3⟩:=z;exact⟨b,a,dx,C,vs,m,hm,h1,by rw[upd_ne (ne _ _ h2)];exact h2,c,by rw[upd_ne (ne _ _ h4)];exact h4,h3⟩
  | gone=>exact z
 ·rw[upd_ne (ne a u h)];exact h
 ·by_cases e:a=p
  ·rw[e];exact hp
  ·rw[upd_ne e] at h;exact h
theorem Rel.freeze {H0 G0:Hp}{μ:Mem}{p:Addr}{o:HO}(r:Rel K ρ G H μ)(t:Tr ρ G0 H0 G H)(h:H p=some o)(h0:H0 p=none)(hg:G p=none)(hn:∀ n,ρ n≠some p) :
  Rel K ρ (upd G p o) H μ∧Tr ρ G0 H0 (upd G p o) H∧Ex G (upd G p o):=by
 have ex:Ex G (upd G p o):=Ex.new hg
 refine⟨⟨fun a u q=>?_,r.inj,fun n a q=>?_,r.lt,r.hs,fun n q z=>r.pmono (r.pl n q z) ex⟩,⟨t.exG.trans ex,t.keep,t.th,fun a q=>?_,t.fz⟩,ex⟩
 ·by_cases e:a=p
  ·subst e;rw[upd_same] at q;cases q;exact h
  ·rw[upd_ne e] at q;exact r.ex a u q
 ·have e:a≠p:=fun e=>hn n (e▸q)
  rw[upd_ne e];exact r.nG n a q
 ·by_cases e:a=p
  ·subst e;exact .inr h0
  ·rw[upd_ne e] at q;exact t.nG a q
theorem Rel.layD {μ:Mem}{p:Addr}{o:HO}(r:Rel K ρ G H μ)(hp:H p=none):Rel K ρ (upd G p o) (upd H p o) μ∧Tr ρ G H (upd G p o) (upd H p o)∧Ex G (upd G p o):=by
 have nG:G p=none:=by
  cases q:G p with
  | none=>rfl
  | some u=>rw[r.ex _ _ q] at hp;cases hp
 obtain⟨r1,t1⟩:=r.lay (o:=o) hp
 exact r1.freeze t1 upd_same hp nG fun n q=>r.hs n p q hp
end
structure EnvOk (K:PySem.W.Frag)(ρ:Pm)(G:Hp)(σ:Slots)(δ:Env):Prop where
 len:σ.length=δ.length
 at_:∀ (i:Nat) (x:DV),δ[i]?=some (some x)→∃ v,σ[i]?=some (some v)∧DvOk K ρ G v x
def RpR (K:PySem.W.Frag)(ρ:Pm)(G H0 H:Hp)(v:V):R→Prop
 | .dat d=>Rp K G v d
 | .loc n=>∃ a,v=.ref a∧ρ n=some a
 | .nl xs=>∃ a vs,v=.ref a∧H a=some (.lst vs)∧DvL K ρ G vs xs∧G a=none∧(∀ n,ρ n≠some a)∧H0 a=none
 | .nk kvs=>∃ (a:Addr) (o:HO) (vs:List V),v=.ref a∧H a=some o∧DctIs K G a o (kvs.map (·.1)) vs ∧
   DvL K ρ G vs (kvs.map (·.2))∧G a=none∧(∀ n,ρ n≠some a)∧H0 a=none
def XcOk (K:PySem.W.Frag)(G H:Hp)(x:Xc)(cls:Value)(d:Option Addr):Prop :=
 (∃ C,ClsAt K x.nm C∧cls=.ref C)∧((x.fs=[]∧d=none)∨x.fs≠[]∧∃ (a:Addr) (vs:List (Str×V)),d=some a∧G a=some (.xd vs) ∧
  vs.map (·.1)=x.fs.map (·.1)∧RpL K G (vs.map (·.2)) (x.fs.map (·.2)))
def PostG {α β:Type}(K:PySem.W.Frag)(W:WX)(ρ:Pm)(G H:Hp)(σ:Slots)(rp:Hp→Hp→β→α→Prop)(Q:β→Hp→Prop):Res α→Prop
 | .ok r μ'=>∀ G' H' v,Tr ρ G H G' H'→Rel K ρ G' H' μ'→rp G' H' v r→Q v H'
 | .exc x μ'=>∀ G' H' cls d,Tr ρ G H G' H'→Rel K ρ G' H' μ'→XcOk K G' H' x cls d→W cls d σ H'
 | .bad=>False
def SndG {α β:Type}(K:PySem.W.Frag)(W:WX)(t:Slots→Hp→(β→Hp→Prop)→Prop)(f:Env→Mem→Res α)
  (rp:Pm→Hp→Hp→Hp→β→α→Prop):Prop :=
 ∀ (ρ:Pm) (G H:Hp) (σ:Slots) (δ:Env) (μ:Mem) (Q:β→Hp→Prop),Rel K ρ G H μ→EnvOk K ρ G σ δ →
  PostG K W ρ G H σ (fun G' H'=>rp ρ G' H H') Q (f δ μ)→t σ H Q
abbrev rpE (K:PySem.W.Frag):Pm→Hp→Hp→Hp→V→R→Prop:=fun ρ G' H H' v r=>RpR K ρ G' H H' v r
abbrev rpV (K:PySem.W.Frag):Pm→Hp→Hp→Hp→V→DV→Prop:=fun ρ G' _ _ v x=>DvOk K ρ G' v x
abbrev rpA (K:PySem.W.Frag):Pm→Hp→Hp→Hp→List V→List DV→Prop:=fun ρ G' _ _ v x=>DvL K ρ G' v x
abbrev rpT {α:Type}:Pm→Hp→Hp→Hp→α→α→Prop:=fun _ _ _ _ v x=>v=x
abbrev EM:=Env→Mem→Res R
abbrev VM:=Env→Mem→Res DV
abbrev AM:=Env→Mem→Res (List DV)
abbrev TM:=Env→Mem→Res Bool
abbrev SndE (K:PySem.W.Frag)(W:WX)(t:TE)(f:EM):Prop:=SndG K W t f (rpE K)
abbrev SndV (K:PySem.W.Frag)(W:WX)(t:TE)(f:VM):Prop:=SndG K W t f (rpV K)
abbrev SndA (K:PySem.W.Frag)(W:WX)(t:TA)(f:AM):Prop:=SndG K W t f (rpA K)
abbrev SndT (K:PySem.W.Frag)(W:WX)(t:TT)(f:TM):Prop:=SndG K W t f rpT
section
variable {K:PySem.W.Frag}{W:WX}{ρ:Pm}{G H G1 H1:Hp}{σ:Slots}{δ:Env}{μ:Mem}
theorem EnvOk.mono (e:EnvOk K ρ G σ δ)(x:Ex G G1):EnvOk K ρ G1 σ δ :=
 ⟨e.len,fun i d h=>let ⟨v,a,b⟩:=e.at_ i d h;⟨v,a,b.mono x fun _ _ q=>q⟩⟩
theorem RpR.back {G' H':Hp}{v:V}(h:∀ a,H1 a=none→H a=none):∀ {r:R},RpR K ρ G' H1 H' v r→RpR K ρ G' H H' v r
 | .dat _,q=>q
 | .loc _,q=>q
 | .nl _,⟨a,vs,h1,h2,h3,h4,h5,h6⟩=>⟨a,vs,h1,h2,h3,h4,h5,h a h6⟩
 | .nk _,⟨a,o,vs,h1,h2,h2',h3,h4,h5,h6⟩=>⟨a,o,vs,h1,h2,h2',h3,h4,h5,h a h6⟩
theorem PostG.shift {α β:Type}{rp rp1:Hp→Hp→β→α→Prop}{Q:β→Hp→Prop}{out:Res α}(t:Tr ρ G H G1 H1)
  (hr:∀ G' H' v r,rp1 G' H' v r→rp G' H' v r) (h:PostG K W ρ G H σ rp Q out):PostG K W ρ G1 H1 σ rp1 Q out:=by
 cases out with
 | ok r μ'=>exact fun G' H' v t' R' q=>h G' H' v (t.trans t') R' (hr _ _ _ _ q)
 | exc x μ'=>exact fun G' H' cls d t' R' q=>h G' H' cls d (t.trans t') R' q
 | bad=>exact h
theorem PostG.shiftE {Q:VK}{out:Res R}(t:Tr ρ G H G1 H1)(h:PostG K W ρ G H σ (fun G' H'=>rpE K ρ G' H H') Q out) :
  PostG K W ρ G1 H1 σ (fun G' H'=>rpE K ρ G' H1 H') Q out:=h.shift t fun _ _ _ _ q=>q.back t.th
theorem SndG.seq {α α' β β':Type}{t:Slots→Hp→(β→Hp→Prop)→Prop}{f:Env→Mem→Res α}{rp:Pm→Hp→Hp→Hp→β→α→Prop}
  (h:SndG K W t f rp) (R:Rel K ρ G H μ) (E:EnvOk K ρ G σ δ) {rp':Hp→Hp→β'→α'→Prop} {Q':β'→Hp→Prop} {k:α→Mem→Res α'}
  (hp:PostG K W ρ G H σ rp' Q' ((f δ μ).bind k)) {Q:β→Hp→Prop}
  (go:∀ r μ' G' H' v,Tr ρ G H G' H'→Rel K ρ G' H' μ'→EnvOk K ρ G' σ δ→rp ρ G' H H' v r→PostG K W ρ G H σ rp' Q' (k r μ')→Q v H'):t σ H Q:=by
 refine h ρ G H σ δ μ Q R E ?_
 cases e:f δ μ with
 | ok r μ'=>rw[e] at hp;exact fun G' H' v t' R' q=>go r μ' G' H' v t' R' (E.mono t'.exG) q hp
 | exc x μ'=>rw[e] at hp;exact hp
 | bad=>rw[e] at hp;exact hp
def allDat:List DV→Option (List D)
 | []=>some []
 | .dat d::xs=>(allDat xs).map (d::·)
 | .loc _::_=>none
def frz:R→Option DV
 | .dat d=>some (.dat d)
 | .loc n=>some (.loc n)
 | .nl xs=>(allDat xs).map fun ds=>.dat (.lst ds)
 | .nk _=>none
theorem allDat_map (ds:List D):allDat (ds.map DV.dat)=some ds:=by
 induction ds with
 | nil=>rfl
 | cons d r ih=>simp[allDat,ih]
theorem allDat_ok:∀ {xs:List DV} {ds:List D} {vs:List V},allDat xs=some ds→DvL K ρ G vs xs→RpL K G vs ds
 | [],_,_,h,r=>by cases h;cases r;exact .nil
 | .dat d::xs,ds,vs,h,r=>by
  cases r with
  | cons r1 r2 =>
   simp only[allDat] at h
   cases e:allDat xs with
   | none=>rw[e] at h;cases h
   | some es=>rw[e] at h;cases h;exact .cons r1 (allDat_ok e r2)
 | .loc _::_,_,_,h,_=>by cases h
theorem allDat_len:∀ {xs:List DV} {ds:List D},allDat xs=some ds→xs.length=ds.length
 | [],_,h=>by cases h;rfl
 | .dat d::xs,ds,h=>by
  simp only[allDat] at h
  cases e:allDat xs with
  | none=>rw[e] at h;cases h
  | some es=>rw[e] at h;cases h;simp[allDat_len e]
 | .loc _::_,_,h=>by cases h
def frzV (f:EM):VM:=fun δ μ=>(f δ μ).bind fun r μ'=>match frz r with
 | some x=>.ok x μ'
 | none=>.bad
theorem RpR.frz {G0 H0:Hp}{v:V}{r:R}{x:DV}(h:RpR K ρ G H0 H v r)(R:Rel K ρ G H μ)(t:Tr ρ G0 H0 G H)(e:frz r=some x) :
  ∃ G',Tr ρ G0 H0 G' H∧Rel K ρ G' H μ∧DvOk K ρ G' v x∧Ex G G':=by
 cases r with
 | dat d=>cases e;exact⟨G,t,R,h,Ex.refl _⟩
 | loc n=>cases e;exact⟨G,t,R,h,Ex.refl _⟩
 | nl xs =>
  obtain⟨a,vs,rfl,h2,h3,h4,h5,h6⟩:=h
  simp only[DL.frz] at e
  cases q:allDat xs with
  | none=>rw[q] at e;cases e
  | some ds =>
   rw[q] at e;cases e
   obtain⟨R',t',ex⟩:=R.freeze t h2 h6 h4 h5
   exact⟨_,t',R',Rp.lst upd_same (RpL.mono ex (allDat_ok q h3)),ex⟩
 | nk kvs=>cases e
theorem SndE.toV {t:TE}{f:EM}(h:SndE K W t f):SndV K W t (frzV f):=fun ρ G H σ δ μ Q R E hp=>by
 refine SndG.seq (t:=t) h R E hp fun r μ' G' H' v t' R' E' q hp'=>?_
 cases e:frz r with
 | none=>rw[e] at hp';exact hp'.elim
 | some x =>
  rw[e] at hp'
  obtain⟨G2,t2,R2,d2,_⟩:=RpR.frz q R' t' e
  exact hp' G2 H' v t2 R2 d2
def ofV (x:DV):R:=match x with
 | .dat d=>.dat d
 | .loc n=>.loc n
theorem RpR.ofV {H0:Hp}{v:V}{x:DV}(h:DvOk K ρ G v x):RpR K ρ G H0 H v (ofV x):=by
 cases x <;> exact h
end
structure PM (X:Cx)(W:WX)(e:Expr)(te:TE)(f:EM):Prop where
 pe:PE X e te
 sd:SndE X.K W te f
structure PMA (X:Cx)(W:WX)(es:List Expr)(ta:TA)(f:AM):Prop where
 pe:PA X es ta
 sd:SndA X.K W ta f
structure PMT (X:Cx)(W:WX)(e:Expr)(tt:TT)(f:TM):Prop where
 pe:PT X e tt
 sd:SndT X.K W tt f
section
variable {X:Cx}{W:WX}
def eVar (i:Nat):EM:=fun δ μ=>match δ[i]? with
 | some (some x)=>.ok (ofV x) μ
 | _=>.bad
def eD (d:D):EM:=fun _ μ=>.ok (.dat d) μ
theorem snd_var {K:PySem.W.Frag}(i:Nat):SndE K W (tVar i) (eVar i):=fun ρ G H σ δ μ Q R E hp=>by
 unfold eVar at hp
 match e:δ[i]? with
 | none=>rw[e] at hp;exact hp.elim
 | some none=>rw[e] at hp;exact hp.elim
 | some (some x) =>
  rw[e] at hp
  obtain⟨v,hv,d⟩:=E.at_ i x e
  exact⟨v,hv,hp G H v (Tr.refl _ _ _) R (RpR.ofV d)⟩
theorem snd_c {K:PySem.W.Frag}{v:V}{d:D}(h:∀ G,Rp K G v d):SndE K W (tC v) (eD d):=fun ρ G H σ δ μ Q R E hp =>
 hp G H v (Tr.refl _ _ _) R (h G)
theorem pm_var (i:Nat){x:Str}{pos:Pos}(hN:X.N[i]?=some x:=by rfl)(hv:Vis X.env.scope x:=by first|exact Or.inl rfl|exact Or.inr (Or.inl rfl)|exact Or.inr (Or.inr rfl))
  (hd:(x==("__debug__":Str))=false:=by decide) (hcd:(x==("__classdict__":Str))=false:=by decide):PM X W (.Name x pos) (tVar i) (eVar i):=⟨pe_var hN hv hd hcd,snd_var i⟩
theorem pm_int {i j pos}:PM X W (.Constant (.int i) j pos) (tC (.int i)) (eD (.int i)):=⟨pe_int,snd_c fun _=>.int i⟩
theorem pm_str {s j pos}:PM X W (.Constant (.str s) j pos) (tC (.str s)) (eD (.str s)):=⟨pe_str,snd_c fun _=>.str s⟩
theorem pm_bl {b j pos}:PM X W (.Constant (.bool b) j pos) (tC (.bl b)) (eD (.bl b)):=⟨pe_bl,snd_c fun _=>.bl b⟩
theorem pm_non {j pos}:PM X W (.Constant .none j pos) (tC .non) (eD .non):=⟨pe_non,snd_c fun _=>.non⟩
theorem pm_glob {x:Str} {v:V} {u:Value} {pos:Pos} {d:D} (hg:Gl X x) (hm:X.mg x=some u) (r:RelV v u) (h:∀ G,Rp X.K G v d) (hd:(x==("__debug__":Str))=false:=by decide):PM X W (.Name x pos) (tC v) (eD d):=⟨pe_glob hg hm r hd,snd_c h⟩
def aNil:AM:=fun _ μ=>.ok [] μ
def aCons (f:EM)(g:AM):AM:=fun δ μ=>(frzV f δ μ).bind fun x μ1=>(g δ μ1).bind fun xs μ2=>.ok (x::xs) μ2
theorem snd_nil {K:PySem.W.Frag}:SndA K W tNil aNil:=fun ρ G H σ δ μ Q R E hp=>hp G H [] (Tr.refl _ _ _) R .nil
theorem snd_cons {K:PySem.W.Frag}{t:TE}{ts:TA}{f:EM}{g:AM}(h:SndE K W t f)(hs:SndA K W ts g):SndA K W (tCons t ts) (aCons f g):=fun ρ G H σ δ μ Q R E hp=>by
 refine SndG.seq (t:=t) h.toV R E hp fun x μ1 G1 H1 v t1 R1 E1 d1 hp1=>?_
 refine SndG.seq (t:=ts) hs R1 E1 (hp1.shift t1 fun _ _ _ _ q=>q) fun xs μ2 G2 H2 vs t2 R2 E2 d2 hp2=>?_
 exact hp2 G2 H2 (v::vs) t2 R2 (.cons (d1.mono t2.exG fun _ _ q=>q) d2)
theorem pma_nil:PMA X W [] tNil aNil:=⟨pa_nil,snd_nil⟩
theorem pma_cons {e:Expr}{es:List Expr}{t:TE}{ts:TA}{f:EM}{g:AM}(h:PM X W e t f)(hs:PMA X W es ts g)(hst:starEach (e::es) X.env=(false,eval e X.env)::starEach es X.env:=by rfl):PMA X W (e::es) (tCons t ts) (aCons f g) :=
 ⟨pa_cons h.pe hs.pe hst,snd_cons h.sd hs.sd⟩
def eTup (g:AM):EM:=fun δ μ=>(g δ μ).bind fun xs μ1=>match allDat xs with
 | some ds=>if ds.length≤sizeLine then .ok (.dat (.tup ds)) μ1 else .bad
 | none=>.bad
def eLst (g:AM):EM:=fun δ μ=>(g δ μ).bind fun xs μ1=>if xs.length≤sizeLine then .ok (.nl xs) μ1 else .bad
theorem pm_tup {es:List Expr}{x1}{pos:Pos}{ts:TA}{g:AM}(h:PMA X W es ts g):PM X W (.Tuple es x1 pos) (tTup ts) (eTup g):=⟨pe_tup h.pe,fun ρ G H σ δ μ Q R E hp=>by
 refine SndG.seq (t:=ts) h.sd R E hp fun xs μ1 G1 H1 vs t1 R1 E1 d1 hp1=>?_
 match e:allDat xs with
 | none=>simp only[e] at hp1;exact hp1.elim
 | some ds =>
  simp only[e] at hp1
  have rl:=allDat_ok e d1
  by_cases hz:ds.length≤sizeLine
  ·rw[if_pos hz] at hp1
   refine⟨by rw[rl.length];exact hz,fun p hn=>?_⟩
   obtain⟨R2,t2,ex⟩:=R1.layD (o:=.tup vs) hn
   exact hp1 _ _ _ (t1.trans t2) R2 (Rp.tup (.inl (.inl upd_same)) (rl.mono ex))
  ·rw[if_neg hz] at hp1;exact hp1.elim⟩
theorem fresh_ne {K:PySem.W.Frag}{ρ:Pm}{G H:Hp}{μ:Mem}{p:Addr}(R:Rel K ρ G H μ)(hp:H p=none):G p=none∧∀ n,ρ n≠some p:=by
 refine⟨?_,fun n q=>R.hs n p q hp⟩
 cases q:G p with
 | none=>rfl
 | some u=>rw[R.ex _ _ q] at hp;cases hp
theorem paired_len {α β:Type}{P:α→β→Prop}:∀ {l:List α} {m:List β},Paired P l m→l.length=m.length
 | _,_,.nil=>rfl
 | _,_,.cons _ t=>congrArg (·+1) (paired_len t)
theorem new_list {K:PySem.W.Frag}{ρ:Pm}{G H G0 H0:Hp}{μ:Mem}{p:Addr}{vs:List V}{xs:List DV}{σ:Slots}{Q:VK}(R:Rel K ρ G H μ)(t:Tr ρ G0 H0 G H)(hn:H p=none)(d:DvL K ρ G vs xs)
  (hp:PostG K W ρ G0 H0 σ (fun G' H'=>rpE K ρ G' H0 H') Q (.ok (.nl xs) μ)):Q (.ref p) (upd H p (.lst vs)):=by
 obtain⟨R2,t2⟩:=R.lay (o:=.lst vs) hn
 obtain⟨n1,n2⟩:=fresh_ne R hn
 exact hp _ _ _ (t.trans t2) R2 ⟨p,vs,rfl,upd_same,d,n1,n2,t.th p hn⟩
theorem pm_lst {es:List Expr}{pos:Pos}{ts:TA}{g:AM}(h:PMA X W es ts g):PM X W (.List es pos) (tLst ts) (eLst g):=⟨pe_lst h.pe,fun ρ G H σ δ μ Q R E hp=>by
 refine SndG.seq (t:=ts) h.sd R E hp fun xs μ1 G1 H1 vs t1 R1 E1 d1 hp1=>?_
 by_cases hz:xs.length≤sizeLine
 ·rw[if_pos hz] at hp1
  exact⟨by rw[paired_len d1];exact hz,fun p hn=>new_list R1 t1 hn d1 hp1⟩
 ·rw[if_neg hz] at hp1;exact hp1.elim⟩
def OpD (K:PySem.W.Frag)(r:R2)(g:DV→DV→Mem→Res R):Prop:=∀ (W:WX) (ρ:Pm) (G H:Hp) (σ:Slots) (μ:Mem) (v w:V) (x y:DV) (Q:VK),Rel K ρ G H μ→DvOk K ρ G v x→DvOk K ρ G w y →
 PostG K W ρ G H σ (fun G' H'=>rpE K ρ G' H H') Q (g x y μ)→r v w H Q
def eOp (g:DV→DV→Mem→Res R)(fa fb:EM):EM:=fun δ μ=>(frzV fa δ μ).bind fun x μ1=>(frzV fb δ μ1).bind fun y μ2=>g x y μ2
theorem snd_op {K:PySem.W.Frag}{r:R2}{g:DV→DV→Mem→Res R}{ta tb:TE}{fa fb:EM}(ho:OpD K r g)(ha:SndE K W ta fa)(hb:SndE K W tb fb):SndE K W (tOp r ta tb) (eOp g fa fb):=fun ρ G H σ δ μ Q R E hp=>by
 refine SndG.seq (t:=ta) ha.toV R E hp fun x μ1 G1 H1 v t1 R1 E1 d1 hp1=>?_
 refine SndG.seq (t:=tb) hb.toV R1 E1 (hp1.shiftE t1) fun y μ2 G2 H2 w t2 R2 E2 d2 hp2=>?_
 exact ho W ρ G2 H2 σ μ2 v w x y Q R2 (d1.mono t2.exG fun _ _ q=>q) d2 (hp2.shiftE t2)
def CallD (K:PySem.W.Frag)(r:List V→Hp→VK→Prop)(g:List DV→Mem→Res R):Prop:=∀ (W:WX) (ρ:Pm) (G H:Hp) (σ:Slots) (μ:Mem) (vs:List V) (xs:List DV) (Q:VK),Rel K ρ G H μ→DvL K ρ G vs xs →
 PostG K W ρ G H σ (fun G' H'=>rpE K ρ G' H H') Q (g xs μ)→r vs H Q
def eCB (g:List DV→Mem→Res R)(fa:AM):EM:=fun δ μ=>(fa δ μ).bind fun xs μ1=>g xs μ1
theorem snd_cb {K:PySem.W.Frag}{r:List V→Hp→VK→Prop}{g:List DV→Mem→Res R}{ta:TA}{fa:AM}(ho:CallD K r g)(ha:SndA K W ta fa):SndE K W (tCB r ta) (eCB g fa):=fun ρ G H σ δ μ Q R E hp=>by
 refine SndG.seq (t:=ta) ha R E hp fun xs μ1 G1 H1 vs t1 R1 E1 d1 hp1=>?_
 exact ho W ρ G1 H1 σ μ1 vs xs Q R1 d1 (hp1.shiftE t1)
theorem pm_op {a b:Expr}{op:Operator}{r:R2}{g:DV→DV→Mem→Res R}{ta tb:TE}{fa fb:EM}{pos:Pos}(ho:OpR X (binaryOp op) r)(hd:OpD X.K r g)(ha:PM X W a ta fa)(hb:PM X W b tb fb):PM X W (.BinOp a op b pos) (tOp r ta tb) (eOp g fa fb) :=
 ⟨pe_op ho ha.pe hb.pe,snd_op hd ha.sd hb.sd⟩
theorem pm_cmp {a b:Expr}{op:CmpOp}{r:R2}{g:DV→DV→Mem→Res R}{ta tb:TE}{fa fb:EM}{pos:Pos}(ho:OpR X (compareOp op) r)(hd:OpD X.K r g)(ha:PM X W a ta fa)(hb:PM X W b tb fb)(hm:behindInMarks op b=false):PM X W (.Compare a [op] [b] pos) (tOp r ta tb) (eOp g fa fb) :=
 ⟨pe_cmpR ho ha.pe hb.pe hm,snd_op hd ha.sd hb.sd⟩
theorem pm_ix {a b:Expr}{r:R2}{g:DV→DV→Mem→Res R}{ta tb:TE}{fa fb:EM}{pos:Pos}(ho:IxR X r)(hd:OpD X.K r g)(ha:PM X W a ta fa)(hb:PM X W b tb fb)(hs:PlainIx b):PM X W (.Subscript a b pos) (tOp r ta tb) (eOp g fa fb) :=
 ⟨pe_ix ho ha.pe hb.pe hs,snd_op hd ha.sd hb.sd⟩
end
inductive Out where
 | next (δ:Env) (μ:Mem)|ret (r:R) (μ:Mem)|brk (δ:Env) (μ:Mem)|cnt (δ:Env) (μ:Mem)
 | exc (x:Xc) (δ:Env) (μ:Mem)|bad
abbrev SM:=Nat→Env→Mem→Out
structure TrS (N:Nat)(ρ:Pm)(G H:Hp)(ρ':Pm)(G' H':Hp):Prop where
 pre:∀ n,n<N→ρ' n=ρ n
 exG:Ex G G'
 keep:∀ a o,(∀ n,ρ n≠some a)→H a=some o→H' a=some o
 th:∀ a,H' a=none→H a=none
 nG:∀ a,G' a≠none→G a≠none∨H a=none∨∃ n,N≤n∧ρ n=some a
 nρ:∀ n a,ρ' n=some a→(ρ n=some a∨∃ m,N≤m∧ρ m=some a)∨H a=none
 fz:∀ a od u,H a=some (.frz od u)→H' a=some (.frz od u)
section
variable {K:PySem.W.Frag}{W:WX}{N:Nat}{ρ ρ1 ρ2:Pm}{G H G1 H1 G2 H2:Hp}{σ:Slots}{δ:Env}{μ:Mem}{D:Ends}
theorem TrS.refl (N:Nat)(ρ:Pm)(G H:Hp):TrS N ρ G H ρ G H:=⟨fun _ _=>rfl,Ex.refl _,fun _ _ _ h=>h,fun _ h=>h,fun _ h=>.inl h,fun _ _ h=>.inl (.inl h),fun _ _ _ h=>h⟩
theorem TrS.trans (a:TrS N ρ G H ρ1 G1 H1)(b:TrS N ρ1 G1 H1 ρ2 G2 H2):TrS N ρ G H ρ2 G2 H2 where
 pre:=fun n h=>(b.pre n h).trans (a.pre n h)
 exG:=a.exG.trans b.exG
 keep:=fun c o hc h=>b.keep c o (fun n q=>(a.nρ n c q).elim (fun z=>z.elim (hc n) fun⟨m,_,w⟩=>hc m w) fun z=>by rw[z] at h;cases h) (a.keep c o hc h)
 th:=fun c h=>a.th c (b.th c h)
 nG:=fun c h=>(b.nG c h).elim (a.nG c) fun q=>q.elim (fun q=>.inr (.inl (a.th c q))) fun⟨n,hn,q⟩=>(a.nρ n c q).elim (fun z=>.inr (.inr (z.elim (fun z=>⟨n,hn,z⟩) id))) fun z=>.inr (.inl z)
 nρ:=fun n c h=>(b.nρ n c h).elim (fun z=>z.elim (a.nρ n c) fun⟨m,hm,w⟩=>(a.nρ m c w).imp_left fun z=>.inr (z.elim (fun z=>⟨m,hm,z⟩) id)) fun q=>.inr (a.th c q)
 fz:=fun c od u h=>b.fz c od u (a.fz c od u h)
theorem Tr.toS (t:Tr ρ G H G1 H1):TrS N ρ G H ρ G1 H1 :=
 ⟨fun _ _=>rfl,t.exG,t.keep,t.th,fun a h=>(t.nG a h).elim .inl fun q=>.inr (.inl q),fun _ _ h=>.inl (.inl h),t.fz⟩
def PostS (K:PySem.W.Frag)(W:WX)(N:Nat)(ρ:Pm)(G H:Hp)(D:Ends):Out→Prop
 | .next δ' μ'=>∀ ρ' G' H' σ',TrS N ρ G H ρ' G' H'→Rel K ρ' G' H' μ'→EnvOk K ρ' G' σ' δ'→D.nx σ' H'
 | .ret r μ'=>∀ ρ' G' H' v,TrS N ρ G H ρ' G' H'→Rel K ρ' G' H' μ'→RpR K ρ' G' H H' v r→D.rt v H'
 | .brk δ' μ'=>∀ ρ' G' H' σ',TrS N ρ G H ρ' G' H'→Rel K ρ' G' H' μ'→EnvOk K ρ' G' σ' δ'→D.bk σ' H'
 | .cnt δ' μ'=>∀ ρ' G' H' σ',TrS N ρ G H ρ' G' H'→Rel K ρ' G' H' μ'→EnvOk K ρ' G' σ' δ'→D.ct σ' H'
 | .exc x δ' μ'=>∀ ρ' G' H' σ' cls d,TrS N ρ G H ρ' G' H'→Rel K ρ' G' H' μ'→EnvOk K ρ' G' σ' δ'→XcOk K G' H' x cls d→W cls d σ' H'
 | .bad=>False
def SndS (K:PySem.W.Frag)(W:WX)(t:TS)(g:SM):Prop :=
 ∀ (N:Nat) (ρ:Pm) (G H:Hp) (σ:Slots) (δ:Env) (μ:Mem) (D:Ends),Rel K ρ G H μ→EnvOk K ρ G σ δ →
  PostS K W N ρ G H D (g N δ μ)→t D σ H
theorem PostS.shift {out:Out}(t:TrS N ρ G H ρ1 G1 H1)(h:PostS K W N ρ G H D out):PostS K W N ρ1 G1 H1 D out:=by
 cases out with
 | next δ' μ'=>exact fun ρ' G' H' σ' t'=>h ρ' G' H' σ' (t.trans t')
 | ret r μ'=>exact fun ρ' G' H' v t' R' q=>h ρ' G' H' v (t.trans t') R' (q.back t.th)
 | brk δ' μ'=>exact fun ρ' G' H' σ' t'=>h ρ' G' H' σ' (t.trans t')
 | cnt δ' μ'=>exact fun ρ' G' H' σ' t'=>h ρ' G' H' σ' (t.trans t')
 | exc x δ' μ'=>exact fun ρ' G' H' σ' cls d t'=>h ρ' G' H' σ' cls d (t.trans t')
 | bad=>exact h
theorem SndG.stm {α β:Type}{t:Slots→Hp→(β→Hp→Prop)→Prop}{f:Env→Mem→Res α}{rp:Pm→Hp→Hp→Hp→β→α→Prop}
  (h:SndG K W t f rp) (R:Rel K ρ G H μ) (E:EnvOk K ρ G σ δ) {k:α→Mem→Out}
  (hp:PostS K W N ρ G H D (match f δ μ with | .ok r μ'=>k r μ' | .exc x μ'=>.exc x δ μ' | .bad=>.bad)) {Q:β→Hp→Prop}
  (go:∀ r μ' G' H' v,Tr ρ G H G' H'→Rel K ρ G' H' μ'→EnvOk K ρ G' σ δ→rp ρ G' H H' v r→PostS K W N ρ G H D (k r μ')→Q v H'):t σ H Q:=by
 refine h ρ G H σ δ μ Q R E ?_
 cases e:f δ μ with
 | ok r μ'=>rw[e] at hp;exact fun G' H' v t' R' q=>go r μ' G' H' v t' R' (E.mono t'.exG) q hp
 | exc x μ'=>rw[e] at hp;exact fun G' H' cls d t' R' q=>hp ρ G' H' σ cls d t'.toS R' (E.mono t'.exG) q
 | bad=>rw[e] at hp;exact hp
def lift {α:Type}(r:Res α)(δ:Env)(k:α→Mem→Out):Out:=match r with
 | .ok a μ=>k a μ
 | .exc x μ=>.exc x δ μ
 | .bad=>.bad
def gNext:SM:=fun _ δ μ=>.next δ μ
def gSeq (g h:SM):SM:=fun N δ μ=>match g N δ μ with
 | .next δ' μ'=>h N δ' μ'
 | .ret r μ'=>.ret r μ'
 | .brk δ' μ'=>.brk δ' μ'
 | .cnt δ' μ'=>.cnt δ' μ'
 | .exc x δ' μ'=>.exc x δ' μ'
 | .bad=>.bad
theorem snd_next:SndS K W tNext gNext:=fun N ρ G H σ δ μ D R E hp=>hp ρ G H σ (TrS.refl _ _ _ _) R E
theorem snd_seq {t u:TS}{g h:SM}(h1:SndS K W t g)(h2:SndS K W u h):SndS K W (tSeq t u) (gSeq g h):=fun N ρ G H σ δ μ D R E hp=>by
 refine h1 N ρ G H σ δ μ { D with nx:=u D } R E ?_
 unfold gSeq at hp
 cases e:g N δ μ with
 | next δ' μ'=>rw[e] at hp;exact fun ρ' G' H' σ' t' R' E'=>h2 N ρ' G' H' σ' δ' μ' D R' E' (hp.shift t')
 | ret r μ'=>rw[e] at hp;exact hp
 | brk δ' μ'=>rw[e] at hp;exact hp
 | cnt δ' μ'=>rw[e] at hp;exact hp
 | exc x δ' μ'=>rw[e] at hp;exact hp
 | bad=>rw[e] at hp;exact hp
theorem EnvOk.set {v:V}{x:DV}(i:Nat)(E:EnvOk K ρ G σ δ)(h:DvOk K ρ G v x):EnvOk K ρ G (σ.set i (some v)) (δ.set i (some x)):=by
 refine⟨by simp[E.len],fun j y hj=>?_⟩
 by_cases e:i=j
 ·subst e
  have hl:i<δ.length:=by
   by_cases hl:i<δ.length
   ·exact hl
   ·rw[List.getElem?_eq_none (by simp;omega)] at hj;cases hj
  rw[List.getElem?_set_self hl] at hj
  cases hj
  exact⟨v,List.getElem?_set_self (by rw[E.len];exact hl),h⟩
 ·rw[List.getElem?_set_ne e] at hj
  obtain⟨w,h1,h2⟩:=E.at_ j y hj
  exact⟨w,by rw[List.getElem?_set_ne e];exact h1,h2⟩
def gAsg (i:Nat)(f:EM):SM:=fun _ δ μ=>lift (frzV f δ μ) δ fun x μ'=>.next (δ.set i (some x)) μ'
theorem snd_asg {te:TE}{f:EM}(i:Nat)(h:SndE K W te f):SndS K W (tAsg te (gName i)) (gAsg i f):=fun N ρ G H σ δ μ D R E hp =>
 SndG.stm (t:=te) h.toV R E hp fun x μ' G' H' v t' R' E' d hp'=>hp' ρ G' H' _ t'.toS R' (E'.set i d)
def gDrop (f:EM):SM:=fun _ δ μ=>lift (f δ μ) δ fun _ μ'=>.next δ μ'
theorem snd_drop {te:TE}{f:EM}(h:SndE K W te f):SndS K W (tDrop te) (gDrop f):=fun N ρ G H σ δ μ D R E hp =>
 SndG.stm (t:=te) h R E hp fun x μ' G' H' v t' R' E' d hp'=>hp' ρ G' H' _ t'.toS R' E'
def gRet (f:EM):SM:=fun _ δ μ=>lift (f δ μ) δ fun r μ'=>.ret r μ'
theorem snd_ret {te:TE}{f:EM}(h:SndE K W te f):SndS K W (tRet te) (gRet f):=fun N ρ G H σ δ μ D R E hp =>
 SndG.stm (t:=te) h R E hp fun x μ' G' H' v t' R' E' d hp'=>hp' ρ G' H' _ t'.toS R' d
def gIf (f:TM)(g h:SM):SM:=fun N δ μ=>lift (f δ μ) δ fun b μ'=>if b=true then g N δ μ' else h N δ μ'
theorem snd_if {tc:TT}{t u:TS}{f:TM}{g h:SM}(hc:SndT K W tc f)(h1:SndS K W t g)(h2:SndS K W u h):SndS K W (tIfS tc t u) (gIf f g h):=fun N ρ G H σ δ μ D R E hp=>by
 refine SndG.stm (t:=tc) hc R E hp fun b μ' G' H' v t' R' E' d hp'=>?_
 subst d
 cases v with
 | true=>exact h1 N ρ G' H' σ δ μ' D R' E' (PostS.shift t'.toS hp')
 | false=>exact h2 N ρ G' H' σ δ μ' D R' E' (PostS.shift t'.toS hp')
theorem DvOk.below {v:V}{x:DV}(R:Rel K ρ G H μ)(h:DvOk K ρ G v x):x.below μ.length:=by
 cases x with
 | dat d=>trivial
 | loc n=>obtain⟨a,_,q⟩:=h;exact R.lt n a q
theorem DvL.below {vs:List V}{xs:List DV}(R:Rel K ρ G H μ)(h:DvL K ρ G vs xs):∀ x∈xs,x.below μ.length:=by
 intro x hx
 induction h with
 | nil=>cases hx
 | cons r _ ih =>
  rcases List.mem_cons.mp hx with e|e
  ·rw[e];exact DvOk.below R r
  ·exact ih e
def addP (ρ:Pm)(n:Nat)(a:Addr):Pm:=fun m=>if m=n then some a else ρ m
theorem Rel.alloc {ρ0:Pm}{G0 H0:Hp}{a:Addr}{p:Pl}(R:Rel K ρ G H μ)(hN:N≤μ.length)(t:TrS N ρ0 G0 H0 ρ G H)(hs:H a≠none)(hg:G a=none)(hn:∀ n,ρ n≠some a)(h0:H0 a=none)
  (hp:PlOk K (addP ρ μ.length a) G H μ.length p):Rel K (addP ρ μ.length a) G H (μ++[p])∧TrS N ρ0 G0 H0 (addP ρ μ.length a) G H∧(∀ n b,ρ n=some b→addP ρ μ.length a n=some b)∧addP ρ μ.length a μ.length=some a:=by
 have up:∀ n b,ρ n=some b→addP ρ μ.length a n=some b:=fun n b q=>by
  unfold addP;rw[if_neg (Nat.ne_of_lt (R.lt n b q))];exact q
 have dn:∀ n b,addP ρ μ.length a n=some b→(n=μ.length∧b=a)∨ρ n=some b:=fun n b q=>by
  unfold addP at q
  by_cases e:n=μ.length
  ·rw[if_pos e] at q;exact .inl ⟨e,(Option.some.inj q).symm⟩
  ·rw[if_neg e] at q;exact .inr q
 refine⟨⟨R.ex,fun m n b h1 h2=>?_,fun n b h=>?_,fun n b h=>?_,fun n b h=>?_,fun n q h=>?_⟩,⟨fun n h=>?_,t.exG,t.keep,t.th,t.nG,fun n b q=>?_,t.fz⟩,up,by unfold addP;rw[if_pos rfl]⟩
 ·rcases dn m b h1 with⟨e1,e2⟩|q1
  ·rcases dn n b h2 with⟨e3,_⟩|q2
   ·rw[e1,e3]
   ·exact absurd (e2▸q2) (hn n)
  ·rcases dn n b h2 with⟨_,e4⟩|q2
   ·exact absurd (e4▸q1) (hn m)
   ·exact R.inj m n b q1 q2
 ·rcases dn n b h with⟨_,e⟩|q
  ·rw[e];exact hg
  ·exact R.nG n b q
 ·rw[List.length_append,List.length_singleton]
  rcases dn n b h with⟨e,_⟩|q
  ·omega
  ·have:=R.lt n b q;omega
 ·rcases dn n b h with⟨_,e⟩|q
  ·rw[e];exact hs
  ·exact R.hs n b q
 ·by_cases e:n<μ.length
  ·rw[List.getElem?_append_left e] at h
   have z:=R.pl n q h
   cases q with
   | lst xs=>obtain⟨b,c,vs,h1,h2,h3⟩:=z;exact⟨b,c,vs,up _ _ h1,h2,DvL.mono (Ex.refl _) up h3⟩
   | dct xs=>obtain⟨b,c,o,vs,h1,h2,h4,h3⟩:=z;exact⟨b,c,o,vs,up _ _ h1,h2,h4,DvL.mono (Ex.refl _) up h3⟩
   | lkd xs=>obtain⟨b,c,o,vs,h1,h2,h4,h3⟩:=z;exact⟨b,c,o,vs,up _ _ h1,h2,h4,DvL.mono (Ex.refl _) up h3⟩
   | lkl xs=>obtain⟨b,c,o,vs,h1,h2,h3⟩:=z;exact⟨b,c,o,vs,up _ _ h1,h2,DvL.mono (Ex.refl _) up h3⟩
   | tp xs=>obtain⟨b,c,o,vs,h1,h2,h3⟩:=z;exact⟨b,c,o,vs,up _ _ h1,h2,DvL.mono (Ex.refl _) up h3⟩
   | own=>obtain⟨a,b,h1,h2⟩:=z;exact⟨a,b,up _ _ h1,h2⟩
   | ins nm fs=>obtain⟨b,c,dx,C,vs,m,hm,h1,h2,cl,h4,h5,h3⟩:=z;exact⟨b,c,dx,C,vs,m,⟨hm.1,up _ _ hm.2⟩,up _ _ h1,h2,cl,h4,h5,DvL.mono (Ex.refl _) up h3⟩
   | gone=>show addP ρ μ.length a n=none;unfold addP;rw[if_neg (by omega)];exact z
  ·rw[List.getElem?_append_right (by omega)] at h
   have e2:n=μ.length:=by
    cases k:n - μ.length with
    | zero=>omega
    | succ j=>rw[k] at h;simp at h
   subst e2
   rw[Nat.sub_self] at h
   cases h
   exact hp
 ·unfold addP;rw[if_neg (by omega)];exact t.pre n h
 ·rcases dn n b q with⟨_,e⟩|q
  ·rw[e];exact .inr h0
  ·exact t.nρ n b q
def bindR (N i:Nat)(r:R)(δ:Env)(μ:Mem):Out:=match r with
 | .dat d=>.next (δ.set i (some (.dat d))) μ
 | .loc n=>.next (δ.set i (some (.loc n))) μ
 | .nl xs=>if N≤μ.length then .next (δ.set i (some (.loc μ.length))) (μ++[.lst xs]) else .bad
 | .nk kvs=>if N≤μ.length then .next (δ.set i (some (.loc μ.length))) (μ++[.dct kvs]) else .bad
theorem EnvOk.up (E:EnvOk K ρ G σ δ)(x:Ex G G1)(up:∀ n b,ρ n=some b→ρ1 n=some b):EnvOk K ρ1 G1 σ δ :=
 ⟨E.len,fun i y h=>let ⟨v,a,b⟩:=E.at_ i y h;⟨v,a,b.mono x up⟩⟩
theorem snd_bindR {r:R}{v:V}{G0 H0:Hp}(i:Nat)(R':Rel K ρ G H μ)(E':EnvOk K ρ G σ δ)(t':TrS N ρ G0 H0 ρ G H)(d:RpR K ρ G H0 H v r)
  (hp:PostS K W N ρ G0 H0 D (bindR N i r δ μ)):D.nx (σ.set i (some v)) H:=by
 cases r with
 | dat d'=>exact hp ρ G H _ t' R' (E'.set i (x:=.dat d') d)
 | loc n=>exact hp ρ G H _ t' R' (E'.set i (x:=.loc n) d)
 | nl xs =>
  obtain⟨a,vs,rfl,h2,h3,h4,h5,h6⟩:=d
  have up:∀ n b,ρ n=some b→addP ρ μ.length a n=some b:=fun n b q=>by
   unfold addP;rw[if_neg (Nat.ne_of_lt (R'.lt n b q))];exact q
  unfold bindR at hp
  by_cases hN:N≤μ.length
  case neg=>simp only[if_neg hN] at hp;exact hp.elim
  simp only[if_pos hN] at hp
  obtain⟨R2,t2,up,at_⟩:=R'.alloc (p:=.lst xs) hN t' (by rw[h2];simp) h4 h5 h6 ⟨DvL.below R' h3,a,vs,by unfold addP;rw[if_pos rfl],h2,DvL.mono (Ex.refl _) up h3⟩
  exact hp _ G H _ t2 R2 ((E'.up (Ex.refl _) up).set i (x:=.loc μ.length) ⟨a,rfl,at_⟩)
 | nk kvs =>
  obtain⟨a,o,vs,rfl,h2,hk,h3,h4,h5,h6⟩:=d
  have up:∀ n b,ρ n=some b→addP ρ μ.length a n=some b:=fun n b q=>by
   unfold addP;rw[if_neg (Nat.ne_of_lt (R'.lt n b q))];exact q
  have bl:∀ p∈kvs,p.2.below μ.length:=fun p hp=>DvL.below R' h3 p.2 (List.mem_map.mpr ⟨p,hp,rfl⟩)
  unfold bindR at hp
  by_cases hN:N≤μ.length
  case neg=>simp only[if_neg hN] at hp;exact hp.elim
  simp only[if_pos hN] at hp
  obtain⟨R2,t2,up,at_⟩:=R'.alloc (p:=.dct kvs) hN t' (by rw[h2];simp) h4 h5 h6 ⟨bl,a,o,vs,by unfold addP;rw[if_pos rfl],h2,hk,DvL.mono (Ex.refl _) up h3⟩
  exact hp _ G H _ t2 R2 ((E'.up (Ex.refl _) up).set i (x:=.loc μ.length) ⟨a,rfl,at_⟩)
def gNew (i:Nat)(f:EM):SM:=fun N δ μ=>lift (f δ μ) δ fun r μ'=>bindR N i r δ μ'
theorem snd_new {te:TE}{f:EM}(i:Nat)(h:SndE K W te f):SndS K W (tAsg te (gName i)) (gNew i f):=fun N ρ G H σ δ μ D R E hp =>
 SndG.stm (t:=te) h R E hp fun x μ' G' H' v t' R' E' d hp'=>snd_bindR i R' E' t'.toS d hp'
end
def cutV (M:Nat):Option DV→Option DV
 | some (.loc n)=>if n<M then some (.loc n) else none
 | some (.dat d)=>some (.dat d)
 | none=>none
def cut (M:Nat):List Bool→Env→Env
 | _,[]=>[]
 | [],_::δ=>none::cut M [] δ
 | b::bs,x::δ=>(if b=true then cutV M x else none)::cut M bs δ
def resP (M:Nat)(ρ:Pm):Pm:=fun n=>if n<M then ρ n else none
theorem cut_len (M:Nat):∀ (bs:List Bool) (δ:Env),(cut M bs δ).length=δ.length
 | [],[]=>rfl
 | _::_,[]=>rfl
 | [],_::δ=>congrArg (·+1) (cut_len M [] δ)
 | _::bs,_::δ=>congrArg (·+1) (cut_len M bs δ)
theorem cutV_some {M:Nat}{o:Option DV}{x:DV}(h:cutV M o=some x):o=some x∧x.below M:=by
 match o,h with
 | some (.dat d),h=>cases h;exact⟨rfl,trivial⟩
 | some (.loc n),h =>
  simp only[cutV] at h
  by_cases e:n<M
  ·rw[if_pos e] at h;cases h;exact⟨rfl,e⟩
  ·rw[if_neg e] at h;cases h
theorem cut_at (M:Nat):∀ (bs:List Bool) (δ:Env) (i:Nat) (x:DV),(cut M bs δ)[i]?=some (some x)→δ[i]?=some (some x)∧x.below M
 | [],[],i,x,h=>by simp[cut] at h
 | _::_,[],i,x,h=>by simp[cut] at h
 | [],_::δ,0,x,h=>by simp[cut] at h
 | [],_::δ,i+1,x,h=>cut_at M [] δ i x (by simpa [cut] using h)
 | b::bs,y::δ,0,x,h=>by
  simp only[cut,List.getElem?_cons_zero,Option.some.injEq] at h
  by_cases hb:b=true
  ·rw[if_pos hb] at h
   obtain⟨e,q⟩:=cutV_some h
   exact⟨by rw[e];rfl,q⟩
  ·rw[if_neg hb] at h;cases h
 | b::bs,y::δ,i+1,x,h=>cut_at M bs δ i x (by simpa [cut] using h)
section
variable {K:PySem.W.Frag}{W:WX}{N M:Nat}{ρ ρ0 ρ1 ρ2:Pm}{G H G0 H0 G1 H1 G2 H2:Hp}{σ:Slots}{δ:Env}{μ:Mem}{Dn:Ends}
theorem resP_some {n:Nat}{a:Addr}(h:resP M ρ n=some a):n<M∧ρ n=some a:=by
 unfold resP at h
 by_cases e:n<M
 ·rw[if_pos e] at h;exact⟨e,h⟩
 ·rw[if_neg e] at h;cases h
theorem resP_of {n:Nat}{a:Addr}(e:n<M)(h:ρ n=some a):resP M ρ n=some a:=by unfold resP;rw[if_pos e];exact h
theorem DvOk.res {v:V}{x:DV}(h:DvOk K ρ G v x)(b:x.below M):DvOk K (resP M ρ) G v x:=by
 cases x with
 | dat d=>exact h
 | loc n=>obtain⟨a,e,q⟩:=h;exact⟨a,e,resP_of b q⟩
theorem DvL.res {vs:List V}{xs:List DV}(h:DvL K ρ G vs xs)(b:∀ x∈xs,x.below M):DvL K (resP M ρ) G vs xs:=by
 induction h with
 | nil=>exact .nil
 | cons r _ ih=>exact .cons (r.res (b _ List.mem_cons_self)) (ih fun x hx=>b x (List.mem_cons_of_mem _ hx))
theorem DV.below.mono {m n:Nat}{x:DV}(h:x.below m)(e:m≤n):x.below n:=by
 cases x with
 | dat d=>trivial
 | loc k=>exact Nat.lt_of_lt_of_le h e
theorem Rel.cut (R:Rel K ρ G H μ)(M:Nat):Rel K (resP M ρ) G H (μ.take M):=by
 refine⟨R.ex,fun m n a h1 h2=>R.inj m n a (resP_some h1).2 (resP_some h2).2,fun n a h=>R.nG n a (resP_some h).2,fun n a h=>?_,fun n a h=>R.hs n a (resP_some h).2,fun n p h=>?_⟩
 ·obtain⟨e,q⟩:=resP_some h
  have:=R.lt n a q
  rw[List.length_take];omega
 ·have hn:n<M:=by
   by_cases e:n<M
   ·exact e
   ·rw[List.getElem?_eq_none (by rw[List.length_take];omega)] at h;cases h
  rw[List.getElem?_take_of_lt hn] at h
  have z:=R.pl n p h
  cases p with
  | lst xs=>obtain⟨b,a,vs,h1,h2,h3⟩:=z;exact⟨b,a,vs,resP_of hn h1,h2,h3.res fun x hx=>(b x hx).mono (Nat.le_of_lt hn)⟩
  | dct kvs =>
   obtain⟨b,a,o,vs,h1,h2,h4,h3⟩:=z
   refine⟨b,a,o,vs,resP_of hn h1,h2,h4,h3.res fun x hx=>?_⟩
   obtain⟨p,hp,rfl⟩:=List.mem_map.mp hx
   exact(b p hp).mono (Nat.le_of_lt hn)
  | lkd kvs =>
   obtain⟨b,a,o,vs,h1,h2,h4,h3⟩:=z
   refine⟨b,a,o,vs,resP_of hn h1,h2,h4,h3.res fun x hx=>?_⟩
   obtain⟨p,hp,rfl⟩:=List.mem_map.mp hx
   exact(b p hp).mono (Nat.le_of_lt hn)
  | lkl xs =>
   obtain⟨b,a,o,vs,h1,h2,h3⟩:=z
   refine⟨b,a,o,vs,resP_of hn h1,h2,h3.res fun x hx=>?_⟩
   exact(b x hx).mono (Nat.le_of_lt hn)
  | tp xs =>
   obtain⟨b,a,o,vs,h1,h2,h3⟩:=z
   refine⟨b,a,o,vs,resP_of hn h1,h2,h3.res fun x hx=>?_⟩
   exact(b x hx).mono (Nat.le_of_lt hn)
  | ins nm fs =>
   obtain⟨b,a,dx,C,vs,m,hm,h1,h2,cl,h4,h5,h3⟩:=z
   refine⟨b,a,dx,C,vs,m,⟨hm.1,resP_of (by omega) hm.2⟩,resP_of hn h1,h2,cl,h4,h5,h3.res fun x hx=>?_⟩
   obtain⟨p,hp,rfl⟩:=List.mem_map.mp hx
   exact(b p hp).mono (Nat.le_of_lt hn)
  | own=>obtain⟨a,b,h1,h2⟩:=z;exact⟨a,b,resP_of hn h1,h2⟩
  | gone=>show resP M ρ n=none;unfold resP;rw[if_pos hn];exact z
theorem EnvOk.cut (E:EnvOk K ρ G σ δ)(M:Nat)(bs:List Bool):EnvOk K (resP M ρ) G σ (cut M bs δ) :=
 ⟨by rw[cut_len];exact E.len,fun i x h=>let ⟨h1,h2⟩:=cut_at M bs δ i x h;let ⟨v,a,b⟩:=E.at_ i x h1;⟨v,a,b.res h2⟩⟩
theorem TrS.cut (t:TrS N ρ0 G0 H0 ρ G H)(h:∀ n a,ρ0 n=some a→n<M):TrS N ρ0 G0 H0 (resP M ρ) G H where
 pre:=fun n hn=>by
  unfold resP
  by_cases e:n<M
  ·rw[if_pos e];exact t.pre n hn
  ·rw[if_neg e]
   cases q:ρ0 n with
   | none=>rfl
   | some a=>exact absurd (h n a q) e
 exG:=t.exG
 keep:=t.keep
 th:=t.th
 nG:=t.nG
 nρ:=fun n a q=>t.nρ n a (resP_some q).2
 fz:=t.fz
abbrev Fz (H H':Hp):Prop:=∀ a od u,H a=some (.frz od u)→H' a=some (.frz od u)
def ItOk (K:PySem.W.Frag)(G0 H0:Hp)(J:It)(xs:List D):Prop:=∀ (ρ:Pm) (G H:Hp) (μ:Mem),Rel K ρ G H μ→Ex G0 G→Fz H0 H →
 (∀ (i:Nat) (d:D),xs[i]?=some d→J.go i H∧∀ v H',J.yld i H v H'→∃ G',Tr ρ G H G' H'∧Rel K ρ G' H' μ∧Rp K G' v d)∧∀ i,xs.length≤i→J.stop i H
abbrev rpI (K:PySem.W.Frag):Pm→Hp→Hp→Hp→It→List D→Prop:=fun _ G' _ H' J xs=>ItOk K G' H' J xs
abbrev IM:=Env→Mem→Res (List D)
abbrev SndI (K:PySem.W.Frag)(W:WX)(t:TI)(f:IM):Prop:=SndG K W t f (rpI K)
theorem wipe_in {σ:Slots}{i:Nat}:∀ {vs:List Nat},i∈vs→i<σ.length→(wipe σ vs)[i]?=some none
 | v::vs,h,hl=>by
  show((wipe σ vs).set v none)[i]?=some none
  by_cases e:v=i
  ·subst e;exact List.getElem?_set_self (by rw[wipe_length];exact hl)
  ·rw[List.getElem?_set_ne e]
   exact wipe_in ((List.mem_cons.mp h).elim (fun q=>absurd q.symm e) id) hl
theorem wipe_ext {σ τ:Slots}{vs:List Nat}(hl:σ.length=τ.length)(h:∀ i,i∉vs→σ[i]?=τ[i]?):wipe σ vs=wipe τ vs:=by
 refine List.ext_getElem? fun i=>?_
 by_cases hi:i∈vs
 ·by_cases e:i<σ.length
  ·rw[wipe_in hi e,wipe_in hi (hl▸e)]
  ·rw[List.getElem?_eq_none (by rw[wipe_length];omega),List.getElem?_eq_none (by rw[wipe_length];omega)]
 ·rw[wipe_out hi,wipe_out hi];exact h i hi
def TgOk (K:PySem.W.Frag)(g:TG)(h:D→Env→Option Env)(ts:List Nat):Prop:=∀ (ρ:Pm) (G H:Hp) (μ:Mem) (σ:Slots) (δ δ':Env) (v:V) (d:D) (Q:Slots→Hp→Prop),Rel K ρ G H μ→EnvOk K ρ G σ δ→Rp K G v d→h d δ=some δ' →
 (∀ σ',EnvOk K ρ G σ' δ'→σ'.length=σ.length→(∀ i,i∉ts→σ'[i]?=σ[i]?)→Q σ' H)→g v σ H Q
def tgName (i:Nat):D→Env→Option Env:=fun d δ=>some (δ.set i (some (.dat d)))
theorem tg_name (i:Nat):TgOk K (gName i) (tgName i) [i]:=fun ρ G H μ σ δ δ' v d Q R E h e q=>by
 cases e;exact q _ (E.set i (x:=.dat d) h) List.length_set fun j hj=>List.getElem?_set_ne fun z=>hj (by simp[z])
def turnL (M:Nat)(ks:List Bool)(out:Out)(k:Env→Mem→Out):Out:=match out with
 | .next δ' μ'=>k (cut M ks δ') (μ'.take M)
 | .cnt δ' μ'=>k (cut M ks δ') (μ'.take M)
 | .brk δ' μ'=>.next (cut M ks δ') (μ'.take M)
 | .ret r μ'=>.ret r μ'
 | .exc x δ' μ'=>.exc x δ' μ'
 | .bad=>.bad
def forL (M:Nat)(ks:List Bool)(h:D→Env→Option Env)(gb:SM)(N:Nat):List D→Env→Mem→Out
 | [],δ,μ=>.next δ μ
 | d::ds,δ,μ=>match h d δ with
  | none=>.bad
  | some δ1=>turnL M ks (gb N δ1 μ) (forL M ks h gb N ds)
def gFor (ks:List Bool)(fi:IM)(h:D→Env→Option Env)(gb:SM):SM:=fun N δ μ=>lift (fi δ μ) δ fun xs μ'=>forL μ'.length ks h gb N xs δ μ'
theorem turn_ok {tb:TS}{gb:SM}{ks:List Bool}{k:Env→Mem→Out}{Nn:Slots→Hp→Prop}(hb:SndS K W tb gb)(t:TrS N ρ0 G0 H0 ρ G H)(R:Rel K ρ G H μ)(E:EnvOk K ρ G σ δ)(hM:∀ n a,ρ0 n=some a→n<M)(hM1:∀ n a,ρ n=some a→n<M)
  (hp:PostS K W N ρ0 G0 H0 Dn (turnL M ks (gb N δ μ) k))
  (go:∀ ρ' G' H' σ' δ' μ',TrS N ρ0 G0 H0 ρ' G' H'→Ex G G'→Rel K ρ' G' H' μ'→EnvOk K ρ' G' σ' δ'→(∀ n a,ρ' n=some a→n<M)→PostS K W N ρ0 G0 H0 Dn (k δ' μ')→Nn σ' H') :
  tb { nx:=Nn,rt:=Dn.rt,bk:=Dn.nx,ct:=Nn } σ H:=by
 refine hb N ρ G H σ δ μ _ R E ?_
 cases e:gb N δ μ with
 | next δ' μ' =>
  rw[e] at hp
  exact fun ρ' G' H' σ' t' R' E'=>go _ G' H' σ' _ _ ((t.trans t').cut hM) t'.exG (R'.cut M) (E'.cut M ks) (fun n a q=>(resP_some q).1) hp
 | cnt δ' μ' =>
  rw[e] at hp
  exact fun ρ' G' H' σ' t' R' E'=>go _ G' H' σ' _ _ ((t.trans t').cut hM) t'.exG (R'.cut M) (E'.cut M ks) (fun n a q=>(resP_some q).1) hp
 | brk δ' μ' =>
  rw[e] at hp
  exact fun ρ' G' H' σ' t' R' E'=>hp _ G' H' σ' ((t.trans t').cut hM) (R'.cut M) (E'.cut M ks)
 | ret r μ' =>
  rw[e] at hp
  exact fun ρ' G' H' v t' R' q=>hp ρ' G' H' v (t.trans t') R' (q.back t.th)
 | exc x δ' μ' =>
  rw[e] at hp
  exact fun ρ' G' H' σ' cls d t'=>hp ρ' G' H' σ' cls d (t.trans t')
 | bad=>rw[e] at hp;exact hp
theorem drop_cons {α:Type}{xs ds:List α}{i:Nat}{d:α}(h:xs.drop i=d::ds):xs[i]?=some d∧xs.drop (i+1)=ds∧i<xs.length:=by
 have hl:i<xs.length:=by
  by_cases e:i<xs.length
  ·exact e
  ·rw[List.drop_eq_nil_of_le (by omega)] at h;cases h
 rw[List.drop_eq_getElem_cons hl] at h
 injection h with h1 h2
 exact⟨by rw[List.getElem?_eq_getElem hl,h1],h2,hl⟩
theorem snd_for {wi:TI}{fi:IM}{g:TG}{h:D→Env→Option Env}{tb:TS}{gb:SM}(ks:List Bool){tv:List Nat}(hi:SndI K W wi fi)(hg:TgOk K g h tv)(hb:SndS K W tb gb):SndS K W (tFor wi g tb) (gFor ks fi h gb):=fun N ρ G H σ δ μ Dn R E hp=>by
 refine SndG.stm (t:=wi) hi R E hp fun xs μ0 G0 H0 J t0 R0 E0 it hp0=>?_
 have hp0:=PostS.shift (t0.toS (N:=N)) hp0
 refine⟨fun i m σ H=>∃ ρ1 G1 δ1 μ1,Ex G0 G1∧Fz H0 H∧Rel K ρ1 G1 H μ1∧EnvOk K ρ1 G1 σ δ1∧(∀ n a,ρ1 n=some a→n<μ0.length)∧m=xs.length-i∧i≤xs.length ∧
  PostS K W N ρ1 G1 H Dn (forL μ0.length ks h gb N (xs.drop i) δ1 μ1),⟨xs.length,ρ,G0,δ,μ0,Ex.refl _,fun _ _ _ h=>h,R0,E0,R0.lt,by omega,by omega,hp0⟩,fun i m σ H hW=>?_⟩
 obtain⟨ρ1,G1,δ1,μ1,x1,f1,R1,E1,hM1,em,hi',hp1⟩:=hW
 obtain⟨go,stop⟩:=it ρ1 G1 H μ1 R1 x1 f1
 cases e:xs.drop i with
 | nil =>
  rw[e] at hp1
  have hl:xs.length≤i:=by
   have:=congrArg List.length e
   rw[List.length_drop] at this
   simp at this;omega
  exact .inl ⟨stop i hl,hp1 ρ1 G1 H σ (TrS.refl _ _ _ _) R1 E1⟩
 | cons d ds =>
  rw[e] at hp1
  obtain⟨hd,hds,hlt⟩:=drop_cons e
  obtain⟨g1,g2⟩:=go i d hd
  refine .inr ⟨g1,fun σ' H'=>∃ m',m'<m∧_,fun σ' H' q=>q,fun v H' hy=>?_⟩
  obtain⟨G2,t2,R2,rp⟩:=g2 v H' hy
  unfold forL at hp1
  cases eh:h d δ1 with
  | none=>rw[eh] at hp1;exact hp1.elim
  | some δ2 =>
   rw[eh] at hp1
   refine hg ρ1 G2 H' μ1 σ δ1 δ2 v d _ R2 (E1.mono t2.exG) rp eh fun σ2 E2 _ _=>?_
   refine turn_ok hb t2.toS R2 E2 hM1 hM1 hp1 fun ρ3 G3 H3 σ3 δ3 μ3 t3 _ R3 E3 hM3 hp3=>?_
   refine⟨xs.length-(i+1),by omega,ρ3,G3,δ3,μ3,x1.trans t3.exG,fun a od u h=>t3.fz a od u (f1 a od u h),R3,E3,hM3,rfl,hlt,?_⟩
   rw[hds];exact PostS.shift t3 hp3
def whL (M:Nat)(ks:List Bool)(ft:TM)(gb:SM)(N:Nat):Nat→Env→Mem→Out
 | 0,_,_=>.bad
 | k+1,δ,μ=>lift (ft δ μ) δ fun b μ1=>if b=true then turnL M ks (gb N δ μ1) (whL M ks ft gb N k) else .next δ μ1
def gWh (fuel:Nat)(ks:List Bool)(ft:TM)(gb:SM):SM:=fun N δ μ=>whL μ.length ks ft gb N fuel δ μ
theorem snd_while {tc:TT}{ft:TM}{tb:TS}{gb:SM}(fuel:Nat)(ks:List Bool)(hc:SndT K W tc ft)(hb:SndS K W tb gb):SndS K W (tWhile tc tb) (gWh fuel ks ft gb):=fun N ρ G H σ δ μ Dn R E hp=>by
 refine⟨fun m σ H'=>∃ ρ1 G1 δ1 μ1,Rel K ρ1 G1 H' μ1∧EnvOk K ρ1 G1 σ δ1∧(∀ n a,ρ1 n=some a→n<μ.length) ∧
  PostS K W N ρ1 G1 H' Dn (whL μ.length ks ft gb N m δ1 μ1),⟨fuel,ρ,G,δ,μ,R,E,R.lt,hp⟩,fun m σ H' hW=>?_⟩
 obtain⟨ρ1,G1,δ1,μ1,R1,E1,hM1,hp1⟩:=hW
 cases m with
 | zero=>exact hp1.elim
 | succ k =>
  refine SndG.stm (t:=tc) hc R1 E1 hp1 fun b μ2 G2 H2 v t2 R2 E2 d hp2=>?_
  subst d
  cases v with
  | false=>exact hp2 ρ1 G2 H2 σ t2.toS R2 E2
  | true =>
   refine⟨fun σ' H''=>∃ m',m'<k+1∧_,fun σ' H'' q=>q,?_⟩
   refine turn_ok hb t2.toS R2 E2 hM1 hM1 hp2 fun ρ3 G3 H3 σ3 δ3 μ3 t3 _ R3 E3 hM3 hp4=>⟨k,by omega,ρ3,G3,δ3,μ3,R3,E3,hM3,PostS.shift t3 hp4⟩
def belowA (N:Nat)(xs:List DV):Bool:=xs.all fun x=>match x with
 | .dat _=>true
 | .loc m=>decide (m<N)
theorem belowA_ok {xs:List DV}(h:belowA N xs=true):∀ x∈xs,x.below N:=fun x hx=>by
 have:=List.all_eq_true.mp h x hx
 cases x with
 | dat d=>trivial
 | loc m=>exact(of_decide_eq_true this:m<N)
def closeR (N:Nat)(r:R)(μ:Mem):Res R:=match r with
 | .dat d=>.ok (.dat d) (μ.take N)
 | .nl xs=>if belowA N xs=true then .ok (.nl xs) (μ.take N) else .bad
 | .nk kvs=>if belowA N (kvs.map (·.2))=true then .ok (.nk kvs) (μ.take N) else .bad
 | .loc n=>if n<N then .ok (.loc n) (μ.take N) else match μ[n]? with
  | some (.lst xs)=>if belowA N xs=true then .ok (.nl xs) (μ.take N) else .bad
  | some (.dct kvs)=>if belowA N (kvs.map (·.2))=true then .ok (.nk kvs) (μ.take N) else .bad
  | _=>.bad
def callF (g:SM)(m:Nat)(args:List DV)(μ:Mem):Res R:=match g μ.length (args.map some++List.replicate m none) μ with
 | .next _ μ'=>.ok (.dat .non) (μ'.take μ.length)
 | .ret r μ'=>closeR μ.length r μ'
 | .exc x _ μ'=>.exc x (μ'.take μ.length)
 | _=>.bad
def spF (K:PySem.W.Frag)(n:Nat)(F:List DV→Mem→Res R):Sp:=fun vs H Q E=>vs.length=n∧∃ ρ G μ xs,Rel K ρ G H μ∧DvL K ρ G vs xs ∧
 PostG K (fun cls d _ H=>E cls d H) ρ G H [] (fun G' H'=>rpE K ρ G' H H') Q (F xs μ)
theorem res_back (R:Rel K ρ G H μ)(t:TrS μ.length ρ G H ρ1 G1 H1):resP μ.length ρ1=ρ:=by
 funext n
 unfold resP
 by_cases e:n<μ.length
 ·rw[if_pos e];exact t.pre n e
 ·rw[if_neg e]
  cases q:ρ n with
  | none=>rfl
  | some a=>exact absurd (R.lt n a q) e
theorem tr_back (R:Rel K ρ G H μ)(t:TrS μ.length ρ G H ρ1 G1 H1):Tr ρ G H G1 H1 where
 exG:=t.exG
 keep:=t.keep
 th:=t.th
 nG:=fun a h=>(t.nG a h).elim .inl fun q=>q.elim .inr fun⟨n,hn,z⟩=>absurd (R.lt n a z) (by omega)
 fz:=t.fz
theorem RpR.close {μ1 μ2:Mem}{r r':R}{v:V}(R:Rel K ρ G H μ)(t:TrS μ.length ρ G H ρ1 G1 H1)(R1:Rel K ρ1 G1 H1 μ1)(h:RpR K ρ1 G1 H H1 v r)(e:closeR μ.length r μ1=.ok r' μ2) :
  RpR K ρ G1 H H1 v r'∧μ2=μ1.take μ.length:=by
 have eb:=res_back R t
 have lst:∀ {a:Addr} {vs:List V} {xs:List DV},H1 a=some (.lst vs)→DvL K ρ1 G1 vs xs→G1 a=none→(∀ n,ρ n≠some a)→H a=none→belowA μ.length xs=true→RpR K ρ G1 H H1 (.ref a) (.nl xs):=fun {a vs xs} h1 h2 h3 h4 h5 h6 =>
  ⟨a,vs,rfl,h1,by have z:=h2.res (belowA_ok h6);rw[eb] at z;exact z,h3,h4,h5⟩
 have dct:∀ {a:Addr} {o:HO} {vs:List V} {xs:List (Ky×DV)},H1 a=some o→DctIs K G1 a o (xs.map (·.1)) vs→DvL K ρ1 G1 vs (xs.map (·.2))→G1 a=none→(∀ n,ρ n≠some a)→H a=none→belowA μ.length (xs.map (·.2))=true→RpR K ρ G1 H H1 (.ref a) (.nk xs):=fun {a o vs xs} h1 hk h2 h3 h4 h5 h6 =>
  ⟨a,o,vs,rfl,h1,hk,by have z:=h2.res (belowA_ok h6);rw[eb] at z;exact z,h3,h4,h5⟩
 have noρ:∀ a,(∀ n,ρ1 n≠some a)→∀ n,ρ n≠some a:=fun a h n q=>h n ((t.pre n (R.lt n a q)).trans q)
 cases r with
 | dat d=>cases e;exact⟨h,rfl⟩
 | nl xs =>
  obtain⟨a,vs,rfl,h1,h2,h3,h4,h5⟩:=h
  simp only[closeR] at e
  by_cases hb:belowA μ.length xs=true
  ·rw[if_pos hb] at e;cases e
   exact⟨lst h1 h2 h3 (noρ a h4) h5 hb,rfl⟩
  ·rw[if_neg hb] at e;cases e
 | nk kvs =>
  obtain⟨a,o,vs,rfl,h1,hk,h2,h3,h4,h5⟩:=h
  simp only[closeR] at e
  by_cases hb:belowA μ.length (kvs.map (·.2))=true
  ·rw[if_pos hb] at e;cases e
   exact⟨dct h1 hk h2 h3 (noρ a h4) h5 hb,rfl⟩
  ·rw[if_neg hb] at e;cases e
 | loc n =>
  obtain⟨a,rfl,q⟩:=h
  simp only[closeR] at e
  by_cases hn:n<μ.length
  ·rw[if_pos hn] at e;cases e
   exact⟨⟨a,rfl,(t.pre n hn).symm.trans q⟩,rfl⟩
  ·rw[if_neg hn] at e
   have hne:∀ m,ρ m≠some a:=fun m z=>by
    have h1:=(t.pre m (R.lt m a z)).trans z
    have h2:=R1.inj m n a h1 q
    exact hn (h2▸R.lt m a z)
   have h0:H a=none:=(t.nρ n a q).elim (fun z=>z.elim (fun z=>absurd z (hne n)) fun⟨m,_,z⟩=>absurd z (hne m)) id
   have hg:G1 a=none:=R1.nG n a q
   match em:μ1[n]? with
   | none=>rw[em] at e;cases e
   | some .gone=>rw[em] at e;cases e
   | some (.lkd _)=>rw[em] at e;cases e
   | some (.lkl _)=>rw[em] at e;cases e
   | some (.tp _)=>rw[em] at e;cases e
   | some (.ins _ _)=>rw[em] at e;cases e
   | some .own=>rw[em] at e;cases e
   | some (.lst xs) =>
    rw[em] at e
    obtain⟨_,b,vs,k1,k2,k3⟩:=R1.pl n _ em
    rw[q] at k1;cases k1
    by_cases hb:belowA μ.length xs=true
    ·simp only[if_pos hb] at e;cases e
     exact⟨lst k2 k3 hg hne h0 hb,rfl⟩
    ·simp only[if_neg hb] at e;cases e
   | some (.dct kvs) =>
    rw[em] at e
    obtain⟨_,b,o,vs,k1,k2,kk,k3⟩:=R1.pl n _ em
    rw[q] at k1;cases k1
    by_cases hb:belowA μ.length (kvs.map (·.2))=true
    ·simp only[if_pos hb] at e;cases e
     exact⟨dct k2 kk k3 hg hne h0 hb,rfl⟩
    ·simp only[if_neg hb] at e;cases e
theorem body_ok {ts:TS}{g:SM}{Q:VK}{E:XK}{vs:List V}{Nm:List Str}{n:Nat}(hb:SndS K (fun cls d _ H=>E cls d H) ts g)(hn:n≤Nm.length)(h:spF K n (callF g (Nm.length-n)) vs H Q E) :
  ts { nx:=fun _ H'=>Q .non H',rt:=Q } (L2.start Nm vs) H:=by
 obtain⟨hl,ρ,G,μ,xs,R,d,hp⟩:=h
 have hx:xs.length=n:=by rw[←paired_len d];exact hl
 have env:EnvOk K ρ G (L2.start Nm vs) (xs.map some++List.replicate (Nm.length-n) none):=by
  refine⟨by simp[L2.start,hl,hx],fun i x hi=>?_⟩
  have hi1:i<xs.length:=by
   by_cases e:i<xs.length
   ·exact e
   ·rw[List.getElem?_append_right (by simpa using e),List.getElem?_replicate] at hi
    split at hi <;> cases hi
  rw[List.getElem?_append_left (by simpa using hi1),List.getElem?_map,List.getElem?_eq_getElem hi1] at hi
  simp only[Option.map_some,Option.some.injEq] at hi
  have key:∀ {vs:List V} {xs:List DV} {i:Nat} (d:DvL K ρ G vs xs) (hi:i<xs.length),∃ v,vs[i]?=some v∧DvOk K ρ G v xs[i]:=by
   intro vs xs i d
   induction d generalizing i with
   | nil=>intro hi;exact absurd hi (Nat.not_lt_zero _)
   | cons r _ ih =>
    intro hi
    cases i with
    | zero=>exact⟨_,rfl,r⟩
    | succ i=>exact ih (Nat.lt_of_succ_lt_succ hi)
  obtain⟨v,h1,h2⟩:=key d hi1
  refine⟨v,?_,hi▸h2⟩
  unfold L2.start
  have hv:i<vs.length:=by omega
  rw[List.getElem?_append_left (by simpa using hv),List.getElem?_map,h1]
  rfl
 refine hb μ.length ρ G H _ _ μ _ R env ?_
 unfold callF at hp
 cases e:g μ.length (xs.map some++List.replicate (Nm.length-n) none) μ with
 | next δ' μ' =>
  rw[e] at hp
  intro ρ' G' H' σ' t R' E'
  have z:=R'.cut μ.length
  rw[res_back R t] at z
  exact hp G' H' .non (tr_back R t) z Rp.non
 | ret r μ' =>
  rw[e] at hp
  intro ρ' G' H' v t R' q
  simp only at hp
  cases ec:closeR μ.length r μ' with
  | bad=>rw[ec] at hp;exact hp.elim
  | exc x μ2=>exact(by cases r <;> simp only[closeR] at ec <;> (repeat' split at ec) <;> cases ec)
  | ok r' μ2 =>
   rw[ec] at hp
   obtain⟨q',em⟩:=RpR.close R t R' q ec
   have z:=R'.cut μ.length
   rw[res_back R t,←em] at z
   exact hp G' H' v (tr_back R t) z q'
 | brk δ' μ'=>rw[e] at hp;exact hp.elim
 | cnt δ' μ'=>rw[e] at hp;exact hp.elim
 | exc x δ' μ' =>
  rw[e] at hp
  intro ρ' G' H' σ' cls d t R' E' q
  have z:=R'.cut μ.length
  rw[res_back R t] at z
  exact hp G' H' cls d (tr_back R t) z q
 | bad=>rw[e] at hp;exact hp.elim
end
structure PSM (X:Cx)(W:WX)(st:Stmt)(ts:TS)(g:SM):Prop where
 ps:PS X st ts
 sd:SndS X.K W ts g
structure PSMs (X:Cx)(W:WX)(st:List Stmt)(ts:TS)(g:SM):Prop where
 ps:PSs X st ts
 sd:SndS X.K W ts g
structure PMI (X:Cx)(W:WX)(tg e:Expr)(wi:TI)(f:IM):Prop where
 pi:PI X tg e wi
 sd:SndI X.K W wi f
structure PMG (X:Cx)(tg:Expr)(g:TG)(h:D→Env→Option Env)(ts:List Nat):Prop where
 pg:PG X tg g
 ok:TgOk X.K g h ts
section
variable {X:Cx}{W:WX}{pos:Pos}{te:TE}{f:EM}{tt:TT}{ft:TM}{t u:TS}{g h:SM}{st:Stmt}{rest body els:List Stmt}{e:Expr}
theorem ss_nil:PSMs X W [] tNext gNext:=⟨pss_nil,snd_next⟩
theorem ss_cons (h1:PSM X W st t g)(h2:PSMs X W rest u h):PSMs X W (st::rest) (tSeq t u) (gSeq g h):=⟨pss_cons h1.ps h2.ps,snd_seq h1.sd h2.sd⟩
theorem ss_one (h1:PSM X W st t g):PSMs X W [st] t g:=⟨pss_one h1.ps,h1.sd⟩
theorem sm_expr (h:PM X W e te f)(hs:swapsWith e none pos.line X.env=pure false:=by rfl):PSM X W (.Expr e pos) (tDrop te) (gDrop f):=⟨ps_expr h.pe hs,snd_drop h.sd⟩
theorem sm_ret (h:PM X W e te f):PSM X W (.Return (some e) pos) (tRet te) (gRet f):=⟨ps_ret h.pe,snd_ret h.sd⟩
theorem sm_if (hc:PMT X W e tt ft)(h1:PSMs X W body t g)(h2:PSMs X W els u h):PSM X W (.If e body els pos) (tIfS tt t u) (gIf ft g h):=⟨ps_if hc.pe h1.ps h2.ps,snd_if hc.sd h1.sd h2.sd⟩
theorem sm_asg {x:Str}{p:Pos}(i:Nat)(hN:X.N.Nodup)(h:PM X W e te f)(hi:X.N[i]?=some x:=by rfl)(hx:Loc X.env.scope x:=by first|exact Or.inl rfl|exact Or.inr rfl)
  (hf:X.fn x=true∨X.env.scope.names.lookup x=some .local:=by first|exact .inl rfl|exact .inr rfl)
  (a1:swapsWithSole [.Name x p] e pos.line X.env=pure false:=by rfl) (a2:swappedStores [.Name x p] e X.env=pure none:=by rfl) (a3:List.map (fun x=>x.snd) (assignEach [.Name x p] X.env)=[assign (.Name x p) X.env]:=by rfl) :
  PSM X W (.Assign [.Name x p] e pos) (tAsg te (gName i)) (gAsg i f):=⟨ps_asg h.pe (pg_name hN hi hx hf) a1 a2 a3,snd_asg i h.sd⟩
theorem sm_new {x:Str}{p:Pos}(i:Nat)(hN:X.N.Nodup)(h:PM X W e te f)(hi:X.N[i]?=some x:=by rfl)(hx:Loc X.env.scope x:=by first|exact Or.inl rfl|exact Or.inr rfl)
  (hf:X.fn x=true∨X.env.scope.names.lookup x=some .local:=by first|exact .inl rfl|exact .inr rfl)
  (a1:swapsWithSole [.Name x p] e pos.line X.env=pure false:=by rfl) (a2:swappedStores [.Name x p] e X.env=pure none:=by rfl) (a3:List.map (fun x=>x.snd) (assignEach [.Name x p] X.env)=[assign (.Name x p) X.env]:=by rfl) :
  PSM X W (.Assign [.Name x p] e pos) (tAsg te (gName i)) (gNew i f):=⟨ps_asg h.pe (pg_name hN hi hx hf) a1 a2 a3,snd_new i h.sd⟩
theorem pg_nm {x:Str}(i:Nat)(hN:X.N.Nodup)(hi:X.N[i]?=some x:=by rfl)(hx:Loc X.env.scope x:=by first|exact Or.inl rfl|exact Or.inr rfl)
  (hf:X.fn x=true∨X.env.scope.names.lookup x=some .local:=by first|exact .inl rfl|exact .inr rfl):PMG X (.Name x pos) (gName i) (tgName i) [i]:=⟨pg_name hN hi hx hf,tg_name i⟩
theorem sm_for {tg iter:Expr}{wi:TI}{fi:IM}{gt:TG}{ht:D→Env→Option Env}{tv:List Nat}(ks:List Bool)(hp:PassesOwn (model X.prog X.w) X.A X.env X.xe)(hc:X.calm=true)(hi:PMI X W tg iter wi fi)(hg:PMG X tg gt ht tv)(hb:PSMs X W body t g)
  (hs:∀ (x:Value),foldedSetIterable iter X.env x=pure x:=by intro _;rfl):PSM X W (.For tg iter body [] pos) (tFor wi gt t) (gFor ks fi ht g) :=
 ⟨ps_for hp hc hi.pi hg.pg hb.ps hs,snd_for ks hi.sd hg.ok hb.sd⟩
theorem sm_while (fuel:Nat)(ks:List Bool)(hp:PassesOwn (model X.prog X.w) X.A X.env X.xe)(hc:PMT X W e tt ft)(hb:PSMs X W body t g):PSM X W (.While e body [] pos) (tWhile tt t) (gWh fuel ks ft g) :=
 ⟨ps_while hp hc.pe hb.ps,snd_while fuel ks hc.sd hb.sd⟩
end
section
variable {X:Cx}{W:WX}{pos:Pos}{te ta tb:TE}{f fa fb:EM}{tt tu:TT}{ft fu:TM}{a b e:Expr}{rest:List Expr}
def tmB (f:EM):TM:=fun δ μ=>(f δ μ).bind fun r μ'=>match r with
 | .dat (.bl b)=>.ok b μ'
 | _=>.bad
theorem snd_tmB {K:PySem.W.Frag}{tt:TT}(h:SndE K W te f)(ht:∀ σ H Q,tB te σ H Q→tt σ H Q):SndT K W tt (tmB f):=fun ρ G H σ δ μ Q R E hp=>ht σ H Q (by
 refine SndG.seq (t:=te) h R E hp fun r μ' G' H' v t' R' E' q hp'=>?_
 match r,q,hp' with
 | .dat (.bl b),q,hp'=>cases q;exact⟨b,rfl,hp' G' H' b t' R' rfl⟩
 | .dat .non,_,hp'=>exact hp'.elim
 | .dat (.int _),_,hp'=>exact hp'.elim
 | .dat (.str _),_,hp'=>exact hp'.elim
 | .dat (.ty _),_,hp'=>exact hp'.elim
 | .dat (.ref _),_,hp'=>exact hp'.elim
 | .dat (.tup _),_,hp'=>exact hp'.elim
 | .dat (.lst _),_,hp'=>exact hp'.elim
 | .dat (.fro _),_,hp'=>exact hp'.elim
 | .dat (.dct _),_,hp'=>exact hp'.elim
 | .dat (.ins _ _),_,hp'=>exact hp'.elim
 | .dat (.err _ _ _ _ _),_,hp'=>exact hp'.elim
 | .loc _,_,hp'=>exact hp'.elim
 | .nl _,_,hp'=>exact hp'.elim
 | .nk _,_,hp'=>exact hp'.elim)
theorem pt_cmp {op:CmpOp}{r:R2}{g:DV→DV→Mem→Res R}(ho:OpR X (compareOp op) r)(hd:OpD X.K r g)(ha:PM X W a ta fa)(hb:PM X W b tb fb)(hm:behindInMarks op b=false):PMT X W (.Compare a [op] [b] pos) (tTest (tOp r ta tb)) (tmB (eOp g fa fb)) :=
 ⟨pt_cmpR ho ha.pe hb.pe hm,snd_tmB (snd_op hd ha.sd hb.sd) fun _ _ _ h=>h⟩
theorem pt_of (h:PM X W e te f)(he:∀ whole,isTrue e X.env whole=(do let v ←whole;standAt e.pos;holding [v] (truthy v)):=by intro _;rfl):PMT X W e (tB te) (tmB f) :=
 ⟨L2.pt_val h.pe he,snd_tmB h.sd fun _ _ _ h=>h⟩
def tmNot (f:TM):TM:=fun δ μ=>(f δ μ).bind fun b μ'=>.ok (!b) μ'
def tmAnd (f g:TM):TM:=fun δ μ=>(f δ μ).bind fun b μ'=>if b=true then g δ μ' else .ok false μ'
def tmOr (f g:TM):TM:=fun δ μ=>(f δ μ).bind fun b μ'=>if b=true then .ok true μ' else g δ μ'
theorem pt_no (h:PMT X W a tt ft):PMT X W (.UnaryOp .Not a pos) (tNot tt) (tmNot ft):=⟨L2.pt_not h.pe,fun ρ G H σ δ μ Q R E hp =>
 SndG.seq (t:=tt) h.sd R E hp fun b μ' G' H' v t' R' E' q hp'=>by subst q;exact hp' G' H' (!v) t' R' rfl⟩
structure PMW (X:Cx)(W:WX)(e:Expr)(tt:TT)(f:TM):Prop where
 pe:PW X e tt
 sd:SndT X.K W tt f
theorem PMW.t (h:PMW X W e tt ft):PMT X W e tt ft:=⟨h.pe.pt,h.sd⟩
theorem w_and1 (h:PMT X W a tt ft):PMW X W (.BoolOp .And [a] pos) tt ft:=⟨pw_and1 h.pe,h.sd⟩
theorem w_or1 (h:PMT X W a tt ft):PMW X W (.BoolOp .Or [a] pos) tt ft:=⟨pw_or1 h.pe,h.sd⟩
theorem w_and (h:PMT X W a tt ft)(hb:PMW X W (.BoolOp .And (b::rest) pos) tu fu):PMW X W (.BoolOp .And (a::b::rest) pos) (tAnd tt tu) (tmAnd ft fu):=⟨pw_and h.pe hb.pe,fun ρ G H σ δ μ Q R E hp=>by
 refine SndG.seq (t:=tt) h.sd R E hp fun b μ' G' H' v t' R' E' q hp'=>?_
 subst q
 cases v with
 | true=>exact hb.sd ρ G' H' σ δ μ' Q R' E' (hp'.shift t' fun _ _ _ _ q=>q)
 | false=>exact hp' G' H' false t' R' rfl⟩
theorem w_or (h:PMT X W a tt ft)(hb:PMW X W (.BoolOp .Or (b::rest) pos) tu fu):PMW X W (.BoolOp .Or (a::b::rest) pos) (tOr tt tu) (tmOr ft fu):=⟨pw_or h.pe hb.pe,fun ρ G H σ δ μ Q R E hp=>by
 refine SndG.seq (t:=tt) h.sd R E hp fun b μ' G' H' v t' R' E' q hp'=>?_
 subst q
 cases v with
 | true=>exact hp' G' H' true t' R' rfl
 | false=>exact hb.sd ρ G' H' σ δ μ' Q R' E' (hp'.shift t' fun _ _ _ _ q=>q)⟩
def asB (r:R):Option Bool:=match r with
 | .dat (.bl b)=>some b
 | _=>none
theorem asB_ok {K:PySem.W.Frag}{ρ:Pm}{G H0 H:Hp}{v:V}{r:R}{b:Bool}(h:RpR K ρ G H0 H v r)(e:asB r=some b):v=.bl b:=by
 unfold asB at e
 split at e
 ·cases e;cases h;rfl
 ·cases e
def eAnd (f g:EM):EM:=fun δ μ=>(f δ μ).bind fun r μ'=>match asB r with
 | some true=>g δ μ'
 | some false=>.ok (.dat (.bl false)) μ'
 | none=>.bad
def eOr (f g:EM):EM:=fun δ μ=>(f δ μ).bind fun r μ'=>match asB r with
 | some true=>.ok (.dat (.bl true)) μ'
 | some false=>g δ μ'
 | none=>.bad
def eNot (f:EM):EM:=fun δ μ=>(f δ μ).bind fun r μ'=>match asB r with
 | some b=>.ok (.dat (.bl (!b))) μ'
 | none=>.bad
theorem pm_one {op}(h:PM X W a te f):PM X W (.BoolOp op [a] pos) te f:=⟨pe_one h.pe,h.sd⟩
theorem pm_and (ha:PM X W a ta fa)(hb:PM X W (.BoolOp .And (b::rest) pos) tb fb):PM X W (.BoolOp .And (a::b::rest) pos) (tAndV ta tb) (eAnd fa fb):=⟨pe_and ha.pe hb.pe,fun ρ G H σ δ μ Q R E hp=>by
 refine SndG.seq (t:=ta) ha.sd R E hp fun r μ' G' H' v t' R' E' q hp'=>?_
 match e:asB r with
 | none=>rw[e] at hp';exact hp'.elim
 | some c =>
  rw[e] at hp'
  refine⟨c,asB_ok q e,?_⟩
  cases c with
  | true=>exact hb.sd ρ G' H' σ δ μ' Q R' E' (hp'.shiftE t')
  | false=>exact hp' G' H' _ t' R' (Rp.bl false)⟩
theorem pm_or (ha:PM X W a ta fa)(hb:PM X W (.BoolOp .Or (b::rest) pos) tb fb):PM X W (.BoolOp .Or (a::b::rest) pos) (tOrV ta tb) (eOr fa fb):=⟨pe_or ha.pe hb.pe,fun ρ G H σ δ μ Q R E hp=>by
 refine SndG.seq (t:=ta) ha.sd R E hp fun r μ' G' H' v t' R' E' q hp'=>?_
 match e:asB r with
 | none=>rw[e] at hp';exact hp'.elim
 | some c =>
  rw[e] at hp'
  refine⟨c,asB_ok q e,?_⟩
  cases c with
  | true=>exact hp' G' H' _ t' R' (Rp.bl true)
  | false=>exact hb.sd ρ G' H' σ δ μ' Q R' E' (hp'.shiftE t')⟩
theorem pm_not (ha:PM X W a ta fa):PM X W (.UnaryOp .Not a pos) (tNotV ta) (eNot fa):=⟨pe_not ha.pe,fun ρ G H σ δ μ Q R E hp=>by
 refine SndG.seq (t:=ta) ha.sd R E hp fun r μ' G' H' v t' R' E' q hp'=>?_
 match e:asB r with
 | none=>rw[e] at hp';exact hp'.elim
 | some c=>rw[e] at hp';exact⟨c,asB_ok q e,hp' G' H' _ t' R' (Rp.bl _)⟩⟩
def eIf (f:TM)(g h:EM):EM:=fun δ μ=>(f δ μ).bind fun b μ'=>if b=true then g δ μ' else h δ μ'
theorem pm_if {c:Expr}(hc:PMT X W c tt ft)(ha:PM X W a ta fa)(hb:PM X W b tb fb):PM X W (.IfExp c a b pos) (tIf tt ta tb) (eIf ft fa fb):=⟨pe_ifExp hc.pe ha.pe hb.pe,fun ρ G H σ δ μ Q R E hp=>by
 refine SndG.seq (t:=tt) hc.sd R E hp fun b μ' G' H' v t' R' E' q hp'=>?_
 subst q
 cases v with
 | true=>exact ha.sd ρ G' H' σ δ μ' Q R' E' (hp'.shiftE t')
 | false=>exact hb.sd ρ G' H' σ δ μ' Q R' E' (hp'.shiftE t')⟩
end
def wipeE (δ:Env):List Nat→Env
 | []=>δ
 | v::vs=>(wipeE δ vs).set v none
def WF:WX:=fun _ _ _ _=>False
def lcL (h:D→Env→Option Env)(ft:TM)(fe:EM)(δ:Env):List D→Mem→Res (List DV)
 | [],μ=>.ok [] μ
 | d::ds,μ=>match h d δ with
  | none=>.bad
  | some δ1=>match ft δ1 μ with
   | .ok true μ1=>match frzV fe δ1 μ1 with
    | .ok y μ2=>(lcL h ft fe δ ds μ2).bind fun ys μ3=>.ok (y::ys) μ3
    | _=>.bad
   | .ok false μ1=>lcL h ft fe δ ds μ1
   | _=>.bad
def eLc (fi:IM)(h:D→Env→Option Env)(ft:TM)(fe:EM)(vs:List Nat):EM:=fun δ μ=>(fi δ μ).bind fun xs μ' =>
 if xs.length≤sizeLine then(lcL h ft fe (wipeE δ vs) xs μ').bind fun ys μ2=>.ok (.nl ys) μ2 else .bad
section
variable {K:PySem.W.Frag}{W:WX}{N M:Nat}{ρ ρ0 ρ1 ρ2:Pm}{G H G0 H0 G1 H1 G2 H2:Hp}{σ:Slots}{δ:Env}{μ:Mem}{Dn:Ends}
theorem EnvOk.wipe (E:EnvOk K ρ G σ δ):∀ vs:List Nat,EnvOk K ρ G (wipe σ vs) (wipeE δ vs)
 | []=>E
 | v::vs=>by
  have E':=EnvOk.wipe E vs
  refine⟨?_,fun i x hi=>?_⟩
  ·show((L2.wipe σ vs).set v none).length=((wipeE δ vs).set v none).length
   rw[List.length_set,List.length_set];exact E'.len
  ·have hi:((wipeE δ vs).set v none)[i]?=some (some x):=hi
   show ∃ w,((L2.wipe σ vs).set v none)[i]?=some (some w)∧_
   by_cases e:v=i
   ·subst e
    by_cases hl:v<(wipeE δ vs).length
    ·rw[List.getElem?_set_self hl] at hi;cases hi
    ·rw[List.getElem?_eq_none (by rw[List.length_set];omega)] at hi;cases hi
   ·rw[List.getElem?_set_ne e] at hi ⊢
    exact E'.at_ i x hi
theorem Rel.poke {p:Addr}{o:HO}(R:Rel K ρ G H μ)(hg:G p=none)(hn:∀ n,ρ n≠some p):Rel K ρ G (upd H p o) μ:=by
 refine⟨fun a u h=>?_,R.inj,R.nG,R.lt,fun n a h q=>?_,fun n q h=>?_⟩
 ·have e:a≠p:=fun e=>by rw[e,hg] at h;cases h
  rw[upd_ne e];exact R.ex a u h
 ·have e:a≠p:=fun e=>hn n (e▸h)
  rw[upd_ne e] at q;exact R.hs n a h q
 ·have z:=R.pl n q h
  cases q with
  | lst xs=>obtain⟨b,a,vs,h1,h2,h3⟩:=z;exact⟨b,a,vs,h1,by rw[upd_ne (show a≠p from fun e=>hn n (e▸h1))];exact h2,h3⟩
  | dct kvs=>obtain⟨b,a,o,vs,h1,h2,h3⟩:=z;exact⟨b,a,o,vs,h1,by rw[upd_ne (show a≠p from fun e=>hn n (e▸h1))];exact h2,h3⟩
  | lkd kvs=>obtain⟨b,a,o,vs,h1,h2,h3⟩:=z;exact⟨b,a,o,vs,h1,by rw[upd_ne (show a≠p from fun e=>hn n (e▸h1))];exact h2,h3⟩
  | lkl xs=>obtain⟨b,a,o,vs,h1,h2,h3⟩:=z;exact⟨b,a,o,vs,h1,by rw[upd_ne (show a≠p from fun e=>hn n (e▸h1))];exact h2,h3⟩
  | tp xs=>obtain⟨b,a,o,vs,h1,h2,h3⟩:=z;exact⟨b,a,o,vs,h1,by rw[upd_ne (show a≠p from fun e=>hn n (e▸h1))];exact h2,h3⟩
  | own=>obtain⟨a,b,h1,h2⟩:=z;exact⟨a,b,h1,by rw[upd_ne (show a≠p from fun e=>hn n (e▸h1))];exact h2⟩
  | ins nm fs=>obtain⟨b,a,dx,C,vs,m,hm,h1,h2,c,h4,h3⟩:=z;exact⟨b,a,dx,C,vs,m,hm,h1,by rw[upd_ne (show a≠p from fun e=>hn n (e▸h1))];exact h2,c,by rw[upd_ne (show dx≠p from fun e=>hn m (e▸hm.2))];exact h4,h3⟩
  | gone=>exact z
theorem Tr.poke {p:Addr}{o:HO}(t:Tr ρ G0 H0 G H)(h0:H0 p=none):Tr ρ G0 H0 G (upd H p o) where
 exG:=t.exG
 keep:=fun a u hn h=>by rw[upd_ne (ne_of_none h h0)];exact t.keep a u hn h
 th:=fun a h=>by
  by_cases e:a=p
  ·rw[e];exact h0
  ·rw[upd_ne e] at h;exact t.th a h
 nG:=t.nG
 fz:=fun a od u h=>by rw[upd_ne (ne_of_none h h0)];exact t.fz a od u h
theorem paired_snoc {α β:Type}{P:α→β→Prop}:∀ {l:List α} {m:List β} {a:α} {b:β},Paired P l m→P a b→Paired P (l++[a]) (m++[b])
 | _,_,_,_,.nil,h=>.cons h .nil
 | _,_,_,_,.cons r t,h=>.cons r (paired_snoc t h)
theorem snd_lc {wi:TI}{fi:IM}{g:TG}{h:D→Env→Option Env}{tv vs:List Nat}{tt:TT}{ft:TM}{te:TE}{fe:EM}(hi:SndI K W wi fi)(hg:TgOk K g h tv)(hv:∀ i∈tv,i∈vs)(ht:SndT K WF tt ft)(he:SndE K WF te fe) :
  SndE K W (tLc wi g tt te vs) (eLc fi h ft fe vs):=fun ρ G H σ δ μ Q R E hp=>by
 refine SndG.seq (t:=wi) hi R E hp fun xs μ0 G0 H0 J t0 R0 E0 it hp0=>?_
 by_cases hz:xs.length≤sizeLine
 case neg=>rw[if_neg hz] at hp0;exact hp0.elim
 rw[if_pos hz] at hp0
 intro Dl hD
 obtain⟨nG0,nρ0⟩:=fresh_ne R0 hD
 have hp0:=hp0.shiftE t0
 refine⟨fun i m H1=>∃ G1 μ1 accV pre,Tr ρ G0 H0 G1 H1∧Rel K ρ G1 H1 μ1∧G1 Dl=none∧H1 Dl=some (.lst accV)∧DvL K ρ G1 accV pre∧pre.length≤i∧m=xs.length-i∧i≤xs.length ∧
  PostG K W ρ G0 H0 σ (fun G' H'=>rpE K ρ G' H0 H') Q ((lcL h ft fe (wipeE δ vs) (xs.drop i) μ1).bind fun ys μ2=>.ok (.nl (pre++ys)) μ2),⟨xs.length,G0,μ0,[],[],(Tr.refl _ _ _).poke hD,R0.poke nG0 nρ0,nG0,upd_same,.nil,by simp,by omega,by omega,?_⟩,fun i m H1 hW=>?_⟩
 ·exact hp0
 obtain⟨G1,μ1,accV,pre,t1,R1,nG1,eD,dl,hlen,em,hle,hp1⟩:=hW
 obtain⟨go,stop⟩:=it ρ G1 H1 μ1 R1 t1.exG t1.fz
 cases e:xs.drop i with
 | nil =>
  rw[e] at hp1
  have hl:xs.length≤i:=by
   have:=congrArg List.length e
   rw[List.length_drop] at this
   simp at this;omega
  simp only[lcL,Res.bind_ok,List.append_nil] at hp1
  exact .inl ⟨stop i hl,hp1 G1 H1 _ t1 R1 ⟨Dl,accV,rfl,eD,dl,nG1,nρ0,hD⟩⟩
 | cons d ds =>
  rw[e] at hp1
  obtain⟨hd,hds,hlt⟩:=drop_cons e
  obtain⟨g1,g2⟩:=go i d hd
  refine .inr ⟨g1,fun H'=>∃ m',m'<m∧_,fun H' q=>q,fun v H2 hy=>?_⟩
  obtain⟨G2,t2,R2,rp⟩:=g2 v H2 hy
  have E2:EnvOk K ρ G2 (wipe σ vs) (wipeE δ vs):=(E0.mono (t1.exG.trans t2.exG)).wipe vs
  unfold lcL at hp1
  cases eh:h d (wipeE δ vs) with
  | none=>simp only[eh] at hp1;exact hp1.elim
  | some δ1 =>
   simp only[eh] at hp1
   refine hg ρ G2 H2 μ1 _ (wipeE δ vs) δ1 v d _ R2 E2 rp eh fun σ2 E3 hl hσ=>⟨?_,?_⟩
   ·refine(wipe_ext (τ:=wipe σ vs) hl fun i hi=>hσ i fun z=>hi (hv i z)).trans ?_
    exact wipe_ext (by rw[wipe_length]) fun i hi=>wipe_out hi
   have nG2:∀ {G' H'},Tr ρ G1 H1 G' H'→G' Dl=none:=fun {G' H'} t'=>by
    cases q:G' Dl with
    | none=>rfl
    | some o=>exact((t'.nG Dl (by rw[q];simp)).elim (fun z=>absurd nG1 z) fun z=>by rw[eD] at z;cases z)
   refine ht ρ G2 H2 σ2 δ1 μ1 _ R2 E3 ?_
   cases et:ft δ1 μ1 with
   | exc x μ'=>simp only[et] at hp1;exact hp1.elim
   | bad=>simp only[et] at hp1;exact hp1.elim
   | ok b μ2 =>
    intro G3 H3 bv t3 R3 eb
    subst eb
    simp only[et] at hp1
    have T3:=t2.trans t3
    cases bv with
    | false =>
     refine⟨xs.length-(i+1),by omega,G3,μ2,accV,pre,t1.trans T3,R3,nG2 T3,T3.keep _ _ nρ0 eD,DvL.mono T3.exG (fun _ _ q=>q) dl,by omega,rfl,hlt,?_⟩
     rw[hds];exact hp1
    | true =>
     refine he.toV ρ G3 H3 σ2 δ1 μ2 _ R3 (E3.mono t3.exG) ?_
     simp only at hp1
     cases ee:frzV fe δ1 μ2 with
     | exc x μ'=>simp only[ee] at hp1;exact hp1.elim
     | bad=>simp only[ee] at hp1;exact hp1.elim
     | ok y μ3 =>
      simp only[ee] at hp1
      intro G4 H4 yv t4 R4 dy
      have T4:=T3.trans t4
      refine⟨accV,T4.keep _ _ nρ0 eD,?_,xs.length-(i+1),by omega,G4,μ3,accV++[yv],pre++[y],(t1.trans T4).poke hD,R4.poke (nG2 T4) nρ0,nG2 T4,upd_same,paired_snoc (DvL.mono T4.exG (fun _ _ q=>q) dl) dy,?_,rfl,hlt,?_⟩
      ·rw[paired_len dl];omega
      ·rw[List.length_append,List.length_singleton];omega
      ·rw[hds]
       have z:((lcL h ft fe (wipeE δ vs) ds μ3).bind fun ys μ2=>Res.ok (DL.R.nl (pre++[y]++ys)) μ2)=(((lcL h ft fe (wipeE δ vs) ds μ3).bind fun ys μ3=>Res.ok (y::ys) μ3).bind fun ys μ2=>.ok (DL.R.nl (pre++ys)) μ2):=by
        cases lcL h ft fe (wipeE δ vs) ds μ3 <;> simp
       rw[z];exact hp1
theorem snd_yes:SndT K W tYes (fun _ μ=>.ok true μ):=fun ρ G H σ δ μ Q R E hp=>hp G H true (Tr.refl _ _ _) R rfl
end
section
variable {X:Cx}{W:WX}
structure PMTs (X:Cx)(W:WX)(ifs:List Expr)(tt:TT)(f:TM):Prop where
 pe:PTs X ifs tt
 sd:SndT X.K W tt f
def tmYes:TM:=fun _ μ=>.ok true μ
theorem ts_nil:PMTs X W [] tYes tmYes:=⟨pts_nil,snd_yes⟩
theorem pm_lc {elt tg iter:Expr}{ifs:List Expr}{scope:Scope}{own:List (Str×Nat)}{pos:Pos}{wi:TI}{fi:IM}{g:TG}{h:D→Env→Option Env}{tv:List Nat}{tt:TT}{ft:TM}{te:TE}{fe:EM}(hc:X.calm=true)(hN:X.N.Nodup)
  (hi:PMI X W tg iter wi fi) (ok:BlkOk X.N X.env.scope scope own)
  (hg:∀ (s:Shared) (H:Hp) (C:Addr) (cl:List (Str×Addr)) (fp:List Addr),PMG (X.blk s H scope (compEnvC scope cl C X.env) fp) tg g h tv)
  (hv:∀ i∈tv,i∈own.map (·.2))
  (ht:∀ (s:Shared) (H:Hp) (C:Addr) (cl:List (Str×Addr)) (fp:List Addr),PMTs (X.blk s H scope (compEnvC scope cl C X.env) fp) WF ifs tt ft)
  (he:∀ (s:Shared) (H:Hp) (C:Addr) (cl:List (Str×Addr)) (fp:List Addr),PM (X.blk s H scope (compEnvC scope cl C X.env) fp) WF elt te fe)
  (hs:∀ x,foldedSetIterable iter X.env x=pure x:=by intro _;rfl) :
  PM X W (.ListComp elt [⟨tg,iter,ifs,0⟩] scope pos) (tLc wi g tt te (own.map (·.2))) (eLc fi h ft fe (own.map (·.2))) :=
 ⟨pe_lc hc hN hi.pi ok (fun s H C cl fp=>(hg s H C cl fp).pg) (fun s H C cl fp=>(ht s H C cl fp).pe) (fun s H C cl fp=>(he s H C cl fp).pe) hs,
  snd_lc hi.sd (hg X.s_0 X.H_0 0 [] []).ok hv (ht X.s_0 X.H_0 0 [] []).sd (he X.s_0 X.H_0 0 [] []).sd⟩
abbrev EW (W:WX):Slots→XK:=fun σ cls d H=>W cls d σ H
theorem snd_call {K:PySem.W.Frag}{F:List DV→Mem→Res R}{n:Nat}{ta:TA}{fa:AM}(ha:SndA K W ta fa)(hn:∀ xs μ,F xs μ≠.bad→xs.length=n):SndE K W (tCallSD (spF K n F) [] (EW W) ta) (eCB F fa):=fun ρ G H σ δ μ Q R E hp=>by
 refine SndG.seq (t:=ta) ha R E hp fun xs μ1 G1 H1 vs t1 R1 E1 d1 hp1=>?_
 have hp2:=hp1.shiftE t1
 have hb:F xs μ1≠.bad:=fun e=>by rw[e] at hp2;exact hp2
 show spF K n F (vs++[]) H1 Q (EW W σ)
 rw[List.append_nil]
 refine⟨by rw[paired_len d1];exact hn xs μ1 hb,ρ,G1,μ1,xs,R1,d1,?_⟩
 cases e:F xs μ1 with
 | ok r μ'=>rw[e] at hp2;exact hp2
 | exc x μ'=>rw[e] at hp2;exact hp2
 | bad=>exact hb e
structure FnD (P:Program)(w:World)(K:PySem.W.Frag)(mg:Str→Option Value)(base:Heap)(cx:CXT)(k:Nat)(x:Str)(n:Nat)(F:List DV→Mem→Res R):Prop where
 ar:∀ xs μ,F xs μ≠.bad→xs.length=n
 ex:∃ (f:Addr) (fd:FuncData) (ps:List Str),ps.length=n∧FnG P w K mg base cx k f fd ps (spF K n F)∧mg x=some (.ref f)∧PySem.W.keepIn K (.ref f)=true∧Binds K fd ps []
theorem pm_call {cx:CXT}{k n:Nat}{x:Str}{F:List DV→Mem→Res R}{e:Expr}{es:List Expr}{ta:TA}{fa:AM}{p pos:Pos}(Fn:FnD X.prog X.w X.K X.mg X.base cx k x n F)(hr:Room k X.A)(hgd:X.A.guards=some [])(hg:Gl X x)
  (hx:∀ σ,PassesAt cx X σ (EW W σ)) (ha:PMA X W (e::es) ta fa) (hdb:(x==("__debug__":Str))=false:=by decide)
  (he:starEach (e::es) X.env=(false,eval e X.env)::starEach es X.env:=by rfl) (hpl:(backTo pos (starEach es X.env)).any (·.1)=false:=by rfl) :
  PM X W (.Call (.Name x p) (e::es) [] pos) (tCallSD (spF X.K n F) [] (EW W) ta) (eCB F fa):=by
 obtain⟨f,fd,ps,hn,G,hm,hk,hb⟩:=Fn.ex
 exact⟨pe_callG G hr hgd hg hm hk hb .nil hx ha.pe hdb he hpl,snd_call ha.sd Fn.ar⟩
def callD (g:SM)(n m:Nat):List DV→Mem→Res R:=fun xs μ=>if xs.length=n then callF g m xs μ else .bad
theorem callD_ar {g:SM}{n m:Nat}(xs:List DV)(μ:Mem)(h:callD g n m xs μ≠.bad):xs.length=n:=by
 unfold callD at h
 by_cases e:xs.length=n
 ·exact e
 ·rw[if_neg e] at h;exact absurd rfl h
theorem sp_callD {K:PySem.W.Frag}{g:SM}{n m:Nat}{vs:List V}{H:Hp}{Q:VK}{E:XK}(h:spF K n (callD g n m) vs H Q E):spF K n (callF g m) vs H Q E:=by
 obtain⟨hl,ρ,G,μ,xs,R,d,hp⟩:=h
 refine⟨hl,ρ,G,μ,xs,R,d,?_⟩
 unfold callD at hp
 rw[if_pos (by rw[←paired_len d];exact hl)] at hp
 exact hp
variable {P:Program}{w:World}{K:PySem.W.Frag}{mg:Str→Option Value}{base:Heap}
theorem fn_ok {x qual:Str}{st:Stmt}{f:Addr}{fd:FuncData}{Nm ps:List Str}{k n m:Nat}{g:SM}(F:Fun K x qual st f fd)(S:FnScope Nm ps (defScope st))(hm:mg x=some (.ref f))(hn:ps.length=n)(hmn:Nm.length=n+m)
  (hb:∀ (kV doc pm:Value) (an:Option Addr) (cdv ct:Value) (us:List Value),us.length=ps.length→bindArgs (PySem.W.fnOf x qual (defArgs st) (defBody st) (defScope st) .none kV doc pm an cdv ct) ⟨us,[]⟩=pure (ps.zip us))
  (body:∀ (cdv:Value) (A:Around) (out:List PySem.Env) (s:Shared) (H:Hp) (E:XK),Room k (A.deeper (envOfC qual (defScope st) s.heap.objs.size f cdv))→A.guards=some [] →
   ∃ ts,PSMs (cxOf CX0 P w K mg base Nm qual (defScope st) f cdv A out s H E).nox (fun cls d _ H=>E cls d H) (defBody st) ts g) :
  FnD P w K mg base CX0 (k+1) x n (callD g n m):=by
 refine⟨callD_ar,f,fd,ps,hn,?_,hm,F.kp,F.binds hb⟩
 obtain⟨oc,od,kV,doc,pm,an,cdv,ct,osl,rfl,lk,hcd⟩:=F.ex
 refine fnG_of lk hcd S (fun vs H Q E h=>by rw[h.1,hn]) fun A out s H vs Q E hr hg hsp=>?_
 obtain⟨ts,b⟩:=body cdv A out s H E hr hg
 refine⟨ts,b.ps.nox,?_⟩
 have e:Nm.length-n=m:=by omega
 exact body_ok (n:=n) b.sd (by omega) (by rw[e];exact sp_callD hsp)
theorem pass_0 {X:Cx}{E:Slots→XK}(σ:Slots):PassesAt CX0 X σ (E σ):=fun _ _ _ _ _ _ h=>h.elim
end
theorem OpR.or {X:Cx}{f:Value→Value→Sem Value}{r r':R2}(h:OpR X f r)(h':OpR X f r'):OpR X f (fun x y H Q=>r x y H Q∨r' x y H Q) :=
 fun pins s σ H x y v u Q I rx ry q=>q.elim (h pins s σ H x y v u Q I rx ry) (h' pins s σ H x y v u Q I rx ry)
theorem CallR.or {X:Cx}{f:Value}{r r':List V→Hp→VK→Prop}(h:CallR X f r)(h':CallR X f r'):CallR X f (fun x H Q=>r x H Q∨r' x H Q) :=
 fun pins s σ H x v Q I rx q=>q.elim (h pins s σ H x v Q I rx) (h' pins s σ H x v Q I rx)
theorem SlR.or {X:Cx}{r r':V→Option Int→Option Int→Hp→VK→Prop}(h:SlR X r)(h':SlR X r'):SlR X (fun x lo hi H Q=>r x lo hi H Q∨r' x lo hi H Q) :=
 fun pins s σ H x v vl vu lo hi sl Q I rx a b c q=>q.elim (h pins s σ H x v vl vu lo hi sl Q I rx a b c) (h' pins s σ H x v vl vu lo hi sl Q I rx a b c)
def asL (μ:Mem):DV→Option (List DV)
 | .dat (.lst ds)=>some (ds.map DV.dat)
 | .dat (.fro ds)=>some (ds.map DV.dat)
 | .loc n=>match μ[n]? with
  | some (.lst xs)=>some xs
  | _=>none
 | _=>none
def asM (μ:Mem):DV→Option (List DV)
 | .dat (.lst ds)=>some (ds.map DV.dat)
 | .loc n=>match μ[n]? with
  | some (.lst xs)=>some xs
  | _=>none
 | _=>none
def asT:DV→Option (List D)
 | .dat (.tup ds)=>some ds
 | _=>none
def asS (μ:Mem)(x:DV):Option (List DV):=match asL μ x with
 | some xs=>some xs
 | none=>(asT x).map fun ds=>ds.map DV.dat
section
variable {K:PySem.W.Frag}{W:WX}{N M:Nat}{ρ:Pm}{G H:Hp}{σ:Slots}{δ:Env}{μ:Mem}{Q:VK}{v:V}{x:DV}
theorem RpL.dv {vs:List V}{ds:List D}:RpL K G vs ds→DvL K ρ G vs (ds.map DV.dat)
 | .nil=>.nil
 | .cons a b=>.cons a (RpL.dv b)
theorem asL_ok {xs:List DV}(R:Rel K ρ G H μ)(h:DvOk K ρ G v x)(e:asL μ x=some xs):∃ a vs,v=.ref a∧SqL K H a vs∧DvL K ρ G vs xs:=by
 unfold asL at e
 split at e
 ·cases e
  cases h with
  | lst h r=>exact⟨_,_,rfl,.inl (.inl (R.ex _ _ h)),r.dv⟩
 ·cases e
  cases h with
  | fro h r=>exact⟨_,_,rfl,ex_l R.ex h,r.dv⟩
 ·rename_i n
  split at e
  ·rename_i q
   cases e
   obtain⟨a,rfl,hn⟩:=h
   obtain⟨_,b,vs,h1,h2,h3⟩:=R.pl n _ q
   rw[hn] at h1;cases h1
   exact⟨a,vs,rfl,.inl (.inl h2),h3⟩
  ·cases e
 ·cases e
theorem asM_ok {xs:List DV}(R:Rel K ρ G H μ)(h:DvOk K ρ G v x)(e:asM μ x=some xs):∃ a vs,v=.ref a∧H a=some (.lst vs)∧DvL K ρ G vs xs:=by
 unfold asM at e
 split at e
 ·cases e
  cases h with
  | lst h r=>exact⟨_,_,rfl,R.ex _ _ h,r.dv⟩
 ·rename_i n
  split at e
  ·rename_i q
   cases e
   obtain⟨a,rfl,hn⟩:=h
   obtain⟨_,b,vs,h1,h2,h3⟩:=R.pl n _ q
   rw[hn] at h1;cases h1
   exact⟨a,vs,rfl,h2,h3⟩
  ·cases e
 ·cases e
theorem asT_ok {ds:List D}(R:Rel K ρ G H μ)(h:DvOk K ρ G v x)(e:asT x=some ds):∃ a vs,v=.ref a∧SqT K H a vs∧RpL K G vs ds:=by
 unfold asT at e
 split at e
 ·cases e
  cases h with
  | tup h r=>exact⟨_,_,rfl,ex_t R.ex h,r⟩
 ·cases e
theorem asT_eq {ds:List D}(e:asT x=some ds):x=.dat (.tup ds):=by
 unfold asT at e
 split at e
 ·cases e;rfl
 ·cases e
theorem new_tup {G0 H0:Hp}{p:Addr}{vs:List V}{ds:List D}(R:Rel K ρ G H μ)(t:Tr ρ G0 H0 G H)(hn:H p=none)(r:RpL K G vs ds)
  (hp:PostG K W ρ G0 H0 σ (fun G' H'=>rpE K ρ G' H0 H') Q (.ok (.dat (.tup ds)) μ)):Q (.ref p) (upd H p (.tup vs)):=by
 obtain⟨R2,t2,ex⟩:=R.layD (o:=.tup vs) hn
 exact hp _ _ _ (t.trans t2) R2 (Rp.tup (.inl (.inl upd_same)) (r.mono ex))
theorem asS_ok {xs:List DV}(R:Rel K ρ G H μ)(h:DvOk K ρ G v x)(e:asS μ x=some xs):∃ a vs,v=.ref a∧(SqL K H a vs∨SqT K H a vs)∧DvL K ρ G vs xs:=by
 unfold asS at e
 split at e
 ·rename_i q
  cases e
  obtain⟨a,vs,h1,h2,h3⟩:=asL_ok R h q
  exact⟨a,vs,h1,.inl h2,h3⟩
 ·cases q:asT x with
  | none=>rw[q] at e;cases e
  | some ds =>
   rw[q] at e;cases e
   obtain⟨a,vs,h1,h2,h3⟩:=asT_ok R h q
   exact⟨a,vs,h1,.inr h2,h3.dv⟩
theorem DvL.get':∀ {vs:List V} {xs:List DV} {i:Nat} {y:DV},DvL K ρ G vs xs→xs[i]?=some y→∃ w,vs[i]?=some w∧DvOk K ρ G w y
 | _,_,_,_,.nil,h=>by simp at h
 | _,_,0,_,.cons a _,h=>by cases h;exact⟨_,rfl,a⟩
 | _,_,i+1,v,.cons _ b,h=>DvL.get' (i:=i) b h
theorem DvL.take {vs:List V}{xs:List DV}(h:DvL K ρ G vs xs)(n:Nat):DvL K ρ G (vs.take n) (xs.take n):=by
 induction h generalizing n with
 | nil=>simp;exact .nil
 | cons a _ ih =>
  cases n with
  | zero=>exact .nil
  | succ n=>exact .cons a (ih n)
theorem DvL.drop {vs:List V}{xs:List DV}(h:DvL K ρ G vs xs)(n:Nat):DvL K ρ G (vs.drop n) (xs.drop n):=by
 induction h generalizing n with
 | nil=>simp;exact .nil
 | cons a b ih =>
  cases n with
  | zero=>exact .cons a b
  | succ n=>exact ih n
theorem DvL.append {vs ws:List V}{xs ys:List DV}(h:DvL K ρ G vs xs)(h':DvL K ρ G ws ys):DvL K ρ G (vs++ws) (xs++ys):=by
 induction h with
 | nil=>exact h'
 | cons a _ ih=>exact .cons a ih
theorem PostG.okD {d:D}(h:PostG K W ρ G H σ (fun G' H'=>rpE K ρ G' H H') Q (.ok (.dat d) μ))(R:Rel K ρ G H μ)(r:Rp K G v d):Q v H:=h G H v (Tr.refl _ _ _) R r
theorem PostG.okV {y:DV}(h:PostG K W ρ G H σ (fun G' H'=>rpE K ρ G' H H') Q (.ok (ofV y) μ))(R:Rel K ρ G H μ)(r:DvOk K ρ G v y):Q v H:=h G H v (Tr.refl _ _ _) R (RpR.ofV r)
def asI:DV→Option Int
 | .dat (.int i)=>some i
 | _=>none
def asStr:DV→Option Str
 | .dat (.str i)=>some i
 | _=>none
def asBl:DV→Option Bool
 | .dat (.bl i)=>some i
 | _=>none
theorem asI_ok {i:Int}(h:DvOk K ρ G v x)(e:asI x=some i):v=.int i:=by
 unfold asI at e
 split at e
 ·cases e;cases h;rfl
 ·cases e
theorem asStr_ok {i:Str}(h:DvOk K ρ G v x)(e:asStr x=some i):v=.str i:=by
 unfold asStr at e
 split at e
 ·cases e;cases h;rfl
 ·cases e
theorem asBl_ok {i:Bool}(h:DvOk K ρ G v x)(e:asBl x=some i):v=.bl i:=by
 unfold asBl at e
 split at e
 ·cases e;cases h;rfl
 ·cases e
def d2I (C:Int→Int→Bool)(g:Int→Int→D)(x y:DV)(μ:Mem):Res R:=match asI x with
 | none=>.bad
 | some i=>match asI y with
  | none=>.bad
  | some j=>if C i j=true then .ok (.dat (g i j)) μ else .bad
theorem od_I {C:Int→Int→Prop}{Cb:Int→Int→Bool}{g:Int→Int→V}{gd:Int→Int→D}(hC:∀ i j,Cb i j=true→C i j)(hg:∀ G i j,Rp K G (g i j) (gd i j)):OpD K (rI C g) (d2I Cb gd):=fun W ρ G H σ μ v w x y Q R hx hy hp=>by
 unfold d2I at hp
 cases e1:asI x with
 | none=>rw[e1] at hp;exact hp.elim
 | some i =>
  rw[e1] at hp
  cases e2:asI y with
  | none=>rw[e2] at hp;exact hp.elim
  | some j =>
   rw[e2] at hp
   by_cases c:Cb i j=true
   ·simp only[if_pos c] at hp;exact⟨i,j,asI_ok hx e1,asI_ok hy e2,hC i j c,hp.okD R (hg G i j)⟩
   ·simp only[if_neg c] at hp;exact hp.elim
theorem od_I0 {g:Int→Int→V}{gd:Int→Int→D}(hg:∀ G i j,Rp K G (g i j) (gd i j)):OpD K (rI0 g) (d2I (fun _ _=>true) gd):=fun W ρ G H σ μ v w x y Q R hx hy hp=>by
 obtain⟨i,j,h1,h2,_,q⟩:=od_I (C:=fun _ _=>True) (fun _ _ _=>trivial) hg W ρ G H σ μ v w x y Q R hx hy hp
 exact⟨i,j,h1,h2,q⟩
abbrev dSub:DV→DV→Mem→Res R:=d2I (fun _ _=>true) fun i j=>.int (i-j)
def cMul (i j:Int):Bool:=decide (-2^64<i∧i<2^64)||decide (-2^64<j∧j<2^64)
abbrev dMul:DV→DV→Mem→Res R:=d2I cMul fun i j=>.int (i*j)
abbrev dMod:DV→DV→Mem→Res R:=d2I (fun _ j=>decide (0<j)) fun i j=>.int (i % j)
abbrev dDiv:DV→DV→Mem→Res R:=d2I (fun _ j=>decide (0<j∧j<1073741824)) fun i j=>.int (i / j)
abbrev dLt:DV→DV→Mem→Res R:=d2I (fun _ _=>true) fun i j=>.bl (decide (i<j))
abbrev dLe:DV→DV→Mem→Res R:=d2I (fun _ _=>true) fun i j=>.bl (decide (i≤j))
abbrev dGt:DV→DV→Mem→Res R:=d2I (fun _ _=>true) fun i j=>.bl (decide (j<i))
abbrev dGe:DV→DV→Mem→Res R:=d2I (fun _ _=>true) fun i j=>.bl (decide (j≤i))
theorem od_sub:OpD K (rI0 fun i j=>V.int (i-j)) dSub:=od_I0 fun _ _ _=>.int _
theorem od_mul:OpD K (rI CMul fun i j=>V.int (i*j)) dMul:=od_I (fun i j h=>by
 unfold cMul at h
 rw[Bool.or_eq_true,decide_eq_true_eq,decide_eq_true_eq] at h
 exact h) fun _ _ _=>.int _
theorem od_mod:OpD K (rI (fun _ j=>0<j) fun i j=>V.int (i % j)) dMod:=od_I (fun i j h=>of_decide_eq_true h) fun _ _ _=>.int _
theorem od_div:OpD K (rI CDiv fun i j=>V.int (i / j)) dDiv:=od_I (fun i j h=>by
 have:=of_decide_eq_true h
 exact⟨by omega,by omega⟩) fun _ _ _=>.int _
theorem od_lt:OpD K (rI0 fun i j=>V.bl (decide (i<j))) dLt:=od_I0 fun _ _ _=>.bl _
theorem od_le:OpD K (rI0 fun i j=>V.bl (decide (i≤j))) dLe:=od_I0 fun _ _ _=>.bl _
theorem od_gt:OpD K (rI0 fun i j=>V.bl (decide (j<i))) dGt:=od_I0 fun _ _ _=>.bl _
theorem od_ge:OpD K (rI0 fun i j=>V.bl (decide (j≤i))) dGe:=od_I0 fun _ _ _=>.bl _
def rPlus (K:PySem.W.Frag):R2:=fun x y H Q=>(rI0 (fun i j=>V.int (i+j)) x y H Q∨rCat x y H Q) ∨
 (rCatA K x y H Q∨∃ i j,x=V.str i∧y=V.str j∧i.length+j.length≤sizeLine∧Q (V.str (i++j)) H)
theorem op_plus {X:Cx}:OpR X (binaryOp .Add) (rPlus X.K):=OpR.or (OpR.or op_add op_cat) (OpR.or op_catA op_add_str)
def dAdd (x y:DV)(μ:Mem):Res R:=match asI x,asI y with
 | some i,some j=>.ok (.dat (.int (i+j))) μ
 | _,_=>match asStr x,asStr y with
  | some i,some j=>if i.length+j.length≤sizeLine then .ok (.dat (.str (i++j))) μ else .bad
  | _,_=>match asT x,asT y with
   | some a,some b=>if a.length+b.length≤sizeLine then .ok (.dat (.tup (a++b))) μ else .bad
   | _,_=>match asM μ x,asM μ y with
    | some a,some b=>if a.length+b.length≤sizeLine then .ok (.nl (a++b)) μ else .bad
    | _,_=>.bad
theorem od_add:OpD K (rPlus K) dAdd:=fun W ρ G H σ μ v w x y Q R hx hy hp=>by
 unfold dAdd at hp
 split at hp
 ·rename_i i j e1 e2
  exact .inl (.inl ⟨i,j,asI_ok hx e1,asI_ok hy e2,hp.okD R (.int _)⟩)
 split at hp
 ·rename_i i j e1 e2
  by_cases c:i.length+j.length≤sizeLine
  ·rw[if_pos c] at hp;exact .inr (.inr ⟨i,j,asStr_ok hx e1,asStr_ok hy e2,c,hp.okD R (.str _)⟩)
  ·rw[if_neg c] at hp;exact hp.elim
 split at hp
 ·rename_i a b e1 e2
  by_cases c:a.length+b.length≤sizeLine
  ·rw[if_pos c] at hp
   obtain⟨p,vs,rfl,h2,h3⟩:=asT_ok R hx e1
   obtain⟨q,ws,rfl,k2,k3⟩:=asT_ok R hy e2
   refine .inr (.inl ⟨p,q,vs,ws,rfl,rfl,h2,k2,by rw[h3.length,k3.length];exact c,fun z=>?_,fun _ z=>?_,fun _ _ t ht=>?_⟩)
   ·subst z
    cases h3
    rw[asT_eq e2] at hy
    exact hp.okD R hy
   ·subst z
    cases k3
    rw[List.append_nil] at hp
    rw[asT_eq e1] at hx
    exact hp.okD R hx
   ·exact new_tup R (Tr.refl _ _ _) ht (h3.append k3) hp
  ·rw[if_neg c] at hp;exact hp.elim
 split at hp
 ·rename_i a b e1 e2
  by_cases c:a.length+b.length≤sizeLine
  ·rw[if_pos c] at hp
   obtain⟨p,vs,rfl,h2,h3⟩:=asM_ok R hx e1
   obtain⟨q,ws,rfl,k2,k3⟩:=asM_ok R hy e2
   exact .inl (.inr ⟨p,q,vs,ws,rfl,rfl,h2,k2,by rw[paired_len h3,paired_len k3];exact c,fun t ht=>new_list R (Tr.refl _ _ _) ht (h3.append k3) hp⟩)
  ·rw[if_neg c] at hp;exact hp.elim
 exact hp.elim
def dIx (x y:DV)(μ:Mem):Res R:=match asI y with
 | none=>.bad
 | some i=>match asS μ x with
  | some xs=>match atI xs i with
   | some z=>.ok (ofV z) μ
   | none=>.bad
  | none=>match asStr x with
   | some z=>if z.length≤sizeLine then match atI z.cps.toList i with
     | some c=>.ok (.dat (.str ⟨#[c]⟩)) μ
     | none=>.bad
    else .bad
   | none=>.bad
theorem atI_dv {vs:List V}{xs:List DV}{i:Int}{y:DV}(h:DvL K ρ G vs xs)(e:atI xs i=some y):∃ w,atI vs i=some w∧DvOk K ρ G w y:=by
 unfold atI at e ⊢
 rw[paired_len h]
 cases q:ixN xs.length i with
 | none=>rw[q] at e;cases e
 | some j=>rw[q] at e;exact DvL.get' h e
theorem od_ix:OpD K (rIx K) dIx:=fun W ρ G H σ μ v w x y Q R hx hy hp=>by
 unfold dIx at hp
 cases e1:asI y with
 | none=>rw[e1] at hp;exact hp.elim
 | some i =>
  rw[e1] at hp
  have ew:=asI_ok hy e1
  cases e2:asS μ x with
  | some xs =>
   simp only[e2] at hp
   obtain⟨a,vs,rfl,h2,h3⟩:=asS_ok R hx e2
   cases e3:atI xs i with
   | none=>rw[e3] at hp;exact hp.elim
   | some z =>
    rw[e3] at hp
    obtain⟨u,q1,q2⟩:=atI_dv h3 e3
    rcases h2 with h2|h2
    ·exact .inl ⟨a,vs,i,u,rfl,ew,h2,q1,hp.okV R q2⟩
    ·exact .inr (.inl ⟨a,vs,i,u,rfl,ew,h2,q1,hp.okV R q2⟩)
  | none =>
   simp only[e2] at hp
   cases e3:asStr x with
   | none=>rw[e3] at hp;exact hp.elim
   | some z =>
    simp only[e3] at hp
    by_cases c:z.length≤sizeLine
    ·rw[if_pos c] at hp
     cases e4:atI z.cps.toList i with
     | none=>rw[e4] at hp;exact hp.elim
     | some k=>rw[e4] at hp;exact .inr (.inr ⟨z,i,k,asStr_ok hx e3,ew,c,e4,hp.okD R (.str _)⟩)
    ·rw[if_neg c] at hp;exact hp.elim
def cutL {α:Type}(xs:List α)(lo hi:Option Int):List α:=(xs.drop (HT.sIx xs.length 0 lo)).take (HT.sIx xs.length xs.length hi-HT.sIx xs.length 0 lo)
def rSl (K:PySem.W.Frag):V→Option Int→Option Int→Hp→VK→Prop:=fun x lo hi H Q=>(rSlL K x lo hi H Q∨rSlA K x lo hi H Q)∨rSlS x lo hi H Q
theorem sl_any {X:Cx}:SlR X (rSl X.K):=SlR.or (SlR.or sl_list sl_tupA) sl_str
def dSl (x:DV)(lo hi:Option Int)(μ:Mem):Res R:=match asL μ x with
 | some xs=>.ok (.nl (cutL xs lo hi)) μ
 | none=>match asT x with
  | some ds=>.ok (.dat (.tup (cutL ds lo hi))) μ
  | none=>match asStr x with
   | some z=>if z.length≤sizeLine then .ok (.dat (.str (cutS z lo hi))) μ else .bad
   | none=>.bad
theorem cutL_full {α:Type}{xs:List α}{lo hi:Option Int}(h:HT.sIx xs.length 0 lo=0∧HT.sIx xs.length xs.length hi=xs.length):cutL xs lo hi=xs:=by
 unfold cutL;rw[h.1,h.2];simp
theorem dvl_cut {vs:List V}{xs:List DV}{lo hi:Option Int}(h:DvL K ρ G vs xs):DvL K ρ G (L2.cutV vs lo hi) (cutL xs lo hi):=by
 unfold L2.cutV cutL
 rw[paired_len h]
 exact(h.drop _).take _
theorem rpl_cut {vs:List V}{xs:List D}{lo hi:Option Int}(h:RpL K G vs xs):RpL K G (L2.cutV vs lo hi) (cutL xs lo hi):=by
 unfold L2.cutV cutL
 rw[h.length]
 exact(h.drop _).take _
theorem od_sl {lo hi:Option Int}(R:Rel K ρ G H μ)(hx:DvOk K ρ G v x)(hp:PostG K W ρ G H σ (fun G' H'=>rpE K ρ G' H H') Q (dSl x lo hi μ)):rSl K v lo hi H Q:=by
 unfold dSl at hp
 split at hp
 ·rename_i xs e
  obtain⟨a,vs,rfl,h2,h3⟩:=asL_ok R hx e
  exact .inl (.inl ⟨a,vs,rfl,h2,fun p hn=>new_list R (Tr.refl _ _ _) hn (dvl_cut h3) hp⟩)
 split at hp
 ·rename_i ds e
  obtain⟨a,vs,rfl,h2,h3⟩:=asT_ok R hx e
  refine .inl (.inr ⟨a,vs,rfl,h2,fun z=>?_,fun _ p hn=>new_tup R (Tr.refl _ _ _) hn (rpl_cut h3) hp⟩)
  rw[h3.length] at z
  rw[cutL_full z] at hp
  rw[asT_eq e] at hx
  exact hp.okD R hx
 split at hp
 ·rename_i z e
  by_cases c:z.length≤sizeLine
  ·rw[if_pos c] at hp;exact .inr ⟨z,asStr_ok hx e,c,hp.okD R (.str _)⟩
  ·rw[if_neg c] at hp;exact hp.elim
 exact hp.elim
abbrev OM:=Env→Mem→Res (Option Int)
abbrev SndO (K:PySem.W.Frag)(W:WX)(t:TO)(f:OM):Prop:=SndG K W t f rpT
def oNone:OM:=fun _ μ=>.ok none μ
def oSome (f:EM):OM:=fun δ μ=>(frzV f δ μ).bind fun x μ'=>match asI x with
 | some i=>.ok (some i) μ'
 | none=>.bad
def eSl (f:EM)(lo hi:OM):EM:=fun δ μ=>(frzV f δ μ).bind fun x μ1=>(lo δ μ1).bind fun l μ2=>(hi δ μ2).bind fun u μ3=>dSl x l u μ3
end
structure PMO (X:Cx)(W:WX)(e:Option Expr)(t:TO)(f:OM):Prop where
 po:PO X e t
 sd:SndO X.K W t f
section
variable {X:Cx}{W:WX}{pos p2:Pos}{e:Expr}{lo hi:Option Expr}{te:TE}{tl th:TO}{f:EM}{fl fh:OM}
theorem mo_none:PMO X W none tNoPart oNone:=⟨po_none,fun ρ G H σ δ μ Q R E hp=>hp G H none (Tr.refl _ _ _) R rfl⟩
theorem mo_some (h:PM X W e te f):PMO X W (some e) (tPart te) (oSome f):=⟨po_some h.pe,fun ρ G H σ δ μ Q R E hp=>by
 refine SndG.seq (t:=te) h.sd.toV R E hp fun x μ1 G1 H1 v t1 R1 E1 d1 hp1=>?_
 cases e:asI x with
 | none=>rw[e] at hp1;exact hp1.elim
 | some i=>rw[e] at hp1;exact⟨i,asI_ok d1 e,hp1 G1 H1 _ t1 R1 rfl⟩⟩
theorem pm_sl (h:PM X W e te f)(hl:PMO X W lo tl fl)(hh:PMO X W hi th fh):PM X W (.Subscript e (.Slice lo hi none p2) pos) (tSl (rSl X.K) te tl th) (eSl f fl fh):=⟨pe_slice sl_any h.pe hl.po hh.po,fun ρ G H σ δ μ Q R E hp=>by
 refine SndG.seq (t:=te) h.sd.toV R E hp fun x μ1 G1 H1 v t1 R1 E1 d1 hp1=>?_
 refine SndG.seq (t:=tl) hl.sd R1 E1 (hp1.shiftE t1) fun l μ2 G2 H2 lv t2 R2 E2 d2 hp2=>?_
 refine SndG.seq (t:=th) hh.sd R2 E2 (hp2.shiftE t2) fun u μ3 G3 H3 uv t3 R3 E3 d3 hp3=>?_
 subst d2 d3
 exact od_sl R3 (d1.mono (t2.exG.trans t3.exG) fun _ _ q=>q) (hp3.shiftE t3)⟩
theorem pm_add {a b:Expr}{ta tb:TE}{fa fb:EM}(ha:PM X W a ta fa)(hb:PM X W b tb fb):PM X W (.BinOp a .Add b pos) (tOp (rPlus X.K) ta tb) (eOp dAdd fa fb):=pm_op op_plus od_add ha hb
theorem pm_sub {a b:Expr}{ta tb:TE}{fa fb:EM}(ha:PM X W a ta fa)(hb:PM X W b tb fb):PM X W (.BinOp a .Sub b pos) (tOp (rI0 fun i j=>V.int (i-j)) ta tb) (eOp dSub fa fb):=pm_op op_sub od_sub ha hb
theorem pm_mul {a b:Expr}{ta tb:TE}{fa fb:EM}(ha:PM X W a ta fa)(hb:PM X W b tb fb):PM X W (.BinOp a .Mult b pos) (tOp (rI CMul fun i j=>V.int (i*j)) ta tb) (eOp dMul fa fb):=pm_op op_mul od_mul ha hb
theorem pm_mod {a b:Expr}{ta tb:TE}{fa fb:EM}(ha:PM X W a ta fa)(hb:PM X W b tb fb):PM X W (.BinOp a .Mod b pos) (tOp (rI (fun _ j=>0<j) fun i j=>V.int (i % j)) ta tb) (eOp dMod fa fb):=pm_op op_mod od_mod ha hb
theorem pm_div {a b:Expr}{ta tb:TE}{fa fb:EM}(ha:PM X W a ta fa)(hb:PM X W b tb fb):PM X W (.BinOp a .FloorDiv b pos) (tOp (rI CDiv fun i j=>V.int (i / j)) ta tb) (eOp dDiv fa fb):=pm_op op_fdiv od_div ha hb
theorem pm_idx {a b:Expr}{ta tb:TE}{fa fb:EM}(ha:PM X W a ta fa)(hb:PM X W b tb fb)(hs:PlainIx b):PM X W (.Subscript a b pos) (tOp (rIx X.K) ta tb) (eOp dIx fa fb):=pm_ix ix_seq od_ix ha hb hs
end
mutual
def toPy:D→Option PyData
 | .non=>some .none
 | .bl b=>some (.bool b)
 | .int i=>some (.int i)
 | .str s=>some (.str s)
 | .tup xs=>(toPyL xs).map .tuple
 | .lst xs=>(toPyL xs).map .list
 | .fro xs=>(toPyL xs).map .list
 | .ty _=>none
 | .ref _=>none
 | .dct _=>none
 | .ins _ _=>none
 | .err _ _ _ _ _=>none
def toPyL:List D→Option (List PyData)
 | []=>some []
 | x::xs=>match toPy x with
  | none=>none
  | some p=>(toPyL xs).map (p::·)
end
def peekL (f:DV→Option D):List DV→Option (List D)
 | []=>some []
 | x::xs=>match f x with
  | none=>none
  | some d=>(peekL f xs).map (d::·)
def peekK:Nat→Mem→DV→Option D
 | _,_,.dat d=>some d
 | 0,_,.loc _=>none
 | k+1,μ,.loc n=>match μ[n]? with
  | some (.lst xs)=>(peekL (peekK k μ) xs).map .lst
  | some (.tp xs)=>(peekL (peekK k μ) xs).map .tup
  | _=>none
def peek (μ:Mem)(x:DV):Option D:=peekK 5 μ x
def peekPy (μ:Mem)(x:DV):Option PyData:=(peek μ x).bind toPy
section
variable {K:PySem.W.Frag}{W:WX}{N M:Nat}{ρ:Pm}{G H:Hp}{σ:Slots}{δ:Env}{μ:Mem}{Q:VK}{v w:V}{x y:DV}
mutual
theorem Rp.dp:∀ {v:V} {d:D} {p:PyData},Rp K G v d→toPy d=some p→Dp K G v p
 | _,_,_,.non,e=>by cases e;exact .non
 | _,_,_,.bl b,e=>by cases e;exact .bl b
 | _,_,_,.int i,e=>by cases e;exact .int i
 | _,_,_,.str s,e=>by cases e;exact .str s
 | _,_,_,.ty n,e=>by cases e
 | _,_,_,.ref a,e=>by cases e
 | _,_,_,.tup (ds:=ds) h r,e=>by
  simp only[toPy] at e
  cases q:toPyL ds with
  | none=>rw[q] at e;cases e
  | some ps=>rw[q] at e;cases e;exact .tup h (RpL.dp r q)
 | _,_,_,.lst (ds:=ds) h r,e=>by
  simp only[toPy] at e
  cases q:toPyL ds with
  | none=>rw[q] at e;cases e
  | some ps=>rw[q] at e;cases e;exact .lst (.inl (.inl h)) (RpL.dp r q)
 | _,_,_,.fro (ds:=ds) h r,e=>by
  simp only[toPy] at e
  cases q:toPyL ds with
  | none=>rw[q] at e;cases e
  | some ps=>rw[q] at e;cases e;exact .lst h (RpL.dp r q)
 | _,_,_,.dct _ _ _,e=>by cases e
 | _,_,_,.ins _ _ _ _ _,e=>by cases e
 | _,_,_,.er0 _,e=>by cases e
 | _,_,_,.err _ _ _ _,e=>by cases e
theorem RpL.dp:∀ {vs:List V} {ds:List D} {ps:List PyData},RpL K G vs ds→toPyL ds=some ps→DpAll K G vs ps
 | _,_,_,.nil,e=>by cases e;exact .nil
 | _,_,_,.cons (d:=d) (ds:=ds) a b,e=>by
  simp only[toPyL] at e
  cases q:toPy d with
  | none=>rw[q] at e;cases e
  | some p =>
   rw[q] at e
   cases q2:toPyL ds with
   | none=>rw[q2] at e;cases e
   | some ps=>rw[q2] at e;cases e;exact .cons (Rp.dp a q) (RpL.dp b q2)
end
theorem peekL_ok {f:DV→Option D}(hf:∀ v x d,DvOk K ρ G v x→f x=some d→Rp K H v d):∀ {vs:List V} {xs:List DV} {ds:List D},DvL K ρ G vs xs→peekL f xs=some ds→RpL K H vs ds
 | _,_,_,.nil,e=>by cases e;exact .nil
 | _,x::xs,ds,.cons a b,e=>by
  unfold peekL at e
  cases q:f x with
  | none=>rw[q] at e;cases e
  | some d =>
   rw[q] at e
   cases q2:peekL f xs with
   | none=>rw[q2] at e;cases e
   | some es=>rw[q2] at e;cases e;exact .cons (hf _ _ _ a q) (peekL_ok hf b q2)
theorem peekK_ok (R:Rel K ρ G H μ):∀ (k:Nat) (v:V) (x:DV) (d:D),DvOk K ρ G v x→peekK k μ x=some d→Rp K H v d
 | k,v,.dat d',d,h,e=>by
  have:peekK k μ (.dat d')=some d':=by cases k <;> rfl
  rw[this] at e;cases e;exact Rp.mono R.ex h
 | 0,v,.loc n,d,h,e=>by cases e
 | k+1,v,.loc n,d,h,e=>by
  unfold peekK at e
  split at e
  ·rename_i xs q
   cases qa:peekL (peekK k μ) xs with
   | none=>rw[qa] at e;cases e
   | some ds =>
    rw[qa] at e;cases e
    obtain⟨a,rfl,hn⟩:=h
    obtain⟨_,b,vs,h1,h2,h3⟩:=R.pl n _ q
    rw[hn] at h1;cases h1
    exact Rp.lst h2 (peekL_ok (fun v x d=>peekK_ok R k v x d) h3 qa)
  ·rename_i xs q
   cases qa:peekL (peekK k μ) xs with
   | none=>rw[qa] at e;cases e
   | some ds =>
    rw[qa] at e;cases e
    obtain⟨a,rfl,hn⟩:=h
    obtain⟨_,b,_,vs,h1,h2,h3⟩:=R.pl n _ q
    rw[hn] at h1;cases h1
    exact Rp.tup (.inl (.inl h2)) (peekL_ok (fun v x d=>peekK_ok R k v x d) h3 qa)
  ·cases e
theorem peek_ok {d:D}(R:Rel K ρ G H μ)(h:DvOk K ρ G v x)(e:peek μ x=some d):Rp K H v d:=peekK_ok R 5 v x d h e
theorem peekPy_ok {p:PyData}(R:Rel K ρ G H μ)(h:DvOk K ρ G v x)(e:peekPy μ x=some p):Dp K H v p:=by
 unfold peekPy at e
 cases q:peek μ x with
 | none=>rw[q] at e;cases e
 | some d=>rw[q] at e;exact Rp.dp (peek_ok R h q) e
def dEqB (b:Bool)(x y:DV)(μ:Mem):Res R:=match peekPy μ x with
 | none=>.bad
 | some p=>match peekPy μ y with
  | none=>.bad
  | some q=>if SeqAt.shaped p=true∧SeqAt.shaped q=true then .ok (.dat (.bl (PyData.eqv p q==b))) μ else .bad
def dEqS (b:Bool)(x y:DV)(μ:Mem):Res R:=match asStr x with
 | none=>dEqB b x y μ
 | some s=>match asStr y with
  | none=>dEqB b x y μ
  | some t=>.ok (.dat (.bl (decide (s=t)==b))) μ
abbrev dEq:DV→DV→Mem→Res R:=dEqS true
abbrev dNe:DV→DV→Mem→Res R:=dEqS false
def rEqQ (K:PySem.W.Frag):R2:=fun x y H Q=>rEq x y H Q∨rEqD K x y H Q
def rNeQ (K:PySem.W.Frag):R2:=fun x y H Q=>rNe x y H Q∨rNeD K x y H Q
theorem op_eqQ {X:Cx}(h:X.A.units+64<cLine):OpR X (compareOp .Eq) (rEqQ X.K):=OpR.or op_eq (op_eqD h)
theorem op_neQ {X:Cx}(h:X.A.units+64<cLine):OpR X (compareOp .NotEq) (rNeQ X.K):=OpR.or op_ne (op_neD h)
theorem od_eqB (b:Bool)(R:Rel K ρ G H μ)(hx:DvOk K ρ G v x)(hy:DvOk K ρ G w y)(hp:PostG K W ρ G H σ (fun G' H'=>rpE K ρ G' H H') Q (dEqB b x y μ)) :
  ∃ d e,Dp K H v d∧Dp K H w e∧SeqAt.shaped d=true∧SeqAt.shaped e=true∧Q (.bl (PyData.eqv d e==b)) H:=by
 unfold dEqB at hp
 cases e1:peekPy μ x with
 | none=>rw[e1] at hp;exact hp.elim
 | some p =>
  rw[e1] at hp
  cases e2:peekPy μ y with
  | none=>rw[e2] at hp;exact hp.elim
  | some q =>
   rw[e2] at hp
   by_cases c:SeqAt.shaped p=true∧SeqAt.shaped q=true
   ·simp only[if_pos c] at hp
    exact⟨p,q,peekPy_ok R hx e1,peekPy_ok R hy e2,c.1,c.2,hp.okD R (.bl _)⟩
   ·simp only[if_neg c] at hp;exact hp.elim
theorem od_eqS (b:Bool)(R:Rel K ρ G H μ)(hx:DvOk K ρ G v x)(hy:DvOk K ρ G w y)(hp:PostG K W ρ G H σ (fun G' H' v r=>rpE K ρ G' H H' v r) Q (dEqS b x y μ)) :
  (scal v w=true∧Q (.bl (decide (v=w)==b)) H)∨∃ d e,Dp K H v d∧Dp K H w e∧SeqAt.shaped d=true∧SeqAt.shaped e=true∧Q (.bl (PyData.eqv d e==b)) H:=by
 unfold dEqS at hp
 cases e1:asStr x with
 | none=>rw[e1] at hp;exact .inr (od_eqB b R hx hy hp)
 | some s =>
  rw[e1] at hp
  cases e2:asStr y with
  | none=>rw[e2] at hp;exact .inr (od_eqB b R hx hy hp)
  | some t =>
   rw[e2] at hp
   rw[asStr_ok hx e1,asStr_ok hy e2]
   have:decide (V.str s=V.str t)=decide (s=t):=by rw[Bool.eq_iff_iff];simp
   exact .inl ⟨rfl,by rw[this];exact hp G H _ (Tr.refl _ _ _) R (Rp.bl _)⟩
theorem od_eq:OpD K (rEqQ K) dEq:=fun W ρ G H σ μ v w x y Q R hx hy hp=>by
 rcases od_eqS true R hx hy hp with⟨h1,h2⟩|⟨d,e,h1,h2,h3,h4,h5⟩
 ·exact .inl ⟨h1,by simpa using h2⟩
 ·exact .inr ⟨d,e,h1,h2,h3,h4,by simpa using h5⟩
theorem od_ne:OpD K (rNeQ K) dNe:=fun W ρ G H σ μ v w x y Q R hx hy hp=>by
 rcases od_eqS false R hx hy hp with⟨h1,h2⟩|⟨d,e,h1,h2,h3,h4,h5⟩
 ·exact .inl ⟨h1,by
   have z:((decide (v=w))==false)=!decide (v=w):=by cases decide (v=w) <;> rfl
   rw[←z];exact h2⟩
 ·exact .inr ⟨d,e,h1,h2,h3,h4,by
   have z:(PyData.eqv d e==false)=!PyData.eqv d e:=by cases PyData.eqv d e <;> rfl
   rw[←z];exact h5⟩
def isNon:DV→Bool
 | .dat .non=>true
 | _=>false
theorem isNon_ok (h:DvOk K ρ G v x):decide (v=.non)=isNon x:=by
 cases x with
 | loc n=>obtain⟨a,rfl,_⟩:=h;rfl
 | dat d=>cases h <;> rfl
def eIsN (f:EM):EM:=fun δ μ=>(frzV f δ μ).bind fun x μ'=>.ok (.dat (.bl (isNon x))) μ'
def eNotN (f:EM):EM:=fun δ μ=>(frzV f δ μ).bind fun x μ'=>.ok (.dat (.bl (!isNon x))) μ'
theorem snd_isN {ta:TE}{f:EM}(h:SndE K W ta f):SndE K W (tIsN ta) (eIsN f):=fun ρ G H σ δ μ Q R E hp=>by
 refine SndG.seq (t:=ta) h.toV R E hp fun x μ1 G1 H1 v t1 R1 E1 d1 hp1=>?_
 rw[isNon_ok d1]
 exact hp1 G1 H1 _ t1 R1 (Rp.bl _)
def flat:DV→Option V
 | .dat .non=>some .non
 | .dat (.bl b)=>some (.bl b)
 | .dat (.int i)=>some (.int i)
 | .dat (.str s)=>some (.str s)
 | _=>none
def flats:List DV→Option (List V)
 | []=>some []
 | x::xs=>match flat x with
  | none=>none
  | some v=>(flats xs).map (v::·)
def dIn (neg:Bool)(x y:DV)(μ:Mem):Res R:=match flat x with
 | none=>.bad
 | some u=>match asS μ y with
  | none=>.bad
  | some ys=>match flats ys with
   | none=>.bad
   | some us=>.ok (.dat (.bl (if neg=true then !inV u us else inV u us))) μ
theorem DvL.one {vs:List V}(h:DvL K ρ G vs [x]):∃ v,vs=[v]∧DvOk K ρ G v x:=by
 cases h with
 | cons a b=>cases b;exact⟨_,rfl,a⟩
theorem DvL.two {vs:List V}(h:DvL K ρ G vs [x,y]):∃ v w,vs=[v,w]∧DvOk K ρ G v x∧DvOk K ρ G w y:=by
 cases h with
 | cons a b=>cases b with
  | cons c d=>cases d;exact⟨_,_,rfl,a,c⟩
def d1 (g:DV→Mem→Res R)(xs:List DV)(μ:Mem):Res R:=match xs with
 | [x]=>g x μ
 | _=>.bad
theorem cd_1 {r:List V→Hp→VK→Prop}{g:DV→Mem→Res R}(h:∀ (W:WX) (ρ:Pm) (G H:Hp) (σ:Slots) (μ:Mem) (v:V) (x:DV) (Q:VK),Rel K ρ G H μ→DvOk K ρ G v x→PostG K W ρ G H σ (fun G' H'=>rpE K ρ G' H H') Q (g x μ)→r [v] H Q) :
  CallD K r (d1 g):=fun W ρ G H σ μ vs xs Q R hx hp=>by
 match xs,hx,hp with
 | [x],hx,hp =>
  obtain⟨v,rfl,d⟩:=hx.one
  exact h W ρ G H σ μ v x Q R d hp
 | [],_,hp=>exact hp.elim
 | _::_::_,_,hp=>exact hp.elim
def dLen (x:DV)(μ:Mem):Res R:=match asS μ x with
 | some xs=>.ok (.dat (.int xs.length)) μ
 | none=>match asStr x with
  | some z=>if z.length≤sizeLine then .ok (.dat (.int z.length)) μ else .bad
  | none=>.bad
theorem cd_len:CallD K (fun xs H Q=>∃ x n,xs=[x]∧LenV K x H n∧Q (.int (n:Nat)) H) (d1 dLen):=cd_1 fun W ρ G H σ μ v x Q R hx hp=>by
 unfold dLen at hp
 split at hp
 ·rename_i xs e
  obtain⟨a,vs,rfl,h2,h3⟩:=asS_ok R hx e
  refine⟨_,vs.length,rfl,?_,?_⟩
  ·rcases h2 with h2|h2
   ·exact .inl ⟨vs,h2,rfl⟩
   ·exact .inr ⟨vs,h2,rfl⟩
  ·rw[paired_len h3];exact hp.okD R (.int _)
 split at hp
 ·rename_i z e
  by_cases c:z.length≤sizeLine
  ·rw[if_pos c] at hp
   have ev:=asStr_ok hx e
   subst ev
   exact⟨_,z.length,rfl,⟨c,rfl⟩,hp.okD R (.int _)⟩
  ·rw[if_neg c] at hp;exact hp.elim
 exact hp.elim
def dInt (x:DV)(μ:Mem):Res R:=match asI x with
 | some i=>.ok (.dat (.int i)) μ
 | none=>match asBl x with
  | some b=>.ok (.dat (.int (if b=true then 1 else 0))) μ
  | none=>.bad
theorem cd_int:CallD K (fun xs H Q=>(∃ i,xs=[V.int i]∧Q (V.int i) H)∨∃ k,xs=[V.bl k]∧Q (V.int (if k=true then 1 else 0)) H) (d1 dInt):=cd_1 fun W ρ G H σ μ v x Q R hx hp=>by
 unfold dInt at hp
 split at hp
 ·rename_i i e
  have ev:=asI_ok hx e
  subst ev
  exact .inl ⟨i,rfl,hp.okD R (.int _)⟩
 split at hp
 ·rename_i b e
  have ev:=asBl_ok hx e
  subst ev
  exact .inr ⟨b,rfl,hp.okD R (.int _)⟩
 exact hp.elim
def dAbs (x:DV)(μ:Mem):Res R:=match asI x with
 | some i=>.ok (.dat (.int (if i<0 then -i else i))) μ
 | none=>.bad
theorem cd_abs:CallD K (fun xs H Q=>∃ i,xs=[V.int i]∧Q (V.int (if i<0 then -i else i)) H) (d1 dAbs):=cd_1 fun W ρ G H σ μ v x Q R hx hp=>by
 unfold dAbs at hp
 split at hp
 ·rename_i i e
  have ev:=asI_ok hx e
  subst ev
  exact⟨i,rfl,hp.okD R (.int _)⟩
 exact hp.elim
def dList (x:DV)(μ:Mem):Res R:=match asS μ x with
 | some xs=>.ok (.nl xs) μ
 | none=>.bad
theorem cd_list:CallD K (fun xs H Q=>∃ p ys,xs=[V.ref p]∧(SqL K H p ys∨SqT K H p ys)∧∀ l,H l=none→Q (V.ref l) (upd H l (.lst ys))) (d1 dList):=cd_1 fun W ρ G H σ μ v x Q R hx hp=>by
 unfold dList at hp
 split at hp
 ·rename_i xs e
  obtain⟨a,vs,rfl,h2,h3⟩:=asS_ok R hx e
  exact⟨a,vs,rfl,h2,fun l hn=>new_list R (Tr.refl _ _ _) hn h3 hp⟩
 exact hp.elim
def dTuple (x:DV)(μ:Mem):Res R:=match asL μ x with
 | some xs=>match allDat xs with
  | some ds=>.ok (.dat (.tup ds)) μ
  | none=>.bad
 | none=>match asT x with
  | some ds=>.ok (.dat (.tup ds)) μ
  | none=>.bad
theorem cd_tuple:CallD K (fun xs H Q=>∃ p ys,xs=[V.ref p]∧((SqL K H p ys∧∀ l,H l=none→Q (V.ref l) (upd H l (.tup ys)))∨SqT K H p ys∧Q (V.ref p) H)) (d1 dTuple):=cd_1 fun W ρ G H σ μ v x Q R hx hp=>by
 unfold dTuple at hp
 split at hp
 ·rename_i xs e
  obtain⟨a,vs,rfl,h2,h3⟩:=asL_ok R hx e
  split at hp
  ·rename_i ds e2
   exact⟨a,vs,rfl,.inl ⟨h2,fun l hn=>new_tup R (Tr.refl _ _ _) hn (allDat_ok e2 h3) hp⟩⟩
  ·exact hp.elim
 split at hp
 ·rename_i ds e
  obtain⟨a,vs,rfl,h2,h3⟩:=asT_ok R hx e
  rw[asT_eq e] at hx
  exact⟨a,vs,rfl,.inr ⟨h2,hp.okD R hx⟩⟩
 exact hp.elim
def bools:List DV→Option (List Bool)
 | []=>some []
 | x::xs=>match asBl x with
  | none=>none
  | some b=>(bools xs).map (b::·)
theorem bools_ok:∀ {xs:List DV} {vs:List V} {bs:List Bool},DvL K ρ G vs xs→bools xs=some bs→vs=bs.map V.bl
 | [],_,_,h,e=>by cases e;cases h;rfl
 | x::xs,_,_,h,e=>by
  cases h with
  | cons r1 r2 =>
   simp only[bools] at e
   cases q:asBl x with
   | none=>rw[q] at e;cases e
   | some b =>
    rw[q] at e
    cases q2:bools xs with
    | none=>rw[q2] at e;cases e
    | some bs=>rw[q2] at e;cases e;rw[asBl_ok r1 q,bools_ok r2 q2];rfl
def dAll (f:List Bool→Bool)(x:DV)(μ:Mem):Res R:=match asL μ x with
 | some xs=>match bools xs with
  | some bs=>.ok (.dat (.bl (f bs))) μ
  | none=>.bad
 | none=>.bad
theorem cd_all (f:List Bool→Bool):CallD K (fun vs H Q=>∃ a bs,vs=[V.ref a]∧SqL K H a (bs.map V.bl)∧Q (V.bl (f bs)) H) (d1 (dAll f)):=cd_1 fun W ρ G H σ μ v x Q R hx hp=>by
 unfold dAll at hp
 split at hp
 ·rename_i xs e
  obtain⟨a,vs,rfl,h2,h3⟩:=asL_ok R hx e
  split at hp
  ·rename_i bs e2
   have ev:=bools_ok h3 e2
   subst ev
   exact⟨a,bs,rfl,h2,hp.okD R (.bl _)⟩
  ·exact hp.elim
 exact hp.elim
def dRepr (x:DV)(μ:Mem):Res R:=match peekPy μ x with
 | some p=>if p.showable=true∧SeqAt.shaped p=true∧p.shown.length≤sizeLine then .ok (.dat (.str p.shown)) μ else .bad
 | none=>.bad
def rRepr (K:PySem.W.Frag):List V→Hp→VK→Prop:=fun xs H Q=>∃ v p,xs=[v]∧Dp K H v p∧p.showable=true∧SeqAt.shaped p=true∧p.shown.length≤sizeLine∧Q (.str p.shown) H
theorem cr_repr {X:Cx} {k:Nat} (hr:Room k X.A) (hg:X.A.guards=some []):CallR X (.builtin "repr") (rRepr X.K):=by
 intro pins s σ H xs us Q I rv h
 obtain⟨v,p,rfl,hd,hs,hsh,hz,q⟩:=h
 obtain⟨u,rfl,ru⟩:∃ u,us=[u]∧L2.RelV v u:=by
  cases rv with
  | cons a b=>cases b;exact⟨_,rfl,a⟩
 obtain⟨as,rd⟩:=Dp.reads I p v u hd ru
 have fin:∀ h' tk t',(∀ b o,s.heap.get? b=some o→h'.get? b=some o)→EP X pins σ Q (.str p.shown t') { s with heap:=h',toks:=tk }:=fun h' tk t' kp =>
  ⟨.str p.shown,H,I.kept kp,⟨t',rfl⟩,q⟩
 have hc:=SeqAt.canLay_of_shaped hsh
 have hdp:p.depth≤64:=of_decide_eq_true (Bool.and_eq_true_iff.mp hsh).2
 have hu:X.A.units+200<cLine:=by have:=hr.un;omega
 cases rd with
 | none=>exact PySem.P.repr_of_none (fin s.heap _ _ fun _ _ e=>e)
 | bool b=>exact PySem.P.repr_of_bool (fin s.heap _ _ fun _ _ e=>e)
 | int i t=>exact PySem.P.repr_of_int (of_decide_eq_true hs) (fin s.heap _ _ fun _ _ e=>e)
 | str z t=>exact PySem.P.repr_of_str (fin s.heap _ _ fun _ _ e=>e) hz
 | list ho hcl hda ra=>exact repr_of_reads' (.list ho hcl hda ra) hs (PyData.noDict_hsm (PyData.hasDict_of_canLay _ hc)) hg (by omega) (fun _ _ e=>e) (fun h' u tk kp=>fin h' tk u kp) hz
 | tuple ho hcl hda ra=>exact repr_of_reads' (.tuple ho hcl hda ra) hs (PyData.noDict_hsm (PyData.hasDict_of_canLay _ hc)) hg (by omega) (fun _ _ e=>e) (fun h' u tk kp=>fin h' tk u kp) hz
 | dict _ _ _ _ _=>exact absurd hc Bool.false_ne_true
theorem cd_repr:CallD K (rRepr K) (d1 dRepr):=cd_1 fun W ρ G H σ μ v x Q R hx hp=>by
 unfold dRepr at hp
 split at hp
 ·rename_i p e
  by_cases c:p.showable=true∧SeqAt.shaped p=true∧p.shown.length≤sizeLine
  ·rw[if_pos c] at hp;exact⟨v,p,rfl,peekPy_ok R hx e,c.1,c.2.1,c.2.2,hp.okD R (.str _)⟩
  ·rw[if_neg c] at hp;exact hp.elim
 exact hp.elim
end
section
variable {prog:Program}{w:World}{A:Around}{E:Value→Shared→Prop}{s:Shared}
end
def iSeq (K:PySem.W.Frag)(tl:TE):TI:=fun σ H R=>tl σ H fun x H1=>∃ a,x=.ref a∧((∃ xs,SqL K H1 a xs)∧R (Itl K a) H1∨(∃ xs,SqT K H1 a xs)∧R (Itt K a) H1)
theorem pi_seq {X:Cx}{tg l:Expr}{tl:TE}(hl:PE X l tl):PI X tg l (iSeq X.K tl):=by
 refine⟨fun pins s σ H R I h=>thn (hl.run pins s σ H _ I h) ?_⟩
 rintro v s1 ⟨x,H1,I1,r1,a,rfl,q1⟩
 cases r1
 have fr:FpOk X pins H1 s1.heap.objs.size:=I1.fpOk (Nat.le_refl _) (I1.hok.fresh (Nat.le_refl _))
 rcases q1 with⟨⟨xs,hq⟩,q⟩|⟨⟨xs,hq⟩,q⟩
 ·obtain⟨its,rv,p,hz⟩:=I1.list hq
  refine wpAny_pyIter_list p.isList ⟨s1.heap.objs.size,[s1.heap.objs.size],_,_,H1,rfl,I1.kept (t':=s1.toks) fun b o e=>Heap.get?_push_of_some _ e,turn_list a _,⟨_,Heap.get?_push_size _ rfl,rfl,rfl⟩,fun b hb=>?_,q⟩
  rw[show b=s1.heap.objs.size by simpa using hb];exact fr
 ·obtain⟨its,rv,p,hz⟩:=I1.tuple hq
  refine wpAny_pyIter_tuple (show s1.heap.IsTuple a its.toArray from p) ⟨s1.heap.objs.size,[s1.heap.objs.size],_,_,H1,rfl,I1.kept (t':=s1.toks) fun b o e=>Heap.get?_push_of_some _ e,turn_tuple a _,⟨_,Heap.get?_push_size _ rfl,rfl,rfl⟩,fun b hb=>?_,q⟩
  rw[show b=s1.heap.objs.size by simpa using hb];exact fr
section
variable {K:PySem.W.Frag}{W:WX}{N M:Nat}{ρ:Pm}{G H:Hp}{σ:Slots}{δ:Env}{μ:Mem}{Q:VK}{v w:V}{x y:DV}
theorem it_list {H0:Hp}{a:Addr}{vs:List V}{ds:List D}(h:SqL K G a vs)(r:RpL K G vs ds):ItOk K G H0 (Itl K a) ds:=fun ρ G1 H μ R x _=>by
 have hq:SqL K H a vs:=ex_l (x.trans R.ex) h
 refine⟨fun i d e=>?_,fun i hi=>⟨vs,hq,by rw[r.length];exact hi⟩⟩
 obtain⟨u,h1,h2⟩:=r.get' e
 refine⟨⟨vs,u,hq,h1⟩,fun v H' hy=>?_⟩
 obtain⟨rfl,q⟩:=hy
 have e2:=q vs hq
 rw[h1] at e2;cases e2
 exact⟨G1,Tr.refl _ _ _,R,h2.mono x⟩
theorem it_tup {H0:Hp}{a:Addr}{vs:List V}{ds:List D}(h:SqT K G a vs)(r:RpL K G vs ds):ItOk K G H0 (Itt K a) ds:=fun ρ G1 H μ R x _=>by
 have hq:SqT K H a vs:=ex_t (x.trans R.ex) h
 refine⟨fun i d e=>?_,fun i hi=>⟨vs,hq,by rw[r.length];exact hi⟩⟩
 obtain⟨u,h1,h2⟩:=r.get' e
 refine⟨⟨vs,u,hq,h1⟩,fun v H' hy=>?_⟩
 obtain⟨rfl,q⟩:=hy
 have e2:=q vs hq
 rw[h1] at e2;cases e2
 exact⟨G1,Tr.refl _ _ _,R,h2.mono x⟩
def enumD:Nat→List D→List D
 | _,[]=>[]
 | i,d::ds=>.tup [.int i,d]::enumD (i+1) ds
def seqD:DV→Option (List D)
 | .dat (.lst ds)=>some ds
 | .dat (.fro ds)=>some ds
 | .dat (.tup ds)=>some ds
 | _=>none
theorem seqD_ok {ds:List D}(h:DvOk K ρ G v x)(e:seqD x=some ds):∃ a vs,v=.ref a∧(SqL K G a vs∨SqT K G a vs)∧RpL K G vs ds:=by
 unfold seqD at e
 split at e
 ·cases e;cases h with|lst h r=>exact⟨_,_,rfl,.inl (.inl (.inl h)),r⟩
 ·cases e;cases h with|fro h r=>exact⟨_,_,rfl,.inl h,r⟩
 ·cases e;cases h with|tup h r=>exact⟨_,_,rfl,.inr h,r⟩
 ·cases e
def imSeq (f:EM):IM:=fun δ μ=>(frzV f δ μ).bind fun x μ'=>match seqD x with
 | some ds=>.ok ds μ'
 | none=>.bad
theorem snd_iseq {te:TE}{f:EM}(h:SndE K W te f):SndI K W (iSeq K te) (imSeq f):=fun ρ G H σ δ μ Q R E hp=>by
 refine SndG.seq (t:=te) h.toV R E hp fun x μ1 G1 H1 v t1 R1 E1 d1 hp1=>?_
 cases e:seqD x with
 | none=>rw[e] at hp1;exact hp1.elim
 | some ds =>
  rw[e] at hp1
  obtain⟨a,vs,rfl,hs,r⟩:=seqD_ok d1 e
  refine⟨a,rfl,?_⟩
  rcases hs with hs|hs
  ·exact .inl ⟨⟨vs,ex_l R1.ex hs⟩,hp1 G1 H1 _ t1 R1 (it_list hs r)⟩
  ·exact .inr ⟨⟨vs,ex_t R1.ex hs⟩,hp1 G1 H1 _ t1 R1 (it_tup hs r)⟩
def imEnum (f:AM):IM:=fun δ μ=>(f δ μ).bind fun xs μ'=>match xs with
 | [x]=>match seqD x with
  | some ds=>.ok (enumD 0 ds) μ'
  | none=>.bad
 | _=>.bad
def rngD (lo:Int)(n:Nat):List D:=(List.range n).map fun i=>.int (lo+(i:Nat))
theorem it_rng {H0:Hp}(lo:Int)(n:Nat):ItOk K G H0 (Itr lo n) (rngD lo n):=fun ρ G1 H μ R x _=>by
 refine⟨fun i d e=>?_,fun i hi=>?_⟩
 ·unfold rngD at e
  rw[List.getElem?_map] at e
  cases q:(List.range n)[i]? with
  | none=>rw[q] at e;cases e
  | some j =>
   rw[q] at e
   simp only[Option.map_some,Option.some.injEq] at e
   obtain⟨hi,ej⟩:=List.getElem?_eq_some_iff.mp q
   rw[List.getElem_range] at ej
   rw[List.length_range] at hi
   refine⟨hi,fun v H' hy=>?_⟩
   obtain⟨rfl,rfl⟩:=hy
   subst ej
   exact⟨G1,Tr.refl _ _ _,R,e▸Rp.int _⟩
 ·show n≤i
  simpa [rngD] using hi
def imRng (f:AM):IM:=fun δ μ=>(f δ μ).bind fun xs μ'=>match xs with
 | [x]=>match asI x with
  | some j=>if -2^62≤j∧j<2^62 then .ok (rngD 0 j.toNat) μ' else .bad
  | none=>.bad
 | _=>.bad
theorem snd_irng {ta:TA}{f:AM}(h:SndA K W ta f):SndI K W (iRng1 ta) (imRng f):=fun ρ G H σ δ μ Q R E hp=>by
 refine SndG.seq (t:=ta) h R E hp fun xs μ1 G1 H1 vs t1 R1 E1 d1 hp1=>?_
 match xs,d1,hp1 with
 | [],_,hp1=>exact hp1.elim
 | _::_::_,_,hp1=>exact hp1.elim
 | [x],d1,hp1 =>
  obtain⟨v,rfl,d⟩:=d1.one
  simp only at hp1
  cases e:asI x with
  | none=>rw[e] at hp1;exact hp1.elim
  | some j =>
   rw[e] at hp1
   by_cases c:-2^62≤j∧j<2^62
   ·simp only[if_pos c] at hp1
    rw[asI_ok d e]
    exact⟨j,rfl,c.1,c.2,hp1 G1 H1 _ t1 R1 (it_rng 0 _)⟩
   ·simp only[if_neg c] at hp1;exact hp1.elim
def imRng2 (f:AM):IM:=fun δ μ=>(f δ μ).bind fun xs μ'=>match xs with
 | [x,y]=>match asI x,asI y with
  | some i,some j=>if -2^62≤i∧i<2^62∧-2^62≤j∧j<2^62 then .ok (rngD i (j-i).toNat) μ' else .bad
  | _,_=>.bad
 | _=>.bad
theorem snd_irng2 {ta:TA}{f:AM}(h:SndA K W ta f):SndI K W (iRng2 ta) (imRng2 f):=fun ρ G H σ δ μ Q R E hp=>by
 refine SndG.seq (t:=ta) h R E hp fun xs μ1 G1 H1 vs t1 R1 E1 d1 hp1=>?_
 match xs,d1,hp1 with
 | [],_,hp1=>exact hp1.elim
 | [_],_,hp1=>exact hp1.elim
 | _::_::_::_,_,hp1=>exact hp1.elim
 | [x,y],d1,hp1 =>
  obtain⟨v,w,rfl,dx,dy⟩:=d1.two
  simp only at hp1
  split at hp1
  ·rename_i i j e1 e2
   by_cases c:-2^62≤i∧i<2^62∧-2^62≤j∧j<2^62
   ·rw[if_pos c] at hp1
    rw[asI_ok dx e1,asI_ok dy e2]
    exact⟨i,j,rfl,c,hp1 G1 H1 _ t1 R1 (it_rng i _)⟩
   ·rw[if_neg c] at hp1;exact hp1.elim
  ·exact hp1.elim
def TgsOk (K:PySem.W.Frag)(g:TGs)(h:List D→Env→Option Env)(ts:List Nat):Prop:=∀ (ρ:Pm) (G H:Hp) (μ:Mem) (σ:Slots) (δ δ':Env) (vs:List V) (ds:List D) (Q:Slots→Hp→Prop),Rel K ρ G H μ→EnvOk K ρ G σ δ→RpL K G vs ds→h ds δ=some δ' →
 (∀ σ',EnvOk K ρ G σ' δ'→σ'.length=σ.length→(∀ i,i∉ts→σ'[i]?=σ[i]?)→Q σ' H)→g vs σ H Q
def tgNil:List D→Env→Option Env:=fun ds δ=>match ds with
 | []=>some δ
 | _::_=>none
def tgCons (h:D→Env→Option Env)(hs:List D→Env→Option Env):List D→Env→Option Env:=fun ds δ=>match ds with
 | []=>none
 | d::ds=>match h d δ with
  | none=>none
  | some δ1=>hs ds δ1
def tgTup (n:Nat)(hs:List D→Env→Option Env):D→Env→Option Env:=fun d δ=>match d with
 | .tup ds=>if ds.length=n then hs ds δ else none
 | _=>none
theorem tgs_nil:TgsOk K gNil tgNil []:=fun ρ G H μ σ δ δ' vs ds Q R E r e q=>by
 cases r with
 | nil=>cases e;exact⟨rfl,q σ E rfl fun _ _=>rfl⟩
 | cons _ _=>cases e
theorem tgs_cons {g:TG}{gs:TGs}{h:D→Env→Option Env}{hs:List D→Env→Option Env}{t ts:List Nat}(h1:TgOk K g h t)(h2:TgsOk K gs hs ts):TgsOk K (gCons g gs) (tgCons h hs) (t++ts):=fun ρ G H μ σ δ δ' vs ds Q R E r e q=>by
 cases r with
 | nil=>cases e
 | cons a b =>
  rename_i v vs d ds
  simp only[tgCons] at e
  cases e1:h d δ with
  | none=>rw[e1] at e;cases e
  | some δ1 =>
   rw[e1] at e
   refine⟨v,vs,rfl,h1 ρ G H μ σ δ δ1 v d _ R E a e1 fun σ1 E1 l1 k1=>h2 ρ G H μ σ1 δ1 δ' vs ds _ R E1 b e fun σ2 E2 l2 k2=>q σ2 E2 (l2.trans l1) fun i hi=>?_⟩
   rw[k2 i fun z=>hi (List.mem_append_right _ z),k1 i fun z=>hi (List.mem_append_left _ z)]
theorem tg_tup {gs:TGs}{hs:List D→Env→Option Env}{ts:List Nat}{n:Nat}(h:TgsOk K gs hs ts):TgOk K (L2.gTup K n gs) (tgTup n hs) ts:=fun ρ G H μ σ δ δ' v d Q R E r e q=>by
 unfold tgTup at e
 split at e
 ·rename_i ds
  by_cases c:ds.length=n
  ·rw[if_pos c] at e
   cases r with
   | tup h1 r=>exact⟨_,_,rfl,ex_t R.ex h1,by rw[r.length];exact c,h ρ G H μ σ δ δ' _ ds Q R E r e q⟩
  ·rw[if_neg c] at e;cases e
 ·cases e
end
section
variable {X:Cx}{W:WX}{pos p tpos:Pos}{tg e:Expr}{te:TE}{f:EM}{ta:TA}{fa:AM}{a b:Expr}
theorem mi_seq (h:PM X W e te f):PMI X W tg e (iSeq X.K te) (imSeq f):=⟨pi_seq h.pe,snd_iseq h.sd⟩
theorem mi_rng1 (hg:Gl X "range") (hm:X.mg "range"=none) (h:PMA X W [a] ta fa) (hs:starEach [a] X.env=[(false,eval a X.env)]:=by rfl):PMI X W tg (.Call (.Name "range" p) [a] [] pos) (iRng1 ta) (imRng fa):=⟨pi_range1 hg hm h.pe hs,snd_irng h.sd⟩
theorem mi_rng2 (hg:Gl X "range") (hm:X.mg "range"=none) (h:PMA X W [a,b] ta fa) (hs:starEach [a,b] X.env=[(false,eval a X.env),(false,eval b X.env)]:=by rfl) (hs2:starEach [b] X.env=[(false,eval b X.env)]:=by rfl):PMI X W tg (.Call (.Name "range" p) [a,b] [] pos) (iRng2 ta) (imRng2 fa):=⟨pi_range2 hg hm h.pe hs hs2,snd_irng2 h.sd⟩
structure PMGs (X:Cx)(es:List Expr)(g:TGs)(h:List D→Env→Option Env)(ts:List Nat):Prop where
 pg:PGs X es g
 ok:TgsOk X.K g h ts
theorem gs_nil:PMGs X [] gNil tgNil []:=⟨pgs_nil,tgs_nil⟩
theorem gs_cons {es:List Expr}{g:TG}{gs:TGs}{h:D→Env→Option Env}{hs:List D→Env→Option Env}{t ts:List Nat}(h1:PMG X e g h t)(h2:PMGs X es gs hs ts)
  (ha:List.map (fun x=>x.snd) (assignEach (e::es) X.env)=assign e X.env::List.map (fun x=>x.snd) (assignEach es X.env):=by rfl):PMGs X (e::es) (gCons g gs) (tgCons h hs) (t++ts):=⟨pgs_cons h1.pg h2.pg ha,tgs_cons h1.ok h2.ok⟩
theorem pg_tp {es:List Expr}{k n:Nat}{gs:TGs}{hs:List D→Env→Option Env}{ts:List Nat}(hc:X.calm=true)(h:PMGs X es gs hs ts)(h1:(assignEach es X.env).length=n:=by rfl)(h2:List.findIdx? (fun x=>x.fst) (assignEach es X.env)=none:=by rfl) :
  PMG X (.Tuple es k pos) (L2.gTup X.K n gs) (tgTup n hs) ts:=⟨pg_tup hc h.pg h1 h2,tg_tup h.ok⟩
end
section
variable {K:PySem.W.Frag}{W:WX}{N M:Nat}{ρ:Pm}{G H:Hp}{σ:Slots}{δ:Env}{μ:Mem}{Q:VK}{v w:V}{x y:DV}
theorem Rel.setL {n:Nat}{a:Addr}{vs':List V}{xs' ys:List DV}(R:Rel K ρ G H μ)(hn:ρ n=some a)(hm:μ[n]?=some (.lst ys))(hb:∀ x∈xs',x.below n)(hd:DvL K ρ G vs' xs') :
  Rel K ρ G (upd H a (.lst vs')) (μ.set n (.lst xs'))∧Tr ρ G H G (upd H a (.lst vs')):=by
 have hlt:n<μ.length:=R.lt n a hn
 refine⟨⟨fun b o h=>?_,R.inj,R.nG,fun m b h=>by rw[List.length_set];exact R.lt m b h,fun m b h q=>?_,fun m q h=>?_⟩,⟨Ex.refl _,fun b o hb h=>?_,fun b h=>?_,fun b h=>.inl h,fun b od u h=>?_⟩⟩
 ·have e:b≠a:=fun e=>by rw[e,R.nG n a hn] at h;cases h
  rw[upd_ne e];exact R.ex b o h
 ·by_cases e:b=a
  ·rw[e,upd_same] at q;cases q
  ·rw[upd_ne e] at q;exact R.hs m b h q
 ·by_cases e:m=n
  ·subst e
   rw[List.getElem?_set_self hlt] at h
   cases h
   exact⟨hb,a,vs',hn,upd_same,hd⟩
  ·rw[List.getElem?_set_ne (fun z=>e z.symm)] at h
   have z:=R.pl m q h
   have ne:∀ b,ρ m=some b→b≠a:=fun b hb z=>e (R.inj m n a (z▸hb) hn)
   cases q with
   | lst xs=>obtain⟨b,c,vs,h1,h2,h3⟩:=z;exact⟨b,c,vs,h1,by rw[upd_ne (ne c h1)];exact h2,h3⟩
   | dct kvs=>obtain⟨b,c,o,vs,h1,h2,h3⟩:=z;exact⟨b,c,o,vs,h1,by rw[upd_ne (ne c h1)];exact h2,h3⟩
   | lkd kvs=>obtain⟨b,c,o,vs,h1,h2,h3⟩:=z;exact⟨b,c,o,vs,h1,by rw[upd_ne (ne c h1)];exact h2,h3⟩
   | lkl xs=>obtain⟨b,c,o,vs,h1,h2,h3⟩:=z;exact⟨b,c,o,vs,h1,by rw[upd_ne (ne c h1)];exact h2,h3⟩
   | tp xs=>obtain⟨b,c,o,vs,h1,h2,h3⟩:=z;exact⟨b,c,o,vs,h1,by rw[upd_ne (ne c h1)];exact h2,h3⟩
   | own=>obtain⟨b,c,h1,h2⟩:=z;exact⟨b,c,h1,by rw[upd_ne (ne b h1)];exact h2⟩
   | ins nm fs =>
    obtain⟨b,c,dx,C,vs,k,hk,h1,h2,cl,h4,h3⟩:=z
    have nd:dx≠a:=fun e=>by
     obtain⟨_,a',vs',k1,k2,_⟩:=R.pl n _ hm
     rw[hn] at k1;cases k1;rw[e,k2] at h4;cases h4
    exact⟨b,c,dx,C,vs,k,hk,h1,by rw[upd_ne (ne c h1)];exact h2,cl,by rw[upd_ne nd];exact h4,h3⟩
   | gone=>exact z
 ·have e:b≠a:=fun e=>hb n (e▸hn)
  rw[upd_ne e];exact h
 ·by_cases e:b=a
  ·rw[e,upd_same] at h;cases h
  ·rw[upd_ne e] at h;exact h
 ·rw[upd_ne (fun e=>by
   obtain⟨_,a',vs',k1,k2,_⟩:=R.pl n _ hm
   rw[hn] at k1;cases k1;rw[e,k2] at h;cases h)]
  exact h
def MtD (K:PySem.W.Frag)(r:V→List V→Hp→VK→Prop)(g:DV→List DV→Mem→Res R):Prop:=∀ (W:WX) (ρ:Pm) (G H:Hp) (σ:Slots) (μ:Mem) (v:V) (vs:List V) (x:DV) (xs:List DV) (Q:VK),Rel K ρ G H μ→DvOk K ρ G v x→DvL K ρ G vs xs →
 PostG K W ρ G H σ (fun G' H'=>rpE K ρ G' H H') Q (g x xs μ)→r v vs H Q
def TyD (K:PySem.W.Frag)(T:String)(c:DV→Mem→Bool):Prop:=∀ (ρ:Pm) (G H:Hp) (μ:Mem) (v:V) (x:DV),Rel K ρ G H μ→DvOk K ρ G v x→c x μ=true→tyV K T v H
def tyL (x:DV)(μ:Mem):Bool:=(asL μ x).isSome
def tyS (x:DV)(_:Mem):Bool:=(asStr x).isSome
theorem td_list:TyD K "list" tyL:=fun ρ G H μ v x R h e=>by
 unfold tyL at e
 cases q:asL μ x with
 | none=>rw[q] at e;cases e
 | some xs =>
  obtain⟨a,vs,rfl,h2,_⟩:=asL_ok R h q
  exact .inl ⟨rfl,vs,h2⟩
def eBM (c:DV→Mem→Bool)(g:DV→List DV→Mem→Res R)(f:EM)(fa:AM):EM:=fun δ μ=>(frzV f δ μ).bind fun x μ1=>if c x μ1=true then(fa δ μ1).bind fun xs μ2=>g x xs μ2 else .bad
def eBM0 (c:DV→Mem→Bool)(g:DV→List DV→Mem→Res R)(f:EM):EM:=fun δ μ=>(frzV f δ μ).bind fun x μ1=>if c x μ1=true then g x [] μ1 else .bad
theorem snd_bm {T:String}{c:DV→Mem→Bool}{r:V→List V→Hp→VK→Prop}{g:DV→List DV→Mem→Res R}{to:TE}{ta:TA}{f:EM}{fa:AM}(hT:TyD K T c)(hm:MtD K r g)(h:SndE K W to f)(ha:SndA K W ta fa):SndE K W (tBM K T r to ta) (eBM c g f fa):=fun ρ G H σ δ μ Q R E hp=>by
 refine SndG.seq (t:=to) h.toV R E hp fun x μ1 G1 H1 v t1 R1 E1 d1 hp1=>?_
 by_cases hc:c x μ1=true
 case neg=>rw[if_neg hc] at hp1;exact hp1.elim
 rw[if_pos hc] at hp1
 refine⟨hT ρ G1 H1 μ1 v x R1 d1 hc,?_⟩
 refine SndG.seq (t:=ta) ha R1 E1 (hp1.shiftE t1) fun xs μ2 G2 H2 vs t2 R2 E2 d2 hp2=>?_
 exact hm W ρ G2 H2 σ μ2 v vs x xs Q R2 (d1.mono t2.exG fun _ _ q=>q) d2 (hp2.shiftE t2)
theorem snd_bm0 {T:String}{c:DV→Mem→Bool}{r:V→List V→Hp→VK→Prop}{g:DV→List DV→Mem→Res R}{to:TE}{f:EM}(hT:TyD K T c)(hm:MtD K r g)(h:SndE K W to f):SndE K W (tBM0 K T r to) (eBM0 c g f):=fun ρ G H σ δ μ Q R E hp=>by
 refine SndG.seq (t:=to) h.toV R E hp fun x μ1 G1 H1 v t1 R1 E1 d1 hp1=>?_
 by_cases hc:c x μ1=true
 case neg=>rw[if_neg hc] at hp1;exact hp1.elim
 rw[if_pos hc] at hp1
 exact⟨hT ρ G1 H1 μ1 v x R1 d1 hc,hm W ρ G1 H1 σ μ1 v [] x [] Q R1 d1 .nil (hp1.shiftE t1)⟩
def atPl (μ:Mem):DV→Option (Nat×List DV)
 | .loc n=>match μ[n]? with
  | some (.lst xs)=>some (n,xs)
  | _=>none
 | .dat _=>none
theorem atPl_ok {n:Nat}{xs:List DV}(R:Rel K ρ G H μ)(h:DvOk K ρ G v x)(e:atPl μ x=some (n,xs)):∃ a vs,v=.ref a∧ρ n=some a∧H a=some (.lst vs)∧DvL K ρ G vs xs∧μ[n]?=some (.lst xs)∧∀ x∈xs,x.below n:=by
 unfold atPl at e
 split at e
 ·rename_i m
  split at e
  ·rename_i ys q
   cases e
   obtain⟨a,rfl,hn⟩:=h
   obtain⟨b,c,vs,h1,h2,h3⟩:=R.pl _ _ q
   rw[hn] at h1;cases h1
   exact⟨a,vs,rfl,hn,h2,h3,q,b⟩
  ·cases e
 ·cases e
def belowB (n:Nat):DV→Bool
 | .dat _=>true
 | .loc m=>decide (m<n)
theorem belowB_ok {n:Nat}(h:belowB n x=true):x.below n:=by
 cases x with
 | dat d=>trivial
 | loc m=>exact(of_decide_eq_true h:m<n)
def dAppend (x:DV)(xs:List DV)(μ:Mem):Res R:=match atPl μ x with
 | none=>.bad
 | some (n,ys)=>match xs with
  | [y]=>if ys.length<sizeLine∧belowB n y=true then .ok (.dat .non) (μ.set n (.lst (ys++[y]))) else .bad
  | _=>.bad
theorem below_app {n:Nat}{xs ys:List DV}(h1:∀ x∈xs,x.below n)(h2:∀ x∈ys,x.below n):∀ x∈xs++ys,x.below n:=fun x hx=>(List.mem_append.mp hx).elim (h1 x) (h2 x)
theorem md_append:MtD K rAppend dAppend:=fun W ρ G H σ μ v vs x xs Q R hx hs hp=>by
 unfold dAppend at hp
 cases e:atPl μ x with
 | none=>rw[e] at hp;exact hp.elim
 | some q =>
  obtain⟨n,ys⟩:=q
  rw[e] at hp
  obtain⟨a,ws,rfl,hn,hH,hd,hm,hb⟩:=atPl_ok R hx e
  match xs,hs,hp with
  | [],_,hp=>exact hp.elim
  | _::_::_,_,hp=>exact hp.elim
  | [y],hs,hp =>
   obtain⟨u,rfl,du⟩:=hs.one
   simp only at hp
   by_cases c:ys.length<sizeLine∧belowB n y=true
   ·rw[if_pos c] at hp
    obtain⟨R2,t2⟩:=R.setL hn hm (below_app hb fun x hx=>by rw[List.mem_singleton.mp hx];exact belowB_ok c.2) (hd.append (.cons du .nil))
    exact⟨a,ws,u,rfl,rfl,hH,by rw[paired_len hd];exact c.1,hp _ _ _ t2 R2 Rp.non⟩
   ·rw[if_neg c] at hp;exact hp.elim
theorem DvL.erase {vs:List V}{xs:List DV}(h:DvL K ρ G vs xs)(k:Nat):DvL K ρ G (vs.eraseIdx k) (xs.eraseIdx k):=by
 induction h generalizing k with
 | nil=>exact .nil
 | cons a b ih =>
  cases k with
  | zero=>exact b
  | succ k=>exact .cons a (ih k)
def dPop (x:DV)(xs:List DV)(μ:Mem):Res R:=match atPl μ x with
 | none=>.bad
 | some (n,ys)=>match xs with
  | [i]=>match asI i with
   | some j=>if -2^63≤j∧j<2^63 then match seqIndex? j ys.length with
     | some k=>match ys[k]? with
      | some y=>.ok (ofV y) (μ.set n (.lst (ys.eraseIdx k)))
      | none=>.bad
     | none=>.bad
    else .bad
   | none=>.bad
  | _=>.bad
theorem md_popAt:MtD K rPopAt dPop:=fun W ρ G H σ μ v vs x xs Q R hx hs hp=>by
 unfold dPop at hp
 cases e:atPl μ x with
 | none=>rw[e] at hp;exact hp.elim
 | some q =>
  obtain⟨n,ys⟩:=q
  rw[e] at hp
  obtain⟨a,ws,rfl,hn,hH,hd,hm,hb⟩:=atPl_ok R hx e
  match xs,hs,hp with
  | [],_,hp=>exact hp.elim
  | _::_::_,_,hp=>exact hp.elim
  | [i],hs,hp =>
   obtain⟨u,rfl,du⟩:=hs.one
   simp only at hp
   cases e2:asI i with
   | none=>rw[e2] at hp;exact hp.elim
   | some j =>
    simp only[e2] at hp
    by_cases c:-2^63≤j∧j<2^63
    case neg=>rw[if_neg c] at hp;exact hp.elim
    rw[if_pos c] at hp
    cases e3:seqIndex? j ys.length with
    | none=>rw[e3] at hp;exact hp.elim
    | some k =>
     simp only[e3] at hp
     cases e4:ys[k]? with
     | none=>rw[e4] at hp;exact hp.elim
     | some y =>
      rw[e4] at hp
      obtain⟨z,h1,h2⟩:=DvL.get' hd e4
      obtain⟨R2,t2⟩:=R.setL hn hm (fun x hx=>hb x (List.mem_of_mem_eraseIdx hx)) (hd.erase k)
      rw[asI_ok du e2]
      exact⟨a,ws,j,k,z,rfl,rfl,hH,c.1,c.2,by rw[paired_len hd];exact e3,h1,hp _ _ _ t2 R2 (RpR.ofV h2)⟩
def dClear (x:DV)(xs:List DV)(μ:Mem):Res R:=match atPl μ x with
 | none=>.bad
 | some (n,_)=>match xs with
  | []=>.ok (.dat .non) (μ.set n (.lst []))
  | _=>.bad
theorem md_clear:MtD K rClear dClear:=fun W ρ G H σ μ v vs x xs Q R hx hs hp=>by
 unfold dClear at hp
 cases e:atPl μ x with
 | none=>rw[e] at hp;exact hp.elim
 | some q =>
  obtain⟨n,ys⟩:=q
  rw[e] at hp
  obtain⟨a,ws,rfl,hn,hH,hd,hm,hb⟩:=atPl_ok R hx e
  match xs,hs,hp with
  | _::_,_,hp=>exact hp.elim
  | [],hs,hp =>
   cases hs
   obtain⟨R2,t2⟩:=R.setL hn hm (xs':=[]) (vs':=[]) (fun x hx=>nomatch hx) .nil
   exact⟨a,ws,rfl,rfl,hH,hp _ _ _ t2 R2 Rp.non⟩
end
section
variable {X:Cx}{W:WX}{o e:Expr}{es:List Expr}{to:TE}{ta:TA}{name:Str}{apos cpos:Pos}{T id:String}{r:V→List V→Hp→VK→Prop}{c:DV→Mem→Bool}{g:DV→List DV→Mem→Res R}{f:EM}{fa:AM}
theorem pm_bm (hp:PlainAttrs T) (hsl:Slot T name id) (hty:typeOf (Value.builtin id)=pure (Value.type "method_descriptor")) (hm:MtR X id r) (hT:TyD X.K T c) (hd:MtD X.K r g) (ho:PM X W o to f) (ha:PMA X W (e::es) ta fa)
  (h1:attributeBase o name X.env (eval o X.env)=eval o X.env:=by rfl)
  (h2:(((((backTo cpos (starEach (e::es) X.env)).all fun x=>!x.fst)&&(backToKw cpos (keywordEach [] X.env)).all fun x=>x.fst.isSome)&&decide (((e::es).length+([]:List Keyword).length+if([]:List Keyword).isEmpty=true then 0 else 1)<30))=true):=by rfl)
  (h3:(apos.endLine==cpos.line)=true:=by rfl) (h4:starEach (e::es) X.env=(false,eval e X.env)::starEach es X.env:=by rfl) (h5:((backTo cpos (starEach es X.env)).any fun x=>x.fst)=false:=by rfl) :
  PM X W ((o.Attribute name apos).Call (e::es) [] cpos) (tBM X.K T r to ta) (eBM c g f fa):=⟨pe_bm hp hsl hty hm ho.pe ha.pe h1 h2 h3 h4 h5,snd_bm hT hd ho.sd ha.sd⟩
theorem pm_bm0 (hp:PlainAttrs T) (hsl:Slot T name id) (hty:typeOf (Value.builtin id)=pure (Value.type "method_descriptor")) (hm:MtR X id r) (hT:TyD X.K T c) (hd:MtD X.K r g) (ho:PM X W o to f)
  (h1:attributeBase o name X.env (eval o X.env)=eval o X.env:=by rfl) (h3:(apos.endLine==cpos.line)=true:=by rfl) :
  PM X W ((o.Attribute name apos).Call [] [] cpos) (tBM0 X.K T r to) (eBM0 c g f):=⟨pe_bm0 hp hsl hty hm ho.pe h1 h3,snd_bm0 hT hd ho.sd⟩
end
def rGetL (K:PySem.W.Frag):V→V→Hp→VK→Prop:=fun o i H Q=>∃ p xs k v,o=.ref p∧i=.int k∧SqL K H p xs∧0≤k∧k<2^63∧xs[k.toNat]?=some v∧Q v H
theorem pget_list {X:Cx}:PGet X (rGetL X.K):=by
 intro pins s σ H o i ov iv Q I ro ri h
 obtain⟨p,xs,k,v,rfl,rfl,hq,h0,h1,hx,q⟩:=h
 cases ro
 obtain⟨t,rfl⟩:=ri
 obtain⟨its,rv,pl,hz⟩:=I.list hq
 obtain⟨u,hu,ru⟩:=rv.get hx
 exact wpAny_getItem_list pl.isList h0 h1 (by simpa using hu) ⟨v,H,I,ru,q⟩
section
variable {K:PySem.W.Frag}{W:WX}{N M:Nat}{ρ:Pm}{G H:Hp}{σ:Slots}{δ:Env}{μ:Mem}{Q:VK}{v w:V}{x y:DV}
theorem DvL.set {vs:List V}{xs:List DV}(h:DvL K ρ G vs xs)(k:Nat)(d:DvOk K ρ G v x):DvL K ρ G (vs.set k v) (xs.set k x):=by
 induction h generalizing k with
 | nil=>exact .nil
 | cons a b ih =>
  cases k with
  | zero=>exact .cons d b
  | succ k=>exact .cons a (ih k)
def setPl (μ:Mem)(x i y:DV):Option Mem:=match atPl μ x with
 | none=>none
 | some (n,ys)=>match asI i with
  | none=>none
  | some k=>match ixN ys.length k with
   | some j=>if belowB n y=true then some (μ.set n (.lst (ys.set j y))) else none
   | none=>none
theorem setPl_ok {i:DV}{vi:V}{μ':Mem}{Qh:Hp→Prop}(R:Rel K ρ G H μ)(hx:DvOk K ρ G v x)(hi:DvOk K ρ G vi i)(hy:DvOk K ρ G w y)(e:setPl μ x i y=some μ')
  (go:∀ H',Tr ρ G H G H'→Rel K ρ G H' μ'→Qh H'):rSetL v vi w H Qh:=by
 unfold setPl at e
 cases e1:atPl μ x with
 | none=>rw[e1] at e;cases e
 | some q =>
  obtain⟨n,ys⟩:=q
  simp only[e1] at e
  obtain⟨a,ws,rfl,hn,hH,hd,hm,hb⟩:=atPl_ok R hx e1
  cases e2:asI i with
  | none=>rw[e2] at e;cases e
  | some k =>
   simp only[e2] at e
   cases e3:ixN ys.length k with
   | none=>rw[e3] at e;cases e
   | some j =>
    simp only[e3] at e
    by_cases c:belowB n y=true
    ·rw[if_pos c] at e;cases e
     obtain⟨R2,t2⟩:=R.setL hn hm (fun x hx=>(List.mem_or_eq_of_mem_set hx).elim (hb x) fun z=>by rw[z];exact belowB_ok c) (hd.set j hy)
     exact⟨a,ws,k,j,rfl,asI_ok hi e2,hH,by rw[paired_len hd];exact e3,go _ t2 R2⟩
    ·rw[if_neg c] at e;cases e
def gSet (fo fi fe:EM):SM:=fun _ δ μ=>lift ((frzV fe δ μ).bind fun y μ1=>(frzV fo δ μ1).bind fun x μ2=>(frzV fi δ μ2).bind fun i μ3=>match setPl μ3 x i y with
 | some μ4=>.ok () μ4
 | none=>.bad) δ fun _ μ4=>.next δ μ4
theorem SndG.stm2 {α β γ:Type}{t:Slots→Hp→(β→Hp→Prop)→Prop}{f:Env→Mem→Res α}{rp:Pm→Hp→Hp→Hp→β→α→Prop}{Dn:Ends}
  (h:SndG K W t f rp) (R:Rel K ρ G H μ) (E:EnvOk K ρ G σ δ) {k:α→Mem→Res γ} {kk:γ→Mem→Out}
  (hp:PostS K W N ρ G H Dn (lift ((f δ μ).bind k) δ kk)) {Q:β→Hp→Prop}
  (go:∀ r μ' G' H' v,Tr ρ G H G' H'→Rel K ρ G' H' μ'→EnvOk K ρ G' σ δ→rp ρ G' H H' v r→PostS K W N ρ G' H' Dn (lift (k r μ') δ kk)→Q v H'):t σ H Q:=by
 refine h ρ G H σ δ μ Q R E ?_
 cases e:f δ μ with
 | ok r μ'=>rw[e] at hp;exact fun G' H' v t' R' q=>go r μ' G' H' v t' R' (E.mono t'.exG) q (PostS.shift t'.toS hp)
 | exc x μ'=>rw[e] at hp;exact fun G' H' cls d t' R' q=>hp ρ G' H' σ cls d t'.toS R' (E.mono t'.exG) q
 | bad=>rw[e] at hp;exact hp
theorem snd_set {to ti te:TE}{fo fi fe:EM}(ho:SndE K W to fo)(hi:SndE K W ti fi)(he:SndE K W te fe):SndS K W (tAsg te (gSub to ti rSetL)) (gSet fo fi fe):=fun N ρ G H σ δ μ Dn R E hp=>by
 refine SndG.stm2 (t:=te) he.toV R E hp fun y μ1 G1 H1 w t1 R1 E1 d1 hp1=>?_
 refine SndG.stm2 (t:=to) ho.toV R1 E1 hp1 fun x μ2 G2 H2 v t2 R2 E2 d2 hp2=>?_
 refine SndG.stm2 (t:=ti) hi.toV R2 E2 hp2 fun i μ3 G3 H3 vi t3 R3 E3 d3 hp3=>?_
 cases e:setPl μ3 x i y with
 | none=>rw[e] at hp3;exact hp3.elim
 | some μ4 =>
  rw[e] at hp3
  exact setPl_ok R3 (d2.mono t3.exG fun _ _ q=>q) d3 (d1.mono (t2.exG.trans t3.exG) fun _ _ q=>q) e fun H' t4 R4=>hp3 ρ G3 H' σ t4.toS R4 E3
def getPl (μ:Mem)(x i:DV):Option Int:=match asL μ x with
 | none=>none
 | some xs=>match asI i with
  | none=>none
  | some k=>if 0≤k∧k<2^63 then match xs[k.toNat]? with
    | some y=>asI y
    | none=>none
   else none
def gAugS (op:Int→Int→Int)(fo fi fe:EM):SM:=fun _ δ μ=>lift ((frzV fo δ μ).bind fun x μ1=>(frzV fi δ μ1).bind fun i μ2=>match getPl μ2 x i with
 | none=>.bad
 | some a=>(frzV fe δ μ2).bind fun y μ3=>match asI y with
  | none=>.bad
  | some b=>match setPl μ3 x i (.dat (.int (op a b))) with
   | some μ4=>.ok () μ4
   | none=>.bad) δ fun _ μ4=>.next δ μ4
theorem snd_augS {to ti te:TE}{fo fi fe:EM}{op:Int→Int→Int}(ho:SndE K W to fo)(hi:SndE K W ti fi)(he:SndE K W te fe):SndS K W (tAugS to ti te (rGetL K) (ipI op) rSetL) (gAugS op fo fi fe):=fun N ρ G H σ δ μ Dn R E hp=>by
 refine SndG.stm2 (t:=to) ho.toV R E hp fun x μ1 G1 H1 v t1 R1 E1 d1 hp1=>?_
 refine SndG.stm2 (t:=ti) hi.toV R1 E1 hp1 fun i μ2 G2 H2 vi t2 R2 E2 d2 hp2=>?_
 cases eg:getPl μ2 x i with
 | none=>rw[eg] at hp2;exact hp2.elim
 | some a =>
  simp only[eg] at hp2
  have d1':=d1.mono t2.exG fun _ _ q=>q
  unfold getPl at eg
  cases e1:asL μ2 x with
  | none=>rw[e1] at eg;cases eg
  | some xs =>
   simp only[e1] at eg
   cases e2:asI i with
   | none=>rw[e2] at eg;cases eg
   | some k =>
    simp only[e2] at eg
    by_cases c:0≤k∧k<2^63
    case neg=>rw[if_neg c] at eg;cases eg
    rw[if_pos c] at eg
    cases e3:xs[k.toNat]? with
    | none=>rw[e3] at eg;cases eg
    | some z =>
     simp only[e3] at eg
     obtain⟨p,vs,rfl,hq,hd⟩:=asL_ok R2 d1' e1
     obtain⟨u,h1,h2⟩:=DvL.get' hd e3
     refine⟨p,vs,k,u,rfl,asI_ok d2 e2,hq,c.1,c.2,h1,?_⟩
     rw[asI_ok h2 eg]
     refine SndG.stm2 (t:=te) he.toV R2 E2 hp2 fun y μ3 G3 H3 w t3 R3 E3 d3 hp3=>?_
     cases e4:asI y with
     | none=>rw[e4] at hp3;exact hp3.elim
     | some b =>
      simp only[e4] at hp3
      refine⟨a,b,rfl,asI_ok d3 e4,?_⟩
      cases e5:setPl μ3 x i (.dat (.int (op a b))) with
      | none=>rw[e5] at hp3;exact hp3.elim
      | some μ4 =>
       rw[e5] at hp3
       exact setPl_ok R3 (d1'.mono t3.exG fun _ _ q=>q) (d2.mono t3.exG fun _ _ q=>q) (y:=.dat (.int (op a b))) (Rp.int _) e5 fun H' t4 R4=>hp3 ρ G3 H' σ t4.toS R4 E3
def gAug (i:Nat)(op:Int→Int→Int)(fe:EM):SM:=fun _ δ μ=>match δ[i]? with
 | some (some x)=>match asI x with
  | some a=>lift (frzV fe δ μ) δ fun y μ'=>match asI y with
   | some b=>.next (δ.set i (some (.dat (.int (op a b))))) μ'
   | none=>.bad
  | none=>.bad
 | _=>.bad
def gPar (i j:Nat)(fa:AM):SM:=fun _ δ μ=>lift (fa δ μ) δ fun xs μ'=>match xs with
 | [x,y]=>.next ((δ.set i (some x)).set j (some y)) μ'
 | _=>.bad
theorem snd_par {ta:TA}{fa:AM}(i j:Nat)(ha:SndA K W ta fa):SndS K W (tPar i j ta) (gPar i j fa):=fun N ρ G H σ δ μ Dn R E hp=>by
 refine SndG.stm (t:=ta) ha R E hp fun xs μ' G' H' vs t' R' E' d hp'=>?_
 match xs,d,hp' with
 | [],_,hp'=>exact hp'.elim
 | [_],_,hp'=>exact hp'.elim
 | _::_::_::_,_,hp'=>exact hp'.elim
 | [x,y],d,hp' =>
  obtain⟨v,w,rfl,dx,dy⟩:=d.two
  exact⟨v,w,rfl,hp' ρ G' H' _ t'.toS R' ((E'.set i dx).set j dy)⟩
def gPar2 (i j:Nat)(f g:EM):SM:=fun N δ μ=>lift (f δ μ) δ fun r μ1=>match bindR N i r δ μ1 with
 | .next δ1 μ2=>lift (g δ μ2) δ fun r2 μ3=>bindR N j r2 δ1 μ3
 | _=>.bad
end
section
variable {X:Cx}{W:WX}{pos p tpos px py pt pt2:Pos}{e o i a b:Expr}{te to ti:TE}{f fo fi:EM}{ta:TA}{fa:AM}
theorem sm_set (ho:PM X W o to fo)(hi:PM X W i ti fi)(he:PM X W e te f)
  (hs:∀ (v:Value),assign (o.Subscript i p) X.env v=(do
        let ov ←holding [v] (eval o X.env)
        let iv ←holding [v,ov] (eval i X.env)
        standAt p
        holding [v,ov,iv] (setItem ov iv v)
        release [v,ov,iv] []):=by intro _;rfl)
  (a1:swapsWithSole [o.Subscript i p] e pos.line X.env=pure false:=by rfl) (a2:swappedStores [o.Subscript i p] e X.env=pure none:=by rfl) (a3:List.map (fun x=>x.snd) (assignEach [o.Subscript i p] X.env)=[assign (o.Subscript i p) X.env]:=by rfl) :
  PSM X W (.Assign [o.Subscript i p] e pos) (tAsg te (gSub to ti rSetL)) (gSet fo fi f):=⟨ps_asg he.pe (pg_sub ho.pe hi.pe set_list hs) a1 a2 a3,snd_set ho.sd hi.sd he.sd⟩
theorem sm_augS (ho:PM X W o to fo)(hi:PM X W i ti fi)(he:PM X W e te f)
  (hs:∀ (ov iv new:Value),augStore i ov iv new=(do
           holding [new,ov,iv] (setItem ov iv new)
           release [new,ov,iv] []
           pure Flow.next):=by intro _ _ _;rfl) :
  PSM X W (.AugAssign (o.Subscript i tpos) .Add e pos) (tAugS to ti te (rGetL X.K) (ipI fun i j=>i+j) rSetL) (gAugS (fun i j=>i+j) fo fi f):=⟨ps_augS ho.pe hi.pe pget_list he.pe ip_add set_list hs,snd_augS ho.sd hi.sd he.sd⟩
theorem sm_par {x y:Str}{kt k2:Nat}(n m:Nat)(hc:X.calm=true)(hN:X.N.Nodup)(ha:PMA X W [a,b] ta fa)(hi:X.N[n]?=some x:=by rfl)(hj:X.N[m]?=some y:=by rfl)(hne:n≠m:=by decide)
  (hx:X.env.scope.names.lookup x=some .local:=by rfl) (hy:X.env.scope.names.lookup y=some .local:=by rfl)
  (hs:swappedStores [Expr.Tuple [Expr.Name x px,Expr.Name y py] kt pt] (Expr.Tuple [a,b] k2 pt2) X.env=pure (some [x,y]):=by rfl)
  (hs2:swapsWithSole [Expr.Tuple [Expr.Name x px,Expr.Name y py] kt pt] (Expr.Tuple [a,b] k2 pt2) pos.line X.env=pure false:=by rfl) :
  PSM X W (.Assign [Expr.Tuple [Expr.Name x px,Expr.Name y py] kt pt] (Expr.Tuple [a,b] k2 pt2) pos) (tPar n m ta) (gPar n m fa):=⟨ps_par hc hN hi hj hne hx hy ha.pe hs hs2,snd_par n m ha.sd⟩
theorem pm_cb {x:Str}{es:List Expr}{id:String}{r:List V→Hp→VK→Prop}{g:List DV→Mem→Res R}(hr:CallR X (.builtin id) r)(hd:CallD X.K r g)(hg:Gl X x)(hm:X.mg x=none)(hv:bootBuiltins x=some (.builtin id))(ha:PMA X W (e::es) ta fa)
  (hn:x≠"__name__":=by decide) (hdb:(x==("__debug__":Str))=false:=by decide) (he:starEach (e::es) X.env=(false,eval e X.env)::starEach es X.env:=by rfl) (hpl:(backTo pos (starEach es X.env)).any (·.1)=false:=by rfl) :
  PM X W (.Call (.Name x p) (e::es) [] pos) (tCB r ta) (eCB g fa):=⟨pe_callB hr hg hm hv ha.pe hn hdb he hpl,snd_cb hd ha.sd⟩
end
section
variable {K:PySem.W.Frag}{W:WX}{N M:Nat}{ρ:Pm}{G H:Hp}{σ:Slots}{δ:Env}{μ:Mem}{Q:VK}{v w:V}{x y:DV}
theorem bindR_ok {r:R}{i:Nat}{G0 H0:Hp}{δ1:Env}{μ2:Mem}(R':Rel K ρ G H μ)(t':TrS N ρ G0 H0 ρ G H)(d:RpR K ρ G H0 H v r)(e:bindR N i r δ μ=.next δ1 μ2) :
  ∃ ρ1 x,TrS N ρ G0 H0 ρ1 G H∧Rel K ρ1 G H μ2∧(∀ n b,ρ n=some b→ρ1 n=some b)∧DvOk K ρ1 G v x∧δ1=δ.set i (some x):=by
 cases r with
 | dat d'=>cases e;exact⟨ρ,.dat d',t',R',fun _ _ q=>q,d,rfl⟩
 | loc n=>cases e;exact⟨ρ,.loc n,t',R',fun _ _ q=>q,d,rfl⟩
 | nl xs =>
  obtain⟨a,vs,rfl,h2,h3,h4,h5,h6⟩:=d
  have up:∀ n b,ρ n=some b→addP ρ μ.length a n=some b:=fun n b q=>by
   unfold addP;rw[if_neg (Nat.ne_of_lt (R'.lt n b q))];exact q
  unfold bindR at e
  by_cases hN:N≤μ.length
  case neg=>simp only[if_neg hN] at e;cases e
  simp only[if_pos hN] at e
  cases e
  obtain⟨R2,t2,up,at_⟩:=R'.alloc (p:=.lst xs) hN t' (by rw[h2];simp) h4 h5 h6 ⟨DvL.below R' h3,a,vs,by unfold addP;rw[if_pos rfl],h2,DvL.mono (Ex.refl _) up h3⟩
  exact⟨_,.loc μ.length,t2,R2,up,⟨a,rfl,at_⟩,rfl⟩
 | nk kvs =>
  obtain⟨a,o,vs,rfl,h2,hk,h3,h4,h5,h6⟩:=d
  have up:∀ n b,ρ n=some b→addP ρ μ.length a n=some b:=fun n b q=>by
   unfold addP;rw[if_neg (Nat.ne_of_lt (R'.lt n b q))];exact q
  have bl:∀ p∈kvs,p.2.below μ.length:=fun p hp=>DvL.below R' h3 p.2 (List.mem_map.mpr ⟨p,hp,rfl⟩)
  unfold bindR at e
  by_cases hN:N≤μ.length
  case neg=>simp only[if_neg hN] at e;cases e
  simp only[if_pos hN] at e
  cases e
  obtain⟨R2,t2,up,at_⟩:=R'.alloc (p:=.dct kvs) hN t' (by rw[h2];simp) h4 h5 h6 ⟨bl,a,o,vs,by unfold addP;rw[if_pos rfl],h2,hk,DvL.mono (Ex.refl _) up h3⟩
  exact⟨_,.loc μ.length,t2,R2,up,⟨a,rfl,at_⟩,rfl⟩
theorem bindR_next {r:R}{i:Nat}:(∃ δ1 μ2,bindR N i r δ μ=.next δ1 μ2)∨bindR N i r δ μ=.bad:=by
 cases r with
 | dat d=>exact .inl ⟨_,_,rfl⟩
 | loc d=>exact .inl ⟨_,_,rfl⟩
 | nl xs =>
  by_cases h:N≤μ.length
  ·exact .inl ⟨_,_,if_pos h⟩
  ·exact .inr (if_neg h)
 | nk xs =>
  by_cases h:N≤μ.length
  ·exact .inl ⟨_,_,if_pos h⟩
  ·exact .inr (if_neg h)
theorem snd_par2 {t u:TE}{f g:EM}(i j:Nat)(h1:SndE K W t f)(h2:SndE K W u g):SndS K W (tPar i j (tCons t (tCons u tNil))) (gPar2 i j f g):=fun N ρ G H σ δ μ Dn R E hp=>by
 refine SndG.stm (t:=t) h1 R E hp fun r μ1 G1 H1 v t1 R1 E1 d1 hp1=>?_
 rcases bindR_next (N:=N) (r:=r) (i:=i) (δ:=δ) (μ:=μ1) with⟨δ1,μ2,e⟩|e
 case inr=>rw[e] at hp1;exact hp1.elim
 rw[e] at hp1
 obtain⟨ρ1,x,T1,R2,up,dx,rfl⟩:=bindR_ok R1 (t1.toS (N:=N)) d1 e
 have E2:EnvOk K ρ1 G1 σ δ:=E1.up (Ex.refl _) up
 refine SndG.stm (t:=u) h2 R2 E2 (PostS.shift T1 hp1) fun r2 μ3 G3 H3 w t3 R3 E3 d3 hp3=>?_
 refine⟨v,w,rfl,?_⟩
 exact snd_bindR (σ:=σ.set i (some v)) j R3 (E3.set i (dx.mono t3.exG fun _ _ q=>q)) t3.toS d3 hp3
def eChain (g g':DV→DV→Mem→Res R)(fa fb fc:EM):EM:=fun δ μ=>(frzV fa δ μ).bind fun x μ1=>(frzV fb δ μ1).bind fun y μ2=>(g x y μ2).bind fun r μ3=>match asB r with
 | some true=>(frzV fc δ μ3).bind fun z μ4=>g' y z μ4
 | some false=>.ok (.dat (.bl false)) μ3
 | none=>.bad
theorem snd_chain {r r':R2}{g g':DV→DV→Mem→Res R}{ta tb tc:TE}{fa fb fc:EM}(ho:OpD K r g)(ho':OpD K r' g')(ha:SndE K W ta fa)(hb:SndE K W tb fb)(hc:SndE K W tc fc):SndE K W (tChain r r' ta tb tc) (eChain g g' fa fb fc):=fun ρ G H σ δ μ Q R E hp=>by
 refine SndG.seq (t:=ta) ha.toV R E hp fun x μ1 G1 H1 v t1 R1 E1 d1 hp1=>?_
 refine SndG.seq (t:=tb) hb.toV R1 E1 (hp1.shiftE t1) fun y μ2 G2 H2 w t2 R2 E2 d2 hp2=>?_
 have hp2:=hp2.shiftE t2
 refine ho W ρ G2 H2 σ μ2 v w x y _ R2 (d1.mono t2.exG fun _ _ q=>q) d2 ?_
 cases e:g x y μ2 with
 | exc z μ'=>rw[e] at hp2;exact hp2
 | bad=>rw[e] at hp2;exact hp2
 | ok r0 μ3 =>
  rw[e] at hp2
  intro G3 H3 u t3 R3 d3
  simp only[Res.bind_ok] at hp2
  cases eb:asB r0 with
  | none=>rw[eb] at hp2;exact hp2.elim
  | some b =>
   rw[eb] at hp2
   refine⟨b,asB_ok d3 eb,?_⟩
   cases b with
   | false=>exact hp2 G3 H3 _ t3 R3 (Rp.bl false)
   | true =>
    refine SndG.seq (t:=tc) hc.toV R3 (E2.mono t3.exG) (hp2.shiftE t3) fun z μ4 G4 H4 zv t4 R4 E4 d4 hp4=>?_
    exact ho' W ρ G4 H4 σ μ4 w zv y z Q R4 (d2.mono (t3.exG.trans t4.exG) fun _ _ q=>q) d4 (hp4.shiftE t4)
end
section
variable {X:Cx}{W:WX}{pos p tpos px py pt pt2 spos:Pos}{e o i a b c:Expr}{te to ti ta tb tc:TE}{f fo fi fa fb fc:EM}{tA:TA}{fA:AM}
theorem sm_par2 {x y:Str}{kt k2:Nat}(n m:Nat)(hc:X.calm=true)(hN:X.N.Nodup)(ha:PM X W a ta fa)(hb:PM X W b tb fb)(hi:X.N[n]?=some x:=by rfl)(hj:X.N[m]?=some y:=by rfl)(hne:n≠m:=by decide)
  (hx:X.env.scope.names.lookup x=some .local:=by rfl) (hy:X.env.scope.names.lookup y=some .local:=by rfl)
  (hs:swappedStores [Expr.Tuple [Expr.Name x px,Expr.Name y py] kt pt] (Expr.Tuple [a,b] k2 pt2) X.env=pure (some [x,y]):=by rfl)
  (hs2:swapsWithSole [Expr.Tuple [Expr.Name x px,Expr.Name y py] kt pt] (Expr.Tuple [a,b] k2 pt2) pos.line X.env=pure false:=by rfl)
  (h1:starEach [a,b] X.env=(false,eval a X.env)::starEach [b] X.env:=by rfl) (h2:starEach [b] X.env=(false,eval b X.env)::starEach [] X.env:=by rfl) :
  PSM X W (.Assign [Expr.Tuple [Expr.Name x px,Expr.Name y py] kt pt] (Expr.Tuple [a,b] k2 pt2) pos) (tPar n m (tCons ta (tCons tb tNil))) (gPar2 n m fa fb):=⟨ps_par hc hN hi hj hne hx hy (pa_cons ha.pe (pa_cons hb.pe pa_nil h2) h1) hs hs2,snd_par2 n m ha.sd hb.sd⟩
theorem pm_ct {x:Str}{es:List Expr}{T:String}{r:List V→Hp→VK→Prop}{g:List DV→Mem→Res R}(hr:CallR X (.type T) r)(hd:CallD X.K r g)(hg:Gl X x)(hm:X.mg x=none)(hv:bootBuiltins x=some (.type T))(ha:PMA X W (e::es) tA fA)
  (hn:x≠"__name__":=by decide) (hdb:(x==("__debug__":Str))=false:=by decide) (he:starEach (e::es) X.env=(false,eval e X.env)::starEach es X.env:=by rfl) (hpl:(backTo pos (starEach es X.env)).any (·.1)=false:=by rfl) :
  PM X W (.Call (.Name x p) (e::es) [] pos) (tCB r tA) (eCB g fA):=⟨pe_callTy hr hg hm hv ha.pe hn hdb he hpl,snd_cb hd ha.sd⟩
theorem pm_chain {op op':CmpOp}{r r':R2}{g g':DV→DV→Mem→Res R}(ho:OpR X (compareOp op) r)(hd:OpD X.K r g)(ho':OpR X (compareOp op') r')(hd':OpD X.K r' g')(ha:PM X W a ta fa)(hb:PM X W b tb fb)(hc:PM X W c tc fc)(hm:lastMarks [op,op'] [b,c]=false:=by rfl) :
  PM X W (.Compare a [op,op'] [b,c] pos) (tChain r r' ta tb tc) (eChain g g' fa fb fc):=⟨pe_chain ho ho' ha.pe hb.pe hc.pe hm,snd_chain hd hd' ha.sd hb.sd hc.sd⟩
theorem pt_chain {op op':CmpOp}{r r':R2}{g g':DV→DV→Mem→Res R}(ho:OpR X (compareOp op) r)(hd:OpD X.K r g)(ho':OpR X (compareOp op') r')(hd':OpD X.K r' g')(ha:PM X W a ta fa)(hb:PM X W b tb fb)(hc:PM X W c tc fc)(hm:lastMarks [op,op'] [b,c]=false:=by rfl) :
  PMT X W (.Compare a [op,op'] [b,c] pos) (tTest (tChain r r' ta tb tc)) (tmB (eChain g g' fa fb fc)):=⟨L2.pt_chain ho ho' ha.pe hb.pe hc.pe hm,snd_tmB (snd_chain hd hd' ha.sd hb.sd hc.sd) fun _ _ _ h=>h⟩
theorem pm_isN {k:Nat}{pc:Pos}(ha:PM X W a ta fa):PM X W (.Compare a [.Is] [.Constant .none k pc] pos) (tIsN ta) (eIsN fa):=⟨pe_cmp (pc_isN ha.pe),snd_isN ha.sd⟩
end
section
variable {K:PySem.W.Frag}{W:WX}{N M:Nat}{ρ:Pm}{G H:Hp}{σ:Slots}{δ:Env}{μ:Mem}{Q:VK}{v w:V}{x y:DV}
def gTgt (h:D→Env→Option Env)(f:EM):SM:=fun _ δ μ=>lift (frzV f δ μ) δ fun x μ'=>match x with
 | .dat d=>match h d δ with
  | some δ'=>.next δ' μ'
  | none=>.bad
 | .loc _=>.bad
theorem snd_tgt {te:TE}{f:EM}{g:TG}{h:D→Env→Option Env}{ts:List Nat}(hg:TgOk K g h ts)(he:SndE K W te f):SndS K W (tAsg te g) (gTgt h f):=fun N ρ G H σ δ μ Dn R E hp=>by
 refine SndG.stm (t:=te) he.toV R E hp fun x μ' G' H' v t' R' E' d hp'=>?_
 cases x with
 | loc n=>exact hp'.elim
 | dat d0 =>
  simp only at hp'
  cases e:h d0 δ with
  | none=>rw[e] at hp';exact hp'.elim
  | some δ' =>
   rw[e] at hp'
   exact hg ρ G' H' μ' σ δ δ' v d0 _ R' E' d e fun σ' E2 _ _=>hp' ρ G' H' σ' t'.toS R' E2
def newPl (N:Nat)(r:R)(μ:Mem):Option (DV×Mem):=match r with
 | .dat d=>some (.dat d,μ)
 | .loc n=>some (.loc n,μ)
 | .nl xs=>if N≤μ.length then some (.loc μ.length,μ++[.lst xs]) else none
 | .nk kvs=>if N≤μ.length then some (.loc μ.length,μ++[.dct kvs]) else none
theorem newPl_ok {r:R}{G0 H0:Hp}{μ2:Mem}(R':Rel K ρ G H μ)(t':TrS N ρ G0 H0 ρ G H)(d:RpR K ρ G H0 H v r)(e:newPl N r μ=some (x,μ2)) :
  ∃ ρ1,TrS N ρ G0 H0 ρ1 G H∧Rel K ρ1 G H μ2∧(∀ n b,ρ n=some b→ρ1 n=some b)∧DvOk K ρ1 G v x:=by
 have key:bindR N 0 r [none] μ=.next [some x] μ2:=by
  cases r with
  | dat d=>cases e;rfl
  | loc n=>cases e;rfl
  | nl xs =>
   simp only[newPl] at e
   by_cases h:N≤μ.length
   ·rw[if_pos h] at e;cases e;exact if_pos h
   ·rw[if_neg h] at e;cases e
  | nk xs =>
   simp only[newPl] at e
   by_cases h:N≤μ.length
   ·rw[if_pos h] at e;cases e;exact if_pos h
   ·rw[if_neg h] at e;cases e
 obtain⟨ρ1,y,h1,h2,h3,h4,h5⟩:=bindR_ok R' t' d key
 cases h5
 exact⟨ρ1,h1,h2,h3,h4⟩
abbrev NM:=Nat→Env→Mem→Res (List DV)
def nNil:NM:=fun _ _ μ=>.ok [] μ
def nCons (f:EM)(g:NM):NM:=fun N δ μ=>(f δ μ).bind fun r μ1=>match newPl N r μ1 with
 | none=>.bad
 | some (x,μ2)=>(g N δ μ2).bind fun xs μ3=>.ok (x::xs) μ3
def SndN (K:PySem.W.Frag)(W:WX)(t:TA)(f:NM):Prop:=∀ (N:Nat) (ρ:Pm) (G H:Hp) (σ:Slots) (δ:Env) (μ:Mem) (Q:List V→Hp→Prop),Rel K ρ G H μ→EnvOk K ρ G σ δ →
 (match f N δ μ with
  | .ok xs μ'=>∀ ρ' G' H' vs,TrS N ρ G H ρ' G' H'→Rel K ρ' G' H' μ'→(∀ n b,ρ n=some b→ρ' n=some b)→DvL K ρ' G' vs xs→Q vs H'
  | .exc x μ'=>∀ ρ' G' H' cls d,TrS N ρ G H ρ' G' H'→Rel K ρ' G' H' μ'→(∀ n b,ρ n=some b→ρ' n=some b)→XcOk K G' H' x cls d→W cls d σ H'
  | .bad=>False)→t σ H Q
def gDisp (i:Nat)(f:NM):SM:=fun N δ μ=>match f N δ μ with
 | .ok xs μ1=>if xs.length≤sizeLine then bindR N i (.nl xs) δ μ1 else .bad
 | .exc x μ1=>.exc x δ μ1
 | .bad=>.bad
def dNeg (x:DV)(μ:Mem):Res R:=match asI x with
 | some i=>.ok (.dat (.int (-i))) μ
 | none=>.bad
def eUn (g:DV→Mem→Res R)(f:EM):EM:=fun δ μ=>(frzV f δ μ).bind fun x μ'=>g x μ'
theorem snd_neg {ta:TE}{f:EM}(h:SndE K W ta f):SndE K W (tUn (rU fun i=>.int (-i)) ta) (eUn dNeg f):=fun ρ G H σ δ μ Q R E hp=>by
 refine SndG.seq (t:=ta) h.toV R E hp fun x μ1 G1 H1 v t1 R1 E1 d1 hp1=>?_
 unfold dNeg at hp1
 split at hp1
 ·rename_i i e
  exact⟨i,asI_ok d1 e,hp1 G1 H1 _ t1 R1 (Rp.int _)⟩
 ·exact hp1.elim
def eInK (neg:Bool)(ks:List Str)(f:EM):EM:=fun δ μ=>(frzV f δ μ).bind fun x μ'=>match asStr x with
 | some z=>.ok (.dat (.bl (if neg=true then !(ks.any fun k=>decide (k=z)) else ks.any fun k=>decide (k=z)))) μ'
 | none=>.bad
end
structure PMN (X:Cx)(W:WX)(es:List Expr)(ta:TA)(f:NM):Prop where
 pe:PA X es ta
 sd:SndN X.K W ta f
section
variable {X:Cx}{W:WX}{pos p:Pos}{e a tg:Expr}{es:List Expr}{te ta:TE}{f fa:EM}{tA:TA}{fN:NM}
theorem sm_tgt {g:TG}{h:D→Env→Option Env}{ts:List Nat}(hg:PMG X tg g h ts)(he:PM X W e te f)(a1:swapsWithSole [tg] e pos.line X.env=pure false:=by rfl)(a2:swappedStores [tg] e X.env=pure none:=by rfl)(a3:List.map (fun x=>x.snd) (assignEach [tg] X.env)=[assign tg X.env]:=by rfl) :
  PSM X W (.Assign [tg] e pos) (tAsg te g) (gTgt h f):=⟨ps_asg he.pe hg.pg a1 a2 a3,snd_tgt hg.ok he.sd⟩
theorem pm_neg (ha:PM X W a ta fa):PM X W (.UnaryOp .USub a pos) (tUn (rU fun i=>.int (-i)) ta) (eUn dNeg fa):=⟨pe_un un_neg ha.pe,snd_neg ha.sd⟩
end
section
variable {X:Cx}{W:WX}{pos p p2 q tpos apos cpos:Pos}{a b e o i:Expr}{es:List Expr}{lo hi:Option Expr}{te ta tb to ti:TE}{tA:TA}{fA:AM}{tl th:TO}{f fa fb fo fi:EM}{fl fh:OM}
theorem op_eqK (K:PySem.W.Frag)(h:X.A.units+64<cLine)(hK:X.K=K:=by rfl):OpR X (compareOp .Eq) (rEqQ K):=by subst hK;exact op_eqQ h
theorem op_neK (K:PySem.W.Frag)(h:X.A.units+64<cLine)(hK:X.K=K:=by rfl):OpR X (compareOp .NotEq) (rNeQ K):=by subst hK;exact op_neQ h
theorem pm_cmpK {op:CmpOp}{r:R2}{g:DV→DV→Mem→Res R}{K:PySem.W.Frag}(ho:OpR X (compareOp op) r)(hd:OpD K r g)(ha:PM X W a ta fa)(hb:PM X W b tb fb)(hm:behindInMarks op b=false)(hK:X.K=K:=by rfl):PM X W (.Compare a [op] [b] pos) (tOp r ta tb) (eOp g fa fb):=by
 subst hK;exact pm_cmp ho hd ha hb hm
theorem pt_cmpK {op:CmpOp}{r:R2}{g:DV→DV→Mem→Res R}{K:PySem.W.Frag}(ho:OpR X (compareOp op) r)(hd:OpD K r g)(ha:PM X W a ta fa)(hb:PM X W b tb fb)(hm:behindInMarks op b=false)(hK:X.K=K:=by rfl):PMT X W (.Compare a [op] [b] pos) (tTest (tOp r ta tb)) (tmB (eOp g fa fb)):=by
 subst hK;exact pt_cmp ho hd ha hb hm
theorem call_lenK (K:PySem.W.Frag)(hK:X.K=K:=by rfl):CallR X (.builtin "len") (fun xs H Q=>∃ x n,xs=[x]∧LenV K x H n∧Q (V.int ↑n) H):=by subst hK;exact call_len
theorem call_list_ofK (K:PySem.W.Frag)(hK:X.K=K:=by rfl):CallR X (.type "list") (fun xs H Q=>∃ p ys,xs=[V.ref p]∧(SqL K H p ys∨SqT K H p ys)∧∀ (l:Addr),H l=none→Q (V.ref l) (upd H l (HO.lst ys))):=by subst hK;exact call_list_of
theorem call_tuple_ofK (K:PySem.W.Frag)(hK:X.K=K:=by rfl):CallR X (.type "tuple") (fun xs H Q=>∃ p ys,xs=[V.ref p]∧((SqL K H p ys∧∀ (l:Addr),H l=none→Q (V.ref l) (upd H l (HO.tup ys)))∨SqT K H p ys∧Q (V.ref p) H)):=by subst hK;exact call_tuple_of
theorem cr_allK (K:PySem.W.Frag)(h:X.calm=true)(hK:X.K=K:=by rfl):CallR X (.builtin "all") (rAll K):=by subst hK;exact cr_all h
theorem cr_reprK (K:PySem.W.Frag){k:Nat}(h:Room k X.A)(hg:X.A.guards=some [])(hK:X.K=K:=by rfl):CallR X (.builtin "repr") (rRepr K):=by subst hK;exact cr_repr h hg
theorem pm_cbK {x:Str}{id:String}{r:List V→Hp→VK→Prop}{g:List DV→Mem→Res R}{K:PySem.W.Frag}(hr:CallR X (.builtin id) r)(hd:CallD K r g)(hg:Gl X x)(hm:X.mg x=none)(hv:bootBuiltins x=some (.builtin id))(ha:PMA X W (e::es) tA fA)(hK:X.K=K:=by rfl)
  (hn:x≠"__name__":=by decide) (hdb:(x==("__debug__":Str))=false:=by decide) (he:starEach (e::es) X.env=(false,eval e X.env)::starEach es X.env:=by rfl) (hpl:(backTo pos (starEach es X.env)).any (·.1)=false:=by rfl) :
  PM X W (.Call (.Name x p) (e::es) [] pos) (tCB r tA) (eCB g fA):=by subst hK;exact pm_cb hr hd hg hm hv ha hn hdb he hpl
theorem pm_ctK {x:Str}{T:String}{r:List V→Hp→VK→Prop}{g:List DV→Mem→Res R}{K:PySem.W.Frag}(hr:CallR X (.type T) r)(hd:CallD K r g)(hg:Gl X x)(hm:X.mg x=none)(hv:bootBuiltins x=some (.type T))(ha:PMA X W (e::es) tA fA)(hK:X.K=K:=by rfl)
  (hn:x≠"__name__":=by decide) (hdb:(x==("__debug__":Str))=false:=by decide) (he:starEach (e::es) X.env=(false,eval e X.env)::starEach es X.env:=by rfl) (hpl:(backTo pos (starEach es X.env)).any (·.1)=false:=by rfl) :
  PM X W (.Call (.Name x p) (e::es) [] pos) (tCB r tA) (eCB g fA):=by subst hK;exact pm_ct hr hd hg hm hv ha hn hdb he hpl
theorem pm_callK {P:Program}{w:World}{K:PySem.W.Frag}{mg:Str→Option Value}{base:Heap}{cx:CXT}{k n:Nat}{x:Str}{F:List DV→Mem→Res R}(Fn:FnD P w K mg base cx k x n F)(hr:Room k X.A)(hgd:X.A.guards=some [])(hg:Gl X x)
  (hx:∀ σ,PassesAt cx X σ (EW W σ)) (ha:PMA X W (e::es) tA fA) (h1:X.prog=P:=by rfl) (h2:X.w=w:=by rfl) (h3:X.K=K:=by rfl) (h4:X.mg=mg:=by rfl) (h5:X.base=base:=by rfl) (hdb:(x==("__debug__":Str))=false:=by decide)
  (he:starEach (e::es) X.env=(false,eval e X.env)::starEach es X.env:=by rfl) (hpl:(backTo pos (starEach es X.env)).any (·.1)=false:=by rfl) :
  PM X W (.Call (.Name x p) (e::es) [] pos) (tCallSD (spF K n F) [] (EW W) tA) (eCB F fA):=by subst h1 h2 h3 h4 h5;exact pm_call Fn hr hgd hg hx ha hdb he hpl
theorem pm_slK (K:PySem.W.Frag)(h:PM X W e te f)(hl:PMO X W lo tl fl)(hh:PMO X W hi th fh)(hK:X.K=K:=by rfl):PM X W (.Subscript e (.Slice lo hi none p2) pos) (tSl (rSl K) te tl th) (eSl f fl fh):=by subst hK;exact pm_sl h hl hh
theorem pm_addK (K:PySem.W.Frag)(ha:PM X W a ta fa)(hb:PM X W b tb fb)(hK:X.K=K:=by rfl):PM X W (.BinOp a .Add b pos) (tOp (rPlus K) ta tb) (eOp dAdd fa fb):=by subst hK;exact pm_add ha hb
theorem pm_idxK (K:PySem.W.Frag)(ha:PM X W a ta fa)(hb:PM X W b tb fb)(hs:PlainIx b)(hK:X.K=K:=by rfl):PM X W (.Subscript a b pos) (tOp (rIx K) ta tb) (eOp dIx fa fb):=by subst hK;exact pm_idx ha hb hs
theorem mi_seqK (K:PySem.W.Frag){tg:Expr}(h:PM X W e te f)(hK:X.K=K:=by rfl):PMI X W tg e (iSeq K te) (imSeq f):=by subst hK;exact mi_seq h
theorem pm_bmK (K:PySem.W.Frag) {name:Str} {T id:String} {r:V→List V→Hp→VK→Prop} {c:DV→Mem→Bool} {g:DV→List DV→Mem→Res R} (hp:PlainAttrs T) (hsl:Slot T name id) (hty:typeOf (Value.builtin id)=pure (Value.type "method_descriptor")) (hm:MtR X id r) (hT:TyD K T c) (hd:MtD K r g) (ho:PM X W o to f) (ha:PMA X W (e::es) tA fA) (hK:X.K=K:=by rfl)
  (h1:attributeBase o name X.env (eval o X.env)=eval o X.env:=by rfl)
  (h2:(((((backTo cpos (starEach (e::es) X.env)).all fun x=>!x.fst)&&(backToKw cpos (keywordEach [] X.env)).all fun x=>x.fst.isSome)&&decide (((e::es).length+([]:List Keyword).length+if([]:List Keyword).isEmpty=true then 0 else 1)<30))=true):=by rfl)
  (h3:(apos.endLine==cpos.line)=true:=by rfl) (h4:starEach (e::es) X.env=(false,eval e X.env)::starEach es X.env:=by rfl) (h5:((backTo cpos (starEach es X.env)).any fun x=>x.fst)=false:=by rfl) :
  PM X W ((o.Attribute name apos).Call (e::es) [] cpos) (tBM K T r to tA) (eBM c g f fA):=by subst hK;exact pm_bm hp hsl hty hm hT hd ho ha h1 h2 h3 h4 h5
theorem pm_bm0K (K:PySem.W.Frag) {name:Str} {T id:String} {r:V→List V→Hp→VK→Prop} {c:DV→Mem→Bool} {g:DV→List DV→Mem→Res R} (hp:PlainAttrs T) (hsl:Slot T name id) (hty:typeOf (Value.builtin id)=pure (Value.type "method_descriptor")) (hm:MtR X id r) (hT:TyD K T c) (hd:MtD K r g) (ho:PM X W o to f) (hK:X.K=K:=by rfl)
  (h1:attributeBase o name X.env (eval o X.env)=eval o X.env:=by rfl) (h3:(apos.endLine==cpos.line)=true:=by rfl) :
  PM X W ((o.Attribute name apos).Call [] [] cpos) (tBM0 K T r to) (eBM0 c g f):=by subst hK;exact pm_bm0 hp hsl hty hm hT hd ho h1 h3
theorem pg_tpK (K:PySem.W.Frag){k n:Nat}{gs:TGs}{hs:List D→Env→Option Env}{ts:List Nat}(hc:X.calm=true)(h:PMGs X es gs hs ts)(hK:X.K=K:=by rfl)(h1:(assignEach es X.env).length=n:=by rfl)(h2:List.findIdx? (fun x=>x.fst) (assignEach es X.env)=none:=by rfl) :
  PMG X (.Tuple es k pos) (L2.gTup K n gs) (tgTup n hs) ts:=by subst hK;exact pg_tp hc h h1 h2
theorem sm_augSK (K:PySem.W.Frag)(ho:PM X W o to fo)(hi:PM X W i ti fi)(he:PM X W e te f)(hK:X.K=K:=by rfl)
  (hs:∀ (ov iv new:Value),augStore i ov iv new=(do
           holding [new,ov,iv] (setItem ov iv new)
           release [new,ov,iv] []
           pure Flow.next):=by intro _ _ _;rfl) :
  PSM X W (.AugAssign (o.Subscript i tpos) .Add e pos) (tAugS to ti te (rGetL K) (ipI fun i j=>i+j) rSetL) (gAugS (fun i j=>i+j) fo fi f):=by subst hK;exact sm_augS ho hi he hs
end
section
variable {X:Cx}{cx:CXT}{k:Nat}{f C:Addr}{fd:FuncData}{ps:List Str}{sp:Sp}{E:L2.St→XK}{x m:Str}{p pos apos:Pos}{e o:Expr}{es:List Expr}{ta:TE}{t:TA}
def tMethG (C:Addr)(m:Str)(sp:Sp)(E:L2.St→XK)(ta:TE)(t:TA):TE:=fun σ H Q=>ta σ H fun x H1=>∃ a dx fs,x=.ref a∧H1 a=some (.ins C dx fs)∧fs.lookup m=none ∧
 t σ H1 fun vs H2=>sp (x::vs) H2 Q (E σ)
theorem pe_methG {pl:Sem Bool}(he:PE X o ta)(c:Cls X.K C)(hm:Meth X.K C m f)(F:FnG X.prog X.w X.K X.mg X.base cx k f fd ps sp)(hr:Room k X.A)(hgd:X.A.guards=some [])(hb:Binds X.K fd ps [])(hx:∀ σ,PassesAt cx X σ (E σ))(ha:PA X (e::es) t)
  (hst:starEach (e::es) X.env=(false,eval e X.env)::starEach es X.env:=by rfl) (hpl:(backTo pos (starEach es X.env)).any (·.1)=false:=by rfl)
  (ht:eval (.Call (.Attribute o m apos) (e::es) [] pos) X.env=(do
   let ov ←eval o X.env
   standAt apos.atName
   let (f,first) ←holding [ov] (getMethod ov m pl)
   callWith pos f first (backTo pos (starEach (e::es) X.env)) (backToKw pos (keywordEach [] X.env))):=by rfl) :
  PE X (.Call (.Attribute o m apos) (e::es) [] pos) (tMethG C m sp E ta t):=by
 refine⟨fun pins s σ H Q I h=>?_⟩
 refine PySem.W.methodCall_KW (pl:=pl) (thn (he.run pins s σ H _ I h) fun u s1 ⟨x,H1,I1,rx,a,dx,fs,ex,ea,l,q⟩=>?_) ht
 subst ex
 obtain rfl:u=Value.ref a:=rx
 refine getmeth_ok I1 ea c hm l ?_
 refine PySem.W.callWith_K (first:=[.ref a]) (h₀:=X.base) I.ok.mod.kin hm.kp (thn (ha.run pos pins s1 σ H1 _ I1 q) fun us s2 ⟨vs,H2,I2,r,q2⟩=>⟨I2.kIn,?_⟩) hst hpl
 exact run_fnG (us:=.ref a::us) (vs:=.ref a::vs) F hr hgd hb .nil (hx σ) I2 (.cons rfl r) (by rw[List.append_nil];exact q2)
theorem pe_meth0G {pl:Sem Bool}(he:PE X o ta)(c:Cls X.K C)(hm:Meth X.K C m f)(F:FnG X.prog X.w X.K X.mg X.base cx k f fd ps sp)(hr:Room k X.A)(hgd:X.A.guards=some [])(hb:Binds X.K fd ps [])(hx:∀ σ,PassesAt cx X σ (E σ))
  (ht:eval (.Call (.Attribute o m apos) [] [] pos) X.env=(do
   let ov ←eval o X.env
   standAt apos.atName
   let (f,first) ←holding [ov] (getMethod ov m pl)
   callWith pos f first (backTo pos (starEach [] X.env)) (backToKw pos (keywordEach [] X.env))):=by rfl) :
  PE X (.Call (.Attribute o m apos) [] [] pos) (tMethG C m sp E ta tNil):=by
 refine⟨fun pins s σ H Q I h=>?_⟩
 refine PySem.W.methodCall_KW (pl:=pl) (thn (he.run pins s σ H _ I h) fun u s1 ⟨x,H1,I1,rx,a,dx,fs,ex,ea,l,q⟩=>?_) ht
 subst ex
 obtain rfl:u=Value.ref a:=rx
 refine getmeth_ok I1 ea c hm l ?_
 refine PySem.W.callWith_K0 I1.kIn hm.kp ?_
 exact run_fnG (us:=[.ref a]) (vs:=[.ref a]) F hr hgd hb .nil (hx σ) I1 (.cons rfl .nil) (by rw[List.append_nil];exact q)
def tMakeG (C:Addr)(sp:Sp)(E:L2.St→XK)(t:TA):TE:=fun σ H Q=>t σ H fun vs H1=>∀ x dx,H1 x=none→H1 dx=none→dx≠x →
 sp (.ref x::vs) (upd (upd H1 dx (.own x)) x (.ins C dx [])) (fun v H2=>v=.non∧Q (.ref x) H2) (E σ)
theorem run_makeG {pins:List (Addr×Obj)}{σ:L2.St}{H:Hp}{s:Shared}{Q:VK}{us:List Value}{vs:List V}(M:Mk X.K C f)(F:FnG X.prog X.w X.K X.mg X.base cx k f fd ps sp)(hr:Room (k+1) X.A)(hgd:X.A.guards=some [])(hb:Binds X.K fd ps [])
  (hx:PassesAt cx X σ (E σ)) (I:Inv X pins σ H s) (r:Vals vs us)
  (h:∀ x dx,H x=none→H dx=none→dx≠x→sp (.ref x::vs) (upd (upd H dx (.own x)) x (.ins C dx [])) (fun v H2=>v=.non∧Q (.ref x) H2) (E σ)) :
  wpAny (model X.prog X.w) X.A (call (.ref C) us) (EP X pins σ Q) X.xe s:=by
 have hq:=h (s.heap.objs.size+1) s.heap.objs.size (I.hok.fresh (Nat.le_succ _)) (I.hok.fresh (Nat.le_refl _)) (Nat.ne_of_lt (Nat.lt_succ_self _))
 have I2:=Inv.made (C:=C) I
 have r2:Vals (V.ref (s.heap.objs.size+1)::vs) (Value.ref (s.heap.objs.size+1)::us):=.cons rfl r
 have hl:(Value.ref (s.heap.objs.size+1)::us).length=ps.length:=by
  have e:=r2.length
  rw[F.len _ _ _ _ hq] at e
  exact e.symm
 have bd:=hb _ (Value.ref (s.heap.objs.size+1)::us) I2.kIn (by rw[List.append_nil];exact hl)
 rw[List.append_nil] at bd
 refine wpAny_call (make_map (f:=f) I.kIn M.makes M.init (beq_iff_eq.mp M.fn) (codeAny_mono (F.run _ X.stack _ _ ⟨Value.ref (s.heap.objs.size+1)::us,[]⟩ (Value.ref (s.heap.objs.size+1)::us) _ _ (E σ) (hr.make C us []) ?_
  (I2.env0.make C us []) bd r2 hq) fun r s' hq'=>?_))
 ·exact hgd
 cases r with
 | error e=>exact hx pins _ _ e s' I2 hq'
 | ok fl =>
  cases fl with
  | ret u =>
   obtain⟨v,H',I3,rv,ev,q3⟩:=I2.after hq'
   subst ev
   exact⟨rv,⟨V.ref (s.heap.objs.size+1),H',I3,rfl,q3⟩⟩
  | next=>exact False.elim hq'
  | brk=>exact False.elim hq'
  | cont=>exact False.elim hq'
theorem pe_makeG (M:Mk X.K C f)(F:FnG X.prog X.w X.K X.mg X.base cx k f fd ps sp)(hr:Room (k+1) X.A)(hgd:X.A.guards=some [])(hg:Gl X x)(hm:X.mg x=some (.ref C))(hb:Binds X.K fd ps [])(hx:∀ σ,PassesAt cx X σ (E σ))
  (ha:PA X (e::es) t) (hdb:(x==("__debug__":Str))=false:=by decide) (he:starEach (e::es) X.env=(false,eval e X.env)::starEach es X.env:=by rfl) (hpl:(backTo pos (starEach es X.env)).any (·.1)=false:=by rfl) :
  PE X (.Call (.Name x p) (e::es) [] pos) (tMakeG C sp E t):=by
 refine⟨fun pins s σ H Q I h=>?_⟩
 refine wpAny_Call_Name_kw (ld_glob I hg hm ?_ hdb)
 refine PySem.W.callWith_K (h₀:=X.base) I.ok.mod.kin M.kp (thn (ha.run pos pins s σ H _ I h) fun us s1 ⟨vs,H1,I1,r,q⟩=>⟨I1.kIn,?_⟩) he hpl
 exact run_makeG M F hr hgd hb (hx σ) I1 r q
end
def insAt (μ:Mem):DV→Option (Str×List (Str×DV))
 | .dat (.ins nm fs)=>some (nm,fs.map fun p=>(p.1,.dat p.2))
 | .loc n=>match μ[n]? with
  | some (.ins nm fs)=>some (nm,fs)
  | _=>none
 | _=>none
theorem ClsAt.uniq {K:PySem.W.Frag}{nm:Str}{C C':Addr}(a:ClsAt K nm C)(b:ClsAt K nm C'):C=C':=by
 unfold ClsAt at a b;rw[a] at b;cases b;rfl
section
variable {K:PySem.W.Frag}{W:WX}{ρ:Pm}{G H:Hp}{μ:Mem}{σ:Slots}{δ:Env}
theorem dvl_dat {vs:List V}{ds:List D}(h:RpL K G vs ds):DvL K ρ G vs (ds.map DV.dat):=by
 induction h using RpL.rec (motive_1:=fun _ _ _=>True) <;> first|trivial|exact .nil|(rename_i a b c d;exact .cons a d)
theorem insAt_ok {v:V}{x:DV}{nm:Str}{fs:List (Str×DV)}(R:Rel K ρ G H μ)(h:DvOk K ρ G v x)(e:insAt μ x=some (nm,fs)) :
  ∃ a dx C vs,v=.ref a∧H a=some (.ins C dx vs)∧ClsAt K nm C∧vs.map (·.1)=fs.map (·.1)∧DvL K ρ G (vs.map (·.2)) (fs.map (·.2)):=by
 cases x with
 | dat d =>
  cases d with
  | ins nm' ds =>
   cases e
   cases h with
   | ins c h1 h2 h3 h4 =>
    refine⟨_,_,_,_,rfl,R.ex _ _ h1,c,by rw[h3];simp,?_⟩
    have:=dvl_dat (ρ:=ρ) h4
    rw[List.map_map] at this ⊢
    exact this
  | _=>cases e
 | loc n =>
  obtain⟨a,rfl,q⟩:=h
  unfold insAt at e
  match em:μ[n]? with
  | none=>simp only[em] at e;cases e
  | some (.lst _)=>simp only[em] at e;cases e
  | some (.dct _)=>simp only[em] at e;cases e
  | some (.lkd _)=>simp only[em] at e;cases e
  | some (.lkl _)=>simp only[em] at e;cases e
  | some (.tp _)=>simp only[em] at e;cases e
  | some .own=>simp only[em] at e;cases e
  | some .gone=>simp only[em] at e;cases e
  | some (.ins nm' fs') =>
   simp only[em] at e;cases e
   obtain⟨_,b,dx,C,vs,m,hm,h1,h2,c,h4,h5,h6⟩:=R.pl n _ em
   rw[q] at h1;cases h1
   exact⟨_,dx,C,vs,rfl,h2,c,h5,h6⟩
theorem look_none {α β:Type}{m:Str}:∀ {vs:List (Str×α)} {fs:List (Str×β)},vs.map (·.1)=fs.map (·.1)→fs.lookup m=none→vs.lookup m=none
 | [],[],_,_=>rfl
 | (a,x)::vs,(b,y)::fs,h,e=>by
  simp only[List.map_cons,List.cons.injEq] at h
  obtain⟨rfl,h⟩:=h
  simp only[List.lookup] at e ⊢
  cases q:m==a with
  | true=>rw[q] at e;cases e
  | false=>rw[q] at e;exact look_none h e
 | [],_::_,h,_=>by simp at h
 | _::_,[],h,_=>by simp at h
theorem look_some {m:Str}:∀ {vs:List (Str×V)} {fs:List (Str×DV)} {y:DV},vs.map (·.1)=fs.map (·.1)→DvL K ρ G (vs.map (·.2)) (fs.map (·.2))→fs.lookup m=some y→∃ v,vs.lookup m=some v∧DvOk K ρ G v y
 | [],[],_,_,_,e=>by cases e
 | (a,x)::vs,(b,y)::fs,z,h,d,e=>by
  simp only[List.map_cons,List.cons.injEq] at h d
  obtain⟨rfl,h⟩:=h
  cases d with
  | cons d1 d2 =>
   simp only[List.lookup] at e ⊢
   cases q:m==a with
   | true=>rw[q] at e;cases e;exact⟨_,rfl,d1⟩
   | false=>rw[q] at e;exact look_some h d2 e
 | [],_::_,_,h,_,_=>by simp at h
 | _::_,[],_,h,_,_=>by simp at h
def isI (nm m:Str)(x:DV)(μ:Mem):Bool:=match insAt μ x with
 | some (nm',fs)=>decide (nm'=nm)&&(fs.lookup m).isNone
 | none=>false
def eMeth (nm m:Str)(F:List DV→Mem→Res R)(f:EM)(fa:AM):EM:=fun δ μ=>(frzV f δ μ).bind fun x μ1=>if isI nm m x μ1=true then(fa δ μ1).bind fun xs μ2=>F (x::xs) μ2 else .bad
theorem isI_ok {nm m:Str}{v:V}{x:DV}{C:Addr}(R:Rel K ρ G H μ)(h:DvOk K ρ G v x)(c:ClsAt K nm C)(e:isI nm m x μ=true):∃ a dx vs,v=.ref a∧H a=some (.ins C dx vs)∧vs.lookup m=none:=by
 unfold isI at e
 cases q:insAt μ x with
 | none=>rw[q] at e;cases e
 | some p =>
  obtain⟨nm',fs⟩:=p
  rw[q] at e
  simp only[Bool.and_eq_true,decide_eq_true_eq] at e
  obtain⟨rfl,e⟩:=e
  obtain⟨a,dx,C',vs,h1,h2,c',h3,h4⟩:=insAt_ok R h q
  cases c.uniq c'
  exact⟨a,dx,vs,h1,h2,look_none h3 (by simpa using e)⟩
def tMethN (K:PySem.W.Frag)(nm m:Str)(sp:Sp)(E:L2.St→XK)(ta:TE)(t:TA):TE:=fun σ H Q=>∃ C,ClsAt K nm C∧tMethG C m sp E ta t σ H Q
theorem snd_meth {nm m:Str}{F:List DV→Mem→Res R}{n:Nat}{C:Addr}{to:TE}{fo:EM}{ta:TA}{fa:AM}(c:ClsAt K nm C)(ho:SndE K W to fo)(ha:SndA K W ta fa)(hn:∀ xs μ,F xs μ≠.bad→xs.length=n) :
  SndE K W (tMethN K nm m (spF K n F) (EW W) to ta) (eMeth nm m F fo fa):=fun ρ G H σ δ μ Q R E hp=>by
 refine⟨C,c,?_⟩
 refine SndG.seq (t:=to) ho.toV R E hp fun x μ1 G1 H1 v t1 R1 E1 d1 hp1=>?_
 by_cases hc:isI nm m x μ1=true
 case neg=>rw[if_neg hc] at hp1;exact hp1.elim
 rw[if_pos hc] at hp1
 obtain⟨a,dx,vs,rfl,ha',hl⟩:=isI_ok R1 d1 c hc
 refine⟨a,dx,vs,rfl,ha',hl,?_⟩
 refine SndG.seq (t:=ta) ha R1 E1 (hp1.shiftE t1) fun xs μ2 G2 H2 ws t2 R2 E2 d2 hp2=>?_
 have hp3:=hp2.shiftE t2
 have hb:F (x::xs) μ2≠.bad:=fun e=>by rw[e] at hp3;exact hp3
 refine⟨by have:=hn _ _ hb;simp only[List.length_cons] at this ⊢;rw[paired_len d2];exact this,ρ,G2,μ2,x::xs,R2,.cons (d1.mono t2.exG fun _ _ q=>q) d2,?_⟩
 cases e:F (x::xs) μ2 with
 | ok r μ'=>rw[e] at hp3;exact hp3
 | exc x μ'=>rw[e] at hp3;exact hp3
 | bad=>exact hb e
structure MthD (P:Program)(w:World)(K:PySem.W.Frag)(mg:Str→Option Value)(base:Heap)(cx:CXT)(k:Nat)(nm m:Str)(n:Nat)(F:List DV→Mem→Res R):Prop where
 ar:∀ xs μ,F xs μ≠.bad→xs.length=n
 ex:∃ (C f:Addr) (fd:FuncData) (ps:List Str),ps.length=n∧ClsAt K nm C∧FnG P w K mg base cx k f fd ps (spF K n F)∧Cls K C∧Meth K C m f∧Binds K fd ps []
def eFld (nms:List Str)(m:Str)(f:EM):EM:=fun δ μ=>(frzV f δ μ).bind fun x μ1=>match insAt μ1 x with
 | some (nm,fs)=>if nm∈nms then match fs.lookup m with
   | some y=>.ok (ofV y) μ1
   | none=>.bad
  else .bad
 | none=>.bad
def FldOk (K:PySem.W.Frag)(nm m:Str):Prop:=∃ C,ClsAt K nm C∧Cls K C∧NoAttr K C m
theorem snd_fld {nms:List Str}{m:Str}{to:TE}{fo:EM}(c:∀ nm∈nms,FldOk K nm m)(ho:SndE K W to fo):SndE K W (tFld K to m) (eFld nms m fo):=fun ρ G H σ δ μ Q R E hp=>by
 refine SndG.seq (t:=to) ho.toV R E hp fun x μ1 G1 H1 v t1 R1 E1 d1 hp1=>?_
 cases q:insAt μ1 x with
 | none=>rw[q] at hp1;exact hp1.elim
 | some p =>
  obtain⟨nm,fs⟩:=p
  rw[q] at hp1
  simp only at hp1
  by_cases hn:nm∈nms
  case neg=>rw[if_neg hn] at hp1;exact hp1.elim
  rw[if_pos hn] at hp1
  obtain⟨C,c1,c2,c3⟩:=c nm hn
  obtain⟨a,dx,C',vs,rfl,h2,c',h3,h4⟩:=insAt_ok R1 d1 q
  cases c1.uniq c'
  cases ql:fs.lookup m with
  | none=>rw[ql] at hp1;exact hp1.elim
  | some y =>
   rw[ql] at hp1
   obtain⟨w,hw,dw⟩:=look_some h3 h4 ql
   exact⟨a,C,dx,vs,w,rfl,h2,c2,c3,hw,hp1 G1 H1 w t1 R1 (RpR.ofV dw)⟩
theorem Rel.setP {n:Nat}{a:Addr}{o':HO}{p p':Pl}(R:Rel K ρ G H μ)(hn:ρ n=some a)(hm:μ[n]?=some p)(hno:p≠.own)(hp':PlOk K ρ G (upd H a o') n p')(hnl:∀ kvs,p≠.lkd kvs:=by intro _ z;cases z)(hnl2:∀ xs,p≠.lkl xs:=by intro _ z;cases z) :
  Rel K ρ G (upd H a o') (μ.set n p')∧Tr ρ G H G (upd H a o'):=by
 have hlt:n<μ.length:=R.lt n a hn
 have nown:∀ b,H a≠some (.own b):=fun b e=>by
  have z:=R.pl n p hm
  cases p with
  | lst xs=>obtain⟨_,b,vs,h1,h2,_⟩:=z;rw[hn] at h1;cases h1;rw[e] at h2;cases h2
  | dct kvs=>obtain⟨_,b,o,vs,h1,h2,h3,_⟩:=z;rw[hn] at h1;cases h1;rw[e] at h2;cases h2;rcases h3 with⟨_,h,_⟩|⟨_,_,_,h,_⟩ <;> cases h
  | lkd kvs=>exact hnl kvs rfl
  | lkl xs=>exact hnl2 xs rfl
  | tp xs=>obtain⟨_,b,o,vs,h1,h2,_⟩:=z;rw[hn] at h1;cases h1;rw[e] at h2;cases h2
  | ins nm fs=>obtain⟨_,b,dx,C,vs,m,_,h1,h2,_⟩:=z;rw[hn] at h1;cases h1;rw[e] at h2;cases h2
  | own=>exact hno rfl
  | gone=>rw[show ρ n=none from z] at hn;cases hn
 have nfrz:∀ od u,H a≠some (.frz od u):=fun od u e=>by
  have z:=R.pl n p hm
  cases p with
  | lst xs=>obtain⟨_,b,vs,h1,h2,_⟩:=z;rw[hn] at h1;cases h1;rw[e] at h2;cases h2
  | dct kvs=>obtain⟨_,b,o,vs,h1,h2,h3,_⟩:=z;rw[hn] at h1;cases h1;rw[e] at h2;cases h2;rcases h3 with⟨_,h,_⟩|⟨_,_,_,h,_⟩ <;> cases h
  | lkd kvs=>exact hnl kvs rfl
  | lkl xs=>exact hnl2 xs rfl
  | tp xs=>obtain⟨_,b,o,vs,h1,h2,_⟩:=z;rw[hn] at h1;cases h1;rw[e] at h2;cases h2
  | ins nm fs=>obtain⟨_,b,dx,C,vs,m,_,h1,h2,_⟩:=z;rw[hn] at h1;cases h1;rw[e] at h2;cases h2
  | own=>exact hno rfl
  | gone=>rw[show ρ n=none from z] at hn;cases hn
 refine⟨⟨fun b o h=>?_,R.inj,R.nG,fun m b h=>by rw[List.length_set];exact R.lt m b h,fun m b h q=>?_,fun m q h=>?_⟩,⟨Ex.refl _,fun b o hb h=>?_,fun b h=>?_,fun b h=>.inl h,fun b od u h=>by rw[upd_ne (show b≠a from fun e=>nfrz od u (by rw[←e];exact h))];exact h⟩⟩
 ·have e:b≠a:=fun e=>by rw[e,R.nG n a hn] at h;cases h
  rw[upd_ne e];exact R.ex b o h
 ·by_cases e:b=a
  ·rw[e,upd_same] at q;cases q
  ·rw[upd_ne e] at q;exact R.hs m b h q
 ·by_cases e:m=n
  ·subst e
   rw[List.getElem?_set_self hlt] at h
   cases h
   exact hp'
  ·rw[List.getElem?_set_ne (fun z=>e z.symm)] at h
   have z:=R.pl m q h
   have ne:∀ b,ρ m=some b→b≠a:=fun b hb z=>e (R.inj m n a (z▸hb) hn)
   cases q with
   | lst xs=>obtain⟨b,c,vs,h1,h2,h3⟩:=z;exact⟨b,c,vs,h1,by rw[upd_ne (ne c h1)];exact h2,h3⟩
   | dct kvs=>obtain⟨b,c,o,vs,h1,h2,h3⟩:=z;exact⟨b,c,o,vs,h1,by rw[upd_ne (ne c h1)];exact h2,h3⟩
   | lkd kvs=>obtain⟨b,c,o,vs,h1,h2,h3⟩:=z;exact⟨b,c,o,vs,h1,by rw[upd_ne (ne c h1)];exact h2,h3⟩
   | lkl xs=>obtain⟨b,c,o,vs,h1,h2,h3⟩:=z;exact⟨b,c,o,vs,h1,by rw[upd_ne (ne c h1)];exact h2,h3⟩
   | tp xs=>obtain⟨b,c,o,vs,h1,h2,h3⟩:=z;exact⟨b,c,o,vs,h1,by rw[upd_ne (ne c h1)];exact h2,h3⟩
   | own=>obtain⟨b,c,h1,h2⟩:=z;exact⟨b,c,h1,by rw[upd_ne (ne b h1)];exact h2⟩
   | ins nm fs =>
    obtain⟨b,c,dx,C,vs,k,hk,h1,h2,cl,h4,h3⟩:=z
    exact⟨b,c,dx,C,vs,k,hk,h1,by rw[upd_ne (ne c h1)];exact h2,cl,by rw[upd_ne (show dx≠a from fun e=>nown c (e▸h4))];exact h4,h3⟩
   | gone=>exact z
 ·have e:b≠a:=fun e=>hb n (e▸hn)
  rw[upd_ne e];exact h
 ·by_cases e:b=a
  ·rw[e,upd_same] at h;cases h
  ·rw[upd_ne e] at h;exact h
def putD (f:Str)(v:DV):List (Str×DV)→List (Str×DV)
 | []=>[(f,v)]
 | (g,x)::r=>if g=f then(g,v)::r else(g,x)::putD f v r
theorem put_rel {f:Str}{v:V}{y:DV}(d:DvOk K ρ G v y):∀ {vs:List (Str×V)} {fs:List (Str×DV)},vs.map (·.1)=fs.map (·.1)→DvL K ρ G (vs.map (·.2)) (fs.map (·.2)) →
  (putF f v vs).map (·.1)=(putD f y fs).map (·.1)∧DvL K ρ G ((putF f v vs).map (·.2)) ((putD f y fs).map (·.2))
 | [],[],_,_=>⟨rfl,.cons d .nil⟩
 | (a,x)::vs,(b,z)::fs,h,dl=>by
  simp only[List.map_cons,List.cons.injEq] at h dl
  obtain⟨rfl,h⟩:=h
  cases dl with
  | cons d1 d2 =>
   simp only[putF,putD]
   by_cases e:a=f
   ·rw[if_pos e,if_pos e];exact⟨by simp[h],.cons d d2⟩
   ·rw[if_neg e,if_neg e]
    obtain⟨i1,i2⟩:=put_rel d h d2
    exact⟨by simp[i1],.cons d1 i2⟩
 | [],_::_,h,_=>by simp at h
 | _::_,[],h,_=>by simp at h
theorem putD_mem {f:Str}{y:DV}{p:Str×DV}:∀ {fs:List (Str×DV)},p∈putD f y fs→p.2=y∨p∈fs
 | [],h=>by rcases List.mem_singleton.mp h with rfl;exact .inl rfl
 | (g,x)::r,h=>by
  simp only[putD] at h
  by_cases e:g=f
  ·rw[if_pos e] at h
   rcases List.mem_cons.mp h with rfl|h
   ·exact .inl rfl
   ·exact .inr (List.mem_cons_of_mem _ h)
  ·rw[if_neg e] at h
   rcases List.mem_cons.mp h with rfl|h
   ·exact .inr List.mem_cons_self
   ·exact(putD_mem h).imp id (List.mem_cons_of_mem _)
def setFld (nms:List Str)(μ:Mem)(x:DV)(m:Str)(y:DV):Option Mem:=match x with
 | .loc n=>match μ[n]? with
  | some (.ins nm fs)=>if nm∈nms∧fs.length<1000∧belowB n y=true then some (μ.set n (.ins nm (putD m y fs))) else none
  | _=>none
 | .dat _=>none
def gFld (nms:List Str)(m:Str)(fo fe:EM):SM:=fun _ δ μ=>lift ((frzV fe δ μ).bind fun y μ1=>(frzV fo δ μ1).bind fun x μ2=>match setFld nms μ2 x m y with
 | some μ3=>.ok () μ3
 | none=>.bad) δ fun _ μ3=>.next δ μ3
theorem setFld_ok {nms:List Str}{m:Str}{x y:DV}{v w:V}{μ':Mem}(c:∀ nm∈nms,FldOk K nm m)(R:Rel K ρ G H μ)(hx:DvOk K ρ G v x)(hy:DvOk K ρ G w y)(e:setFld nms μ x m y=some μ') :
  ∃ a C dx vs,v=.ref a∧H a=some (.ins C dx vs)∧Cls K C∧NoAttr K C m∧vs.length<1000∧Rel K ρ G (upd H a (.ins C dx (putF m w vs))) μ'∧Tr ρ G H G (upd H a (.ins C dx (putF m w vs))):=by
 cases x with
 | dat d=>cases e
 | loc n =>
  obtain⟨a,rfl,q⟩:=hx
  unfold setFld at e
  match em:μ[n]? with
  | none=>simp only[em] at e;cases e
  | some (.lst _)=>simp only[em] at e;cases e
  | some (.dct _)=>simp only[em] at e;cases e
  | some (.lkd _)=>simp only[em] at e;cases e
  | some (.lkl _)=>simp only[em] at e;cases e
  | some (.tp _)=>simp only[em] at e;cases e
  | some .own=>simp only[em] at e;cases e
  | some .gone=>simp only[em] at e;cases e
  | some (.ins nm fs) =>
   simp only[em] at e
   by_cases hc:nm∈nms∧fs.length<1000∧belowB n y=true
   case neg=>rw[if_neg hc] at e;cases e
   rw[if_pos hc] at e;cases e
   obtain⟨hn,hl,hb⟩:=hc
   obtain⟨C,c1,c2,c3⟩:=c nm hn
   obtain⟨bl,b,dx,C',vs,k,hk,h1,h2,c',h4,h5,h6⟩:=R.pl n _ em
   rw[q] at h1;cases h1
   cases c1.uniq c'
   have hlen:vs.length=fs.length:=by have:=congrArg List.length h5;simpa using this
   obtain⟨p1,p2⟩:=put_rel (f:=m) hy h5 h6
   have hby:y.below n:=by
    cases y with
    | dat d=>trivial
    | loc m=>exact(of_decide_eq_true hb:m<n)
   have nd:dx≠a:=fun e=>by rw[e,h2] at h4;cases h4
   refine⟨a,C,dx,vs,rfl,h2,c2,c3,by omega,R.setP (p:=.ins nm fs) q em (fun z=>by cases z) ⟨fun p hp=>?_,a,dx,C,_,k,hk,q,upd_same,c1,by rw[upd_ne nd];exact h4,p1,p2⟩⟩
   rcases putD_mem hp with e|h
   ·rw[e];exact hby
   ·exact bl p h
theorem snd_sfld {nms:List Str}{m:Str}{to te:TE}{fo fe:EM}(c:∀ nm∈nms,FldOk K nm m)(ho:SndE K W to fo)(he:SndE K W te fe):SndS K W (sFld K to te m) (gFld nms m fo fe):=fun N ρ G H σ δ μ Dn R E hp=>by
 have conv:SndG K W (fun σ H Q=>te σ H fun y H1=>to σ H1 fun x H2=>∃ a C dx fs,x=.ref a∧H2 a=some (.ins C dx fs)∧Cls K C∧NoAttr K C m∧fs.length<1000∧Q () (upd H2 a (.ins C dx (putF m y fs))))
   (fun δ μ=>(frzV fe δ μ).bind fun y μ1=>(frzV fo δ μ1).bind fun x μ2=>match setFld nms μ2 x m y with|some μ3=>Res.ok () μ3|none=>.bad) (fun _ _ _ _ _ _=>True):=by
  intro ρ G H σ δ μ Q R E hp
  refine SndG.seq (t:=te) he.toV R E hp fun y μ1 G1 H1 w t1 R1 E1 d1 hp1=>?_
  refine SndG.seq (t:=to) ho.toV R1 E1 (hp1.shift t1 fun _ _ _ _ q=>q) fun x μ2 G2 H2 v t2 R2 E2 d2 hp2=>?_
  have hp2:=hp2.shift (rp1:=fun _ _ _ _=>True) t2 fun _ _ _ _ q=>q
  cases es:setFld nms μ2 x m y with
  | none=>rw[es] at hp2;exact hp2.elim
  | some μ3 =>
   rw[es] at hp2
   obtain⟨a,C,dx,vs,rfl,h2,c2,c3,hl,R3,T3⟩:=setFld_ok c R2 d2 (d1.mono t2.exG fun _ _ q=>q) es
   exact⟨a,C,dx,vs,rfl,h2,c2,c3,hl,hp2 _ _ () T3 R3 trivial⟩
 refine SndG.stm (t:=fun σ H Q=>te σ H fun y H1=>to σ H1 fun x H2=>∃ a C dx fs,x=.ref a∧H2 a=some (.ins C dx fs)∧Cls K C∧NoAttr K C m∧fs.length<1000∧Q () (upd H2 a (.ins C dx (putF m y fs)))) conv R E hp (Q:=fun _ H'=>Dn.nx σ H') fun u μ' G' H' v t' R' E' _ hp'=>?_
 exact hp' ρ G' H' σ t'.toS R' E'
def mkEnd (N:Nat)(μ2:Mem):Res R:=match μ2[N+1]? with
 | some (.ins nm fs)=>match allDat (fs.map (·.2)) with
  | some ds=>.ok (.dat (.ins nm ((fs.map (·.1)).zip ds))) (μ2.take N)
  | none=>.bad
 | _=>.bad
def mkRun (F:List DV→Mem→Res R)(nm:Str)(xs:List DV)(μ1:Mem):Res R:=match F (.loc (μ1.length+1)::xs) (μ1++[.own]++[.ins nm []]) with
 | .ok (.dat .non) μ2=>mkEnd μ1.length μ2
 | .exc x μ2=>.exc x (μ2.take μ1.length)
 | _=>.bad
def eMake (nm:Str)(F:List DV→Mem→Res R)(fa:AM):EM:=fun δ μ=>(fa δ μ).bind fun xs μ1=>mkRun F nm xs μ1
def tMakeN (K:PySem.W.Frag)(nm:Str)(sp:Sp)(E:L2.St→XK)(t:TA):TE:=fun σ H Q=>∃ C,ClsAt K nm C∧tMakeG C sp E t σ H Q
theorem snd_make {nm:Str}{F:List DV→Mem→Res R}{n:Nat}{C:Addr}{ta:TA}{fa:AM}(c:ClsAt K nm C)(ha:SndA K W ta fa)(hn:∀ xs μ,F xs μ≠.bad→xs.length=n) :
  SndE K W (tMakeN K nm (spF K n F) (EW W) ta) (eMake nm F fa):=fun ρ G H σ δ μ Q R E hp=>by
 refine⟨C,c,?_⟩
 refine SndG.seq (t:=ta) ha R E hp fun xs μ1 G1 H1 vs t1 R1 E1 d1 hp1=>?_
 have hp1:=hp1.shiftE t1
 intro x dx hx hdx hne
 obtain⟨Ra,Ta⟩:=R1.lay (o:=.own x) hdx
 have hx2:upd H1 dx (.own x) x=none:=by rw[upd_ne (Ne.symm hne)];exact hx
 obtain⟨Rb,Tb⟩:=Ra.lay (o:=.ins C dx []) hx2
 have e1:upd (upd H1 dx (.own x)) x (.ins C dx []) dx=some (.own x):=by rw[upd_ne hne,upd_same]
 have e2:upd (upd H1 dx (.own x)) x (.ins C dx []) x=some (.ins C dx []):=upd_same
 obtain⟨n1,n2⟩:=fresh_ne R1 hdx
 obtain⟨m1,m2⟩:=fresh_ne R1 hx
 have T0:TrS μ1.length ρ G1 H1 ρ G1 (upd (upd H1 dx (.own x)) x (.ins C dx [])):=(Ta.trans Tb).toS
 obtain⟨Rc,Tc,upc,atc⟩:=Rb.alloc (N:=μ1.length) (p:=.own) (Nat.le_refl _) T0 (by rw[e1];simp) n1 n2 hdx ⟨dx,x,by unfold addP;rw[if_pos rfl],e1⟩
 have hl:(μ1++[Pl.own]).length=μ1.length+1:=by simp
 have m3:∀ n,addP ρ μ1.length dx n≠some x:=fun n q=>by
  unfold addP at q
  by_cases e:n=μ1.length
  ·rw[if_pos e] at q;cases q;exact hne rfl
  ·rw[if_neg e] at q;exact m2 n q
 obtain⟨Rd,Td,upd_,atd⟩:=Rc.alloc (N:=μ1.length) (p:=.ins nm []) (by rw[hl];omega) Tc (by rw[e2];simp) m1 m3 hx ⟨fun _ h=>by(cases h),x,dx,C,[],μ1.length,⟨hl,by rw[hl];unfold addP;rw[if_neg (by omega),if_pos rfl]⟩,by unfold addP;rw[if_pos rfl],e2,c,e1,rfl,.nil⟩
 rw[hl] at Rd Td upd_ atd
 generalize eρ:addP (addP ρ μ1.length dx) (μ1.length+1) x=ρd at *
 have hb:F (.loc (μ1.length+1)::xs) (μ1++[.own]++[.ins nm []])≠.bad:=fun e=>by
  unfold mkRun at hp1;rw[e] at hp1;exact hp1
 have atN:ρd μ1.length=some dx:=by rw[←eρ];unfold addP;rw[if_neg (by omega),if_pos rfl]
 refine⟨by have:=hn _ _ hb;simp only[List.length_cons] at this ⊢;rw[paired_len d1];exact this,ρd,G1,_,.loc (μ1.length+1)::xs,Rd,.cons (show DvOk K ρd G1 (.ref x) (.loc (μ1.length+1)) from⟨x,rfl,atd⟩) (DvL.mono (Ex.refl _) (fun n b q=>upd_ n b (upc n b q)) d1),?_⟩
 unfold mkRun at hp1
 cases e:F (.loc (μ1.length+1)::xs) (μ1++[.own]++[.ins nm []]) with
 | bad=>exact hb e
 | exc xx μ2 =>
  rw[e] at hp1
  intro G' H' cls d t' R' q
  have TT:=Td.trans (t'.toS (N:=μ1.length))
  have z:=R'.cut μ1.length
  rw[res_back R1 TT] at z
  exact hp1 G' H' cls d (tr_back R1 TT) z q
 | ok r μ2 =>
  rw[e] at hp1
  intro G' H' v t' R' q
  match r,q,hp1 with
  | .dat .non,q,hp1 =>
   have hv:v=.non:=by cases q;rfl
   refine⟨hv,?_⟩
   have TT:=Td.trans (t'.toS (N:=μ1.length))
   have z:=R'.cut μ1.length
   rw[res_back R1 TT] at z
   have tb:=tr_back R1 TT
   simp only[mkEnd] at hp1
   match em:μ2[μ1.length+1]? with
   | none=>rw[em] at hp1;exact hp1.elim
   | some (.lst _)=>rw[em] at hp1;exact hp1.elim
   | some (.dct _)=>rw[em] at hp1;exact hp1.elim
   | some (.lkd _)=>rw[em] at hp1;exact hp1.elim
   | some (.lkl _)=>rw[em] at hp1;exact hp1.elim
   | some (.tp _)=>rw[em] at hp1;exact hp1.elim
   | some .own=>rw[em] at hp1;exact hp1.elim
   | some .gone=>rw[em] at hp1;exact hp1.elim
   | some (.ins nm' fs) =>
    rw[em] at hp1
    simp only at hp1
    cases ed:allDat (fs.map (·.2)) with
    | none=>rw[ed] at hp1;exact hp1.elim
    | some ds =>
     rw[ed] at hp1
     obtain⟨_,a,dx',C',ws,k,hk,h1,h2,c',h4,h5,h6⟩:=R'.pl _ _ em
     rw[atd] at h1;cases h1
     have hk1:k=μ1.length:=by omega
     rw[hk1,atN] at hk;cases hk.2
     have g1:G' x=none:=R'.nG _ _ atd
     have g2:G' dx=none:=R'.nG _ _ atN
     obtain⟨R3,t3,x3⟩:=z.freeze tb h2 hx g1 m2
     obtain⟨R4,t4,x4⟩:=R3.freeze t3 h4 hdx (by rw[upd_ne hne];exact g2) n2
     have el:(fs.map (·.1)).length=ds.length:=by rw[←allDat_len ed];simp
     refine hp1 _ _ _ t4 R4 (Rp.ins (C:=C') (dx:=dx) (vs:=ws) c' (by rw[upd_ne (Ne.symm hne),upd_same]) upd_same (by rw[h5,List.map_fst_zip (by omega)]) ?_)
     rw[List.map_snd_zip (by omega)]
     exact RpL.mono (x3.trans x4) (allDat_ok ed h6)
  | .dat (.bl _),q,hp1=>exact hp1.elim
  | .dat (.int _),q,hp1=>exact hp1.elim
  | .dat (.str _),q,hp1=>exact hp1.elim
  | .dat (.ty _),q,hp1=>exact hp1.elim
  | .dat (.ref _),q,hp1=>exact hp1.elim
  | .dat (.tup _),q,hp1=>exact hp1.elim
  | .dat (.lst _),q,hp1=>exact hp1.elim
  | .dat (.fro _),q,hp1=>exact hp1.elim
  | .dat (.dct _),q,hp1=>exact hp1.elim
  | .dat (.ins _ _),q,hp1=>exact hp1.elim
  | .loc _,q,hp1=>exact hp1.elim
  | .nl _,q,hp1=>exact hp1.elim
  | .nk _,q,hp1=>exact hp1.elim
structure MakD (P:Program)(w:World)(K:PySem.W.Frag)(mg:Str→Option Value)(base:Heap)(cx:CXT)(k:Nat)(nm:Str)(n:Nat)(F:List DV→Mem→Res R):Prop where
 ar:∀ xs μ,F xs μ≠.bad→xs.length=n
 ex:∃ (C f:Addr) (fd:FuncData) (ps:List Str),ps.length=n∧ClsAt K nm C∧mg nm=some (.ref C)∧FnG P w K mg base cx k f fd ps (spF K n F)∧Mk K C f∧Binds K fd ps []
end
section
variable {X:Cx}{W:WX}{P:Program}{w:World}{K:PySem.W.Frag}{mg:Str→Option Value}{base:Heap}{cx:CXT}{k n:Nat}{nm m x:Str}{F:List DV→Mem→Res R}{e o:Expr}{es:List Expr}{tA:TA}{fA:AM}{to te:TE}{fo fe:EM}{p pos apos:Pos}
theorem pm_meth {pl:Sem Bool}(Fn:MthD P w K mg base cx k nm m n F)(hr:Room k X.A)(hgd:X.A.guards=some [])(hx:∀ σ,PassesAt cx X σ (EW W σ))(ho:PM X W o to fo)(ha:PMA X W (e::es) tA fA)(h1:X.prog=P:=by rfl)(h2:X.w=w:=by rfl)(h3:X.K=K:=by rfl)(h4:X.mg=mg:=by rfl)(h5:X.base=base:=by rfl)
  (hst:starEach (e::es) X.env=(false,eval e X.env)::starEach es X.env:=by rfl) (hpl:(backTo pos (starEach es X.env)).any (·.1)=false:=by rfl)
  (ht:eval (.Call (.Attribute o m apos) (e::es) [] pos) X.env=(do
   let ov ←eval o X.env
   standAt apos.atName
   let (f,first) ←holding [ov] (getMethod ov m pl)
   callWith pos f first (backTo pos (starEach (e::es) X.env)) (backToKw pos (keywordEach [] X.env))):=by rfl):PM X W (.Call (.Attribute o m apos) (e::es) [] pos) (tMethN K nm m (spF K n F) (EW W) to tA) (eMeth nm m F fo fA):=by
 subst h1 h2 h3 h4 h5
 obtain⟨C,f,fd,ps,hn,c,G,cl,hm,hb⟩:=Fn.ex
 refine⟨⟨fun pins s σ H Q I h=>?_⟩,snd_meth c ho.sd ha.sd Fn.ar⟩
 obtain⟨C',c',h⟩:=h
 cases c.uniq c'
 exact(pe_methG ho.pe cl hm G hr hgd hb hx ha.pe hst hpl ht).run pins s σ H Q I h
theorem pm_meth0 {pl:Sem Bool}(Fn:MthD P w K mg base cx k nm m n F)(hr:Room k X.A)(hgd:X.A.guards=some [])(hx:∀ σ,PassesAt cx X σ (EW W σ))(ho:PM X W o to fo)(h1:X.prog=P:=by rfl)(h2:X.w=w:=by rfl)(h3:X.K=K:=by rfl)(h4:X.mg=mg:=by rfl)(h5:X.base=base:=by rfl)
  (ht:eval (.Call (.Attribute o m apos) [] [] pos) X.env=(do
   let ov ←eval o X.env
   standAt apos.atName
   let (f,first) ←holding [ov] (getMethod ov m pl)
   callWith pos f first (backTo pos (starEach [] X.env)) (backToKw pos (keywordEach [] X.env))):=by rfl):PM X W (.Call (.Attribute o m apos) [] [] pos) (tMethN K nm m (spF K n F) (EW W) to tNil) (eMeth nm m F fo aNil):=by
 subst h1 h2 h3 h4 h5
 obtain⟨C,f,fd,ps,hn,c,G,cl,hm,hb⟩:=Fn.ex
 refine⟨⟨fun pins s σ H Q I h=>?_⟩,snd_meth c ho.sd snd_nil Fn.ar⟩
 obtain⟨C',c',h⟩:=h
 cases c.uniq c'
 exact(pe_meth0G ho.pe cl hm G hr hgd hb hx ht).run pins s σ H Q I h
theorem pm_make (Fn:MakD P w K mg base cx k nm n F)(hr:Room (k+1) X.A)(hgd:X.A.guards=some [])(hg:Gl X nm)(hx:∀ σ,PassesAt cx X σ (EW W σ))(ha:PMA X W (e::es) tA fA)(h1:X.prog=P:=by rfl)(h2:X.w=w:=by rfl)(h3:X.K=K:=by rfl)(h4:X.mg=mg:=by rfl)(h5:X.base=base:=by rfl)
  (hdb:(nm==("__debug__":Str))=false:=by decide) (he:starEach (e::es) X.env=(false,eval e X.env)::starEach es X.env:=by rfl) (hpl:(backTo pos (starEach es X.env)).any (·.1)=false:=by rfl) :
  PM X W (.Call (.Name nm p) (e::es) [] pos) (tMakeN K nm (spF K n F) (EW W) tA) (eMake nm F fA):=by
 subst h1 h2 h3 h4 h5
 obtain⟨C,f,fd,ps,hn,c,hm,G,M,hb⟩:=Fn.ex
 refine⟨⟨fun pins s σ H Q I h=>?_⟩,snd_make c ha.sd Fn.ar⟩
 obtain⟨C',c',h⟩:=h
 cases c.uniq c'
 exact(pe_makeG M G hr hgd hg hm hb hx ha.pe hdb he hpl).run pins s σ H Q I h
theorem pm_fld {nms:List Str}(K:PySem.W.Frag)(c:∀ nm∈nms,FldOk K nm m)(ho:PM X W o to fo)(h3:X.K=K:=by rfl)(hb:attributeBase o m X.env (eval o X.env)=eval o X.env:=by rfl) :
  PM X W (.Attribute o m pos) (tFld K to m) (eFld nms m fo):=by
 subst h3
 exact⟨pe_fld ho.pe hb,snd_fld c ho.sd⟩
theorem sm_fld {nms:List Str}(K:PySem.W.Frag)(c:∀ nm∈nms,FldOk K nm m)(ho:PM X W o to fo)(he:PM X W e te fe)(h3:X.K=K:=by rfl)(hs:swapsWith e (some (.Attribute o m apos)) pos.line X.env=pure false:=by rfl) :
  PSM X W (.Assign [.Attribute o m apos] e pos) (sFld K to te m) (gFld nms m fo fe):=by
 subst h3
 exact⟨ps_fld ho.pe he.pe hs,snd_sfld c ho.sd he.sd⟩
end
inductive Kd where
 | b (t:String)|c (nm:Str)
def kindOf (μ:Mem):DV→Option Kd
 | .dat .non=>some (.b "NoneType")
 | .dat (.bl _)=>some (.b "bool")
 | .dat (.int _)=>some (.b "int")
 | .dat (.str _)=>some (.b "str")
 | .dat (.tup _)=>some (.b "tuple")
 | .dat (.lst _)=>some (.b "list")
 | .dat (.fro _)=>some (.b "list")
 | .dat (.dct _)=>some (.b "dict")
 | .dat (.ins nm _)=>some (.c nm)
 | .dat (.ty _)=>none
 | .dat (.ref _)=>none
 | .dat (.err _ _ _ _ _)=>none
 | .loc n=>match μ[n]? with
  | some (.lst _)=>some (.b "list")
  | some (.dct _)=>some (.b "dict")
  | some (.lkd _)=>some (.b "dict")
  | some (.ins nm _)=>some (.c nm)
  | _=>none
structure ClsTy (K:PySem.W.Frag)(nm:Str):Prop where
 ex:∃ C,ClsAt K nm C∧Cls K C∧PySem.W.findIn K (.ref C) "__class__"=some (some (.builtin "object.__class__"))∧PySem.W.mroIn K C (.type "object")=some true
theorem get_class (K:PySem.W.Frag):PySem.W.specialIn K (.builtin "object.__class__") "__get__"=some (some (.builtin "getset_descriptor.__get__"))∧PySem.W.takesIn K (.builtin "object.__class__")=some true:=by
 constructor <;> kernel_rfl
def KdIs (K:PySem.W.Frag):Kd→Value→Prop
 | .b s,t=>t=.type s
 | .c nm,t=>∃ C,ClsAt K nm C∧t=.ref C
section
variable {K:PySem.W.Frag}{W:WX}{ρ:Pm}{G H:Hp}{μ:Mem}{σ:Slots}{δ:Env}
theorem ty_tup {a:Addr} {xs:List V} (h:SqT K H a xs):TyX K H (.ref a) (.type "tuple"):=by
 rcases h with (h|⟨o,h⟩)|⟨o,its,n,h1,h2,_⟩
 ·exact .base (.tup h)
 ·exact .fTuple h
 ·exact .kTuple h1 h2
theorem ty_lst {a:Addr} {xs:List V} (h:SqL K H a xs):TyX K H (.ref a) (.type "list"):=by
 rcases h with (h|⟨o,h⟩)|⟨o,its,n,h1,h2,_⟩
 ·exact .base (.lst h)
 ·exact .base (.frz h)
 ·exact .kList h1 h2
def TyZ (K:PySem.W.Frag)(H:Hp)(v:V)(t:Value):Prop:=TyX K H v t∨∃ a es,v=.ref a∧Rd H a (TX a es)∧t=.type "dict"
theorem kind_ok {v:V}{x:DV}{kd:Kd}(R:Rel K ρ G H μ)(h:DvOk K ρ G v x)(cs:∀ nm,kd=.c nm→ClsTy K nm)(e:kindOf μ x=some kd):∃ t,KdIs K kd t∧TyZ K H v t:=by
 have ins:∀ {a dx C nm fs},H a=some (.ins C dx fs)→ClsAt K nm C→ClsTy K nm→TyZ K H (.ref a) (.ref C):=fun {a dx C nm fs} h1 h2 ⟨C',c1,c2,c3,c4⟩=>by
  cases h2.uniq c1
  exact .inl (.base (.ins h1 c2 c3 (get_class K).1 (get_class K).2 c4))
 cases x with
 | dat d =>
  cases d with
  | non=>cases e;cases h;exact⟨_,rfl,.inl (.base .non)⟩
  | bl b=>cases e;cases h;exact⟨_,rfl,.inl (.base (.bl b))⟩
  | int i=>cases e;cases h;exact⟨_,rfl,.inl (.base (.int i))⟩
  | str s=>cases e;cases h;exact⟨_,rfl,.inl (.base (.str s))⟩
  | tup ds=>cases e;cases h with|tup h1 h2=>exact⟨_,rfl,.inl (ty_tup (ex_t R.ex h1))⟩
  | lst ds=>cases e;cases h with|lst h1 h2=>exact⟨_,rfl,.inl (.base (.lst (R.ex _ _ h1)))⟩
  | fro ds=>cases e;cases h with|fro h1 h2=>exact⟨_,rfl,.inl (ty_lst (ex_l R.ex h1))⟩
  | dct ds =>
   cases e
   cases h with
   | dct h1 h2 h3 =>
    rcases h2 with⟨kvs,rfl,_⟩|⟨es,xs,_,rfl,_⟩
    ·exact⟨_,rfl,.inl (.fDict (R.ex _ _ h1))⟩
    ·exact⟨_,rfl,.inr ⟨_,es,rfl,.inr ⟨_,R.ex _ _ h1⟩,rfl⟩⟩
  | ins nm ds=>cases e;cases h with|ins c h1 h2 h3 h4=>exact⟨_,⟨_,c,rfl⟩,ins (R.ex _ _ h1) c (cs nm rfl)⟩
  | ty n=>cases e
  | ref a=>cases e
  | err _ _ _ _ _=>cases e
 | loc n =>
  obtain⟨a,rfl,q⟩:=h
  unfold kindOf at e
  match em:μ[n]? with
  | none=>simp only[em] at e;cases e
  | some .own=>simp only[em] at e;cases e
  | some .gone=>simp only[em] at e;cases e
  | some (.lkl _)=>simp only[em] at e;cases e
  | some (.tp _)=>simp only[em] at e;cases e
  | some (.lkd kvs) =>
   simp only[em] at e;cases e
   obtain⟨_,b,o,vs,h1,h2,⟨od,u,rfl,h3⟩,_⟩:=R.pl n _ em
   rw[q] at h1;cases h1
   rcases h3 with⟨kvs,rfl,_⟩|⟨es,xs,_,rfl,_⟩
   ·exact⟨_,rfl,.inl (.fDict h2)⟩
   ·exact⟨_,rfl,.inr ⟨_,es,rfl,.inr ⟨_,h2⟩,rfl⟩⟩
  | some (.lst xs) =>
   simp only[em] at e;cases e
   obtain⟨_,b,vs,h1,h2,_⟩:=R.pl n _ em
   rw[q] at h1;cases h1
   exact⟨_,rfl,.inl (.base (.lst h2))⟩
  | some (.dct kvs) =>
   simp only[em] at e;cases e
   obtain⟨_,b,o,vs,h1,h2,h3,_⟩:=R.pl n _ em
   rw[q] at h1;cases h1
   rcases h3 with⟨kvs,rfl,_⟩|⟨es,xs,_,rfl,_⟩
   ·exact⟨_,rfl,.inl (.base (.dK h2))⟩
   ·exact⟨_,rfl,.inr ⟨_,es,rfl,.inl h2,rfl⟩⟩
  | some (.ins nm fs) =>
   simp only[em] at e;cases e
   obtain⟨_,b,dx,C,vs,k,hk,h1,h2,c,_⟩:=R.pl n _ em
   rw[q] at h1;cases h1
   exact⟨_,⟨_,c,rfl⟩,ins h2 c (cs nm rfl)⟩
end
section
variable {X:Cx}{pins:List (Addr×Obj)}{σ:L2.St}{H:Hp}{s:Shared}
theorem kit_ofZ {x:V} {u t:Value} (I:Inv X pins σ H s) (rx:RelV x u) (ty:TyZ X.K H x t):∃ P:Heap→Prop,PySem.W.KitX X.K u t P∧P s.heap∧u≠.builtin "__main__.__loader__#opaque":=by
 rcases ty with ty|⟨a,es,rfl,ea,rfl⟩
 ·exact kit_of I rx ty
 ·cases (show u=Value.ref a from rx)
  obtain⟨⟨o,ep,h1,h2,_⟩,_⟩:=(show ObjOk X.prog X.w H s.heap a (TX a es) from ea.ok I.hok)
  exact⟨_,PySem.W.kitx_dict,⟨o,h1,h2.1⟩,fun z=>nomatch z⟩
def rIsiZ (K:PySem.W.Frag):List V→Hp→VK→Prop:=fun xs H Q=>∃ (x c:V) (t u:Value) (b:Bool),xs=[x,c]∧ClsV c u∧TyZ K H x t∧PySem.W.kitOne K t u=some b∧Q (.bl b) H
def rIsiTZ (K:PySem.W.Frag):List V→Hp→VK→Prop:=fun xs H Q=>∃ (x:V) (tp:Addr) (cs:List V) (t:Value) (us:List Value) (b:Bool),xs=[x,.ref tp]∧H tp=some (.tup cs)∧Paired ClsV cs us∧TyZ K H x t∧PySem.W.kitAny K t us=some b∧Q (.bl b) H
theorem call_isiZ:CallR X (.builtin "isinstance") (rIsiZ X.K):=by
 intro pins s σ H xs us Q I r h
 obtain⟨x,c,t,u,b,rfl,k,ty,e,q⟩:=h
 obtain⟨u1,u2,rfl,r1,r2⟩:=vals2 r
 have e2:=k.eq r2
 subst e2
 obtain⟨P,Z,p,hx⟩:=kit_ofZ I r1 ty
 exact PySem.W.kia_one Z I.kIn p e hx fun tk=>⟨.bl b,H,I.tok tk,rfl,q⟩
theorem call_isiTZ:CallR X (.builtin "isinstance") (rIsiTZ X.K):=by
 intro pins s σ H xs us Q I r h
 obtain⟨x,tp,cs,t,ws,b,rfl,hT,k,ty,e,q⟩:=h
 obtain⟨u1,u2,rfl,r1,r2⟩:=vals2 r
 cases (show u2=Value.ref tp from r2)
 obtain⟨P,Z,p,hx⟩:=kit_ofZ I r1 ty
 obtain⟨_,its,rv,o,h1,h2,n,h3⟩:=(show ObjOk X.prog X.w H s.heap tp (.tup cs) from I.hok tp _ hT)
 have e3:=ClsV.all k rv
 subst e3
 obtain⟨oc,od,dt,sl⟩:=o
 simp only at h2 h3
 subst h2 h3
 exact PySem.W.kia_tup Z I.kIn p h1 e hx fun tk=>⟨.bl b,H,I.tok tk,rfl,q⟩
end
section
variable {K:PySem.W.Frag}{W:WX}{ρ:Pm}{G H:Hp}{μ:Mem}{σ:Slots}{δ:Env}
def dIsi (tab:Kd→Option Bool)(x:DV)(μ:Mem):Res R:=match kindOf μ x with
 | some kd=>match tab kd with
  | some b=>.ok (.dat (.bl b)) μ
  | none=>.bad
 | none=>.bad
structure TabOk (K:PySem.W.Frag)(tab:Kd→Option Bool)(ans:Value→Bool→Prop):Prop where
 ok:∀ kd b t,tab kd=some b→KdIs K kd t→ans t b
 cl:∀ nm b,tab (.c nm)=some b→ClsTy K nm
theorem isi_ok {tab:Kd→Option Bool}{ans:Value→Bool→Prop}{x:DV}{v:V}{Q:VK}{G0 H0:Hp}(T:TabOk K tab ans)(R:Rel K ρ G H μ)(t0:Tr ρ G0 H0 G H)(d:DvOk K ρ G v x)(hp:PostG K W ρ G0 H0 σ (fun G' H'=>rpE K ρ G' H0 H') Q (dIsi tab x μ)) :
  ∃ t b,TyZ K H v t∧ans t b∧Q (.bl b) H:=by
 unfold dIsi at hp
 cases ek:kindOf μ x with
 | none=>rw[ek] at hp;exact hp.elim
 | some kd =>
  rw[ek] at hp
  simp only at hp
  cases et:tab kd with
  | none=>rw[et] at hp;exact hp.elim
  | some b =>
   rw[et] at hp
   obtain⟨t,k1,k2⟩:=kind_ok R d (fun nm e=>T.cl nm b (e▸et)) ek
   exact⟨t,b,k2,T.ok kd b t et k1,hp G H (.bl b) t0 R (Rp.bl b)⟩
theorem snd_isi {tab:Kd→Option Bool}{te:TE}{f:EM}{c:V}{u:Value}(k:ClsV c u)(T:TabOk K tab fun t b=>PySem.W.kitOne K t u=some b)(h:SndE K W te f):SndE K W (tCB (rIsiZ K) (tCons te (tCons (tC c) tNil))) (eUn (dIsi tab) f):=fun ρ G H σ δ μ Q R E hp=>by
 refine SndG.seq (t:=te) h.toV R E hp fun x μ1 G1 H1 v t1 R1 E1 d1 hp1=>?_
 obtain⟨t,b,h1,h2,h3⟩:=isi_ok T R1 t1 d1 hp1
 exact⟨v,c,t,u,b,rfl,k,h1,h2,h3⟩
theorem TyZ.ext {H':Hp}{v:V}{t:Value}(e:Ex H H')(h:TyZ K H v t):TyZ K H' v t:=by
 rcases h with h|⟨a,es,rfl,h,rfl⟩
 ·refine .inl ?_
  cases h with
  | base b =>
   refine .base ?_
   cases b with
   | non=>exact .non
   | bl x=>exact .bl x
   | int x=>exact .int x
   | str x=>exact .str x
   | flt x=>exact .flt x
   | lst h=>exact .lst (e _ _ h)
   | frz h=>exact .frz (e _ _ h)
   | tup h=>exact .tup (e _ _ h)
   | dK h=>exact .dK (e _ _ h)
   | dT h=>exact .dT (e _ _ h)
   | ins h a b c d f=>exact .ins (e _ _ h) a b c d f
  | byt b=>exact .byt b
  | set h=>exact .set (e _ _ h)
  | kList h c=>exact .kList h c
  | kTuple h c=>exact .kTuple h c
  | kDict h c=>exact .kDict h c
  | fTuple h=>exact .fTuple (e _ _ h)
  | fDict h=>exact .fDict (e _ _ h)
 ·refine .inr ⟨a,es,rfl,?_,rfl⟩
  rcases h with h|⟨o,h⟩
  ·exact .inl (e _ _ h)
  ·exact .inr ⟨o,e _ _ h⟩
theorem snd_isi2 {tab:Kd→Option Bool}{te:TE}{f:EM}{c1 c2:V}{u1 u2:Value}(k1:ClsV c1 u1)(k2:ClsV c2 u2)(T:TabOk K tab fun t b=>PySem.W.kitAny K t [u1,u2]=some b)(h:SndE K W te f) :
  SndE K W (tCB (rIsiTZ K) (tCons te (tCons (tTup (tCons (tC c1) (tCons (tC c2) tNil))) tNil))) (eUn (dIsi tab) f):=fun ρ G H σ δ μ Q R E hp=>by
 refine SndG.seq (t:=te) h.toV R E hp fun x μ1 G1 H1 v t1 R1 E1 d1 hp1=>?_
 refine⟨by show 2≤sizeLine;decide,fun p hn=>?_⟩
 obtain⟨R2,t2⟩:=R1.lay (o:=.tup [c1,c2]) hn
 obtain⟨t,b,h1,h2,h3⟩:=isi_ok T R2 (t1.trans t2) d1 hp1
 exact⟨v,p,[c1,c2],t,[u1,u2],b,rfl,upd_same,.cons k1 (.cons k2 .nil),h1,h2,h3⟩
end
section
variable {X:Cx}{W:WX}{e c1 c2:Expr}{te:TE}{f:EM}{p pos p1 p2:Pos}
theorem pm_isi (K:PySem.W.Frag) {tab:Kd→Option Bool} {c:V} {u:Value} (hg:Gl X "isinstance") (hm:X.mg "isinstance"=none) (k:ClsV c u) (T:TabOk K tab fun t b=>PySem.W.kitOne K t u=some b) (h:PM X W e te f) (hc:PE X c1 (tC c)) (hK:X.K=K:=by rfl)
  (hs:starEach (e::[c1]) X.env=(false,eval e X.env)::starEach [c1] X.env:=by rfl) (hs1:starEach [c1] X.env=(false,eval c1 X.env)::starEach [] X.env:=by rfl) (hpl:(backTo pos (starEach [c1] X.env)).any (·.1)=false:=by rfl) :
  PM X W (.Call (.Name "isinstance" p) [e,c1] [] pos) (tCB (rIsiZ K) (tCons te (tCons (tC c) tNil))) (eUn (dIsi tab) f):=by
 subst hK
 exact⟨pe_callB call_isiZ hg hm (by decide +kernel) (pa_cons h.pe (pa_cons hc pa_nil hs1) hs) (he:=hs) (hpl:=hpl),snd_isi k T h.sd⟩
theorem pm_isi2 (K:PySem.W.Frag) {tab:Kd→Option Bool} {a1 a2:V} {u1 u2:Value} {x1} (hg:Gl X "isinstance") (hm:X.mg "isinstance"=none) (k1:ClsV a1 u1) (k2:ClsV a2 u2) (T:TabOk K tab fun t b=>PySem.W.kitAny K t [u1,u2]=some b) (h:PM X W e te f) (hc1:PE X c1 (tC a1)) (hc2:PE X c2 (tC a2)) (hK:X.K=K:=by rfl)
  (hs:starEach (e::[.Tuple [c1,c2] x1 p1]) X.env=(false,eval e X.env)::starEach [.Tuple [c1,c2] x1 p1] X.env:=by rfl) (hs1:starEach [.Tuple [c1,c2] x1 p1] X.env=(false,eval (.Tuple [c1,c2] x1 p1) X.env)::starEach [] X.env:=by rfl)
  (hs2:starEach [c1,c2] X.env=(false,eval c1 X.env)::starEach [c2] X.env:=by rfl) (hs3:starEach [c2] X.env=(false,eval c2 X.env)::starEach [] X.env:=by rfl) (hpl:(backTo pos (starEach [.Tuple [c1,c2] x1 p1] X.env)).any (·.1)=false:=by rfl) :
  PM X W (.Call (.Name "isinstance" p) [e,.Tuple [c1,c2] x1 p1] [] pos) (tCB (rIsiTZ K) (tCons te (tCons (tTup (tCons (tC a1) (tCons (tC a2) tNil))) tNil))) (eUn (dIsi tab) f):=by
 subst hK
 exact⟨pe_callB call_isiTZ hg hm (by decide +kernel) (pa_cons h.pe (pa_cons (pe_tup (pa_cons hc1 (pa_cons hc2 pa_nil hs3) hs2)) pa_nil hs1) hs) (he:=hs) (hpl:=hpl),snd_isi2 k1 k2 T h.sd⟩
theorem pe_tyN {T:String} {x:Str} (hg:Gl X x) (hm:X.mg x=none) (hv:bootBuiltins x=some (.type T)) (hn:x≠"__name__":=by decide) (hdb:(x==("__debug__":Str))=false:=by decide):PE X (.Name x pos) (tC (.ty T)):=pe_bltn (v:=.ty T) hg hm hv rfl hn hdb
def tabT (T:String)(cls:List Str):Kd→Option Bool
 | .b t=>kitB t T
 | .c nm=>if nm∈cls then some false else none
def tabT2 (T U:String)(cls:List Str):Kd→Option Bool
 | .b t=>match kitB t T with
  | some true=>some true
  | some false=>kitB t U
  | none=>none
 | .c nm=>if nm∈cls then some false else none
def tabC (nm0:Str)(others:List Str):Kd→Option Bool
 | .b t=>if t∈["NoneType","bool","int","str","tuple","list","dict"] then some false else none
 | .c nm=>if nm=nm0 then some true else if nm∈others then some false else none
def NoSub (K:PySem.W.Frag)(nm:Str)(T:String):Prop:=∃ C,ClsAt K nm C∧PySem.W.kitOne K (.ref C) (.type T)=some false
theorem tabT_ok {K:PySem.W.Frag}{T:String}{cls:List Str}(h:∀ nm∈cls,ClsTy K nm∧NoSub K nm T):TabOk K (tabT T cls) fun t b=>PySem.W.kitOne K t (.type T)=some b where
 ok:=fun kd b t e k=>by
  cases kd with
  | b s=>cases k;exact kit_ty e
  | c nm =>
   obtain⟨C,c1,rfl⟩:=k
   simp only[tabT] at e
   by_cases hn:nm∈cls
   ·rw[if_pos hn] at e;cases e
    obtain⟨C',c2,h2⟩:=(h nm hn).2
    cases c1.uniq c2;exact h2
   ·rw[if_neg hn] at e;cases e
 cl:=fun nm b e=>by
  simp only[tabT] at e
  by_cases hn:nm∈cls
  ·exact(h nm hn).1
  ·rw[if_neg hn] at e;cases e
theorem tabT2_ok {K:PySem.W.Frag}{T U:String}{cls:List Str}(h:∀ nm∈cls,ClsTy K nm∧NoSub K nm T∧NoSub K nm U):TabOk K (tabT2 T U cls) fun t b=>PySem.W.kitAny K t [.type T,.type U]=some b where
 ok:=fun kd b t e k=>by
  cases kd with
  | b s =>
   cases k
   simp only[tabT2] at e
   cases h1:kitB s T with
   | none=>rw[h1] at e;cases e
   | some r =>
    rw[h1] at e
    cases r with
    | true=>cases e;exact kitAny_cons (b:=true) (kit_ty h1) (fun z=>by cases z) fun _=>rfl
    | false=>exact kitAny_cons (b:=false) (kit_ty h1) (fun _=>by
      cases b with
      | true=>exact kitAny_cons (b:=true) (kit_ty e) (fun z=>by cases z) fun _=>rfl
      | false=>exact kitAny_cons (b:=false) (kit_ty e) (fun _=>kitAny_nil) fun z=>by cases z) fun z=>by cases z
  | c nm =>
   obtain⟨C,c1,rfl⟩:=k
   simp only[tabT2] at e
   by_cases hn:nm∈cls
   ·rw[if_pos hn] at e;cases e
    obtain⟨_,⟨C',c2,h2⟩,⟨C'',c3,h3⟩⟩:=h nm hn
    cases c1.uniq c2;cases c1.uniq c3
    exact kitAny_cons (b:=false) h2 (fun _=>kitAny_cons (b:=false) h3 (fun _=>kitAny_nil) fun z=>by cases z) fun z=>by cases z
   ·rw[if_neg hn] at e;cases e
 cl:=fun nm b e=>by
  simp only[tabT2] at e
  by_cases hn:nm∈cls
  ·exact(h nm hn).1
  ·rw[if_neg hn] at e;cases e
theorem tabC_ok {K:PySem.W.Frag} {nm0:Str} {C0:Addr} {others:List Str} (c0:ClsAt K nm0 C0) (t0:ClsTy K nm0) (hb:∀ t∈["NoneType","bool","int","str","tuple","list","dict"],PySem.W.kitOne K (.type t) (.ref C0)=some false)
  (h:∀ nm∈others,ClsTy K nm∧∃ C,ClsAt K nm C∧PySem.W.kitOne K (.ref C) (.ref C0)=some false):TabOk K (tabC nm0 others) fun t b=>PySem.W.kitOne K t (.ref C0)=some b where
 ok:=fun kd b t e k=>by
  cases kd with
  | b s =>
   cases k
   simp only[tabC] at e
   split at e
   ·cases e;rename_i hs;exact hb s hs
   ·cases e
  | c nm =>
   obtain⟨C,c1,rfl⟩:=k
   simp only[tabC] at e
   by_cases hn:nm=nm0
   ·rw[if_pos hn] at e;cases e;subst hn
    cases c1.uniq c0
    unfold PySem.W.kitOne;rw[if_pos (by simp)]
   ·rw[if_neg hn] at e
    by_cases ho:nm∈others
    ·rw[if_pos ho] at e;cases e
     obtain⟨_,C',c2,h2⟩:=h nm ho
     cases c1.uniq c2;exact h2
    ·rw[if_neg ho] at e;cases e
 cl:=fun nm b e=>by
  simp only[tabC] at e
  by_cases hn:nm=nm0
  ·subst hn;exact t0
  ·rw[if_neg hn] at e
   by_cases ho:nm∈others
   ·exact(h nm ho).1
   ·rw[if_neg ho] at e;cases e
end
abbrev noE:XK:=fun _ _ _=>False
section
variable {X:Cx}{cx:CXT}{k:Nat}{f C:Addr}{fd:FuncData}{ps:List Str}{sp:Sp}{E:XK}{pins:List (Addr×Obj)}{σ:L2.St}{H:Hp}{s:Shared}{Q:VK}{us:List Value}{vs:List V}
theorem run_fnA {A:Around}(F:FnG X.prog X.w X.K X.mg X.base cx k f fd ps sp)(hr:Room k A)(hgd:A.guards=some [])(fr:A.frames=X.A.frames)
  (hb:Binds X.K fd ps []) (hx:PassesAt cx X σ E) (I:Inv X pins σ H s) (r:Vals vs us)
  (h:sp vs H Q E):wpAny (model X.prog X.w) A (call (.ref f) us) (EP X pins σ Q) X.xe s:=by
 have hl:us.length=ps.length:=by rw[←r.length];exact F.len _ _ _ _ h
 have e0:Env0 X.prog X.w X.K X.mg X.base A X.stack s H:=by
  have e:=I.env0
  exact⟨by rw[fr];exact e.frames,e.mod,e.bs,e.bsz,e.funs,e.frf,e.hok,e.bare⟩
 have bd:=hb s us I.kIn (by rw[List.append_nil];exact hl)
 rw[List.append_nil] at bd
 refine wpAny_call (codeAny_mono (F.run A X.stack s H ⟨us,[]⟩ us vs Q E hr hgd e0 bd r h) fun z s' hq=>?_)
 match z,hq with
 | .error e,hq=>exact hx pins H s e s' I hq
 | .ok (.ret u),hq=>exact I.after hq
 | .ok .next,hq=>exact hq.elim
 | .ok .brk,hq=>exact hq.elim
 | .ok .cont,hq=>exact hq.elim
def rLenO (K:PySem.W.Frag)(nm:Str)(sp:Sp):List V→Hp→VK→Prop:=fun xs H Q=>∃ C a dx fs,ClsAt K nm C∧xs=[.ref a]∧H a=some (.ins C dx fs)∧sp [.ref a] H (fun v H'=>∃ n:Int,v=.int n∧(0≤n∧n<2^63)∧Q v H') noE
theorem call_lenO {nm:Str} (F:FnG X.prog X.w X.K X.mg X.base CX0 k f fd ps sp) (hr:Room (k+1) X.A) (hgd:X.A.guards=some []) (c:ClsAt X.K nm C) (hm:Meth X.K C "__len__" f) (hb:Binds X.K fd ps []):CallR X (.builtin "len") (rLenO X.K nm sp):=by
 intro pins s σ H xs us Q I r h
 obtain⟨C',a,dx,fs,c',rfl,ha,q⟩:=h
 cases c.uniq c'
 obtain⟨u,rfl,rx⟩:=vals1 r
 cases rx
 obtain⟨mA,J,_⟩:=ins_get I.hok ha
 obtain⟨od,J,_⟩:=J.look
 obtain⟨m,hF⟩:=I.fr
 refine PySem.W.len_K hF I.ok.mod.kin J hm.at_ hm.fn ?_
 refine wpAny_mono (run_fnA (A:=X.A.in1) (us:=[.ref a]) (vs:=[.ref a]) F hr.in1 hgd rfl hb (pass_0 (E:=fun _=>noE) σ) I (.cons rfl .nil) q) (fun u s' z=>?_) fun _ _ z=>z
 obtain⟨v,H',I',rv,n,rfl,hn,q'⟩:=z
 obtain⟨t,rfl⟩:=(show ∃ t,u=Value.int n t from rv)
 exact⟨hn,.int n,H',I'.tok _,⟨_,rfl⟩,q'⟩
def rEqO (K:PySem.W.Frag)(nm:Str)(sp:Sp):R2:=fun x y H Q=>∃ C a dx fs t,ClsAt K nm C∧x=.ref a∧H a=some (.ins C dx fs)∧TyZ K H y t∧PySem.W.notFirst K C t=true∧sp [x,y] H (fun v H'=>∃ b:Bool,v=.bl b∧Q v H') noE
theorem op_eqO {nm:Str} (F:FnG X.prog X.w X.K X.mg X.base CX0 k f fd ps sp) (hr:Room k X.A) (hgd:X.A.guards=some []) (c:ClsAt X.K nm C) (hm:Meth X.K C "__eq__" f) (hb:Binds X.K fd ps []):OpR X (compareOp .Eq) (rEqO X.K nm sp):=by
 intro pins s σ H x y u v Q I rx ry h
 obtain⟨C',a,dx,fs,t,c',rfl,ha,ty,nf,q⟩:=h
 cases c.uniq c'
 cases rx
 obtain⟨mA,J,_⟩:=ins_get I.hok ha
 obtain⟨od,J,_⟩:=J.look
 obtain⟨m,hF⟩:=I.fr
 obtain⟨P,Z,p,_⟩:=kit_ofZ I ry ty
 show wpAny (model X.prog X.w) X.A (richCompare .Eq (.ref a) v) (EP X pins σ Q) X.xe s
 refine PySem.W.cmp_K (op:=.Eq) hr.units0 hF I.ok.mod.kin J (Z.ty _ _ I.kIn p) nf hm.at_ hm.fn ?_
 refine wpAny_mono (run_fnA (A:=X.A) (us:=[.ref a,v]) (vs:=[.ref a,y]) F hr hgd rfl hb (pass_0 (E:=fun _=>noE) σ) I (.cons rfl (.cons ry .nil)) q) (fun u s' z=>?_) fun _ _ z=>z
 obtain⟨w,H',I',rv,b,rfl,q'⟩:=z
 cases (show u=Value.bool b from rv)
 exact⟨.bl b,H',I',rfl,q'⟩
end
section
variable {K:PySem.W.Frag}{W:WX}{F:List DV→Mem→Res R}{n:Nat}{nm:Str}{C:Addr}
def eLenO (nm:Str)(F:List DV→Mem→Res R)(f:EM):EM:=fun δ μ=>(frzV f δ μ).bind fun x μ1=>if isI nm "" x μ1=true then match F [x] μ1 with
  | .ok (.dat (.int n)) μ2=>if 0≤n∧n<2^63 then .ok (.dat (.int n)) μ2 else .bad
  | _=>.bad
 else .bad
theorem snd_lenO {te:TE}{f:EM}(c:ClsAt K nm C)(h:SndE K W te f)(hn:∀ xs μ,F xs μ≠.bad→xs.length=n):SndE K W (tCB (rLenO K nm (spF K n F)) (tCons te tNil)) (eLenO nm F f):=fun ρ G H σ δ μ Q R E hp=>by
 refine SndG.seq (t:=te) h.toV R E hp fun x μ1 G1 H1 v t1 R1 E1 d1 hp1=>?_
 by_cases hc:isI nm "" x μ1=true
 case neg=>rw[if_neg hc] at hp1;exact hp1.elim
 rw[if_pos hc] at hp1
 obtain⟨a,dx,vs,rfl,ha',hl⟩:=isI_ok R1 d1 c hc
 refine⟨C,a,dx,vs,c,rfl,ha',?_⟩
 have hb:F [x] μ1≠.bad:=fun e=>by rw[e] at hp1;exact hp1
 refine⟨hn _ _ hb,ρ,G1,μ1,[x],R1,.cons d1 .nil,?_⟩
 cases e:F [x] μ1 with
 | bad=>exact hb e
 | exc y μ'=>rw[e] at hp1;exact hp1.elim
 | ok r μ' =>
  rw[e] at hp1
  intro G' H' v t' R' q
  cases r with
  | dat d =>
   cases d with
   | int i =>
    simp only at hp1
    by_cases hi:0≤i∧i<2^63
    ·rw[if_pos hi] at hp1;cases q;exact⟨i,rfl,hi,hp1 G' H' _ (t1.trans t') R' (Rp.int i)⟩
    ·rw[if_neg hi] at hp1;exact hp1.elim
   | _=>exact hp1.elim
  | _=>exact hp1.elim
def boolR:Res R→Res R
 | .ok (.dat (.bl b)) μ=>.ok (.dat (.bl b)) μ
 | _=>.bad
def eEqO (nm:Str)(others:List Str)(F:List DV→Mem→Res R)(fa fb:EM):EM:=fun δ μ=>(frzV fa δ μ).bind fun x μ1=>(frzV fb δ μ1).bind fun y μ2=>if isI nm "" x μ2=true∧((kindOf μ2 y).bind (tabC nm others)).isSome=true then boolR (F [x,y] μ2) else .bad
theorem notFirst_of {t:Value}{b:Bool}(h:PySem.W.kitOne K t (.ref C)=some b)(hb:b=true→t=.ref C):PySem.W.notFirst K C t=true:=by
 unfold PySem.W.notFirst
 by_cases e:t=.ref C
 ·subst e;simp
 ·unfold PySem.W.kitOne at h
  rw[if_neg (by simpa using e)] at h
  unfold PySem.W.kitCls at h
  simp only at h
  split at h
  ·cases b with
   | true=>exact absurd (hb rfl) e
   | false=>simp[h]
  ·cases h
theorem snd_eqO {ta tb:TE}{fa fb:EM}{others:List Str}(c:ClsAt K nm C)(T:TabOk K (tabC nm others) fun t b=>PySem.W.kitOne K t (.ref C)=some b)(ha:SndE K W ta fa)(hb:SndE K W tb fb)(hn:∀ xs μ,F xs μ≠.bad→xs.length=n):SndE K W (tOp (rEqO K nm (spF K n F)) ta tb) (eEqO nm others F fa fb):=fun ρ G H σ δ μ Q R E hp=>by
 refine SndG.seq (t:=ta) ha.toV R E hp fun x μ1 G1 H1 v t1 R1 E1 d1 hp1=>?_
 refine SndG.seq (t:=tb) hb.toV R1 E1 (hp1.shiftE t1) fun y μ2 G2 H2 w t2 R2 E2 d2 hp2=>?_
 have hp2:=hp2.shiftE t2
 have d1:=d1.mono t2.exG fun _ _ q=>q
 by_cases hc:isI nm "" x μ2=true∧((kindOf μ2 y).bind (tabC nm others)).isSome=true
 case neg=>rw[if_neg hc] at hp2;exact hp2.elim
 rw[if_pos hc] at hp2
 obtain⟨hc1,hc2⟩:=hc
 obtain⟨a,dx,vs,rfl,ha',hl⟩:=isI_ok R2 d1 c hc1
 cases ek:kindOf μ2 y with
 | none=>rw[ek] at hc2;cases hc2
 | some kd =>
  rw[ek] at hc2
  simp only[Option.bind_some] at hc2
  cases et:tabC nm others kd with
  | none=>rw[et] at hc2;cases hc2
  | some b =>
   obtain⟨t,k1,k2⟩:=kind_ok R2 d2 (fun nm' e=>T.cl nm' b (e▸et)) ek
   have hk:=T.ok kd b t et k1
   refine⟨C,a,dx,vs,t,c,rfl,ha',k2,notFirst_of hk (fun hb=>?_),?_⟩
   ·subst hb
    cases kd with
    | b s=>simp only[tabC] at et;split at et <;> cases et
    | c nm' =>
     simp only[tabC] at et
     by_cases e:nm'=nm
     ·subst e;obtain⟨C',c',rfl⟩:=k1;rw[c.uniq c']
     ·rw[if_neg e] at et;split at et <;> cases et
   ·have hbd:F [x,y] μ2≠.bad:=fun e=>by rw[e] at hp2;exact hp2
    refine⟨hn _ _ hbd,ρ,G2,μ2,[x,y],R2,.cons d1 (.cons d2 .nil),?_⟩
    cases e:F [x,y] μ2 with
    | bad=>exact hbd e
    | exc y μ'=>rw[e] at hp2;exact hp2.elim
    | ok r μ' =>
     rw[e] at hp2
     intro G' H' v t' R' q
     cases r with
     | dat d =>
      cases d with
      | bl i=>cases q;exact⟨i,rfl,hp2 G' H' _ t' R' (Rp.bl i)⟩
      | _=>exact hp2.elim
     | _=>exact hp2.elim
def negR (neg:Bool):Res R→Res R
 | .ok (.dat (.bl b)) μ=>.ok (.dat (.bl (b != neg))) μ
 | _=>.bad
def eInO (nm:Str)(neg:Bool)(F:List DV→Mem→Res R)(fa fb:EM):EM:=fun δ μ=>(frzV fa δ μ).bind fun y μ1=>(frzV fb δ μ1).bind fun x μ2=>if isI nm "" x μ2=true then negR neg (F [x,y] μ2) else .bad
end
section
variable {X:Cx}{W:WX}{P:Program}{w:World}{K:PySem.W.Frag}{mg:Str→Option Value}{base:Heap}{k n:Nat}{nm:Str}{F:List DV→Mem→Res R}{a b e:Expr}{ta tb te:TE}{fa fb f:EM}{p pos:Pos}
theorem pm_lenO (Fn:MthD P w K mg base CX0 k nm "__len__" n F) (hr:Room (k+1) X.A) (hgd:X.A.guards=some []) (hg:Gl X "len") (hm:X.mg "len"=none) (h:PM X W e te f) (h1:X.prog=P:=by rfl) (h2:X.w=w:=by rfl) (h3:X.K=K:=by rfl) (h4:X.mg=mg:=by rfl) (h5:X.base=base:=by rfl)
  (hs:starEach [e] X.env=(false,eval e X.env)::starEach [] X.env:=by rfl) (hpl:(backTo pos (starEach [] X.env)).any (·.1)=false:=by rfl) :
  PM X W (.Call (.Name "len" p) [e] [] pos) (tCB (rLenO K nm (spF K n F)) (tCons te tNil)) (eLenO nm F f):=by
 subst h1 h2 h3 h4 h5
 obtain⟨C,f,fd,ps,hn,c,G,cl,hme,hb⟩:=Fn.ex
 exact⟨pe_callB (call_lenO G hr hgd c hme hb) hg hm PySem.boot_len (pa_cons h.pe pa_nil hs) (he:=hs) (hpl:=hpl),snd_lenO c h.sd Fn.ar⟩
theorem pm_eqO {others:List Str} (Fn:MthD P w K mg base CX0 k nm "__eq__" n F) (hr:Room k X.A) (hgd:X.A.guards=some []) (T:∀ C,ClsAt K nm C→TabOk K (tabC nm others) fun t b=>PySem.W.kitOne K t (.ref C)=some b) (ha:PM X W a ta fa) (hb:PM X W b tb fb) (h1:X.prog=P:=by rfl) (h2:X.w=w:=by rfl) (h3:X.K=K:=by rfl) (h4:X.mg=mg:=by rfl) (h5:X.base=base:=by rfl) :
  PM X W (.Compare a [.Eq] [b] pos) (tOp (rEqO K nm (spF K n F)) ta tb) (eEqO nm others F fa fb):=by
 subst h1 h2 h3 h4 h5
 obtain⟨C,f,fd,ps,hn,c,G,cl,hme,hbd⟩:=Fn.ex
 exact⟨pe_cmpR (op_eqO G hr hgd c hme hbd) ha.pe hb.pe (nomark _),snd_eqO c (T C c) ha.sd hb.sd Fn.ar⟩
end
section
variable {K:PySem.W.Frag}{W:WX}{ρ:Pm}{G H:Hp}{μ:Mem}{σ:Slots}{δ:Env}
def d2 (g:DV→DV→Mem→Res R)(xs:List DV)(μ:Mem):Res R:=match xs with
 | [x,y]=>g x y μ
 | _=>.bad
def dMM (f:Int→Int→Int)(x y:DV)(μ:Mem):Res R:=match asI x with
 | none=>.bad
 | some i=>match asI y with
  | none=>.bad
  | some j=>.ok (.dat (.int (f i j))) μ
def gBad:SM:=fun _ _ _=>.bad
theorem sm_bad {X:Cx}{W:WX}{st:Stmt}:PSM X W st (fun _ _ _=>False) gBad:=⟨⟨fun _ _ _ _ _ _ h=>h.elim⟩,fun _ _ _ _ _ _ _ _ _ _ hp=>hp.elim⟩
end
section
variable {X:Cx}{W:WX}{a b:Expr}{ta tb:TE}{fa fb:EM}{pos:Pos}
end
section
variable {X:Cx}{W:WX}{P:Program}{w:World}{K:PySem.W.Frag}{mg:Str→Option Value}{base:Heap}{k n:Nat}{nm:Str}{F:List DV→Mem→Res R}{a b e:Expr}{ta tb te:TE}{fa fb f:EM}{p pos:Pos}
theorem pt_eqO {others:List Str} (Fn:MthD P w K mg base CX0 k nm "__eq__" n F) (hr:Room k X.A) (hgd:X.A.guards=some []) (T:∀ C,ClsAt K nm C→TabOk K (tabC nm others) fun t b=>PySem.W.kitOne K t (.ref C)=some b) (ha:PM X W a ta fa) (hb:PM X W b tb fb) (h1:X.prog=P:=by rfl) (h2:X.w=w:=by rfl) (h3:X.K=K:=by rfl) (h4:X.mg=mg:=by rfl) (h5:X.base=base:=by rfl) :
  PMT X W (.Compare a [.Eq] [b] pos) (tTest (tOp (rEqO K nm (spF K n F)) ta tb)) (tmB (eEqO nm others F fa fb)):=by
 subst h1 h2 h3 h4 h5
 obtain⟨C,f,fd,ps,hn,c,G,cl,hme,hbd⟩:=Fn.ex
 exact⟨pt_cmpR (op_eqO G hr hgd c hme hbd) ha.pe hb.pe (nomark _),snd_tmB (snd_eqO c (T C c) ha.sd hb.sd Fn.ar) fun _ _ _ h=>h⟩
end
theorem kit_noT {K:PySem.W.Frag}{C:Addr}{T:String}(h:PySem.W.subIn K (.ref C) (.type T)=some false)(hm:PySem.W.kitMeta T=true):PySem.W.kitOne K (.ref C) (.type T)=some false:=by
 unfold PySem.W.kitOne PySem.W.kitCls;rw[if_neg (by simp)];simp only;rw[if_pos hm];exact h
theorem kit_noB {K:PySem.W.Frag} {C:Addr} {t:String} (c:PySem.W.isClsIn K C=true) (ty:PySem.W.typeIn K (.ref C)=some (.type "type")) (h:PySem.W.subIn K (.type t) (.ref C)=some false):PySem.W.kitOne K (.type t) (.ref C)=some false:=by
 unfold PySem.W.kitOne PySem.W.kitCls;rw[if_neg (by simp)];simp only
 rw[if_pos (by rw[show(PySem.W.clsIn K C).isSome=true from c,ty];decide)];exact h
theorem kit_noO {K:PySem.W.Frag} {C C':Addr} (c:PySem.W.isClsIn K C=true) (ty:PySem.W.typeIn K (.ref C)=some (.type "type")) (ne:(C'==C)=false) (h:PySem.W.subIn K (.ref C') (.ref C)=some false):PySem.W.kitOne K (.ref C') (.ref C)=some false:=by
 unfold PySem.W.kitOne PySem.W.kitCls;rw[if_neg (by simpa using ne)];simp only
 rw[if_pos (by rw[show(PySem.W.clsIn K C).isSome=true from c,ty];decide)];exact h
def clsBody:Stmt→List Stmt
 | .ClassDef _ _ _ body _ _ _ _ _ _ _=>body
 | _=>[]
section
variable {P:Program}{w:World}{K:PySem.W.Frag}{mg:Str→Option Value}{base:Heap}
theorem fn_okB {x qual:Str}{st:Stmt}{f:Addr}{fd:FuncData}{Nm ps:List Str}{k n m:Nat}{g:SM}(F:Fun K x qual st f fd)(S:FnScope Nm ps (defScope st))(hn:ps.length=n)(hmn:Nm.length=n+m)
  (body:∀ (cdv:Value) (A:Around) (out:List PySem.Env) (s:Shared) (H:Hp) (E:XK),Room k (A.deeper (envOfC qual (defScope st) s.heap.objs.size f cdv))→A.guards=some [] →
   ∃ ts,PSMs (cxOf CX0 P w K mg base Nm qual (defScope st) f cdv A out s H E).nox (fun cls d _ H=>E cls d H) (defBody st) ts g) :
  FnG P w K mg base CX0 (k+1) f fd ps (spF K n (callD g n m)):=by
 obtain⟨oc,od,kV,doc,pm,an,cdv,ct,osl,rfl,lk,hcd⟩:=F.ex
 refine fnG_of lk hcd S (fun vs H Q E h=>by rw[h.1,hn]) fun A out s H vs Q E hr hg hsp=>?_
 obtain⟨ts,b⟩:=body cdv A out s H E hr hg
 refine⟨ts,b.ps.nox,?_⟩
 have e:Nm.length-n=m:=by omega
 exact body_ok (n:=n) b.sd (by omega) (by rw[e];exact sp_callD hsp)
theorem fn_okM {cn x qual:Str}{st:Stmt}{C f:Addr}{fd:FuncData}{Nm ps:List Str}{k n m:Nat}{g:SM}(F:Fun K x qual st f fd)(S:FnScope Nm ps (defScope st))(hc:ClsAt K cn C)(cl:Cls K C)(hm:Meth K C x f)(hn:ps.length=n)(hmn:Nm.length=n+m)
  (hb:∀ (kV doc pm:Value) (an:Option Addr) (cdv ct:Value) (us:List Value),us.length=ps.length→bindArgs (PySem.W.fnOf x qual (defArgs st) (defBody st) (defScope st) .none kV doc pm an cdv ct) ⟨us,[]⟩=pure (ps.zip us))
  (body:∀ (cdv:Value) (A:Around) (out:List PySem.Env) (s:Shared) (H:Hp) (E:XK),Room k (A.deeper (envOfC qual (defScope st) s.heap.objs.size f cdv))→A.guards=some [] →
   ∃ ts,PSMs (cxOf CX0 P w K mg base Nm qual (defScope st) f cdv A out s H E).nox (fun cls d _ H=>E cls d H) (defBody st) ts g) :
  MthD P w K mg base CX0 (k+1) cn x n (callD g n m) :=
 ⟨callD_ar,C,f,fd,ps,hn,hc,fn_okB F S hn hmn body,cl,hm,F.binds hb⟩
theorem fn_okI {cn x qual:Str}{st:Stmt}{C f:Addr}{fd:FuncData}{Nm ps:List Str}{k n m:Nat}{g:SM}(F:Fun K x qual st f fd)(S:FnScope Nm ps (defScope st))(hc:ClsAt K cn C)(hmg:mg cn=some (.ref C))(M:Mk K C f)(hn:ps.length=n)(hmn:Nm.length=n+m)
  (hb:∀ (kV doc pm:Value) (an:Option Addr) (cdv ct:Value) (us:List Value),us.length=ps.length→bindArgs (PySem.W.fnOf x qual (defArgs st) (defBody st) (defScope st) .none kV doc pm an cdv ct) ⟨us,[]⟩=pure (ps.zip us))
  (body:∀ (cdv:Value) (A:Around) (out:List PySem.Env) (s:Shared) (H:Hp) (E:XK),Room k (A.deeper (envOfC qual (defScope st) s.heap.objs.size f cdv))→A.guards=some [] →
   ∃ ts,PSMs (cxOf CX0 P w K mg base Nm qual (defScope st) f cdv A out s H E).nox (fun cls d _ H=>E cls d H) (defBody st) ts g) :
  MakD P w K mg base CX0 (k+1) cn n (callD g n m) :=
 ⟨callD_ar,C,f,fd,ps,hn,hc,hmg,fn_okB F S hn hmn body,M,F.binds hb⟩
end
section
variable {K:PySem.W.Frag}{W:WX}{ρ:Pm}{G H:Hp}{μ:Mem}{σ:Slots}{δ:Env}{N n:Nat}{a:Addr}
end
def dval {α:Type}(kvs:List (Ky×α))(k:Ky):Option α:=(kvs.find? fun p=>decide (p.1=k)).map (·.2)
def dput {α:Type}(kvs:List (Ky×α))(k:Ky)(v:α):List (Ky×α) :=
 if(kvs.any fun p=>decide (p.1=k))=true then kvs.map (fun p=>if p.1=k then(p.1,v) else p) else kvs++[(k,v)]
def Ky.isK:Ky→Bool
 | .k _=>true
 | .t _=>false
def allK {α:Type}(kvs:List (Ky×α)):Bool:=kvs.all fun p=>p.1.isK
def keyD:DV→Option Key
 | .dat (.int i)=>some (.inl i)
 | .dat (.str s)=>some (.inr s)
 | _=>none
def datP (ds:List (Ky×D)):List (Ky×DV):=ds.map fun p=>(p.1,.dat p.2)
def dctOf (x:DV)(μ:Mem):Option (List (Ky×DV)):=match x with
 | .dat (.dct ds)=>some (datP ds)
 | .dat _=>none
 | .loc n=>match μ[n]? with
  | some (.dct kvs)=>some kvs
  | some (.lkd kvs)=>some kvs
  | _=>none
section
variable {K:PySem.W.Frag}{W:WX}{ρ:Pm}{G H G0 H0:Hp}{μ:Mem}{σ:Slots}{δ:Env}
theorem RpL.paired:∀ {vs:List V} {ds:List D},RpL K G vs ds→DvL K ρ G vs (ds.map DV.dat)
 | _,_,.nil=>.nil
 | _,_,.cons a b=>.cons a (RpL.paired b)
theorem Rel.swap {p:Addr}{o o':HO}(r:Rel K ρ G H μ)(t:Tr ρ G0 H0 G H)(h:H p=some o)(hg:G p=none)(hn:∀ n,ρ n≠some p)(h0:H0 p=none):Rel K ρ G (upd H p o') μ∧Tr ρ G0 H0 G (upd H p o'):=by
 have neG:∀ a u,G a=some u→a≠p:=fun a u e z=>by rw[z,hg] at e;cases e
 have neP:∀ n a,ρ n=some a→a≠p:=fun n a e z=>hn n (z▸e)
 refine⟨⟨fun a u e=>?_,r.inj,r.nG,r.lt,fun n a e q=>?_,fun n q e=>?_⟩,⟨t.exG,fun a u k e=>?_,fun a e=>?_,t.nG,fun a od u e=>by rw[upd_ne (fun z=>by rw[z,h0] at e;cases e)];exact t.fz a od u e⟩⟩
 ·rw[upd_ne (neG a u e)];exact r.ex a u e
 ·rw[upd_ne (neP n a e)] at q;exact r.hs n a e q
 ·have z:=r.pl n q e
  cases q with
  | lst xs=>obtain⟨b,a,vs,h1,h2,h3⟩:=z;exact⟨b,a,vs,h1,by rw[upd_ne (neP _ _ h1)];exact h2,h3⟩
  | dct kvs=>obtain⟨b,a,o,vs,h1,h2,h3⟩:=z;exact⟨b,a,o,vs,h1,by rw[upd_ne (neP _ _ h1)];exact h2,h3⟩
  | lkd kvs=>obtain⟨b,a,o,vs,h1,h2,h3⟩:=z;exact⟨b,a,o,vs,h1,by rw[upd_ne (neP _ _ h1)];exact h2,h3⟩
  | lkl xs=>obtain⟨b,a,o,vs,h1,h2,h3⟩:=z;exact⟨b,a,o,vs,h1,by rw[upd_ne (neP _ _ h1)];exact h2,h3⟩
  | tp xs=>obtain⟨b,a,o,vs,h1,h2,h3⟩:=z;exact⟨b,a,o,vs,h1,by rw[upd_ne (neP _ _ h1)];exact h2,h3⟩
  | own=>obtain⟨a,b,h1,h2⟩:=z;exact⟨a,b,h1,by rw[upd_ne (neP _ _ h1)];exact h2⟩
  | ins nm fs=>obtain⟨b,a,dx,C,vs,m,hm,h1,h2,c,h4,h3⟩:=z;exact⟨b,a,dx,C,vs,m,hm,h1,by rw[upd_ne (neP _ _ h1)];exact h2,c,by rw[upd_ne (neP _ _ hm.2)];exact h4,h3⟩
  | gone=>exact z
 ·have q:=t.keep a u k e
  rw[upd_ne (fun z=>by rw[z,h0] at e;cases e)];exact q
 ·by_cases z:a=p
  ·rw[z,upd_same] at e;cases e
  ·rw[upd_ne z] at e;exact t.th a e
theorem datP_1 (ds:List (Ky×D)):(datP ds).map (·.1)=ds.map (·.1):=by unfold datP;rw[List.map_map];rfl
theorem datP_2 (ds:List (Ky×D)):(datP ds).map (·.2)=(ds.map (·.2)).map DV.dat:=by unfold datP;rw[List.map_map,List.map_map];rfl
theorem keyD_ok {v:V}{x:DV}{k:Key}(h:DvOk K ρ G v x)(e:keyD x=some k):v=kV k:=by
 cases x with
 | loc n=>cases e
 | dat d=>cases d with
  | int i=>cases e;cases h;rfl
  | str s=>cases e;cases h;rfl
  | _=>cases e
theorem dctOf_ok {v:V}{x:DV}{kvs:List (Ky×DV)}(R:Rel K ρ G H μ)(h:DvOk K ρ G v x)(e:dctOf x μ=some kvs) :
  ∃ a o vs,v=.ref a∧Rd H a o∧DctIs K G a o (kvs.map (·.1)) vs∧DvL K ρ G vs (kvs.map (·.2)):=by
 cases x with
 | dat d=>cases d with
  | dct ds =>
   cases e
   cases h with
   | dct h1 h2 h3=>exact⟨_,_,_,rfl,.inr ⟨_,R.ex _ _ h1⟩,by rw[datP_1];exact h2,by rw[datP_2];exact h3.paired⟩
  | _=>cases e
 | loc n =>
  obtain⟨a,rfl,q⟩:=h
  simp only[dctOf] at e
  match em:μ[n]? with
  | none=>simp only[em] at e;cases e
  | some (.lst _)=>simp only[em] at e;cases e
  | some .own=>simp only[em] at e;cases e
  | some .gone=>simp only[em] at e;cases e
  | some (.lkl _)=>simp only[em] at e;cases e
  | some (.tp _)=>simp only[em] at e;cases e
  | some (.ins _ _)=>simp only[em] at e;cases e
  | some (.dct ks) =>
   simp only[em] at e;cases e
   obtain⟨_,b,o,vs,h1,h2,h3,h4⟩:=R.pl n _ em
   rw[q] at h1;cases h1
   exact⟨_,_,_,rfl,.inl h2,h3,h4⟩
  | some (.lkd ks) =>
   simp only[em] at e;cases e
   obtain⟨_,b,o,vs,h1,h2,⟨od,u,rfl,h3⟩,h4⟩:=R.pl n _ em
   rw[q] at h1;cases h1
   exact⟨_,_,_,rfl,.inr ⟨_,h2⟩,h3,h4⟩
abbrev PrL (K:PySem.W.Frag)(ρ:Pm)(G:Hp):List (Key×V)→List (Ky×DV)→Prop:=Paired fun p q=>q.1=Ky.k p.1∧DvOk K ρ G p.2 q.2
theorem prl_of:∀ {ls:List (Key×V)} {kvs:List (Ky×DV)},kvs.map (·.1)=ls.map (fun p=>Ky.k p.1)→DvL K ρ G (ls.map (·.2)) (kvs.map (·.2))→PrL K ρ G ls kvs
 | [],[],_,_=>.nil
 | [],_::_,h,_=>by cases h
 | _::_,[],h,_=>by cases h
 | p::ls,q::kvs,h,d=>by
  simp only[List.map_cons,List.cons.injEq] at h
  cases d with
  | cons a b=>exact .cons ⟨h.1,a⟩ (prl_of h.2 b)
theorem prl_to:∀ {ls:List (Key×V)} {kvs:List (Ky×DV)},PrL K ρ G ls kvs→kvs.map (·.1)=ls.map (fun p=>Ky.k p.1)∧DvL K ρ G (ls.map (·.2)) (kvs.map (·.2))
 | _,_,.nil=>⟨rfl,.nil⟩
 | _,_,.cons a b=>by
  obtain⟨h1,h2⟩:=prl_to b
  exact⟨by simp only[List.map_cons];rw[h1,a.1],.cons a.2 h2⟩
theorem dK_of {a:Addr}{o:HO}{kvs:List (Ky×DV)}{vs:List V}(h:DctIs K G a o (kvs.map (·.1)) vs)(d:DvL K ρ G vs (kvs.map (·.2)))(hk:allK kvs=true):∃ ls,o=.dK ls∧PrL K ρ G ls kvs:=by
 rcases h with⟨ls,rfl,h2,rfl⟩|⟨es,ls,hne,rfl,_,_,_,_,h2,_⟩
 ·exact⟨ls,rfl,prl_of h2 d⟩
 ·cases ls with
  | nil=>exact(hne rfl).elim
  | cons p ls =>
   cases kvs with
   | nil=>cases h2
   | cons q kvs =>
    simp only[List.map_cons,List.cons.injEq] at h2
    simp only[allK,List.all_cons,Bool.and_eq_true] at hk
    rw[h2.1] at hk
    cases hk.1
theorem prl_dK {a:Addr}{ls:List (Key×V)}{kvs:List (Ky×DV)}(h:PrL K ρ G ls kvs):DctIs K G a (.dK ls) (kvs.map (·.1)) (ls.map (·.2))∧DvL K ρ G (ls.map (·.2)) (kvs.map (·.2)) :=
 ⟨.inl ⟨ls,rfl,(prl_to h).1,rfl⟩,(prl_to h).2⟩
theorem prl_val {k:Key}:∀ {ls:List (Key×V)} {kvs:List (Ky×DV)},PrL K ρ G ls kvs→(valV ls k=none∧dval kvs (.k k)=none)∨∃ v x,valV ls k=some v∧dval kvs (.k k)=some x∧DvOk K ρ G v x
 | _,_,.nil=>.inl ⟨rfl,rfl⟩
 | p::ls,q::kvs,.cons a b=>by
  by_cases e:p.1=k
  ·refine .inr ⟨p.2,q.2,valV_pos e,?_,a.2⟩
   unfold dval
   rw[List.find?_cons_of_pos (by rw[a.1,e];simp)]
   rfl
  ·rw[valV_neg e]
   have:dval (q::kvs) (.k k)=dval kvs (.k k):=by
    unfold dval
    rw[List.find?_cons_of_neg (by rw[a.1];simpa using e)]
   rw[this]
   exact prl_val b
end
def dGet (x y:DV)(μ:Mem):Res R:=match dctOf x μ,keyD y with
 | some kvs,some k=>if allK kvs=true then match dval kvs (.k k) with
   | some z=>.ok (ofV z) μ
   | none=>.bad
  else .bad
 | _,_=>.bad
section
variable {X:Cx}{W:WX}
def dInD (neg:Bool)(y x:DV)(μ:Mem):Res R:=match dctOf x μ,keyD y with
 | some kvs,some k=>if allK kvs=true then .ok (.dat (.bl ((dval kvs (.k k)).isSome != neg))) μ else .bad
 | _,_=>.bad
def dGet1 (x y:DV)(μ:Mem):Res R:=match dctOf x μ,keyD y with
 | some kvs,some k=>if allK kvs=true then match dval kvs (.k k) with
   | some z=>.ok (ofV z) μ
   | none=>.ok (.dat .non) μ
  else .bad
 | _,_=>.bad
def isDct (x:DV)(μ:Mem):Bool:=match dctOf x μ with
 | some kvs=>allK kvs
 | none=>false
def eDGet1 (fd fy:EM):EM:=fun δ μ=>(frzV fd δ μ).bind fun x μ1=>if isDct x μ1=true then(frzV fy δ μ1).bind fun y μ2=>dGet1 x y μ2 else .bad
def allDatK:List (Ky×DV)→Option (List (Ky×D))
 | []=>some []
 | (k,.dat d)::r=>match allDatK r with
  | some ds=>some ((k,d)::ds)
  | none=>none
 | (_,.loc _)::_=>none
theorem allDatK_ok {K:PySem.W.Frag}{ρ:Pm}{G:Hp}:∀ {kvs:List (Ky×DV)} {ds:List (Ky×D)} {vs:List V},allDatK kvs=some ds→DvL K ρ G vs (kvs.map (·.2))→kvs.map (·.1)=ds.map (·.1)∧RpL K G vs (ds.map (·.2))
 | [],ds,vs,e,h=>by cases e;cases h;exact⟨rfl,.nil⟩
 | (k,.dat d)::r,ds,vs,e,h=>by
  simp only[allDatK] at e
  cases q:allDatK r with
  | none=>rw[q] at e;cases e
  | some es =>
   rw[q] at e;cases e
   cases h with
   | cons a b =>
    obtain⟨h1,h2⟩:=allDatK_ok q b
    exact⟨by simp only[List.map_cons];rw[h1],.cons a h2⟩
 | (_,.loc _)::_,_,_,e,_=>by cases e
def tLk (t:TE):TE:=fun σ H Q=>t σ H fun v H1=>∃ d u,v=.ref d∧H1 d=some u∧Mut (some u)∧∀ od,Q v (upd H1 d (.frz od u))
theorem pe_lk {e:Expr}{t:TE}(h:PE X e t):PE X e (tLk t):=by
 refine⟨fun pins s σ H Q I hw=>?_⟩
 refine thn (h.run pins s σ _ _ I hw) fun v s1 ⟨x,H1,I2,r,d,u,ex,hd,mu,q⟩=>?_
 obtain⟨od,I3⟩:=I2.lock hd mu
 exact⟨x,_,I3,r,q od⟩
def eLk (f:EM):EM:=fun δ μ=>(f δ μ).bind fun r μ1=>match r with
 | .nk kvs=>match allDatK kvs with
  | some ds=>.ok (.dat (.dct ds)) μ1
  | none=>.bad
 | _=>.bad
theorem dct_mut {K:PySem.W.Frag}{G:Hp}{a:Addr}{o:HO}{ks:List Ky}{vs:List V}(h:DctIs K G a o ks vs):Mut (some o):=by
 rcases h with⟨ls,rfl,_⟩|⟨_,_,_,rfl,_⟩ <;> trivial
theorem snd_lk {K:PySem.W.Frag}{t:TE}{f:EM}(h:SndE K W t f):SndE K W (tLk t) (eLk f):=fun ρ G H σ δ μ Q R E hp=>by
 refine SndG.seq (t:=t) h R E hp fun r μ1 G1 H1 v t1 R1 E1 d1 hp1=>?_
 match r with
 | .dat _=>exact hp1.elim
 | .loc _=>exact hp1.elim
 | .nl _=>exact hp1.elim
 | .nk kvs =>
  cases q:allDatK kvs with
  | none=>simp only[q] at hp1;exact hp1.elim
  | some ds =>
   simp only[q] at hp1
   obtain⟨a,o,vs,rfl,h2,h3,h4,h5,h6,h7⟩:=d1
   obtain⟨k1,k2⟩:=allDatK_ok q h4
   refine⟨a,o,rfl,h2,dct_mut h3,fun od=>?_⟩
   obtain⟨R2,t2⟩:=R1.swap (o':=.frz od o) t1 h2 h5 h6 h7
   obtain⟨R3,t3,ex⟩:=R2.freeze t2 upd_same h7 h5 h6
   exact hp1 _ _ _ t3 R3 (Rp.dct upd_same (by rw[←k1];exact h3.mono ex) (k2.mono ex))
end
def kyD:Key→D
 | .inl i=>.int i
 | .inr s=>.str s
def Ky.dat:Ky→D
 | .k x=>kyD x
 | .t xs=>.tup (xs.map kyD)
def mergeD {α:Type}(kvs more:List (Ky×α)):List (Ky×α):=more.foldl (fun acc p=>dput acc p.1 p.2) kvs
section
variable {K:PySem.W.Frag}{W:WX}{N:Nat}{ρ:Pm}{G H G0 H0:Hp}{μ:Mem}{σ:Slots}{δ:Env}{Q:VK}
theorem rp_key (k:Key):Rp K G (kV k) (kyD k):=by cases k <;> constructor
theorem new_dct {p:Addr}{ls:List (Key×V)}{kvs:List (Ky×DV)}(R:Rel K ρ G H μ)(t:Tr ρ G0 H0 G H)(hn:H p=none)(d:PrL K ρ G ls kvs)
  (hp:PostG K W ρ G0 H0 σ (fun G' H'=>rpE K ρ G' H0 H') Q (.ok (.nk kvs) μ)):Q (.ref p) (upd H p (.dK ls)):=by
 obtain⟨R2,t2⟩:=R.lay (o:=.dK ls) hn
 obtain⟨n1,n2⟩:=fresh_ne R hn
 obtain⟨k1,k2⟩:=prl_dK d
 exact hp _ _ _ (t.trans t2) R2 ⟨p,_,_,rfl,upd_same,k1,k2,n1,n2,t.th p hn⟩
def eDNew:EM:=fun _ μ=>.ok (.nk []) μ
theorem snd_dnew:SndE K W tDNewK eDNew:=fun ρ G H σ δ μ Q R E hp p hn=>new_dct R (Tr.refl _ _ _) hn .nil hp
abbrev PsM:=Env→Mem→Res (List (Ky×DV))
def psNil:PsM:=fun _ μ=>.ok [] μ
def psCons (fk fv:EM)(r:PsM):PsM:=fun δ μ=>(frzV fk δ μ).bind fun k μ1=>(frzV fv δ μ1).bind fun v μ2=>(r δ μ2).bind fun ps μ3=>match keyD k with
 | some kk=>.ok ((.k kk,v)::ps) μ3
 | none=>.bad
abbrev rpP (K:PySem.W.Frag):Pm→Hp→Hp→Hp→List (V×V)→List (Ky×DV)→Prop:=fun ρ G' _ _ vs ps=>∃ ls:List (Key×V),vs=ls.map (fun kv=>(kV kv.1,kv.2))∧PrL K ρ G' ls ps
abbrev SndP (K:PySem.W.Frag)(W:WX)(trs:List (TE×TE))(f:PsM):Prop:=SndG K W (tPairs trs) f (rpP K)
def eDisK (f:PsM):EM:=fun δ μ=>(f δ μ).bind fun ps μ1=>if ps.length≤15 then .ok (.nk (mergeD [] ps)) μ1 else .bad
def dLenK (x:DV)(μ:Mem):Res R:=match dctOf x μ with
 | some kvs=>if allK kvs=true then .ok (.dat (.int kvs.length)) μ else .bad
 | none=>.bad
def rLenK:List V→Hp→VK→Prop:=fun xs H Q=>∃ a kvs,xs=[V.ref a]∧Rd H a (.dK kvs)∧Q (.int kvs.length) H
theorem cr_lenK {X:Cx}:CallR X (.builtin "len") rLenK:=by
 intro pins s σ H xs us Q I r h
 obtain⟨a,kvs,rfl,ha,q⟩:=h
 obtain⟨u,rfl,ru⟩:=vals1 r
 cases ru
 exact d_len I ha fun t s' I'=>⟨.int kvs.length,H,I',⟨t,rfl⟩,q⟩
theorem cd_lenK:CallD K rLenK (d1 dLenK):=cd_1 fun W ρ G H σ μ v x Q R hx hp=>by
 unfold dLenK at hp
 split at hp
 ·rename_i kvs e
  by_cases hk:allK kvs=true
  case neg=>rw[if_neg hk] at hp;exact hp.elim
  rw[if_pos hk] at hp
  obtain⟨a,o,vs,rfl,h1,h2,h3⟩:=dctOf_ok R hx e
  obtain⟨ls,rfl,hl⟩:=dK_of h2 h3 hk
  rw[←paired_len hl] at hp
  exact⟨a,ls,rfl,h1,hp.okD R (.int _)⟩
 ·exact hp.elim
def keysD {α:Type}(kvs:List (Ky×α)):List D:=kvs.map fun p=>p.1.dat
theorem keysD_ok:∀ {ls:List (Key×V)} {kvs:List (Ky×DV)},PrL K ρ G ls kvs→RpL K G (ls.map fun kv=>kV kv.1) (keysD kvs)
 | _,_,.nil=>.nil
 | _,_,.cons a b=>.cons (by show Rp K G _ (Ky.dat _);rw[a.1];exact rp_key _) (keysD_ok b)
def dListK (x:DV)(μ:Mem):Res R:=match dctOf x μ with
 | some kvs=>if allK kvs=true then .ok (.nl ((keysD kvs).map DV.dat)) μ else .bad
 | none=>.bad
def rListK:List V→Hp→VK→Prop:=fun xs H Q=>∃ (a:Addr) (kvs:List (Key×V)),xs=[.ref a]∧Rd H a (.dK kvs)∧∀ p,H p=none→Q (.ref p) (upd H p (.lst (kvs.map fun kv=>kV kv.1)))
theorem cd_listK:CallD K rListK (d1 dListK):=cd_1 fun W ρ G H σ μ v x Q R hx hp=>by
 unfold dListK at hp
 split at hp
 ·rename_i kvs e
  by_cases hk:allK kvs=true
  case neg=>rw[if_neg hk] at hp;exact hp.elim
  rw[if_pos hk] at hp
  obtain⟨a,o,vs,rfl,h1,h2,h3⟩:=dctOf_ok R hx e
  obtain⟨ls,rfl,hl⟩:=dK_of h2 h3 hk
  exact⟨a,ls,rfl,h1,fun p hn=>new_list R (Tr.refl _ _ _) hn (keysD_ok hl).dv hp⟩
 ·exact hp.elim
def pairsOf (ds:List (Ky×D)):List D:=ds.map fun p=>.tup [p.1.dat,p.2]
def allKD (ds:List (Ky×D)):Bool:=ds.all fun p=>p.1.isK
def imKeys (f:EM):IM:=fun δ μ=>(frzV f δ μ).bind fun x μ'=>match x with
 | .dat (.dct ds)=>if allKD ds=true then .ok (keysD ds) μ' else .bad
 | _=>.bad
def imItems (f:EM):IM:=fun δ μ=>(frzV f δ μ).bind fun x μ'=>match x with
 | .dat (.dct ds)=>if allKD ds=true then .ok (pairsOf ds) μ' else .bad
 | _=>.bad
end
end DL
namespace DL
open PySem PySem.Spec PyProof.Rows L2 RZ
def setDct (μ:Mem)(x i y:DV):Option Mem:=match x with
 | .dat _=>none
 | .loc n=>match μ[n]?,keyD i with
  | some (.dct kvs),some k=>if allK kvs=true∧kvs.length<sizeLine∧belowB n y=true then some (μ.set n (.dct (dput kvs (.k k) y))) else none
  | _,_=>none
def gDPut (fo fi fe:EM):SM:=fun _ δ μ=>lift ((frzV fe δ μ).bind fun y μ1=>(frzV fo δ μ1).bind fun x μ2=>(frzV fi δ μ2).bind fun i μ3=>match setDct μ3 x i y with
 | some μ4=>.ok () μ4
 | none=>.bad) δ fun _ μ4=>.next δ μ4
section
variable {K:PySem.W.Frag}{W:WX}{N:Nat}{ρ:Pm}{G H G0 H0:Hp}{μ:Mem}{σ:Slots}{δ:Env}{Q:VK}{v w:V}{x y:DV}
end
end DL
namespace DL
open PySem PySem.Spec PyProof.Rows L2
section
variable {K:PySem.W.Frag}{W:WX}
def eKGet (tab:List (Str×Str))(f:EM):EM:=fun δ μ=>(frzV f δ μ).bind fun x μ'=>match asStr x with
 | some z=>match tab.lookup z with
  | some y=>.ok (.dat (.str y)) μ'
  | none=>.ok (.dat .non) μ'
 | none=>.bad
end
end DL
namespace DL
open PySem PySem.Spec PyProof.Rows L2 RZ
section
variable {X:Cx}{W:WX}{a b o i e:Expr}{td ty te:TE}{fd fy fe:EM}{pos pos' p:Pos}
theorem pm_lk (h:PM X W e te fe):PM X W e (tLk te) (eLk fe):=⟨pe_lk h.pe,snd_lk h.sd⟩
theorem pm_dnew:PM X W (.Dict [] [] pos) tDNewK eDNew:=⟨pe_dnewK,snd_dnew⟩
structure PMP (X:Cx)(W:WX)(pos:Pos)(keys:List (Option Expr))(values:List Expr)(trs:List (TE×TE))(f:PsM):Prop where
 pp:PPs X pos keys values trs
 sd:SndP X.K W trs f
end
theorem call_listDK {X:Cx} (hc:X.calm=true):CallR X (.type "list") rListK:=call_listD hc
section
variable {X:Cx}{W:WX}{tg e:Expr}{te:TE}{f:EM}
end
end DL
namespace DL
open PySem PySem.Spec PyProof.Rows L2
abbrev T3:=List Int×Addr×Value
def kI (k:List Int):List Key:=k.map Sum.inl
def upK (xs:List T3):List (List Key×Addr×Value):=xs.map fun x=>(kI x.1,x.2.1,x.2.2)
theorem kI_inj {a b:List Int}:kI a=kI b↔a=b:=by
 unfold kI
 constructor
 ·intro h
  induction a generalizing b with
  | nil=>cases b with
   | nil=>rfl
   | cons=>cases h
  | cons x a ih=>cases b with
   | nil=>cases h
   | cons y b =>
    simp only[List.map_cons,List.cons.injEq] at h
    rw[Sum.inl.inj h.1,ih h.2]
 ·intro h;rw[h]
theorem ent_up (P:Program)(w:World)(xs:List T3):(upK xs).map (entryOfKey (tupleKind (mixKind P w)))=xs.map entI:=by
 unfold upK
 rw[List.map_map]
 refine List.map_congr_left fun x _=>?_
 show(⟨tupleKeyHash (mixKind P w) (kI x.1),.ref x.2.1,x.2.2⟩:DictEntry)=⟨_,.ref x.2.1,x.2.2⟩
 have e:tupleKeyHash (mixKind P w) (kI x.1)=reduceHash (Builtin.Tuple.tupleHashOf (x.1.map hashInt)):=by
  unfold tupleKeyHash kI
  rw[List.map_map];rfl
 rw[e]
theorem keys_up (xs:List T3):((upK xs).map (·.1)).Nodup↔(xs.map (·.1)).Nodup:=by
 have e:(upK xs).map (·.1)=(xs.map (·.1)).map kI:=by unfold upK;rw[List.map_map,List.map_map];rfl
 rw[e]
 unfold List.Nodup
 rw[List.pairwise_map]
 constructor
 ·exact fun h=>h.imp fun n z=>n (by rw[z])
 ·exact fun h=>h.imp fun n z=>n (kI_inj.mp z)
structure TIs (K:PySem.W.Frag)(H:Hp)(a:Addr)(es:Array DictEntry)(xs:List T3):Prop where
 es:es.toList=xs.map entI
 nd:(xs.map (·.1)).Nodup
 sm:(a==sysModules)=false
 sz:xs.length≤sizeLine
 ks:∀ x∈xs,SqT K H x.2.1 (x.1.map V.int)
section
variable {X:Cx}{pins:List (Addr×Obj)}{σ:L2.St}{H:Hp}{s:Shared}{a b:Addr}{y v:V}{u r:Value}{A:Around}{E:Value→Shared→Prop}{es:Array DictEntry}{xs:List T3}{k:List Int}
theorem key_T (I:Inv X pins σ H s)(h:SqT X.K H b (k.map V.int)):(tupleKind (mixKind X.prog X.w)).is s.heap (kI k) b:=by
 obtain⟨its,r,⟨o,h1,h2,n,h3⟩,_⟩:=I.tuple h
 refine⟨o,its.toArray,n,h1,h2,h3,?_⟩
 have r':Vals ((kI k).map kV) its:=by unfold kI;rw[List.map_map];exact r
 simpa using items_are (P:=X.prog) (w:=X.w) r'
theorem TIs.of (I:Inv X pins σ H s)(hr:Rd H a (TX a es))(t:TIs X.K H a es xs):s.heap.DictOfH (tupleKind (mixKind X.prog X.w)) a (upK xs):=by
 obtain⟨⟨o,ep,h1,h2,h3⟩,_⟩:=(show ObjOk X.prog X.w H s.heap a (TX a es) from hr.ok I.hok)
 refine⟨o,es,ep,h1,h2,h3,by rw[ent_up];exact t.es,fun x hx=>?_,(keys_up xs).mpr t.nd⟩
 unfold upK at hx
 obtain⟨z,hz,rfl⟩:=List.mem_map.mp hx
 exact key_T I (t.ks z hz)
end
section
variable {X:Cx}{o i e value ke ve:Expr}{pos pos' tpos:Pos}{td ty tv tk:TE}
end
def intsD:List D→Option (List Int)
 | []=>some []
 | .int i::r=>(intsD r).map (i::·)
 | _::_=>none
def keyT:DV→Option (List Int)
 | .dat (.tup ds)=>intsD ds
 | _=>none
def isT {α:Type}:List (Ky×α)→Bool
 | (.t _,_)::_=>true
 | _=>false
section
variable {K:PySem.W.Frag}{W:WX}{N:Nat}{ρ:Pm}{G H G0 H0:Hp}{μ:Mem}{σ:Slots}{δ:Env}{Q:VK}
abbrev TrL (K:PySem.W.Frag)(ρ:Pm)(G:Hp):List T3→List (Ky×DV)→Prop:=Paired fun x q=>q.1=Ky.t (kI x.1)∧∃ v,RelV v x.2.2∧DvOk K ρ G v q.2
theorem trl_to:∀ {xs:List T3} {kvs:List (Ky×DV)},TrL K ρ G xs kvs→kvs.map (·.1)=xs.map (fun p=>Ky.t (kI p.1))∧∃ vs,Vals vs (xs.map (·.2.2))∧DvL K ρ G vs (kvs.map (·.2))
 | _,_,.nil=>⟨rfl,[],.nil,.nil⟩
 | _,_,.cons ⟨a,v,b,c⟩ r=>by
  obtain⟨h1,vs,h2,h3⟩:=trl_to r
  exact⟨by simp only[List.map_cons];rw[h1,a],v::vs,.cons b h2,.cons c h3⟩
theorem dct_T {a:Addr}{es:Array DictEntry}{xs:List T3}{kvs:List (Ky×DV)}(hne:xs≠[])(t:TIs K G a es xs)(r:TrL K ρ G xs kvs):∃ vs,DctIs K G a (TX a es) (kvs.map (·.1)) vs∧DvL K ρ G vs (kvs.map (·.2)):=by
 obtain⟨h1,vs,h2,h3⟩:=trl_to r
 exact⟨vs,.inr ⟨es,xs,hne,rfl,t.es,t.nd,t.sm,t.sz,h1,h2,t.ks⟩,h3⟩
theorem TIs.up {a:Addr}{es:Array DictEntry}{xs:List T3}(e:Ex G H)(t:TIs K G a es xs):TIs K H a es xs:=⟨t.es,t.nd,t.sm,t.sz,fun x hx=>ex_t e (t.ks x hx)⟩
def dGetT (x y:DV)(μ:Mem):Res R:=match dctOf x μ,keyT y with
 | some kvs,some k=>if isT kvs=true then match dval kvs (.t (kI k)) with
   | some z=>.ok (ofV z) μ
   | none=>.bad
  else .bad
 | _,_=>.bad
def eTGet (fd fy:EM):EM:=eOp dGetT fd fy
def dInT (neg:Bool)(y x:DV)(μ:Mem):Res R:=match dctOf x μ,keyT y with
 | some kvs,some k=>if isT kvs=true then .ok (.dat (.bl ((dval kvs (.t (kI k))).isSome != neg))) μ else .bad
 | _,_=>.bad
def eTIn (neg:Bool)(fy fd:EM):EM:=eOp (dInT neg) fy fd
def setDctT (μ:Mem)(x i y:DV):Option Mem:=match x with
 | .dat _=>none
 | .loc n=>match μ[n]?,keyT i with
  | some (.dct kvs),some k=>if(isT kvs||kvs.isEmpty)=true∧kvs.length<sizeLine∧belowB n y=true then some (μ.set n (.dct (dput kvs (.t (kI k)) y))) else none
  | _,_=>none
def gTPut (fo fi fe:EM):SM:=fun _ δ μ=>lift ((frzV fe δ μ).bind fun y μ1=>(frzV fo δ μ1).bind fun x μ2=>(frzV fi δ μ2).bind fun i μ3=>match setDctT μ3 x i y with
 | some μ4=>.ok () μ4
 | none=>.bad) δ fun _ μ4=>.next δ μ4
def fPair (fk fv:EM):Env→Mem→Res (DV×DV):=fun δ μ=>(frzV fk δ μ).bind fun k μ1=>(frzV fv δ μ1).bind fun v μ2=>.ok (k,v) μ2
def eDisT (fk fv:EM):EM:=fun δ μ=>(fPair fk fv δ μ).bind fun p μ2=>match keyT p.1 with
 | some kk=>.ok (.nk [(.t (kI kk),p.2)]) μ2
 | none=>.bad
end
section
variable {X:Cx}{pins:List (Addr×Obj)}{σ:L2.St}{H:Hp}{s:Shared}{d:Addr}{o:Obj}{es:Array DictEntry}{xs:List T3}
end
section
variable {P:Program}{w:World}{K:PySem.W.Frag}{tg:Expr}{d:Addr}{o:Obj}{es:Array DictEntry}{ep:Nat}{xs:List T3}
end
section
variable {X:Cx}{tg e:Expr}{td:TE}{apos cpos:Pos}
end
section
variable {K:PySem.W.Frag}{W:WX}{N:Nat}{ρ:Pm}{G H G0 H0:Hp}{μ:Mem}{σ:Slots}{δ:Env}{Q:VK}
def imKeysT (f:EM):IM:=fun δ μ=>(frzV f δ μ).bind fun x μ'=>match x with
 | .dat (.dct ds)=>if isT ds=true then .ok (keysD ds) μ' else .bad
 | _=>.bad
def imItemsT (f:EM):IM:=fun δ μ=>(frzV f δ μ).bind fun x μ'=>match x with
 | .dat (.dct ds)=>if isT ds=true then .ok (pairsOf ds) μ' else .bad
 | _=>.bad
end
section
variable {X:Cx}{W:WX}{a b o i e:Expr}{td ty te:TE}{fd fy fe f:EM}{pos pos' p apos cpos:Pos}{tg:Expr}
end
end DL
set_option maxHeartbeats 2000000
namespace DX
open PySem PySem.W PySem.Calls PyProof.Rows PySem.HandSPX
def eArgs (f:Str)(p1 p2:Pos):Arguments:={ posonlyargs:=[],args:=[{ arg:="self",annotation:=none,pos:=p1 },{ arg:=f,annotation:=none,pos:=p2 }],vararg:=none,kwonlyargs:=[],kw_defaults:=[],kwarg:=none,defaults:=[] }
def eBody (f:Str)(q1 q2 q3 q4 q5 q6 q7 q8 q9 q10:Pos):List Stmt :=
 [.Expr (.Call (.Attribute (.Call (.Name "super" q1) [] [] q2) "__init__" q3) [.Name f q4] [] q5) q6,.Assign [.Attribute (.Name "self" q7) f q8] (.Name f q9) q10]
def eScope (f:Str):Scope:={ kind:=.function,names:=[(PySem.Str.ofString "self",.local),(f,.local),(PySem.Str.ofString "__class__",.free),(PySem.Str.ofString "super",.globalImplicit)],isGenerator:=false,isCoroutine:=false,more:=[] }
structure ErrTxt (prog:Program)(K:Frag)(mg:Str→Option Value)(nm f:Str)(C fI:Addr):Prop where
 gC:mg nm=some (.ref C)
 cls:∃ nm q N bs bm sn sub ab col dd k0 k1 k2 k3 k5,K.lookup C=some (excClassObj nm q C N bs bm true sn sub ab col dd k0 k1 k2 k3 k5 "ValueError.__new__")∧refsVE bm=true
 sa:findIn K (.ref C) "__setattr__"=some (some (.builtin "object.__setattr__"))
 ga:findIn K (.ref C) "__getattribute__"=some (some (.builtin "BaseException.__getattribute__"))
 gg:findIn K (.ref C) "__getattr__"=some none
 noN:findIn K (.ref C) f=some none
 iC:findIn K (.ref C) "__init__"=some (some (.ref fI))
 tC:typeIn K (.ref fI)=some (.type "function")
 kC:keepIn K (.ref C)=true
 exC:subIn K (.ref C) (.type "BaseException")=some true
 exV:subIn K (.ref C) (.type "ValueError")=some true
 tyC:typeIn K (.ref C)=some (.type "type")
 hdC:hasDictIn K C=true
 su:ks_superIn K C C "__init__"=some (some (.builtin "ValueError.__init__"))
 mr:mroIn K C (.ref C)=some true
 op:nsIn K cStatics "thirdparty.any"=some none
 ms:mg "super"=none
 top:(prog.main.scope.names.lookup ("super":Str)).isSome=false
 fs:(f==("self":Str))=false
 fd:(f==("__debug__":Str))=false
 lf:(eScope f).names.lookup f=some .local
 lc:(eScope f).names.lookup ("__class__":Str)=some .free
 ls:(eScope f).names.lookup ("super":Str)=some .globalImplicit
 bd:∀ (qual:Str) (p1 p2:Pos) (bo:List Stmt) (doc pm:Value) (an:Option Addr) (cd ct:Value) (cc:Addr) (a b:Value),bindArgs (ksFn "__init__" qual (eArgs f p1 p2) bo (eScope f) .none .none doc pm an cd ct cc) ⟨[a,b],[]⟩=pure [(PySem.Str.ofString "self",a),(f,b)]
 fn:∃ (oc:Value) (od:Option Addr) (doc pm:Value) (an:Option Addr) (ct:Value) (osl:Array (Option Value)) (qual:Str) (p1 p2 q1 q2 q3 q4 q5 q6 q7 q8 q9 q10:Pos) (cda cc:Addr) (ccl cl:Value) (cdd cld:Option Addr) (vs:Array Value) (ccs csl:Array (Option Value)) (file:Str) (tf:Tok) (pl:Sem Bool),
  K.lookup fI=some ⟨oc,od,.func (ksFn "__init__" qual (eArgs f p1 p2) (eBody f q1 q2 q3 q4 q5 q6 q7 q8 q9 q10) (eScope f) .none .none doc pm an (.ref cda) ct cc),osl⟩∧codeIn K (.ref cda) qual=true ∧
  K.lookup cda=some ⟨ccl,cdd,.fields vs,ccs⟩∧vs[2]?=some (.str file tf)∧((prog.main.file:Str)==file)=true∧K.lookup cc=some ⟨cl,cld,.cell (some (.ref C)),csl⟩ ∧
  (∀ env:Env,eval (.Call (.Attribute (.Call (.Name "super" q1) [] [] q2) "__init__" q3) [.Name f q4] [] q5) env=(do
   let ov ←attributeBase (.Call (.Name "super" q1) [] [] q2) "__init__" env (eval (.Call (.Name "super" q1) [] [] q2) env)
   standAt q3.atName
   let (f1,first) ←holding [ov] (getMethod ov "__init__" pl)
   callWith q5 f1 first (backTo q5 (starEach [.Name f q4] env)) [])) ∧
  (∀ env:Env,swapsWith (.Call (.Attribute (.Call (.Name "super" q1) [] [] q2) "__init__" q3) [.Name f q4] [] q5) none q6.line env=pure false) ∧
  (∀ env:Env,swapsWith (.Name f q9) (some (.Attribute (.Name "self" q7) f q8)) q10.line env=pure false)
structure InitEnd (h h':Heap)(f:Str)(x C dx t1:Addr)(v:Value):Prop where
 keep:∀ b o,b≠x→h.get? b=some o→h'.get? b=some o
 obj:h'.get? x=some { cls:=.ref C,dict:=some dx,data:=.fields #[.ref t1,.none,.none,.none,.bool false,.none] }
 dbig:h.objs.size≤dx
 dne:dx≠x
 ns:h'.Ns1 dx (fun y=>if y=f then some v else none)
section
variable {prog:Program}{w:World}{A:Around}{E:Value→Shared→Prop}{R:Result→Shared→Prop}{s:Shared}{K:Frag}{mg:Str→Option Value}{nm f:Str}{C fI:Addr}
theorem call_mw {h:Heap}{g:Array GenState}{d:Drawn}{t:Nat}{os:OsState}{nm q:Str}{C N:Addr}{bs bm:List Value}{hdct:Bool}{sn:List Str}{sub:List Value}{ab:Bool}{col:Option Bool}{dd:Option Addr}{k0 k1 k2 k3 k5:Option Value}{u e t0:Addr}{rest:List Value}{Q:Value→Shared→Prop}
  (hC:h.get? C=some (excClassObj nm q C N bs bm hdct sn sub ab col dd k0 k1 k2 k3 k5 "ValueError.__new__")) (he:h.get? e=some (excO C t0)) (hu:h.get? u=some (kxs_mw "ValueError.__init__" e)) (hrest:rest.length≤sizeLine)
  (hq:∀ h' t1,(∀ b o,b≠e→h.get? b=some o→h'.get? b=some o)→h'.get? e=some (excO C t1)→Q .none ⟨h',g,d,t,os⟩) :
  wpAny (model prog w) A (call (.ref u) rest) Q E ⟨h,g,d,t,os⟩:=by
 have hm:(Value.type "method-wrapper"==Value.type "method"||Value.type "method-wrapper"==Value.type "builtin_function_or_method"||Value.type "method-wrapper"==Value.type "method-wrapper")=true:=by decide
 refine wpAny_call (codeAny_of_tree ?_)
 show wpAny _ (Around.in1 A) (callAny (Value.ref u) { pos:=rest,kw:=[] }) _ _ _
 simp only[callAny]
 refine wpAny_bind (wpAny_load hu ?_)
 simp only[kxs_mw,hm,if_true]
 refine KFB.if_so (by decide) (wpAny_bind (ESX.check_bound F.excBase_ValueError hC he rfl (wpAny_bind (wpAny_pure (wpAny_pure ?_)))))
 refine And.intro (Code.quiet_builtin _ (by decide +kernel)) (codeAny_builtin F.excBase_ValueError.initEntry ?_)
 rw[Around.under_plainId F.excBase_ValueError.init.plain _]
 wp_walk
 refine hq _ h.objs.size (fun b o nb ob=>?_) ?_
 ·rw[Heap.get?_update_other _ _ (Ne.symm nb)];exact Heap.get?_push_of_some _ ob
 ·rw[Heap.get?_update_self _ (Heap.get?_push_of_some _ he) rfl];rfl
theorem init_ok (T:ErrTxt prog K mg nm f C fI) {x t0:Addr} {v:Value} (X:K.In s.heap) (hlim:s.heap.NoLimit) (G:s.heap.Ns mainGlobals mg) (hb:∃ mb,s.heap.Ns builtinsNs mb∧∀ x:Str,x≠"__name__"→mb x=bootBuiltins x) (hx:s.heap.get? x=some (excO C t0)) (hnx:K.lookup x=none) (hroom:A.depth<recursionLimit)
  (hq:∀ h' tk dx t1,InitEnd s.heap h' f x C dx t1 v→R (.ok (.ret .none)) { s with heap:=h',toks:=tk }) :
  codeAny (model prog w) A (.call (.ref fI) ⟨[.ref x,v],[]⟩) R s:=by
 obtain⟨oc,od,doc,pm,an,ct,osl,qual,p1,p2,q1,q2,q3,q4,q5,q6,q7,q8,q9,q10,cda,cc,ccl,cl,cdd,cld,vs,ccs,csl,file,tf,pl,ho,hcd,hcode,hvs,hfile,hcell,hev,hsw,hsw2⟩:=T.fn
 obtain⟨nm',q,N,bs,bm,sn,sub,ab,col,dd,k0,k1,k2,k3,k5,hC,hbm⟩:=T.cls
 have hcl:clsIn K C=some { name:=nm',bases:=bs,mro:=.ref C::bm,ns:=N,qualname:=q,hasDict:=true,slotNames:=sn,subclasses:=sub,abstract:=ab,collection:=col,hasDel:=false }:=by unfold clsIn;rw[hC] <;> rfl
 have lf:=T.lf
 refine ks_codeAny_call_defAt (binds:=[("self",.ref x),(f,v)]) hroom (X _ _ ho) rfl hlim (codeRec_of X hcd) rfl ?_ ?_ ?_ (fun h₁ hns k₁=>?_)
 ·exact BindsTo.of_eq (T.bd _ _ _ _ _ _ _ _ _ _ _ _)
 ·intro y hy
  have hy':y∈(eScope f).names:=hy
  simp only[eScope,List.mem_cons,List.not_mem_nil,or_false] at hy'
  rcases hy' with rfl|rfl|rfl|rfl <;> exact fun z=>by cases z
 ·intro y hy
  simp only[List.mem_cons,List.not_mem_nil,or_false] at hy
  rcases hy with rfl|rfl
  ·rfl
  ·exact lf
 have X₁:K.In h₁:=X.keeps k₁
 have hx₁:=k₁ _ _ hx
 have I₁:InstAt h₁ x (excO C t0) C none:=⟨hx₁,rfl,rfl,trivial⟩
 have mx:(fun y=>([("self",Value.ref x),(f,v)]:List (Str×Value)).reverse.lookup y) f=some v:=by simp[List.lookup]
 have ms:(fun y=>([("self",Value.ref x),(f,v)]:List (Str×Value)).reverse.lookup y) ("self":Str)=some (.ref x):=by
  have:((PySem.Str.ofString "self")==f)=false:=by
   have:=T.fs
   rw[Bool.eq_false_iff] at this ⊢
   intro z;exact this (by simpa using (eq_of_beq z).symm)
  simp[List.lookup,this]
 refine ks_wpAt_execs_cons (ks_wpAt_Expr_any (ks_wpAt_MethodCall ?_ (hev _)) rfl (hsw _))
 refine ks_wpAt_super_base (f:=fI) (cc:=cda) T.ls T.lc rfl rfl (X₁ _ _ ho) rfl rfl rfl (X₁ _ _ hcode) rfl hvs hfile T.top ?_
 obtain⟨mb,g1,g2⟩:=hb
 refine ks_loadName_global rfl T.ls (loadGlobal_builtin (G.keeps k₁) T.ms (g1.keeps k₁) ((g2 "super" (by decide)).trans (by decide +kernel)) ⟨rfl,?_⟩)
 refine wpAny_loadName_free rfl T.lc rfl ⟨_,X₁ _ _ hcell,rfl⟩ ?_
 refine wpAny_loadName_local rfl rfl hns ms ?_
 refine ks_wpAny_isType_cls (X₁ _ _ hC) rfl ⟨rfl,?_⟩
 refine ks_wpAny_call_super (X₁ _ _ hC) rfl hx₁ rfl (fun c e=>by cases e) (looks_mroIn X₁ T.mr) (fun h₂ e₂ k₂=>?_)
 have X₂:K.In h₂:=X₁.keeps k₂
 have hx₂:=k₂ _ _ hx₁
 have I₂:InstAt h₂ x (excO C t0) C none:=⟨hx₂,rfl,rfl,trivial⟩
 have su:=T.su
 unfold ks_superIn at su
 rw[hcl] at su
 refine kxs_getMethod kxs_ValueError e₂ (looks_opaque X₂ T.op) (l₀:=.ref C::bm) ?_ rfl X₂ su (I₂.type.andThen (looks_subIn X₂ T.exV)) (ks_ne X₂ I₂ hcl) rfl ?_
 ·exact fun A Q E s k q=>wpAny_bind ((looks_clsIn X₂ hcl) A _ E s k (wpAny_pure q))
 have k₃:∀ b o,h₂.get? b=some o→(h₂.push (kxs_mw "ValueError.__init__" x)).get? b=some o:=fun b o e=>Heap.get?_push_of_some _ e
 have X₃:=X₂.keeps k₃
 have hx₃:=k₃ _ _ hx₂
 have hns₃:=(hns.keeps k₂).keeps k₃
 refine kxs_callWith (i:="ValueError.__init__") (x:=x) rfl (evalArgs_plain (x:=eval (.Name f q4) _) (rest:=[]) (Calls.spliced_cons (wpAny_Name (wpAny_loadName_local rfl T.lf hns₃ mx (Calls.spliced_nil ⟨Heap.get?_push_at rfl rfl,?_⟩)) T.fd)))
 have hC₃:=X₃ _ _ hC
 refine call_mw (e:=x) (t0:=t0) hC₃ hx₃ (Heap.get?_push_at rfl rfl) (show [v].length≤sizeLine by rw[sizeLine_eq];exact(by decide:1≤16777216)) (fun h₄ t1 k₄ hx₄=>?_)
 have hxL:s.heap.objs.size≠x:=Nat.ne_of_gt (Heap.lt_size hx)
 have hns₄:h₄.Ns s.heap.objs.size (fun y=>([("self",Value.ref x),(f,v)]:List (Str×Value)).reverse.lookup y):=let ⟨o,es,ep,ho,r⟩:=hns₃;⟨o,es,ep,k₄ _ o hxL ho,r⟩
 show PySem.wpAt _ _ _ (execs _ _) _ _ _
 refine ks_wpAt_execs_cons (wpAt_of_wpAny (plainObj_wpAny_Assign_Attribute ?_ (hsw2 _)))
 refine wpAny_Name (wpAny_loadName_local rfl T.lf hns₄ mx ?_) T.fd
 refine wpAny_Name (wpAny_loadName_local rfl rfl hns₄ ms ?_) (by decide)
 have X₄:K.In h₄:=fun a o e=>k₄ a o (fun z=>by rw[z,hnx] at e;cases e) (X₃ a o e)
 refine set_plain X₄ (ox:=excO C t1) (od:=none) ⟨hx₄,rfl,rfl,trivial⟩ T.sa ?_
 refine exc_osa X₄ hx₄ hcl (show refsVE (.ref C::bm)=true from hbm) rfl T.noN (fun h₅ tk₅ dx k₅ dn dne hx₅ hn₅=>?_)
 have z:s.heap.objs.size<h₁.objs.size:=hns.lt
 have z2:s.heap.objs.size<h₄.objs.size:=hns₄.lt
 refine wpAt_of_wpAny (wpAny_execs_nil ?_)
 exact hq h₅ tk₅ dx t1 ⟨fun b o hb e=>k₅ b o hb (k₄ b o hb (k₃ b o (k₂ b o (k₁ b o e)))),hx₅,Nat.le_of_lt (Nat.lt_of_lt_of_le z2 dn),dne,hn₅⟩
end
end DX
set_option maxHeartbeats 2000000
namespace DX
open PySem PySem.W PySem.Calls PyProof.Rows PySem.HandSPX
structure OwnMade (h h':Heap)(f:Str)(e C d:Addr)(v:Value):Prop where
 keep:∀ b o,h.get? b=some o→h'.get? b=some o
 new:h.objs.size≤e
 obj:∃ oe vs,h'.get? e=some oe∧oe.cls=.ref C∧oe.dict=some d∧oe.data=.fields vs∧vs[1]?=some .none
 dbig:h.objs.size≤d
 dne:d≠e
 ns:h'.Ns1 d (fun y=>if y=f then some v else none)
section
variable {prog:Program}{w:World}{A:Around}{E:Value→Shared→Prop}{R:Result→Shared→Prop}{s:Shared}{K:Frag}{mg:Str→Option Value}{nm f:Str}{C fI:Addr}
theorem made_ok (T:ErrTxt prog K mg nm f C fI) {v:Value} (X:K.In s.heap) (hlim:s.heap.NoLimit) (G:s.heap.Ns mainGlobals mg) (hb:∃ mb,s.heap.Ns builtinsNs mb∧∀ x:Str,x≠"__name__"→mb x=bootBuiltins x) (hroom:A.depth+1<recursionLimit)
  (hq:∀ h' tk e d,OwnMade s.heap h' f e C d v→R (.ok (.ret (.ref e))) { s with heap:=h',toks:=tk }) :
  codeAny (model prog w) A (.call (.ref C) ⟨[v],[]⟩) R s:=by
 obtain⟨nm',q,N,bs,bm,sn,sub,ab,col,dd,k0,k1,k2,k3,k5,hC,hbm⟩:=T.cls
 obtain⟨hp,g,dr,tk,os⟩:=s
 have k:∀ b o,hp.get? b=some o→((hp.push (kdv_tup [v])).push (excO C hp.objs.size)).get? b=some o:=fun b o e=>Heap.get?_push_of_some _ (Heap.get?_push_of_some _ e)
 have hget:((hp.push (kdv_tup [v])).push (excO C hp.objs.size)).get? (hp.objs.size+1)=some (excO C hp.objs.size):=by heap_get
 have hnx:K.lookup (hp.objs.size+1)=none:=by
  cases e:K.lookup (hp.objs.size+1) with
  | none=>rfl
  | some o =>
   have z:hp.get? (hp.objs.size+1)=some o:=X _ _ e
   exact absurd (Nat.lt_of_succ_lt (Heap.lt_size z)) (Nat.lt_irrefl _)
 refine call_own F.excBase_ValueError (fun X=>refsVE_contains X bm hbm) (X _ _ hC) (looks_findIn X T.iC) (fun self=>bind_fn X self T.tC) (show [v].length≤sizeLine by rw[sizeLine_eq];exact(by decide:1≤16777216)) ?_
 have hb':∃ mb,((hp.push (kdv_tup [v])).push (excO C hp.objs.size)).Ns builtinsNs mb∧∀ x:Str,x≠"__name__"→mb x=bootBuiltins x:=by
  obtain⟨mb,b1,b2⟩:=hb
  exact⟨mb,Heap.Ns.keeps b1 k,b2⟩
 refine init_ok (s:=⟨(hp.push (kdv_tup [v])).push (excO C hp.objs.size),g,dr,tk,os⟩) T (X.keeps k) (hlim.keeps k) (Heap.Ns.keeps G k) hb' hget hnx ?_ fun h' tk' dx t1 ⟨k',hx,dn,dne,hns⟩=>?_
 ·show A.depth+1<recursionLimit
  exact hroom
 ·have old:∀ b o,hp.get? b=some o→h'.get? b=some o:=fun b o e=>k' b o (Nat.ne_of_lt (Nat.lt_succ_of_lt (Heap.lt_size e))) (k b o e)
  have z:hp.objs.size+1+1≤dx:=by
   first
    | (simpa only[Heap.size_push] using dn)
    | exact dn
    | (have q:=dn;rw[Heap.size_push,Heap.size_push] at q;exact q)
  exact⟨rfl,hq h' tk' (hp.objs.size+1) dx ⟨old,Nat.le_succ _,⟨_,_,hx,rfl,rfl,rfl,rfl⟩,Nat.le_trans (Nat.le_trans (Nat.le_succ _) (Nat.le_succ _)) z,dne,hns⟩⟩
end
end DX
namespace DL
open PySem PySem.Spec PyProof.Rows L2
theorem relO_one {v:V}{v':Value}(r:L2.RelV v v')(g f:Str):RelO (List.lookup f [(g,v)]) (if f=g then some v' else none):=by
 by_cases hw:f=g
 ·subst hw
  rw[if_pos rfl]
  have q:List.lookup f [(f,v)]=some v:=by simp[List.lookup]
  rw[q]
  exact r
 ·rw[if_neg hw]
  have qw:(f==g)=false:=by simpa using hw
  have q2:List.lookup f [(g,v)]=none:=by simp[List.lookup,qw]
  rw[q2]
  trivial
section
variable {X:Cx}{C fI:Addr}{nm f:Str}
def tMkErr (C:Addr)(f:Str)(ta:TA):L2.St→Hp→XK→Prop:=fun σ H Q=>ta σ H fun vs H1=>∃ v,vs=[v]∧∀ d,H1 d=none→Q (.ref C) (some d) (upd H1 d (.xd [(f,v)]))
theorem pmk_err {a:Expr} {ta:TA} {p pos:Pos} {k:Nat} (T:DX.ErrTxt X.prog X.K X.mg nm f C fI) (hr:Room k X.A) (ha:PA X [a] ta) (hg:Gl X nm) (hdb:(nm==("__debug__":Str))=false:=by decide)
  (he:starEach (a::[]) X.env=(false,eval a X.env)::starEach [] X.env:=by rfl) (hpl:(backTo pos (starEach [] X.env)).any (·.1)=false:=by rfl) :
  PMk X (.Call (.Name nm p) [a] [] pos) (tMkErr C f ta):=by
 intro pins s σ H Q I h
 refine wpAny_Call_Name_kw (ld_glob I hg T.gC ?_ hdb)
 refine PySem.W.callWith_K (h₀:=X.base) I.ok.mod.kin T.kC (thn (ha.run pos pins s σ H _ I h) fun us s1 hh=>?_) he hpl
 obtain⟨vs,H1,I1,r1,v,ev,q1⟩:=hh
 subst ev
 refine⟨I1.kIn,?_⟩
 cases r1 with
 | cons rv rn =>
  rename_i v' us'
  cases rn
  show wpAny _ _ (call (.ref C) [v']) _ _ _
  have hlim:=I1.nolimit
  have G1:s1.heap.Ns mainGlobals X.mg:=I1.mod.glob.keeps I1.bk
  have hb1:∃ mb,s1.heap.Ns builtinsNs mb∧∀ x:Str,x≠"__name__"→mb x=bootBuiltins x:=by
   obtain⟨mb,b1,b2⟩:=I1.mod.blt
   exact⟨mb,b1.keeps I1.bk,b2⟩
  obtain⟨hp,g,dr,tk,os⟩:=s1
  refine wpAny_call (DX.made_ok T I1.kIn hlim G1 hb1 (by have:=hr.dp;omega) fun h' tk' e d M=>?_)
  show MkP X pins σ Q (.ref e) ⟨h',g,dr,tk',os⟩
  obtain⟨oe,fv,hoe,hc,hd,hdat,h1⟩:=M.obj
  have hns:=M.ns
  obtain⟨G',g1,g2⟩:=restrict h' fun b=>decide (b≠e)
  have gk:∀ b,b≠e→G'.get? b=h'.get? b:=fun b hb=>g1 b (decide_eq_true hb)
  have ge:G'.get? e=none:=g2 e (by simp)
  have old:∀ b o,hp.get? b=some o→G'.get? b=some o:=fun b o q=>(gk b (Nat.ne_of_lt (Nat.lt_of_lt_of_le (Heap.lt_size q) M.new))).trans (M.keep b o q)
  have ob:ObjOk X.prog X.w (upd H1 d (.xd [(f,v)])) G' d (.xd [(f,v)]) :=
   ⟨_,hns.at (fun o q=>(gk d M.dne).trans q),fun g=>relO_one rv f g⟩
  have J:Inv X pins σ (upd H1 d (.xd [(f,v)])) ⟨G',g,dr,tk',os⟩:=I1.laid (t':=tk') old M.dbig ob
  refine⟨e,oe,fv,⟨G',g,dr,tk',os⟩,_,.ref C,some d,rfl,J,fun b o q=>?_,ge,hoe,⟨hc,hd⟩,hdat,h1,?_,rfl,I1.bare,raises_own T.exC T.tyC,q1 d (I1.hok.fresh M.dbig)⟩
  ·by_cases hb:b=e
   ·have q':G'.get? b=some o:=q
    rw[hb,ge] at q';cases q'
   ·exact(gk b hb).symm.trans q
  ·rw[upd_ne (Ne.symm M.dne)]
   exact I1.hok.fresh M.new
end
def gRaise (nm f:Str)(fe:EM):SM:=fun _ δ μ=>lift (frzV fe δ μ) δ fun x μ'=>match x with
 | .dat d=>.exc ⟨nm,[(f,d)]⟩ δ μ'
 | .loc _=>.bad
section
variable {K:PySem.W.Frag}{W:WX}{C:Addr}{nm f:Str}
theorem snd_raise {te:TE}{fe:EM}(hC:ClsAt K nm C)(h:SndE K W te fe):SndS K W (fun _ σ H=>tMkErr C f (tCons te tNil) σ H fun cls d H'=>W cls d σ H') (gRaise nm f fe):=fun N ρ G H σ δ μ D R E hp=>by
 refine SndG.stm (t:=te) h.toV R E hp fun x μ1 G1 H1 v t1 R1 E1 d1 hp1=>?_
 cases x with
 | loc n=>exact hp1.elim
 | dat d =>
  refine⟨v,rfl,fun a hn=>?_⟩
  obtain⟨R2,t2,ex⟩:=R1.layD (o:=.xd [(f,v)]) hn
  exact hp1 ρ _ _ σ _ _ (t1.trans t2).toS R2 (E1.mono ex) ⟨⟨C,hC,rfl⟩,.inr ⟨List.cons_ne_nil _ _,a,[(f,v)],rfl,upd_same,rfl,.cons (Rp.mono ex d1) .nil⟩⟩
end
theorem sm_raise {X:Cx} {W:WX} {C fI:Addr} {nm f:Str} {a:Expr} {te:TE} {fe:EM} {p pos pos':Pos} {k:Nat} (hc:X.calm=true) (tk:Takes X W) (T:DX.ErrTxt X.prog X.K X.mg nm f C fI) (hC:ClsAt X.K nm C) (hr:Room k X.A) (ha:PM X W a te fe) (hg:Gl X nm) (hdb:(nm==("__debug__":Str))=false:=by decide)
  (he:starEach (a::[]) X.env=(false,eval a X.env)::starEach [] X.env:=by rfl) (hpl:(backTo pos (starEach [] X.env)).any (·.1)=false:=by rfl) :
  PSM X W (.Raise (some (.Call (.Name nm p) [a] [] pos)) none pos') (fun _ σ H=>tMkErr C f (tCons te tNil) σ H fun cls d H'=>W cls d σ H') (gRaise nm f fe) :=
 ⟨ps_raise hc tk (pmk_err T hr (pa_cons ha.pe pa_nil he) hg hdb he hpl),snd_raise hC ha.sd⟩
def rIsX (K:PySem.W.Frag)(C a:Addr)(dd:Addr):List V→Hp→VK→Prop:=fun xs H Q=>∃ (c:V) (cv:Value) (b:Bool) (fs:List (Str×V)),xs=[.ref a,c]∧(∀ u,L2.RelV c u→u=cv)∧H dd=some (.xd fs)∧ExcC K C∧PySem.W.kitOne K (.ref C) cv=some b∧Q (.bl b) H
theorem call_isX {X:Cx} {a C dd:Addr} {oe:Obj} {pn:List (Addr×Obj)} (hz:Zc (.ref C) (some dd) oe) (hf:∃ vs,oe.data=.fields vs):CallR (X.suite a ((a,oe)::pn)) (.builtin "isinstance") (rIsX X.K C a dd):=by
 intro pins s σ H xs us Q I r h
 obtain⟨c,cv,b,fs,rfl,hcv,ea,EC,e,q⟩:=h
 cases r with
 | cons rx rr =>
  cases rr with
  | cons rt rr =>
   cases rr
   cases rx
   have ec:=hcv _ rt
   subst ec
   obtain⟨hget,_⟩:=I.pin (a,oe) (List.mem_append.mpr (.inl List.mem_cons_self))
   obtain⟨vs,hv⟩:=hf
   have hx:ObjOk X.prog X.w H s.heap dd (.xd fs):=I.hok dd _ ea
   obtain⟨mA,hns,hr⟩:=hx
   obtain⟨od,ho,hl⟩:=lookIn_ns hns
   have J:PySem.W.InstAt s.heap a oe C (some od):=⟨hget,hz.1,by unfold PySem.W.notCls;rw[hv] <;> rfl,by rw[hz.2];exact ho⟩
   exact PySem.W.kia_one (PySem.W.kitx_exc (by obtain⟨cd,hc,_⟩:=PySem.W.any_some EC.hd;rw[hc];rfl) EC.hg EC.hk EC.hs EC.ha EC.hn EC.ht EC.hm) I.kIn J e (fun z=>nomatch z) fun tk=>⟨.bl b,H,I.kept (t':=tk) fun _ _ z=>z,rfl,q⟩
def errAt (i:Nat)(δ:Env):Option (Addr×Addr×Addr×Str×List (Str×D)):=match δ[i]? with
 | some (some (.dat (.err a C d nm (f::fs))))=>some (a,C,d,nm,f::fs)
 | _=>none
section
variable {K:PySem.W.Frag}{W:WX}{ρ:Pm}{G H:Hp}{σ:Slots}{δ:Env}{μ:Mem}
theorem errAt_ok {i:Nat}{a C d:Addr}{nm:Str}{fs:List (Str×D)}(E:EnvOk K ρ G σ δ)(e:errAt i δ=some (a,C,d,nm,fs)) :
  σ[i]?=some (some (.ref a))∧ClsAt K nm C∧∃ vs:List (Str×V),G d=some (.xd vs)∧vs.map (·.1)=fs.map (·.1)∧RpL K G (vs.map (·.2)) (fs.map (·.2)):=by
 unfold errAt at e
 split at e
 ·rename_i h
  cases e
  obtain⟨v,h1,h2⟩:=E.at_ i _ h
  cases h2 with
  | err c h k r=>exact⟨h1,c,_,h,k,r⟩
 ·cases e
def eIsE (i:Nat)(a C d:Addr)(tab:List (Str×Bool)):EM:=fun δ μ=>match errAt i δ with
 | some (a',C',d',nm,_)=>if a'=a∧C'=C∧d'=d then match tab.lookup nm with
   | some b=>.ok (.dat (.bl b)) μ
   | none=>.bad
  else .bad
 | none=>.bad
def TabE (K:PySem.W.Frag)(cv:Value)(tab:List (Str×Bool)):Prop:=∀ nm b,tab.lookup nm=some b→∀ C,ClsAt K nm C→ExcC K C∧PySem.W.kitOne K (.ref C) cv=some b
theorem snd_isE {i:Nat}{a C d:Addr}{c:V}{cv:Value}{tab:List (Str×Bool)}(hc:∀ u,L2.RelV c u→u=cv)(T:TabE K cv tab) :
  SndE K W (tCB (rIsX K C a d) (tCons (tVar i) (tCons (tC c) tNil))) (eIsE i a C d tab):=fun ρ G H σ δ μ Q R E hp=>by
 unfold eIsE at hp
 cases e:errAt i δ with
 | none=>rw[e] at hp;exact hp.elim
 | some p =>
  obtain⟨a',C',d',nm,fs⟩:=p
  simp only[e] at hp
  by_cases q:a'=a∧C'=C∧d'=d
  case neg=>rw[if_neg q] at hp;exact hp.elim
  rw[if_pos q] at hp
  obtain⟨rfl,rfl,rfl⟩:=q
  obtain⟨h1,h2,vs,h3,h4,h5⟩:=errAt_ok E e
  cases et:tab.lookup nm with
  | none=>rw[et] at hp;exact hp.elim
  | some b =>
   rw[et] at hp
   obtain⟨T1,T2⟩:=T nm b et C' h2
   exact⟨.ref a',h1,c,cv,b,vs,rfl,hc,R.ex _ _ h3,T1,T2,hp G H _ (Tr.refl _ _ _) R (.bl b)⟩
def eXf (i:Nat)(a C d:Addr)(nm0 f:Str):EM:=fun δ μ=>match errAt i δ with
 | some (a',C',d',nm,fs)=>if a'=a∧C'=C∧d'=d∧nm=nm0 then match fs.lookup f with
   | some v=>.ok (.dat v) μ
   | none=>.bad
  else .bad
 | none=>.bad
theorem lookD_ok {f:Str}{v:D}:∀ {vs:List (Str×V)} {fs:List (Str×D)},vs.map (·.1)=fs.map (·.1)→RpL K G (vs.map (·.2)) (fs.map (·.2))→fs.lookup f=some v→∃ w,vs.lookup f=some w∧Rp K G w v
 | [],[],_,_,e=>by cases e
 | [],_::_,h,_,_=>by cases h
 | _::_,[],h,_,_=>by cases h
 | (g,x)::vs,(g',y)::fs,h,r,e=>by
  simp only[List.map_cons,List.cons.injEq] at h
  obtain⟨rfl,h⟩:=h
  cases r with
  | cons r1 r2 =>
   rw[List.lookup_cons] at e ⊢
   cases q:f==g with
   | true=>rw[q] at e;cases e;exact⟨x,rfl,r1⟩
   | false=>rw[q] at e;exact lookD_ok h r2 e
theorem snd_xf {i:Nat}{a C d C0:Addr}{nm0 f:Str}(hC:ClsAt K nm0 C0):SndE K W (tXf a (.ref C) (some d) C0 f (tVar i)) (eXf i a C d nm0 f):=fun ρ G H σ δ μ Q R E hp=>by
 unfold eXf at hp
 cases e:errAt i δ with
 | none=>rw[e] at hp;exact hp.elim
 | some p =>
  obtain⟨a',C',d',nm,fs⟩:=p
  simp only[e] at hp
  by_cases q:a'=a∧C'=C∧d'=d∧nm=nm0
  case neg=>rw[if_neg q] at hp;exact hp.elim
  rw[if_pos q] at hp
  obtain⟨rfl,rfl,rfl,rfl⟩:=q
  obtain⟨h1,h2,vs,h3,h4,h5⟩:=errAt_ok E e
  cases el:fs.lookup f with
  | none=>rw[el] at hp;exact hp.elim
  | some v =>
   rw[el] at hp
   obtain⟨w,k1,k2⟩:=lookD_ok h4 h5 el
   cases h2.uniq hC
   exact⟨.ref a',h1,rfl,rfl,d',vs,w,rfl,R.ex _ _ h3,k1,hp G H _ (Tr.refl _ _ _) R k2⟩
end
def unset (i:Nat):Out→Out
 | .next δ μ=>.next (δ.set i none) μ
 | .brk δ μ=>.brk (δ.set i none) μ
 | .cnt δ μ=>.cnt (δ.set i none) μ
 | .ret r μ=>.ret r μ
 | .exc _ _ _=>.bad
 | .bad=>.bad
open Classical in
noncomputable def suiteOut (i:Nat)(k:Addr→Addr→Addr→Out):Out:=if h:∃ o,∀ a C d,k a C d=o then unset i h.choose else .bad
theorem suiteOut_of {i:Nat}{k:Addr→Addr→Addr→Out}{o:Out}(h:∀ a C d,k a C d=o):suiteOut i k=unset i o:=by
 have e:∃ o,∀ a C d,k a C d=o:=⟨o,h⟩
 unfold suiteOut
 rw[dif_pos e]
 rw[←e.choose_spec 0 0 0,h 0 0 0]
theorem suiteOut_ok {i:Nat}{k:Addr→Addr→Addr→Out}(h:suiteOut i k≠.bad):∃ o,(∀ a C d,k a C d=o)∧suiteOut i k=unset i o:=by
 by_cases e:∃ o,∀ a C d,k a C d=o
 ·obtain⟨o,e⟩:=e;exact⟨o,e,suiteOut_of e⟩
 ·exact absurd (by unfold suiteOut;rw[dif_neg e]) h
noncomputable def gTry (cat:List (Str×Bool))(i:Nat)(gb:SM)(gs:Addr→Addr→Addr→SM):SM:=fun N δ μ=>match gb N δ μ with
 | .exc x δ' μ'=>match cat.lookup x.nm with
  | some true=>if x.fs≠[] then suiteOut i fun a C d=>gs a C d N (δ'.set i (some (.dat (.err a C d x.nm x.fs)))) μ' else .bad
  | some false=>.exc x δ' μ'
  | none=>.bad
 | o=>o
def CatOk (K:PySem.W.Frag)(c:Value)(cat:List (Str×Bool)):Prop:=∀ nm b,cat.lookup nm=some b→∀ C,ClsAt K nm C→PySem.W.exmOne K (.ref C) c=some b
def tsOf (ts:Addr→Addr→Addr→TS):Addr→Value→Option Addr→TS:=fun a cls d=>match cls,d with
 | .ref C,some dd=>ts a C dd
 | _,_=>fun _ _ _=>False
section
variable {K:PySem.W.Frag}{W:WX}{ρ:Pm}{G H:Hp}{σ:Slots}{δ:Env}{μ:Mem}
theorem EnvOk.unset (i:Nat)(E:EnvOk K ρ G σ δ):EnvOk K ρ G (σ.set i none) (δ.set i none):=by
 refine⟨by rw[List.length_set,List.length_set];exact E.len,fun j x h=>?_⟩
 by_cases e:i=j
 ·subst e
  by_cases hl:i<δ.length
  ·rw[List.getElem?_set_self hl] at h;cases h
  ·rw[List.getElem?_eq_none (by rw[List.length_set];omega)] at h;cases h
 ·rw[List.getElem?_set_ne e] at h
  obtain⟨v,h1,h2⟩:=E.at_ j x h
  exact⟨v,by rw[List.getElem?_set_ne e];exact h1,h2⟩
theorem PostS.unset {N:Nat}{D:Ends}{o:Out}(i:Nat)(h:PostS K W N ρ G H D (unset i o)) :
  PostS K W N ρ G H { nx:=fun σ' H'=>D.nx (σ'.set i none) H',rt:=D.rt,bk:=fun σ' H'=>D.bk (σ'.set i none) H',ct:=fun σ' H'=>D.ct (σ'.set i none) H' } o:=by
 cases o with
 | next δ' μ'=>exact fun ρ' G' H' σ' t R E=>h ρ' G' H' _ t R (E.unset i)
 | ret r μ'=>exact h
 | brk δ' μ'=>exact fun ρ' G' H' σ' t R E=>h ρ' G' H' _ t R (E.unset i)
 | cnt δ' μ'=>exact fun ρ' G' H' σ' t R E=>h ρ' G' H' _ t R (E.unset i)
 | exc x δ' μ'=>exact h.elim
 | bad=>exact h
theorem snd_try {c:Value}{i:Nat}{cat:List (Str×Bool)}{tb:WX→TS}{ts:Addr→Addr→Addr→TS}{gb:SM}{gs:Addr→Addr→Addr→SM}(hcat:CatOk K c cat)
  (hb:∀ W',SndS K W' (tb W') gb) (hs:∀ a C d,SndS K W (ts a C d) (gs a C d)) :
  SndS K W (fun D σ H=>tb (wAs K c i (tsOf ts) W D) D σ H) (gTry cat i gb gs):=fun N ρ G H σ δ μ D R E hp=>by
 refine hb _ N ρ G H σ δ μ D R E ?_
 unfold gTry at hp
 cases e:gb N δ μ with
 | next δ' μ'=>rw[e] at hp;exact hp
 | ret r μ'=>rw[e] at hp;exact hp
 | brk δ' μ'=>rw[e] at hp;exact hp
 | cnt δ' μ'=>rw[e] at hp;exact hp
 | bad=>rw[e] at hp;exact hp
 | exc x δ' μ' =>
  simp only[e] at hp
  intro ρ' G' H' σ' cls d t' R' E' X'
  obtain⟨⟨C,hC,rfl⟩,hd⟩:=X'
  cases q:cat.lookup x.nm with
  | none=>simp only[q] at hp;exact hp.elim
  | some b =>
   refine⟨b,hcat _ _ q C hC,fun hb=>?_,fun hb=>?_⟩
   ·subst hb
    simp only[q] at hp
    by_cases hne:x.fs≠[]
    case neg=>rw[if_neg hne] at hp;exact hp.elim
    rw[if_pos hne] at hp
    intro a ha
    rcases hd with⟨z,_⟩|⟨_,dd,vs,rfl,h3,h4,h5⟩
    ·exact absurd z hne
    ·show ts a C dd _ _ _
     obtain⟨o,ho,eo⟩:=suiteOut_ok (fun z=>by rw[z] at hp;exact hp)
     rw[eo] at hp
     have hp2:=PostS.unset i (PostS.shift t' hp)
     refine hs a C dd N ρ' G' H' _ (δ'.set i (some (.dat (.err a C dd x.nm x.fs)))) μ' _ R' (E'.set i (x:=.dat (.err a C dd x.nm x.fs)) (Rp.err hC h3 h4 h5)) ?_
     rw[ho a C dd]
     exact hp2
   ·subst hb
    simp only[q] at hp
    exact hp ρ' G' H' σ' _ _ t' R' E' ⟨⟨C,hC,rfl⟩,hd⟩
end
theorem sm_try {X:Cx}{W:WX}{x n:Str}{c:Value}{i:Nat}{body suite:List Stmt}{b₀:Stmt}{np pos pos':Pos}{tb:WX→TS}{ts:Addr→Addr→Addr→TS}{gb:SM}{gs:Addr→Addr→Addr→SM}{cat:List (Str×Bool)}
  (hs:X.stack=X.env::X.outer) (hf:X.env.frame=some X.env.locals) (hN:X.N.Nodup) (hi:X.N[i]?=some n) (hln:X.env.kindOf n=some .local) (hc:Names X x c) (tk:Takes X W) (hcat:CatOk X.K c cat)
  (hb:∀ (W':WX) (pn:List (Addr×Obj)) (xe:Value→Shared→Prop),Takes (X.tr pn xe) W'→PassesOwn (model X.prog X.w) X.A X.env xe→PSMs (X.tr pn xe) W' body (tb W') gb)
  (hbs:∀ W',SndS X.K W' (tb W') gb)
  (hsu:∀ (a:Addr) (oe:Obj) (C dd:Addr) (pn:List (Addr×Obj)),Zc (.ref C) (some dd) oe→(∃ vs,oe.data=.fields vs)→PSMs (X.suite a ((a,oe)::pn)) W (b₀::suite) (ts a C dd) (gs a C dd)) :
  PSM X W (.Try body [.ExceptHandler (some (.Name x np)) (some n) (b₀::suite) pos'] [] [] pos) (fun D σ H=>tb (wAs X.K c i (tsOf ts) W D) D σ H) (gTry cat i gb gs):=by
 refine⟨ps_try_as hs hf hN hi hln hc tk (fun W' pn xe t p=>(hb W' pn xe t p).ps) (fun a oe cls d pn hz hv=>?_),snd_try hcat hbs fun a C d=>(hsu a { cls:=.ref C,dict:=some d,data:=.fields #[] } C d [] ⟨rfl,rfl⟩ ⟨_,rfl⟩).sd⟩
 unfold tsOf
 split
 ·exact(hsu a oe _ _ pn hz hv).ps
 ·exact⟨fun _ _ _ _ _ _ h=>h.elim⟩
structure Bg where
 a:Int
 b:Int
 c:Int
 cs:List Int
def Bg.pl (B:Bg):Pl:=.lst [.dat (.int B.a),.dat (.int B.b),.dat (.int B.c),.dat (.lst (B.cs.map D.int))]
structure Bg.ok (B:Bg):Prop where
 a:0≤B.a
 b:0≤B.b
 b':B.b<2147483647
 c:0≤B.c
 cs:∀ z∈B.cs,0≤z
def Bg.cell (B:Bg):Int:=if B.c<B.cs.length then B.cs.getD B.c.toNat 0 else 0
def Bg.fill (B:Bg):Bg:=if B.a=0 then⟨if 1000000000000000000≤B.cell then B.cell else 0,(B.b*48271+B.cell % 2147483647+7919*(B.c+1)) % 2147483647,B.c+1,B.cs⟩ else B
def Bg.low (B:Bg)(m:Int):Int:=((B.b+1)*39373 % 1000000007*((B.b+1)*39373 % 1000000007) % 998244353*30011) % 998244353 / 7 % m
def takeB (B:Bg)(m:Int):Int×Bg:=if 0<B.fill.a then(B.fill.a % m,{ B.fill with a:=B.fill.a / m }) else(B.fill.low m,B.fill)
def gTake:SM :=
  (gSeq (gIf (tmB (eOp dEq (eOp dIx (eVar 0) (eD (.int 0))) (eD (.int 0)))) (gSeq (gAsg 2 (eD (.int 0)))
  (gSeq (gIf (tmB (eOp dLt (eOp dIx (eVar 0) (eD (.int 2))) (eCB (d1 dLen) (aCons (eOp dIx (eVar 0) (eD (.int 3))) aNil)))) (gAsg 2 (eOp dIx (eOp dIx (eVar 0) (eD (.int 3))) (eOp dIx (eVar 0) (eD (.int 2))))) gNext)
  (gSeq (gAugS (fun i j=>i+j) (eVar 0) (eD (.int 2)) (eD (.int 1)))
  (gSeq (gIf (tmB (eOp dGe (eVar 2) (eD (.int 1000000000000000000)))) (gSet (eVar 0) (eD (.int 0)) (eVar 2)) gNext)
  (gSeq (gAsg 3 (eOp dAdd (eOp dAdd (eOp dMul (eOp dIx (eVar 0) (eD (.int 1))) (eD (.int 48271))) (eOp dMod (eCB (d1 dInt) (aCons (eVar 2) aNil)) (eD (.int 2147483647)))) (eOp dMul (eD (.int 7919)) (eOp dIx (eVar 0) (eD (.int 2))))))
  (gSet (eVar 0) (eD (.int 1)) (eOp dMod (eCB (d1 dInt) (aCons (eVar 3) aNil)) (eD (.int 2147483647))))))))) gNext)
  (gSeq (gIf (tmB (eOp dGt (eOp dIx (eVar 0) (eD (.int 0))) (eD (.int 0)))) (gSeq (gAsg 4 (eOp dMod (eCB (d1 dInt) (aCons (eOp dIx (eVar 0) (eD (.int 0))) aNil)) (eVar 1)))
  (gSeq (gSet (eVar 0) (eD (.int 0)) (eOp dDiv (eCB (d1 dInt) (aCons (eOp dIx (eVar 0) (eD (.int 0))) aNil)) (eVar 1)))
  (gRet (eVar 4)))) gNext)
  (gSeq (gAsg 5 (eOp dMod (eCB (d1 dInt) (aCons (eOp dMul (eOp dAdd (eOp dIx (eVar 0) (eD (.int 1))) (eD (.int 1))) (eD (.int 39373))) aNil)) (eD (.int 1000000007))))
  (gSeq (gAsg 6 (eOp dMod (eCB (d1 dInt) (aCons (eOp dMul (eOp dMod (eCB (d1 dInt) (aCons (eOp dMul (eVar 5) (eVar 5)) aNil)) (eD (.int 998244353))) (eD (.int 30011))) aNil)) (eD (.int 998244353))))
  (gRet (eOp dMod (eCB (d1 dInt) (aCons (eOp dDiv (eVar 6) (eD (.int 7))) aNil)) (eVar 1)))))))
theorem dEqB_int (b:Bool)(i j:Int)(μ:Mem):dEqS b (.dat (.int i)) (.dat (.int j)) μ=.ok (.dat (.bl ((i==j)==b))) μ:=by
 simp[dEqS,asStr,dEqB,peekPy,peek,peekK,toPy,SeqAt.shaped,PyData.eqv,PyData.canLay0,PyData.depth]
theorem frz_ofV (x:DV):frz (ofV x)=some x:=by cases x <;> rfl
theorem fill_ok {B:Bg}(h:B.ok):B.fill.ok:=by
 unfold Bg.fill
 split
 ·rename_i e
  have hc:0≤B.cell:=by
   unfold Bg.cell
   split
   ·rw[List.getD_eq_getElem?_getD]
    cases q:B.cs[B.c.toNat]? with
    | none=>exact Int.le_refl 0
    | some z=>exact h.cs z (List.mem_of_getElem? q)
   ·exact Int.le_refl 0
  exact⟨by dsimp only;split <;> omega,by dsimp only;omega,by dsimp only;omega,by dsimp only;have:=h.c;omega,h.cs⟩
 ·exact h
theorem takeB_ok {B:Bg}(h:B.ok){m:Int}(hm:0<m):(takeB B m).2.ok∧0≤(takeB B m).1∧(takeB B m).1<m:=by
 have f:=fill_ok h
 unfold takeB
 split
 ·exact⟨⟨Int.ediv_nonneg f.a (by omega),f.b,f.b',f.c,f.cs⟩,Int.emod_nonneg _ (by omega),Int.emod_lt_of_pos _ hm⟩
 ·exact⟨f,Int.emod_nonneg _ (by omega),Int.emod_lt_of_pos _ hm⟩
def gFill:SM:=(gIf (tmB (eOp dEq (eOp dIx (eVar 0) (eD (.int 0))) (eD (.int 0)))) (gSeq (gAsg 2 (eD (.int 0)))
  (gSeq (gIf (tmB (eOp dLt (eOp dIx (eVar 0) (eD (.int 2))) (eCB (d1 dLen) (aCons (eOp dIx (eVar 0) (eD (.int 3))) aNil)))) (gAsg 2 (eOp dIx (eOp dIx (eVar 0) (eD (.int 3))) (eOp dIx (eVar 0) (eD (.int 2))))) gNext)
  (gSeq (gAugS (fun i j=>i+j) (eVar 0) (eD (.int 2)) (eD (.int 1)))
  (gSeq (gIf (tmB (eOp dGe (eVar 2) (eD (.int 1000000000000000000)))) (gSet (eVar 0) (eD (.int 0)) (eVar 2)) gNext)
  (gSeq (gAsg 3 (eOp dAdd (eOp dAdd (eOp dMul (eOp dIx (eVar 0) (eD (.int 1))) (eD (.int 48271))) (eOp dMod (eCB (d1 dInt) (aCons (eVar 2) aNil)) (eD (.int 2147483647)))) (eOp dMul (eD (.int 7919)) (eOp dIx (eVar 0) (eD (.int 2))))))
  (gSet (eVar 0) (eD (.int 1)) (eOp dMod (eCB (d1 dInt) (aCons (eVar 3) aNil)) (eD (.int 2147483647))))))))) gNext)
theorem pl_lt {μ:Mem}{n:Nat}{p:Pl}(h:μ[n]?=some p):n<μ.length:=(List.getElem?_eq_some_iff.mp h).1
theorem asL_loc {μ:Mem}{n:Nat}{xs:List DV}(h:μ[n]?=some (.lst xs)):asL μ (.loc n)=some xs:=by simp[asL,h]
theorem dIx_loc {μ:Mem}{n:Nat}{xs:List DV}{i:Int}{x:DV}(h:μ[n]?=some (.lst xs))(hx:atI xs i=some x):dIx (.loc n) (.dat (.int i)) μ=.ok (ofV x) μ:=by
 simp[dIx,asI,asS,asL,h,hx]
theorem dIx_lst {μ:Mem}{ds:List D}{i:Int}{d:D}(h:atI ds i=some d):dIx (.dat (.lst ds)) (.dat (.int i)) μ=.ok (.dat d) μ:=by
 have:atI (ds.map DV.dat) i=some (.dat d):=by
  unfold atI at h ⊢
  rw[List.length_map]
  cases q:ixN ds.length i with
  | none=>rw[q] at h;cases h
  | some j=>rw[q] at h;simp only[Option.bind_some] at h ⊢;rw[List.getElem?_map,h];rfl
 simp[dIx,asI,asS,asL,this,ofV]
theorem atI_nat {α:Type}{xs:List α}{k:Nat}{x:α}(h:xs[k]?=some x):atI xs (k:Int)=some x:=by
 have:k<xs.length:=(List.getElem?_eq_some_iff.mp h).1
 unfold atI ixN
 rw[if_pos (by omega),if_pos (by omega)]
 simpa using h
theorem ev_var {δ:Env}{i:Nat}{x:DV}{μ:Mem}(h:δ[i]?=some (some x)):eVar i δ μ=.ok (ofV x) μ:=by unfold eVar;rw[h]
theorem fz_var {δ:Env}{i:Nat}{x:DV}{μ:Mem}(h:δ[i]?=some (some x)):frzV (eVar i) δ μ=.ok x μ:=by unfold frzV;rw[ev_var h];simp[Res.bind,frz_ofV]
theorem fz_D {δ:Env}{d:D}{μ:Mem}:frzV (eD d) δ μ=.ok (.dat d) μ:=rfl
theorem fz_of {f:EM}{δ:Env}{μ μ':Mem}{x:DV}(h:f δ μ=.ok (ofV x) μ'):frzV f δ μ=.ok x μ':=by unfold frzV;rw[h];simp[Res.bind,frz_ofV]
theorem fz_ofD {f:EM}{δ:Env}{μ μ':Mem}{x:D}(h:f δ μ=.ok (.dat x) μ'):frzV f δ μ=.ok (.dat x) μ':=fz_of (x:=.dat x) h
theorem ev_op {g:DV→DV→Mem→Res R}{f h:EM}{δ:Env}{μ μ1 μ2:Mem}{x y:DV}{r:Res R}(h1:frzV f δ μ=.ok x μ1)(h2:frzV h δ μ1=.ok y μ2)(h3:g x y μ2=r):eOp g f h δ μ=r:=by unfold eOp;rw[h1];simp only[Res.bind];rw[h2];exact h3
theorem ev_cb1 {g:List DV→Mem→Res R}{f:EM}{δ:Env}{μ μ1:Mem}{x:DV}{r:Res R}(h1:frzV f δ μ=.ok x μ1)(h2:g [x] μ1=r):eCB g (aCons f aNil) δ μ=r:=by unfold eCB aCons aNil;rw[h1];simp only[Res.bind];exact h2
theorem ev_cb2 {g:List DV→Mem→Res R}{f h:EM}{δ:Env}{μ μ1 μ2:Mem}{x y:DV}{r:Res R}(h1:frzV f δ μ=.ok x μ1)(h2:frzV h δ μ1=.ok y μ2)(h3:g [x,y] μ2=r):eCB g (aCons f (aCons h aNil)) δ μ=r:=by unfold eCB aCons aNil;rw[h1];simp only[Res.bind];rw[h2];exact h3
theorem sq_next {g h:SM}{N:Nat}{δ δ':Env}{μ μ':Mem}{o:Out}(e:g N δ μ=.next δ' μ')(k:h N δ' μ'=o):gSeq g h N δ μ=o:=by unfold gSeq;rw[e];exact k
theorem sq_ret {g h:SM}{N:Nat}{δ:Env}{μ μ':Mem}{r:R}(e:g N δ μ=.ret r μ'):gSeq g h N δ μ=.ret r μ':=by unfold gSeq;rw[e]
theorem tm_of {f:EM}{δ:Env}{μ μ':Mem}{b:Bool}(h:f δ μ=.ok (.dat (.bl b)) μ'):tmB f δ μ=.ok b μ':=by unfold tmB;rw[h];rfl
theorem if_true {ft:TM}{g h:SM}{N:Nat}{δ:Env}{μ μ':Mem}{o:Out}(e:ft δ μ=.ok true μ')(k:g N δ μ'=o):gIf ft g h N δ μ=o:=by unfold gIf;rw[e];exact k
theorem if_false {ft:TM}{g h:SM}{N:Nat}{δ:Env}{μ μ':Mem}{o:Out}(e:ft δ μ=.ok false μ')(k:h N δ μ'=o):gIf ft g h N δ μ=o:=by unfold gIf;rw[e];exact k
theorem asg_ok {f:EM}{i:Nat}{N:Nat}{δ:Env}{μ μ':Mem}{x:DV}(e:frzV f δ μ=.ok x μ'):gAsg i f N δ μ=.next (δ.set i (some x)) μ':=by unfold gAsg;rw[e];rfl
theorem ret_ok {f:EM}{N:Nat}{δ:Env}{μ μ':Mem}{r:R}(e:f δ μ=.ok r μ'):gRet f N δ μ=.ret r μ':=by unfold gRet;rw[e];rfl
theorem drop_ok {f:EM}{N:Nat}{δ:Env}{μ μ':Mem}{r:R}(e:f δ μ=.ok r μ'):gDrop f N δ μ=.next δ μ':=by unfold gDrop;rw[e];rfl
theorem set_lp {μ:Mem}{n:Nat}{xs:List DV}{k:Int}{j:Nat}{y:DV}(h:μ[n]?=some (.lst xs))(hk:ixN xs.length k=some j)(hb:belowB n y=true):setPl μ (.loc n) (.dat (.int k)) y=some (μ.set n (.lst (xs.set j y))):=by
 simp[setPl,atPl,h,asI,hk,hb]
theorem set_at {μ:Mem}{n:Nat}{p q:Pl}(h:μ[n]?=some p):(μ.set n q)[n]?=some q:=by rw[List.getElem?_set_self (pl_lt h)]
theorem mul_ok {i j:Int}{μ:Mem}(h:cMul i j=true):dMul (.dat (.int i)) (.dat (.int j)) μ=.ok (.dat (.int (i*j))) μ:=by simp[d2I,asI,h]
theorem mod_ok {i j:Int}{μ:Mem}(h:0<j):dMod (.dat (.int i)) (.dat (.int j)) μ=.ok (.dat (.int (i % j))) μ:=by simp[d2I,asI,h]
theorem div_ok {i j:Int}{μ:Mem}(h:0<j)(h':j<1073741824):dDiv (.dat (.int i)) (.dat (.int j)) μ=.ok (.dat (.int (i / j))) μ:=by simp[d2I,asI,h,h']
theorem add_ok {i j:Int}{μ:Mem}:dAdd (.dat (.int i)) (.dat (.int j)) μ=.ok (.dat (.int (i+j))) μ:=by simp[dAdd,asI]
theorem lt_ok {i j:Int}{μ:Mem}:dLt (.dat (.int i)) (.dat (.int j)) μ=.ok (.dat (.bl (decide (i<j)))) μ:=by simp[d2I,asI]
theorem ge_ok {i j:Int}{μ:Mem}:dGe (.dat (.int i)) (.dat (.int j)) μ=.ok (.dat (.bl (decide (j≤i)))) μ:=by simp[d2I,asI]
theorem gt_ok {i j:Int}{μ:Mem}:dGt (.dat (.int i)) (.dat (.int j)) μ=.ok (.dat (.bl (decide (j<i)))) μ:=by simp[d2I,asI]
theorem int_ok {i:Int}{μ:Mem}:d1 dInt [.dat (.int i)] μ=.ok (.dat (.int i)) μ:=rfl
theorem cMul_r {i j:Int}(h:-2^64<j∧j<2^64):cMul i j=true:=by unfold cMul;rw[decide_eq_true (p:=_∧_) h];simp
theorem cMul_l {i j:Int}(h:-2^64<i∧i<2^64):cMul i j=true:=by unfold cMul;rw[decide_eq_true (p:=_∧_) h];simp
theorem ev_int {f:EM}{δ:Env}{μ μ1:Mem}{i:Int}(h:frzV f δ μ=.ok (.dat (.int i)) μ1):frzV (eCB (d1 dInt) (aCons f aNil)) δ μ=.ok (.dat (.int i)) μ1:=fz_ofD (ev_cb1 h int_ok)
theorem ixN_nat {n k:Nat}(h:k<n):ixN n (k:Int)=some k:=by unfold ixN;rw[if_pos (by omega),if_pos (by omega)];simp
theorem bag_at {μ:Mem}{n:Nat}{xs:List DV}{d:D}{δ:Env}{i:Int}(k:Nat)(h:μ[n]?=some (.lst xs))(hd:δ[0]?=some (some (.loc n)))(hk:xs[k]?=some (.dat d))(hi:i=(k:Int):=by rfl):frzV (eOp dIx (eVar 0) (eD (.int i))) δ μ=.ok (.dat d) μ:=by
 subst hi;exact fz_ofD (ev_op (fz_var hd) fz_D (dIx_loc h (atI_nat hk)))
theorem gset_ok {fe:EM}{δ:Env}{μ μ1:Mem}{n N:Nat}{xs:List DV}{y:D}{i:Int}(k:Nat)(e:frzV fe δ μ=.ok (.dat y) μ1)(h:μ1[n]?=some (.lst xs))(hd:δ[0]?=some (some (.loc n)))(hk:k<xs.length)(hi:i=(k:Int):=by rfl):gSet (eVar 0) (eD (.int i)) fe N δ μ=.next δ (μ1.set n (.lst (xs.set k (.dat y)))):=by
 subst hi
 unfold gSet
 rw[e];simp only[Res.bind];rw[fz_var hd];simp only[Res.bind];rw[fz_D];simp only[]
 rw[set_lp (j:=k) h (ixN_nat hk) rfl];rfl
theorem faug_ok {δ:Env}{μ:Mem}{n N:Nat}{xs:List DV}{i j ki:Int}(k:Nat)(h:μ[n]?=some (.lst xs))(hd:δ[0]?=some (some (.loc n)))(hk:xs[k]?=some (.dat (.int i)))(hk3:k<2^63)(hi:ki=(k:Int):=by rfl):gAugS (fun i j=>i+j) (eVar 0) (eD (.int ki)) (eD (.int j)) N δ μ=.next δ (μ.set n (.lst (xs.set k (.dat (.int (i+j)))))):=by
 subst hi
 have hl:k<xs.length:=(List.getElem?_eq_some_iff.mp hk).1
 have g:getPl μ (.loc n) (.dat (.int k))=some i:=by
  have:(0:Int)≤(k:Int)∧(k:Int)<2^63:=⟨by omega,by exact_mod_cast hk3⟩
  simp[getPl,asL,h,asI,this,hk];omega
 unfold gAugS
 rw[fz_var hd];simp only[Res.bind];rw[fz_D];simp only[];rw[g];simp only[];rw[fz_D];simp only[asI]
 rw[set_lp (j:=k) h (ixN_nat hl) rfl];rfl
theorem fill_spec {B:Bg}(hB:B.ok){μ:Mem}{n N:Nat}{m:DV}(h:μ[n]?=some B.pl):∃ y z,gFill N [some (.loc n),some m,none,none,none,none,none] μ=.next [some (.loc n),some m,y,z,none,none,none] (μ.set n B.fill.pl):=by
 have e0:eOp dEq (eOp dIx (eVar 0) (eD (.int 0))) (eD (.int 0)) [some (.loc n),some m,none,none,none,none,none] μ=.ok (.dat (.bl ((B.a==0)==true))) μ:=ev_op (bag_at 0 h rfl rfl) fz_D (dEqB_int _ _ _ _)
 unfold gFill
 by_cases ha:B.a=0
 ·have e1:((B.a==0)==true)=true:=by simp[ha]
  rw[e1] at e0
  have e2:gIf (tmB (eOp dLt (eOp dIx (eVar 0) (eD (.int 2))) (eCB (d1 dLen) (aCons (eOp dIx (eVar 0) (eD (.int 3))) aNil)))) (gAsg 2 (eOp dIx (eOp dIx (eVar 0) (eD (.int 3))) (eOp dIx (eVar 0) (eD (.int 2))))) gNext N [some (.loc n),some m,some (.dat (.int 0)),none,none,none,none] μ =
    .next [some (.loc n),some m,some (.dat (.int B.cell)),none,none,none,none] μ:=by
   have l:eCB (d1 dLen) (aCons (eOp dIx (eVar 0) (eD (.int 3))) aNil) [some (.loc n),some m,some (.dat (.int 0)),none,none,none,none] μ=.ok (.dat (.int B.cs.length)) μ :=
    ev_cb1 (bag_at 3 h rfl rfl) (by simp[d1,dLen,asS,asL])
   have t:eOp dLt (eOp dIx (eVar 0) (eD (.int 2))) (eCB (d1 dLen) (aCons (eOp dIx (eVar 0) (eD (.int 3))) aNil)) [some (.loc n),some m,some (.dat (.int 0)),none,none,none,none] μ=.ok (.dat (.bl (decide (B.c<B.cs.length)))) μ :=
    ev_op (bag_at 2 h rfl rfl) (fz_ofD l) lt_ok
   by_cases c:B.c<B.cs.length
   ·rw[decide_eq_true c] at t
    have hc:=hB.c
    have hl:B.c.toNat<B.cs.length:=by omega
    have g:B.cs[B.c.toNat]?=some B.cell:=by
     unfold Bg.cell;rw[if_pos c,List.getD_eq_getElem?_getD,List.getElem?_eq_getElem hl];rfl
    have w:dIx (.dat (.lst (B.cs.map D.int))) (.dat (.int B.c)) μ=.ok (.dat (.int B.cell)) μ:=by
     have:B.c=((B.c.toNat:Nat):Int):=by omega
     rw[this]
     exact dIx_lst (atI_nat (by rw[List.getElem?_map,g];rfl))
    exact if_true (tm_of t) (asg_ok (fz_ofD (ev_op (bag_at 3 h rfl rfl) (bag_at 2 h rfl rfl) w)))
   ·rw[decide_eq_false c] at t
    have:B.cell=0:=by unfold Bg.cell;rw[if_neg c]
    rw[this]
    exact if_false (tm_of t) rfl
  have h2:=set_at (q:=.lst [.dat (.int B.a),.dat (.int B.b),.dat (.int (B.c+1)),.dat (.lst (B.cs.map D.int))]) h
  have e3:gIf (tmB (eOp dGe (eVar 2) (eD (.int 1000000000000000000)))) (gSet (eVar 0) (eD (.int 0)) (eVar 2)) gNext N [some (.loc n),some m,some (.dat (.int B.cell)),none,none,none,none] (μ.set n (.lst [.dat (.int B.a),.dat (.int B.b),.dat (.int (B.c+1)),.dat (.lst (B.cs.map D.int))])) =
    .next [some (.loc n),some m,some (.dat (.int B.cell)),none,none,none,none] (μ.set n (.lst [.dat (.int (if 1000000000000000000≤B.cell then B.cell else 0)),.dat (.int B.b),.dat (.int (B.c+1)),.dat (.lst (B.cs.map D.int))])):=by
   have t:eOp dGe (eVar 2) (eD (.int 1000000000000000000)) [some (.loc n),some m,some (.dat (.int B.cell)),none,none,none,none] (μ.set n (.lst [.dat (.int B.a),.dat (.int B.b),.dat (.int (B.c+1)),.dat (.lst (B.cs.map D.int))]))=.ok (.dat (.bl (decide (1000000000000000000≤B.cell)))) (μ.set n (.lst [.dat (.int B.a),.dat (.int B.b),.dat (.int (B.c+1)),.dat (.lst (B.cs.map D.int))])) :=
    ev_op (fz_var (i:=2) rfl) fz_D ge_ok
   by_cases c:1000000000000000000≤B.cell
   ·rw[decide_eq_true c] at t
    rw[if_pos c]
    refine if_true (tm_of t) ((gset_ok 0 (fz_var (i:=2) (x:=.dat (.int B.cell)) rfl) h2 rfl (by simp)).trans ?_)
    rw[List.set_set];rfl
   ·rw[decide_eq_false c] at t
    rw[if_neg c]
    rw[ha] at t ⊢
    exact if_false (tm_of t) rfl
  have h3:=set_at (q:=.lst [.dat (.int (if 1000000000000000000≤B.cell then B.cell else 0)),.dat (.int B.b),.dat (.int (B.c+1)),.dat (.lst (B.cs.map D.int))]) h
  refine⟨some (.dat (.int B.cell)),some (.dat (.int (B.b*48271+B.cell % 2147483647+7919*(B.c+1)))),?_⟩
  refine if_true (tm_of e0) (sq_next (asg_ok fz_D) (sq_next e2 (sq_next (faug_ok 2 h rfl rfl (by decide)) (sq_next e3 ?_))))
  have fe:B.fill.pl=.lst [.dat (.int (if 1000000000000000000≤B.cell then B.cell else 0)),.dat (.int ((B.b*48271+B.cell % 2147483647+7919*(B.c+1)) % 2147483647)),.dat (.int (B.c+1)),.dat (.lst (B.cs.map D.int))]:=by
   unfold Bg.fill;rw[if_pos ha];rfl
  rw[fe]
  generalize hz:μ.set n (.lst [.dat (.int (if 1000000000000000000≤B.cell then B.cell else 0)),.dat (.int B.b),.dat (.int (B.c+1)),.dat (.lst (B.cs.map D.int))])=μ3 at h3
  refine sq_next (asg_ok (x:=.dat (.int (B.b*48271+B.cell % 2147483647+7919*(B.c+1)))) (fz_ofD (ev_op (fz_ofD (ev_op (fz_ofD (ev_op (bag_at 1 h3 rfl rfl) fz_D (mul_ok (cMul_r (by decide)))))
   (fz_ofD (ev_op (ev_int (fz_var (i:=2) (x:=.dat (.int B.cell)) rfl)) fz_D (mod_ok (by decide)))) add_ok)) (fz_ofD (ev_op fz_D (bag_at 2 h3 rfl rfl) (mul_ok (cMul_l (by decide))))) add_ok))) ?_
  refine(gset_ok 1 (fz_ofD (ev_op (ev_int (fz_var (i:=3) (x:=.dat (.int (B.b*48271+B.cell % 2147483647+7919*(B.c+1)))) rfl)) fz_D (mod_ok (by decide)))) h3 rfl (by simp)).trans ?_
  rw[←hz,List.set_set];rfl
 ·have e1:((B.a==0)==true)=false:=by simp[ha]
  rw[e1] at e0
  refine⟨none,none,if_false (tm_of e0) ?_⟩
  unfold Bg.fill;rw[if_neg ha]
  show Out.next _ μ=_
  rw[show μ.set n B.pl=μ from by
   apply List.ext_getElem?
   intro i
   by_cases c:n=i
   ·subst c;rw[set_at h,h]
   ·rw[List.getElem?_set_ne c]]
theorem take_len {μ:Mem}{n:Nat}{p:Pl}:(μ.set n p).take μ.length=μ.set n p:=List.take_of_length_le (by rw[List.length_set];exact Nat.le_refl _)
theorem call_ret {g:SM}{k m:Nat}{xs:List DV}{μ μ':Mem}{r:R}{o:Res R}(hk:xs.length=k)(h:g μ.length (xs.map some++List.replicate m none) μ=.ret r μ')(hc:closeR μ.length r μ'=o):callD g k m xs μ=o:=by
 unfold callD;rw[if_pos hk];unfold callF;rw[h];exact hc
theorem take_spec {B:Bg}(hB:B.ok){μ:Mem}{n:Nat}{m:Int}(h:μ[n]?=some B.pl)(hm:0<m)(hm':m<1073741824) :
  callD gTake 2 5 [.loc n,.dat (.int m)] μ=.ok (.dat (.int (takeB B m).1)) (μ.set n (takeB B m).2.pl):=by
 obtain⟨y,z,hf⟩:=fill_spec hB (N:=μ.length) (m:=.dat (.int m)) h
 have h1:=set_at (q:=B.fill.pl) h
 have f:=fill_ok hB
 have key:gTake μ.length [some (.loc n),some (.dat (.int m)),none,none,none,none,none] μ=.ret (.dat (.int (takeB B m).1)) (μ.set n (takeB B m).2.pl):=by
  refine sq_next hf ?_
  have t:eOp dGt (eOp dIx (eVar 0) (eD (.int 0))) (eD (.int 0)) [some (.loc n),some (.dat (.int m)),y,z,none,none,none] (μ.set n B.fill.pl)=.ok (.dat (.bl (decide (0<B.fill.a)))) (μ.set n B.fill.pl) :=
   ev_op (bag_at 0 h1 rfl rfl) fz_D gt_ok
  by_cases c:0<B.fill.a
  ·rw[decide_eq_true c] at t
   have tk:takeB B m=(B.fill.a % m,{ B.fill with a:=B.fill.a / m }):=by unfold takeB;rw[if_pos c]
   rw[tk]
   refine sq_ret (if_true (tm_of t) (sq_next (asg_ok (fz_ofD (ev_op (ev_int (bag_at 0 h1 rfl rfl)) (fz_var (i:=1) (x:=.dat (.int m)) rfl) (mod_ok hm))))
    (sq_next (gset_ok 0 (fz_ofD (ev_op (ev_int (bag_at 0 h1 rfl rfl)) (fz_var (i:=1) (x:=.dat (.int m)) rfl) (div_ok hm hm'))) h1 rfl (by simp[Bg.pl]))
     ((ret_ok (ev_var (i:=4) (x:=.dat (.int (B.fill.a % m))) rfl)).trans ?_))))
   rw[List.set_set];rfl
  ·rw[decide_eq_false c] at t
   have tk:takeB B m=(B.fill.low m,B.fill):=by unfold takeB;rw[if_neg c]
   rw[tk]
   refine sq_next (if_false (tm_of t) rfl) ?_
   have hb:=f.b
   have hb':=f.b'
   have q1:0≤(B.fill.b+1)*39373 % 1000000007∧(B.fill.b+1)*39373 % 1000000007<1000000007:=by omega
   refine sq_next (asg_ok (fz_ofD (ev_op (ev_int (fz_ofD (ev_op (fz_ofD (ev_op (bag_at 1 h1 rfl rfl) fz_D add_ok)) fz_D (mul_ok (cMul_r (by decide)))))) fz_D (mod_ok (by decide))))) ?_
   unfold Bg.low
   generalize (B.fill.b+1)*39373 % 1000000007=e at q1
   refine sq_next (asg_ok (fz_ofD (ev_op (ev_int (fz_ofD (ev_op (fz_ofD (ev_op (ev_int (fz_ofD (ev_op (fz_var (i:=5) (x:=.dat (.int e)) rfl) (fz_var (i:=5) (x:=.dat (.int e)) rfl) (mul_ok (cMul_r (by omega)))))) fz_D (mod_ok (by decide)))) fz_D (mul_ok (cMul_r (by decide)))))) fz_D (mod_ok (by decide))))) ?_
   exact ret_ok (ev_op (ev_int (fz_ofD (ev_op (fz_var (i:=6) (x:=.dat (.int (e*e % 998244353*30011 % 998244353))) rfl) fz_D (div_ok (by decide) (by decide))))) (fz_var (i:=1) (x:=.dat (.int m)) rfl) (mod_ok hm))
 refine call_ret rfl key ?_
 show Res.ok _ (List.take _ _)=_
 rw[take_len]
structure Fit (k w:Nat)(p:PyData):Prop where
 lay:p.canLay0=true
 dep:p.depth≤k
 wt:p.weight≤w
 sh:p.showable=true
 is:p.intsShort 13=true
theorem Fit.mono {k k' w w':Nat}{p:PyData}(h:Fit k w p)(hk:k≤k')(hw:w≤w'):Fit k' w' p:=⟨h.lay,Nat.le_trans h.dep hk,Nat.le_trans h.wt hw,h.sh,h.is⟩
theorem fitAll {k w:Nat}:∀ (ps:List PyData),(∀ p∈ps,Fit k w p)→PyData.canLayAll0 ps=true∧PyData.depthAll ps≤k∧PyData.weightAll ps≤ps.length*(w+1)∧PyData.showableAll ps=true∧PyData.intsShortAll 13 ps=true
 | [],_=>⟨rfl,Nat.zero_le _,Nat.zero_le _,rfl,rfl⟩
 | p::ps,h=>by
  obtain⟨a,b,c,d,e⟩:=fitAll ps fun q hq=>h q (List.mem_cons_of_mem _ hq)
  have f:=h p List.mem_cons_self
  have g1:=f.dep
  have g2:=f.wt
  refine⟨by simp[PyData.canLayAll0,a,f.lay],by simp only[PyData.depthAll];omega,?_,by simp[PyData.showableAll,d,f.sh],by simp[PyData.intsShortAll,e,f.is]⟩
  simp only[PyData.weightAll,List.length_cons,Nat.succ_mul];omega
theorem fit_list {k w n:Nat}{ps:List PyData}(h:∀ p∈ps,Fit k w p)(hn:ps.length≤n):Fit (k+1) (n*(w+1)) (.list ps):=by
 obtain⟨a,b,c,d,e⟩:=fitAll ps h
 exact⟨a,by simp only[PyData.depth];omega,by simp only[PyData.weight];exact Nat.le_trans c (Nat.mul_le_mul_right _ hn),d,e⟩
theorem fit_tuple {k w n:Nat}{ps:List PyData}(h:∀ p∈ps,Fit k w p)(hn:ps.length≤n):Fit (k+1) (n*(w+1)) (.tuple ps):=by
 obtain⟨a,b,c,d,e⟩:=fitAll ps h
 exact⟨a,by simp only[PyData.depth];omega,by simp only[PyData.weight];exact Nat.le_trans c (Nat.mul_le_mul_right _ hn),d,e⟩
theorem fit_bool (b:Bool):Fit 0 0 (.bool b):=⟨rfl,Nat.zero_le _,Nat.zero_le _,rfl,rfl⟩
theorem fit_none:Fit 0 0 .none:=⟨rfl,Nat.zero_le _,Nat.zero_le _,rfl,rfl⟩
theorem Fit.shaped {k w:Nat}{p:PyData}(h:Fit k w p)(hk:k≤64):SeqAt.shaped p=true:=by
 unfold SeqAt.shaped;rw[h.lay,decide_eq_true (Nat.le_trans h.dep hk)];rfl
theorem Fit.shown {k w:Nat}{p:PyData}(h:Fit k w p)(hk:k≤64)(hw:w≤2^20):p.shown.length≤sizeLine :=
 PyData.shown_fits_of_layable0 (B:=13) (by decide) (by decide) (by unfold PyData.layable0;rw[h.lay,decide_eq_true (Nat.le_trans h.dep hk),decide_eq_true (Nat.le_trans h.wt hw)];rfl) h.is
theorem eq_anyB {μ:Mem}{x y:DV}{p q:PyData}{k w k' w':Nat}(b:Bool)(hx:peekPy μ x=some p)(hy:peekPy μ y=some q)(h:Fit k w p)(h':Fit k' w' q)(hk:k≤64)(hk':k'≤64):dEqB b x y μ=.ok (.dat (.bl (PyData.eqv p q==b))) μ:=by
 unfold dEqB;rw[hx];simp only;rw[hy];simp only;rw[if_pos ⟨h.shaped hk,h'.shaped hk'⟩]
theorem str_beq (s t:Str):(s==t)=decide (s=t):=by
 by_cases c:s=t
 ·subst c;simp
 ·rw[decide_eq_false c];exact beq_false_of_ne c
theorem asStr_dat {x:DV}{s:Str}(h:asStr x=some s):x=.dat (.str s):=by
 unfold asStr at h;split at h <;> cases h;rfl
theorem eq_str {b:Bool}{s t:Str}{μ:Mem}:dEqS b (.dat (.str s)) (.dat (.str t)) μ=.ok (.dat (.bl (decide (s=t)==b))) μ:=rfl
theorem eq_any {μ:Mem}{x y:DV}{p q:PyData}{k w k' w':Nat}(b:Bool)(hx:peekPy μ x=some p)(hy:peekPy μ y=some q)(h:Fit k w p)(h':Fit k' w' q)(hk:k≤64)(hk':k'≤64):dEqS b x y μ=.ok (.dat (.bl (PyData.eqv p q==b))) μ:=by
 have e:=eq_anyB b hx hy h h' hk hk'
 unfold dEqS
 cases e1:asStr x with
 | none=>exact e
 | some s =>
  cases e2:asStr y with
  | none=>exact e
  | some t =>
   rw[asStr_dat e1] at hx
   rw[asStr_dat e2] at hy
   have hx':some (PyData.str s)=some p:=by rw[←hx];unfold peekPy peek;cases s;rfl
   have hy':some (PyData.str t)=some q:=by rw[←hy];unfold peekPy peek;cases t;rfl
   cases hx';cases hy'
   simp only[PyData.eqv,str_beq]
theorem peekL_dat {f:DV→Option D}(hf:∀ d,f (.dat d)=some d):∀ ds:List D,peekL f (ds.map DV.dat)=some ds
 | []=>rfl
 | d::ds=>by simp[peekL,hf,peekL_dat hf ds]
theorem peekK_dat (k:Nat)(μ:Mem)(d:D):peekK k μ (.dat d)=some d:=by cases k <;> rfl
theorem peekK_loc {k n:Nat}{μ:Mem}{ds:List D}(h:μ[n]?=some (.lst (ds.map DV.dat))):peekK (k+1) μ (.loc n)=some (.lst ds):=by
 unfold peekK;rw[h];simp only;rw[peekL_dat (peekK_dat k μ)];rfl
theorem peek_loc {n:Nat}{μ:Mem}{ds:List D}(h:μ[n]?=some (.lst (ds.map DV.dat))):peek μ (.loc n)=some (.lst ds):=peekK_loc h
theorem peekPy_loc {n:Nat}{μ:Mem}{ds:List D}{ps:List PyData}(h:μ[n]?=some (.lst (ds.map DV.dat)))(hp:toPyL ds=some ps):peekPy μ (.loc n)=some (.list ps):=by
 unfold peekPy;rw[peek_loc h];simp[toPy,hp]
theorem peekPy_dat {μ:Mem}{d:D}{p:PyData}(h:toPy d=some p):peekPy μ (.dat d)=some p:=by unfold peekPy peek;rw[peekK_dat];exact h
theorem ev_bm1 {c:DV→Mem→Bool}{g:DV→List DV→Mem→Res R}{f h:EM}{δ:Env}{μ μ1 μ2:Mem}{x y:DV}{r:Res R}(h1:frzV f δ μ=.ok x μ1)(hc:c x μ1=true)(h2:frzV h δ μ1=.ok y μ2)(h3:g x [y] μ2=r):eBM c g f (aCons h aNil) δ μ=r:=by
 unfold eBM;rw[h1];simp only[Res.bind];rw[if_pos hc];unfold aCons aNil;rw[h2];simp only[Res.bind];exact h3
theorem tyL_loc {μ:Mem}{n:Nat}{xs:List DV}(h:μ[n]?=some (.lst xs)):tyL (.loc n) μ=true:=by unfold tyL;rw[asL_loc h];rfl
theorem pop_ok {μ:Mem}{n k:Nat}{ys:List DV}{y:DV}(h:μ[n]?=some (.lst ys))(hk:ys[k]?=some y)(hb:k<2^63):dPop (.loc n) [.dat (.int k)] μ=.ok (ofV y) (μ.set n (.lst (ys.eraseIdx k))):=by
 have hl:k<ys.length:=(List.getElem?_eq_some_iff.mp hk).1
 have e:seqIndex? (k:Int) ys.length=some k:=by
  have:¬((k:Int)<0):=by omega
  simp[seqIndex?,this,hl]
 have c:-2^63≤(k:Int)∧(k:Int)<2^63:=⟨by omega,by exact_mod_cast hb⟩
 simp only[dPop,atPl,h,asI]
 rw[if_pos c]
 simp only[e,hk]
theorem app_ok {μ:Mem}{n:Nat}{ys:List DV}{y:DV}(h:μ[n]?=some (.lst ys))(hl:ys.length<sizeLine)(hb:belowB n y=true):dAppend (.loc n) [y] μ=.ok (.dat .non) (μ.set n (.lst (ys++[y]))):=by
 simp only[dAppend,atPl,h];rw[if_pos ⟨hl,hb⟩]
theorem clear_ok {μ:Mem}{n:Nat}{ys:List DV}(h:μ[n]?=some (.lst ys)):dClear (.loc n) [] μ=.ok (.dat .non) (μ.set n (.lst [])):=by
 simp only[dClear,atPl,h]
theorem len_loc {μ:Mem}{n:Nat}{ys:List DV}(h:μ[n]?=some (.lst ys)):d1 dLen [.loc n] μ=.ok (.dat (.int ys.length)) μ:=by simp[d1,dLen,asS,asL,h]
theorem len_lst {μ:Mem}{ds:List D}:d1 dLen [.dat (.lst ds)] μ=.ok (.dat (.int ds.length)) μ:=by simp[d1,dLen,asS,asL]
def gMixed:SM :=
  (gSeq (gPar2 2 3 (eCB (d1 dList) (aCons (eVar 1) aNil)) (eLst aNil))
  (gSeq (gWh 100000 [true,true,true,true] (tmB (eOp dNe (eVar 2) (eLst aNil))) (gDrop (eBM tyL dAppend (eVar 3) (aCons (eBM tyL dPop (eVar 2) (aCons (eCB (callD gTake 2 5) (aCons (eVar 0) (aCons (eCB (d1 dLen) (aCons (eVar 2) aNil)) aNil))) aNil)) aNil))))
  (gRet (eVar 3))))
theorem map_erase {α β:Type}(f:α→β):∀ (l:List α) (k:Nat),(l.map f).eraseIdx k=(l.eraseIdx k).map f
 | [],k=>by simp
 | a::l,0=>by simp
 | a::l,k+1=>by simp[map_erase f l k]
theorem ap0 {μ:Mem}{a b:Pl}:(μ++[a,b])[μ.length]?=some a:=by simp
theorem ap1 {μ:Mem}{a b:Pl}:(μ++[a,b])[μ.length+1]?=some b:=by simp
theorem st0 {μ:Mem}{a b c:Pl}:(μ++[a,b]).set μ.length c=μ++[c,b]:=by simp[List.set_append]
theorem st1 {μ:Mem}{a b c:Pl}:(μ++[a,b]).set (μ.length+1) c=μ++[a,c]:=by simp[List.set_append]
theorem apn {μ X:Mem}{n:Nat}{p:Pl}(h:μ[n]?=some p):(μ++X)[n]?=some p:=by rw[List.getElem?_append_left (pl_lt h)];exact h
theorem stn {μ X:Mem}{n:Nat}{p q:Pl}(h:μ[n]?=some p):(μ++X).set n q=μ.set n q++X:=by rw[List.set_append_left _ _ (pl_lt h)]
theorem toPyL_fit {k w:Nat}:∀ (ds:List D),(∀ d∈ds,∃ p,toPy d=some p∧Fit k w p)→∃ ps,toPyL ds=some ps∧ps.length=ds.length∧∀ p∈ps,Fit k w p
 | [],_=>⟨[],rfl,rfl,fun _ h=>by cases h⟩
 | d::ds,h=>by
  obtain⟨p,h1,h2⟩:=h d List.mem_cons_self
  obtain⟨ps,h3,h4,h5⟩:=toPyL_fit ds fun e he=>h e (List.mem_cons_of_mem _ he)
  refine⟨p::ps,by simp[toPyL,h1,h3],by simp[h4],fun q hq=>?_⟩
  rcases List.mem_cons.mp hq with rfl|hq
  ·exact h2
  ·exact h5 q hq
theorem ne_nil {μ:Mem}{n k w:Nat}{ds:List D}(hk:k<64)(h:μ[n]?=some (.lst (ds.map DV.dat)))(hd:∀ d∈ds,∃ p,toPy d=some p∧Fit k w p):dNe (.loc n) (.dat (.lst [])) μ=.ok (.dat (.bl (!ds.isEmpty))) μ:=by
 obtain⟨ps,h1,h2,h3⟩:=toPyL_fit ds hd
 have f:=fit_list h3 (Nat.le_refl _)
 have f0:Fit 1 0 (.list []):=(fit_list (k:=0) (w:=0) (n:=0) (ps:=[]) (fun _ h=>by cases h) (Nat.le_refl _)).mono (Nat.le_refl _) (Nat.le_refl _)
 refine(eq_any false (peekPy_loc h h1) (peekPy_dat (d:=.lst []) (p:=.list []) rfl) f f0 (by omega) (by omega)).trans ?_
 cases ds with
 | nil=>cases ps with
  | nil=>rfl
  | cons _ _=>cases h2
 | cons d ds=>cases ps with
  | nil=>cases h2
  | cons _ _=>rfl
theorem mixed_turn {n:Nat}{th:DV}{left found:List D}{B:Bg}{μ:Mem}{N:Nat}(hB:B.ok)(h:μ[n]?=some B.pl)(hl:0<left.length)(hs:left.length+found.length<16777216) :
  ∃ (k:Nat) (d:D),left[k]?=some d∧gDrop (eBM tyL dAppend (eVar 3) (aCons (eBM tyL dPop (eVar 2) (aCons (eCB (callD gTake 2 5) (aCons (eVar 0) (aCons (eCB (d1 dLen) (aCons (eVar 2) aNil)) aNil))) aNil)) aNil))
    N [some (.loc n),some th,some (.loc μ.length),some (.loc (μ.length+1))] (μ++[.lst (left.map DV.dat),.lst (found.map DV.dat)]) =
   .next [some (.loc n),some th,some (.loc μ.length),some (.loc (μ.length+1))] (μ.set n (takeB B left.length).2.pl++[.lst ((left.eraseIdx k).map DV.dat),.lst ((found++[d]).map DV.dat)]):=by
 obtain⟨o1,o2,o3⟩:=takeB_ok hB (m:=(left.length:Int)) (by omega)
 have e1:eCB (callD gTake 2 5) (aCons (eVar 0) (aCons (eCB (d1 dLen) (aCons (eVar 2) aNil)) aNil)) [some (.loc n),some th,some (.loc μ.length),some (.loc (μ.length+1))] (μ++[.lst (left.map DV.dat),.lst (found.map DV.dat)]) =
   .ok (.dat (.int (takeB B left.length).1)) (μ.set n (takeB B left.length).2.pl++[.lst (left.map DV.dat),.lst (found.map DV.dat)]):=by
  have l:eCB (d1 dLen) (aCons (eVar 2) aNil) [some (.loc n),some th,some (.loc μ.length),some (.loc (μ.length+1))] (μ++[.lst (left.map DV.dat),.lst (found.map DV.dat)])=.ok (.dat (.int left.length)) (μ++[.lst (left.map DV.dat),.lst (found.map DV.dat)]):=by
   refine(ev_cb1 (fz_var (i:=2) rfl) (len_loc ap0)).trans ?_;rw[List.length_map]
  refine(ev_cb2 (fz_var (i:=0) rfl) (fz_ofD l) (take_spec hB (apn h) (by omega) (by omega))).trans ?_
  rw[stn h]
 generalize (takeB B left.length).1=t at *
 generalize (takeB B left.length).2=B2 at *
 obtain⟨k,rfl⟩:=Int.eq_ofNat_of_zero_le o2
 have hk:k<left.length:=by omega
 have hk':left[k]?=some (left[k]'hk):=List.getElem?_eq_getElem hk
 generalize left[k]'hk=d at hk'
 refine⟨k,d,hk',?_⟩
 have hL:μ.length=(μ.set n B2.pl).length:=(List.length_set ..).symm
 have e2:eBM tyL dPop (eVar 2) (aCons (eCB (callD gTake 2 5) (aCons (eVar 0) (aCons (eCB (d1 dLen) (aCons (eVar 2) aNil)) aNil))) aNil) [some (.loc n),some th,some (.loc μ.length),some (.loc (μ.length+1))] (μ++[.lst (left.map DV.dat),.lst (found.map DV.dat)]) =
   .ok (ofV (.dat d)) (μ.set n B2.pl++[.lst ((left.eraseIdx k).map DV.dat),.lst (found.map DV.dat)]):=by
  refine(ev_bm1 (fz_var (i:=2) rfl) (tyL_loc ap0) (fz_ofD e1) (pop_ok (k:=k) (y:=.dat d) (ys:=left.map DV.dat) (by rw[hL];exact ap0) (by rw[List.getElem?_map,hk'];rfl) (by omega))).trans ?_
  rw[hL,st0,map_erase]
 refine drop_ok (r:=.dat .non) ((ev_bm1 (fz_var (i:=3) rfl) (tyL_loc ap1) (fz_of e2) (app_ok (ys:=found.map DV.dat) (by rw[hL];exact ap1) (by rw[List.length_map];exact Nat.lt_of_lt_of_le (show found.length<16777216 by omega) (by decide)) rfl)).trans ?_)
 rw[hL,st1,List.map_append];rfl
theorem erase_perm {α:Type}:∀ (l:List α) (k:Nat) (d:α),l[k]?=some d→(d::l.eraseIdx k).Perm l
 | [],k,d,h=>by simp at h
 | a::l,0,d,h=>by simp at h;subst h;exact List.Perm.refl _
 | a::l,k+1,d,h=>by
  have:=erase_perm l k d (by simpa using h)
  exact(List.Perm.swap a d _).trans (List.Perm.cons a this)
theorem mixed_loop {n:Nat}{th:D}{k w:Nat}(hk:k<64):∀ (m:Nat) (left found:List D) (B:Bg) (μ:Mem) (fuel N:Nat),B.ok→μ[n]?=some B.pl→left.length=m→m<fuel→left.length+found.length<16777216 →
  (∀ d∈left,∃ p,toPy d=some p∧Fit k w p) →
  ∃ (ys:List D) (B':Bg),B'.ok∧ys.Perm (found++left) ∧
   whL (μ.length+2) [true,true,true,true] (tmB (eOp dNe (eVar 2) (eLst aNil))) (gDrop (eBM tyL dAppend (eVar 3) (aCons (eBM tyL dPop (eVar 2) (aCons (eCB (callD gTake 2 5) (aCons (eVar 0) (aCons (eCB (d1 dLen) (aCons (eVar 2) aNil)) aNil))) aNil)) aNil)))
    N fuel [some (.loc n),some (.dat th),some (.loc μ.length),some (.loc (μ.length+1))] (μ++[.lst (left.map DV.dat),.lst (found.map DV.dat)]) =
   .next [some (.loc n),some (.dat th),some (.loc μ.length),some (.loc (μ.length+1))] (μ.set n B'.pl++[.lst [],.lst (ys.map DV.dat)]):=by
 intro m
 induction m with
 | zero =>
  intro left found B μ fuel N hB h hm hf hs hd
  cases left with
  | cons _ _=>cases hm
  | nil =>
   cases fuel with
   | zero=>omega
   | succ fuel =>
    refine⟨found,B,hB,by simp,?_⟩
    have t:tmB (eOp dNe (eVar 2) (eLst aNil)) [some (.loc n),some (.dat th),some (.loc μ.length),some (.loc (μ.length+1))] (μ++[.lst (([]:List D).map DV.dat),.lst (found.map DV.dat)])=.ok false (μ++[.lst (([]:List D).map DV.dat),.lst (found.map DV.dat)]) :=
     tm_of (ev_op (fz_var (i:=2) rfl) (show frzV (eLst aNil) _ _=.ok (.dat (.lst [])) _ from rfl) (ne_nil hk (ds:=[]) ap0 hd))
    unfold whL
    rw[t]
    have:μ.set n B.pl=μ:=by
     apply List.ext_getElem?
     intro i
     by_cases c:n=i
     ·subst c;rw[set_at h,h]
     ·rw[List.getElem?_set_ne c]
    rw[this];rfl
 | succ m ih =>
  intro left found B μ fuel N hB h hm hf hs hd
  cases fuel with
  | zero=>omega
  | succ fuel =>
   obtain⟨j,d,hj,e⟩:=mixed_turn (th:=.dat th) (N:=N) (left:=left) (found:=found) hB h (by omega) hs
   obtain⟨o1,o2,o3⟩:=takeB_ok hB (m:=(left.length:Int)) (by omega)
   have hjl:j<left.length:=(List.getElem?_eq_some_iff.mp hj).1
   have hl:(left.eraseIdx j).length=m:=by rw[List.length_eraseIdx,if_pos hjl];omega
   obtain⟨ys,B',oB,pm,eq⟩:=ih (left.eraseIdx j) (found++[d]) (takeB B left.length).2 (μ.set n (takeB B left.length).2.pl) fuel N o1 (set_at h) hl (by omega) (by rw[List.length_append,hl];simp;omega) (fun x hx=>hd x (List.mem_of_mem_eraseIdx hx))
   refine⟨ys,B',oB,pm.trans ?_,?_⟩
   ·rw[List.append_assoc]
    exact List.Perm.append_left found (erase_perm left j d hj)
   ·have t:tmB (eOp dNe (eVar 2) (eLst aNil)) [some (.loc n),some (.dat th),some (.loc μ.length),some (.loc (μ.length+1))] (μ++[.lst (left.map DV.dat),.lst (found.map DV.dat)])=.ok true (μ++[.lst (left.map DV.dat),.lst (found.map DV.dat)]):=by
     refine tm_of ((ev_op (fz_var (i:=2) rfl) (show frzV (eLst aNil) _ _=.ok (.dat (.lst [])) _ from rfl) (ne_nil hk (ds:=left) ap0 hd)).trans ?_)
     cases left with
     | nil=>cases hm
     | cons _ _=>rfl
    unfold whL
    rw[t]
    show turnL _ _ (gDrop _ _ _ _) _=_
    rw[e]
    have hn:=pl_lt h
    have c1:n<μ.length+2:=by omega
    have c2:μ.length<μ.length+2:=by omega
    have c3:μ.length+1<μ.length+2:=by omega
    rw[List.length_set,List.set_set] at eq
    rw[←eq]
    simp only[turnL,cut,cutV,if_pos c1,if_pos c2,if_pos c3,if_true]
    congr 1
    exact List.take_of_length_le (by simp)
theorem mixed_spec {n:Nat}{ds:List D}{k w:Nat}{B:Bg}{μ:Mem}(hk:k<64)(hB:B.ok)(h:μ[n]?=some B.pl)(hs:ds.length<100000)(hd:∀ d∈ds,∃ p,toPy d=some p∧Fit k w p) :
  ∃ (ys:List D) (B':Bg),B'.ok∧ys.Perm ds∧callD gMixed 2 2 [.loc n,.dat (.lst ds)] μ=.ok (.nl (ys.map DV.dat)) (μ.set n B'.pl):=by
 obtain⟨ys,B',oB,pm,eq⟩:=mixed_loop (th:=.lst ds) (n:=n) hk ds.length ds [] B μ 100000 μ.length hB h rfl hs (by simp;omega) hd
 refine⟨ys,B',oB,by simpa using pm,?_⟩
 have hL:μ.length=(μ.set n B'.pl).length:=(List.length_set ..).symm
 have g1:gPar2 2 3 (eCB (d1 dList) (aCons (eVar 1) aNil)) (eLst aNil) μ.length [some (.loc n),some (.dat (.lst ds)),none,none] μ=.next [some (.loc n),some (.dat (.lst ds)),some (.loc μ.length),some (.loc (μ.length+1))] (μ++[.lst (ds.map DV.dat),.lst []]):=by
  have e1:eCB (d1 dList) (aCons (eVar 1) aNil) [some (.loc n),some (.dat (.lst ds)),none,none] μ=.ok (.nl (ds.map DV.dat)) μ:=ev_cb1 (fz_var (i:=1) rfl) (by simp[d1,dList,asS,asL])
  have e2:eLst aNil [some (.loc n),some (.dat (.lst ds)),none,none] (μ++[.lst (ds.map DV.dat)])=.ok (.nl []) (μ++[.lst (ds.map DV.dat)]):=rfl
  unfold gPar2
  rw[e1]
  simp only[lift,bindR,if_pos (Nat.le_refl μ.length)]
  rw[e2]
  simp only[lift,bindR]
  rw[if_pos (by simp)]
  simp
 refine call_ret (r:=.loc (μ.length+1)) rfl (sq_next g1 (sq_next (μ':=μ.set n B'.pl++[.lst [],.lst (ys.map DV.dat)]) (δ':=[some (.loc n),some (.dat (.lst ds)),some (.loc μ.length),some (.loc (μ.length+1))]) ?_ (ret_ok (ev_var (i:=3) (x:=.loc (μ.length+1)) rfl)))) ?_
 ·show whL (μ++_).length _ _ _ _ _ _ _=_
  rw[show(μ++[Pl.lst (ds.map DV.dat),Pl.lst []]).length=μ.length+2 by simp]
  exact eq
 ·unfold closeR
  simp only
  rw[if_neg (by omega)]
  rw[hL,ap1]
  simp only
  have:belowA (μ.set n B'.pl).length (ys.map DV.dat)=true:=by
   unfold belowA;rw[List.all_eq_true];intro x hx
   obtain⟨d,_,rfl⟩:=List.mem_map.mp hx;rfl
  rw[if_pos this,List.take_left]
def gBag:SM:=(gRet (eLst (aCons (eD (.int 0)) (aCons (eD (.int 1234567891)) (aCons (eD (.int 0)) (aCons (eLc (imSeq (eSl (eVar 0) oNone (oSome (eD (.int 63))))) (tgName 1) tmYes (eCB (d1 dAbs) (aCons (eVar 1) aNil)) [1]) aNil))))))
def bag0 (ns:List Int):Bg:=⟨0,1234567891,0,(ns.take 63).map fun i=>if i<0 then -i else i⟩
theorem bag0_ok (ns:List Int):(bag0 ns).ok:=⟨Int.le_refl 0,by show(0:Int)≤1234567891;decide,by show(1234567891:Int)<2147483647;decide,Int.le_refl 0,fun z hz=>by
 obtain⟨i,_,rfl⟩:=List.mem_map.mp hz
 split <;> omega⟩
theorem lc_bag {d0:D}{μ:Mem}:∀ (is:List Int),lcL (tgName 1) tmYes (eCB (d1 dAbs) (aCons (eVar 1) aNil)) [some (.dat d0),none] (is.map D.int) μ=.ok (is.map fun i=>.dat (.int (if i<0 then -i else i))) μ
 | []=>rfl
 | i::is=>by
  have e:frzV (eCB (d1 dAbs) (aCons (eVar 1) aNil)) [some (.dat d0),some (.dat (.int i))] μ=.ok (.dat (.int (if i<0 then -i else i))) μ:=fz_ofD (ev_cb1 (fz_var (i:=1) rfl) rfl)
  have ih:=lc_bag (d0:=d0) (μ:=μ) is
  simp only[List.map_cons,lcL,tgName,tmYes,List.set_cons_succ,List.set_cons_zero,e,ih,Res.bind]
theorem bag_spec {ns:List Int}{μ:Mem}:callD gBag 1 1 [.dat (.fro (ns.map D.int))] μ=.ok (.nl [.dat (.int (bag0 ns).a),.dat (.int (bag0 ns).b),.dat (.int (bag0 ns).c),.dat (.lst ((bag0 ns).cs.map D.int))]) μ:=by
 have e1:eLc (imSeq (eSl (eVar 0) oNone (oSome (eD (.int 63))))) (tgName 1) tmYes (eCB (d1 dAbs) (aCons (eVar 1) aNil)) [1] [some (.dat (.fro (ns.map D.int))),none] μ=.ok (.nl ((bag0 ns).cs.map fun i=>.dat (.int i))) μ:=by
  have s:imSeq (eSl (eVar 0) oNone (oSome (eD (.int 63)))) [some (.dat (.fro (ns.map D.int))),none] μ=.ok ((ns.take 63).map D.int) μ:=by
   have q:eSl (eVar 0) oNone (oSome (eD (.int 63))) [some (.dat (.fro (ns.map D.int))),none] μ=.ok (.nl (((ns.take 63).map D.int).map DV.dat)) μ:=by
    unfold eSl;rw[fz_var (i:=0) (x:=.dat (.fro (ns.map D.int))) rfl]
    simp only[Res.bind,oNone,oSome,fz_D,asI,dSl,asL]
    congr 2
    unfold cutL
    rw[HT.sIx_none,show(some (63:Int))=some ((63:Nat):Int) from rfl,HT.sIx_nat]
    simp[List.map_take]
   unfold imSeq frzV
   rw[q]
   simp only[Res.bind,frz]
   rw[allDat_map]
   rfl
  unfold eLc
  rw[s]
  simp only[Res.bind]
  rw[if_pos (by simp;exact Nat.le_trans (Nat.min_le_left _ _) (by decide))]
  show Res.bind (lcL _ _ _ [some (.dat (.fro (ns.map D.int))),none] _ _) _=_
  rw[lc_bag]
  simp[Res.bind,bag0,Function.comp_def]
 refine call_ret rfl (ret_ok (r:=.nl [.dat (.int (bag0 ns).a),.dat (.int (bag0 ns).b),.dat (.int (bag0 ns).c),.dat (.lst ((bag0 ns).cs.map D.int))]) (μ':=μ) ?_) ?_
 ·have e2:frzV (eLc (imSeq (eSl (eVar 0) oNone (oSome (eD (.int 63))))) (tgName 1) tmYes (eCB (d1 dAbs) (aCons (eVar 1) aNil)) [1]) [some (.dat (.fro (ns.map D.int))),none] μ=.ok (.dat (.lst ((bag0 ns).cs.map D.int))) μ:=by
   unfold frzV;rw[e1];simp only[Res.bind,frz]
   rw[show((bag0 ns).cs.map fun i=>DV.dat (D.int i))=((bag0 ns).cs.map D.int).map DV.dat by simp,allDat_map];rfl
  show eLst _ [some (.dat (.fro (ns.map D.int))),none] μ=_
  generalize (eLc (imSeq (eSl (eVar 0) oNone (oSome (eD (.int 63))))) (tgName 1) tmYes (eCB (d1 dAbs) (aCons (eVar 1) aNil)) [1])=ff at *
  unfold eLst aCons aNil
  simp only[fz_D,Res.bind,e2]
  rw[if_pos (by simp;decide)]
  rfl
 ·unfold closeR
  simp only
  rw[if_pos (show belowA _ _=true from rfl),List.take_length]
theorem sl_lst {ds:List D}{l u:Option Int}{μ:Mem}:dSl (.dat (.lst ds)) l u μ=.ok (.nl ((cutL ds l u).map DV.dat)) μ:=by
 simp only[dSl,asL];congr 2;unfold cutL;simp[List.map_drop,List.map_take]
theorem cut_from {α:Type}(xs:List α)(k:Nat){i:Int}(hi:i=(k:Int):=by rfl):cutL xs (some i) none=xs.drop k:=by
 subst hi
 unfold cutL;rw[HT.sIx_none,HT.sIx_nat]
 by_cases c:k≤xs.length
 ·rw[Nat.min_eq_left c];exact List.take_of_length_le (by simp)
 ·rw[Nat.min_eq_right (by omega),List.drop_of_length_le (Nat.le_refl _),List.drop_of_length_le (by omega)];simp
theorem cut_to {α:Type}(xs:List α)(k:Nat):cutL xs none (some (k:Int))=xs.take k:=by
 unfold cutL;rw[HT.sIx_none,HT.sIx_nat,List.drop_zero,Nat.sub_zero]
 by_cases c:k≤xs.length
 ·rw[Nat.min_eq_left c]
 ·rw[Nat.min_eq_right (by omega),List.take_of_length_le (Nat.le_refl _),List.take_of_length_le (by omega)]
theorem dIx_tup {μ:Mem}{ds:List D}{i:Int}{d:D}(h:atI ds i=some d):dIx (.dat (.tup ds)) (.dat (.int i)) μ=.ok (.dat d) μ:=by
 have:atI (ds.map DV.dat) i=some (.dat d):=by
  unfold atI at h ⊢
  rw[List.length_map]
  cases q:ixN ds.length i with
  | none=>rw[q] at h;cases h
  | some j=>rw[q] at h;simp only[Option.bind_some] at h ⊢;rw[List.getElem?_map,h];rfl
 simp[dIx,asI,asS,asL,asT,this,ofV]
theorem flats_str:∀ ss:List Str,flats (ss.map fun s=>.dat (.str s))=some (ss.map V.str)
 | []=>rfl
 | s::ss=>by simp[flats,flat,flats_str ss]
theorem inV_str (s:Str)(ss:List Str):inV (.str s) (ss.map V.str)=decide (s∈ss):=by
 induction ss with
 | nil=>rfl
 | cons t ss ih =>
  unfold inV at ih ⊢
  rw[List.map_cons,List.any_cons,ih]
  have:eqV (V.str t) (V.str s)=decide (t=s):=by
   show(t==s)=_
   by_cases c:t=s
   ·subst c;simp
   ·rw[decide_eq_false c];exact beq_false_of_ne c
  rw[this]
  by_cases c:t=s
  ·subst c;simp
  ·have c':¬s=t:=fun h=>c h.symm
   simp[c,c']
theorem in_tup {neg:Bool}{s:Str}{ss:List Str}{μ:Mem}:dIn neg (.dat (.str s)) (.dat (.tup (ss.map D.str))) μ=.ok (.dat (.bl (if neg=true then !decide (s∈ss) else decide (s∈ss)))) μ:=by
 have:(ss.map D.str).map DV.dat=ss.map fun s=>.dat (.str s):=by simp
 simp only[dIn,flat,asS,asL,asT,Option.map,this,flats_str,inV_str]
theorem add_lst {a b:List D}{μ:Mem}(h:a.length+b.length≤sizeLine):dAdd (.dat (.lst a)) (.dat (.lst b)) μ=.ok (.nl ((a++b).map DV.dat)) μ:=by
 simp only[dAdd,asI,asStr,asT,asM,List.length_map];rw[if_pos h,List.map_append]
theorem close_dat {d:D}{μ μ':Mem}{N:Nat}(h:μ'.take N=μ):closeR N (.dat d) μ'=.ok (.dat d) μ:=by unfold closeR;simp only;rw[h]
theorem tuple_lst {ds:List D}{μ:Mem}:d1 dTuple [.dat (.lst ds)] μ=.ok (.dat (.tup ds)) μ:=by simp only[d1,dTuple,asL,allDat_map]
section
variable {P:Program}{w:World}{K:PySem.W.Frag}{mg:Str→Option Value}{base:Heap}
theorem fn_okG {x qual:Str}{st:Stmt}{f:Addr}{fd:FuncData}{Nm ps:List Str}{k n m:Nat}{g:SM}(F:Fun K x qual st f fd)(S:FnScope Nm ps (defScope st))(hn:ps.length=n)(hmn:Nm.length=n+m)
  (body:∀ (cdv:Value) (A:Around) (out:List PySem.Env) (s:Shared) (H:Hp) (E:XK),Room k (A.deeper (envOfC qual (defScope st) s.heap.objs.size f cdv))→A.guards=some [] →
   ∃ ts,PSMs (cxOf CX0 P w K mg base Nm qual (defScope st) f cdv A out s H E).nox (fun cls d _ H=>E cls d H) (defBody st) ts g) :
  FnG P w K mg base CX0 (k+1) f fd ps (spF K n (callD g n m)):=by
 obtain⟨oc,od,kV,doc,pm,an,cdv,ct,osl,rfl,lk,hcd⟩:=F.ex
 refine fnG_of lk hcd S (fun vs H Q E h=>by rw[h.1,hn]) fun A out s H vs Q E hr hg hsp=>?_
 obtain⟨ts,b⟩:=body cdv A out s H E hr hg
 refine⟨ts,b.ps.nox,?_⟩
 have e:Nm.length-n=m:=by omega
 exact body_ok (n:=n) b.sd (by omega) (by rw[e];exact sp_callD hsp)
theorem rpl_ints {G:Hp}:∀ ns:List Int,RpL K G (ns.map V.int) (ns.map D.int)
 | []=>.nil
 | i::ns=>.cons (.int i) (rpl_ints ns)
theorem law_sp {H:Hp}{a:Addr}{ns:List Int}{F:List DV→Mem→Res R}(hS:SqL K H a (ns.map V.int)){μ':Mem}(h:F [.dat (.fro (ns.map D.int))] []=.ok (.dat (.bl true)) μ') :
  spF K 1 F [.ref a] H (fun v _=>v=.bl true) (fun _ _ _=>False):=by
 refine⟨rfl,fun _=>none,H,[],[.dat (.fro (ns.map D.int))],⟨Ex.refl _,(fun _ _ _ h=>by cases h),(fun _ _ h=>by cases h),(fun _ _ h=>by cases h),(fun _ _ h=>by cases h),(fun _ _ h=>by simp at h)⟩,.cons (Rp.fro hS (rpl_ints ns)) .nil,?_⟩
 rw[h]
 intro G' H' v t R q
 cases q;rfl
end
theorem takesWF {X:Cx}:Takes X WF:=fun u s' x=>by
 obtain⟨a,B,sI,pins,σ,H,cls,d,e,I,nb,up,sky,na,os,ag,w⟩:=x
 exact False.elim w
theorem passWF {X:Cx}{P:Program}{w:World}(σ:Slots):PassesAt (L2.CX P w) X σ (EW WF σ):=fun _ _ _ _ _ _ h=>by
 obtain⟨a,B,H',cls,d,e1,e2,e3,e4,e5,e6,e7,e8⟩:=h
 exact False.elim e8
def callD0 (g:SM)(n m:Nat):List DV→Mem→Res R:=fun xs μ=>match callD g n m xs μ with
 | .exc _ _=>.bad
 | r=>r
theorem callD0_ar {g:SM}{n m:Nat}(xs:List DV)(μ:Mem)(h:callD0 g n m xs μ≠.bad):xs.length=n:=by
 refine callD_ar (g:=g) (m:=m) xs μ fun e=>h ?_
 unfold callD0;rw[e]
theorem sp_callD0 {K:PySem.W.Frag}{g:SM}{n m:Nat}{vs:List V}{H:Hp}{Q:VK}{E:XK}(h:spF K n (callD0 g n m) vs H Q E):spF K n (callF g m) vs H Q (fun _ _ _=>False):=by
 refine sp_callD ?_
 obtain⟨hl,ρ,G,μ,xs,R,d,hp⟩:=h
 refine⟨hl,ρ,G,μ,xs,R,d,?_⟩
 unfold callD0 at hp
 cases e:callD g n m xs μ with
 | ok r μ'=>rw[e] at hp;exact hp
 | exc x μ'=>rw[e] at hp;exact hp.elim
 | bad=>rw[e] at hp;exact hp
section
variable {P:Program}{w:World}{K:PySem.W.Frag}{mg:Str→Option Value}{base:Heap}
theorem fn_okXB {x qual:Str}{st:Stmt}{f:Addr}{fd:FuncData}{Nm ps:List Str}{k n m:Nat}{g:SM}(F:Fun K x qual st f fd)(S:FnScope Nm ps (defScope st))(hn:ps.length=n)(hmn:Nm.length=n+m)
  (body:∀ (cdv:Value) (A:Around) (out:List PySem.Env) (s:Shared) (H:Hp) (E:XK),Room k (A.deeper (envOfC qual (defScope st) s.heap.objs.size f cdv))→A.guards=some [] →
   ∃ ts,PSMs (cxOf (L2.CX P w) P w K mg base Nm qual (defScope st) f cdv A out s H E) (fun cls d _ H=>E cls d H) (defBody st) ts g) :
  FnG P w K mg base (L2.CX P w) (k+1) f fd ps (spF K n (callD g n m)):=by
 obtain⟨oc,od,kV,doc,pm,an,cdv,ct,osl,rfl,lk,hcd⟩:=F.ex
 refine fnG_of lk hcd S (fun vs H Q E h=>by rw[h.1,hn]) fun A out s H vs Q E hr hg hsp=>?_
 obtain⟨ts,b⟩:=body cdv A out s H E hr hg
 refine⟨ts,b.ps,?_⟩
 have e:Nm.length-n=m:=by omega
 exact body_ok (n:=n) b.sd (by omega) (by rw[e];exact sp_callD hsp)
theorem tk_of {Nm:List Str}{qual:Str}{sc:Scope}{f:Addr}{cdv:Value}{A:Around}{out:List PySem.Env}{s:Shared}{H:Hp}{E:XK} :
  Takes (cxOf (L2.CX P w) P w K mg base Nm qual sc f cdv A out s H E) (fun cls d _ H=>E cls d H):=takes_of rfl rfl rfl rfl
theorem fn_okMX {cn x qual:Str}{st:Stmt}{C f:Addr}{fd:FuncData}{Nm ps:List Str}{k n m:Nat}{g:SM}(F:Fun K x qual st f fd)(S:FnScope Nm ps (defScope st))(hc:ClsAt K cn C)(cl:Cls K C)(hm:Meth K C x f)(hn:ps.length=n)(hmn:Nm.length=n+m)
  (hb:∀ (kV doc pm:Value) (an:Option Addr) (cdv ct:Value) (us:List Value),us.length=ps.length→bindArgs (PySem.W.fnOf x qual (defArgs st) (defBody st) (defScope st) .none kV doc pm an cdv ct) ⟨us,[]⟩=pure (ps.zip us))
  (body:∀ (cdv:Value) (A:Around) (out:List PySem.Env) (s:Shared) (H:Hp) (E:XK),Room k (A.deeper (envOfC qual (defScope st) s.heap.objs.size f cdv))→A.guards=some [] →
   ∃ ts,PSMs (cxOf (L2.CX P w) P w K mg base Nm qual (defScope st) f cdv A out s H E) (fun cls d _ H=>E cls d H) (defBody st) ts g) :
  MthD P w K mg base (L2.CX P w) (k+1) cn x n (callD g n m) :=
 ⟨callD_ar,C,f,fd,ps,hn,hc,fn_okXB F S hn hmn body,cl,hm,F.binds hb⟩
theorem fn_ok0B {x qual:Str}{st:Stmt}{f:Addr}{fd:FuncData}{Nm ps:List Str}{k n m:Nat}{g:SM}(F:Fun K x qual st f fd)(S:FnScope Nm ps (defScope st))(hn:ps.length=n)(hmn:Nm.length=n+m)
  (body:∀ (cdv:Value) (A:Around) (out:List PySem.Env) (s:Shared) (H:Hp) (E:XK),Room k (A.deeper (envOfC qual (defScope st) s.heap.objs.size f cdv))→A.guards=some [] →
   ∃ ts,PSMs (cxOf CX0 P w K mg base Nm qual (defScope st) f cdv A out s H E).nox WF (defBody st) ts g) :
  FnG P w K mg base CX0 (k+1) f fd ps (spF K n (callD0 g n m)):=by
 obtain⟨oc,od,kV,doc,pm,an,cdv,ct,osl,rfl,lk,hcd⟩:=F.ex
 refine fnG_of lk hcd S (fun vs H Q E h=>by rw[h.1,hn]) fun A out s H vs Q E hr hg hsp=>?_
 obtain⟨ts,b⟩:=body cdv A out s H E hr hg
 refine⟨ts,b.ps.nox,?_⟩
 have e:Nm.length-n=m:=by omega
 exact body_ok (n:=n) (E:=fun _ _ _=>False) b.sd (by omega) (by rw[e];exact sp_callD0 hsp)
theorem fn_ok0 {x qual:Str}{st:Stmt}{f:Addr}{fd:FuncData}{Nm ps:List Str}{k n m:Nat}{g:SM}(F:Fun K x qual st f fd)(S:FnScope Nm ps (defScope st))(hm:mg x=some (.ref f))(hn:ps.length=n)(hmn:Nm.length=n+m)
  (hb:∀ (kV doc pm:Value) (an:Option Addr) (cdv ct:Value) (us:List Value),us.length=ps.length→bindArgs (PySem.W.fnOf x qual (defArgs st) (defBody st) (defScope st) .none kV doc pm an cdv ct) ⟨us,[]⟩=pure (ps.zip us))
  (body:∀ (cdv:Value) (A:Around) (out:List PySem.Env) (s:Shared) (H:Hp) (E:XK),Room k (A.deeper (envOfC qual (defScope st) s.heap.objs.size f cdv))→A.guards=some [] →
   ∃ ts,PSMs (cxOf CX0 P w K mg base Nm qual (defScope st) f cdv A out s H E).nox WF (defBody st) ts g) :
  FnD P w K mg base CX0 (k+1) x n (callD0 g n m) :=
 ⟨callD0_ar,f,fd,ps,hn,fn_ok0B F S hn hmn body,hm,F.kp,F.binds hb⟩
end
section
variable {X:Cx}{W:WX}{a C d:Addr}{oe:Obj}{pn:List (Addr×Obj)}{n:Str}{p p1 p2 pos:Pos}
theorem pm_isE (K:PySem.W.Frag) {tab:List (Str×Bool)} {cn:Str} {ct:Addr} (i:Nat) (hz:Zc (.ref C) (some d) oe) (hf:∃ vs,oe.data=.fields vs) (hg:Gl X "isinstance") (hm:X.mg "isinstance"=none) (T:TabE K (.ref ct) tab) (hc:Gl X cn) (hmc:X.mg cn=some (.ref ct))
  (hN:X.N[i]?=some n:=by rfl) (hv:Vis X.env.scope n:=by first|exact Or.inl rfl|exact Or.inr (Or.inl rfl)|exact Or.inr (Or.inr rfl))
  (hd:(n==("__debug__":Str))=false:=by decide) (hcd:(n==("__classdict__":Str))=false:=by decide) (hdc:(cn==("__debug__":Str))=false:=by decide) (hK:X.K=K:=by rfl)
  (hs:starEach (.Name n p1::[.Name cn p2]) X.env=(false,eval (.Name n p1) X.env)::starEach [.Name cn p2] X.env:=by rfl) (hs1:starEach [.Name cn p2] X.env=(false,eval (.Name cn p2) X.env)::starEach [] X.env:=by rfl) (hpl:(backTo pos (starEach [.Name cn p2] X.env)).any (·.1)=false:=by rfl) :
  PM (X.suite a ((a,oe)::pn)) W (.Call (.Name "isinstance" p) [.Name n p1,.Name cn p2] [] pos) (tCB (rIsX K C a d) (tCons (tVar i) (tCons (tC (.ref ct)) tNil))) (eIsE i a C d tab):=by
 subst hK
 refine⟨pe_callB (X:=X.suite a ((a,oe)::pn)) (call_isX hz hf) hg hm (by decide +kernel) (pa_cons (pe_var hN hv hd hcd) (pa_cons (pe_glob hc hmc rfl hdc) pa_nil hs1) hs) (he:=hs) (hpl:=hpl),snd_isE (fun u h=>?_) T⟩
 exact h
theorem pm_xf (K:PySem.W.Frag){nm0 f:Str}{C0:Addr}(i:Nat)(hz:Zc (.ref C) (some d) oe)(hf:∃ vs,oe.data=.fields vs)(T:XfC K C0)(hno:PySem.W.findIn K (.ref C0) f=some none)(hC:ClsAt K nm0 C0)
  (hN:X.N[i]?=some n:=by rfl) (hv:Vis X.env.scope n:=by first|exact Or.inl rfl|exact Or.inr (Or.inl rfl)|exact Or.inr (Or.inr rfl))
  (hd:(n==("__debug__":Str))=false:=by decide) (hcd:(n==("__classdict__":Str))=false:=by decide) (hK:X.K=K:=by rfl) (hb:attributeBase (.Name n p1) f X.env (eval (.Name n p1) X.env)=eval (.Name n p1) X.env:=by rfl) :
  PM (X.suite a ((a,oe)::pn)) W (.Attribute (.Name n p1) f pos) (tXf a (.ref C) (some d) C0 f (tVar i)) (eXf i a C d nm0 f):=by
 subst hK
 exact⟨pe_xf T hno hz hf (pe_var (X:=X.suite a ((a,oe)::pn)) hN hv hd hcd) hb,snd_xf hC⟩
end
theorem tabE_nil {K:PySem.W.Frag}{cv:Value}:TabE K cv []:=fun _ _ e=>by cases e
theorem tabE_cons {K:PySem.W.Frag}{cv:Value}{nm:Str}{b:Bool}{C:Addr}{r:List (Str×Bool)}(hC:ClsAt K nm C)(h1:ExcC K C)(h2:PySem.W.kitOne K (.ref C) cv=some b)(h:TabE K cv r):TabE K cv ((nm,b)::r):=fun nm' b' e C' hC'=>by
 rw[List.lookup_cons] at e
 cases q:nm'==nm with
 | true=>rw[q] at e;cases e;cases eq_of_beq q;cases hC.uniq hC';exact⟨h1,h2⟩
 | false=>rw[q] at e;exact h nm' b' e C' hC'
theorem catOk_nil {K:PySem.W.Frag}{c:Value}:CatOk K c []:=fun _ _ e=>by cases e
theorem catOk_cons {K:PySem.W.Frag}{c:Value}{nm:Str}{b:Bool}{C:Addr}{r:List (Str×Bool)}(hC:ClsAt K nm C)(h2:PySem.W.exmOne K (.ref C) c=some b)(h:CatOk K c r):CatOk K c ((nm,b)::r):=fun nm' b' e C' hC'=>by
 rw[List.lookup_cons] at e
 cases q:nm'==nm with
 | true=>rw[q] at e;cases e;cases eq_of_beq q;cases hC.uniq hC';exact h2
 | false=>rw[q] at e;exact h nm' b' e C' hC'
theorem kit_same {K:PySem.W.Frag}{C:Addr}:PySem.W.kitOne K (.ref C) (.ref C)=some true:=by
 unfold PySem.W.kitOne;rw[if_pos (by simp)]
end DL
namespace DR
open PySem PyProof.Rows
mutual
inductive Rs (h:Heap):Value→PyData→Prop
 | none:Rs h .none .none
 | bool (b):Rs h (.bool b) (.bool b)
 | int (i t):Rs h (.int i t) (.int i)
 | str (x t):Rs h (.str x t) (.str x)
 | list {a o vs n xs}:h.get? a=some o→o.cls=.type "list"→o.data=.seq vs n→RsAll h vs.toList xs→Rs h (.ref a) (.list xs)
 | tuple {a o vs n xs}:h.get? a=some o→o.cls=.type "tuple"→o.data=.seq vs n→RsAll h vs.toList xs→Rs h (.ref a) (.tuple xs)
 | dict {a o es n} {kvs:List (PyData×PyData)}:h.get? a=some o→o.cls=.type "dict"→o.data=.dict es n→(a==sysModules)=false→RsAll h (es.toList.map (·.key)) (kvs.map (·.1)) →
   RsAll h (es.toList.map (·.val)) (kvs.map (·.2))→Rs h (.ref a) (.dict kvs)
inductive RsAll (h:Heap):List Value→List PyData→Prop
 | nil:RsAll h [] []
 | cons {v vs d ds}:Rs h v d→RsAll h vs ds→RsAll h (v::vs) (d::ds)
end
section
variable {h:Heap}{prog:Program}{w:World}
mutual
theorem Rs.reads:∀ {v:Value} {d:PyData},Rs h v d→∃ as,Reads h v d as
 | _,_,.none=>⟨_,.none⟩
 | _,_,.bool b=>⟨_,.bool b⟩
 | _,_,.int i t=>⟨_,.int i t⟩
 | _,_,.str x t=>⟨_,.str x t⟩
 | _,_,.list h1 h2 h3 h4=>let ⟨_,r⟩:=RsAll.reads h4;⟨_,.list h1 h2 h3 r⟩
 | _,_,.tuple h1 h2 h3 h4=>let ⟨_,r⟩:=RsAll.reads h4;⟨_,.tuple h1 h2 h3 r⟩
 | _,_,.dict h1 h2 h3 _ h4 h5=>let ⟨_,r⟩:=RsAll.reads h4;let ⟨_,r'⟩:=RsAll.reads h5;⟨_,.dict h1 h2 h3 r r'⟩
theorem RsAll.reads:∀ {vs:List Value} {ds:List PyData},RsAll h vs ds→∃ as,ReadsAll h vs ds as
 | _,_,.nil=>⟨_,.nil⟩
 | _,_,.cons a b=>let ⟨_,r⟩:=Rs.reads a;let ⟨_,r'⟩:=RsAll.reads b;⟨_,.cons r r'⟩
end
mutual
theorem Rs.reprK:∀ {v:Value} {d:PyData},Rs h v d→d.showable=true→d.shown.length≤sizeLine→∃ bs,ReadAtMost h d.depth bs∧ReprK prog w bs h d.depth v d.shown
 | _,_,.none,_,_=>⟨[],(fun _ h=>nomatch h),by simp only[PyData.shown];exact .of_is ReprIs.none _ _ _⟩
 | _,_,.bool b,_,_=>⟨[],(fun _ h=>nomatch h),by simp only[PyData.shown];exact .of_is (ReprIs.bool b) _ _ _⟩
 | _,_,.int i t,hs,_=>⟨[],(fun _ h=>nomatch h),by simp only[PyData.shown];exact .of_is (ReprIs.int t (by simpa [PyData.showable] using hs)) _ _ _⟩
 | _,_,.str x t,_,hz=>⟨[],(fun _ h=>nomatch h),by simp only[PyData.shown];exact .of_is (ReprIs.str x t (by simpa only[PyData.shown] using hz)) _ _ _⟩
 | _,_,.list (a:=a) (vs:=vs) (xs:=xs) h1 h2 h3 h4,hs,hz=>by
  have hz':(listText (PyData.shownAll xs)).length≤sizeLine:=by simpa only[PyData.shown] using hz
  obtain⟨bs,hb,hk⟩:=RsAll.reprK h4 (by simpa [PyData.showable] using hs) fun t ht=>Nat.le_trans (listText_mem_le ht) hz'
  obtain⟨as,r4⟩:=RsAll.reads h4
  have r:Reads h (.ref a) (.list xs) _:=.list h1 h2 h3 r4
  have hna:a∉bs:=not_mem_of_deeper r (by simp only[PyData.depth];omega) hb
  refine⟨a::bs,ReadAtMost.cons r (by simp only[PyData.depth];omega) hb,?_⟩
  simp only[PyData.depth,PyData.shown]
  obtain⟨l⟩:=vs
  cases l with
  | nil =>
   have h4':RsAll h [] xs:=h4
   cases h4'
   simp only[PyData.shownAll,listText_nil]
   exact ReprK.listEmpty h1 h2 h3
  | cons x l=>exact ReprK.list h1 h2 h3 hna (by simpa using hk.length_eq) (fun i y e=>hk.item i y (by simpa using e))
 | _,_,.tuple (a:=a) (xs:=xs) h1 h2 h3 h4,hs,hz=>by
  have hz':(tupleText (PyData.shownAll xs)).length≤sizeLine:=by simpa only[PyData.shown] using hz
  obtain⟨bs,hb,hk⟩:=RsAll.reprK h4 (by simpa [PyData.showable] using hs) fun t ht=>Nat.le_trans (tupleText_mem_le ht) hz'
  obtain⟨as,r4⟩:=RsAll.reads h4
  have r:Reads h (.ref a) (.tuple xs) _:=.tuple h1 h2 h3 r4
  have hna:a∉bs:=not_mem_of_deeper r (by simp only[PyData.depth];omega) hb
  refine⟨a::bs,ReadAtMost.cons r (by simp only[PyData.depth];omega) hb,?_⟩
  simp only[PyData.depth,PyData.shown]
  exact ReprK.tuple h1 h2 h3 hna hk
 | _,_,.dict (a:=a) (es:=es) (kvs:=kvs) h1 h2 h3 hsys h4 h5,hs,hz=>by
  have hz':(dictText (PyData.shownKv kvs)).length≤sizeLine:=by simpa only[PyData.shown] using hz
  obtain⟨hs1,hs2⟩:=PyData.showableKv_split kvs (by simpa [PyData.showable] using hs)
  obtain⟨b1,hb1,k1⟩:=RsAll.reprK h4 hs1 fun t ht=>let ⟨p,hp,hl⟩:=PyData.shownKv_key_le kvs t ht;Nat.le_trans hl (Nat.le_trans (dictText_mem_le hp) hz')
  obtain⟨b2,hb2,k2⟩:=RsAll.reprK h5 hs2 fun t ht=>let ⟨p,hp,hl⟩:=PyData.shownKv_val_le kvs t ht;Nat.le_trans hl (Nat.le_trans (dictText_mem_le hp) hz')
  obtain⟨as4,r4⟩:=RsAll.reads h4
  obtain⟨as5,r5⟩:=RsAll.reads h5
  have r:Reads h (.ref a) (.dict kvs) _:=.dict h1 h2 h3 r4 r5
  have hb:ReadAtMost h (PyData.depthKv kvs) (b1++b2):=(hb1.mono (PyData.depthAll_keys_le kvs)).append (hb2.mono (PyData.depthAll_vals_le kvs))
  have hna:a∉b1++b2:=not_mem_of_deeper r (by simp only[PyData.depth];omega) hb
  refine⟨a::(b1++b2),ReadAtMost.cons r (by simp only[PyData.depth];omega) hb,?_⟩
  simp only[PyData.depth,PyData.shown,PyData.shownKv_eq]
  exact ReprK.dict h1 h2 h3 hsys hna (ReprEntriesK.of_two es.toList _ _
   (k1.more_le (fun b hb=>List.mem_append_left _ hb) (PyData.depthAll_keys_le kvs)) (k2.more_le (fun b hb=>List.mem_append_right _ hb) (PyData.depthAll_vals_le kvs)))
theorem RsAll.reprK:∀ {vs:List Value} {ds:List PyData},RsAll h vs ds→PyData.showableAll ds=true→(∀ t∈PyData.shownAll ds,t.length≤sizeLine) →
  ∃ bs,ReadAtMost h (PyData.depthAll ds) bs∧ReprAllK prog w bs h (PyData.depthAll ds) vs (PyData.shownAll ds)
 | _,_,.nil,_,_=>⟨[],(fun _ h=>nomatch h),by simp only[PyData.shownAll];exact .nil⟩
 | _,_,.cons (d:=d) (ds:=ds) r rs,hs,hz=>by
  have hs':d.showable=true∧PyData.showableAll ds=true:=by simpa [PyData.showableAll] using hs
  obtain⟨b1,hb1,k1⟩:=Rs.reprK r hs'.1 (hz _ (by simp only[PyData.shownAll];exact List.mem_cons_self ..))
  obtain⟨b2,hb2,k2⟩:=RsAll.reprK rs hs'.2 fun t ht=>hz t (by simp only[PyData.shownAll];exact List.mem_cons_of_mem _ ht)
  refine⟨b1++b2,?_,?_⟩
  ·intro b hm
   simp only[PyData.depthAll]
   rcases List.mem_append.mp hm with hm|hm
   ·obtain⟨d',as',r',hd'⟩:=hb1 b hm
    exact⟨d',as',r',Nat.le_trans hd' (Nat.le_max_left _ _)⟩
   ·obtain⟨d',as',r',hd'⟩:=hb2 b hm
    exact⟨d',as',r',Nat.le_trans hd' (Nat.le_max_right _ _)⟩
  ·simp only[PyData.depthAll,PyData.shownAll]
   exact .cons ((k1.more fun b hb=>List.mem_append_left _ hb).level_le (Nat.le_max_left _ _)) (k2.more_le (fun b hb=>List.mem_append_right _ hb) (Nat.le_max_right _ _))
end
end
end DR
namespace DR
open PySem PyProof.Rows
section
variable {prog:Program}{w:World}{h₀:Heap}{a:Addr}{d:PyData}
theorem Rs.shows (r:Rs h₀ (.ref a) d)(hs:d.showable=true)(hsz:d.shown.length≤sizeLine):∃ T idr,ShowsBy prog w h₀ a d T idr:=by
 cases r with
 | list h1 h2 h3 h4 =>
  rename_i o vs n xs
  have hz':(listText (PyData.shownAll xs)).length≤sizeLine:=by simpa only[PyData.shown] using hsz
  obtain⟨bs,hb,hk⟩:=RsAll.reprK (prog:=prog) (w:=w) h4 (by simpa [PyData.showable] using hs) fun t ht=>Nat.le_trans (listText_mem_le ht) hz'
  obtain⟨as,r4⟩:=RsAll.reads h4
  have hna:a∉bs:=not_mem_of_deeper (.list h1 h2 h3 r4) (by simp only[PyData.depth];omega) hb
  refine⟨"list","list.__repr__",F.slot_list_repr.toG,F.slot_list_str,F.slot_list_format,fun s hk0=>⟨o,hk0 _ _ h1,h2⟩,fun A E s Q hg hu hk0 hQ=>?_⟩
  simp only[PyData.depth] at hu
  simp only[PyData.shown] at hQ
  obtain⟨l⟩:=vs
  cases l with
  | nil =>
   have h4':RsAll h₀ [] xs:=h4
   cases h4'
   simp only[PyData.shownAll,listText_nil] at hQ
   exact call_list_repr_empty ⟨o,hk0 _ _ h1,h2⟩ (hk0 _ _ h1) h3 (hQ s.heap _ _ fun _ _ e=>e)
  | cons x l =>
   exact call_list_reprK h1 h2 h3 hna (by simpa using hk.length_eq) (fun i y e=>hk.item i y (by simpa using e)) hg (fun b _=>Clear.nil b) hu hk0 hQ hz'
 | tuple h1 h2 h3 h4 =>
  rename_i o vs n xs
  have hz':(tupleText (PyData.shownAll xs)).length≤sizeLine:=by simpa only[PyData.shown] using hsz
  obtain⟨bs,hb,hk⟩:=RsAll.reprK (prog:=prog) (w:=w) h4 (by simpa [PyData.showable] using hs) fun t ht=>Nat.le_trans (tupleText_mem_le ht) hz'
  obtain⟨as,r4⟩:=RsAll.reads h4
  have hna:a∉bs:=not_mem_of_deeper (.tuple h1 h2 h3 r4) (by simp only[PyData.depth];omega) hb
  refine⟨"tuple","tuple.__repr__",F.slot_tuple_repr,F.slot_tuple_str,F.slot_tuple_format,fun s hk0=>⟨o,hk0 _ _ h1,h2⟩,fun A E s Q hg hu hk0 hQ=>?_⟩
  simp only[PyData.depth] at hu
  simp only[PyData.shown] at hQ
  exact call_tuple_reprK h1 h2 h3 hna hk hg (fun b _=>Clear.nil b) hu hk0 hQ hz'
 | dict h1 h2 h3 hsys h4 h5 =>
  rename_i o es n kvs
  have hz':(dictText (PyData.shownKv kvs)).length≤sizeLine:=by simpa only[PyData.shown] using hsz
  obtain⟨hs1,hs2⟩:=PyData.showableKv_split kvs (by simpa [PyData.showable] using hs)
  obtain⟨b1,hb1,k1⟩:=RsAll.reprK (prog:=prog) (w:=w) h4 hs1 fun t ht=>let ⟨p,hp,hl⟩:=PyData.shownKv_key_le kvs t ht;Nat.le_trans hl (Nat.le_trans (dictText_mem_le hp) hz')
  obtain⟨b2,hb2,k2⟩:=RsAll.reprK (prog:=prog) (w:=w) h5 hs2 fun t ht=>let ⟨p,hp,hl⟩:=PyData.shownKv_val_le kvs t ht;Nat.le_trans hl (Nat.le_trans (dictText_mem_le hp) hz')
  obtain⟨as4,r4⟩:=RsAll.reads h4
  obtain⟨as5,r5⟩:=RsAll.reads h5
  have hb:ReadAtMost h₀ (PyData.depthKv kvs) (b1++b2):=(hb1.mono (PyData.depthAll_keys_le kvs)).append (hb2.mono (PyData.depthAll_vals_le kvs))
  have hna:a∉b1++b2:=not_mem_of_deeper (.dict h1 h2 h3 r4 r5) (by simp only[PyData.depth];omega) hb
  refine⟨"dict","dict.__repr__",F.slot_dict_repr,F.slot_dict_str,F.slot_dict_format,fun s hk0=>⟨o,hk0 _ _ h1,h2⟩,fun A E s Q hg hu hk0 hQ=>?_⟩
  simp only[PyData.depth] at hu
  simp only[PyData.shown,PyData.shownKv_eq] at hQ
  exact call_dict_reprK h1 h2 h3 hsys hna (ReprEntriesK.of_two es.toList _ _
   (k1.more_le (fun b hb=>List.mem_append_left _ hb) (PyData.depthAll_keys_le kvs)) (k2.more_le (fun b hb=>List.mem_append_right _ hb) (PyData.depthAll_vals_le kvs))) hg (fun b _=>Clear.nil b) hu hk0 hQ (by rw[←PyData.shownKv_eq];exact hz')
theorem Rs.repr {A:Around}{E:Value→Shared→Prop}{s:Shared}{Q:Value→Shared→Prop}(r:Rs s.heap (.ref a) d)(hs:d.showable=true)(hg:A.guards=some [])(hu:A.units+(d.depth+1)<cLine)
  (hQ:∀ h' u tk,(∀ b o,s.heap.get? b=some o→h'.get? b=some o)→Q (.str d.shown u) { s with heap:=h',toks:=tk })
  (hsz:d.shown.length≤sizeLine):wpAny (model prog w) A (call (.builtin "repr") [.ref a]) Q E s:=by
 obtain⟨T,idr,S⟩:=r.shows (prog:=prog) (w:=w) hs hsz
 exact call_repr_slot (by omega) (S.typeIs s fun _ _ e=>e) S.slotRepr (S.call A.in1 E s _ hg (by show A.units+1+d.depth<cLine;omega) (fun _ _ e=>e) fun h' u tk hk=>⟨_,_,rfl,hQ h' u tk hk⟩)
end
end DR
namespace DL
open PySem PySem.Spec PyProof.Rows L2 DR
def keyPy:Key→PyData
 | .inl i=>.int i
 | .inr s=>.str s
mutual
def toPyK:D→Option PyData
 | .non=>some .none
 | .bl b=>some (.bool b)
 | .int i=>some (.int i)
 | .str s=>some (.str s)
 | .tup xs=>(toPyKL xs).map .tuple
 | .lst xs=>(toPyKL xs).map .list
 | .fro xs=>(toPyKL xs).map .list
 | .dct kvs=>(toPyKv kvs).map .dict
 | .ty _=>none
 | .ref _=>none
 | .ins _ _=>none
 | .err _ _ _ _ _=>none
def toPyKL:List D→Option (List PyData)
 | []=>some []
 | x::xs=>match toPyK x with
  | none=>none
  | some p=>(toPyKL xs).map (p::·)
def toPyKv:List (Ky×D)→Option (List (PyData×PyData))
 | []=>some []
 | (.k k,x)::xs=>match toPyK x with
  | none=>none
  | some p=>(toPyKv xs).map ((keyPy k,p)::·)
 | (.t _,_)::_=>none
end
theorem map_k_inj:∀ {a b:List Key},a.map Ky.k=b.map Ky.k→a=b
 | [],[],_=>rfl
 | [],_::_,h=>by cases h
 | _::_,[],h=>by cases h
 | x::a,y::b,h=>by
  simp only[List.map_cons,List.cons.injEq] at h
  cases h.1
  rw[map_k_inj h.2]
theorem toPyKv_ok:∀ {ds:List (Ky×D)} {ps:List (PyData×PyData)},toPyKv ds=some ps→toPyKL (ds.map (·.2))=some (ps.map (·.2))∧∃ ks:List Key,ds.map (·.1)=ks.map Ky.k∧ps.map (·.1)=ks.map keyPy
 | [],ps,e=>by simp only[toPyKv] at e;cases e;exact⟨by simp[toPyKL],[],rfl,rfl⟩
 | (.t _,_)::_,ps,e=>by simp only[toPyKv] at e;cases e
 | (.k k,x)::xs,ps,e=>by
  simp only[toPyKv] at e
  cases q:toPyK x with
  | none=>rw[q] at e;cases e
  | some p =>
   rw[q] at e
   cases q2:toPyKv xs with
   | none=>rw[q2] at e;cases e
   | some qs =>
    rw[q2] at e;cases e
    obtain⟨h1,ks,h2,h3⟩:=toPyKv_ok q2
    refine⟨?_,k::ks,?_,?_⟩
    ·simp only[List.map_cons,toPyKL,q,h1];rfl
    ·simp only[List.map_cons,h2]
    ·simp only[List.map_cons,h3]
section
variable {X:Cx}{pins:List (Addr×Obj)}{σ:L2.St}{H:Hp}{s:Shared}
theorem key_rs {k:Key}{u:Value}(h:(mixKind X.prog X.w).is k u=true):Rs s.heap u (keyPy k):=by
 have r:L2.RelV (kV k) u:=relV_key h
 cases k with
 | inl i=>obtain⟨t,rfl⟩:=r;exact .int i t
 | inr x=>obtain⟨t,rfl⟩:=r;exact .str x t
theorem pairs_keys {es:List DictEntry}{kvs:List (Key×Value)}(h:Pairs (mixKind X.prog X.w) es kvs):RsAll s.heap (es.map (·.key)) (kvs.map fun p=>keyPy p.1)∧es.map (·.val)=kvs.map (·.2):=by
 induction h with
 | nil=>exact⟨.nil,rfl⟩
 | cons h1 h2 _ ih=>exact⟨.cons (key_rs h1) ih.1,by simp only[List.map_cons];rw[h2,ih.2]⟩
theorem kv_vals {ls:List (Key×V)}{vs:List (Key×Value)}(h:KV ls vs):Vals (ls.map (·.2)) (vs.map (·.2)):=by
 unfold KV at h
 induction h with
 | nil=>exact .nil
 | cons a _ ih=>exact .cons a.2 ih
mutual
theorem Rp.rs (I:Inv X pins σ H s):∀ {v:V} {d:D} {p:PyData} {u:Value},Rp X.K H v d→toPyK d=some p→L2.RelV v u→Rs s.heap u p
 | _,_,_,_,.non,e,r=>by simp only[toPyK] at e;cases e;cases r;exact .none
 | _,_,_,_,.bl b,e,r=>by simp only[toPyK] at e;cases e;cases r;exact .bool b
 | _,_,_,_,.int i,e,r=>by simp only[toPyK] at e;cases e;obtain⟨t,rfl⟩:=r;exact .int i t
 | _,_,_,_,.str i,e,r=>by simp only[toPyK] at e;cases e;obtain⟨t,rfl⟩:=r;exact .str i t
 | _,_,_,_,.ty _,e,r=>by simp only[toPyK] at e;cases e
 | _,_,_,_,.ref _,e,r=>by simp only[toPyK] at e;cases e
 | _,_,_,_,.ins _ _ _ _ _,e,r=>by simp only[toPyK] at e;cases e
 | _,_,_,_,.er0 _,e,r=>by simp only[toPyK] at e;cases e
 | _,_,_,_,.err _ _ _ _,e,r=>by simp only[toPyK] at e;cases e
 | _,_,_,_,.tup (ds:=ds) h l,e,r=>by
  simp only[toPyK] at e
  cases q:toPyKL ds with
  | none=>rw[q] at e;cases e
  | some ps =>
   rw[q] at e;cases e;cases r
   obtain⟨its,rv,⟨o,ho,hc,n,hd⟩,_⟩:=I.tuple h
   exact .tuple ho hc hd (by simpa using RpL.rs I l q rv)
 | _,_,_,_,.lst (ds:=ds) h l,e,r=>by
  simp only[toPyK] at e
  cases q:toPyKL ds with
  | none=>rw[q] at e;cases e
  | some ps =>
   rw[q] at e;cases e;cases r
   obtain⟨its,rv,⟨o,n,ho,hc,hd,hdat⟩,_⟩:=I.list (.inl (.inl h))
   exact .list ho hc hdat (by simpa using RpL.rs I l q rv)
 | _,_,_,_,.fro (ds:=ds) h l,e,r=>by
  simp only[toPyK] at e
  cases q:toPyKL ds with
  | none=>rw[q] at e;cases e
  | some ps =>
   rw[q] at e;cases e;cases r
   obtain⟨its,rv,⟨o,n,ho,hc,hd,hdat⟩,_⟩:=I.list h
   exact .list ho hc hdat (by simpa using RpL.rs I l q rv)
 | _,_,_,_,.dct (ds:=ds) h k l,e,r=>by
  simp only[toPyK] at e
  cases q:toPyKv ds with
  | none=>rw[q] at e;cases e
  | some ps =>
   rw[q] at e;cases e;cases r
   obtain⟨h1,ks,h2,h3⟩:=toPyKv_ok q
   have step:∀ us,Vals _ us→RsAll s.heap us (ps.map (·.2)):=fun us rv=>RpL.rs I l h1 rv
   rcases k with⟨ls,rfl,k2,rfl⟩|⟨_,ls,hne,rfl,_,_,_,_,k2,_⟩
   ·obtain⟨_,hsys,vs',rel,o',es,ep,ho,hx,hdat,_,hp,_⟩:=dk_rd I.hok (.inr ⟨_,h⟩)
    obtain⟨p1,p2⟩:=pairs_keys (X:=X) (s:=s) hp
    have ek:ks=ls.map (·.1):=by
     have e2:ks.map Ky.k=(ls.map (·.1)).map Ky.k:=by rw[←h2,k2,List.map_map];rfl
     exact map_k_inj e2
    refine .dict ho hx.1 hdat hsys ?_ ?_
    ·have e3:ps.map (·.1)=vs'.map fun p=>keyPy p.1:=by
      rw[h3,ek,rel.keys,List.map_map];rfl
     rw[e3];exact p1
    ·rw[p2];exact step _ (kv_vals rel)
   ·cases ls with
    | nil=>exact absurd rfl hne
    | cons p ls =>
     rw[h2] at k2
     cases ks with
     | nil=>cases k2
     | cons k ks=>simp at k2
theorem RpL.rs (I:Inv X pins σ H s):∀ {vs:List V} {ds:List D} {ps:List PyData} {us:List Value},RpL X.K H vs ds→toPyKL ds=some ps→Vals vs us→RsAll s.heap us ps
 | _,_,_,_,.nil,e,r=>by simp only[toPyKL] at e;cases e;cases r;exact .nil
 | _,_,_,_,.cons (d:=d) (ds:=ds) a b,e,r=>by
  simp only[toPyKL] at e
  cases q:toPyK d with
  | none=>rw[q] at e;cases e
  | some p =>
   rw[q] at e
   cases q2:toPyKL ds with
   | none=>rw[q2] at e;cases e
   | some ps =>
    rw[q2] at e;cases e
    cases r with
    | cons r1 r2=>exact .cons (Rp.rs I a q r1) (RpL.rs I b q2 r2)
end
end
end DL
namespace DL
open PySem PySem.Spec PyProof.Rows L2 DR
def dReprD (x:DV)(μ:Mem):Res R:=match (peek μ x).bind toPyK with
 | some p=>if p.showable=true∧p.depth≤64∧p.shown.length≤sizeLine then .ok (.dat (.str p.shown)) μ else .bad
 | none=>.bad
def rReprD (K:PySem.W.Frag):List V→Hp→VK→Prop:=fun xs H Q=>∃ v d p,xs=[v]∧Rp K H v d∧toPyK d=some p∧p.showable=true∧p.depth≤64∧p.shown.length≤sizeLine∧Q (.str p.shown) H
theorem cr_reprD {X:Cx} {k:Nat} (hr:Room k X.A) (hg:X.A.guards=some []):CallR X (.builtin "repr") (rReprD X.K):=by
 intro pins s σ H xs us Q I rv h
 obtain⟨v,d,p,rfl,hd,hp,hs,hdp,hz,q⟩:=h
 obtain⟨u,rfl,ru⟩:∃ u,us=[u]∧L2.RelV v u:=by
  cases rv with
  | cons a b=>cases b;exact⟨_,rfl,a⟩
 have rd:=Rp.rs I hd hp ru
 have fin:∀ h' tk t',(∀ b o,s.heap.get? b=some o→h'.get? b=some o)→EP X pins σ Q (.str p.shown t') { s with heap:=h',toks:=tk }:=fun h' tk t' kp =>
  ⟨.str p.shown,H,I.kept kp,⟨t',rfl⟩,q⟩
 have hu:X.A.units+200<cLine:=by have:=hr.un;omega
 have all:∀ a,u=.ref a→wpAny (model X.prog X.w) X.A (call (.builtin "repr") [u]) (EP X pins σ Q) X.xe s:=fun a e=>by
  subst e
  exact rd.repr hs hg (by omega) (fun h' t' tk kp=>fin h' tk t' kp) hz
 cases rd with
 | none=>exact PySem.P.repr_of_none (fin s.heap _ _ fun _ _ e=>e)
 | bool b=>exact PySem.P.repr_of_bool (fin s.heap _ _ fun _ _ e=>e)
 | int i t=>exact PySem.P.repr_of_int (of_decide_eq_true hs) (fin s.heap _ _ fun _ _ e=>e)
 | str z t=>exact PySem.P.repr_of_str (fin s.heap _ _ fun _ _ e=>e) hz
 | list _ _ _ _=>exact all _ rfl
 | tuple _ _ _ _=>exact all _ rfl
 | dict _ _ _ _ _ _=>exact all _ rfl
theorem cd_reprD {K:PySem.W.Frag}:CallD K (rReprD K) (d1 dReprD):=cd_1 fun W ρ G H σ μ v x Q R hx hp=>by
 unfold dReprD at hp
 cases e:peek μ x with
 | none=>rw[e] at hp;exact hp.elim
 | some d =>
  rw[e] at hp
  simp only[Option.bind_some] at hp
  cases e2:toPyK d with
  | none=>rw[e2] at hp;exact hp.elim
  | some p =>
   simp only[e2] at hp
   by_cases c:p.showable=true∧p.depth≤64∧p.shown.length≤sizeLine
   ·rw[if_pos c] at hp;exact⟨v,d,p,rfl,peek_ok R hx e,e2,c.1,c.2.1,c.2.2,hp.okD R (.str _)⟩
   ·rw[if_neg c] at hp;exact hp.elim
theorem cr_reprDK (K:PySem.W.Frag){X:Cx}{k:Nat}(h:Room k X.A)(hg:X.A.guards=some [])(hK:X.K=K:=by rfl):CallR X (.builtin "repr") (rReprD K):=by subst hK;exact cr_reprD h hg
end DL
namespace DR
open PySem PySem.SeqAt PyProof.Rows
open AutoSeq1 (wpAny_loadPart')
open MeetsSeq MeetsSeq2 MeetsSeq3 SeqRoads2
section
variable {prog:Program}{w:World}
theorem tup_same (p q:Addr)(us vs:Array Value)(m m2:Nat)(f f2:Option Addr)(t t2:Array (Option Value))(hz:us.size=vs.size) :
  MeetsIn prog w (Builtin.«tuple.__eq__» ⟨[.ref p,.ref q],[]⟩)
   (fun A R s=>s.heap.get? p=some { cls:=.type "tuple",dict:=f,data:=.seq us m,slots:=t } ∧
    s.heap.get? q=some { cls:=.type "tuple",dict:=f2,data:=.seq vs m2,slots:=t2 } ∧
    (∀ j (h1:j<us.size) (h2:j<vs.size),EqP prog w A.in1 s us[j] vs[j] true)∧R (.ok (.ret (.bool true))) s):=by
 intro A R s h
 obtain⟨hp,g,d,tk,os⟩:=s
 obtain⟨hl,hb,he,h⟩:=h
 have st:=AutoSeq1.sub_tuple_tuple
 have hZ:(us.toList.zip vs.toList).length=us.size:=by simp[hz]
 wp_walk using wpAny_loadPart' hl,wpAny_loadPart' hb,wpAny_forIn_list _ (fun rest b s'=>b.1=none∧s'=⟨hp,g,d,tk,os⟩∧∃ i,rest=(us.toList.zip vs.toList).drop i) _
 case turn =>
  rintro ⟨y,x⟩ rest b s' ⟨hb',rfl,i,hzz⟩
  have hlt:i<(us.toList.zip vs.toList).length:=by
   rcases Nat.lt_or_ge i (us.toList.zip vs.toList).length with z|z
   ·exact z
   ·rw[List.drop_of_length_le z] at hzz;cases hzz
  have i1:i<us.size:=hZ▸hlt
  have i2:i<vs.size:=hz▸i1
  rw[List.drop_eq_getElem_cons hlt] at hzz
  injection hzz with hyx hrest
  obtain rfl:y=us[i]:=by have:=congrArg Prod.fst hyx;simpa using this
  obtain rfl:x=vs[i]:=by have:=congrArg Prod.snd hyx;simpa using this
  refine wpAny_bind (he i i1 i2 _ _ ?_)
  wp_walk
  exact⟨rfl,rfl,i+1,hrest⟩
 case fin =>
  rintro ⟨b1,b2⟩ s' ⟨hb',rfl,i,hzz⟩
  simp only at hb'
  subst hb'
  wp_walk
  simpa [Builtin.Tuple.tupleCompareSizes,hz] using h
 case h =>
  exact⟨rfl,rfl,0,rfl⟩
theorem rcP_tups {A:Around}{s:Shared}{p q:Addr}{us vs:Array Value}(hp:s.heap.IsTuple p us)(hq:s.heap.IsTuple q vs)(hz:us.size=vs.size)(hu:A.units<cLine)
  (he:∀ j (h1:j<us.size) (h2:j<vs.size),EqP prog w A.in1 s us[j] vs[j] true) (E Q:Value→Shared→Prop) (h:Q (.bool true) s):wpAny (model prog w) A (richCompare .Eq (.ref p) (.ref q)) Q E s:=by
 obtain⟨⟨c1,f1,k1,t1⟩,o1,e1,m1,g1⟩:=id hp
 obtain⟨⟨c2,f2,k2,t2⟩,o2,e2,m2,g2⟩:=id hq
 simp only at e1 g1 e2 g2
 subst e1 g1 e2 g2
 have ta:s.TypeIs (.ref p) "tuple":=⟨_,o1,rfl⟩
 have tb:s.TypeIs (.ref q) "tuple":=⟨_,o2,rfl⟩
 exact wpAny_richCompare_same_room (op:=.Eq) ta tb F.slot_tuple_eq (call_meetsIn F.slot_tuple_eq ta F.entry_tuple_eq (F.args_tuple_eq_2 _ _) (tup_same p q us vs m1 m2 f1 f2 t1 t2 hz)
  ⟨o1,o2,he,show Value.bool true≠Value.notImplemented∧Q (.bool true) s from⟨(fun x=>nomatch x),h⟩⟩) hu
end
end DR
namespace DR
open PySem PySem.Spec PySem.SeqAt PyProof.Rows L2 DL
mutual
inductive Rq (P:Program) (w:World) (h:Heap):Value→PyData→Prop
 | none:Rq P w h .none .none
 | bool (b):Rq P w h (.bool b) (.bool b)
 | int (i t):Rq P w h (.int i t) (.int i)
 | str (x t):Rq P w h (.str x t) (.str x)
 | list {a vs xs}:h.IsList a vs→RqAll P w h vs.toList xs→Rq P w h (.ref a) (.list xs)
 | tuple {a vs xs}:h.IsTuple a vs→RqAll P w h vs.toList xs→Rq P w h (.ref a) (.tuple xs)
 | dict {a} {vs:List (Key×Value)} {kvs:List (PyData×PyData)}:(a==sysModules)=false→h.DictOf (mixKind P w) a vs→kvs.map (·.1)=vs.map (fun p=>keyPy p.1)→RqAll P w h (vs.map (·.2)) (kvs.map (·.2))→Rq P w h (.ref a) (.dict kvs)
inductive RqAll (P:Program) (w:World) (h:Heap):List Value→List PyData→Prop
 | nil:RqAll P w h [] []
 | cons {v vs d ds}:Rq P w h v d→RqAll P w h vs ds→RqAll P w h (v::vs) (d::ds)
end
section
variable {P:Program}{w:World}{s:Shared}
theorem RqAll.length {h:Heap}:∀ {vs:List Value} {ds:List PyData},RqAll P w h vs ds→vs.length=ds.length
 | _,_,.nil=>rfl
 | _,_,.cons _ b=>congrArg (·+1) (RqAll.length b)
theorem depthKv_snd:∀ kvs:List (PyData×PyData),PyData.depthAll (kvs.map (·.2))≤PyData.depthKv kvs
 | []=>Nat.le_refl _
 | (a,b)::r=>by
  have:=depthKv_snd r
  simp only[List.map_cons,PyData.depthAll,PyData.depthKv]
  omega
theorem keyPy_inj:∀ {a b:List Key},a.map keyPy=b.map keyPy→a=b
 | [],[],_=>rfl
 | [],_::_,h=>by cases h
 | _::_,[],h=>by cases h
 | x::a,y::b,h=>by
  simp only[List.map_cons,List.cons.injEq] at h
  have e:x=y:=by
   rcases x with x|x <;> rcases y with y|y
   ·have:=h.1;simp only[keyPy,PyData.int.injEq] at this;rw[this]
   ·have:=h.1;simp[keyPy] at this
   ·have:=h.1;simp[keyPy] at this
   ·have:=h.1;simp only[keyPy,PyData.str.injEq] at this;rw[this]
  rw[e,keyPy_inj h.2]
theorem hits_same {A:Around}{kb:List (Key×Value)}:∀ {ka:List (Key×Value)},(∀ (i:Nat) (k:Key) (v:Value),ka[i]?=some (k,v)→∃ y,PySem.valueAt kb k=some y∧EqP P w A s v y true)→PySem.W.KeqHitsP P w A s kb ka true
 | [],_=>.nil
 | (k,v)::r,h=>by
  obtain⟨y,h1,h2⟩:=h 0 k v rfl
  exact .hit (e:=true) (b:=true) h1 h2 (hits_same fun i k' v' q=>h (i+1) k' v' q)
theorem hits_zip {A:Around}{a:Addr}{vs vs':List (Key×Value)}(ek:vs.map (·.1)=vs'.map (·.1))(this:∀ (j:Nat) (h1:j<(vs.map (·.2)).length) (h2:j<(vs'.map (·.2)).length),EqP P w A s (vs.map (·.2))[j] (vs'.map (·.2))[j] true)
  (k2:s.heap.DictOf (mixKind P w) a vs'):PySem.W.KeqHitsP P w A s vs' vs true:=by
 have hl:vs.length=vs'.length:=by simpa using congrArg List.length ek
 have nd:(vs'.map (·.1)).Nodup:=by obtain⟨o,es,ep,_,_,_,_,_,z⟩:=k2;exact z
 refine hits_same fun i k v q=>?_
 have hi:i<vs.length:=(List.getElem?_eq_some_iff.mp q).1
 have hi':i<vs'.length:=hl▸hi
 have e1:vs[i]=(k,v):=(List.getElem?_eq_some_iff.mp q).2
 have e2:(vs'[i]).1=k:=by
  have:=congrArg (fun l=>l[i]?) ek
  simp only[List.getElem?_map,List.getElem?_eq_getElem hi,List.getElem?_eq_getElem hi',Option.map_some,Option.some.injEq] at this
  rw[←this,e1]
 refine⟨(vs'[i]).2,PySem.valueAt_of_get nd (i:=i) (by rw[List.getElem?_eq_getElem hi',←e2]),?_⟩
 have z:=this i (by simpa using hi) (by simpa using hi')
 simpa [e1] using z
mutual
theorem Rq.same:∀ {u u':Value} {p:PyData} (A:Around),Rq P w s.heap u p→Rq P w s.heap u' p→A.units+p.depth<cLine→EqP P w A s u u' true
 | _,_,_,A,.none,r,hu=>by cases r;exact(EqAt.same _).eqP
 | _,_,_,A,.bool b,r,hu=>by cases r;exact(EqAt.same _).eqP
 | _,_,_,A,.int i t,r,hu=>by
  cases r with
  | int _ t'=>have:=EqAt.int_int (A:=A) (s:=s) i t i t';simpa using this.eqP (prog:=P) (w:=w)
 | _,_,_,A,.str x t,r,hu=>by
  cases r with
  | str _ t'=>have:=EqAt.str_str (A:=A) (s:=s) x t x t';simpa using this.eqP (prog:=P) (w:=w)
 | _,_,_,A,.list (a:=a) (vs:=vs) h1 h2,r,hu=>by
  cases r with
  | list k1 k2 =>
   rename_i a' vs'
   by_cases e:a=a'
   ·subst e;exact(EqAt.same _).eqP
   ·have hz:vs.size=vs'.size:=by have:=h2.length;have:=k2.length;simp at *;omega
    have:=RqAll.same A.in1 h2 k2 (by simp only[PyData.depth] at hu;show A.units+1+_<cLine;omega)
    refine eqP_refs e fun E Q q=>rcP_lists h1 k1 hz (by omega) (e:=fun _=>true) (fun j h1 h2=>?_) E Q (by rw[show((List.range vs.size).all fun _=>true)=true from List.all_eq_true.mpr fun _ _=>rfl];exact q)
    have z:=this j (by simpa using h1) (by simpa using h2)
    rw[Array.getElem_toList,Array.getElem_toList] at z;exact z
 | _,_,_,A,.tuple (a:=a) (vs:=vs) h1 h2,r,hu=>by
  cases r with
  | tuple k1 k2 =>
   rename_i a' vs'
   by_cases e:a=a'
   ·subst e;exact(EqAt.same _).eqP
   ·have hz:vs.size=vs'.size:=by have:=h2.length;have:=k2.length;simp at *;omega
    have:=RqAll.same A.in1 h2 k2 (by simp only[PyData.depth] at hu;show A.units+1+_<cLine;omega)
    refine eqP_refs e fun E Q q=>rcP_tups h1 k1 hz (by omega) (fun j h1 h2=>?_) E Q q
    have z:=this j (by simpa using h1) (by simpa using h2)
    rw[Array.getElem_toList,Array.getElem_toList] at z;exact z
 | _,_,_,A,.dict (a:=a) (vs:=vs) (kvs:=kvs) h1 h2 h3 h4,r,hu=>by
  cases r with
  | dict k1 k2 k3 k4 =>
   rename_i a' vs'
   by_cases e:a=a'
   ·subst e;exact(EqAt.same _).eqP
   ·have ek:vs.map (·.1)=vs'.map (·.1):=keyPy_inj (by rw[List.map_map,List.map_map];exact h3.symm.trans k3)
    have hl:vs.length=vs'.length:=by simpa using congrArg List.length ek
    have:=RqAll.same A.in1 h4 k4 (by have:=depthKv_snd kvs;simp only[PyData.depth] at hu;show A.units+1+_<cLine;omega)
    exact eqP_refs e fun E Q q=>PySem.W.rcP_dicts h1 k1 h2 k2 (by omega) (r:=true) (fun _=>hits_zip ek this k2) E Q (by simpa [hl] using q)
theorem RqAll.same:∀ {us us':List Value} {ps:List PyData} (A:Around),RqAll P w s.heap us ps→RqAll P w s.heap us' ps→A.units+PyData.depthAll ps<cLine→∀ (j:Nat) (h1:j<us.length) (h2:j<us'.length),EqP P w A s us[j] us'[j] true
 | _,_,_,A,.nil,r,hu,j,h1,h2=>absurd h1 (Nat.not_lt_zero _)
 | _,_,_,A,.cons a b,r,hu,j,h1,h2=>by
  cases r with
  | cons a' b' =>
   have hd:=hu
   simp only[PyData.depthAll] at hd
   cases j with
   | zero=>exact Rq.same A a a' (by omega)
   | succ j=>exact RqAll.same A b b' (by omega) j (Nat.lt_of_succ_lt_succ h1) (Nat.lt_of_succ_lt_succ h2)
end
end
end DR
namespace DL
open PySem PySem.Spec PyProof.Rows L2 DR
section
variable {X:Cx}{pins:List (Addr×Obj)}{σ:L2.St}{H:Hp}{s:Shared}
mutual
theorem Rp.rq (I:Inv X pins σ H s):∀ {v:V} {d:D} {p:PyData} {u:Value},Rp X.K H v d→toPyK d=some p→L2.RelV v u→Rq X.prog X.w s.heap u p
 | _,_,_,_,.non,e,r=>by simp only[toPyK] at e;cases e;cases r;exact .none
 | _,_,_,_,.bl b,e,r=>by simp only[toPyK] at e;cases e;cases r;exact .bool b
 | _,_,_,_,.int i,e,r=>by simp only[toPyK] at e;cases e;obtain⟨t,rfl⟩:=r;exact .int i t
 | _,_,_,_,.str i,e,r=>by simp only[toPyK] at e;cases e;obtain⟨t,rfl⟩:=r;exact .str i t
 | _,_,_,_,.ty _,e,r=>by simp only[toPyK] at e;cases e
 | _,_,_,_,.ref _,e,r=>by simp only[toPyK] at e;cases e
 | _,_,_,_,.ins _ _ _ _ _,e,r=>by simp only[toPyK] at e;cases e
 | _,_,_,_,.er0 _,e,r=>by simp only[toPyK] at e;cases e
 | _,_,_,_,.err _ _ _ _,e,r=>by simp only[toPyK] at e;cases e
 | _,_,_,_,.tup (ds:=ds) h l,e,r=>by
  simp only[toPyK] at e
  cases q:toPyKL ds with
  | none=>rw[q] at e;cases e
  | some ps =>
   rw[q] at e;cases e;cases r
   obtain⟨its,rv,hi,_⟩:=I.tuple h
   exact .tuple hi (by simpa using RpL.rq I l q rv)
 | _,_,_,_,.lst (ds:=ds) h l,e,r=>by
  simp only[toPyK] at e
  cases q:toPyKL ds with
  | none=>rw[q] at e;cases e
  | some ps =>
   rw[q] at e;cases e;cases r
   obtain⟨its,rv,⟨o,n,ho,hc,hd,hdat⟩,_⟩:=I.list (.inl (.inl h))
   exact .list ⟨o,ho,hc,n,hdat⟩ (by simpa using RpL.rq I l q rv)
 | _,_,_,_,.fro (ds:=ds) h l,e,r=>by
  simp only[toPyK] at e
  cases q:toPyKL ds with
  | none=>rw[q] at e;cases e
  | some ps =>
   rw[q] at e;cases e;cases r
   obtain⟨its,rv,⟨o,n,ho,hc,hd,hdat⟩,_⟩:=I.list h
   exact .list ⟨o,ho,hc,n,hdat⟩ (by simpa using RpL.rq I l q rv)
 | _,_,_,_,.dct (ds:=ds) h k l,e,r=>by
  simp only[toPyK] at e
  cases q:toPyKv ds with
  | none=>rw[q] at e;cases e
  | some ps =>
   rw[q] at e;cases e;cases r
   obtain⟨h1,ks,h2,h3⟩:=toPyKv_ok q
   have step:∀ us,Vals _ us→RqAll X.prog X.w s.heap us (ps.map (·.2)):=fun us rv=>RpL.rq I l h1 rv
   rcases k with⟨ls,rfl,k2,rfl⟩|⟨_,ls,hne,rfl,_,_,_,_,k2,_⟩
   ·obtain⟨_,hsys,vs',rel,dd⟩:=dk_rd I.hok (.inr ⟨_,h⟩)
    have ek:ks=ls.map (·.1):=by
     have e2:ks.map Ky.k=(ls.map (·.1)).map Ky.k:=by rw[←h2,k2,List.map_map];rfl
     exact map_k_inj e2
    refine .dict hsys dd ?_ (step _ (kv_vals rel))
    rw[h3,ek,rel.keys,List.map_map];rfl
   ·cases ls with
    | nil=>exact absurd rfl hne
    | cons p ls =>
     rw[h2] at k2
     cases ks with
     | nil=>cases k2
     | cons k ks=>simp at k2
theorem RpL.rq (I:Inv X pins σ H s):∀ {vs:List V} {ds:List D} {ps:List PyData} {us:List Value},RpL X.K H vs ds→toPyKL ds=some ps→Vals vs us→RqAll X.prog X.w s.heap us ps
 | _,_,_,_,.nil,e,r=>by simp only[toPyKL] at e;cases e;cases r;exact .nil
 | _,_,_,_,.cons (d:=d) (ds:=ds) a b,e,r=>by
  simp only[toPyKL] at e
  cases q:toPyK d with
  | none=>rw[q] at e;cases e
  | some p =>
   rw[q] at e
   cases q2:toPyKL ds with
   | none=>rw[q2] at e;cases e
   | some ps =>
    rw[q2] at e;cases e
    cases r with
    | cons r1 r2=>exact .cons (Rp.rq I a q r1) (RpL.rq I b q2 r2)
end
end
end DL
namespace DR
open PySem PySem.Spec PySem.SeqAt PyProof.Rows L2 DL
theorem Rq.rc {P:Program}{w:World}{A:Around}{s:Shared}{u v:Value}{p:PyData}{Q:Value→Shared→Prop}{E:Value→Shared→Prop}(a:Rq P w s.heap u p)(b:Rq P w s.heap v p)(hu:A.units+p.depth<cLine)(q:Q (.bool true) s) :
  wpAny (model P w) A (compareOp .Eq u v) Q E s:=by
 cases a with
 | none=>cases b;exact RcAt.none_none P w E Q q
 | bool x=>cases b;exact RcAt.bool_bool x x P w E Q (by simpa using q)
 | int x t =>
  cases b with
  | int _ t'=>exact RcAt.int_int x t x t' P w E Q (by simpa using q)
 | str x t =>
  cases b with
  | str _ t'=>exact RcAt.str_str x t x t' P w E Q (by simpa using q)
 | list h1 h2 =>
  cases b with
  | list k1 k2 =>
   rename_i a vs xs a' vs'
   have hz:vs.size=vs'.size:=by have:=h2.length;have:=k2.length;simp at *;omega
   have:=RqAll.same A.in1 h2 k2 (by simp only[PyData.depth] at hu;show A.units+1+_<cLine;omega)
   refine rcP_lists h1 k1 hz (by omega) (e:=fun _=>true) (fun j h1 h2=>?_) E Q (by rw[show((List.range vs.size).all fun _=>true)=true from List.all_eq_true.mpr fun _ _=>rfl];exact q)
   have z:=this j (by simpa using h1) (by simpa using h2)
   rw[Array.getElem_toList,Array.getElem_toList] at z;exact z
 | tuple h1 h2 =>
  cases b with
  | tuple k1 k2 =>
   rename_i a vs xs a' vs'
   have hz:vs.size=vs'.size:=by have:=h2.length;have:=k2.length;simp at *;omega
   have:=RqAll.same A.in1 h2 k2 (by simp only[PyData.depth] at hu;show A.units+1+_<cLine;omega)
   refine rcP_tups h1 k1 hz (by omega) (fun j h1 h2=>?_) E Q q
   have z:=this j (by simpa using h1) (by simpa using h2)
   rw[Array.getElem_toList,Array.getElem_toList] at z;exact z
 | dict h1 h2 h3 h4 =>
  cases b with
  | dict k1 k2 k3 k4 =>
   rename_i a vs kvs a' vs'
   have ek:vs.map (·.1)=vs'.map (·.1):=keyPy_inj (by rw[List.map_map,List.map_map];exact h3.symm.trans k3)
   have hl:vs.length=vs'.length:=by simpa using congrArg List.length ek
   have:=RqAll.same A.in1 h4 k4 (by have:=depthKv_snd kvs;simp only[PyData.depth] at hu;show A.units+1+_<cLine;omega)
   exact PySem.W.rcP_dicts h1 k1 h2 k2 (by omega) (r:=true) (fun _=>hits_zip ek this k2) E Q (by simpa [hl] using q)
end DR
namespace DL
open PySem PySem.Spec PyProof.Rows L2 DR
def rSame (K:PySem.W.Frag):R2:=fun x y H Q=>∃ d d' p,Rp K H x d∧Rp K H y d'∧toPyK d=some p∧toPyK d'=some p∧p.depth≤64∧Q (.bl true) H
theorem op_same {X:Cx}(hu:X.A.units+64<cLine):OpR X (compareOp .Eq) (rSame X.K):=by
 intro pins s σ H x y v u Q I rx ry h
 obtain⟨d,d',p,h1,h2,e1,e2,hp,q⟩:=h
 exact(Rp.rq I h1 e1 rx).rc (Rp.rq I h2 e2 ry) (by omega) ⟨.bl true,H,I,rfl,q⟩
open Classical in
noncomputable def dSame (x y:DV)(μ:Mem):Res R:=match (peek μ x).bind toPyK with
 | some p=>if(peek μ y).bind toPyK=some p∧p.depth≤64 then .ok (.dat (.bl true)) μ else .bad
 | none=>.bad
theorem od_same {K:PySem.W.Frag}:OpD K (rSame K) dSame:=fun W ρ G H σ μ v w x y Q R hx hy hp=>by
 unfold dSame at hp
 cases e:peek μ x with
 | none=>rw[e] at hp;exact hp.elim
 | some d =>
  rw[e] at hp
  simp only[Option.bind_some] at hp
  cases e2:toPyK d with
  | none=>rw[e2] at hp;exact hp.elim
  | some p =>
   simp only[e2] at hp
   by_cases c:(peek μ y).bind toPyK=some p∧p.depth≤64
   ·rw[if_pos c] at hp
    obtain⟨c1,c2⟩:=c
    cases e3:peek μ y with
    | none=>rw[e3] at c1;cases c1
    | some d' =>
     rw[e3] at c1
     exact⟨d,d',p,peek_ok R hx e,peek_ok R hy e3,e2,c1,c2,hp.okD R (.bl _)⟩
   ·rw[if_neg c] at hp;exact hp.elim
end DL
namespace DL
open PySem PySem.Spec PyProof.Rows L2 DR
def altR {α:Type}(a b:Res α):Res α:=match a with
 | .bad=>b
 | r=>r
def alt2 (g g':DV→DV→Mem→Res R)(x y:DV)(μ:Mem):Res R:=altR (g x y μ) (g' x y μ)
def alt1 (g g':List DV→Mem→Res R)(xs:List DV)(μ:Mem):Res R:=altR (g xs μ) (g' xs μ)
theorem OpD.alt {K:PySem.W.Frag}{r r':R2}{g g':DV→DV→Mem→Res R}(h:OpD K r g)(h':OpD K r' g'):OpD K (fun x y H Q=>r x y H Q∨r' x y H Q) (alt2 g g'):=fun W ρ G H σ μ v w x y Q R hx hy hp=>by
 unfold alt2 altR at hp
 cases e:g x y μ with
 | bad=>rw[e] at hp;exact .inr (h' W ρ G H σ μ v w x y Q R hx hy hp)
 | ok a m=>rw[e] at hp;exact .inl (h W ρ G H σ μ v w x y Q R hx hy (by rw[e];exact hp))
 | exc a m=>rw[e] at hp;exact .inl (h W ρ G H σ μ v w x y Q R hx hy (by rw[e];exact hp))
theorem CallD.alt {K:PySem.W.Frag}{r r':List V→Hp→VK→Prop}{g g':List DV→Mem→Res R}(h:CallD K r g)(h':CallD K r' g'):CallD K (fun x H Q=>r x H Q∨r' x H Q) (alt1 g g'):=fun W ρ G H σ μ vs xs Q R hx hp=>by
 unfold alt1 altR at hp
 cases e:g xs μ with
 | bad=>rw[e] at hp;exact .inr (h' W ρ G H σ μ vs xs Q R hx hp)
 | ok a m=>rw[e] at hp;exact .inl (h W ρ G H σ μ vs xs Q R hx (by rw[e];exact hp))
 | exc a m=>rw[e] at hp;exact .inl (h W ρ G H σ μ vs xs Q R hx (by rw[e];exact hp))
theorem IxR.or {X:Cx}{r r':R2}(h:IxR X r)(h':IxR X r'):IxR X (fun x y H Q=>r x y H Q∨r' x y H Q) :=
 fun a b pins s σ H x y v u Q I rx ry q=>q.elim (h a b pins s σ H x y v u Q I rx ry) (h' a b pins s σ H x y v u Q I rx ry)
def rDG:R2:=fun x y H Q=>∃ a v,x=.ref a∧DGet H a y (some v)∧Q v H
theorem ix_dict {X:Cx}(hu:X.A.units+1<cLine):IxR X rDG:=by
 intro value slice pins s σ H x y v u Q I rx ry h hs
 obtain⟨a,z,rfl,g,q⟩:=h
 obtain rfl:v=Value.ref a:=rx
 have hT:=dict_typeIs I g
 unfold subscriptTail
 refine wpAny_bind ?_
 rw[getitemInPython_of_ne hT.not_modules]
 refine wpAny_bind (wpAny_specialOf hT PySem.F.slot_dict_getitem.lookup ?_)
 have last:wpAny (model X.prog X.w) X.A (subscripted slice false (.ref a) u) (fun r s3=>wpAny (model X.prog X.w) X.A (letTemporaryGo value (.ref a) r >>= fun _=>pure r) (EP X pins σ Q) X.xe s3) X.xe s:=by
  rw[hs]
  exact wpAny_operating (wpAny_mono (d_getItem hu I g ry fun w' s3 I3 rw'=>⟨z,H,I3,rw',q⟩) (fun r s3 h3=>wpAny_bind (wpAny_letTemporaryGo (wpAny_pure h3))) fun _ _ x=>x)
 first
  | exact wpAny_pure (wpAny_bind last)
  | exact wpAny_bind (wpAny_pure (wpAny_bind last))
  | exact wpAny_bind last
theorem od_dget {K:PySem.W.Frag}:OpD K rDG dGet:=fun W ρ G H σ μ v w x y Q R hx hy hp=>by
 unfold dGet at hp
 match e1:dctOf x μ,e2:keyD y with
 | none,_=>simp only[e1] at hp;exact hp.elim
 | some _,none=>simp only[e1,e2] at hp;exact hp.elim
 | some kvs,some k =>
  simp only[e1,e2] at hp
  by_cases hk:allK kvs=true
  case neg=>rw[if_neg hk] at hp;exact hp.elim
  rw[if_pos hk] at hp
  obtain⟨a,o,vs,rfl,h1,h2,h3⟩:=dctOf_ok R hx e1
  obtain⟨ls,rfl,hl⟩:=dK_of h2 h3 hk
  rcases prl_val (k:=k) hl with⟨_,q⟩|⟨v,z,q1,q2,q3⟩
  ·rw[q] at hp;exact hp.elim
  ·rw[q2] at hp
   exact⟨a,v,rfl,.inl ⟨ls,k,h1,keyD_ok hy e2,q1.symm⟩,hp.okV R q3⟩
def dIxA:DV→DV→Mem→Res R:=alt2 dIx dGet
theorem pm_idxA (K:PySem.W.Frag){X:Cx}{W:WX}{a b:Expr}{ta tb:TE}{fa fb:EM}{pos:Pos}(hu:X.A.units+64<cLine)(ha:PM X W a ta fa)(hb:PM X W b tb fb)(hs:PlainIx b)(hK:X.K=K:=by rfl) :
  PM X W (.Subscript a b pos) (tOp (fun x y H Q=>rIx K x y H Q∨rDG x y H Q) ta tb) (eOp dIxA fa fb):=by
 subst hK;exact pm_ix (IxR.or ix_seq (ix_dict (by omega))) (OpD.alt od_ix od_dget) ha hb hs
def sgn:Str→Option Nat
 | ⟨⟨[c]⟩⟩=>some c
 | _=>none
def dSgn (neg:Bool)(x y:DV)(μ:Mem):Res R:=match (asStr x).bind sgn,asStr y with
 | some c,some z=>.ok (.dat (.bl (decide (c∈z.cps.toList) != neg))) μ
 | _,_=>.bad
def dInA (neg:Bool):DV→DV→Mem→Res R:=alt2 (dIn neg) (alt2 (dInD neg) (dSgn neg))
noncomputable def dEqA:DV→DV→Mem→Res R:=alt2 dEq dSame
theorem od_eqA {K:PySem.W.Frag}:OpD K (fun x y H Q=>rEqQ K x y H Q∨rSame K x y H Q) dEqA:=OpD.alt od_eq od_same
theorem op_eqA (K:PySem.W.Frag){X:Cx}(h:X.A.units+64<cLine)(hK:X.K=K:=by rfl):OpR X (compareOp .Eq) (fun x y H Q=>rEqQ K x y H Q∨rSame K x y H Q):=by subst hK;exact OpR.or (op_eqQ h) (op_same h)
def dLenA:List DV→Mem→Res R:=alt1 (d1 dLen) (d1 dLenK)
theorem call_lenA (K:PySem.W.Frag){X:Cx}(hK:X.K=K:=by rfl):CallR X (.builtin "len") (fun xs H Q=>(∃ x n,xs=[x]∧LenV K x H n∧Q (V.int ↑n) H)∨rLenK xs H Q):=CallR.or (call_lenK K hK) cr_lenK
theorem cd_lenA {K:PySem.W.Frag}:CallD K (fun xs H Q=>(∃ x n,xs=[x]∧LenV K x H n∧Q (V.int (n:Nat)) H)∨rLenK xs H Q) dLenA:=CallD.alt cd_len cd_lenK
def dReprA:List DV→Mem→Res R:=alt1 (d1 dRepr) (d1 dReprD)
theorem cr_reprA (K:PySem.W.Frag){X:Cx}{k:Nat}(h:Room k X.A)(hg:X.A.guards=some [])(hK:X.K=K:=by rfl):CallR X (.builtin "repr") (fun xs H Q=>rRepr K xs H Q∨rReprD K xs H Q):=CallR.or (cr_reprK K h hg hK) (cr_reprDK K h hg hK)
theorem cd_reprA {K:PySem.W.Frag}:CallD K (fun xs H Q=>rRepr K xs H Q∨rReprD K xs H Q) dReprA:=CallD.alt cd_repr cd_reprD
def dListA:List DV→Mem→Res R:=alt1 (d1 dList) (d1 dListK)
theorem call_listA (K:PySem.W.Frag){X:Cx}(hc:X.calm=true)(hK:X.K=K:=by rfl):CallR X (.type "list") (fun xs H Q=>(∃ p ys,xs=[V.ref p]∧(SqL K H p ys∨SqT K H p ys)∧∀ (l:Addr),H l=none→Q (V.ref l) (upd H l (HO.lst ys)))∨rListK xs H Q):=CallR.or (call_list_ofK K hK) (call_listDK hc)
theorem cd_listA {K:PySem.W.Frag}:CallD K (fun xs H Q=>(∃ p ys,xs=[V.ref p]∧(SqL K H p ys∨SqT K H p ys)∧∀ (l:Addr),H l=none→Q (V.ref l) (upd H l (HO.lst ys)))∨rListK xs H Q) dListA:=CallD.alt cd_list cd_listK
def dPow:DV→DV→Mem→Res R:=d2I (fun i j=>decide (0≤j∧j≤1000000∧i.natAbs<2^64)) fun i j=>.int (i^j.toNat)
theorem od_pow {K:PySem.W.Frag}:OpD K (rI (fun i j=>0≤j∧j≤1000000∧i.natAbs<2^64) fun i j=>V.int (i^j.toNat)) dPow:=od_I (fun i j h=>of_decide_eq_true h) fun _ _ _=>.int _
end DL
namespace DL
open PySem PySem.Spec PyProof.Rows L2
abbrev xeL (X:Cx):Value→Shared→Prop:=fun e s1=>wpAny (model X.prog X.w) X.A (noteFrame e X.env) (fun _ s2=>wpAny (model X.prog X.w) X.A (setFlight e none) (fun _ _=>True) (fun _ _=>True) s2) (fun _ _=>True) s1
theorem takesL {X:Cx}{W:WX}{pn:List (Addr×Obj)}(hs:X.stack=X.env::X.outer)(hf:X.env.frame=some X.env.locals):Takes (X.tr pn (xeL X)) W:=fun u s' xx=>by
 obtain⟨a,B,sI,pins,σ,H,cls,d,rfl,J,nb,up,sky,na,os,ag,w⟩:=xx
 have fr:X.A.frames=some (X.env::X.outer):=by rw[←hs];exact J.ok.frames
 have sky':Sky B (X.env::X.outer) a (Zc cls d) X.env.locals s'.heap:=by rw[←hs];exact sky
 exact Sky.land Zc.steady fr hf sky' fun _ _ _=>trivial
theorem sm_try2 {X:Cx}{W:WX}{x n:Str}{c:Value}{i:Nat}{body suite:List Stmt}{b₀:Stmt}{np pos pos':Pos}{tb:WX→TS}{ts:Addr→Addr→Addr→TS}{gb:SM}{gs:Addr→Addr→Addr→SM}{cat:List (Str×Bool)}
  (hs:X.stack=X.env::X.outer) (hf:X.env.frame=some X.env.locals) (hN:X.N.Nodup) (hi:X.N[i]?=some n) (hln:X.env.kindOf n=some .local) (hc:Names X x c) (tk:Takes X W) (hcat:CatOk X.K c cat)
  (hb:∀ (W':WX) (pn:List (Addr×Obj)) (xe:Value→Shared→Prop),Takes (X.tr pn xe) W'→PassesOwn (model X.prog X.w) X.A X.env xe→PSMs (X.tr pn xe) W' body (tb W') gb)
  (hsu:∀ (a:Addr) (oe:Obj) (C dd:Addr) (pn:List (Addr×Obj)),Zc (.ref C) (some dd) oe→(∃ vs,oe.data=.fields vs)→PSMs (X.suite a ((a,oe)::pn)) W (b₀::suite) (ts a C dd) (gs a C dd)) :
  PSM X W (.Try body [.ExceptHandler (some (.Name x np)) (some n) (b₀::suite) pos'] [] [] pos) (fun D σ H=>tb (wAs X.K c i (tsOf ts) W D) D σ H) (gTry cat i gb gs) :=
 sm_try hs hf hN hi hln hc tk hcat hb (fun W'=>(hb W' [] (xeL X) (takesL hs hf) PassesOwn.looking).sd) hsu
def Sat {α:Type}(r:Res α)(Q:α→Mem→Prop)(E:Xc→Mem→Prop):Prop:=match r with
 | .ok a μ=>Q a μ
 | .exc x μ=>E x μ
 | .bad=>False
structure PO where
 nx:Env→Mem→Prop
 rt:R→Mem→Prop
 bk:Env→Mem→Prop
 ct:Env→Mem→Prop
 ex:Xc→Env→Mem→Prop
def SatS (o:Out)(P:PO):Prop:=match o with
 | .next δ μ=>P.nx δ μ
 | .ret r μ=>P.rt r μ
 | .brk δ μ=>P.bk δ μ
 | .cnt δ μ=>P.ct δ μ
 | .exc x δ μ=>P.ex x δ μ
 | .bad=>False
def TupK (xs:List DV)(Q:D→Prop):Prop:=∃ ds,allDat xs=some ds∧ds.length≤sizeLine∧Q (.tup ds)
def SeqK (x:DV)(Q:List D→Prop):Prop:=∃ ds,seqD x=some ds∧Q ds
def IntK (x:DV)(Q:Int→Prop):Prop:=∃ i,asI x=some i∧Q i
def StrK (x:DV)(Q:Str→Prop):Prop:=∃ i,asStr x=some i∧Q i
def ParK (xs:List DV)(Q:DV→DV→Prop):Prop:=∃ x y,xs=[x,y]∧Q x y
def TgtK (h:D→Env→Option Env)(δ:Env)(x:DV)(Q:Env→Prop):Prop:=∃ d δ',x=.dat d∧h d δ=some δ'∧Q δ'
section
variable {α β:Type}{Q:α→Mem→Prop}{QR:R→Mem→Prop}{QV:DV→Mem→Prop}{QA:List DV→Mem→Prop}{QB:Bool→Mem→Prop}{QO:Option Int→Mem→Prop}{QI:List D→Mem→Prop}{E:Xc→Mem→Prop}{P:PO}{δ:Env}{μ:Mem}{N:Nat}
theorem Sat.mono {r:Res α}{Q':α→Mem→Prop}{E':Xc→Mem→Prop}(h:Sat r Q E)(hq:∀ a μ,Q a μ→Q' a μ)(he:∀ x μ,E x μ→E' x μ):Sat r Q' E':=by
 cases r with
 | ok a μ=>exact hq a μ h
 | exc x μ=>exact he x μ h
 | bad=>exact h
theorem Sat.of_eq {r:Res α}{a:α}(e:r=.ok a μ)(h:Q a μ):Sat r Q E:=by rw[e];exact h
theorem Sat.eq {r:Res α}{a:α}(h:Sat r (fun x μ'=>x=a∧μ'=μ) (fun _ _=>False)):r=.ok a μ:=by
 cases r with
 | ok b μ1=>obtain⟨rfl,rfl⟩:=h;rfl
 | exc x μ1=>exact h.elim
 | bad=>exact h.elim
theorem sat_bind {r:Res α}{k:α→Mem→Res β}{Q':β→Mem→Prop}(h:Sat r (fun a μ=>Sat (k a μ) Q' E) E):Sat (r.bind k) Q' E:=by
 cases r with
 | ok a μ=>exact h
 | exc x μ=>exact h
 | bad=>exact h
theorem sat_lift {r:Res α}{k:α→Mem→Out}(h:Sat r (fun a μ=>SatS (k a μ) P) (fun x μ=>P.ex x δ μ)):SatS (lift r δ k) P:=by
 cases r with
 | ok a μ=>exact h
 | exc x μ=>exact h
 | bad=>exact h
def FzK (r:R)(μ:Mem)(QV:DV→Mem→Prop):Prop:=match frz r with
 | some x=>QV x μ
 | none=>False
theorem x_fz {f:EM}(h:Sat (f δ μ) (fun r μ'=>FzK r μ' QV) E):Sat (frzV f δ μ) QV E:=by
 refine sat_bind (h.mono (fun r μ' q=>?_) fun _ _ q=>q)
 unfold FzK at q
 cases e:frz r with
 | none=>rw[e] at q;exact q.elim
 | some x=>rw[e] at q;exact q
theorem z_dat {d:D}(h:QV (.dat d) μ):FzK (.dat d) μ QV:=h
theorem z_loc {n:Nat}(h:QV (.loc n) μ):FzK (.loc n) μ QV:=h
theorem z_nl {xs:List DV}{ds:List D}(e:allDat xs=some ds)(h:QV (.dat (.lst ds)) μ):FzK (.nl xs) μ QV:=by unfold FzK frz;simp only;rw[e];exact h
theorem z_nlm {ds:List D}(h:QV (.dat (.lst ds)) μ):FzK (.nl (ds.map DV.dat)) μ QV:=z_nl (allDat_map ds) h
theorem allDat_mapf {γ:Type}(f:γ→D)(ys:List γ):allDat (ys.map fun y=>.dat (f y))=some (ys.map f):=by
 have:=allDat_map (ys.map f);rw[List.map_map] at this;exact this
theorem z_nlf {γ:Type}{f:γ→D}{ys:List γ}(h:QV (.dat (.lst (ys.map f))) μ):FzK (.nl (ys.map fun y=>.dat (f y))) μ QV:=z_nl (allDat_mapf f ys) h
theorem z_nlc {γ:Type}{f:γ→D}{ys:List γ}(h:QV (.dat (.lst (ys.map f))) μ):FzK (.nl (ys.map (DV.dat∘f))) μ QV:=z_nl (allDat_mapf f ys) h
theorem v_var {i:Nat}{x:DV}(e:δ[i]?=some (some x))(h:QV x μ):Sat (frzV (eVar i) δ μ) QV E:=by rw[fz_var e];exact h
theorem v_D {d:D}(h:QV (.dat d) μ):Sat (frzV (eD d) δ μ) QV E:=h
theorem x_var {i:Nat}{x:DV}(e:δ[i]?=some (some x))(h:QR (ofV x) μ):Sat (eVar i δ μ) QR E:=by rw[ev_var e];exact h
theorem x_D {d:D}(h:QR (.dat d) μ):Sat (eD d δ μ) QR E:=h
theorem a_nilK (h:QA [] μ):Sat (aNil δ μ) QA E:=h
theorem a_consK {f:EM}{g:AM}(h:Sat (frzV f δ μ) (fun x μ1=>Sat (g δ μ1) (fun xs μ2=>QA (x::xs) μ2) E) E):Sat (aCons f g δ μ) QA E :=
 sat_bind (h.mono (fun x μ1 q=>sat_bind q) fun _ _ q=>q)
theorem x_tup {g:AM}(h:Sat (g δ μ) (fun xs μ1=>TupK xs fun d=>QR (.dat d) μ1) E):Sat (eTup g δ μ) QR E:=by
 refine sat_bind (h.mono (fun xs μ1 q=>?_) fun _ _ q=>q)
 obtain⟨ds,e,hl,q⟩:=q
 rw[e];simp only;rw[if_pos hl];exact q
theorem x_lst {g:AM}(h:Sat (g δ μ) (fun xs μ1=>xs.length≤sizeLine∧QR (.nl xs) μ1) E):Sat (eLst g δ μ) QR E:=by
 refine sat_bind (h.mono (fun xs μ1 q=>?_) fun _ _ q=>q)
 rw[if_pos q.1];exact q.2
theorem x_op {g:DV→DV→Mem→Res R}{fa fb:EM}(h:Sat (frzV fa δ μ) (fun x μ1=>Sat (frzV fb δ μ1) (fun y μ2=>Sat (g x y μ2) QR E) E) E):Sat (eOp g fa fb δ μ) QR E :=
 sat_bind (h.mono (fun x μ1 q=>sat_bind q) fun _ _ q=>q)
theorem x_cb {g:List DV→Mem→Res R}{fa:AM}(h:Sat (fa δ μ) (fun xs μ1=>Sat (g xs μ1) QR E) E):Sat (eCB g fa δ μ) QR E:=sat_bind h
theorem x_un {g:DV→Mem→Res R}{f:EM}(h:Sat (frzV f δ μ) (fun x μ1=>Sat (g x μ1) QR E) E):Sat (eUn g f δ μ) QR E:=sat_bind h
theorem x_bm {c:DV→Mem→Bool}{g:DV→List DV→Mem→Res R}{f:EM}{fa:AM}(h:Sat (frzV f δ μ) (fun x μ1=>c x μ1=true∧Sat (fa δ μ1) (fun xs μ2=>Sat (g x xs μ2) QR E) E) E):Sat (eBM c g f fa δ μ) QR E:=by
 refine sat_bind (h.mono (fun x μ1 q=>?_) fun _ _ q=>q)
 rw[if_pos q.1];exact sat_bind q.2
theorem x_bm0 {c:DV→Mem→Bool}{g:DV→List DV→Mem→Res R}{f:EM}(h:Sat (frzV f δ μ) (fun x μ1=>c x μ1=true∧Sat (g x [] μ1) QR E) E):Sat (eBM0 c g f δ μ) QR E:=by
 refine sat_bind (h.mono (fun x μ1 q=>?_) fun _ _ q=>q)
 rw[if_pos q.1];exact q.2
def BlK (r:R)(μ:Mem)(QB:Bool→Mem→Prop):Prop:=match asB r with
 | some b=>QB b μ
 | none=>False
theorem b_bl {b:Bool}(h:QB b μ):BlK (.dat (.bl b)) μ QB:=h
theorem BlK.ex {r:R}(h:BlK r μ QB):∃ b,r=.dat (.bl b)∧asB r=some b∧QB b μ:=by
 unfold BlK at h
 match r with
 | .dat (.bl b)=>exact⟨b,rfl,rfl,h⟩
 | .dat .non=>exact h.elim
 | .dat (.int _)=>exact h.elim
 | .dat (.str _)=>exact h.elim
 | .dat (.ty _)=>exact h.elim
 | .dat (.ref _)=>exact h.elim
 | .dat (.tup _)=>exact h.elim
 | .dat (.lst _)=>exact h.elim
 | .dat (.fro _)=>exact h.elim
 | .dat (.dct _)=>exact h.elim
 | .dat (.ins _ _)=>exact h.elim
 | .loc _=>exact h.elim
 | .nl _=>exact h.elim
 | .nk _=>exact h.elim
theorem t_B {f:EM}(h:Sat (f δ μ) (fun r μ'=>BlK r μ' QB) E):Sat (tmB f δ μ) QB E:=by
 refine sat_bind (h.mono (fun r μ1 q=>?_) fun _ _ q=>q)
 obtain⟨b,rfl,_,q⟩:=q.ex;exact q
theorem t_not {f:TM}(h:Sat (f δ μ) (fun b μ'=>QB (!b) μ') E):Sat (tmNot f δ μ) QB E:=sat_bind h
theorem t_and {f g:TM}(h:Sat (f δ μ) (fun b μ'=>if b=true then Sat (g δ μ') QB E else QB false μ') E):Sat (tmAnd f g δ μ) QB E:=by
 refine sat_bind (h.mono (fun b μ1 q=>?_) fun _ _ q=>q)
 cases b <;> exact q
theorem t_or {f g:TM}(h:Sat (f δ μ) (fun b μ'=>if b=true then QB true μ' else Sat (g δ μ') QB E) E):Sat (tmOr f g δ μ) QB E:=by
 refine sat_bind (h.mono (fun b μ1 q=>?_) fun _ _ q=>q)
 cases b <;> exact q
theorem t_yes (h:QB true μ):Sat (tmYes δ μ) QB E:=h
theorem x_and {f g:EM}(h:Sat (f δ μ) (fun r μ'=>BlK r μ' fun b μ'=>if b=true then Sat (g δ μ') QR E else QR (.dat (.bl false)) μ') E):Sat (eAnd f g δ μ) QR E:=by
 refine sat_bind (h.mono (fun r μ1 q=>?_) fun _ _ q=>q)
 obtain⟨b,rfl,_,q⟩:=q.ex;cases b <;> exact q
theorem x_or {f g:EM}(h:Sat (f δ μ) (fun r μ'=>BlK r μ' fun b μ'=>if b=true then QR (.dat (.bl true)) μ' else Sat (g δ μ') QR E) E):Sat (eOr f g δ μ) QR E:=by
 refine sat_bind (h.mono (fun r μ1 q=>?_) fun _ _ q=>q)
 obtain⟨b,rfl,_,q⟩:=q.ex;cases b <;> exact q
theorem x_not {f:EM}(h:Sat (f δ μ) (fun r μ'=>BlK r μ' fun b μ'=>QR (.dat (.bl (!b))) μ') E):Sat (eNot f δ μ) QR E:=by
 refine sat_bind (h.mono (fun r μ1 q=>?_) fun _ _ q=>q)
 obtain⟨b,rfl,_,q⟩:=q.ex;exact q
theorem x_if {f:TM}{g h:EM}(k:Sat (f δ μ) (fun b μ'=>if b=true then Sat (g δ μ') QR E else Sat (h δ μ') QR E) E):Sat (eIf f g h δ μ) QR E:=by
 refine sat_bind (k.mono (fun b μ1 q=>?_) fun _ _ q=>q)
 cases b <;> exact q
theorem x_isN {f:EM}(h:Sat (frzV f δ μ) (fun x μ'=>QR (.dat (.bl (isNon x))) μ') E):Sat (eIsN f δ μ) QR E:=sat_bind h
theorem x_notN {f:EM}(h:Sat (frzV f δ μ) (fun x μ'=>QR (.dat (.bl (!isNon x))) μ') E):Sat (eNotN f δ μ) QR E:=sat_bind h
theorem o_noneK (h:QO none μ):Sat (oNone δ μ) QO E:=h
theorem o_someK {f:EM}(h:Sat (frzV f δ μ) (fun x μ'=>IntK x fun i=>QO (some i) μ') E):Sat (oSome f δ μ) QO E:=by
 refine sat_bind (h.mono (fun x μ1 q=>?_) fun _ _ q=>q)
 obtain⟨i,e,q⟩:=q;rw[e];exact q
theorem x_sl {f:EM}{lo hi:OM}(h:Sat (frzV f δ μ) (fun x μ1=>Sat (lo δ μ1) (fun l μ2=>Sat (hi δ μ2) (fun u μ3=>Sat (dSl x l u μ3) QR E) E) E) E):Sat (eSl f lo hi δ μ) QR E :=
 sat_bind (h.mono (fun _ _ q=>sat_bind (q.mono (fun _ _ q=>sat_bind q) fun _ _ q=>q)) fun _ _ q=>q)
theorem x_chain {g g':DV→DV→Mem→Res R}{fa fb fc:EM}(h:Sat (frzV fa δ μ) (fun x μ1=>Sat (frzV fb δ μ1) (fun y μ2=>Sat (g x y μ2) (fun r μ3=>BlK r μ3 fun b μ3=>if b=true then Sat (frzV fc δ μ3) (fun z μ4=>Sat (g' y z μ4) QR E) E else QR (.dat (.bl false)) μ3) E) E) E) :
  Sat (eChain g g' fa fb fc δ μ) QR E:=by
 refine sat_bind (h.mono (fun _ _ q=>sat_bind (q.mono (fun _ _ q=>sat_bind (q.mono (fun r _ q=>?_) fun _ _ q=>q)) fun _ _ q=>q)) fun _ _ q=>q)
 obtain⟨b,rfl,_,q⟩:=q.ex;cases b
 ·exact q
 ·exact sat_bind q
theorem x_inK {neg:Bool}{ks:List Str}{f:EM}(h:Sat (frzV f δ μ) (fun x μ'=>StrK x fun z=>QR (.dat (.bl (if neg=true then !(ks.any fun k=>decide (k=z)) else ks.any fun k=>decide (k=z)))) μ') E):Sat (eInK neg ks f δ μ) QR E:=by
 refine sat_bind (h.mono (fun x μ1 q=>?_) fun _ _ q=>q)
 obtain⟨i,e,q⟩:=q;rw[e];exact q
theorem i_seq {f:EM}(h:Sat (frzV f δ μ) (fun x μ'=>SeqK x fun ds=>QI ds μ') E):Sat (imSeq f δ μ) QI E:=by
 refine sat_bind (h.mono (fun x μ1 q=>?_) fun _ _ q=>q)
 obtain⟨ds,e,q⟩:=q;rw[e];exact q
theorem i_enum {f:EM}(h:Sat (frzV f δ μ) (fun x μ'=>SeqK x fun ds=>QI (enumD 0 ds) μ') E):Sat (imEnum (aCons f aNil) δ μ) QI E:=by
 refine sat_bind (sat_bind (h.mono (fun x μ1 q=>?_) fun _ _ q=>q))
 obtain⟨ds,e,q⟩:=q
 show Sat (match seqD x with|some ds=>_|none=>_) _ _
 rw[e];exact q
theorem i_rng {f:EM}(h:Sat (frzV f δ μ) (fun x μ'=>IntK x fun j=>(-2^62≤j∧j<2^62)∧QI (rngD 0 j.toNat) μ') E):Sat (imRng (aCons f aNil) δ μ) QI E:=by
 refine sat_bind (sat_bind (h.mono (fun x μ1 q=>?_) fun _ _ q=>q))
 obtain⟨j,e,hj,q⟩:=q
 show Sat (match asI x with|some j=>_|none=>_) _ _
 rw[e];simp only;rw[if_pos hj];exact q
theorem i_rng2 {f g:EM}(h:Sat (frzV f δ μ) (fun x μ1=>Sat (frzV g δ μ1) (fun y μ'=>IntK x fun i=>IntK y fun j=>(-2^62≤i∧i<2^62∧-2^62≤j∧j<2^62)∧QI (rngD i (j-i).toNat) μ') E) E):Sat (imRng2 (aCons f (aCons g aNil)) δ μ) QI E:=by
 refine sat_bind (sat_bind (h.mono (fun x μ1 q=>sat_bind (sat_bind (q.mono (fun y μ2 q=>?_) fun _ _ q=>q))) fun _ _ q=>q))
 obtain⟨i,e,j,e2,hj,q⟩:=q
 show Sat (match asI x,asI y with|some i,some j=>_|_,_=>_) _ _
 rw[e,e2];simp only;rw[if_pos hj];exact q
theorem x_lc {fi:IM}{h:D→Env→Option Env}{ft:TM}{fe:EM}{vs:List Nat}(k:Sat (fi δ μ) (fun ds μ1=>ds.length≤sizeLine∧Sat (lcL h ft fe (wipeE δ vs) ds μ1) (fun ys μ2=>QR (.nl ys) μ2) E) E):Sat (eLc fi h ft fe vs δ μ) QR E:=by
 refine sat_bind (k.mono (fun ds μ1 q=>?_) fun _ _ q=>q)
 rw[if_pos q.1];exact sat_bind q.2
theorem lc_mapK {γ:Type}{h:D→Env→Option Env}{fe:EM}{xs:List γ}{enc:γ→D}(y:γ→D)(hx:∀ x∈xs,∃ δ1,h (enc x) δ=some δ1∧Sat (frzV fe δ1 μ) (fun r μ'=>r=.dat (y x)∧μ'=μ) (fun _ _=>False))(hq:QA (xs.map fun x=>.dat (y x)) μ):Sat (lcL h tmYes fe δ (xs.map enc) μ) QA E:=by
 have:lcL h tmYes fe δ (xs.map enc) μ=.ok (xs.map fun x=>.dat (y x)) μ:=by
  clear hq
  induction xs with
  | nil=>rfl
  | cons x xs ih =>
   obtain⟨δ1,h1,h2⟩:=hx x List.mem_cons_self
   have h2:=h2.eq
   simp only[List.map_cons,lcL,h1,tmYes,h2,ih fun z hz=>hx z (List.mem_cons_of_mem _ hz),Res.bind]
 rw[this];exact hq
theorem s_seq {g h:SM}(k:SatS (g N δ μ) { P with nx:=fun δ μ=>SatS (h N δ μ) P }):SatS (gSeq g h N δ μ) P:=by
 unfold gSeq
 cases e:g N δ μ <;> rw[e] at k <;> exact k
theorem s_next (h:P.nx δ μ):SatS (gNext N δ μ) P:=h
theorem s_asg {i:Nat}{f:EM}(h:Sat (frzV f δ μ) (fun x μ'=>P.nx (δ.set i (some x)) μ') (fun x μ=>P.ex x δ μ)):SatS (gAsg i f N δ μ) P:=sat_lift h
theorem s_drop {f:EM}(h:Sat (f δ μ) (fun _ μ'=>P.nx δ μ') (fun x μ=>P.ex x δ μ)):SatS (gDrop f N δ μ) P:=sat_lift h
theorem s_ret {f:EM}(h:Sat (f δ μ) (fun r μ'=>P.rt r μ') (fun x μ=>P.ex x δ μ)):SatS (gRet f N δ μ) P:=sat_lift h
theorem s_if {f:TM}{g h:SM}(k:Sat (f δ μ) (fun b μ'=>if b=true then SatS (g N δ μ') P else SatS (h N δ μ') P) (fun x μ=>P.ex x δ μ)):SatS (gIf f g h N δ μ) P:=by
 refine sat_lift (k.mono (fun b μ' q=>?_) fun _ _ q=>q)
 cases b <;> exact q
theorem s_new {i:Nat}{f:EM}(h:Sat (f δ μ) (fun r μ'=>SatS (bindR N i r δ μ') P) (fun x μ=>P.ex x δ μ)):SatS (gNew i f N δ μ) P:=sat_lift h
theorem r_dat {i:Nat}{d:D}(h:P.nx (δ.set i (some (.dat d))) μ):SatS (bindR N i (.dat d) δ μ) P:=h
theorem r_loc {i n:Nat}(h:P.nx (δ.set i (some (.loc n))) μ):SatS (bindR N i (.loc n) δ μ) P:=h
theorem r_nl {i:Nat}{xs:List DV}(hN:N≤μ.length)(h:P.nx (δ.set i (some (.loc μ.length))) (μ++[.lst xs])):SatS (bindR N i (.nl xs) δ μ) P:=by
 unfold bindR;simp only;rw[if_pos hN];exact h
theorem s_tgt {h:D→Env→Option Env}{f:EM}(k:Sat (frzV f δ μ) (fun x μ'=>TgtK h δ x fun δ'=>P.nx δ' μ') (fun x μ=>P.ex x δ μ)):SatS (gTgt h f N δ μ) P:=by
 refine sat_lift (k.mono (fun x μ' q=>?_) fun _ _ q=>q)
 obtain⟨d,δ',rfl,e,q⟩:=q
 simp only;rw[e];exact q
theorem s_par {i j:Nat}{fa:AM}(h:Sat (fa δ μ) (fun xs μ'=>ParK xs fun x y=>P.nx ((δ.set i (some x)).set j (some y)) μ') (fun x μ=>P.ex x δ μ)):SatS (gPar i j fa N δ μ) P:=by
 refine sat_lift (h.mono (fun xs μ' q=>?_) fun _ _ q=>q)
 obtain⟨x,y,rfl,q⟩:=q;exact q
theorem s_par2 {i j:Nat}{f g:EM}(h:Sat (f δ μ) (fun r μ1=>∃ δ1 μ2,bindR N i r δ μ1=.next δ1 μ2∧Sat (g δ μ2) (fun r2 μ3=>SatS (bindR N j r2 δ1 μ3) P) (fun x μ=>P.ex x δ μ)) (fun x μ=>P.ex x δ μ)):SatS (gPar2 i j f g N δ μ) P:=by
 refine sat_lift (h.mono (fun r μ' q=>?_) fun _ _ q=>q)
 obtain⟨δ1,μ2,e,q⟩:=q
 rw[e];exact sat_lift q
theorem s_aug {i:Nat}{op:Int→Int→Int}{fe:EM}{a:Int}(e:δ[i]?=some (some (.dat (.int a))))(h:Sat (frzV fe δ μ) (fun y μ'=>IntK y fun b=>P.nx (δ.set i (some (.dat (.int (op a b))))) μ') (fun x μ=>P.ex x δ μ)):SatS (gAug i op fe N δ μ) P:=by
 unfold gAug;rw[e]
 show SatS (lift (frzV fe δ μ) δ fun y μ'=>match asI y with|some b=>Out.next (δ.set i (some (.dat (.int (op a b))))) μ' | none=>.bad) P
 refine sat_lift (h.mono (fun y μ' q=>?_) fun _ _ q=>q)
 obtain⟨b,e,q⟩:=q;rw[e];exact q
theorem s_set {fo fi fe:EM}(h:Sat (frzV fe δ μ) (fun y μ1=>Sat (frzV fo δ μ1) (fun x μ2=>Sat (frzV fi δ μ2) (fun i μ3=>∃ μ4,setPl μ3 x i y=some μ4∧P.nx δ μ4) (fun x μ=>P.ex x δ μ)) (fun x μ=>P.ex x δ μ)) (fun x μ=>P.ex x δ μ)):SatS (gSet fo fi fe N δ μ) P:=by
 refine sat_lift (sat_bind (h.mono (fun y μ1 q=>sat_bind (q.mono (fun x μ2 q=>sat_bind (q.mono (fun i μ3 q=>?_) fun _ _ q=>q)) fun _ _ q=>q)) fun _ _ q=>q))
 obtain⟨μ4,e,q⟩:=q;rw[e];exact q
theorem s_disp {i:Nat}{f:NM}(h:Sat (f N δ μ) (fun xs μ1=>xs.length≤sizeLine∧SatS (bindR N i (.nl xs) δ μ1) P) (fun x μ=>P.ex x δ μ)):SatS (gDisp i f N δ μ) P:=by
 unfold gDisp
 cases e:f N δ μ with
 | ok xs μ1=>rw[e] at h;simp only;rw[if_pos h.1];exact h.2
 | exc x μ1=>rw[e] at h;exact h
 | bad=>rw[e] at h;exact h.elim
def NpK (N:Nat)(r:R)(μ:Mem)(QV:DV→Mem→Prop):Prop:=match newPl N r μ with
 | none=>False
 | some (x,μ2)=>QV x μ2
theorem n_nilK (h:QA [] μ):Sat (nNil N δ μ) QA E:=h
theorem n_consK {f:EM}{g:NM}(h:Sat (f δ μ) (fun r μ1=>NpK N r μ1 fun x μ2=>Sat (g N δ μ2) (fun xs μ3=>QA (x::xs) μ3) E) E):Sat (nCons f g N δ μ) QA E:=by
 refine sat_bind (h.mono (fun r μ1 q=>?_) fun _ _ q=>q)
 unfold NpK at q
 cases e:newPl N r μ1 with
 | none=>rw[e] at q;exact q.elim
 | some p=>rw[e] at q;exact sat_bind q
theorem p_dat {d:D}(h:QV (.dat d) μ):NpK N (.dat d) μ QV:=h
theorem p_loc {n:Nat}(h:QV (.loc n) μ):NpK N (.loc n) μ QV:=h
theorem p_nl {xs:List DV}(hN:N≤μ.length)(h:QV (.loc μ.length) (μ++[.lst xs])):NpK N (.nl xs) μ QV:=by
 unfold NpK newPl;simp only;rw[if_pos hN];exact h
def ClK (N:Nat)(r:R)(μ:Mem)(QR:R→Mem→Prop)(E:Xc→Mem→Prop):Prop:=Sat (closeR N r μ) QR E
abbrev endP (N:Nat)(QR:R→Mem→Prop)(E:Xc→Mem→Prop):PO :=
 { nx:=fun _ μ'=>QR (.dat .non) (μ'.take N),rt:=fun r μ'=>ClK N r μ' QR E,bk:=fun _ _=>False,ct:=fun _ _=>False,ex:=fun x _ μ'=>E x (μ'.take N) }
theorem x_call {g:SM}{n m:Nat}{args:List DV}(hn:args.length=n)(h:SatS (g μ.length (args.map some++List.replicate m none) μ) (endP μ.length QR E)):Sat (callD g n m args μ) QR E:=by
 unfold callD;rw[if_pos hn];unfold callF
 cases e:g μ.length (args.map some++List.replicate m none) μ <;> rw[e] at h <;> exact h
theorem k_dat {d:D}{μ':Mem}(e:μ'.take N=μ)(h:QR (.dat d) μ):ClK N (.dat d) μ' QR E:=by unfold ClK;rw[close_dat e];exact h
theorem k_nl {xs:List DV}{μ':Mem}(e:μ'.take N=μ)(hb:belowA N xs=true)(h:QR (.nl xs) μ):ClK N (.nl xs) μ' QR E:=by
 unfold ClK closeR;simp only;rw[if_pos hb,e];exact h
theorem below_map (ds:List D):belowA N (ds.map DV.dat)=true:=by
 unfold belowA;rw[List.all_eq_true];intro x hx
 obtain⟨d,_,rfl⟩:=List.mem_map.mp hx;rfl
theorem below_mapf {γ:Type}(f:γ→D)(ys:List γ):belowA N (ys.map fun y=>.dat (f y))=true:=by
 unfold belowA;rw[List.all_eq_true];intro x hx
 obtain⟨d,_,rfl⟩:=List.mem_map.mp hx;rfl
theorem k_nlf {γ:Type}{f:γ→D}{ys:List γ}{μ':Mem}(e:μ'.take N=μ)(h:QR (.nl (ys.map fun y=>.dat (f y))) μ):ClK N (.nl (ys.map fun y=>.dat (f y))) μ' QR E:=k_nl e (below_mapf f ys) h
theorem k_locN {n:Nat}{xs:List DV}{μ':Mem}(e:μ'.take N=μ)(hn:N≤n)(hx:μ'[n]?=some (.lst xs))(hb:belowA N xs=true)(h:QR (.nl xs) μ):ClK N (.loc n) μ' QR E:=by
 unfold ClK closeR;simp only;rw[if_neg (by omega),hx];simp only;rw[if_pos hb,e];exact h
theorem s_for {ks:List Bool}{fi:IM}{h:D→Env→Option Env}{gb:SM}(k:Sat (fi δ μ) (fun ds μ'=>SatS (forL μ'.length ks h gb N ds δ μ') P) (fun x μ=>P.ex x δ μ)):SatS (gFor ks fi h gb N δ μ) P:=sat_lift k
theorem for_inv {M:Nat}{ks:List Bool}{h:D→Env→Option Env}{gb:SM}{ds:List D}(I:Nat→Env→Mem→Prop)(h0:I 0 δ μ)
  (ht:∀ i d,ds[i]?=some d→∀ δ μ,I i δ μ→∃ δ1,h d δ=some δ1∧SatS (gb N δ1 μ) { nx:=fun δ' μ'=>I (i+1) (cut M ks δ') (μ'.take M),ct:=fun δ' μ'=>I (i+1) (cut M ks δ') (μ'.take M),bk:=fun δ' μ'=>P.nx (cut M ks δ') (μ'.take M),rt:=P.rt,ex:=P.ex })
  (he:∀ δ μ,I ds.length δ μ→P.nx δ μ):SatS (forL M ks h gb N ds δ μ) P:=by
 have key:∀ (n:Nat) (i:Nat) (δ:Env) (μ:Mem),i+n=ds.length→I i δ μ→SatS (forL M ks h gb N (ds.drop i) δ μ) P:=by
  intro n
  induction n with
  | zero =>
   intro i δ μ hi hI
   rw[List.drop_of_length_le (by omega)]
   have:i=ds.length:=by omega
   subst this
   exact he δ μ hI
  | succ n ih =>
   intro i δ μ hi hI
   have hl:i<ds.length:=by omega
   rw[List.drop_eq_getElem_cons hl]
   obtain⟨δ1,h1,h2⟩:=ht i ds[i] (List.getElem?_eq_getElem hl) δ μ hI
   simp only[forL,h1]
   cases e:gb N δ1 μ with
   | next δ' μ'=>rw[e] at h2;exact ih (i+1) _ _ (by omega) h2
   | cnt δ' μ'=>rw[e] at h2;exact ih (i+1) _ _ (by omega) h2
   | brk δ' μ'=>rw[e] at h2;exact h2
   | ret r μ'=>rw[e] at h2;exact h2
   | exc x δ' μ'=>rw[e] at h2;exact h2
   | bad=>rw[e] at h2;exact h2
 have:=key ds.length 0 δ μ (by omega) h0
 rw[List.drop_zero] at this;exact this
theorem s_wh {fuel:Nat}{ks:List Bool}{ft:TM}{gb:SM}(k:SatS (whL μ.length ks ft gb N fuel δ μ) P):SatS (gWh fuel ks ft gb N δ μ) P:=k
end
section
variable {QR:R→Mem→Prop}{E:Xc→Mem→Prop}{P:PO}{δ:Env}{μ:Mem}{N n:Nat}{i j:Int}{s t:Str}{ds es:List D}{xs ys:List DV}{Q Q':Prop}
theorem sl_sz {α:Type}{l:List α}(h:l.length≤1000000):l.length≤sizeLine:=Nat.le_trans h (by decide)
theorem sz_lit {n:Nat}(h:Nat.ble n 1000000=true):n≤sizeLine:=Nat.le_trans (Nat.le_of_ble_eq_true h) (by decide)
theorem if_T (h:Q):if true=true then Q else Q':=h
theorem if_F (h:Q'):if false=true then Q else Q':=h
theorem if_dec {p:Prop}[Decidable p](h1:p→Q)(h2:¬p→Q'):if decide p=true then Q else Q':=by
 by_cases h:p
 ·rw[if_pos (decide_eq_true h)];exact h1 h
 ·rw[if_neg (by simpa using h)];exact h2 h
theorem if_ndec {p:Prop}[Decidable p](h1:¬p→Q)(h2:p→Q'):if(!decide p)=true then Q else Q':=by
 by_cases h:p
 ·rw[if_neg (by simpa using h)];exact h2 h
 ·rw[if_pos (by simpa using h)];exact h1 h
theorem tk {ds:List D}{Q:D→Prop}(e:allDat xs=some ds)(hl:ds.length≤sizeLine)(h:Q (.tup ds)):TupK xs Q:=⟨ds,e,hl,h⟩
theorem sk_l {Q:List D→Prop}(h:Q ds):SeqK (.dat (.lst ds)) Q:=⟨ds,rfl,h⟩
theorem sk_f {Q:List D→Prop}(h:Q ds):SeqK (.dat (.fro ds)) Q:=⟨ds,rfl,h⟩
theorem sk_t {Q:List D→Prop}(h:Q ds):SeqK (.dat (.tup ds)) Q:=⟨ds,rfl,h⟩
theorem ik {Q:Int→Prop}(h:Q i):IntK (.dat (.int i)) Q:=⟨i,rfl,h⟩
theorem stk {Q:Str→Prop}(h:Q s):StrK (.dat (.str s)) Q:=⟨s,rfl,h⟩
theorem pk {x y:DV}{Q:DV→DV→Prop}(h:Q x y):ParK [x,y] Q:=⟨x,y,rfl,h⟩
theorem gk {h:D→Env→Option Env}{d:D}{δ':Env}{Q:Env→Prop}(e:h d δ=some δ')(k:Q δ'):TgtK h δ (.dat d) Q:=⟨d,δ',rfl,e,k⟩
theorem l_addI (h:QR (.dat (.int (i+j))) μ):Sat (dAdd (.dat (.int i)) (.dat (.int j)) μ) QR E:=h
theorem l_addT (hl:ds.length+es.length≤sizeLine)(h:QR (.dat (.tup (ds++es))) μ):Sat (dAdd (.dat (.tup ds)) (.dat (.tup es)) μ) QR E:=by
 unfold dAdd;simp only[asI,asStr,asT];rw[if_pos hl];exact h
theorem l_addL (hl:ds.length+es.length≤sizeLine)(h:QR (.nl ((ds++es).map DV.dat)) μ):Sat (dAdd (.dat (.lst ds)) (.dat (.lst es)) μ) QR E:=by
 rw[add_lst hl];exact h
theorem l_sub (h:QR (.dat (.int (i-j))) μ):Sat (dSub (.dat (.int i)) (.dat (.int j)) μ) QR E:=h
theorem l_lt (h:QR (.dat (.bl (decide (i<j)))) μ):Sat (dLt (.dat (.int i)) (.dat (.int j)) μ) QR E:=h
theorem l_le (h:QR (.dat (.bl (decide (i≤j)))) μ):Sat (dLe (.dat (.int i)) (.dat (.int j)) μ) QR E:=h
theorem l_gt (h:QR (.dat (.bl (decide (j<i)))) μ):Sat (dGt (.dat (.int i)) (.dat (.int j)) μ) QR E:=h
theorem l_ge (h:QR (.dat (.bl (decide (j≤i)))) μ):Sat (dGe (.dat (.int i)) (.dat (.int j)) μ) QR E:=h
theorem l_neg (h:QR (.dat (.int (-i))) μ):Sat (dNeg (.dat (.int i)) μ) QR E:=h
theorem int_beq (i j:Int):(i==j)=decide (i=j):=by
 by_cases h:i=j
 ·subst h;simp
 ·rw[decide_eq_false h];exact beq_false_of_ne h
theorem l_eqI (h:QR (.dat (.bl (decide (i=j)))) μ):Sat (dEq (.dat (.int i)) (.dat (.int j)) μ) QR E:=by
 rw[show dEq (.dat (.int i)) (.dat (.int j)) μ=.ok (.dat (.bl (decide (i=j)))) μ from(dEqB_int true i j μ).trans (by rw[int_beq];cases decide (i=j) <;> rfl)];exact h
theorem l_neI (h:QR (.dat (.bl (!decide (i=j)))) μ):Sat (dNe (.dat (.int i)) (.dat (.int j)) μ) QR E:=by
 rw[show dNe (.dat (.int i)) (.dat (.int j)) μ=.ok (.dat (.bl (!decide (i=j)))) μ from(dEqB_int false i j μ).trans (by rw[int_beq];cases decide (i=j) <;> rfl)];exact h
theorem l_eqS (h:QR (.dat (.bl (decide (s=t)))) μ):Sat (dEq (.dat (.str s)) (.dat (.str t)) μ) QR E:=by
 rw[show dEq (.dat (.str s)) (.dat (.str t)) μ=.ok (.dat (.bl (decide (s=t)))) μ from eq_str.trans (by cases decide (s=t) <;> rfl)];exact h
theorem l_neS (h:QR (.dat (.bl (!decide (s=t)))) μ):Sat (dNe (.dat (.str s)) (.dat (.str t)) μ) QR E:=by
 rw[show dNe (.dat (.str s)) (.dat (.str t)) μ=.ok (.dat (.bl (!decide (s=t)))) μ from eq_str.trans (by cases decide (s=t) <;> rfl)];exact h
theorem l_ixT {d:D}(e:atI ds i=some d)(h:QR (.dat d) μ):Sat (dIx (.dat (.tup ds)) (.dat (.int i)) μ) QR E:=by rw[dIx_tup e];exact h
theorem l_ixL {d:D}(e:atI ds i=some d)(h:QR (.dat d) μ):Sat (dIx (.dat (.lst ds)) (.dat (.int i)) μ) QR E:=by rw[dIx_lst e];exact h
theorem l_ixM {x:DV}(e:μ[n]?=some (.lst xs))(e2:atI xs i=some x)(h:QR (ofV x) μ):Sat (dIx (.loc n) (.dat (.int i)) μ) QR E:=by rw[dIx_loc e e2];exact h
theorem l_slT {lo hi:Option Int}(h:QR (.dat (.tup (cutL ds lo hi))) μ):Sat (dSl (.dat (.tup ds)) lo hi μ) QR E:=h
theorem l_slL {lo hi:Option Int}(h:QR (.nl ((cutL ds lo hi).map DV.dat)) μ):Sat (dSl (.dat (.lst ds)) lo hi μ) QR E:=by rw[sl_lst];exact h
theorem l_lenT (h:QR (.dat (.int ds.length)) μ):Sat (d1 dLen [.dat (.tup ds)] μ) QR E:=by
 have:d1 dLen [.dat (.tup ds)] μ=.ok (.dat (.int ds.length)) μ:=by simp[d1,dLen,asS,asL,asT]
 rw[this];exact h
theorem l_lenL (h:QR (.dat (.int ds.length)) μ):Sat (d1 dLen [.dat (.lst ds)] μ) QR E:=by rw[len_lst];exact h
theorem l_lenM (e:μ[n]?=some (.lst xs))(h:QR (.dat (.int xs.length)) μ):Sat (d1 dLen [.loc n] μ) QR E:=by rw[len_loc e];exact h
theorem l_int (h:QR (.dat (.int i)) μ):Sat (d1 dInt [.dat (.int i)] μ) QR E:=h
theorem l_intB {b:Bool}(h:QR (.dat (.int (if b=true then 1 else 0))) μ):Sat (d1 dInt [.dat (.bl b)] μ) QR E:=h
theorem l_listT (h:QR (.nl (ds.map DV.dat)) μ):Sat (d1 dList [.dat (.tup ds)] μ) QR E:=h
theorem l_listL (h:QR (.nl (ds.map DV.dat)) μ):Sat (d1 dList [.dat (.lst ds)] μ) QR E:=h
theorem l_tupL (h:QR (.dat (.tup ds)) μ):Sat (d1 dTuple [.dat (.lst ds)] μ) QR E:=by rw[tuple_lst];exact h
theorem l_tupT (h:QR (.dat (.tup ds)) μ):Sat (d1 dTuple [.dat (.tup ds)] μ) QR E:=h
theorem l_tupM (e:μ[n]?=some (.lst xs))(e2:allDat xs=some ds)(h:QR (.dat (.tup ds)) μ):Sat (d1 dTuple [.loc n] μ) QR E:=by
 unfold d1;simp only;unfold dTuple;rw[asL_loc e];simp only;rw[e2];exact h
theorem bools_map {γ:Type}(f:γ→Bool)(xs:List γ):bools (xs.map fun x=>.dat (.bl (f x)))=some (xs.map f):=by
 induction xs with
 | nil=>rfl
 | cons x xs ih=>simp[bools,asBl,ih]
theorem l_all {γ:Type}{f:γ→Bool}{g:List Bool→Bool}{xs:List γ}(h:QR (.dat (.bl (g (xs.map f)))) μ):Sat (d1 (dAll g) [.dat (.lst (xs.map fun x=>.bl (f x)))] μ) QR E:=by
 have:asL μ (.dat (.lst (xs.map fun x=>.bl (f x))))=some (xs.map fun x=>.dat (.bl (f x))):=by simp[asL]
 unfold d1;simp only;unfold dAll;rw[this];simp only;rw[bools_map];exact h
theorem l_app {y:DV}(e:μ[n]?=some (.lst xs))(hl:xs.length<sizeLine)(hb:belowB n y=true)(h:QR (.dat .non) (μ.set n (.lst (xs++[y])))):Sat (dAppend (.loc n) [y] μ) QR E:=by rw[app_ok e hl hb];exact h
theorem l_clear (e:μ[n]?=some (.lst xs))(h:QR (.dat .non) (μ.set n (.lst []))):Sat (dClear (.loc n) [] μ) QR E:=by rw[clear_ok e];exact h
theorem l_inT {ss:List Str}(h:QR (.dat (.bl (decide (s∈ss)))) μ):Sat (dIn false (.dat (.str s)) (.dat (.tup (ss.map D.str))) μ) QR E:=by rw[in_tup];exact h
theorem l_ninT {ss:List Str}(h:QR (.dat (.bl (!decide (s∈ss)))) μ):Sat (dIn true (.dat (.str s)) (.dat (.tup (ss.map D.str))) μ) QR E:=by rw[in_tup];exact h
theorem in_lst {neg:Bool}{s:Str}{ss:List Str}{μ:Mem}:dIn neg (.dat (.str s)) (.dat (.lst (ss.map D.str))) μ=.ok (.dat (.bl (if neg=true then !decide (s∈ss) else decide (s∈ss)))) μ:=by
 have:(ss.map D.str).map DV.dat=ss.map fun s=>.dat (.str s):=by simp
 simp only[dIn,flat,asS,asL,asT,Option.map,this,flats_str,inV_str]
theorem l_inL {ss:List Str}(h:QR (.dat (.bl (decide (s∈ss)))) μ):Sat (dIn false (.dat (.str s)) (.dat (.lst (ss.map D.str))) μ) QR E:=by rw[in_lst];exact h
theorem l_ninL {ss:List Str}(h:QR (.dat (.bl (!decide (s∈ss)))) μ):Sat (dIn true (.dat (.str s)) (.dat (.lst (ss.map D.str))) μ) QR E:=by rw[in_lst];exact h
theorem ty_l:tyL (.dat (.lst ds)) μ=true:=rfl
theorem ty_s:tyS (.dat (.str s)) μ=true:=rfl
theorem d_take {B:Bg}{ν:Mem}{m:Int}(hB:B.ok)(hm:0<m)(hm':m<1073741824)(h:∀ (r:Nat) (B':Bg),B'.ok→(r:Int)<m→QR (.dat (.int r)) (B'.pl::ν)):Sat (callD gTake 2 5 [.loc 0,.dat (.int m)] (B.pl::ν)) QR E:=by
 obtain⟨o1,o2,o3⟩:=takeB_ok hB hm
 rw[take_spec (n:=0) (μ:=B.pl::ν) hB rfl hm hm']
 generalize (takeB B m).1=t at *
 generalize (takeB B m).2=B2 at *
 obtain⟨k,rfl⟩:=Int.eq_ofNat_of_zero_le o2
 exact h k B2 o1 o3
theorem d_mixed {B:Bg}{ν:Mem}{k w:Nat}(hk:k<64)(hB:B.ok)(hs:ds.length<100000)(hd:∀ d∈ds,∃ p,toPy d=some p∧Fit k w p)(h:∀ (ys:List D) (B':Bg),B'.ok→ys.Perm ds→QR (.nl (ys.map DV.dat)) (B'.pl::ν)):Sat (callD gMixed 2 2 [.loc 0,.dat (.lst ds)] (B.pl::ν)) QR E:=by
 obtain⟨ys,B',o,pm,e⟩:=mixed_spec (n:=0) (μ:=B.pl::ν) hk hB rfl hs hd
 rw[e];exact h ys B' o pm
end
section
variable {QR:R→Mem→Prop}{QV:DV→Mem→Prop}{QB:Bool→Mem→Prop}{E:Xc→Mem→Prop}{P:PO}{δ δ':Env}{μ μ':Mem}{N n i:Nat}{x:Option DV}{d:D}{ds:List D}{xs:List DV}
theorem al_nil:allDat []=some []:=rfl
theorem al_cons (h:allDat xs=some ds):allDat (.dat d::xs)=some (d::ds):=by simp only[allDat,h];rfl
theorem set_now {g:SM}(e:δ.set i x=δ')(h:SatS (g N δ' μ) P):SatS (g N (δ.set i x) μ) P:=e▸h
theorem x_varD (e:δ[i]?=some (some (.dat d)))(h:QR (.dat d) μ):Sat (eVar i δ μ) QR E:=x_var e h
theorem x_varL (e:δ[i]?=some (some (.loc n)))(h:QR (.loc n) μ):Sat (eVar i δ μ) QR E:=x_var e h
theorem z_ofD (h:QV (.dat d) μ):FzK (ofV (.dat d)) μ QV:=h
theorem b_ofD {b:Bool}(h:QB b μ):BlK (ofV (.dat (.bl b))) μ QB:=h
end
def MkK (N:Nat)(QR:R→Mem→Prop):R→Mem→Prop:=fun r μ2=>∃ nm' gs ds,r=.dat .non∧μ2[N+1]?=some (.ins nm' gs)∧allDat (gs.map (·.2))=some ds∧QR (.dat (.ins nm' ((gs.map (·.1)).zip ds))) (μ2.take N)
section
variable {QR:R→Mem→Prop}{E:Xc→Mem→Prop}{P:PO}{δ:Env}{μ:Mem}{N n:Nat}{nm m:Str}{F:List DV→Mem→Res R}{f fa fb fo fe:EM}{g:AM}{x:DV}{d:D}{fs:List (Str×D)}{gs:List (Str×DV)}{tab:Kd→Option Bool}{i j:Int}{ds:List D}{xs:List DV}
theorem x_fld {nms:List Str}(h:Sat (frzV f δ μ) (fun x μ1=>∃ nm fs y,insAt μ1 x=some (nm,fs)∧nm∈nms∧fs.lookup m=some y∧QR (ofV y) μ1) E):Sat (eFld nms m f δ μ) QR E:=by
 refine sat_bind (h.mono (fun x μ1 q=>?_) fun _ _ q=>q)
 obtain⟨nm,fs,y,e1,e2,e3,q⟩:=q
 rw[e1];simp only;rw[if_pos e2,e3];exact q
theorem x_meth (h:Sat (frzV f δ μ) (fun x μ1=>isI nm m x μ1=true∧Sat (g δ μ1) (fun xs μ2=>Sat (F (x::xs) μ2) QR E) E) E):Sat (eMeth nm m F f g δ μ) QR E:=by
 refine sat_bind (h.mono (fun x μ1 q=>?_) fun _ _ q=>q)
 rw[if_pos q.1];exact sat_bind q.2
theorem x_make (h:Sat (g δ μ) (fun xs μ1=>Sat (F (.loc (μ1.length+1)::xs) (μ1++[.own]++[.ins nm []])) (MkK μ1.length QR) (fun x μ2=>E x (μ2.take μ1.length))) E):Sat (eMake nm F g δ μ) QR E:=by
 refine sat_bind (h.mono (fun xs μ1 q=>?_) fun _ _ q=>q)
 unfold mkRun
 cases e:F (.loc (μ1.length+1)::xs) (μ1++[.own]++[.ins nm []]) with
 | ok r μ2 =>
  rw[e] at q
  obtain⟨nm',gs,ds,rfl,e1,e2,q⟩:=q
  simp only[mkEnd,e1,e2];exact q
 | exc x μ2=>rw[e] at q;exact q
 | bad=>rw[e] at q;exact q
theorem x_lenO (h:Sat (frzV f δ μ) (fun x μ1=>isI nm "" x μ1=true∧Sat (F [x] μ1) (fun r μ2=>∃ n:Int,r=.dat (.int n)∧(0≤n∧n<2^63)∧QR (.dat (.int n)) μ2) (fun _ _=>False)) E):Sat (eLenO nm F f δ μ) QR E:=by
 refine sat_bind (h.mono (fun x μ1 q=>?_) fun _ _ q=>q)
 rw[if_pos q.1]
 have q:=q.2
 cases e:F [x] μ1 with
 | ok r μ2=>rw[e] at q;obtain⟨n,rfl,hn,q⟩:=q;simp only;rw[if_pos hn];exact q
 | exc x μ2=>rw[e] at q;exact q.elim
 | bad=>rw[e] at q;exact q.elim
theorem x_eqO {others:List Str} (h:Sat (frzV fa δ μ) (fun x μ1=>Sat (frzV fb δ μ1) (fun y μ2=>(isI nm "" x μ2=true∧((kindOf μ2 y).bind (tabC nm others)).isSome=true)∧Sat (F [x,y] μ2) (fun r μ3=>BlK r μ3 fun b μ3=>QR (.dat (.bl b)) μ3) (fun _ _=>False)) E) E):Sat (eEqO nm others F fa fb δ μ) QR E:=by
 refine sat_bind (h.mono (fun x μ1 q=>sat_bind (q.mono (fun y μ2 q=>?_) fun _ _ q=>q)) fun _ _ q=>q)
 rw[if_pos q.1]
 have q:=q.2
 cases e:F [x,y] μ2 with
 | ok r μ3=>rw[e] at q;obtain⟨b,rfl,_,q⟩:=BlK.ex q;exact q
 | exc x μ2=>rw[e] at q;exact q.elim
 | bad=>rw[e] at q;exact q.elim
theorem x_inO {neg:Bool} (h:Sat (frzV fa δ μ) (fun y μ1=>Sat (frzV fb δ μ1) (fun x μ2=>isI nm "" x μ2=true∧Sat (F [x,y] μ2) (fun r μ3=>BlK r μ3 fun b μ3=>QR (.dat (.bl (b != neg))) μ3) (fun _ _=>False)) E) E):Sat (eInO nm neg F fa fb δ μ) QR E:=by
 refine sat_bind (h.mono (fun y μ1 q=>sat_bind (q.mono (fun x μ2 q=>?_) fun _ _ q=>q)) fun _ _ q=>q)
 rw[if_pos q.1]
 have q:=q.2
 cases e:F [x,y] μ2 with
 | ok r μ3=>rw[e] at q;obtain⟨b,rfl,_,q⟩:=BlK.ex q;exact q
 | exc x μ2=>rw[e] at q;exact q.elim
 | bad=>rw[e] at q;exact q.elim
theorem l_isi {kd:Kd}{b:Bool}(e:kindOf μ x=some kd)(e2:tab kd=some b)(h:QR (.dat (.bl b)) μ):Sat (dIsi tab x μ) QR E:=by
 unfold dIsi;rw[e];simp only;rw[e2];exact h
theorem s_fld {nms:List Str}(h:Sat (frzV fe δ μ) (fun y μ1=>Sat (frzV fo δ μ1) (fun x μ2=>∃ μ3,setFld nms μ2 x m y=some μ3∧P.nx δ μ3) (fun x μ=>P.ex x δ μ)) (fun x μ=>P.ex x δ μ)):SatS (gFld nms m fo fe N δ μ) P:=by
 refine sat_lift (sat_bind (h.mono (fun y μ1 q=>sat_bind (q.mono (fun x μ2 q=>?_) fun _ _ q=>q)) fun _ _ q=>q))
 obtain⟨μ3,e,q⟩:=q;rw[e];exact q
theorem l_mm {f:Int→Int→Int}(h:QR (.dat (.int (f i j))) μ):Sat (d2 (dMM f) [.dat (.int i),.dat (.int j)] μ) QR E:=h
end
section
variable {QR:R→Mem→Prop}{QV:DV→Mem→Prop}{E:Xc→Mem→Prop}{P:PO}{δ δ':Env}{μ μ':Mem}{N n i:Nat}{nm m m':Str}{f:EM}{x:DV}{d:D}{ds:List D}{xs:List DV}{nms:List Str}
def FldK (nms:List Str)(m:Str)(x:DV)(μ:Mem)(Q:DV→Prop):Prop:=∃ nm fs y,insAt μ x=some (nm,fs)∧nm∈nms∧fs.lookup m=some y∧Q y
theorem x_fldK (h:Sat (frzV f δ μ) (fun x μ1=>FldK nms m x μ1 fun y=>QR (ofV y) μ1) E):Sat (eFld nms m f δ μ) QR E:=x_fld h
theorem fk1 {Q:DV→Prop}(hn:nm∈nms)(h:Q (.dat d)):FldK nms m (.dat (.ins nm [(m,d)])) μ Q:=⟨nm,_,.dat d,rfl,hn,by simp[List.lookup],h⟩
theorem isI_one (h:(m==m')=false):isI nm m (.dat (.ins nm [(m',d)])) μ=true:=by
 unfold isI;simp[insAt,List.lookup,h]
end
theorem mem_here {μ:Mem}{p:Pl}{X:Mem}:(μ++p::X)[μ.length]?=some p:=by simp
theorem mem_set {μ:Mem}{p q:Pl}{X:Mem}:(μ++p::X).set μ.length q=μ++q::X:=by simp
theorem mem_take {μ X:Mem}:(μ++X).take μ.length=μ:=by simp
section
variable {QR:R→Mem→Prop}{E:Xc→Mem→Prop}{P:PO}{δ δ':Env}{μ μ':Mem}{N n:Nat}{cls others:List Str}{nm:Str}{d:D}{x:DV}
theorem kb_NoneType_int:kitB "NoneType" "int"=some false:=by decide +kernel
theorem kb_NoneType_bool:kitB "NoneType" "bool"=some false:=by decide +kernel
theorem kb_NoneType_str:kitB "NoneType" "str"=some false:=by decide +kernel
theorem kb_NoneType_tuple:kitB "NoneType" "tuple"=some false:=by decide +kernel
theorem kb_NoneType_list:kitB "NoneType" "list"=some false:=by decide +kernel
theorem kb_NoneType_dict:kitB "NoneType" "dict"=some false:=by decide +kernel
theorem kb_bool_int:kitB "bool" "int"=some true:=by decide +kernel
theorem kb_bool_bool:kitB "bool" "bool"=some true:=by decide +kernel
theorem kb_bool_str:kitB "bool" "str"=some false:=by decide +kernel
theorem kb_bool_tuple:kitB "bool" "tuple"=some false:=by decide +kernel
theorem kb_bool_list:kitB "bool" "list"=some false:=by decide +kernel
theorem kb_bool_dict:kitB "bool" "dict"=some false:=by decide +kernel
theorem kb_int_int:kitB "int" "int"=some true:=by decide +kernel
theorem kb_int_bool:kitB "int" "bool"=some false:=by decide +kernel
theorem kb_int_str:kitB "int" "str"=some false:=by decide +kernel
theorem kb_int_tuple:kitB "int" "tuple"=some false:=by decide +kernel
theorem kb_int_list:kitB "int" "list"=some false:=by decide +kernel
theorem kb_int_dict:kitB "int" "dict"=some false:=by decide +kernel
theorem kb_str_int:kitB "str" "int"=some false:=by decide +kernel
theorem kb_str_bool:kitB "str" "bool"=some false:=by decide +kernel
theorem kb_str_str:kitB "str" "str"=some true:=by decide +kernel
theorem kb_str_tuple:kitB "str" "tuple"=some false:=by decide +kernel
theorem kb_str_list:kitB "str" "list"=some false:=by decide +kernel
theorem kb_str_dict:kitB "str" "dict"=some false:=by decide +kernel
theorem kb_tuple_int:kitB "tuple" "int"=some false:=by decide +kernel
theorem kb_tuple_bool:kitB "tuple" "bool"=some false:=by decide +kernel
theorem kb_tuple_str:kitB "tuple" "str"=some false:=by decide +kernel
theorem kb_tuple_tuple:kitB "tuple" "tuple"=some true:=by decide +kernel
theorem kb_tuple_list:kitB "tuple" "list"=some false:=by decide +kernel
theorem kb_tuple_dict:kitB "tuple" "dict"=some false:=by decide +kernel
theorem kb_list_int:kitB "list" "int"=some false:=by decide +kernel
theorem kb_list_bool:kitB "list" "bool"=some false:=by decide +kernel
theorem kb_list_str:kitB "list" "str"=some false:=by decide +kernel
theorem kb_list_tuple:kitB "list" "tuple"=some false:=by decide +kernel
theorem kb_list_list:kitB "list" "list"=some true:=by decide +kernel
theorem kb_list_dict:kitB "list" "dict"=some false:=by decide +kernel
theorem kb_dict_int:kitB "dict" "int"=some false:=by decide +kernel
theorem kb_dict_bool:kitB "dict" "bool"=some false:=by decide +kernel
theorem kb_dict_str:kitB "dict" "str"=some false:=by decide +kernel
theorem kb_dict_tuple:kitB "dict" "tuple"=some false:=by decide +kernel
theorem kb_dict_list:kitB "dict" "list"=some false:=by decide +kernel
theorem kb_dict_dict:kitB "dict" "dict"=some true:=by decide +kernel
theorem is_non_int (h:QR (.dat (.bl false)) μ):Sat (dIsi (tabT "int" cls) (.dat .non) μ) QR E:=l_isi rfl (show tabT "int" cls (.b "NoneType")=some false from kb_NoneType_int) h
theorem is_non_bool (h:QR (.dat (.bl false)) μ):Sat (dIsi (tabT "bool" cls) (.dat .non) μ) QR E:=l_isi rfl (show tabT "bool" cls (.b "NoneType")=some false from kb_NoneType_bool) h
theorem is_non_str (h:QR (.dat (.bl false)) μ):Sat (dIsi (tabT "str" cls) (.dat .non) μ) QR E:=l_isi rfl (show tabT "str" cls (.b "NoneType")=some false from kb_NoneType_str) h
theorem is_non_tuple (h:QR (.dat (.bl false)) μ):Sat (dIsi (tabT "tuple" cls) (.dat .non) μ) QR E:=l_isi rfl (show tabT "tuple" cls (.b "NoneType")=some false from kb_NoneType_tuple) h
theorem is_non_list (h:QR (.dat (.bl false)) μ):Sat (dIsi (tabT "list" cls) (.dat .non) μ) QR E:=l_isi rfl (show tabT "list" cls (.b "NoneType")=some false from kb_NoneType_list) h
theorem is_non_dict (h:QR (.dat (.bl false)) μ):Sat (dIsi (tabT "dict" cls) (.dat .non) μ) QR E:=l_isi rfl (show tabT "dict" cls (.b "NoneType")=some false from kb_NoneType_dict) h
theorem is2_non_list_tuple (h:QR (.dat (.bl false)) μ):Sat (dIsi (tabT2 "list" "tuple" cls) (.dat .non) μ) QR E:=l_isi rfl (show tabT2 "list" "tuple" cls (.b "NoneType")=some false from by simp only[tabT2,kb_NoneType_list,kb_NoneType_tuple]) h
theorem isC_non (h:QR (.dat (.bl false)) μ):Sat (dIsi (tabC nm others) (.dat .non) μ) QR E:=l_isi rfl (show tabC nm others (.b "NoneType")=some false from by simp[tabC]) h
theorem is_bl_int {b:Bool} (h:QR (.dat (.bl true)) μ):Sat (dIsi (tabT "int" cls) (.dat (.bl b)) μ) QR E:=l_isi rfl (show tabT "int" cls (.b "bool")=some true from kb_bool_int) h
theorem is_bl_bool {b:Bool} (h:QR (.dat (.bl true)) μ):Sat (dIsi (tabT "bool" cls) (.dat (.bl b)) μ) QR E:=l_isi rfl (show tabT "bool" cls (.b "bool")=some true from kb_bool_bool) h
theorem is_bl_str {b:Bool} (h:QR (.dat (.bl false)) μ):Sat (dIsi (tabT "str" cls) (.dat (.bl b)) μ) QR E:=l_isi rfl (show tabT "str" cls (.b "bool")=some false from kb_bool_str) h
theorem is_bl_tuple {b:Bool} (h:QR (.dat (.bl false)) μ):Sat (dIsi (tabT "tuple" cls) (.dat (.bl b)) μ) QR E:=l_isi rfl (show tabT "tuple" cls (.b "bool")=some false from kb_bool_tuple) h
theorem is_bl_list {b:Bool} (h:QR (.dat (.bl false)) μ):Sat (dIsi (tabT "list" cls) (.dat (.bl b)) μ) QR E:=l_isi rfl (show tabT "list" cls (.b "bool")=some false from kb_bool_list) h
theorem is_bl_dict {b:Bool} (h:QR (.dat (.bl false)) μ):Sat (dIsi (tabT "dict" cls) (.dat (.bl b)) μ) QR E:=l_isi rfl (show tabT "dict" cls (.b "bool")=some false from kb_bool_dict) h
theorem is2_bl_list_tuple {b:Bool} (h:QR (.dat (.bl false)) μ):Sat (dIsi (tabT2 "list" "tuple" cls) (.dat (.bl b)) μ) QR E:=l_isi rfl (show tabT2 "list" "tuple" cls (.b "bool")=some false from by simp only[tabT2,kb_bool_list,kb_bool_tuple]) h
theorem isC_bl {b:Bool}(h:QR (.dat (.bl false)) μ):Sat (dIsi (tabC nm others) (.dat (.bl b)) μ) QR E:=l_isi rfl (show tabC nm others (.b "bool")=some false from by simp[tabC]) h
theorem is_int_int {i:Int} (h:QR (.dat (.bl true)) μ):Sat (dIsi (tabT "int" cls) (.dat (.int i)) μ) QR E:=l_isi rfl (show tabT "int" cls (.b "int")=some true from kb_int_int) h
theorem is_int_bool {i:Int} (h:QR (.dat (.bl false)) μ):Sat (dIsi (tabT "bool" cls) (.dat (.int i)) μ) QR E:=l_isi rfl (show tabT "bool" cls (.b "int")=some false from kb_int_bool) h
theorem is_int_str {i:Int} (h:QR (.dat (.bl false)) μ):Sat (dIsi (tabT "str" cls) (.dat (.int i)) μ) QR E:=l_isi rfl (show tabT "str" cls (.b "int")=some false from kb_int_str) h
theorem is_int_tuple {i:Int} (h:QR (.dat (.bl false)) μ):Sat (dIsi (tabT "tuple" cls) (.dat (.int i)) μ) QR E:=l_isi rfl (show tabT "tuple" cls (.b "int")=some false from kb_int_tuple) h
theorem is_int_list {i:Int} (h:QR (.dat (.bl false)) μ):Sat (dIsi (tabT "list" cls) (.dat (.int i)) μ) QR E:=l_isi rfl (show tabT "list" cls (.b "int")=some false from kb_int_list) h
theorem is_int_dict {i:Int} (h:QR (.dat (.bl false)) μ):Sat (dIsi (tabT "dict" cls) (.dat (.int i)) μ) QR E:=l_isi rfl (show tabT "dict" cls (.b "int")=some false from kb_int_dict) h
theorem is2_int_list_tuple {i:Int} (h:QR (.dat (.bl false)) μ):Sat (dIsi (tabT2 "list" "tuple" cls) (.dat (.int i)) μ) QR E:=l_isi rfl (show tabT2 "list" "tuple" cls (.b "int")=some false from by simp only[tabT2,kb_int_list,kb_int_tuple]) h
theorem isC_int {i:Int}(h:QR (.dat (.bl false)) μ):Sat (dIsi (tabC nm others) (.dat (.int i)) μ) QR E:=l_isi rfl (show tabC nm others (.b "int")=some false from by simp[tabC]) h
theorem is_str_int {s:Str} (h:QR (.dat (.bl false)) μ):Sat (dIsi (tabT "int" cls) (.dat (.str s)) μ) QR E:=l_isi rfl (show tabT "int" cls (.b "str")=some false from kb_str_int) h
theorem is_str_bool {s:Str} (h:QR (.dat (.bl false)) μ):Sat (dIsi (tabT "bool" cls) (.dat (.str s)) μ) QR E:=l_isi rfl (show tabT "bool" cls (.b "str")=some false from kb_str_bool) h
theorem is_str_str {s:Str} (h:QR (.dat (.bl true)) μ):Sat (dIsi (tabT "str" cls) (.dat (.str s)) μ) QR E:=l_isi rfl (show tabT "str" cls (.b "str")=some true from kb_str_str) h
theorem is_str_tuple {s:Str} (h:QR (.dat (.bl false)) μ):Sat (dIsi (tabT "tuple" cls) (.dat (.str s)) μ) QR E:=l_isi rfl (show tabT "tuple" cls (.b "str")=some false from kb_str_tuple) h
theorem is_str_list {s:Str} (h:QR (.dat (.bl false)) μ):Sat (dIsi (tabT "list" cls) (.dat (.str s)) μ) QR E:=l_isi rfl (show tabT "list" cls (.b "str")=some false from kb_str_list) h
theorem is_str_dict {s:Str} (h:QR (.dat (.bl false)) μ):Sat (dIsi (tabT "dict" cls) (.dat (.str s)) μ) QR E:=l_isi rfl (show tabT "dict" cls (.b "str")=some false from kb_str_dict) h
theorem is2_str_list_tuple {s:Str} (h:QR (.dat (.bl false)) μ):Sat (dIsi (tabT2 "list" "tuple" cls) (.dat (.str s)) μ) QR E:=l_isi rfl (show tabT2 "list" "tuple" cls (.b "str")=some false from by simp only[tabT2,kb_str_list,kb_str_tuple]) h
theorem isC_str {s:Str}(h:QR (.dat (.bl false)) μ):Sat (dIsi (tabC nm others) (.dat (.str s)) μ) QR E:=l_isi rfl (show tabC nm others (.b "str")=some false from by simp[tabC]) h
theorem is_tup_int {ds:List D} (h:QR (.dat (.bl false)) μ):Sat (dIsi (tabT "int" cls) (.dat (.tup ds)) μ) QR E:=l_isi rfl (show tabT "int" cls (.b "tuple")=some false from kb_tuple_int) h
theorem is_tup_bool {ds:List D} (h:QR (.dat (.bl false)) μ):Sat (dIsi (tabT "bool" cls) (.dat (.tup ds)) μ) QR E:=l_isi rfl (show tabT "bool" cls (.b "tuple")=some false from kb_tuple_bool) h
theorem is_tup_str {ds:List D} (h:QR (.dat (.bl false)) μ):Sat (dIsi (tabT "str" cls) (.dat (.tup ds)) μ) QR E:=l_isi rfl (show tabT "str" cls (.b "tuple")=some false from kb_tuple_str) h
theorem is_tup_tuple {ds:List D} (h:QR (.dat (.bl true)) μ):Sat (dIsi (tabT "tuple" cls) (.dat (.tup ds)) μ) QR E:=l_isi rfl (show tabT "tuple" cls (.b "tuple")=some true from kb_tuple_tuple) h
theorem is_tup_list {ds:List D} (h:QR (.dat (.bl false)) μ):Sat (dIsi (tabT "list" cls) (.dat (.tup ds)) μ) QR E:=l_isi rfl (show tabT "list" cls (.b "tuple")=some false from kb_tuple_list) h
theorem is_tup_dict {ds:List D} (h:QR (.dat (.bl false)) μ):Sat (dIsi (tabT "dict" cls) (.dat (.tup ds)) μ) QR E:=l_isi rfl (show tabT "dict" cls (.b "tuple")=some false from kb_tuple_dict) h
theorem is2_tup_list_tuple {ds:List D} (h:QR (.dat (.bl true)) μ):Sat (dIsi (tabT2 "list" "tuple" cls) (.dat (.tup ds)) μ) QR E:=l_isi rfl (show tabT2 "list" "tuple" cls (.b "tuple")=some true from by simp only[tabT2,kb_tuple_list,kb_tuple_tuple]) h
theorem isC_tup {ds:List D}(h:QR (.dat (.bl false)) μ):Sat (dIsi (tabC nm others) (.dat (.tup ds)) μ) QR E:=l_isi rfl (show tabC nm others (.b "tuple")=some false from by simp[tabC]) h
theorem is_lst_int {ds:List D} (h:QR (.dat (.bl false)) μ):Sat (dIsi (tabT "int" cls) (.dat (.lst ds)) μ) QR E:=l_isi rfl (show tabT "int" cls (.b "list")=some false from kb_list_int) h
theorem is_lst_bool {ds:List D} (h:QR (.dat (.bl false)) μ):Sat (dIsi (tabT "bool" cls) (.dat (.lst ds)) μ) QR E:=l_isi rfl (show tabT "bool" cls (.b "list")=some false from kb_list_bool) h
theorem is_lst_str {ds:List D} (h:QR (.dat (.bl false)) μ):Sat (dIsi (tabT "str" cls) (.dat (.lst ds)) μ) QR E:=l_isi rfl (show tabT "str" cls (.b "list")=some false from kb_list_str) h
theorem is_lst_tuple {ds:List D} (h:QR (.dat (.bl false)) μ):Sat (dIsi (tabT "tuple" cls) (.dat (.lst ds)) μ) QR E:=l_isi rfl (show tabT "tuple" cls (.b "list")=some false from kb_list_tuple) h
theorem is_lst_list {ds:List D} (h:QR (.dat (.bl true)) μ):Sat (dIsi (tabT "list" cls) (.dat (.lst ds)) μ) QR E:=l_isi rfl (show tabT "list" cls (.b "list")=some true from kb_list_list) h
theorem is_lst_dict {ds:List D} (h:QR (.dat (.bl false)) μ):Sat (dIsi (tabT "dict" cls) (.dat (.lst ds)) μ) QR E:=l_isi rfl (show tabT "dict" cls (.b "list")=some false from kb_list_dict) h
theorem is2_lst_list_tuple {ds:List D} (h:QR (.dat (.bl true)) μ):Sat (dIsi (tabT2 "list" "tuple" cls) (.dat (.lst ds)) μ) QR E:=l_isi rfl (show tabT2 "list" "tuple" cls (.b "list")=some true from by simp only[tabT2,kb_list_list]) h
theorem isC_lst {ds:List D}(h:QR (.dat (.bl false)) μ):Sat (dIsi (tabC nm others) (.dat (.lst ds)) μ) QR E:=l_isi rfl (show tabC nm others (.b "list")=some false from by simp[tabC]) h
theorem is_fro_int {ds:List D} (h:QR (.dat (.bl false)) μ):Sat (dIsi (tabT "int" cls) (.dat (.fro ds)) μ) QR E:=l_isi rfl (show tabT "int" cls (.b "list")=some false from kb_list_int) h
theorem is_fro_bool {ds:List D} (h:QR (.dat (.bl false)) μ):Sat (dIsi (tabT "bool" cls) (.dat (.fro ds)) μ) QR E:=l_isi rfl (show tabT "bool" cls (.b "list")=some false from kb_list_bool) h
theorem is_fro_str {ds:List D} (h:QR (.dat (.bl false)) μ):Sat (dIsi (tabT "str" cls) (.dat (.fro ds)) μ) QR E:=l_isi rfl (show tabT "str" cls (.b "list")=some false from kb_list_str) h
theorem is_fro_tuple {ds:List D} (h:QR (.dat (.bl false)) μ):Sat (dIsi (tabT "tuple" cls) (.dat (.fro ds)) μ) QR E:=l_isi rfl (show tabT "tuple" cls (.b "list")=some false from kb_list_tuple) h
theorem is_fro_list {ds:List D} (h:QR (.dat (.bl true)) μ):Sat (dIsi (tabT "list" cls) (.dat (.fro ds)) μ) QR E:=l_isi rfl (show tabT "list" cls (.b "list")=some true from kb_list_list) h
theorem is_fro_dict {ds:List D} (h:QR (.dat (.bl false)) μ):Sat (dIsi (tabT "dict" cls) (.dat (.fro ds)) μ) QR E:=l_isi rfl (show tabT "dict" cls (.b "list")=some false from kb_list_dict) h
theorem is2_fro_list_tuple {ds:List D} (h:QR (.dat (.bl true)) μ):Sat (dIsi (tabT2 "list" "tuple" cls) (.dat (.fro ds)) μ) QR E:=l_isi rfl (show tabT2 "list" "tuple" cls (.b "list")=some true from by simp only[tabT2,kb_list_list]) h
theorem isC_fro {ds:List D}(h:QR (.dat (.bl false)) μ):Sat (dIsi (tabC nm others) (.dat (.fro ds)) μ) QR E:=l_isi rfl (show tabC nm others (.b "list")=some false from by simp[tabC]) h
theorem is_dct_int {kvs:List (Ky×D)} (h:QR (.dat (.bl false)) μ):Sat (dIsi (tabT "int" cls) (.dat (.dct kvs)) μ) QR E:=l_isi rfl (show tabT "int" cls (.b "dict")=some false from kb_dict_int) h
theorem is_dct_bool {kvs:List (Ky×D)} (h:QR (.dat (.bl false)) μ):Sat (dIsi (tabT "bool" cls) (.dat (.dct kvs)) μ) QR E:=l_isi rfl (show tabT "bool" cls (.b "dict")=some false from kb_dict_bool) h
theorem is_dct_str {kvs:List (Ky×D)} (h:QR (.dat (.bl false)) μ):Sat (dIsi (tabT "str" cls) (.dat (.dct kvs)) μ) QR E:=l_isi rfl (show tabT "str" cls (.b "dict")=some false from kb_dict_str) h
theorem is_dct_tuple {kvs:List (Ky×D)} (h:QR (.dat (.bl false)) μ):Sat (dIsi (tabT "tuple" cls) (.dat (.dct kvs)) μ) QR E:=l_isi rfl (show tabT "tuple" cls (.b "dict")=some false from kb_dict_tuple) h
theorem is_dct_list {kvs:List (Ky×D)} (h:QR (.dat (.bl false)) μ):Sat (dIsi (tabT "list" cls) (.dat (.dct kvs)) μ) QR E:=l_isi rfl (show tabT "list" cls (.b "dict")=some false from kb_dict_list) h
theorem is_dct_dict {kvs:List (Ky×D)} (h:QR (.dat (.bl true)) μ):Sat (dIsi (tabT "dict" cls) (.dat (.dct kvs)) μ) QR E:=l_isi rfl (show tabT "dict" cls (.b "dict")=some true from kb_dict_dict) h
theorem is2_dct_list_tuple {kvs:List (Ky×D)} (h:QR (.dat (.bl false)) μ):Sat (dIsi (tabT2 "list" "tuple" cls) (.dat (.dct kvs)) μ) QR E:=l_isi rfl (show tabT2 "list" "tuple" cls (.b "dict")=some false from by simp only[tabT2,kb_dict_list,kb_dict_tuple]) h
theorem isC_dct {kvs:List (Ky×D)}(h:QR (.dat (.bl false)) μ):Sat (dIsi (tabC nm others) (.dat (.dct kvs)) μ) QR E:=l_isi rfl (show tabC nm others (.b "dict")=some false from by simp[tabC]) h
theorem isC_own {fs:List (Str×D)}(h:QR (.dat (.bl true)) μ):Sat (dIsi (tabC nm others) (.dat (.ins nm fs)) μ) QR E:=l_isi rfl (show tabC nm others (.c nm)=some true from by simp[tabC]) h
theorem is_ins_int {fs:List (Str×D)} (hn:nm∈cls) (h:QR (.dat (.bl false)) μ):Sat (dIsi (tabT "int" cls) (.dat (.ins nm fs)) μ) QR E:=l_isi rfl (show tabT "int" cls (.c nm)=some false from by simp[tabT,tabT2,hn]) h
theorem is_ins_bool {fs:List (Str×D)} (hn:nm∈cls) (h:QR (.dat (.bl false)) μ):Sat (dIsi (tabT "bool" cls) (.dat (.ins nm fs)) μ) QR E:=l_isi rfl (show tabT "bool" cls (.c nm)=some false from by simp[tabT,tabT2,hn]) h
theorem is_ins_str {fs:List (Str×D)} (hn:nm∈cls) (h:QR (.dat (.bl false)) μ):Sat (dIsi (tabT "str" cls) (.dat (.ins nm fs)) μ) QR E:=l_isi rfl (show tabT "str" cls (.c nm)=some false from by simp[tabT,tabT2,hn]) h
theorem is_ins_tuple {fs:List (Str×D)} (hn:nm∈cls) (h:QR (.dat (.bl false)) μ):Sat (dIsi (tabT "tuple" cls) (.dat (.ins nm fs)) μ) QR E:=l_isi rfl (show tabT "tuple" cls (.c nm)=some false from by simp[tabT,tabT2,hn]) h
theorem is_ins_list {fs:List (Str×D)} (hn:nm∈cls) (h:QR (.dat (.bl false)) μ):Sat (dIsi (tabT "list" cls) (.dat (.ins nm fs)) μ) QR E:=l_isi rfl (show tabT "list" cls (.c nm)=some false from by simp[tabT,tabT2,hn]) h
theorem is_ins_dict {fs:List (Str×D)} (hn:nm∈cls) (h:QR (.dat (.bl false)) μ):Sat (dIsi (tabT "dict" cls) (.dat (.ins nm fs)) μ) QR E:=l_isi rfl (show tabT "dict" cls (.c nm)=some false from by simp[tabT,tabT2,hn]) h
theorem is2_ins {T U:String}{fs:List (Str×D)}(hn:nm∈cls)(h:QR (.dat (.bl false)) μ):Sat (dIsi (tabT2 T U cls) (.dat (.ins nm fs)) μ) QR E:=l_isi rfl (show tabT2 T U cls (.c nm)=some false from by simp[tabT,tabT2,hn]) h
theorem e_dat (e:μ'.take N=μ)(h:QR (.dat d) μ):(endP N QR E).rt (.dat d) μ':=k_dat (E:=E) e h
theorem e_ofD (e:μ'.take N=μ)(h:QR (.dat d) μ):(endP N QR E).rt (ofV (.dat d)) μ':=k_dat (E:=E) e h
theorem e_nlf {γ:Type}{f:γ→D}{ys:List γ}(e:μ'.take N=μ)(h:QR (.nl (ys.map fun y=>.dat (f y))) μ):(endP N QR E).rt (.nl (ys.map fun y=>.dat (f y))) μ':=k_nlf (E:=E) e h
theorem e_nlm {ds:List D}(e:μ'.take N=μ)(h:QR (.nl (ds.map DV.dat)) μ):(endP N QR E).rt (.nl (ds.map DV.dat)) μ':=k_nl (E:=E) e (below_map ds) h
theorem e_nl {xs:List DV}(e:μ'.take N=μ)(hb:belowA N xs=true)(h:QR (.nl xs) μ):(endP N QR E).rt (.nl xs) μ':=k_nl (E:=E) e hb h
theorem e_nx (e:μ'.take N=μ)(h:QR (.dat .non) μ):(endP N QR E).nx δ μ':=by show QR (.dat .non) (μ'.take N);rw[e];exact h
theorem take_cons {p q:Pl}{ν:Mem}:(p::ν).take (q::ν).length=p::ν:=List.take_of_length_le (by simp)
theorem take_consA {p q:Pl}{ν X:Mem}:(p::(ν++X)).take (q::ν).length=p::ν:=by simp
end
end DL
namespace DL
section
variable {Q Q':Prop}{b:Bool}
theorem if_bT (e:b=true)(h:Q):if b=true then Q else Q':=by rw[if_pos e];exact h
theorem if_bF (e:b=false)(h:Q'):if b=true then Q else Q':=by rw[if_neg (by rw[e];exact Bool.false_ne_true)];exact h
end
end DL
namespace DL
open PySem PySem.Spec PyProof.Rows L2
section
variable {E:Xc→Mem→Prop}{P:PO}{δ δ':Env}{μ μ':Mem}{N:Nat}{nm m:Str}{d:D}{nms:List Str}
theorem gS {o:Out}(h:SatS o P):SatS o P:=h
theorem gR {r:Res R}{Q:R→Mem→Prop}(h:Sat r Q E):Sat r Q E:=h
theorem gV {r:Res DV}{Q:DV→Mem→Prop}(h:Sat r Q E):Sat r Q E:=h
theorem gA {r:Res (List DV)}{Q:List DV→Mem→Prop}(h:Sat r Q E):Sat r Q E:=h
theorem gT {r:Res Bool}{Q:Bool→Mem→Prop}(h:Sat r Q E):Sat r Q E:=h
theorem gO {r:Res (Option Int)}{Q:Option Int→Mem→Prop}(h:Sat r Q E):Sat r Q E:=h
theorem gI {r:Res (List D)}{Q:List D→Mem→Prop}(h:Sat r Q E):Sat r Q E:=h
theorem gF {r:R}{Q:DV→Mem→Prop}(h:FzK r μ Q):FzK r μ Q:=h
theorem gC {b:Bool}{Q Q':Prop}(h:if b=true then Q else Q'):if b=true then Q else Q':=h
theorem gRt {r:R}{QR:R→Mem→Prop}(h:(endP N QR E).rt r μ):(endP N QR E).rt r μ:=h
theorem init1 (h:nm∈nms):setFld nms (μ++[.own]++[.ins nm []]) (.loc (μ.length+1)) m (.dat d)=some (μ++[.own]++[.ins nm [(m,.dat d)]]):=by
 have e:(μ++[.own]++[Pl.ins nm []])[μ.length+1]?=some (.ins nm []):=by simp
 unfold setFld;simp only[e];rw[if_pos ⟨h,by decide,rfl⟩];simp[putD]
theorem init1_end {QR:R→Mem→Prop}(h:QR (.dat (.ins nm [(m,d)])) μ):MkK μ.length QR (.dat .non) (μ++[.own]++[.ins nm [(m,.dat d)]]) :=
 ⟨nm,[(m,.dat d)],[d],rfl,by simp,rfl,by simpa using h⟩
end
def FitD (k w:Nat)(d:D):Prop:=∃ p,toPy d=some p∧Fit k w p
section
variable {k k' w w' n:Nat}{d:D}{ds:List D}{i:Int}{s:Str}{μ:Mem}{x y:DV}{QR:R→Mem→Prop}{E:Xc→Mem→Prop}
theorem FitD.mono (h:FitD k w d)(hk:k≤k')(hw:w≤w'):FitD k' w' d:=let ⟨p,a,b⟩:=h;⟨p,a,b.mono hk hw⟩
theorem fd_non:FitD k w .non:=⟨_,rfl,fit_none.mono (Nat.zero_le _) (Nat.zero_le _)⟩
theorem fd_bl {b:Bool}:FitD k w (.bl b):=⟨_,rfl,(fit_bool b).mono (Nat.zero_le _) (Nat.zero_le _)⟩
theorem fit_int (h:i.natAbs<10^12):Fit 0 40 (.int i):=by
 refine⟨rfl,Nat.zero_le _,?_,?_,?_⟩
 ·simp only[PyData.weight]
  split
  ·exact Nat.zero_le _
  ·rename_i h0
   have h1:i.natAbs≠0:=by simpa using h0
   have:=(Nat.log2_lt h1 (k:=40)).mpr (Nat.lt_of_lt_of_le h (by decide))
   omega
 ·simp only[PyData.showable,decide_eq_true_eq]
  by_cases h1:i.natAbs=0
  ·rw[h1];decide
  ·have:=(Nat.log2_lt h1 (k:=40)).mpr (Nat.lt_of_lt_of_le h (by decide))
   omega
 ·simp only[PyData.intsShort,decide_eq_true_eq];exact PyData.shown_int_le h
theorem fd_int (h:i.natAbs<10^12)(hw:40≤w):FitD k w (.int i):=⟨_,rfl,(fit_int h).mono (Nat.zero_le _) hw⟩
theorem toPyL_fitD:∀ {ds:List D},(∀ d∈ds,FitD k w d)→∃ ps,toPyL ds=some ps∧ps.length=ds.length∧∀ p∈ps,Fit k w p:=fun {ds} h=>toPyL_fit ds h
theorem fd_tup (h:∀ d∈ds,FitD k w d)(hn:ds.length≤n):FitD (k+1) (n*(w+1)) (.tup ds):=by
 obtain⟨ps,e,el,hp⟩:=toPyL_fitD h
 exact⟨.tuple ps,by simp only[toPy,e];rfl,fit_tuple hp (by omega)⟩
theorem fd_lst (h:∀ d∈ds,FitD k w d)(hn:ds.length≤n):FitD (k+1) (n*(w+1)) (.lst ds):=by
 obtain⟨ps,e,el,hp⟩:=toPyL_fitD h
 exact⟨.list ps,by simp only[toPy,e];rfl,fit_list hp (by omega)⟩
theorem pk_dat:peek μ (.dat d)=some d:=peekK_dat 5 μ d
theorem peekPy_of {p:PyData}(h:peek μ x=some d)(hp:toPy d=some p):peekPy μ x=some p:=by unfold peekPy;rw[h];exact hp
end
end DL
namespace DX
open PySem PySem.W PySem.Calls PyProof.Rows PySem.HandSPX
theorem errTxt_mk {prog:Program}{K:Frag}{mg:Str→Option Value}{nm f:Str}{C fI:Addr}{nm' q':Str}{N:Addr}{bs bm:List Value}{sn:List Str}{sub:List Value}{ab:Bool}{col:Option Bool}{dd:Option Addr}{k0 k1 k2 k3 k5:Option Value}
  {oc:Value} {od:Option Addr} {doc pm:Value} {an:Option Addr} {ct:Value} {osl:Array (Option Value)} {qual:Str} {p1 p2 q1 q2 q3 q4 q5 q6 q7 q8 q9 q10:Pos} {cda cc:Addr} {ccl cl:Value} {cdd cld:Option Addr} {vs:Array Value} {ccs csl:Array (Option Value)} {file:Str} {tf:Tok} {pl:Sem Bool}
  (gC:mg nm=some (.ref C)) (lk:K.lookup C=some (excClassObj nm' q' C N bs bm true sn sub ab col dd k0 k1 k2 k3 k5 "ValueError.__new__"))
  (sa:findIn K (.ref C) "__setattr__"=some (some (.builtin "object.__setattr__")))
  (ga:findIn K (.ref C) "__getattribute__"=some (some (.builtin "BaseException.__getattribute__")))
  (gg:findIn K (.ref C) "__getattr__"=some none) (noN:findIn K (.ref C) f=some none) (iC:findIn K (.ref C) "__init__"=some (some (.ref fI)))
  (tC:typeIn K (.ref fI)=some (.type "function")) (kC:keepIn K (.ref C)=true) (exC:subIn K (.ref C) (.type "BaseException")=some true)
  (exV:subIn K (.ref C) (.type "ValueError")=some true) (tyC:typeIn K (.ref C)=some (.type "type")) (hdC:hasDictIn K C=true)
  (su:ks_superIn K C C "__init__"=some (some (.builtin "ValueError.__init__"))) (mr:mroIn K C (.ref C)=some true)
  (op:nsIn K cStatics "thirdparty.any"=some none) (ms:mg "super"=none)
  (lfn:K.lookup fI=some ⟨oc,od,.func (ksFn "__init__" qual (eArgs f p1 p2) (eBody f q1 q2 q3 q4 q5 q6 q7 q8 q9 q10) (eScope f) .none .none doc pm an (.ref cda) ct cc),osl⟩)
  (cod:codeIn K (.ref cda) qual=true) (lcd:K.lookup cda=some ⟨ccl,cdd,.fields vs,ccs⟩) (lcc:K.lookup cc=some ⟨cl,cld,.cell (some (.ref C)),csl⟩)
  (rv:refsVE bm=true) (top:(prog.main.scope.names.lookup ("super":Str)).isSome=false) (fs:(f==("self":Str))=false) (fd:(f==("__debug__":Str))=false)
  (lf:(eScope f).names.lookup f=some .local) (lc:(eScope f).names.lookup ("__class__":Str)=some .free) (ls:(eScope f).names.lookup ("super":Str)=some .globalImplicit)
  (bd:∀ (qual:Str) (p1 p2:Pos) (bo:List Stmt) (doc pm:Value) (an:Option Addr) (cd ct:Value) (cc:Addr) (a b:Value),bindArgs (ksFn "__init__" qual (eArgs f p1 p2) bo (eScope f) .none .none doc pm an cd ct cc) ⟨[a,b],[]⟩=pure [(PySem.Str.ofString "self",a),(f,b)])
  (v2:vs[2]?=some (.str file tf)) (fl:((prog.main.file:Str)==file)=true)
  (ev:∀ env:Env,eval (.Call (.Attribute (.Call (.Name "super" q1) [] [] q2) "__init__" q3) [.Name f q4] [] q5) env=(do
   let ov ←attributeBase (.Call (.Name "super" q1) [] [] q2) "__init__" env (eval (.Call (.Name "super" q1) [] [] q2) env)
   standAt q3.atName
   let (f1,first) ←holding [ov] (getMethod ov "__init__" pl)
   callWith q5 f1 first (backTo q5 (starEach [.Name f q4] env)) []))
  (s1:∀ env:Env,swapsWith (.Call (.Attribute (.Call (.Name "super" q1) [] [] q2) "__init__" q3) [.Name f q4] [] q5) none q6.line env=pure false)
  (s2:∀ env:Env,swapsWith (.Name f q9) (some (.Attribute (.Name "self" q7) f q8)) q10.line env=pure false):ErrTxt prog K mg nm f C fI :=
 ⟨gC,⟨nm',q',N,bs,bm,sn,sub,ab,col,dd,k0,k1,k2,k3,k5,lk,rv⟩,sa,ga,gg,noN,iC,tC,kC,exC,exV,tyC,hdC,su,mr,op,ms,top,fs,fd,lf,lc,ls,bd,
  ⟨oc,od,doc,pm,an,ct,osl,qual,p1,p2,q1,q2,q3,q4,q5,q6,q7,q8,q9,q10,cda,cc,ccl,cl,cdd,cld,vs,ccs,csl,file,tf,pl,lfn,cod,lcd,v2,fl,lcc,ev,s1,s2⟩⟩
end DX
namespace DL
open PySem PySem.Spec PyProof.Rows L2 DR
def altE (f g:EM):EM:=fun δ μ=>altR (f δ μ) (g δ μ)
theorem pm_alt {X:Cx}{W:WX}{e:Expr}{t u:TE}{f g:EM}(h1:PM X W e t f)(h2:PM X W e u g):PM X W e (fun σ H Q=>t σ H Q∨u σ H Q) (altE f g) :=
 ⟨⟨fun pins s σ H Q I h=>h.elim (h1.pe.run pins s σ H Q I) (h2.pe.run pins s σ H Q I)⟩,fun ρ G H σ δ μ Q R E hp=>by
  unfold altE altR at hp
  cases e:f δ μ with
  | bad=>rw[e] at hp;exact .inr (h2.sd ρ G H σ δ μ Q R E hp)
  | ok a m=>rw[e] at hp;exact .inl (h1.sd ρ G H σ δ μ Q R E (by rw[e];exact hp))
  | exc a m=>rw[e] at hp;exact .inl (h1.sd ρ G H σ δ μ Q R E (by rw[e];exact hp))⟩
section
variable {α:Type}{Q:α→Mem→Prop}{QR:R→Mem→Prop}{QI:List D→Mem→Prop}{E:Xc→Mem→Prop}{μ ν:Mem}{δ:Env}{N:Nat}{P:PO}
theorem sat_alt {a b:Res α}(h:Sat a Q E):Sat (altR a b) Q E:=by
 cases a with
 | bad=>exact h.elim
 | ok x m=>exact h
 | exc x m=>exact h
theorem sat_altR {a b:Res α}(e:a=.bad)(h:Sat b Q E):Sat (altR a b) Q E:=by subst e;exact h
theorem w_ix {x y:DV}(h:Sat (dIx x y μ) QR E):Sat (dIxA x y μ) QR E:=sat_alt h
theorem w_in {neg:Bool}{x y:DV}(h:Sat (dIn neg x y μ) QR E):Sat (dInA neg x y μ) QR E:=sat_alt h
theorem w_eq {x y:DV}(h:Sat (dEq x y μ) QR E):Sat (dEqA x y μ) QR E:=sat_alt h
theorem w_len {xs:List DV}(h:Sat (d1 dLen xs μ) QR E):Sat (dLenA xs μ) QR E:=sat_alt h
theorem w_list {xs:List DV}(h:Sat (d1 dList xs μ) QR E):Sat (dListA xs μ) QR E:=sat_alt h
theorem x_alt {f g:EM}(h:Sat (f δ μ) QR E):Sat (altE f g δ μ) QR E:=sat_alt h
theorem x_altR {f g:EM}(e:f δ μ=.bad)(h:Sat (g δ μ) QR E):Sat (altE f g δ μ) QR E:=sat_altR e h
theorem x_call0 {g:SM}{n m:Nat}{args:List DV}(hn:args.length=n)(h:SatS (g μ.length (args.map some++List.replicate m none) μ) (endP μ.length QR (fun _ _=>False))):Sat (callD0 g n m args μ) QR E:=by
 have z:=x_call (E:=fun _ _=>False) hn h
 unfold callD0
 cases e:callD g n m args μ with
 | ok r m'=>rw[e] at z;exact z
 | exc r m'=>rw[e] at z;exact z.elim
 | bad=>rw[e] at z;exact z.elim
theorem s_raise {nm f:Str}{fe:EM}(h:Sat (frzV fe δ μ) (fun x μ'=>∃ d,x=.dat d∧P.ex ⟨nm,[(f,d)]⟩ δ μ') (fun x μ=>P.ex x δ μ)):SatS (gRaise nm f fe N δ μ) P:=by
 refine sat_lift (Sat.mono h (fun x m ⟨d,e,q⟩=>?_) fun _ _ q=>q)
 subst e;exact q
abbrev IsP (o:Out):PO:=⟨fun δ μ=>o=.next δ μ,fun r μ=>o=.ret r μ,fun δ μ=>o=.brk δ μ,fun δ μ=>o=.cnt δ μ,fun x δ μ=>o=.exc x δ μ⟩
theorem isP {o o':Out}(h:SatS o' (IsP o)):o'=o:=by
 cases o' with
 | next δ μ=>exact(show o=_ from h).symm
 | ret r μ=>exact(show o=_ from h).symm
 | brk δ μ=>exact(show o=_ from h).symm
 | cnt δ μ=>exact(show o=_ from h).symm
 | exc x δ μ=>exact(show o=_ from h).symm
 | bad=>exact h.elim
def TryK (cat:List (Str×Bool))(i:Nat)(gs:Addr→Addr→Addr→SM)(N:Nat)(P:PO)(x:Xc)(δ:Env)(μ:Mem):Prop :=
 (cat.lookup x.nm=some true∧x.fs≠[])∧∃ o,(∀ a C d,SatS (gs a C d N (δ.set i (some (.dat (.err a C d x.nm x.fs)))) μ) (IsP o))∧SatS (unset i o) P
theorem s_try {cat:List (Str×Bool)}{i:Nat}{gb:SM}{gs:Addr→Addr→Addr→SM}(h:SatS (gb N δ μ) { P with ex:=fun x δ' μ'=>TryK cat i gs N P x δ' μ' }):SatS (gTry cat i gb gs N δ μ) P:=by
 unfold gTry
 cases e:gb N δ μ with
 | exc x δ' μ' =>
  rw[e] at h
  obtain⟨⟨h1,h2⟩,o,h3,h4⟩:=h
  simp only[h1,if_pos h2]
  rw[suiteOut_of fun a C d=>isP (h3 a C d)]
  exact h4
 | next _ _=>rw[e] at h;exact h
 | ret _ _=>rw[e] at h;exact h
 | brk _ _=>rw[e] at h;exact h
 | cnt _ _=>rw[e] at h;exact h
 | bad=>rw[e] at h;exact h
theorem x_isE {i:Nat}{a C d:Addr}{tab:List (Str×Bool)}{nm:Str}{fs:List (Str×D)}{p0:Str×D}{b:Bool}(e:δ[i]?=some (some (.dat (.err a C d nm (p0::fs)))))(hb:tab.lookup nm=some b)(h:QR (.dat (.bl b)) μ):Sat (eIsE i a C d tab δ μ) QR E:=by
 unfold eIsE errAt
 simp only[e,true_and,if_true,hb]
 exact h
theorem x_xf {i:Nat}{a C d:Addr}{nm f:Str}{fs:List (Str×D)}{p0:Str×D}{v:D}(e:δ[i]?=some (some (.dat (.err a C d nm (p0::fs)))))(hb:(p0::fs).lookup f=some v)(h:QR (.dat v) μ):Sat (eXf i a C d nm f δ μ) QR E:=by
 unfold eXf errAt
 simp only[e,true_and,if_true,hb]
 exact h
theorem x_kget {tab:List (Str×Str)}{f:EM}(h:Sat (frzV f δ μ) (fun x μ'=>StrK x fun z=>QR (.dat (match tab.lookup z with|some y=>.str y|none=>.non)) μ') E):Sat (eKGet tab f δ μ) QR E:=by
 unfold eKGet
 refine sat_bind (Sat.mono h (fun x m ⟨z,e,q⟩=>?_) fun _ _ q=>q)
 rw[e]
 cases e2:tab.lookup z with
 | none=>simp only[e2] at q ⊢;exact q
 | some y=>simp only[e2] at q ⊢;exact q
theorem x_lk {f:EM}(h:Sat (f δ μ) (fun r μ1=>∃ kvs ds,r=.nk kvs∧allDatK kvs=some ds∧QR (.dat (.dct ds)) μ1) E):Sat (eLk f δ μ) QR E:=by
 unfold eLk
 refine sat_bind (Sat.mono h (fun r m ⟨kvs,ds,e,e2,q⟩=>?_) fun _ _ q=>q)
 subst e
 simp only[e2]
 exact q
theorem x_disK {f:PsM}(h:Sat (f δ μ) (fun ps μ1=>ps.length≤15∧QR (.nk (mergeD [] ps)) μ1) E):Sat (eDisK f δ μ) QR E:=by
 unfold eDisK
 refine sat_bind (Sat.mono h (fun ps m ⟨hl,q⟩=>?_) fun _ _ q=>q)
 rw[if_pos hl];exact q
theorem x_dnew (h:QR (.nk []) μ):Sat (eDNew δ μ) QR E:=h
theorem p_nilK {QP:List (Ky×DV)→Mem→Prop}(h:QP [] μ):Sat (psNil δ μ) QP E:=h
theorem p_consK {QP:List (Ky×DV)→Mem→Prop}{fk fv:EM}{r:PsM}(h:Sat (frzV fk δ μ) (fun k μ1=>Sat (frzV fv δ μ1) (fun v μ2=>Sat (r δ μ2) (fun ps μ3=>∃ key,keyD k=some key∧QP ((.k key,v)::ps) μ3) E) E) E):Sat (psCons fk fv r δ μ) QP E:=by
 unfold psCons
 refine sat_bind (Sat.mono h (fun k m1 h1=>?_) fun _ _ q=>q)
 refine sat_bind (Sat.mono h1 (fun v m2 h2=>?_) fun _ _ q=>q)
 refine sat_bind (Sat.mono h2 (fun ps m3 ⟨key,e,q⟩=>?_) fun _ _ q=>q)
 rw[e];exact q
theorem l_pow {i j:Int}(hc:0≤j∧j≤1000000∧i.natAbs<2^64)(h:QR (.dat (.int (i^j.toNat))) μ):Sat (dPow (.dat (.int i)) (.dat (.int j)) μ) QR E:=by
 unfold dPow d2I
 simp only[asI,decide_eq_true hc,if_true]
 exact h
end
end DL
namespace DL
open PySem PySem.Spec PyProof.Rows L2
mutual
def lnodes:D→List (List D)
 | .lst xs=>xs::lnodesL xs
 | .fro xs=>xs::lnodesL xs
 | .tup xs=>lnodesL xs
 | .dct kvs=>lnodesK kvs
 | .ins _ fs=>lnodesF fs
 | .err _ _ _ _ fs=>lnodesF fs
 | .non=>[]
 | .bl _=>[]
 | .int _=>[]
 | .str _=>[]
 | .ty _=>[]
 | .ref _=>[]
def lnodesL:List D→List (List D)
 | []=>[]
 | x::xs=>lnodes x++lnodesL xs
def lnodesK:List (Ky×D)→List (List D)
 | []=>[]
 | (_,x)::xs=>lnodes x++lnodesK xs
def lnodesF:List (Str×D)→List (List D)
 | []=>[]
 | (_,x)::xs=>lnodes x++lnodesF xs
end
theorem lnodesK_eq:∀ kvs:List (Ky×D),lnodesK kvs=lnodesL (kvs.map (·.2))
 | []=>rfl
 | (_,x)::xs=>by simp only[lnodesK,List.map_cons,lnodesL,lnodesK_eq xs]
theorem lnodesF_eq:∀ kvs:List (Str×D),lnodesF kvs=lnodesL (kvs.map (·.2))
 | []=>rfl
 | (_,x)::xs=>by simp only[lnodesF,List.map_cons,lnodesL,lnodesF_eq xs]
def vk:D→Nat
 | .non=>0
 | .bl _=>1
 | .int _=>2
 | .str _=>3
 | .ty _=>4
 | _=>5
def vkV:V→Nat
 | .non=>0
 | .bl _=>1
 | .int _=>2
 | .str _=>3
 | .ty _=>4
 | .ref _=>5
 | _=>6
theorem Rp.vk {K:PySem.W.Frag}{G:Hp}{v:V}{d:D}(h:Rp K G v d):vkV v=vk d:=by cases h <;> rfl
def apart (ds es:List D):Bool:=decide (ds.length≠es.length)||match ds,es with
 | d::_,e::_=>decide (vk d≠vk e)
 | _,_=>false
open Classical in
noncomputable def only (K:PySem.W.Frag)(L:List (List D))(G:Hp):Hp:=fun a=>match G a with
 | some (.lst vs)=>if ∃ es∈L,RpL K G vs es then some (.lst vs) else none
 | o=>o
theorem only_at {K:PySem.W.Frag}{L:List (List D)}{G:Hp}{a:Addr}{o:HO}(h:G a=some o)(hn:∀ vs,o≠.lst vs):only K L G a=some o:=by
 unfold only
 rw[h]
 split
 ·rename_i vs e;cases e;exact absurd rfl (hn vs)
 ·rfl
theorem only_lst {K:PySem.W.Frag}{L:List (List D)}{G:Hp}{a:Addr}{vs:List V}{es:List D}(h:G a=some (.lst vs))(hm:es∈L)(r:RpL K G vs es):only K L G a=some (.lst vs):=by
 unfold only
 rw[h]
 simp only
 rw[if_pos ⟨es,hm,r⟩]
mutual
theorem Rp.only {K:PySem.W.Frag}{L:List (List D)}{G:Hp}:∀ {v:V} {d:D},Rp K G v d→(∀ es∈lnodes d,es∈L)→Rp K (DL.only K L G) v d
 | _,_,.non,_=>.non
 | _,_,.bl b,_=>.bl b
 | _,_,.int i,_=>.int i
 | _,_,.str s,_=>.str s
 | _,_,.ty n,_=>.ty n
 | _,_,.ref a,_=>.ref a
 | _,_,.tup h r,hl=>.tup (by
   rcases h with (h|⟨o,h⟩)|h
   ·exact .inl (.inl (only_at h fun _ z=>by cases z))
   ·exact .inl (.inr ⟨o,only_at h fun _ z=>by cases z⟩)
   ·exact .inr h) (RpL.only r (by simpa only[lnodes] using hl))
 | _,_,.lst h r,hl=>.lst (only_lst h (hl _ (by simp only[lnodes];exact List.mem_cons_self)) r) (RpL.only r fun es he=>hl es (by simp only[lnodes];exact List.mem_cons_of_mem _ he))
 | _,_,.fro h r,hl=>.fro (by
   rcases h with (h|⟨o,h⟩)|h
   ·exact .inl (.inl (only_lst h (hl _ (by simp only[lnodes];exact List.mem_cons_self)) r))
   ·exact .inl (.inr ⟨o,only_at h fun _ z=>by cases z⟩)
   ·exact .inr h) (RpL.only r fun es he=>hl es (by simp only[lnodes];exact List.mem_cons_of_mem _ he))
 | _,_,.dct h k r,hl=>.dct (only_at h fun _ z=>by cases z) (k.map fun b xs h=>by
   rcases h with (h|⟨o,h⟩)|h
   ·exact .inl (.inl (only_at h fun _ z=>by cases z))
   ·exact .inl (.inr ⟨o,only_at h fun _ z=>by cases z⟩)
   ·exact .inr h) (RpL.only r (by simpa only[lnodes,lnodesK_eq] using hl))
 | _,_,.ins c h o k r,hl=>.ins c (only_at h fun _ z=>by cases z) (only_at o fun _ z=>by cases z) k (RpL.only r (by simpa only[lnodes,lnodesF_eq] using hl))
 | _,_,.er0 c,hl=>.er0 c
 | _,_,.err c h k r,hl=>.err c (only_at h fun _ z=>by cases z) k (RpL.only r (by simpa only[lnodes,lnodesF_eq] using hl))
theorem RpL.only {K:PySem.W.Frag}{L:List (List D)}{G:Hp}:∀ {vs:List V} {ds:List D},RpL K G vs ds→(∀ es∈lnodesL ds,es∈L)→RpL K (DL.only K L G) vs ds
 | _,_,.nil,_=>.nil
 | _,_,.cons a b,hl=>.cons (Rp.only a fun es he=>hl es (by simp only[lnodesL];exact List.mem_append_left _ he)) (RpL.only b fun es he=>hl es (by simp only[lnodesL];exact List.mem_append_right _ he))
end
noncomputable def both (G G':Hp)(a:Option Addr):Hp:=fun b=>if some b=a then none else match G b with
 | some o=>some o
 | none=>G' b
section
variable {K:PySem.W.Frag}{G G':Hp}{a:Addr}{oa:Option Addr}{us:List V}
theorem both_r {b:Addr}{o:HO}(hc:∀ b o,G b=some o→∀ o',G' b=some o'→o=o')(hb:some b≠oa)(e:G' b=some o):both G G' oa b=some o:=by
 unfold both
 rw[if_neg hb]
 cases q:G b with
 | none=>exact e
 | some u=>simp only;rw[hc b u q o e]
mutual
theorem Rp.off (hc:∀ b o,G b=some o→∀ o',G' b=some o'→o=o')(ha:G' a=some (.lst us)):∀ {v:V} {d:D},Rp K G' v d→lnodes d=[]→Rp K (both G G' (some a)) v d
 | _,_,.non,_=>.non
 | _,_,.bl b,_=>.bl b
 | _,_,.int i,_=>.int i
 | _,_,.str s,_=>.str s
 | _,_,.ty n,_=>.ty n
 | _,_,.ref a,_=>.ref a
 | _,_,.tup h r,hl=>.tup (by
   rcases h with (h|⟨o,h⟩)|h
   ·exact .inl (.inl (both_r hc (fun z=>by cases z;rw[ha] at h;cases h) h))
   ·exact .inl (.inr ⟨o,both_r hc (fun z=>by cases z;rw[ha] at h;cases h) h⟩)
   ·exact .inr h) (RpL.off hc ha r (by simpa only[lnodes] using hl))
 | _,_,.lst h r,hl=>by simp only[lnodes] at hl;cases hl
 | _,_,.fro h r,hl=>by simp only[lnodes] at hl;cases hl
 | _,_,.dct h k r,hl=>.dct (both_r hc (fun z=>by cases z;rw[ha] at h;cases h) h) (k.map fun b xs h=>by
   rcases h with (h|⟨o,h⟩)|h
   ·exact .inl (.inl (both_r hc (fun z=>by cases z;rw[ha] at h;cases h) h))
   ·exact .inl (.inr ⟨o,both_r hc (fun z=>by cases z;rw[ha] at h;cases h) h⟩)
   ·exact .inr h) (RpL.off hc ha r (by simpa only[lnodes,lnodesK_eq] using hl))
 | _,_,.ins c h o k r,hl=>.ins c (both_r hc (fun z=>by cases z;rw[ha] at h;cases h) h) (both_r hc (fun z=>by cases z;rw[ha] at o;cases o) o) k (RpL.off hc ha r (by simpa only[lnodes,lnodesF_eq] using hl))
 | _,_,.er0 c,hl=>.er0 c
 | _,_,.err c h k r,hl=>.err c (both_r hc (fun z=>by cases z;rw[ha] at h;cases h) h) k (RpL.off hc ha r (by simpa only[lnodes,lnodesF_eq] using hl))
theorem RpL.off (hc:∀ b o,G b=some o→∀ o',G' b=some o'→o=o')(ha:G' a=some (.lst us)):∀ {vs:List V} {ds:List D},RpL K G' vs ds→lnodesL ds=[]→RpL K (both G G' (some a)) vs ds
 | _,_,.nil,_=>.nil
 | _,_,.cons x y,hl=>by
  simp only[lnodesL,List.append_eq_nil_iff] at hl
  exact .cons (Rp.off hc ha x hl.1) (RpL.off hc ha y hl.2)
end
end
def thaw (args:List D)(μ:Mem):Res R→Res R
 | .ok (.dat (.lst ds)) _=>if(lnodesL args).all (apart ds)=true∧(lnodesL ds).isEmpty=true then .ok (.nl (ds.map DV.dat)) μ else .bad
 | .ok (.dat .non) _=>.ok (.dat .non) μ
 | .ok (.dat (.bl b)) _=>.ok (.dat (.bl b)) μ
 | .ok (.dat (.int b)) _=>.ok (.dat (.int b)) μ
 | .ok (.dat (.str b)) _=>.ok (.dat (.str b)) μ
 | .exc x _=>if x.fs.all (fun p=>(lnodes p.2).isEmpty)=true then .exc x μ else .bad
 | _=>.bad
def eCBT (F:List DV→Mem→Res R)(fa:AM):EM:=fun δ μ=>(fa δ μ).bind fun xs μ1=>match allDat xs with
 | some ds=>thaw ds μ1 (F xs [])
 | none=>.bad
section
variable {K:PySem.W.Frag}{W:WX}{ρ:Pm}{G H:Hp}{μ:Mem}{σ:Slots}{δ:Env}
end
def ltS (a b:Str):Bool:=ltCps a.cps.toList b.cps.toList
theorem ltC_irrefl:∀ a:List Nat,ltCps a a=false
 | []=>rfl
 | x::r=>by simp[ltCps,ltC_irrefl r]
theorem ltC_total:∀ {a b:List Nat},ltCps a b=false→ltCps b a=false→a=b
 | [],[],_,_=>rfl
 | [],_::_,h,_=>by cases h
 | _::_,[],_,h=>by cases h
 | x::a,y::b,h,h'=>by
  simp only[ltCps,Bool.or_eq_false_iff,decide_eq_false_iff_not,Bool.and_eq_false_iff] at h h'
  obtain rfl:x=y:=by omega
  have h1:ltCps a b=false:=h.2.elim (fun z=>by simp at z) id
  have h2:ltCps b a=false:=h'.2.elim (fun z=>by simp at z) id
  rw[ltC_total h1 h2]
theorem str_ext {a b:Str}(h:a.cps.toList=b.cps.toList):a=b:=by
 cases a;cases b
 have:(_:Array Nat)=_:=Array.toList_inj.mp h
 simp_all
theorem ltS_irrefl (a:Str):ltS a a=false:=ltC_irrefl _
theorem ltS_total {a b:Str}(h:ltS a b=false)(h':ltS b a=false):a=b:=str_ext (ltC_total h h')
section
variable {K:PySem.W.Frag}{W:WX}{ρ:Pm}{G H:Hp}{μ:Mem}{σ:Slots}{δ:Env}
def eListRng (f:EM):EM:=fun δ μ=>(frzV f δ μ).bind fun x μ'=>match asI x with
 | some n=>if 0≤n∧n≤1000000 then .ok (.nl ((List.range n.toNat).map fun i=>.dat (.int (i:Nat)))) μ' else .bad
 | none=>.bad
theorem dvl_ints:∀ (l:List Nat),DvL K ρ G (l.map fun i=>V.int (i:Nat)) (l.map fun i=>.dat (.int (i:Nat)))
 | []=>.nil
 | i::l=>.cons (Rp.int _) (dvl_ints l)
theorem snd_listRng {te:TE}{f:EM}(h:SndE K W te f):SndE K W (tLstRg (tRg1 te)) (eListRng f):=fun ρ G H σ δ μ Q R E hp=>by
 refine SndG.seq (t:=te) h.toV R E hp fun x μ1 G1 H1 v t1 R1 E1 d1 hp1=>?_
 cases e:asI x with
 | none=>rw[e] at hp1;exact hp1.elim
 | some n =>
  simp only[e] at hp1
  by_cases c:0≤n∧n≤1000000
  case neg=>rw[if_neg c] at hp1;exact hp1.elim
  rw[if_pos c] at hp1
  refine⟨n,asI_ok d1 e,RgOk.of_le (by omega) (by omega) (by omega) (by omega),fun q hq=>?_⟩
  have ev:rgV 0 n=(List.range n.toNat).map fun i=>V.int (i:Nat):=by unfold rgV;simp
  rw[ev]
  exact new_list R1 t1 hq (dvl_ints _) hp1
def insS (x:Str):List Str→List Str
 | []=>[x]
 | y::ys=>if ltS y x=true then y::insS x ys else x::y::ys
def sortS:List Str→List Str
 | []=>[]
 | x::xs=>insS x (sortS xs)
end
section
variable {K:PySem.W.Frag}{W:WX}{ρ:Pm}{G H:Hp}{μ:Mem}{σ:Slots}{δ:Env}
end
section
variable {X:Cx}{W:WX}{e:Expr}{te:TE}{f:EM}{p p2 pos pos2:Pos}
theorem pm_listRng (hc:X.calm=true) (hg:Gl X "list") (hm:X.mg "list"=none) (hg2:Gl X "range") (hm2:X.mg "range"=none) (he:PM X W e te f) (na:starEach [e] X.env=(false,eval e X.env)::starEach [] X.env:=by rfl)
  (nb:starEach [.Call (.Name "range" p2) [e] [] pos2] X.env=(false,eval (.Call (.Name "range" p2) [e] [] pos2) X.env)::starEach [] X.env:=by rfl) :
  PM X W (.Call (.Name "list" p) [.Call (.Name "range" p2) [e] [] pos2] [] pos) (tLstRg (tRg1 te)) (eListRng f):=⟨pe_listRg hc hg hm (prg_1 hg2 hm2 he.pe na) nb,snd_listRng he.sd⟩
end
theorem u1 {n m:Nat}(h:n+64<m):n+1<m:=by omega
def alikeB (ps:List PyData):Bool:=(ps.all fun x=>ps.all fun y=>PySem.W.alike x y)&&ps.all fun x=>match x with
 | .none=>false
 | _=>true
section
variable {K:PySem.W.Frag}{W:WX}{N:Nat}{ρ:Pm}{G H G0 H0:Hp}{μ:Mem}{σ:Slots}{δ:Env}{Q:VK}
def pyD (d:D):PyData:=(toPy d).getD .none
def sortableB (ps:List PyData):Bool:=(ps.all fun d=>match d with
 | .tuple (_::_)=>true
 | _=>false)||ps.all fun d=>match d with
 | .none=>false
 | .tuple _=>false
 | _=>true
end
end DL
noncomputable section
namespace DL
open PySem PySem.Spec PyProof.Rows L2 DR
section
variable {QR:R→Mem→Prop}{E:Xc→Mem→Prop}{μ ν:Mem}{δ:Env}{N:Nat}{P:PO}{d:D}{x y:DV}{k w:Nat}
theorem gP {r:Res (List (Ky×DV))}{Q:List (Ky×DV)→Mem→Prop}(h:Sat r Q E):Sat r Q E:=h
def Fk (k w:Nat)(d:D):Prop:=∃ p,toPyK d=some p∧p.showable=true∧p.depth≤k∧p.shown.length≤w
theorem l_same (hx:peek μ x=some d)(hy:peek μ y=some d)(h:Fk k w d)(hk:k≤64)(q:QR (.dat (.bl true)) μ):Sat (dSame x y μ) QR E:=by
 obtain⟨p,e,_,h2,_⟩:=h
 unfold dSame
 rw[hx,hy]
 simp only[Option.bind_some,e]
 rw[if_pos ⟨trivial,by omega⟩]
 exact q
theorem l_reprD {p:PyData}(hx:peek μ x=some d)(hp:toPyK d=some p)(h1:p.showable=true)(h2:p.depth≤64)(h3:p.shown.length≤2^20)(q:QR (.dat (.str p.shown)) μ):Sat (d1 dReprD [x] μ) QR E:=by
 show Sat (dReprD x μ) QR E
 unfold dReprD
 rw[hx]
 simp only[Option.bind_some,hp]
 rw[if_pos ⟨h1,h2,Nat.le_trans h3 (by decide)⟩]
 exact q
theorem peek_str {t:Str}(h:peek μ y=some (.str t)):y=.dat (.str t):=by
 cases y with
 | dat d=>rw[pk_dat] at h;cases h;rfl
 | loc n =>
  unfold peek peekK at h
  split at h
  ·rename_i xs _
   cases e:peekL (peekK 4 μ) xs <;> rw[e] at h <;> cases h
  ·rename_i xs _
   cases e:peekL (peekK 4 μ) xs <;> rw[e] at h <;> cases h
  ·cases h
theorem eqA_same (hx:peek μ x=some d)(hy:peek μ y=some d)(h:Fk k w d)(hk:k≤64)(q:QR (.dat (.bl true)) μ):Sat (dEqA x y μ) QR E:=by
 unfold dEqA alt2
 have key:dEq x y μ=.bad∨dEq x y μ=.ok (.dat (.bl true)) μ:=by
  unfold dEq dEqS
  cases e:asStr x with
  | some s =>
   have ex:x=.dat (.str s):=by unfold asStr at e;split at e <;> cases e;rfl
   subst ex
   rw[pk_dat] at hx;cases hx
   have ey:=peek_str hy
   subst ey
   right
   simp[asStr]
  | none =>
   simp only
   unfold dEqB peekPy
   rw[hx,hy]
   simp only[Option.bind_some]
   cases e2:toPy d with
   | none=>left;rfl
   | some p =>
    simp only
    by_cases c:SeqAt.shaped p=true
    ·right
     rw[if_pos ⟨c,c⟩,SeqAt.eqv_refl p (SeqAt.canLay_of_shaped c)];rfl
    ·left
     rw[if_neg (fun z=>c z.1)]
 rcases key with e|e
 ·rw[e];exact l_same hx hy h hk q
 ·rw[e];exact q
def gAlikeA:SM:=(gRet (eAnd (eOp dEqA (eVar 0) (eVar 1)) (eOp dEqA (eCB dReprA (aCons (eVar 0) aNil)) (eCB dReprA (aCons (eVar 1) aNil)))))
mutual
theorem toPyK_of:∀ (d:D) (p:PyData),toPy d=some p→toPyK d=some p
 | .non,_,h=>by simp only[toPy] at h;cases h;rfl
 | .bl _,_,h=>by simp only[toPy] at h;cases h;rfl
 | .int _,_,h=>by simp only[toPy] at h;cases h;rfl
 | .str _,_,h=>by simp only[toPy] at h;cases h;rfl
 | .tup xs,_,h=>by
  simp only[toPy] at h
  cases e:toPyL xs with
  | none=>rw[e] at h;cases h
  | some ps=>rw[e] at h;cases h;simp only[toPyK,toPyKL_of xs ps e];rfl
 | .lst xs,_,h=>by
  simp only[toPy] at h
  cases e:toPyL xs with
  | none=>rw[e] at h;cases h
  | some ps=>rw[e] at h;cases h;simp only[toPyK,toPyKL_of xs ps e];rfl
 | .fro xs,_,h=>by
  simp only[toPy] at h
  cases e:toPyL xs with
  | none=>rw[e] at h;cases h
  | some ps=>rw[e] at h;cases h;simp only[toPyK,toPyKL_of xs ps e];rfl
 | .ty _,_,h=>by simp only[toPy] at h;cases h
 | .ref _,_,h=>by simp only[toPy] at h;cases h
 | .dct _,_,h=>by simp only[toPy] at h;cases h
 | .ins _ _,_,h=>by simp only[toPy] at h;cases h
 | .err _ _ _ _ _,_,h=>by simp only[toPy] at h;cases h
theorem toPyKL_of:∀ (ds:List D) (ps:List PyData),toPyL ds=some ps→toPyKL ds=some ps
 | [],_,h=>by simp only[toPyL] at h;cases h;rfl
 | d::ds,_,h=>by
  simp only[toPyL] at h
  cases e:toPy d with
  | none=>rw[e] at h;cases h
  | some p =>
   rw[e] at h
   cases e2:toPyL ds with
   | none=>rw[e2] at h;cases h
   | some ps=>rw[e2] at h;cases h;simp only[toPyKL,toPyK_of d p e,toPyKL_of ds ps e2];rfl
end
theorem reprA_ok {p:PyData}(hx:peek μ x=some d)(hp:toPyK d=some p)(h1:p.showable=true)(h2:p.depth≤64)(h3:p.shown.length≤2^20)(q:QR (.dat (.str p.shown)) μ):Sat (dReprA [x] μ) QR E:=by
 unfold dReprA alt1
 have key:d1 dRepr [x] μ=.bad∨d1 dRepr [x] μ=.ok (.dat (.str p.shown)) μ:=by
  show dRepr x μ=.bad∨dRepr x μ=_
  unfold dRepr peekPy
  rw[hx]
  simp only[Option.bind_some]
  cases e:toPy d with
  | none=>left;rfl
  | some p' =>
   have e2:=toPyK_of d p' e
   rw[hp] at e2;cases e2
   simp only
   by_cases c:p.showable=true∧SeqAt.shaped p=true∧p.shown.length≤sizeLine
   ·right;rw[if_pos c]
   ·left;rw[if_neg c]
 rcases key with e|e
 ·rw[e];exact l_reprD hx hp h1 h2 h3 q
 ·rw[e];exact q
theorem alikeA (hx:peek μ x=some d)(hy:peek μ y=some d)(h:Fk k w d)(hk:k≤64)(hw:w≤2^20)(q:QR (.dat (.bl true)) μ):Sat (callD gAlikeA 2 0 [x,y] μ) QR E:=by
 obtain⟨p,hp,h1,h2,h3⟩:=h
 have h:Fk k w d:=⟨p,hp,h1,h2,h3⟩
 refine x_call rfl ?_
 show SatS (gAlikeA μ.length [some x,some y] μ) _
 unfold gAlikeA
 refine s_ret (x_and (x_op (v_var rfl (v_var rfl (eqA_same hx hy h hk (b_bl (if_T ?_)))))))
 refine x_op (x_fz (x_cb (a_consK (v_var rfl (a_nilK (reprA_ok hx hp h1 (by omega) (by omega) (z_dat ?_)))))))
 refine x_fz (x_cb (a_consK (v_var rfl (a_nilK (reprA_ok hy hp h1 (by omega) (by omega) (z_dat (w_eq (l_eqS ?_))))))))
 rw[decide_eq_true rfl]
 exact e_dat List.take_length q
theorem Fk.mono {k' w':Nat}(h:Fk k w d)(hk:k≤k')(hw:w≤w'):Fk k' w' d:=let ⟨p,a,b,c,e⟩:=h;⟨p,a,b,Nat.le_trans c hk,Nat.le_trans e hw⟩
theorem fk_non:Fk 0 4 .non:=⟨.none,rfl,rfl,Nat.le_refl _,by decide⟩
theorem fk_bl {b:Bool}:Fk 0 5 (.bl b):=⟨.bool b,rfl,rfl,Nat.le_refl _,by cases b <;> decide⟩
theorem fk_int {i:Int}(h:i.natAbs<10^12):Fk 0 13 (.int i):=⟨.int i,rfl,(fit_int h).sh,Nat.le_refl _,PyData.shown_int_le h⟩
theorem fk_str {s:Str}{m:Nat}(h:PyData.strOk s=true)(hm:s.cps.size≤m):Fk 0 (15*m+13) (.str s):=by
 refine⟨.str s,rfl,rfl,Nat.le_refl _,?_⟩
 have:=PyData.shown_le 13 (by decide) (.str s) (PyData.leavesShort_of_canLay0 13 (.str s) h rfl)
 simp only[PyData.weight] at this
 have:(13+2)*s.cps.size≤15*m:=Nat.mul_le_mul_left 15 hm
 omega
theorem fk_all {ds:List D}(h:∀ d∈ds,Fk k w d):∃ ps,toPyKL ds=some ps∧ps.length=ds.length∧PyData.showableAll ps=true∧PyData.depthAll ps≤k∧((PyData.shownAll ps).map (·.length)).sum≤ds.length*w∧(PyData.shownAll ps).length=ds.length:=by
 induction ds with
 | nil=>exact⟨[],rfl,rfl,rfl,Nat.zero_le _,Nat.zero_le _,rfl⟩
 | cons d ds ih =>
  obtain⟨ps,a1,a2,a3,a4,a5,a6⟩:=ih fun x hx=>h x (List.mem_cons_of_mem _ hx)
  obtain⟨p,b1,b2,b3,b4⟩:=h d List.mem_cons_self
  refine⟨p::ps,by simp only[toPyKL,b1,a1];rfl,by simp[a2],by simp[PyData.showableAll,b2,a3],by simp only[PyData.depthAll];omega,?_,by simp[PyData.shownAll,a6]⟩
  simp only[PyData.shownAll,List.map_cons,List.sum_cons,List.length_cons,Nat.succ_mul]
  omega
theorem fk_tup {ds:List D}{n:Nat}(h:∀ d∈ds,Fk k w d)(hn:ds.length≤n):Fk (k+1) (n*(w+2)+3) (.tup ds):=by
 obtain⟨ps,a1,a2,a3,a4,a5,a6⟩:=fk_all h
 refine⟨.tuple ps,by simp only[toPyK,a1];rfl,by simpa [PyData.showable] using a3,by simp only[PyData.depth];omega,?_⟩
 have:=tupleText_len_le (PyData.shownAll ps)
 simp only[PyData.shown]
 have:ds.length*(w+2)≤n*(w+2):=Nat.mul_le_mul_right _ hn
 have e:ds.length*(w+2)=ds.length*w+2*ds.length:=by rw[Nat.mul_add,Nat.mul_comm ds.length 2]
 omega
theorem fk_lst {ds:List D}{n:Nat}(h:∀ d∈ds,Fk k w d)(hn:ds.length≤n):Fk (k+1) (n*(w+2)+3) (.lst ds):=by
 obtain⟨ps,a1,a2,a3,a4,a5,a6⟩:=fk_all h
 refine⟨.list ps,by simp only[toPyK,a1];rfl,by simpa [PyData.showable] using a3,by simp only[PyData.depth];omega,?_⟩
 have:=listText_len_le (PyData.shownAll ps)
 simp only[PyData.shown]
 have:ds.length*(w+2)≤n*(w+2):=Nat.mul_le_mul_right _ hn
 have e:ds.length*(w+2)=ds.length*w+2*ds.length:=by rw[Nat.mul_add,Nat.mul_comm ds.length 2]
 omega
end
end DL
namespace DL
open PySem PySem.Spec PyProof.Rows L2 DR
section
variable {QR:R→Mem→Prop}{E:Xc→Mem→Prop}{μ ν:Mem}{δ:Env}{N n:Nat}{P:PO}{d:D}{x y:DV}{k:Key}{kvs:List (Ky×DV)}{ds:List D}
theorem s_dput {fo fi fe:EM}(h:Sat (frzV fe δ μ) (fun y μ1=>Sat (frzV fo δ μ1) (fun x μ2=>Sat (frzV fi δ μ2) (fun i μ3=>∃ μ4,setDct μ3 x i y=some μ4∧P.nx δ μ4) (fun x μ=>P.ex x δ μ)) (fun x μ=>P.ex x δ μ)) (fun x μ=>P.ex x δ μ)):SatS (gDPut fo fi fe N δ μ) P:=by
 refine sat_lift (sat_bind (h.mono (fun y μ1 q=>sat_bind (q.mono (fun x μ2 q=>sat_bind (q.mono (fun i μ3 q=>?_) fun _ _ q=>q)) fun _ _ q=>q)) fun _ _ q=>q))
 obtain⟨μ4,e,q⟩:=q;rw[e];exact q
theorem x_dget1 {fd fy:EM}(h:Sat (frzV fd δ μ) (fun x μ1=>isDct x μ1=true∧Sat (frzV fy δ μ1) (fun y μ2=>Sat (dGet1 x y μ2) QR E) E) E):Sat (eDGet1 fd fy δ μ) QR E:=by
 unfold eDGet1
 refine sat_bind (h.mono (fun x m ⟨e,q⟩=>?_) fun _ _ q=>q)
 rw[if_pos e]
 exact sat_bind q
theorem isDct_dat {ds:List (Ky×D)}(hk:allKD ds=true):isDct (.dat (.dct ds)) μ=true:=by
 show allK (datP ds)=true
 unfold allKD at hk;unfold allK datP;rw[List.all_map];exact hk
def ThawK (args:List D)(r:R)(Q:R→Prop):Prop:=match r with
 | .dat (.lst ds)=>((lnodesL args).all (apart ds)=true∧(lnodesL ds).isEmpty=true)∧Q (.nl (ds.map DV.dat))
 | .dat .non=>Q (.dat .non)
 | .dat (.bl b)=>Q (.dat (.bl b))
 | .dat (.int b)=>Q (.dat (.int b))
 | .dat (.str b)=>Q (.dat (.str b))
 | _=>False
theorem x_cbT {F:List DV→Mem→Res R}{fa:AM}(h:Sat (fa δ μ) (fun xs μ1=>∃ ds,allDat xs=some ds∧Sat (F xs []) (fun r _=>ThawK ds r fun r'=>QR r' μ1) (fun x _=>x.fs.all (fun p=>(lnodes p.2).isEmpty)=true∧E x μ1)) E):Sat (eCBT F fa δ μ) QR E:=by
 unfold eCBT
 refine sat_bind (h.mono (fun xs m ⟨ds,e,q⟩=>?_) fun _ _ q=>q)
 rw[e]
 simp only
 cases e2:F xs [] with
 | bad=>rw[e2] at q;exact q.elim
 | exc x m' =>
  rw[e2] at q
  have q:_∧_:=q
  simp only[thaw]
  rw[if_pos q.1];exact q.2
 | ok r m' =>
  rw[e2] at q
  have q:ThawK ds r fun r'=>QR r' m:=q
  unfold ThawK at q
  split at q
  ·simp only[thaw];rw[if_pos q.1];exact q.2
  ·exact q
  ·exact q
  ·exact q
  ·exact q
  ·exact q.elim
theorem x_listRng {f:EM}(h:Sat (frzV f δ μ) (fun x μ'=>IntK x fun n=>(0≤n∧n≤1000000)∧QR (.nl ((List.range n.toNat).map fun i=>.dat (.int (i:Nat)))) μ') E):Sat (eListRng f δ μ) QR E:=by
 unfold eListRng
 refine sat_bind (h.mono (fun x m ⟨i,e,q⟩=>?_) fun _ _ q=>q)
 rw[e];simp only;rw[if_pos q.1];exact q.2
theorem e_locN {xs:List DV}{μ':Mem}(e:μ'.take N=μ)(hn:N≤n)(hx:μ'[n]?=some (.lst xs))(hb:belowA N xs=true)(h:QR (.nl xs) μ):(endP N QR E).rt (.loc n) μ':=k_locN (E:=E) e hn hx hb h
end
end DL
namespace DL
open PySem PySem.Spec PyProof.Rows L2
def bindB (b:Bool)(N i:Nat)(r:R)(δ:Env)(μ:Mem):Out:=if b=true then bindR N i r δ μ else match frz r with
 | some x=>.next (δ.set i (some x)) μ
 | none=>.bad
def gPar3 (b1 b2 b3:Bool)(i j l:Nat)(f g h:EM):SM:=fun N δ μ=>lift (f δ μ) δ fun r1 μ1=>match bindB b1 N i r1 δ μ1 with
 | .next δ1 μ2=>lift (g δ μ2) δ fun r2 μ3=>match bindB b2 N j r2 δ1 μ3 with
  | .next δ2 μ4=>lift (h δ μ4) δ fun r3 μ5=>bindB b3 N l r3 δ2 μ5
  | _=>.bad
 | _=>.bad
section
variable {K:PySem.W.Frag}{W:WX}{N:Nat}{ρ:Pm}{G H:Hp}{μ:Mem}{σ:Slots}{δ:Env}{v:V}
end
section
variable {X:Cx}{W:WX}{pos px py pz pt pt2:Pos}{a b c:Expr}{ta tb tc:TE}{fa fb fc:EM}
end
section
variable {δ:Env}{μ:Mem}{QR:R→Mem→Prop}{E:Xc→Mem→Prop}{N n:Nat}{P:PO}{x y:DV}{k:List Int}
def BindK (b:Bool)(N i:Nat)(r:R)(δ:Env)(μ:Mem)(k:Env→Mem→Prop):Prop:=∃ δ1 μ2,bindB b N i r δ μ=.next δ1 μ2∧k δ1 μ2
theorem bk_dat {b:Bool}{i:Nat}{d:D}{k:Env→Mem→Prop}(h:k (δ.set i (some (.dat d))) μ):BindK b N i (.dat d) δ μ k:=⟨_,_,by cases b <;> rfl,h⟩
theorem bk_loc {b:Bool}{i:Nat}{m:Nat}{k:Env→Mem→Prop}(h:k (δ.set i (some (.loc m))) μ):BindK b N i (.loc m) δ μ k:=⟨_,_,by cases b <;> rfl,h⟩
theorem bk_nlF {i:Nat}{xs:List DV}{ds:List D}{k:Env→Mem→Prop}(e:allDat xs=some ds)(h:k (δ.set i (some (.dat (.lst ds)))) μ):BindK false N i (.nl xs) δ μ k:=by
 refine⟨_,_,?_,h⟩
 simp[bindB,frz,e]
theorem s_par3 {b1 b2 b3:Bool}{i j l:Nat}{f g h:EM}(hh:Sat (f δ μ) (fun r1 μ1=>BindK b1 N i r1 δ μ1 fun δ1 μ2=>Sat (g δ μ2) (fun r2 μ3=>BindK b2 N j r2 δ1 μ3 fun δ2 μ4=>Sat (h δ μ4) (fun r3 μ5=>BindK b3 N l r3 δ2 μ5 P.nx) (fun x μ=>P.ex x δ μ)) (fun x μ=>P.ex x δ μ)) (fun x μ=>P.ex x δ μ)) :
  SatS (gPar3 b1 b2 b3 i j l f g h N δ μ) P:=by
 refine sat_lift (hh.mono (fun r μ1 q=>?_) fun _ _ q=>q)
 obtain⟨δ1,μ2,e,q⟩:=q
 rw[e]
 refine sat_lift (q.mono (fun r μ1 q=>?_) fun _ _ q=>q)
 obtain⟨δ1,μ2,e,q⟩:=q
 rw[e]
 refine sat_lift (q.mono (fun r μ1 q=>?_) fun _ _ q=>q)
 obtain⟨δ1,μ2,e,q⟩:=q
 rw[e];exact q
theorem x_tget {fd fy:EM}(h:Sat (frzV fd δ μ) (fun x μ1=>Sat (frzV fy δ μ1) (fun y μ2=>Sat (dGetT x y μ2) QR E) E) E):Sat (eTGet fd fy δ μ) QR E:=x_op h
theorem x_tin {neg:Bool}{fd fy:EM}(h:Sat (frzV fy δ μ) (fun y μ1=>Sat (frzV fd δ μ1) (fun x μ2=>Sat (dInT neg y x μ2) QR E) E) E):Sat (eTIn neg fy fd δ μ) QR E:=x_op h
theorem s_tput {fo fi fe:EM}(h:Sat (frzV fe δ μ) (fun y μ1=>Sat (frzV fo δ μ1) (fun x μ2=>Sat (frzV fi δ μ2) (fun i μ3=>∃ μ4,setDctT μ3 x i y=some μ4∧P.nx δ μ4) (fun x μ=>P.ex x δ μ)) (fun x μ=>P.ex x δ μ)) (fun x μ=>P.ex x δ μ)):SatS (gTPut fo fi fe N δ μ) P:=by
 unfold gTPut
 refine sat_lift (sat_bind (h.mono (fun y m q=>?_) fun _ _ q=>q))
 refine sat_bind (q.mono (fun x m q=>?_) fun _ _ q=>q)
 refine sat_bind (q.mono (fun i m q=>?_) fun _ _ q=>q)
 obtain⟨μ4,e,q⟩:=q
 rw[e];exact q
theorem x_disT {fk fv:EM}(h:Sat (frzV fk δ μ) (fun y μ1=>Sat (frzV fv δ μ1) (fun v μ2=>∃ k,keyT y=some k∧QR (.nk [(.t (kI k),v)]) μ2) E) E):Sat (eDisT fk fv δ μ) QR E:=by
 unfold eDisT fPair
 refine sat_bind (sat_bind (h.mono (fun y m q=>?_) fun _ _ q=>q))
 refine sat_bind (q.mono (fun v m q=>?_) fun _ _ q=>q)
 obtain⟨k,e,q⟩:=q
 show Sat (match keyT y with|some kk=>Res.ok (R.nk [(.t (kI kk),v)]) m|none=>.bad) QR E
 rw[e];exact q
theorem i_keysT {f:EM}{Q:List D→Mem→Prop}(h:Sat (frzV f δ μ) (fun x μ'=>∃ ds,x=.dat (.dct ds)∧isT ds=true∧Q (keysD ds) μ') E):Sat (imKeysT f δ μ) Q E:=by
 unfold imKeysT
 refine sat_bind (h.mono (fun x m ⟨ds,e,ht,q⟩=>?_) fun _ _ q=>q)
 subst e;simp only;rw[if_pos ht];exact q
theorem i_itemsT {f:EM}{Q:List D→Mem→Prop}(h:Sat (frzV f δ μ) (fun x μ'=>∃ ds,x=.dat (.dct ds)∧isT ds=true∧Q (pairsOf ds) μ') E):Sat (imItemsT f δ μ) Q E:=by
 unfold imItemsT
 refine sat_bind (h.mono (fun x m ⟨ds,e,ht,q⟩=>?_) fun _ _ q=>q)
 subst e;simp only;rw[if_pos ht];exact q
theorem i_keysK {f:EM}{Q:List D→Mem→Prop}(h:Sat (frzV f δ μ) (fun x μ'=>∃ ds,x=.dat (.dct ds)∧allKD ds=true∧Q (keysD ds) μ') E):Sat (imKeys f δ μ) Q E:=by
 unfold imKeys
 refine sat_bind (h.mono (fun x m ⟨ds,e,ht,q⟩=>?_) fun _ _ q=>q)
 subst e;simp only;rw[if_pos ht];exact q
theorem i_itemsK {f:EM}{Q:List D→Mem→Prop}(h:Sat (frzV f δ μ) (fun x μ'=>∃ ds,x=.dat (.dct ds)∧allKD ds=true∧Q (pairsOf ds) μ') E):Sat (imItems f δ μ) Q E:=by
 unfold imItems
 refine sat_bind (h.mono (fun x m ⟨ds,e,ht,q⟩=>?_) fun _ _ q=>q)
 subst e;simp only;rw[if_pos ht];exact q
end
set_option maxHeartbeats 2000000
section
variable {prog:Program}{w:World}{A:Around}{E:Value→Shared→Prop}{s:Shared}
end
set_option maxHeartbeats 1000000
section
variable {K:PySem.W.Frag}{W:WX}{ρ:Pm}{G H G0 H0:Hp}{μ:Mem}{σ:Slots}{δ:Env}
end
section
variable {K:PySem.W.Frag}{W:WX}{ρ:Pm}{G H H' G0 H0:Hp}{μ:Mem}{σ:Slots}{δ:Env}
end
section
variable {δ:Env}{μ:Mem}{QR:R→Mem→Prop}{E:Xc→Mem→Prop}
end
section
variable {prog:Program}{w:World}{K:Type}[DecidableEq K]{knd:PySem.KeyKind prog w K}{A:Around}{E:Value→Shared→Prop}{s:Shared}
end
section
variable {prog:Program}{w:World}{A:Around}{E:Value→Shared→Prop}{s:Shared}
end
section
variable {prog:Program}{w:World}{A:Around}{E:Value→Shared→Prop}{s:Shared}
end
def eDisU (f:EM)(g:PsM):EM:=fun δ μ=>(frzV f δ μ).bind fun x μ1=>match x with
 | .dat (.dct ds)=>if allKD ds=true∧ds.length≤1000 then(g δ μ1).bind fun ps μ2=>if ps.length≤15 then .ok (.nk (mergeD (mergeD [] (datP ds)) (mergeD [] ps))) μ2 else .bad else .bad
 | _=>.bad
section
variable {K:PySem.W.Frag}{W:WX}{ρ:Pm}{G H G0 H0:Hp}{μ:Mem}{σ:Slots}{δ:Env}
end
section
variable {X:Cx}{W:WX}{e k v:Expr}{te tk tv:TE}{f fk fv:EM}{pos:Pos}
end
section
variable {prog:Program}{w:World}{A:Around}{E:Value→Shared→Prop}{s:Shared}{K:PySem.W.Frag}{x C L f:Addr}{h₀:Heap}{m:Str→Option Value}{ox:Obj}{od:Option Obj}{b tb:Value}
theorem ne_entry (hu:A.units<cLine) (X:K.In s.heap) (I:PySem.W.InstAt s.heap x ox C od) (hs:PySem.W.findIn K (.ref C) "__eq__"=some (some (.ref f))) (hf:PySem.W.isFn K (.ref f)=true) {Q:Fin→Shared→Prop}
  (hcall:wpAny (model prog w) A (call (.ref f) [.ref x,b]) (fun v s'=>∃ c,v=.bool c∧Q (.done (.ret (.bool (!c)))) s') E s) :
  wpAny (model prog w) A (Builtin.«object.__ne__» ⟨[.ref x,b],[]⟩) Q E s:=by
 unfold Builtin.«object.__ne__»
 repeat (first
  | with_reducible refine wpAny_cRoomFor hu ?_
  | (refine wpAny_bind (m:=callSpecialIfBound? (.ref x) (Str.ofString "__eq__") [b]) (PySem.W.ifBound_K X I hs hf (wpAny_mono hcall (fun r s' hr=>by
     obtain⟨c,rfl,hq⟩:=hr
     repeat (first|exact hq|exact wpAny_pure hq|exact wpAny_truthy_bool hq|(refine wpAny_bind (m:=truthy (.bool _)) (wpAny_truthy_bool ?_))|wp_step)) fun _ _ e=>e)))
  | wp_step)
theorem ifBound_ne {M:Model} {args:List Value} {Q:Option Value→Shared→Prop} (X:K.In s.heap) (I:PySem.W.InstAt s.heap x ox C od) (hs:PySem.W.findIn K (.ref C) "__ne__"=some (some (.builtin "object.__ne__")))
  (h:wpAny M A (call (.builtin "object.__ne__") (.ref x::args)) (fun v=>Q (some v)) E s):wpAny M A (callSpecialIfBound? (.ref x) "__ne__" args) Q E s:=by
 simp only[callSpecialIfBound?,bindSpecialIfBound?]
 refine wpAny_holding (wpAny_bind (wpAny_bind (wpAny_bind (I.type.here ((PySem.W.looks_findIn X hs).here ?_)))))
 refine wpAny_bind (wpAny_askSetting (wpAny_ite ?_))
 have fin:wpAny M A (call (.builtin "object.__ne__") ([.ref x]++args) >>= fun v=>pure (some v)) Q E s:=wpAny_bind (wpAny_mono h (fun v s' h'=>wpAny_pure h') fun _ _ h'=>h')
 split
 ·exact wpAny_bind (wpAny_of_eq (F.cmp_object.ne.bind _) (wpAny_pure (by exact fin)))
 ·exact wpAny_tryCatch (wpAny_bind (wpAny_of_eq (F.cmp_object.ne.bind _) (wpAny_pure (by exact fin))))
theorem ne_K {Q:Value→Shared→Prop}(hu:A.units+1<cLine)(F0:Fr h₀ L s.heap m)(X₀:K.In h₀)(I:PySem.W.InstAt s.heap x ox C od)(hb:PySem.W.Looks (model prog w) s.heap (typeOf b) tb)(hn:PySem.W.notFirst K C tb=true)
  (hs:PySem.W.findIn K (.ref C) "__ne__"=some (some (.builtin "object.__ne__"))) (hm:PySem.W.mroIn K C (.type "object")=some true) (he:PySem.W.findIn K (.ref C) "__eq__"=some (some (.ref f))) (hf:PySem.W.isFn K (.ref f)=true)
  (h:wpAny (model prog w) A.in1 (call (.ref f) [.ref x,b]) (fun v s'=>∃ c,v=.bool c∧Q (.bool (!c)) s') E s):wpAny (model prog w) A (richCompare .NotEq (.ref x) b) Q E s:=by
 have X:=X₀.keeps F0.keep
 have one:wpAny (model prog w) A (tryCompare (.ref x) "__ne__" b) (fun r s'=>∃ c,r=some (.bool c)∧Q (.bool c) s') E s:=by
  unfold tryCompare
  refine wpAny_bind (ifBound_ne X I hs (wpAny_call (codeAny_call_builtin F.cmp_object.ne.plain F.cmpEntry_ne (PySem.W.check_slot F.cmpKind_ne F.cmpSplit_ne (I.type.andThen (PySem.W.looks_mroIn X hm)) (F.cmpArgs_ne _ _) (ne_entry (A:=A.in1) hu X I he hf (wpAny_mono h (fun v s' hv=>?_) fun _ _ e=>e))))))
  obtain⟨c,rfl,hq⟩:=hv
  exact⟨c,rfl,wpAny_pure ⟨_,rfl,hq⟩⟩
 unfold richCompare
 simp only[oneThing_ref]
 refine wpAny_holding (wpAny_bind (wpAny_cRoomFor (Nat.lt_of_succ_lt hu) ?_))
 refine wpAny_bind (I.type.here (wpAny_bind (hb.here ?_)))
 split
 ·rename_i q
  have e:PySem.W.subIn K tb (.ref C)=some false:=by
   rcases Bool.or_eq_true_iff.mp hn with e|e
   ·rw[beq_iff_eq.mp e] at q;simp at q
   ·exact beq_iff_eq.mp e
  refine wpAny_bind ((PySem.W.looks_subIn X e).here ?_)
  simp only[Bool.false_eq_true,if_false]
  refine wpAny_bind (wpAny_mono one (fun r s' z=>?_) fun _ _ e=>e)
  obtain⟨v,rfl,hq⟩:=z
  exact wpAny_pure hq
 ·refine wpAny_bind (wpAny_pure ?_)
  simp only[Bool.false_eq_true,if_false]
  refine wpAny_bind (wpAny_mono one (fun r s' z=>?_) fun _ _ e=>e)
  obtain⟨v,rfl,hq⟩:=z
  exact wpAny_pure hq
end
structure NoNe (K:PySem.W.Frag)(C:Addr):Prop where
 ne:PySem.W.findIn K (.ref C) "__ne__"=some (some (.builtin "object.__ne__"))
 mro:PySem.W.mroIn K C (.type "object")=some true
section
variable {X:Cx}{k:Nat}{f C:Addr}{fd:FuncData}{ps:List Str}{sp:Sp}
def rNeO (K:PySem.W.Frag)(nm:Str)(sp:Sp):R2:=fun x y H Q=>∃ C a dx fs t,ClsAt K nm C∧x=.ref a∧H a=some (.ins C dx fs)∧TyZ K H y t∧PySem.W.notFirst K C t=true∧sp [x,y] H (fun v H'=>∃ b:Bool,v=.bl b∧Q (.bl (!b)) H') noE
theorem op_neO {nm:Str} (F:FnG X.prog X.w X.K X.mg X.base CX0 k f fd ps sp) (hr:Room (k+1) X.A) (hgd:X.A.guards=some []) (c:ClsAt X.K nm C) (hN:NoNe X.K C) (hm:Meth X.K C "__eq__" f) (hb:Binds X.K fd ps []):OpR X (compareOp .NotEq) (rNeO X.K nm sp):=by
 intro pins s σ H x y u v Q I rx ry h
 obtain⟨C',a,dx,fs,t,c',rfl,ha,ty,nf,q⟩:=h
 cases c.uniq c'
 cases rx
 obtain⟨mA,J,_⟩:=ins_get I.hok ha
 obtain⟨od,J,_⟩:=J.look
 obtain⟨m,hF⟩:=I.fr
 obtain⟨P,Z,p,_⟩:=kit_ofZ I ry ty
 show wpAny (model X.prog X.w) X.A (richCompare .NotEq (.ref a) v) (EP X pins σ Q) X.xe s
 refine ne_K hr.in1.units0 hF I.ok.mod.kin J (Z.ty _ _ I.kIn p) nf hN.ne hN.mro hm.at_ hm.fn ?_
 refine wpAny_mono (run_fnA (A:=X.A.in1) (us:=[.ref a,v]) (vs:=[.ref a,y]) F hr.in1 hgd rfl hb (pass_0 (E:=fun _=>noE) σ) I (.cons rfl (.cons ry .nil)) q) (fun u s' z=>?_) fun _ _ z=>z
 obtain⟨w,H',I',rv,b,rfl,q'⟩:=z
 cases (show u=Value.bool b from rv)
 exact⟨b,rfl,.bl (!b),H',I',rfl,q'⟩
end
def notR:Res R→Res R
 | .ok (.dat (.bl b)) μ=>.ok (.dat (.bl (!b))) μ
 | _=>.bad
def eNeO (nm:Str)(others:List Str)(F:List DV→Mem→Res R)(fa fb:EM):EM:=fun δ μ=>(frzV fa δ μ).bind fun x μ1=>(frzV fb δ μ1).bind fun y μ2=>if isI nm "" x μ2=true∧((kindOf μ2 y).bind (tabC nm others)).isSome=true then notR (F [x,y] μ2) else .bad
section
variable {K:PySem.W.Frag}{W:WX}{ρ:Pm}{G H:Hp}{σ:Slots}{δ:Env}{μ:Mem}{nm:Str}{C:Addr}{n:Nat}{F:List DV→Mem→Res R}
theorem snd_neO {ta tb:TE}{fa fb:EM}{others:List Str}(c:ClsAt K nm C)(T:TabOk K (tabC nm others) fun t b=>PySem.W.kitOne K t (.ref C)=some b)(ha:SndE K W ta fa)(hb:SndE K W tb fb)(hn:∀ xs μ,F xs μ≠.bad→xs.length=n):SndE K W (tOp (rNeO K nm (spF K n F)) ta tb) (eNeO nm others F fa fb):=fun ρ G H σ δ μ Q R E hp=>by
 refine SndG.seq (t:=ta) ha.toV R E hp fun x μ1 G1 H1 v t1 R1 E1 d1 hp1=>?_
 refine SndG.seq (t:=tb) hb.toV R1 E1 (hp1.shiftE t1) fun y μ2 G2 H2 w t2 R2 E2 d2 hp2=>?_
 have hp2:=hp2.shiftE t2
 have d1:=d1.mono t2.exG fun _ _ q=>q
 by_cases hc:isI nm "" x μ2=true∧((kindOf μ2 y).bind (tabC nm others)).isSome=true
 case neg=>rw[if_neg hc] at hp2;exact hp2.elim
 rw[if_pos hc] at hp2
 obtain⟨hc1,hc2⟩:=hc
 obtain⟨a,dx,vs,rfl,ha',hl⟩:=isI_ok R2 d1 c hc1
 cases ek:kindOf μ2 y with
 | none=>rw[ek] at hc2;cases hc2
 | some kd =>
  rw[ek] at hc2
  simp only[Option.bind_some] at hc2
  cases et:tabC nm others kd with
  | none=>rw[et] at hc2;cases hc2
  | some b =>
   obtain⟨t,k1,k2⟩:=kind_ok R2 d2 (fun nm' e=>T.cl nm' b (e▸et)) ek
   have hk:=T.ok kd b t et k1
   refine⟨C,a,dx,vs,t,c,rfl,ha',k2,notFirst_of hk (fun hb=>?_),?_⟩
   ·subst hb
    cases kd with
    | b s=>simp only[tabC] at et;split at et <;> cases et
    | c nm' =>
     simp only[tabC] at et
     by_cases e:nm'=nm
     ·subst e;obtain⟨C',c',rfl⟩:=k1;rw[c.uniq c']
     ·rw[if_neg e] at et;split at et <;> cases et
   ·have hbd:F [x,y] μ2≠.bad:=fun e=>by rw[e] at hp2;exact hp2
    refine⟨hn _ _ hbd,ρ,G2,μ2,[x,y],R2,.cons d1 (.cons d2 .nil),?_⟩
    cases e:F [x,y] μ2 with
    | bad=>exact hbd e
    | exc y μ'=>rw[e] at hp2;exact hp2.elim
    | ok r μ' =>
     rw[e] at hp2
     intro G' H' v t' R' q
     cases r with
     | dat d =>
      cases d with
      | bl i=>cases q;exact⟨i,rfl,hp2 G' H' _ t' R' (Rp.bl (!i))⟩
      | _=>exact hp2.elim
     | _=>exact hp2.elim
end
section
variable {X:Cx}{W:WX}{P:Program}{w:World}{K:PySem.W.Frag}{mg:Str→Option Value}{base:Heap}{k n:Nat}{nm:Str}{F:List DV→Mem→Res R}{a b e:Expr}{ta tb te:TE}{fa fb f:EM}{p pos:Pos}
theorem pm_neO {others:List Str} (Fn:MthD P w K mg base CX0 k nm "__eq__" n F) (hr:Room (k+1) X.A) (hgd:X.A.guards=some []) (T:∀ C,ClsAt K nm C→TabOk K (tabC nm others) fun t b=>PySem.W.kitOne K t (.ref C)=some b) (hN:∀ C,ClsAt K nm C→NoNe K C) (ha:PM X W a ta fa) (hb:PM X W b tb fb) (h1:X.prog=P:=by rfl) (h2:X.w=w:=by rfl) (h3:X.K=K:=by rfl) (h4:X.mg=mg:=by rfl) (h5:X.base=base:=by rfl) :
  PM X W (.Compare a [.NotEq] [b] pos) (tOp (rNeO K nm (spF K n F)) ta tb) (eNeO nm others F fa fb):=by
 subst h1 h2 h3 h4 h5
 obtain⟨C,f,fd,ps,hn,c,G,cl,hme,hbd⟩:=Fn.ex
 exact⟨pe_cmpR (op_neO G hr hgd c (hN C c) hme hbd) ha.pe hb.pe (nomark _),snd_neO c (T C c) ha.sd hb.sd Fn.ar⟩
end
section
variable {K:PySem.W.Frag}{W:WX}{ρ:Pm}{G H:Hp}{σ:Slots}{δ:Env}{μ:Mem}
def imVals (f:EM):IM:=fun δ μ=>(frzV f δ μ).bind fun x μ'=>match x with
 | .dat (.dct ds)=>if allKD ds=true then .ok (ds.map (·.2)) μ' else .bad
 | _=>.bad
def dwnD (i:Int)(n:Nat):List D:=(List.range n).map fun k=>.int (i-(k:Nat))
def imDwn (f:AM):IM:=fun δ μ=>(f δ μ).bind fun xs μ'=>match xs with
 | [x,y,z]=>match asI x,asI y,asI z with
  | some i,some j,some c=>if -(2^62)≤i∧i<2^62∧-(2^62)≤j∧j<2^62∧c=-1 then .ok (dwnD i (i-j).toNat) μ' else .bad
  | _,_,_=>.bad
 | _=>.bad
end
section
variable {X:Cx}{W:WX}{tg e a b c:Expr}{te:TE}{ta:TA}{f:EM}{fa:AM}{apos cpos p pos:Pos}
end
inductive Pth where
 | s (i:Nat)|f (p:Pth) (m:Str)|k (p:Pth) (key:Key)
def Pth.at (δ:Env)(μ:Mem):Pth→Option Nat
 | .s i=>match δ[i]? with
  | some (some (.loc n))=>some n
  | _=>none
 | .f p m=>match p.at δ μ with
  | some n=>match μ[n]? with
   | some (.ins _ fs)=>match fs.lookup m with
    | some (.loc c)=>some c
    | _=>none
   | _=>none
  | none=>none
 | .k p key=>match p.at δ μ with
  | some n=>match dctOf (.loc n) μ with
   | some kvs=>match dval kvs (.k key) with
    | some (.loc c)=>some c
    | _=>none
   | none=>none
  | none=>none
def unlk (c:Nat)(μ:Mem):Option Mem:=match μ[c]? with
 | some (.lkd kvs)=>some (μ.set c (.dct kvs))
 | _=>none
section
variable {K:PySem.W.Frag}{W:WX}{N:Nat}{ρ ρ':Pm}{G H G' H' G0 H0:Hp}{μ μ':Mem}{σ:Slots}{δ:Env}{n c:Nat}{d:Addr}{od:Obj}{u:HO}{Dn:Ends}
def lkdOf (x:DV)(μ:Mem):Option (List (Ky×D)):=match x with
 | .dat (.dct ds)=>some ds
 | .dat _=>none
 | .loc c=>match μ[c]? with
  | some (.lkd kvs)=>allDatK kvs
  | _=>none
def imKeysL (f:EM):IM:=fun δ μ=>(frzV f δ μ).bind fun x μ'=>match lkdOf x μ' with
 | some ds=>if allKD ds=true then .ok (keysD ds) μ' else .bad
 | none=>.bad
def imItemsL (f:EM):IM:=fun δ μ=>(frzV f δ μ).bind fun x μ'=>match lkdOf x μ' with
 | some ds=>if allKD ds=true then .ok (pairsOf ds) μ' else .bad
 | none=>.bad
end
section
variable {X:Cx}{W:WX}{tg e:Expr}{te:TE}{f:EM}{apos cpos:Pos}{st:Stmt}{ts:TS}{g:SM}
end
section
variable {K:PySem.W.Frag}{W:WX}{N M:Nat}{ρ ρ1:Pm}{G H G1 H1:Hp}{σ:Slots}{δ:Env}{μ:Mem}{Dn:Ends}
theorem TrS.low (t:TrS M ρ G H ρ1 G1 H1)(h:N≤M):TrS N ρ G H ρ1 G1 H1 :=
 ⟨fun n hn=>t.pre n (Nat.lt_of_lt_of_le hn h),t.exG,t.keep,t.th,fun a q=>(t.nG a q).imp_right fun z=>z.imp_right fun⟨n,hn,e⟩=>⟨n,Nat.le_trans h hn,e⟩,fun n a q=>(t.nρ n a q).imp_left fun z=>z.imp_right fun⟨m,hm,w⟩=>⟨m,Nat.le_trans h hm,w⟩,t.fz⟩
theorem paired_at {α β:Type}{r:α→β→Prop}{vs:List α}{xs:List β}(h:Paired r vs xs):∀ {i:Nat} {x:β},xs[i]?=some x→∃ u,vs[i]?=some u∧r u x:=by
 induction h with
 | nil=>intro i x e;simp at e
 | cons q _ ih =>
  intro i x e
  cases i with
  | zero=>simp at e;subst e;exact⟨_,rfl,q⟩
  | succ i=>exact ih (by simpa using e)
theorem turn_low {tb:TS}{gb:SM}{ks:List Bool}{k:Env→Mem→Out}{Nn:Slots→Hp→Prop}(hb:SndS K W tb gb)(hNM:N≤M)(R:Rel K ρ G H μ)(E:EnvOk K ρ G σ δ)(hM:∀ n a,ρ n=some a→n<M)
  (hp:PostS K W N ρ G H Dn (turnL M ks (gb M δ μ) k))
  (go:∀ ρ' G' H' σ' δ' μ',TrS N ρ G H ρ' G' H'→(∀ n,n<M→ρ' n=ρ n)→Rel K ρ' G' H' μ'→EnvOk K ρ' G' σ' δ'→(∀ n a,ρ' n=some a→n<M)→PostS K W N ρ G H Dn (k δ' μ')→Nn σ' H') :
  tb { nx:=Nn,rt:=Dn.rt,bk:=Dn.nx,ct:=Nn } σ H:=by
 have same:∀ {ρ':Pm} {G' H':Hp},TrS M ρ G H ρ' G' H'→∀ n,n<M→resP M ρ' n=ρ n:=fun t' n hn=>by unfold resP;rw[if_pos hn];exact t'.pre n hn
 refine hb M ρ G H σ δ μ _ R E ?_
 cases e:gb M δ μ with
 | bad=>rw[e] at hp;exact hp
 | exc x δ' μ'=>rw[e] at hp;exact fun ρ' G' H' σ' cls d t'=>hp ρ' G' H' σ' cls d (t'.low hNM)
 | ret r μ'=>rw[e] at hp;exact fun ρ' G' H' v t'=>hp ρ' G' H' v (t'.low hNM)
 | brk δ' μ'=>rw[e] at hp;exact fun ρ' G' H' σ' t' R' E'=>hp _ G' H' σ' ((t'.low hNM).cut hM) (R'.cut M) (E'.cut M ks)
 | cnt δ' μ'=>rw[e] at hp;exact fun ρ' G' H' σ' t' R' E'=>go _ G' H' σ' _ _ ((t'.low hNM).cut hM) (same t') (R'.cut M) (E'.cut M ks) (fun n a q=>(resP_some q).1) hp
 | next δ' μ'=>rw[e] at hp;exact fun ρ' G' H' σ' t' R' E'=>go _ G' H' σ' _ _ ((t'.low hNM).cut hM) (same t') (R'.cut M) (E'.cut M ks) (fun n a q=>(resP_some q).1) hp
open Classical in
noncomputable def forP (M:Nat)(ks:List Bool)(n:Nat)(p:Pl)(j:Nat)(gb:SM):List DV→Env→Mem→Out
 | [],δ,μ=>if μ[n]?=some p then .next δ μ else .bad
 | x::xs,δ,μ=>if μ[n]?=some p then turnL M ks (gb M (δ.set j (some x)) μ) (forP M ks n p j gb xs) else .bad
theorem forP_ok {tb:TS}{gb:SM}{n j:Nat}{xs:List DV}{ks:List Bool}{a:Addr}(hb:SndS K W tb gb)(R:Rel K ρ G H μ)(E:EnvOk K ρ G σ δ)(hNM:N≤M)(hM:∀ n a,ρ n=some a→n<M)(hn:n<M)(ea:ρ n=some a)
  (hp:PostS K W N ρ G H Dn (forP M ks n (.lst xs) j gb xs δ μ)) :
  ∃ W':Nat→Nat→Slots→Hp→Prop,(∃ m,W' 0 m σ H)∧∀ i m σ H,W' i m σ H→((Itl K a).stop i H∧Dn.nx σ H)∨((Itl K a).go i H∧∃ Nn:Slots→Hp→Prop,(∀ σ' H',Nn σ' H'→∃ m',m'<m∧W' (i+1) m' σ' H') ∧
   ∀ v H',(Itl K a).yld i H v H'→gName j v σ H' fun σ2 H2=>tb { nx:=Nn,rt:=Dn.rt,bk:=Dn.nx,ct:=Nn } σ2 H2):=by
 refine⟨fun i m σ H=>∃ ρ1 G1 δ1 μ1,Rel K ρ1 G1 H μ1∧EnvOk K ρ1 G1 σ δ1∧(∀ n a,ρ1 n=some a→n<M)∧ρ1 n=some a∧m=xs.length-i∧i≤xs.length∧PostS K W N ρ1 G1 H Dn (forP M ks n (.lst xs) j gb (xs.drop i) δ1 μ1),
  ⟨xs.length,ρ,G,δ,μ,R,E,hM,ea,by omega,by omega,hp⟩,?_⟩
 rintro i m σ1 H1 ⟨ρ1,G1,δ1,μ1,R1,E1,hM1,ea1,em,hi,hp1⟩
 have hl:μ1[n]?=some (.lst xs):=by
  cases e:xs.drop i with
  | nil =>
   rw[e] at hp1;unfold forP at hp1
   by_cases c:μ1[n]?=some (.lst xs)
   ·exact c
   ·rw[if_neg c] at hp1;exact hp1.elim
  | cons x r =>
   rw[e] at hp1;unfold forP at hp1
   by_cases c:μ1[n]?=some (.lst xs)
   ·exact c
   ·rw[if_neg c] at hp1;exact hp1.elim
 obtain⟨_,a',vs,q1,q2,q3⟩:=R1.pl n _ hl
 rw[ea1] at q1
 cases q1
 have hq:SqL K H1 a vs:=.inl (.inl q2)
 have lv:vs.length=xs.length:=paired_len q3
 cases e:xs.drop i with
 | nil =>
  rw[e] at hp1;unfold forP at hp1;rw[if_pos hl] at hp1
  have hl2:xs.length≤i:=by
   have:=congrArg List.length e
   rw[List.length_drop] at this
   simp at this;omega
  exact .inl ⟨⟨vs,hq,by omega⟩,hp1 ρ1 G1 H1 σ1 (TrS.refl _ _ _ _) R1 E1⟩
 | cons x r =>
  rw[e] at hp1;unfold forP at hp1;rw[if_pos hl] at hp1
  obtain⟨hd,hds,hlt⟩:=drop_cons e
  obtain⟨u,hu,du⟩:=paired_at q3 hd
  refine .inr ⟨⟨vs,u,hq,hu⟩,fun σ' H'=>∃ m',m'<m∧_,fun σ' H' q=>q,fun v H' hy=>?_⟩
  obtain⟨rfl,hy⟩:=hy
  have e2:=hy vs hq
  rw[hu] at e2;cases e2
  refine turn_low hb hNM R1 (E1.set j du) hM1 hp1 fun ρ3 G3 H3 σ3 δ3 μ3 t3 sm R3 E3 hM3 hp3=>?_
  refine⟨xs.length-(i+1),by omega,ρ3,G3,δ3,μ3,R3,E3,hM3,by rw[sm n hn];exact ea1,rfl,hlt,?_⟩
  rw[hds];exact PostS.shift t3 hp3
end
abbrev XM:=Env→Mem→Res DV
def PostX (K:PySem.W.Frag)(W:WX)(M:Nat)(ρ:Pm)(G H:Hp)(σ:Slots)(Q:VK):Res DV→Prop
 | .ok x μ'=>∀ ρ' G' H' v,TrS M ρ G H ρ' G' H'→Rel K ρ' G' H' μ'→DvOk K ρ' G' v x→Q v H'
 | .exc x μ'=>∀ ρ' G' H' cls d,TrS M ρ G H ρ' G' H'→Rel K ρ' G' H' μ'→XcOk K G' H' x cls d→W cls d σ H'
 | .bad=>False
def SndX (K:PySem.W.Frag)(W:WX)(t:TE)(f:XM):Prop:=∀ (ρ:Pm) (G H:Hp) (σ:Slots) (δ:Env) (μ:Mem) (Q:VK),Rel K ρ G H μ→EnvOk K ρ G σ δ →
 PostX K W μ.length ρ G H σ Q (f δ μ)→t σ H Q
structure PMX (X:Cx)(W:WX)(e:Expr)(te:TE)(f:XM):Prop where
 pe:PE X e te
 sd:SndX X.K W te f
def xOf (f:EM):XM:=fun δ μ=>(f δ μ).bind fun r μ'=>match newPl μ.length r μ' with
 | some (x,μ'')=>.ok x μ''
 | none=>.bad
section
variable {K:PySem.W.Frag}{W:WX}{N M:Nat}{ρ ρ1:Pm}{G H G1 H1 G0 H0:Hp}{σ:Slots}{δ:Env}{μ:Mem}{te:TE}{ta:TA}{f:EM}{fa:AM}{fx:XM}{Dn:Ends}
theorem newPl_ok2 {r:R}{v:V}{x:DV}{μ2:Mem}{ρ0:Pm}(R':Rel K ρ G H μ)(t:TrS N ρ0 G0 H0 ρ G H)(d:RpR K ρ G H0 H v r)(e:newPl N r μ=some (x,μ2)) :
  ∃ ρ1,TrS N ρ0 G0 H0 ρ1 G H∧Rel K ρ1 G H μ2∧(∀ n b,ρ n=some b→ρ1 n=some b)∧DvOk K ρ1 G v x:=by
 have up:∀ {a:Addr} (n b),ρ n=some b→addP ρ μ.length a n=some b:=fun {a} n b q=>by
  unfold addP;rw[if_neg (Nat.ne_of_lt (R'.lt n b q))];exact q
 cases r with
 | dat d'=>cases e;exact⟨ρ,t,R',fun _ _ q=>q,d⟩
 | loc n=>cases e;exact⟨ρ,t,R',fun _ _ q=>q,d⟩
 | nl xs =>
  obtain⟨a,vs,rfl,h2,h3,h4,h5,h6⟩:=d
  simp only[newPl] at e
  by_cases hN:N≤μ.length
  case neg=>rw[if_neg hN] at e;cases e
  rw[if_pos hN] at e;cases e
  obtain⟨R2,t2,up2,at_⟩:=R'.alloc (p:=.lst xs) hN t (by rw[h2];simp) h4 h5 h6 ⟨DvL.below R' h3,a,vs,by unfold addP;rw[if_pos rfl],h2,DvL.mono (Ex.refl _) up h3⟩
  exact⟨_,t2,R2,up2,⟨a,rfl,at_⟩⟩
 | nk kvs =>
  obtain⟨a,o,vs,rfl,h2,hk,h3,h4,h5,h6⟩:=d
  have bl:∀ p∈kvs,p.2.below μ.length:=fun p hp=>DvL.below R' h3 p.2 (List.mem_map.mpr ⟨p,hp,rfl⟩)
  simp only[newPl] at e
  by_cases hN:N≤μ.length
  case neg=>rw[if_neg hN] at e;cases e
  rw[if_pos hN] at e;cases e
  obtain⟨R2,t2,up2,at_⟩:=R'.alloc (p:=.dct kvs) hN t (by rw[h2];simp) h4 h5 h6 ⟨bl,a,o,vs,by unfold addP;rw[if_pos rfl],h2,hk,DvL.mono (Ex.refl _) up h3⟩
  exact⟨_,t2,R2,up2,⟨a,rfl,at_⟩⟩
theorem up_of (R:Rel K ρ G H μ)(t:TrS μ.length ρ G H ρ1 G1 H1):∀ n b,ρ n=some b→ρ1 n=some b:=fun n b q=>(t.pre n (R.lt n b q)).trans q
theorem snd_xof (h:SndE K W te f):SndX K W te (xOf f):=fun ρ G H σ δ μ Q R E hp=>by
 unfold xOf at hp
 refine h ρ G H σ δ μ Q R E ?_
 cases e:f δ μ with
 | bad=>rw[e] at hp;exact hp
 | exc x μ'=>rw[e] at hp;exact fun G' H' cls d t R' q=>hp ρ G' H' cls d t.toS R' q
 | ok r μ' =>
  rw[e] at hp
  simp only[Res.bind_ok] at hp
  intro G' H' v t R' q
  cases e2:newPl μ.length r μ' with
  | none=>rw[e2] at hp;exact hp.elim
  | some p =>
   obtain⟨x,μ''⟩:=p
   rw[e2] at hp
   obtain⟨ρ1,t1,R1,up,d1⟩:=newPl_ok R' (t.toS (N:=μ.length)) q e2
   exact hp ρ1 G' H' v t1 R1 d1
def gAsgX (i:Nat)(f:XM):SM:=fun N δ μ=>if N≤μ.length then lift (f δ μ) δ fun x μ'=>.next (δ.set i (some x)) μ' else .bad
theorem snd_asgX (i:Nat)(h:SndX K W te fx):SndS K W (tAsg te (gName i)) (gAsgX i fx):=fun N ρ G H σ δ μ D R E hp=>by
 unfold gAsgX at hp
 by_cases hN:N≤μ.length
 case neg=>rw[if_neg hN] at hp;exact hp.elim
 rw[if_pos hN] at hp
 refine h ρ G H σ δ μ _ R E ?_
 cases e:fx δ μ with
 | bad=>rw[e] at hp;exact hp
 | exc x μ'=>rw[e] at hp;exact fun ρ' G' H' cls d t R' q=>hp ρ' G' H' σ cls d (t.low hN) R' (E.up t.exG (up_of R t)) q
 | ok x μ'=>rw[e] at hp;exact fun ρ' G' H' v t R' q=>hp ρ' G' H' _ (t.low hN) R' ((E.up t.exG (up_of R t)).set i q)
def gRetX (f:XM):SM:=fun N δ μ=>if N≤μ.length then lift (f δ μ) δ fun x μ'=>.ret (ofV x) μ' else .bad
theorem snd_retX (h:SndX K W te fx):SndS K W (tRet te) (gRetX fx):=fun N ρ G H σ δ μ D R E hp=>by
 unfold gRetX at hp
 by_cases hN:N≤μ.length
 case neg=>rw[if_neg hN] at hp;exact hp.elim
 rw[if_pos hN] at hp
 refine h ρ G H σ δ μ _ R E ?_
 cases e:fx δ μ with
 | bad=>rw[e] at hp;exact hp
 | exc x μ'=>rw[e] at hp;exact fun ρ' G' H' cls d t R' q=>hp ρ' G' H' σ cls d (t.low hN) R' (E.up t.exG (up_of R t)) q
 | ok x μ'=>rw[e] at hp;exact fun ρ' G' H' v t R' q=>hp ρ' G' H' v (t.low hN) R' (RpR.ofV q)
abbrev XA:=Env→Mem→Res (List DV)
def SndXA (K:PySem.W.Frag)(W:WX)(t:TA)(f:XA):Prop:=∀ (ρ:Pm) (G H:Hp) (σ:Slots) (δ:Env) (μ:Mem) (Q:List V→Hp→Prop),Rel K ρ G H μ→EnvOk K ρ G σ δ →
 (match f δ μ with
  | .ok xs μ'=>∀ ρ' G' H' vs,TrS μ.length ρ G H ρ' G' H'→Rel K ρ' G' H' μ'→DvL K ρ' G' vs xs→Q vs H'
  | .exc x μ'=>∀ ρ' G' H' cls d,TrS μ.length ρ G H ρ' G' H'→Rel K ρ' G' H' μ'→XcOk K G' H' x cls d→W cls d σ H'
  | .bad=>False)→t σ H Q
def xaNil:XA:=fun _ μ=>.ok [] μ
def xaCons (f:XM)(g:XA):XA:=fun δ μ=>(f δ μ).bind fun x μ1=>if μ.length≤μ1.length then(g δ μ1).bind fun xs μ2=>.ok (x::xs) μ2 else .bad
theorem snd_xanil:SndXA K W tNil xaNil:=fun ρ G H σ δ μ Q R E hp=>hp ρ G H [] (TrS.refl _ _ _ _) R .nil
theorem snd_xacons {t:TE}{ts:TA}{f:XM}{g:XA}(h:SndX K W t f)(hs:SndXA K W ts g):SndXA K W (tCons t ts) (xaCons f g):=fun ρ G H σ δ μ Q R E hp=>by
 unfold xaCons at hp
 refine h ρ G H σ δ μ _ R E ?_
 cases e:f δ μ with
 | bad=>rw[e] at hp;exact hp
 | exc x μ'=>rw[e] at hp;exact hp
 | ok x μ1 =>
  rw[e] at hp
  simp only[Res.bind_ok] at hp
  intro ρ1 G1 H1 v t1 R1 d1
  by_cases hl:μ.length≤μ1.length
  case neg=>rw[if_neg hl] at hp;exact hp.elim
  rw[if_pos hl] at hp
  refine hs ρ1 G1 H1 σ δ μ1 _ R1 (E.up t1.exG (up_of R t1)) ?_
  cases e2:g δ μ1 with
  | bad=>rw[e2] at hp;exact hp
  | exc x μ'=>rw[e2] at hp;exact fun ρ' G' H' cls d t' R' q=>hp ρ' G' H' cls d (t1.trans (t'.low hl)) R' q
  | ok xs μ2 =>
   rw[e2] at hp
   exact fun ρ' G' H' vs t' R' q=>hp ρ' G' H' (v::vs) (t1.trans (t'.low hl)) R' (.cons (d1.mono t'.exG (up_of R1 t')) q)
def closeX (N:Nat)(r:R)(μ:Mem):Res DV:=match r with
 | .dat d=>.ok (.dat d) (μ.take N)
 | .loc n=>if n<N then .ok (.loc n) (μ.take N) else .ok (.loc n) μ
 | .nl xs=>if N≤μ.length then .ok (.loc μ.length) (μ++[.lst xs]) else .bad
 | .nk xs=>if N≤μ.length then .ok (.loc μ.length) (μ++[.dct xs]) else .bad
def callX (g:SM)(m:Nat)(args:List DV)(μ:Mem):Res DV:=match g μ.length (args.map some++List.replicate m none) μ with
 | .next _ μ'=>.ok (.dat .non) (μ'.take μ.length)
 | .ret r μ'=>closeX μ.length r μ'
 | .exc x _ μ'=>.exc x (μ'.take μ.length)
 | _=>.bad
def callDX (g:SM)(n m:Nat):List DV→Mem→Res DV:=fun xs μ=>if xs.length=n then callX g m xs μ else .bad
def spX (K:PySem.W.Frag)(n:Nat)(F:List DV→Mem→Res DV):Sp:=fun vs H Q E=>vs.length=n∧∃ ρ G μ xs,Rel K ρ G H μ∧DvL K ρ G vs xs ∧
 PostX K (fun cls d _ H=>E cls d H) μ.length ρ G H [] Q (F xs μ)
theorem env_of {vs:List V}{xs:List DV}{Nm:List Str}{n:Nat}(d:DvL K ρ G vs xs)(hl:vs.length=n)(hn:n≤Nm.length):EnvOk K ρ G (L2.start Nm vs) (xs.map some++List.replicate (Nm.length-n) none):=by
 have hx:xs.length=n:=by rw[←paired_len d];exact hl
 refine⟨by simp[L2.start,hl,hx],fun i x hi=>?_⟩
 have hi1:i<xs.length:=by
  by_cases e:i<xs.length
  ·exact e
  ·rw[List.getElem?_append_right (by simpa using e),List.getElem?_replicate] at hi
   split at hi <;> cases hi
 rw[List.getElem?_append_left (by simpa using hi1),List.getElem?_map,List.getElem?_eq_getElem hi1] at hi
 simp only[Option.map_some,Option.some.injEq] at hi
 obtain⟨v,h1,h2⟩:=paired_at d (List.getElem?_eq_getElem hi1)
 refine⟨v,?_,hi▸h2⟩
 unfold L2.start
 have hv:i<vs.length:=by omega
 rw[List.getElem?_append_left (by simpa using hv),List.getElem?_map,h1]
 rfl
theorem body_okX {ts:TS}{g:SM}{Q:VK}{E:XK}{vs:List V}{Nm:List Str}{n:Nat}(hb:SndS K (fun cls d _ H=>E cls d H) ts g)(hn:n≤Nm.length)(h:spX K n (callX g (Nm.length-n)) vs H Q E) :
  ts { nx:=fun _ H'=>Q .non H',rt:=Q } (L2.start Nm vs) H:=by
 obtain⟨hl,ρ,G,μ,xs,R,d,hp⟩:=h
 refine hb μ.length ρ G H _ _ μ _ R (env_of d hl hn) ?_
 unfold callX at hp
 have cutT:∀ {ρ' G' H'},TrS μ.length ρ G H ρ' G' H'→TrS μ.length ρ G H (resP μ.length ρ') G' H':=fun t=>t.cut fun n a q=>R.lt n a q
 cases e:g μ.length (xs.map some++List.replicate (Nm.length-n) none) μ with
 | next δ' μ' =>
  rw[e] at hp
  exact fun ρ' G' H' σ' t R' E'=>hp _ G' H' .non (cutT t) (R'.cut μ.length) Rp.non
 | ret r μ' =>
  rw[e] at hp
  intro ρ' G' H' v t R' q
  simp only at hp
  cases r with
  | dat x=>exact hp _ G' H' v (cutT t) (R'.cut μ.length) q
  | loc m =>
   simp only[closeX] at hp
   by_cases hm:m<μ.length
   ·rw[if_pos hm] at hp
    obtain⟨a,rfl,q⟩:=q
    exact hp _ G' H' _ (cutT t) (R'.cut μ.length) ⟨a,rfl,resP_of hm q⟩
   ·rw[if_neg hm] at hp
    exact hp ρ' G' H' v t R' q
  | nl ys =>
   simp only[closeX] at hp
   by_cases hm:μ.length≤μ'.length
   ·rw[if_pos hm] at hp
    obtain⟨ρ1,t1,R1,_,d1⟩:=newPl_ok2 (x:=.loc μ'.length) (μ2:=μ'++[.lst ys]) R' t q (by simp only[newPl];rw[if_pos hm])
    exact hp ρ1 G' H' v t1 R1 d1
   ·rw[if_neg hm] at hp;exact hp.elim
  | nk ys =>
   simp only[closeX] at hp
   by_cases hm:μ.length≤μ'.length
   ·rw[if_pos hm] at hp
    obtain⟨ρ1,t1,R1,_,d1⟩:=newPl_ok2 (x:=.loc μ'.length) (μ2:=μ'++[.dct ys]) R' t q (by simp only[newPl];rw[if_pos hm])
    exact hp ρ1 G' H' v t1 R1 d1
   ·rw[if_neg hm] at hp;exact hp.elim
 | brk δ' μ'=>rw[e] at hp;exact hp.elim
 | cnt δ' μ'=>rw[e] at hp;exact hp.elim
 | exc x δ' μ' =>
  rw[e] at hp
  exact fun ρ' G' H' σ' cls d t R' E' q=>hp _ G' H' cls d (cutT t) (R'.cut μ.length) q
 | bad=>rw[e] at hp;exact hp.elim
theorem callDX_ar {g:SM}{n m:Nat}(xs:List DV)(μ:Mem)(h:callDX g n m xs μ≠.bad):xs.length=n:=by
 unfold callDX at h
 by_cases e:xs.length=n
 ·exact e
 ·rw[if_neg e] at h;exact absurd rfl h
theorem sp_callDX {g:SM}{n m:Nat}{vs:List V}{Q:VK}{E:XK}(h:spX K n (callDX g n m) vs H Q E):spX K n (callX g m) vs H Q E:=by
 obtain⟨hl,ρ,G,μ,xs,R,d,hp⟩:=h
 refine⟨hl,ρ,G,μ,xs,R,d,?_⟩
 unfold callDX at hp
 rwa [if_pos (by rw[←paired_len d];exact hl)] at hp
def xCall (F:List DV→Mem→Res DV)(fa:AM):XM:=fun δ μ=>(fa δ μ).bind fun xs μ1=>if μ.length≤μ1.length then F xs μ1 else .bad
theorem snd_xcall {F:List DV→Mem→Res DV}{n:Nat}(ha:SndA K W ta fa)(hn:∀ xs μ,F xs μ≠.bad→xs.length=n):SndX K W (tCallSD (spX K n F) [] (EW W) ta) (xCall F fa):=fun ρ G H σ δ μ Q R E hp=>by
 unfold xCall at hp
 refine ha ρ G H σ δ μ _ R E ?_
 cases e:fa δ μ with
 | bad=>rw[e] at hp;exact hp
 | exc x μ'=>rw[e] at hp;exact fun G' H' cls d t R' q=>hp ρ G' H' cls d t.toS R' q
 | ok xs μ1 =>
  rw[e] at hp
  simp only[Res.bind_ok] at hp
  intro G1 H1 vs t1 R1 d1
  by_cases hl:μ.length≤μ1.length
  case neg=>rw[if_neg hl] at hp;exact hp.elim
  rw[if_pos hl] at hp
  have hb:F xs μ1≠.bad:=fun e=>by rw[e] at hp;exact hp
  show spX K n F (vs++[]) H1 Q (EW W σ)
  rw[List.append_nil]
  refine⟨by rw[paired_len d1];exact hn _ _ hb,ρ,G1,μ1,xs,R1,d1,?_⟩
  cases e2:F xs μ1 with
  | bad=>exact hb e2
  | exc x μ'=>rw[e2] at hp;exact fun ρ' G' H' cls d t' R' q=>hp ρ' G' H' cls d (t1.toS.trans (t'.low hl)) R' q
  | ok x μ'=>rw[e2] at hp;exact fun ρ' G' H' v t' R' q=>hp ρ' G' H' v (t1.toS.trans (t'.low hl)) R' q
def xMeth (nm m:Str)(F:List DV→Mem→Res DV)(f:EM)(fa:AM):XM:=fun δ μ=>(frzV f δ μ).bind fun x μ1=>if isI nm m x μ1=true then(fa δ μ1).bind fun xs μ2=>if μ.length≤μ2.length then F (x::xs) μ2 else .bad else .bad
abbrev Fds:=List (Str×DV)
structure Hid (K:PySem.W.Frag)(ρ:Pm)(G H:Hp)(C x dx:Addr)(fs:Fds):Prop where
 vs:∃ vs:List (Str×V),H x=some (.ins C dx vs)∧vs.map (·.1)=fs.map (·.1)∧DvL K ρ G (vs.map (·.2)) (fs.map (·.2))
 own:H dx=some (.own x)
 nx:∀ n,ρ n≠some x
 nd:∀ n,ρ n≠some dx
 gx:G x=none
 gd:G dx=none
theorem Hid.ne {C x dx:Addr}{fs:Fds}(h:Hid K ρ G H C x dx fs):dx≠x:=fun e=>by
 obtain⟨vs,h1,_⟩:=h.vs
 have:=h.own
 rw[e,h1] at this;cases this
theorem Hid.step {C x dx:Addr}{fs:Fds}(h:Hid K ρ G H C x dx fs)(R:Rel K ρ G H μ)(t:TrS N ρ G H ρ1 G1 H1)(up:∀ n b,ρ n=some b→ρ1 n=some b):Hid K ρ1 G1 H1 C x dx fs:=by
 obtain⟨vs,h1,h2,h3⟩:=h.vs
 refine⟨⟨vs,t.keep _ _ h.nx h1,h2,DvL.mono t.exG up h3⟩,t.keep _ _ h.nd h.own,fun n q=>?_,fun n q=>?_,?_,?_⟩
 ·rcases t.nρ n x q with (z|⟨m,_,z⟩)|z
  ·exact h.nx n z
  ·exact h.nx m z
  ·rw[h1] at z;cases z
 ·rcases t.nρ n dx q with (z|⟨m,_,z⟩)|z
  ·exact h.nd n z
  ·exact h.nd m z
  ·rw[h.own] at z;cases z
 ·cases q:G1 x with
  | none=>rfl
  | some o =>
   rcases t.nG x (by rw[q];simp) with z|z|⟨m,_,z⟩
   ·exact absurd h.gx z
   ·rw[h1] at z;cases z
   ·exact absurd z (h.nx m)
 ·cases q:G1 dx with
  | none=>rfl
  | some o =>
   rcases t.nG dx (by rw[q];simp) with z|z|⟨m,_,z⟩
   ·exact absurd h.gd z
   ·rw[h.own] at z;cases z
   ·exact absurd z (h.nd m)
abbrev BM:=Env→Mem→Fds→Res Fds
theorem TrS.pokeH {ρ0:Pm}{p:Addr}{o:HO}(t:TrS N ρ0 G0 H0 ρ G H)(h0:H0 p=none):TrS N ρ0 G0 H0 ρ G (upd H p o) where
 pre:=t.pre
 exG:=t.exG
 keep:=fun a u hn h=>by rw[upd_ne (ne_of_none h h0)];exact t.keep a u hn h
 th:=fun a h=>by
  by_cases e:a=p
  ·rw[e];exact h0
  ·rw[upd_ne e] at h;exact t.th a h
 nG:=t.nG
 nρ:=t.nρ
 fz:=fun a od u h=>by rw[upd_ne (ne_of_none h h0)];exact t.fz a od u h
structure Bld (K:PySem.W.Frag)(nm:Str)(i N:Nat)(ρ0:Pm)(G0 H0:Hp)(C x dx:Addr)(ρ:Pm)(G H:Hp)(σ:Slots)(δ:Env)(μ:Mem)(fs:Fds):Prop where
 hN:N≤μ.length
 t:TrS N ρ0 G0 H0 ρ G H
 zx:H0 x=none
 zd:H0 dx=none
 R:Rel K ρ G H μ
 E:EnvOk K ρ G σ δ
 di:δ[i]?=some none
 si:σ[i]?=some (some (.ref x))
 hid:Hid K ρ G H C x dx fs
 cl:Cls K C
 at_:ClsAt K nm C
def PostB (K:PySem.W.Frag)(W:WX)(nm:Str)(i N:Nat)(ρ0:Pm)(G0 H0:Hp)(C x dx:Addr)(σ:Slots)(δ:Env)(Q:Hp→Prop):Res Fds→Prop
 | .ok fs' μ'=>∀ ρ' G' H',Bld K nm i N ρ0 G0 H0 C x dx ρ' G' H' σ δ μ' fs'→Q H'
 | .exc e μ'=>∀ ρ' G' H' cls d,TrS N ρ0 G0 H0 ρ' G' H'→Rel K ρ' G' H' μ'→EnvOk K ρ' G' σ δ→XcOk K G' H' e cls d→W cls d σ H'
 | .bad=>False
def SndB (K:PySem.W.Frag)(W:WX)(nm:Str)(i:Nat)(ts:TS)(g:BM):Prop:=∀ (N:Nat) (ρ0:Pm) (G0 H0:Hp) (C x dx:Addr) (ρ:Pm) (G H:Hp) (σ:Slots) (δ:Env) (μ:Mem) (fs:Fds) (D:Ends),
 Bld K nm i N ρ0 G0 H0 C x dx ρ G H σ δ μ fs→PostB K W nm i N ρ0 G0 H0 C x dx σ δ (D.nx σ) (g δ μ fs)→ts D σ H
def bNil:BM:=fun _ μ fs=>.ok fs μ
def bSeq (g h:BM):BM:=fun δ μ fs=>(g δ μ fs).bind fun fs' μ'=>h δ μ' fs'
def bFld (m:Str)(f:EM):BM:=fun δ μ fs=>(xOf f δ μ).bind fun y μ1=>if μ.length≤μ1.length∧fs.length<1000 then .ok (putD m y fs) μ1 else .bad
def spB (K:PySem.W.Frag)(nm:Str)(n:Nat)(F:List DV→Mem→Res Fds):Sp:=fun vs H Q E=>vs.length=n∧∃ N ρ0 G0 H0 C x dx ρ G μ xs ws,vs=.ref x::ws ∧
 (N≤μ.length∧TrS N ρ0 G0 H0 ρ G H∧H0 x=none∧H0 dx=none∧Rel K ρ G H μ∧DvL K ρ G ws xs∧Hid K ρ G H C x dx []∧Cls K C∧ClsAt K nm C) ∧
 (match F xs μ with
 | .ok fs' μ'=>∀ ρ' G' H',TrS N ρ0 G0 H0 ρ' G' H'→Rel K ρ' G' H' μ'→N≤μ'.length→Hid K ρ' G' H' C x dx fs'→Q .non H'
 | .exc e μ'=>∀ ρ' G' H' cls d,TrS N ρ0 G0 H0 ρ' G' H'→Rel K ρ' G' H' μ'→XcOk K G' H' e cls d→E cls d H'
 | .bad=>False)
def xMake (nm:Str)(F:List DV→Mem→Res Fds)(fa:AM):XM:=fun δ μ=>(fa δ μ).bind fun xs μ1=>if μ.length≤μ1.length then(F xs μ1).bind fun fs μ2=>.ok (.loc (μ2.length+1)) (μ2++[.own]++[.ins nm fs]) else .bad
def SndBS (K:PySem.W.Frag)(W:WX)(nm:Str)(i:Nat)(ts:TS)(g:Fds→SM):Prop:=∀ (N:Nat) (ρ0:Pm) (G0 H0:Hp) (C x dx:Addr) (ρ:Pm) (G H:Hp) (σ:Slots) (δ:Env) (μ:Mem) (fs:Fds) (D:Ends),
 Bld K nm i N ρ0 G0 H0 C x dx ρ G H σ δ μ fs→PostS K W N ρ0 G0 H0 D (g fs N δ μ)→ts D σ H
def gPub (nm:Str)(i:Nat)(g:SM):Fds→SM:=fun fs N δ μ=>g N (δ.set i (some (.loc (μ.length+1)))) (μ++[.own]++[.ins nm fs])
def gBSeq (b:BM)(g:Fds→SM):Fds→SM:=fun fs N δ μ=>lift (b δ μ fs) δ fun fs' μ'=>g fs' N δ μ'
def gBld (i:Nat)(F:List DV→Mem→Res Fds)(fa:AM)(g:Fds→SM):SM:=fun N δ μ=>lift (fa δ μ) δ fun xs μ1=>if N≤μ1.length∧i<δ.length then lift (F xs μ1) δ fun fs μ2=>g fs N (δ.set i none) μ2 else .bad
end
set_option maxHeartbeats 1000000
structure PMXA (X:Cx)(W:WX)(es:List Expr)(ta:TA)(f:XA):Prop where
 pe:PA X es ta
 sd:SndXA X.K W ta f
section
variable {K:PySem.W.Frag}{W:WX}{N M:Nat}{ρ ρ1:Pm}{G H G1 H1 G0 H0:Hp}{σ:Slots}{δ:Env}{μ:Mem}{te:TE}{ta:TA}{f:EM}{fa:AM}{fx:XM}{fs:XA}{Dn:Ends}
theorem SndXA.stm (h:SndXA K W ta fs)(R:Rel K ρ G H μ)(E:EnvOk K ρ G σ δ)(hN:N≤μ.length){k:List DV→Mem→Out}(hp:PostS K W N ρ G H Dn (lift (fs δ μ) δ k)){Q:List V→Hp→Prop}
  (go:∀ xs μ' ρ' G' H' vs,TrS N ρ G H ρ' G' H'→Rel K ρ' G' H' μ'→EnvOk K ρ' G' σ δ→DvL K ρ' G' vs xs→PostS K W N ρ G H Dn (k xs μ')→Q vs H'):ta σ H Q:=by
 refine h ρ G H σ δ μ Q R E ?_
 cases e:fs δ μ with
 | bad=>rw[e] at hp;exact hp
 | exc x μ'=>rw[e] at hp;exact fun ρ' G' H' cls d t R' q=>hp ρ' G' H' σ cls d (t.low hN) R' (E.up t.exG (up_of R t)) q
 | ok xs μ'=>rw[e] at hp;exact fun ρ' G' H' vs t R' q=>go xs μ' ρ' G' H' vs (t.low hN) R' (E.up t.exG (up_of R t)) q hp
end
structure FnDX (P:Program)(w:World)(K:PySem.W.Frag)(mg:Str→Option Value)(base:Heap)(cx:CXT)(k:Nat)(x:Str)(n:Nat)(F:List DV→Mem→Res DV):Prop where
 ar:∀ xs μ,F xs μ≠.bad→xs.length=n
 ex:∃ (f:Addr) (fd:FuncData) (ps:List Str),ps.length=n∧FnG P w K mg base cx k f fd ps (spX K n F)∧mg x=some (.ref f)∧PySem.W.keepIn K (.ref f)=true∧Binds K fd ps []
structure MthDX (P:Program)(w:World)(K:PySem.W.Frag)(mg:Str→Option Value)(base:Heap)(cx:CXT)(k:Nat)(nm m:Str)(n:Nat)(F:List DV→Mem→Res DV):Prop where
 ar:∀ xs μ,F xs μ≠.bad→xs.length=n
 ex:∃ (C f:Addr) (fd:FuncData) (ps:List Str),ps.length=n∧ClsAt K nm C∧FnG P w K mg base cx k f fd ps (spX K n F)∧Cls K C∧Meth K C m f∧Binds K fd ps []
structure MakDB (P:Program)(w:World)(K:PySem.W.Frag)(mg:Str→Option Value)(base:Heap)(cx:CXT)(k:Nat)(nm:Str)(n:Nat)(F:List DV→Mem→Res Fds):Prop where
 ar:∀ xs μ,F xs μ≠.bad→xs.length+1=n
 ex:∃ (C f:Addr) (fd:FuncData) (ps:List Str),ps.length=n∧ClsAt K nm C∧Cls K C∧mg nm=some (.ref C)∧FnG P w K mg base cx k f fd ps (spB K nm n F)∧Mk K C f∧Binds K fd ps []
structure PMB (X:Cx)(W:WX)(nm:Str)(i:Nat)(ss:List Stmt)(ts:TS)(g:BM):Prop where
 ps:PSs X ss ts
 sd:SndB X.K W nm i ts g
structure PMBS (X:Cx)(W:WX)(nm:Str)(i:Nat)(ss:List Stmt)(ts:TS)(g:Fds→SM):Prop where
 ps:PSs X ss ts
 sd:SndBS X.K W nm i ts g
section
variable {X:Cx}{W:WX}{P:Program}{w:World}{K:PySem.W.Frag}{mg:Str→Option Value}{base:Heap}{cx:CXT}{k n:Nat}{nm m x:Str}{F:List DV→Mem→Res DV}{FB:List DV→Mem→Res Fds}{e o:Expr}{es:List Expr}{tA:TA}{fA:AM}{xA:XA}{to te:TE}{fo fe f:EM}{fx:XM}{p pos apos:Pos}{t u:TS}{ss:List Stmt}{st:Stmt}
theorem px_of (h:PM X W e te f):PMX X W e te (xOf f):=⟨h.pe,snd_xof h.sd⟩
theorem pxa_nil:PMXA X W [] tNil xaNil:=⟨pa_nil,snd_xanil⟩
theorem pxa_cons (h:PMX X W e te fx)(hs:PMXA X W es tA xA)(hst:starEach (e::es) X.env=(false,eval e X.env)::starEach es X.env:=by rfl):PMXA X W (e::es) (tCons te tA) (xaCons fx xA) :=
 ⟨pa_cons h.pe hs.pe hst,snd_xacons h.sd hs.sd⟩
theorem sm_asgX (i:Nat)(hN:X.N.Nodup)(h:PMX X W e te fx)(hi:X.N[i]?=some x:=by rfl)(hx:Loc X.env.scope x:=by first|exact Or.inl rfl|exact Or.inr rfl)
  (hf:X.fn x=true∨X.env.scope.names.lookup x=some .local:=by first|exact .inl rfl|exact .inr rfl)
  (a1:swapsWithSole [.Name x p] e pos.line X.env=pure false:=by rfl) (a2:swappedStores [.Name x p] e X.env=pure none:=by rfl) (a3:List.map (fun x=>x.snd) (assignEach [.Name x p] X.env)=[assign (.Name x p) X.env]:=by rfl) :
  PSM X W (.Assign [.Name x p] e pos) (tAsg te (gName i)) (gAsgX i fx):=⟨ps_asg h.pe (pg_name hN hi hx hf) a1 a2 a3,snd_asgX i h.sd⟩
theorem sm_retX (h:PMX X W e te fx):PSM X W (.Return (some e) pos) (tRet te) (gRetX fx):=⟨ps_ret h.pe,snd_retX h.sd⟩
theorem px_call (Fn:FnDX X.prog X.w X.K X.mg X.base cx k x n F)(hr:Room k X.A)(hgd:X.A.guards=some [])(hg:Gl X x)
  (hx:∀ σ,PassesAt cx X σ (EW W σ)) (ha:PMA X W (e::es) tA fA) (hdb:(x==("__debug__":Str))=false:=by decide)
  (he:starEach (e::es) X.env=(false,eval e X.env)::starEach es X.env:=by rfl) (hpl:(backTo pos (starEach es X.env)).any (·.1)=false:=by rfl) :
  PMX X W (.Call (.Name x p) (e::es) [] pos) (tCallSD (spX X.K n F) [] (EW W) tA) (xCall F fA):=by
 obtain⟨f,fd,ps,hn,G,hm,hk,hb⟩:=Fn.ex
 exact⟨pe_callG G hr hgd hg hm hk hb .nil hx ha.pe hdb he hpl,snd_xcall ha.sd Fn.ar⟩
end
section
variable {K:PySem.W.Frag}{W:WX}{N:Nat}{ρ ρ1:Pm}{G H G1 H1 G0 H0:Hp}{σ:Slots}{δ:Env}{μ:Mem}{n c:Nat}{a:Addr}{nm m:Str}{fs:Fds}{d:D}{o':HO}
end
section
variable {X:Cx}{W:WX}{ss:List Stmt}{t:TS}{g:SM}
end
def ddrop {α:Type}(kvs:List (Ky×α))(k:Ky):List (Ky×α):=kvs.filter fun p=>decide (p.1≠k)
def dPopK (x y:DV)(z:Option DV)(μ:Mem):Res R:=match x with
 | .dat _=>.bad
 | .loc n=>match μ[n]?,keyD y with
  | some (.dct kvs),some k=>if allK kvs=true then match dval kvs (.k k) with
    | some v=>.ok (ofV v) (μ.set n (.dct (ddrop kvs (.k k))))
    | none=>match z with
     | some w=>.ok (ofV w) μ
     | none=>.bad
   else .bad
  | _,_=>.bad
def eDPop1 (fd fy:EM):EM:=fun δ μ=>(frzV fd δ μ).bind fun x μ1=>if isDct x μ1=true then(frzV fy δ μ1).bind fun y μ2=>dPopK x y none μ2 else .bad
def eDPop2 (fd fy fz:EM):EM:=fun δ μ=>(frzV fd δ μ).bind fun x μ1=>if isDct x μ1=true then(frzV fy δ μ1).bind fun y μ2=>(frzV fz δ μ2).bind fun z μ3=>dPopK x y (some z) μ3 else .bad
section
variable {K:PySem.W.Frag}{W:WX}{N:Nat}{ρ:Pm}{G H:Hp}{σ:Slots}{δ:Env}{μ:Mem}{td ty tz te to ti:TE}{fd fy fz fe fo fi:EM}{Q:VK}
def gDAug (fo fi fe:EM):SM:=fun _ δ μ=>lift ((frzV fo δ μ).bind fun x μ1=>(frzV fi δ μ1).bind fun i μ2=>(dGet x i μ2).bind fun r μ3=>(frzV fe δ μ3).bind fun y μ4=>match r,y with
 | .dat (.int a),.dat (.int b)=>match setDct μ4 x i (.dat (.int (a+b))) with
  | some μ5=>.ok () μ5
  | none=>.bad
 | _,_=>.bad) δ fun _ μ5=>.next δ μ5
def fldI (nms:List Str)(m:Str)(x:DV)(μ:Mem):Option Int:=match insAt μ x with
 | some (nm,fs)=>if nm∈nms then match fs.lookup m with
   | some (.dat (.int a))=>some a
   | _=>none
  else none
 | none=>none
def gFldAug (nms:List Str)(m:Str)(fo fe:EM):SM:=fun _ δ μ=>lift ((frzV fo δ μ).bind fun x μ1=>match fldI nms m x μ1 with
 | some a=>(frzV fe δ μ1).bind fun y μ2=>match y with
  | .dat (.int b)=>if(insAt μ2 x).map (·.1)=(insAt μ1 x).map (·.1) then match setFld nms μ2 x m (.dat (.int (a+b))) with
   | some μ3=>.ok () μ3
   | none=>.bad
   else .bad
  | _=>.bad
 | none=>.bad) δ fun _ μ3=>.next δ μ3
end
end DL
set_option maxHeartbeats 1000000
namespace DL
open PySem PySem.Spec PyProof.Rows L2 StX
section
variable {K:PySem.W.Frag}{W:WX}{N:Nat}{ρ:Pm}{G H:Hp}{σ:Slots}{δ:Env}{μ:Mem}{td ty tz te to ti:TE}{fd fy fz fe fo fi:EM}{Q:VK}{ts:TA}{g:AM}
def seqOf:DV→Option (List D)
 | .dat (.tup ds)=>some ds
 | .dat (.lst ds)=>some ds
 | _=>none
def aStar (f:EM)(g:AM):AM:=fun δ μ=>(frzV f δ μ).bind fun x μ1=>match seqOf x with
 | some ds=>(g δ μ1).bind fun xs μ2=>.ok (ds.map DV.dat++xs) μ2
 | none=>.bad
abbrev TGM:=DV→Env→Mem→Res Env
def hName (i:Nat):TGM:=fun x δ μ=>.ok (δ.set i (some x)) μ
def hFld (nms:List Str)(m:Str)(fo:EM):TGM:=fun y δ μ=>(frzV fo δ μ).bind fun x μ1=>match setFld nms μ1 x m y with
 | some μ2=>.ok δ μ2
 | none=>.bad
def hDPut (fo fi:EM):TGM:=fun y δ μ=>(frzV fo δ μ).bind fun x μ1=>(frzV fi δ μ1).bind fun i μ2=>match setDct μ2 x i y with
 | some μ3=>.ok δ μ3
 | none=>.bad
def hNil:List DV→Env→Mem→Res Env:=fun xs δ μ=>match xs with
 | []=>.ok δ μ
 | _=>.bad
def hCons (h:TGM)(r:List DV→Env→Mem→Res Env):List DV→Env→Mem→Res Env:=fun xs δ μ=>match xs with
 | x::xs=>(h x δ μ).bind fun δ1 μ1=>r xs δ1 μ1
 | []=>.bad
def TgMs (K:PySem.W.Frag)(g:TGs)(h:List DV→Env→Mem→Res Env):Prop:=∀ (ρ:Pm) (G H:Hp) (μ:Mem) (σ:Slots) (δ δ':Env) (μ':Mem) (vs:List V) (xs:List DV) (Q:Slots→Hp→Prop),Rel K ρ G H μ→EnvOk K ρ G σ δ→DvL K ρ G vs xs →
 h xs δ μ=.ok δ' μ'→(∀ G' H' σ',Tr ρ G H G' H'→Rel K ρ G' H' μ'→EnvOk K ρ G' σ' δ'→Q σ' H')→g vs σ H Q
def gTgtM (n:Nat)(h:List DV→Env→Mem→Res Env)(f:EM):SM:=fun _ δ μ=>lift (frzV f δ μ) δ fun x μ1=>match x with
 | .dat (.tup ds)=>if ds.length=n then match h (ds.map DV.dat) δ μ1 with
   | .ok δ' μ'=>.next δ' μ'
   | _=>.bad
  else .bad
 | _=>.bad
end
section
variable {X:Cx}{W:WX}{pos p tpos apos cpos:Pos}{e o i:Expr}{te to ti:TE}{f fo fi:EM}{tA:TA}{fA:AM}{es:List Expr}{m:Str}
end
structure PMHs (X:Cx)(es:List Expr)(g:TGs)(h:List DV→Env→Mem→Res Env):Prop where
 pg:PGs X es g
 ok:TgMs X.K g h
section
variable {X:Cx}{W:WX}{pos p tpos apos cpos:Pos}{e o i:Expr}{te to ti:TE}{f fo fi:EM}{es:List Expr}{m x:Str}{g:TGs}{h:List DV→Env→Mem→Res Env}
end
end DL
set_option maxHeartbeats 1000000
namespace DL
open PySem PySem.Spec PyProof.Rows L2 StX
section
variable {P:Program}{w:World}{K:PySem.W.Frag}{mg:Str→Option Value}{base:Heap}
theorem fn_gB {x qual:Str}{st:Stmt}{f:Addr}{fd:FuncData}{Nm ps:List Str}{k n m:Nat}{g:SM}(F:Fun K x qual st f fd)(S:FnScope Nm ps (defScope st))(hn:ps.length=n)(hmn:Nm.length=n+m)
  (body:∀ (cdv:Value) (A:Around) (out:List PySem.Env) (s:Shared) (H:Hp) (E:XK),Room k (A.deeper (envOfC qual (defScope st) s.heap.objs.size f cdv))→A.guards=some [] →
   ∃ ts,PSMs (cxOf CX0 P w K mg base Nm qual (defScope st) f cdv A out s H E).nox (fun cls d _ H=>E cls d H) (defBody st) ts g) :
  FnG P w K mg base CX0 (k+1) f fd ps (spX K n (callDX g n m)):=by
 obtain⟨oc,od,kV,doc,pm,an,cdv,ct,osl,rfl,lk,hcd⟩:=F.ex
 refine fnG_of lk hcd S (fun vs H Q E h=>by rw[h.1,hn]) fun A out s H vs Q E hr hg hsp=>?_
 obtain⟨ts,b⟩:=body cdv A out s H E hr hg
 refine⟨ts,b.ps.nox,?_⟩
 have e:Nm.length-n=m:=by omega
 exact body_okX (n:=n) b.sd (by omega) (by rw[e];exact sp_callDX hsp)
theorem fn_okg {x qual:Str}{st:Stmt}{f:Addr}{fd:FuncData}{Nm ps:List Str}{k n m:Nat}{g:SM}(F:Fun K x qual st f fd)(S:FnScope Nm ps (defScope st))(hm:mg x=some (.ref f))(hn:ps.length=n)(hmn:Nm.length=n+m)
  (hb:∀ (kV doc pm:Value) (an:Option Addr) (cdv ct:Value) (us:List Value),us.length=ps.length→bindArgs (PySem.W.fnOf x qual (defArgs st) (defBody st) (defScope st) .none kV doc pm an cdv ct) ⟨us,[]⟩=pure (ps.zip us))
  (body:∀ (cdv:Value) (A:Around) (out:List PySem.Env) (s:Shared) (H:Hp) (E:XK),Room k (A.deeper (envOfC qual (defScope st) s.heap.objs.size f cdv))→A.guards=some [] →
   ∃ ts,PSMs (cxOf CX0 P w K mg base Nm qual (defScope st) f cdv A out s H E).nox (fun cls d _ H=>E cls d H) (defBody st) ts g) :
  FnDX P w K mg base CX0 (k+1) x n (callDX g n m) :=
 ⟨callDX_ar,f,fd,ps,hn,fn_gB F S hn hmn body,hm,F.kp,F.binds hb⟩
end
section
variable {X:Cx}{W:WX}{P:Program}{w:World}{K:PySem.W.Frag}{mg:Str→Option Value}{base:Heap}{cx:CXT}{k n:Nat}{nm m x:Str}{FB:List DV→Mem→Res Fds}{e o:Expr}{es:List Expr}{tA:TA}{fA:AM}{to te:TE}{fo fe f:EM}{p pos pos2 apos:Pos}{t u:TS}{ss:List Stmt}{st:Stmt}{g:Fds→SM}
end
structure PrpD (P:Program)(w:World)(K:PySem.W.Frag)(mg:Str→Option Value)(base:Heap)(k:Nat)(nm f m:Str):Prop where
 ex:∃ (C p g:Addr) (fd:FuncData) (ps:List Str),ClsAt K nm C∧Cls K C∧PropOf K C f p g∧FnOk P w K mg base CX0 k g fd ps (getSp C m)∧Binds K fd ps []
section
variable {X:Cx}{W:WX}{P:Program}{w:World}{K:PySem.W.Frag}{mg:Str→Option Value}{base:Heap}{k:Nat}{nm f m:Str}{o:Expr}{to:TE}{fo:EM}{pos:Pos}
end
end DL
set_option maxHeartbeats 1000000
namespace DL
open PySem PySem.Spec PyProof.Rows L2 StX
section
variable {K:PySem.W.Frag}{W:WX}{N n:Nat}{ρ:Pm}{G H:Hp}{σ:Slots}{δ:Env}{μ:Mem}
end
end DL
namespace DL
open PySem PySem.Spec PyProof.Rows L2
def keyAt (e:Int×Value):Key:=match e.2 with
 | .int k _=>.inl k
 | .str x _=>.inr x
 | _=>.inl 0
def Good (w:World)(e:Int×Value):Prop:=keyIs (keyAt e) e.2=true∧e.1=keyH w (keyAt e)
structure SetW (w:World)(h:Heap)(a:Addr)(S:Key→Bool)(n:Nat)(o:Obj)(es:Array (Int×Value))(ep:Nat)(t:SetTable):Prop where
 ob:h.get? a=some o
 ex:o.ExactSet
 da:o.data=.set es ep t
 gd:∀ e∈es.toList,Good w e
 nd:(es.toList.map keyAt).Nodup
 mb:∀ k,S k=true↔k∈es.toList.map keyAt
 bd:es.size<scanBound
 ft:t.fits es.size=true
 sz:es.size=n
 rs:Ris t.place.toList
 ld:w.params.followText "set-order"=true∨t.led=true
def SetX (w:World)(h:Heap)(a:Addr)(S:Key→Bool)(n:Nat):Prop:=∃ o es ep t,SetW w h a S n o es ep t
section
variable {P:Program}{w:World}{A:Around}{E:Value→Shared→Prop}{s:Shared}{a:Addr}{S:Key→Bool}{n:Nat}{h h':Heap}
theorem SetX.at (R:SetX w h a S n)(k:∀ o,h.get? a=some o→h'.get? a=some o):SetX w h' a S n:=by
 obtain⟨o,es,ep,t,r⟩:=R
 exact⟨o,es,ep,t,⟨k o r.ob,r.ex,r.da,r.gd,r.nd,r.mb,r.bd,r.ft,r.sz,r.rs,r.ld⟩⟩
theorem SetX.congr {S':Key→Bool}(R:SetX w h a S n)(e:∀ k,S' k=S k):SetX w h a S' n:=by
 rw[show S'=S from funext e];exact R
end
def kIn (ks:List Key)(j:Key):Bool:=ks.any fun k=>decide (j=k)
section
variable {P:Program}{w:World}{A:Around}{E:Value→Shared→Prop}{s:Shared}
end
section
variable {P:Program}{w:World}{A:Around}{E:Value→Shared→Prop}{s:Shared}{a:Addr}{S:Key→Bool}{n:Nat}
end
section
variable {X:Cx}
end
section
variable {K:PySem.W.Frag}{W:WX}{ρ:Pm}{G H:Hp}{w:World}
end
section
variable {X:Cx}{W:WX}{pos p p2 q tpos apos cpos:Pos}{a b e o i:Expr}{es:List Expr}{lo hi:Option Expr}{te ta tb to ti:TE}{tA:TA}{fA:AM}{tl th:TO}{f fa fb fo fi:EM}{fl fh:OM}
end
section
variable {QR:R→Mem→Prop}{E:Xc→Mem→Prop}{δ:Env}{μ:Mem}
end
end DL
set_option maxHeartbeats 2500000
namespace DL
open PySem PySem.Spec PyProof.Rows L2 PpSet
section
variable {X:Cx}
end
end DL
namespace DL
open PySem PySem.Spec PyProof.Rows L2
section
variable {K:PySem.W.Frag}{W:WX}{ρ:Pm}{G H G0 H0:Hp}{μ:Mem}{σ:Slots}{δ:Env}
def dcL (h:D→Env→Option Env)(ft:TM)(fk fv:EM)(δ:Env):List D→List (Ky×DV)→Mem→Res (List (Ky×DV))
 | [],acc,μ=>.ok acc μ
 | d::ds,acc,μ=>match h d δ with
  | none=>.bad
  | some δ1=>match ft δ1 μ with
   | .ok true μ1=>match frzV fk δ1 μ1 with
    | .ok k μ2=>match keyD k,frzV fv δ1 μ2 with
     | some kk,.ok y μ3=>dcL h ft fk fv δ ds (dput acc (.k kk) y) μ3
     | _,_=>.bad
    | _=>.bad
   | .ok false μ1=>dcL h ft fk fv δ ds acc μ1
   | _=>.bad
def eDc (fi:IM)(h:D→Env→Option Env)(ft:TM)(fk fv:EM)(vs:List Nat):EM:=fun δ μ=>(fi δ μ).bind fun xs μ' =>
 if xs.length≤sizeLine then(dcL h ft fk fv (wipeE δ vs) xs [] μ').bind fun ys μ2=>.ok (.nk ys) μ2 else .bad
def lc2L (h:D→Env→Option Env)(ft:TM)(fi1:IM)(h1:D→Env→Option Env)(ft1:TM)(fe:EM)(vs1:List Nat)(δ:Env):List D→Nat→Mem→Res (List DV)
 | [],_,μ=>.ok [] μ
 | d::ds,c,μ=>match h d δ with
  | none=>.bad
  | some δ1=>match ft δ1 μ with
   | .ok true μ1=>match fi1 δ1 μ1 with
    | .ok xs1 μ2=>if c+xs1.length≤sizeLine then(lcL h1 ft1 fe (wipeE δ1 vs1) xs1 μ2).bind fun ys μ3=>(lc2L h ft fi1 h1 ft1 fe vs1 δ ds (c+ys.length) μ3).bind fun zs μ4=>.ok (ys++zs) μ4 else .bad
    | _=>.bad
   | .ok false μ1=>lc2L h ft fi1 h1 ft1 fe vs1 δ ds c μ1
   | _=>.bad
def eLc2 (fi:IM)(h:D→Env→Option Env)(ft:TM)(fi1:IM)(h1:D→Env→Option Env)(ft1:TM)(fe:EM)(vs vs1:List Nat):EM:=fun δ μ=>(fi δ μ).bind fun xs μ' =>
 (lc2L h ft fi1 h1 ft1 fe vs1 (wipeE δ vs) xs 0 μ').bind fun ys μ2=>.ok (.nl ys) μ2
end
def DatK (x:DV)(Q:D→Prop):Prop:=∃ d,x=.dat d∧Q d
theorem dkk {d:D}{Q:D→Prop}(h:Q d):DatK (.dat d) Q:=⟨d,rfl,h⟩
theorem s_raiseK {nm f:Str}{fe:EM}{P:DL.PO}{δ:DL.Env}{μ:Mem}{N:Nat}(h:Sat (frzV fe δ μ) (fun x μ'=>DatK x fun d=>P.ex ⟨nm,[(f,d)]⟩ δ μ') (fun x μ=>P.ex x δ μ)):SatS (gRaise nm f fe N δ μ) P:=s_raise h
theorem at0 {α:Type}{x:α}{xs:List α}:atI (x::xs) 0=some x:=DL.atI_nat (k:=0) rfl
theorem l_ix0T {d:D}{ds:List D}{QR:R→Mem→Prop}{E:Xc→Mem→Prop}{μ:Mem}(h:QR (.dat d) μ):Sat (dIx (.dat (.tup (d::ds))) (.dat (.int 0)) μ) QR E:=l_ixT at0 h
theorem l_ix0L {d:D}{ds:List D}{QR:R→Mem→Prop}{E:Xc→Mem→Prop}{μ:Mem}(h:QR (.dat d) μ):Sat (dIx (.dat (.lst (d::ds))) (.dat (.int 0)) μ) QR E:=l_ixL at0 h
theorem sl_sz2 {n:Nat}(h:n≤1000000):n≤sizeLine:=Nat.le_trans h (by decide)
def menu:List Str:=["a","ab","end","l","more","new","share","write","x","zzzzzzzz"]
def louds:List Str:=["new","share","share","end","write","write"]
def quiets:List Str:=["hold","leave","more","less"]
theorem menu_fit:∀ s∈menu,PyData.strOk s=true∧s.cps.size≤16:=by decide +kernel
abbrev Sp1:=Str×List Str
def two (w:Str):Bool:=decide (w="share")||decide (w="hold")
structure StOk (b:Bool)(ss:List Str)(x:Sp1):Prop where
 w:x.1∈(if b=true then louds else louds++quiets)
 sh:two x.1=true→∃ a c,x.2=[a,c]∧a≠c∧a∈ss∧c∈ss
 ot:two x.1=false→∃ a,x.2=[a]∧a∈ss
structure DeedOk (b:Bool)(as os:List Str)(xs:List Sp1):Prop where
 nd:(as++os).Nodup
 me:∀ s∈as++os,s∈menu
 a1:1≤as.length
 a3:as.length≤3
 o2:os.length≤2
 x1:1≤xs.length
 x8:xs.length≤8
 st:∀ x∈xs,StOk b (as++os) x
theorem StOk.word {b:Bool}{ss:List Str}{x:Sp1}(h:StOk b ss x):x.1∈louds++quiets:=by
 have:=h.w
 by_cases e:b=true
 ·rw[if_pos e] at this;exact List.mem_append_left _ this
 ·rw[if_neg e] at this;exact this
theorem StOk.mem {b:Bool}{ss:List Str}{x:Sp1}(h:StOk b ss x):∀ s∈x.2,s∈ss:=by
 intro s hs
 cases e:two x.1 with
 | true=>obtain⟨a,c,e2,_,h1,h2⟩:=h.sh e;rw[e2] at hs;simp at hs;rcases hs with rfl|rfl <;> assumption
 | false=>obtain⟨a,e2,h1⟩:=h.ot e;rw[e2] at hs;simp at hs;subst hs;exact h1
theorem StOk.len {b:Bool}{ss:List Str}{x:Sp1}(h:StOk b ss x):1≤x.2.length∧x.2.length≤2:=by
 cases e:two x.1 with
 | true=>obtain⟨a,c,e2,_⟩:=h.sh e;rw[e2];simp
 | false=>obtain⟨a,e2,_⟩:=h.ot e;rw[e2];simp
theorem cutL_map {α β:Type}(f:α→β)(xs:List α)(l u:Option Int):cutL (xs.map f) l u=(cutL xs l u).map f:=by
 unfold cutL;rw[List.length_map,List.map_take,List.map_drop]
def quietT:List (Str×Str):=[("share","hold"),("end","leave")]
def loudT:List (Str×Str):=[("hold","share"),("leave","end")]
def tabW (q:Bool):List (Str×Str):=if q=true then quietT else loudT
def other (q:Bool)(xs:List Sp1)(i:Nat):Option Sp1:=match xs[i]? with
 | some x=>match (tabW q).lookup x.1 with
  | some w=>some (w,x.2)
  | none=>none
 | none=>none
def ixOf:D→Option Nat
 | .int i=>if 0≤i then some i.toNat else none
 | _=>none
def good (q:Bool)(xs:List Sp1)(d:D):Option (Nat×Sp1):=match ixOf d with
 | some i=>match other q xs i with
  | some y=>some (i,y)
  | none=>none
 | none=>none
theorem take_snoc {α:Type}{ts:List α}{k:Nat}{t:α}(h:ts[k]?=some t):ts.take (k+1)=ts.take k++[t]:=by
 rw[List.take_succ,h];rfl
theorem at_map {α β:Type}{f:α→β}{xs:List α}{k:Nat}{x:α}(h:xs[k]?=some x):atI (xs.map f) (k:Int)=some (f x):=DL.atI_nat (by rw[List.getElem?_map,h];rfl)
theorem lt_of_at {α:Type}{xs:List α}{k:Nat}{x:α}(h:xs[k]?=some x):k<xs.length:=(List.getElem?_eq_some_iff.mp h).1
theorem setPl_at {μ:Mem}{zs:List DV}{k:Nat}{y:DV}{X:Mem}(hk:k<zs.length)(hb:belowB μ.length y=true):setPl (μ++.lst zs::X) (.loc μ.length) (.dat (.int k)) y=some (μ++.lst (zs.set k y)::X):=by
 unfold setPl atPl
 simp only[mem_here,asI,ixN_nat hk,hb,mem_set];rfl
structure DeedSh (as:List Str)(xs:List Sp1):Prop where
 a3:as.length≤3
 am:∀ s∈as,s∈menu
 x8:xs.length≤8
 xw:∀ x∈xs,x.1∈louds++quiets
 x2:∀ x∈xs,x.2.length≤2
 xm:∀ x∈xs,∀ s∈x.2,s∈menu
theorem DeedOk.sh {b:Bool}{as os:List Str}{xs:List Sp1}(h:DeedOk b as os xs):DeedSh as xs :=
 ⟨h.a3,fun s hs=>h.me s (List.mem_append_left _ hs),h.x8,fun x hx=>(h.st x hx).word,fun x hx=>(h.st x hx).len.2,fun x hx s hs=>h.me s ((h.st x hx).mem s hs)⟩
def isC (w:Str):Bool:=((tabW true).lookup w).isSome
def cnt (xs:List Sp1):List Nat:=(xs.zipIdx.filter fun p=>isC p.1.1).map (·.2)
structure Mk where
 a:Int
 l:Option Int
 c:Bool
abbrev optD:Option Int→D
 | none=>.non
 | some i=>.int i
abbrev markD (m:Mk):D:=.tup [.int m.a,optD m.l,.bl m.c]
abbrev ctrD (ms:List Mk):D:=.ins "Counter" [("its_marks",.lst (ms.map markD))]
def MkOk (n:Int)(m:Mk):Prop:=(0≤m.a∧m.a<n)∧∀ i,m.l=some i→0≤i∧i<n
structure MsOk (ms:List Mk):Prop where
 h1:1≤ms.length
 h6:ms.length≤6
 ok:∀ m∈ms,MkOk ms.length m
def stepM (m:Mk)(b:Bool):Option Int:=if b=true then some m.a else m.l
def stepO (ms:List Mk)(o:Option Int)(b:Bool):Option Int:=match o with
 | none=>none
 | some i=>match ms[i.toNat]? with
  | some m=>stepM m b
  | none=>none
def InR (n:Nat)(o:Option Int):Prop:=∀ i,o=some i→0≤i∧i<n
variable {ms:List Mk}{n k:Nat}{b:Bool}
theorem step_in (hms:MsOk ms){o:Option Int}(h:InR ms.length o):InR ms.length (stepO ms o b):=by
 intro i e
 cases o with
 | none=>cases e
 | some j =>
  obtain⟨h1,h2⟩:=h j rfl
  simp only[stepO] at e
  have hl:j.toNat<ms.length:=by omega
  rw[List.getElem?_eq_getElem hl] at e
  have ok:=hms.ok _ (List.getElem_mem hl)
  simp only[stepM] at e
  by_cases hb:b=true
  ·rw[if_pos hb] at e;cases e;exact ok.1
  ·rw[if_neg hb] at e;exact ok.2 i e
theorem sz_lit' {n:Nat}(h:n≤1000):n≤sizeLine:=Nat.le_trans h (by decide)
theorem fit_opt {o:Option Int}(h:∀ i,o=some i→i.natAbs<10^12):FitD 0 40 (optD o):=by
 cases o with
 | none=>exact fd_non
 | some i=>exact fd_int (h i rfl) (by decide)
theorem fit_mark {m:Mk}(h:MkOk n m)(hn:n≤6):FitD 1 123 (markD m):=by
 obtain⟨⟨h1,h2⟩,h3⟩:=h
 refine fd_tup (k:=0) (w:=40) (n:=3) (fun d hd=>?_) (by simp)
 simp only[List.mem_cons,List.not_mem_nil,or_false] at hd
 rcases hd with rfl|rfl|rfl
 ·exact fd_int (by omega) (by decide)
 ·exact fit_opt fun i hi=>by have:=h3 i hi;omega
 ·exact fd_bl
theorem fit_marks (h:MsOk ms):FitD 2 744 (.lst (ms.map markD)):=by
 refine fd_lst (k:=1) (w:=123) (n:=6) (fun d hd=>?_) (by simpa using h.h6)
 obtain⟨m,hm,rfl⟩:=List.mem_map.mp hd
 exact fit_mark (h.ok m hm) h.h6
def lawL (n:Nat):List Mk:=if 1<n then⟨1,none,false⟩::((List.range (n-2)).map fun i=>⟨1+(i:Int)+1,some (1+(i:Int)-1),true⟩)++[⟨(n:Int)-1,some ((n:Int)-1),true⟩] else [⟨0,some 0,true⟩]
theorem lawL_len (h:1≤n):(lawL n).length=n:=by
 unfold lawL
 by_cases c:1<n
 ·rw[if_pos c];simp;omega
 ·rw[if_neg c];simp;omega
theorem lawL_ok (h1:1≤n)(h6:n≤6):MsOk (lawL n):=by
 refine⟨by rw[lawL_len h1];exact h1,by rw[lawL_len h1];exact h6,fun m hm=>?_⟩
 rw[lawL_len h1]
 unfold lawL at hm
 by_cases c:1<n
 ·rw[if_pos c] at hm
  simp only[List.mem_append,List.mem_cons,List.mem_map,List.mem_range,List.not_mem_nil,or_false] at hm
  rcases hm with (rfl|⟨i,hi,rfl⟩)|rfl
  ·exact⟨by simp;omega,fun i e=>by cases e⟩
  ·exact⟨by simp;omega,fun j e=>by simp at e;omega⟩
  ·exact⟨by simp;omega,fun j e=>by simp at e;omega⟩
 ·rw[if_neg c] at hm
  simp at hm;subst hm
  exact⟨by simp;omega,fun j e=>by simp at e;omega⟩
abbrev Ws:=List (Int×List Bool)
def wget (W:Ws)(k:Int):Option (List Bool):=(W.find? fun p=>decide (p.1=k)).map (·.2)
def stq (ms:List Mk)(x:Int)(b:Bool)(s:Ws×List Int):Ws×List Int:=match stepO ms (some x) b with
 | none=>s
 | some y=>if(wget s.1 y).isSome=true then s else(s.1++[(y,(wget s.1 x).getD []++[b])],s.2++[y])
def proc (ms:List Mk)(x:Int)(s:Ws×List Int):Ws×List Int:=stq ms x true (stq ms x false s)
def stepS (ms:List Mk)(s:Ws×List Int):Ws×List Int:=match s.2 with
 | []=>s
 | x::q=>proc ms x (s.1,q)
def runS (ms:List Mk):Nat→Ws×List Int
 | 0=>([(0,[])],[0])
 | k+1=>stepS ms (runS ms k)
def Fin (ms:List Mk)(W:Ws):Prop:=∃ k,runS ms k=(W,[])
structure Gd (ms:List Mk)(s:Ws×List Int):Prop where
 nd:(s.1.map (·.1)).Nodup
 lt:∀ p∈s.1,0≤p.1∧p.1<ms.length
 q:∀ x∈s.2,x∈s.1.map (·.1)
 ln:∀ p∈s.1,p.2.length+1≤s.1.length
 ne:1≤s.1.length
 z:(0,([]:List Bool))∈s.1
end DL
namespace DL
open PySem PySem.Spec PyProof.Rows L2
section
variable {δ:Env}{μ:Mem}{QR:R→Mem→Prop}{E:Xc→Mem→Prop}{a b:Bool}{o o':Option Int}
end
section
variable {K:PySem.W.Frag}{W:WX}{ρ:Pm}{G H G0 H0:Hp}{μ:Mem}{σ:Slots}{δ:Env}
def eqKv (ps qs:List (Key×PyData)):Bool:=ps.length==qs.length&&ps.all fun p=>match (qs.find? fun q=>decide (q.1=p.1)) with
 | some q=>PyData.eqv p.2 q.2
 | none=>false
end
section
variable {X:Cx}{pins:List (Addr×Obj)}{σ:L2.St}{H:Hp}{s:Shared}
end
def pyKd:List (Ky×D)→Option (List (Key×PyData))
 | []=>some []
 | (.k k,d)::r=>match toPy d,pyKd r with
  | some p,some ps=>if SeqAt.shaped p=true then some ((k,p)::ps) else none
  | _,_=>none
 | (.t _,_)::_=>none
def dctD (x:DV)(μ:Mem):Option (List (Ky×D)):=(dctOf x μ).bind allDatK
def dEqK (x y:DV)(μ:Mem):Res R:=match (dctD x μ).bind pyKd,(dctD y μ).bind pyKd with
 | some ps,some qs=>.ok (.dat (.bl (eqKv ps qs))) μ
 | _,_=>.bad
section
variable {K:PySem.W.Frag}{W:WX}{ρ:Pm}{G H G0 H0:Hp}{μ:Mem}{σ:Slots}{δ:Env}
end
noncomputable def dEqC:DV→DV→Mem→Res R:=alt2 dEqA dEqK
section
variable {X:Cx}{W:WX}{p p2 q pos:Pos}{e:Expr}{te:TE}{f:EM}
end
section
variable {K:PySem.W.Frag}{W:WX}{ρ:Pm}{G H:Hp}{σ:Slots}{δ:Env}{μ:Mem}{w:World}
end
section
variable {X:Cx}{W:WX}
end
section
variable {X:Cx}{W:WX}{e:Expr}{te:TE}{p p2 q pos:Pos}
end
section
variable {K:PySem.W.Frag}{W:WX}{ρ:Pm}{G H:Hp}
end
end DL
set_option maxHeartbeats 1000000
namespace DL
open PySem PySem.Spec PyProof.Rows L2 RZ
section
variable {prog:Program}{w:World}{A:Around}{E:Value→Shared→Prop}{s:Shared}{z tin tout p i j a b:Addr}{fl:Bool}{op:Obj}{m n:Nat}{us vs:Array Value}
end
section
variable {prog:Program}{w:World}
end
section
variable {X:Cx}{W:WX}{e e2:Expr}{ta:TA}{p p2 q pos:Pos}
end
end DL
set_option maxHeartbeats 1000000
namespace DL
open PySem PySem.Spec PyProof.Rows L2
def pairsZ:List D→List D→Option (List (Ky×DV))
 | [],[]=>some []
 | a::as,b::bs=>match keyD (.dat a),pairsZ as bs with
  | some k,some ps=>some ((.k k,.dat b)::ps)
  | _,_=>none
 | _,_=>none
def zipOf (xs:List DV):Option (List (Ky×DV)):=match xs with
 | [.dat (.tup as),.dat (.tup bs)]=>pairsZ as bs
 | [.dat (.lst as),.dat (.lst bs)]=>pairsZ as bs
 | _=>none
def eDictZip (fa:AM):EM:=fun δ μ=>(fa δ μ).bind fun xs μ1=>match zipOf xs with
 | some ps=>.ok (.nk (mergeD [] ps)) μ1
 | none=>.bad
section
variable {K:PySem.W.Frag}{W:WX}{ρ:Pm}{G H:Hp}{μ:Mem}{ta:TA}{fa:AM}
end
section
variable {X:Cx}{W:WX}{e e2:Expr}{ta:TA}{fa:AM}{p p2 q pos px py pz pt pt2:Pos}
end
def unlkL (c:Nat)(μ:Mem):Option Mem:=match μ[c]? with
 | some (.lkl xs)=>some (μ.set c (.lst xs))
 | _=>none
section
variable {K:PySem.W.Frag}{W:WX}{N:Nat}{ρ ρ':Pm}{G H G' H' G0 H0:Hp}{μ μ':Mem}{σ:Slots}{δ:Env}{n c:Nat}{d:Addr}{od:Obj}{u:HO}{Dn:Ends}
def lklOf (x:DV)(μ:Mem):Option (List D):=match x with
 | .dat d=>seqD (.dat d)
 | .loc c=>match μ[c]? with
  | some (.lkl xs)=>allDat xs
  | _=>none
def imEnumL (f:AM):IM:=fun δ μ=>(f δ μ).bind fun xs μ'=>match xs with
 | [x]=>match lklOf x μ' with
  | some ds=>.ok (enumD 0 ds) μ'
  | none=>.bad
 | _=>.bad
def repS (x:Str)(k:Nat):Str:=⟨(List.replicate k x.cps).foldl (·++·) #[]⟩
end
section
variable {X:Cx}{W:WX}{tg e a b:Expr}{te ta tb:TE}{f fa fb:EM}{tA:TA}{fA:AM}{pos p tpos:Pos}
end
section
variable {X:Cx}{cx:CXT}{k n:Nat}{f:Addr}{fd:FuncData}{ps ks:List Str}{sp:Sp}{E:L2.St→XK}{x:Str}{p pos:Pos}{e:Expr}{es:List Expr}{kws:List Keyword}{t tk:TA}
abbrev appL {α:Type}(a b:List α):List α:=a++b
def tCallNG (n m:Nat)(sp:Sp)(E:L2.St→XK)(t tk:TA):TE:=fun σ H Q=>t σ H fun vs H1=>tk σ H1 fun zs H2=>vs.length=n∧zs.length=m∧sp (vs++zs) H2 Q (E σ)
end
structure FnDK (P:Program)(w:World)(K:PySem.W.Frag)(mg:Str→Option Value)(base:Heap)(cx:CXT)(k:Nat)(x:Str)(n:Nat)(kw:Str)(F:List DV→Mem→Res R):Prop where
 ar:∀ xs μ,F xs μ≠.bad→xs.length=n+1
 ex:∃ (f:Addr) (fd:FuncData) (ps:List Str),ps.length=n+1∧FnG P w K mg base cx k f fd ps (spF K (n+1) F)∧mg x=some (.ref f)∧PySem.W.keepIn K (.ref f)=true∧KBn K fd ps n [kw] appL appL
section
variable {X:Cx}{W:WX}{P:Program}{w:World}{K:PySem.W.Frag}{mg:Str→Option Value}{base:Heap}{cx:CXT}{k n m:Nat}{x kw:Str}{F:List DV→Mem→Res R}{e e2 ke:Expr}{p pos kpos:Pos}{t1 t2 tk:TE}{f1 f2 fk:EM}
theorem nG1 {sp:Sp}{E:L2.St→XK}:tCallNG 1 [kw].length sp E (tCons t1 tNil) (tCons tk tNil)=tCallSD sp [] E (tCons t1 (tCons tk tNil)):=by
 funext σ H Q
 simp[tCallNG,tCallSD,tCons,tNil]
theorem nG2 {sp:Sp}{E:L2.St→XK}:tCallNG 2 [kw].length sp E (tCons t1 (tCons t2 tNil)) (tCons tk tNil)=tCallSD sp [] E (tCons t1 (tCons t2 (tCons tk tNil))):=by
 funext σ H Q
 simp[tCallNG,tCallSD,tCons,tNil]
end
section
variable {K:PySem.W.Frag}{W:WX}{ρ ρ1:Pm}{G H G1 H1 G0 H0:Hp}{v:V}{r:R}
theorem RpR.base (h:∀ a,H1 a=none→H0 a=none)(q:RpR K ρ G H1 H v r):RpR K ρ G H0 H v r:=by
 cases r with
 | dat d=>exact q
 | loc n=>exact q
 | nl xs=>obtain⟨a,vs,h1,h2,h3,h4,h5,h6⟩:=q;exact⟨a,vs,h1,h2,h3,h4,h5,h _ h6⟩
 | nk xs=>obtain⟨a,o,vs,h1,h2,h3,h4,h5,h6,h7⟩:=q;exact⟨a,o,vs,h1,h2,h3,h4,h5,h6,h _ h7⟩
end
section
variable {X:Cx}{W:WX}{P:Program}{w:World}{K:PySem.W.Frag}{mg:Str→Option Value}{base:Heap}{cx:CXT}{k n:Nat}{nm m:Str}{F:List DV→Mem→Res R}{o:Expr}{to:TE}{fo:XM}{pos apos:Pos}
end
def gSwp (fo fi go gi f:EM):SM:=fun _ δ μ=>lift ((frzV f δ μ).bind fun x μ1=>match x with
 | .dat (.tup [a,b])=>(frzV fo δ μ1).bind fun o μ2=>(frzV fi δ μ2).bind fun i μ3=>match setPl μ3 o i (.dat a) with
  | some μ4=>(frzV go δ μ4).bind fun o2 μ5=>(frzV gi δ μ5).bind fun i2 μ6=>match setPl μ6 o2 i2 (.dat b) with
   | some μ7=>.ok () μ7
   | none=>.bad
  | none=>.bad
 | _=>.bad) δ fun _ μ7=>.next δ μ7
section
variable {K:PySem.W.Frag}{W:WX}{N:Nat}{ρ:Pm}{G H:Hp}{σ:Slots}{δ:Env}{μ:Mem}
end
section
variable {X:Cx}{W:WX}{pos p p2 pt:Pos}{e o i o2 i2:Expr}{te to ti uo ui:TE}{f fo fi go gi:EM}{k:Nat}
end
section
variable {δ:Env}{μ:Mem}{QR:R→Mem→Prop}{E:Xc→Mem→Prop}{QA:List DV→Mem→Prop}{QK:List (Ky×DV)→Mem→Prop}
theorem x_dc {fi:IM}{h:D→Env→Option Env}{ft:TM}{fk fv:EM}{vs:List Nat}(k:Sat (fi δ μ) (fun ds μ1=>ds.length≤sizeLine∧Sat (dcL h ft fk fv (wipeE δ vs) ds [] μ1) (fun ys μ2=>QR (.nk ys) μ2) E) E):Sat (eDc fi h ft fk fv vs δ μ) QR E:=by
 refine sat_bind (k.mono (fun ds μ1 q=>?_) fun _ _ q=>q)
 rw[if_pos q.1];exact sat_bind q.2
theorem x_lc2 {fi fi1:IM}{h h1:D→Env→Option Env}{ft ft1:TM}{fe:EM}{vs vs1:List Nat}(k:Sat (fi δ μ) (fun ds μ1=>Sat (lc2L h ft fi1 h1 ft1 fe vs1 (wipeE δ vs) ds 0 μ1) (fun ys μ2=>QR (.nl ys) μ2) E) E):Sat (eLc2 fi h ft fi1 h1 ft1 fe vs vs1 δ μ) QR E:=by
 refine sat_bind (k.mono (fun ds μ1 q=>?_) fun _ _ q=>q)
 exact sat_bind q
theorem w_eqC {x y:DV}(h:Sat (dEqA x y μ) QR E):Sat (dEqC x y μ) QR E:=sat_alt h
end
section
variable {δ:Env}{μ:Mem}{QR:R→Mem→Prop}{E:Xc→Mem→Prop}{ds:List (Ky×D)}{kvs:List (Ky×DV)}{n:Nat}
end
section
variable {δ:Env}{μ:Mem}{QR:R→Mem→Prop}{QI:List D→Mem→Prop}{E:Xc→Mem→Prop}{QK:List (Ky×DV)→Mem→Prop}{fa fb:EM}{nm:Str}{F:List DV→Mem→Res R}
theorem x_disU {f:EM}{g:PsM}(h:Sat (frzV f δ μ) (fun x μ1=>∃ ds,x=.dat (.dct ds)∧(allKD ds=true∧ds.length≤1000)∧Sat (g δ μ1) (fun ps μ2=>ps.length≤15∧QR (.nk (mergeD (mergeD [] (datP ds)) (mergeD [] ps))) μ2) E) E):Sat (eDisU f g δ μ) QR E:=by
 unfold eDisU
 refine sat_bind (h.mono (fun x m ⟨ds,e,hk,q⟩=>?_) fun _ _ q=>q)
 subst e;simp only;rw[if_pos hk]
 refine sat_bind (q.mono (fun ps m2 q=>?_) fun _ _ q=>q)
 rw[if_pos q.1];exact q.2
theorem s_swp {P:DL.PO}{N:Nat}{fo fi go gi f:EM}(h:Sat (frzV f δ μ) (fun x μ1=>∃ a b,x=.dat (.tup [a,b])∧Sat (frzV fo δ μ1) (fun o μ2=>Sat (frzV fi δ μ2) (fun i μ3=>∃ μ4,setPl μ3 o i (.dat a)=some μ4∧Sat (frzV go δ μ4) (fun o2 μ5=>Sat (frzV gi δ μ5) (fun i2 μ6=>∃ μ7,setPl μ6 o2 i2 (.dat b)=some μ7∧P.nx δ μ7) (fun x μ=>P.ex x δ μ)) (fun x μ=>P.ex x δ μ)) (fun x μ=>P.ex x δ μ)) (fun x μ=>P.ex x δ μ)) (fun x μ=>P.ex x δ μ)):SatS (gSwp fo fi go gi f N δ μ) P:=by
 refine sat_lift (sat_bind (h.mono (fun x μ1 q=>?_) fun _ _ q=>q))
 obtain⟨a,b,rfl,q⟩:=q
 refine sat_bind (q.mono (fun o μ2 q=>sat_bind (q.mono (fun i μ3 q=>?_) fun _ _ q=>q)) fun _ _ q=>q)
 obtain⟨μ4,e,q⟩:=q
 rw[e]
 refine sat_bind (q.mono (fun o μ2 q=>sat_bind (q.mono (fun i μ3 q=>?_) fun _ _ q=>q)) fun _ _ q=>q)
 obtain⟨μ7,e,q⟩:=q
 rw[e];exact q
theorem x_neO {others:List Str} (h:Sat (frzV fa δ μ) (fun x μ1=>Sat (frzV fb δ μ1) (fun y μ2=>(isI nm "" x μ2=true∧((kindOf μ2 y).bind (tabC nm others)).isSome=true)∧Sat (F [x,y] μ2) (fun r μ3=>BlK r μ3 fun b μ3=>QR (.dat (.bl (!b))) μ3) (fun _ _=>False)) E) E):Sat (eNeO nm others F fa fb δ μ) QR E:=by
 refine sat_bind (h.mono (fun x μ1 q=>sat_bind (q.mono (fun y μ2 q=>?_) fun _ _ q=>q)) fun _ _ q=>q)
 rw[if_pos q.1]
 have q:=q.2
 cases e:F [x,y] μ2 with
 | ok r μ3=>rw[e] at q;obtain⟨b,rfl,_,q⟩:=BlK.ex q;exact q
 | exc x μ2=>rw[e] at q;exact q.elim
 | bad=>rw[e] at q;exact q.elim
theorem i_vals {f:EM}(h:Sat (frzV f δ μ) (fun x μ'=>∃ ds,x=.dat (.dct ds)∧allKD ds=true∧QI (ds.map (·.2)) μ') E):Sat (imVals f δ μ) QI E:=by
 unfold imVals
 refine sat_bind (h.mono (fun x m ⟨ds,e,ht,q⟩=>?_) fun _ _ q=>q)
 subst e;simp only;rw[if_pos ht];exact q
theorem i_dwn {f:AM}(h:Sat (f δ μ) (fun xs μ'=>∃ i j:Int,xs=[.dat (.int i),.dat (.int j),.dat (.int (-1))]∧(-(2^62)≤i∧i<2^62∧-(2^62)≤j∧j<2^62)∧QI (dwnD i (i-j).toNat) μ') E):Sat (imDwn f δ μ) QI E:=by
 unfold imDwn
 refine sat_bind (h.mono (fun x m ⟨i,j,e,hb,q⟩=>?_) fun _ _ q=>q)
 subst e
 show Sat (if -(2^62)≤i∧i<2^62∧-(2^62)≤j∧j<2^62∧(-1:Int)=-1 then _ else _) _ _
 rw[if_pos ⟨hb.1,hb.2.1,hb.2.2.1,hb.2.2.2,rfl⟩];exact q
end
section
variable {δ:Env}{μ:Mem}{QR:R→Mem→Prop}{E:Xc→Mem→Prop}{P:DL.PO}{N:Nat}
theorem forP_inv {M:Nat}{ks:List Bool}{n j:Nat}{p:Pl}{gb:SM}{xs:List DV}(I:Nat→Env→Mem→Prop)(h0:I 0 δ μ)(hl:∀ k δ μ,I k δ μ→μ[n]?=some p)
  (ht:∀ k x,xs[k]?=some x→∀ δ μ,I k δ μ→SatS (gb M (δ.set j (some x)) μ) { nx:=fun δ' μ'=>I (k+1) (cut M ks δ') (μ'.take M),ct:=fun δ' μ'=>I (k+1) (cut M ks δ') (μ'.take M),bk:=fun δ' μ'=>P.nx (cut M ks δ') (μ'.take M),rt:=P.rt,ex:=P.ex })
  (hq:∀ δ μ,I xs.length δ μ→P.nx δ μ):SatS (forP M ks n p j gb xs δ μ) P:=by
 have key:∀ (m k:Nat) (δ:Env) (μ:Mem),k+m=xs.length→I k δ μ→SatS (forP M ks n p j gb (xs.drop k) δ μ) P:=by
  intro m
  induction m with
  | zero =>
   intro k δ μ hk hI
   rw[List.drop_of_length_le (by omega)]
   have:k=xs.length:=by omega
   subst this
   unfold forP
   rw[if_pos (hl _ _ _ hI)]
   exact hq δ μ hI
  | succ m ih =>
   intro k δ μ hk hI
   have hlt:k<xs.length:=by omega
   rw[List.drop_eq_getElem_cons hlt]
   have h2:=ht k xs[k] (List.getElem?_eq_getElem hlt) δ μ hI
   unfold forP
   rw[if_pos (hl _ _ _ hI)]
   cases e:gb M (δ.set j (some xs[k])) μ with
   | next δ' μ'=>rw[e] at h2;exact ih (k+1) _ _ (by omega) h2
   | cnt δ' μ'=>rw[e] at h2;exact ih (k+1) _ _ (by omega) h2
   | brk δ' μ'=>rw[e] at h2;exact h2
   | ret r μ'=>rw[e] at h2;exact h2
   | exc x δ' μ'=>rw[e] at h2;exact h2
   | bad=>rw[e] at h2;exact h2
 have:=key xs.length 0 δ μ (by omega) h0
 rw[List.drop_zero] at this;exact this
end
section
variable {X:Cx}{W:WX}
end
section
variable {δ:Env}{μ:Mem}{QR:R→Mem→Prop}{E:Xc→Mem→Prop}{ds:List D}{d:D}
end
section
variable {μ:Mem}{δ:Env}{N:Nat}{QR:R→Mem→Prop}{E:Xc→Mem→Prop}
theorem gTup {xs:List DV}{Q:D→Prop}(h:TupK xs Q):TupK xs Q:=h
theorem gTgt' {f:D→Env→Option Env}{x:DV}{Q:Env→Prop}(h:TgtK f δ x Q):TgtK f δ x Q:=h
theorem gFld' {nms:List Str}{m:Str}{x:DV}{Q:DV→Prop}(h:FldK nms m x μ Q):FldK nms m x μ Q:=h
theorem gNxt {μ':Mem}(h:(endP N QR E).nx δ μ'):(endP N QR E).nx δ μ':=h
theorem gAnd {a b:Prop}(h:a∧b):a∧b:=h
theorem gBind {b:Bool}{i:Nat}{r:R}{k:Env→Mem→Prop}(h:BindK b N i r δ μ k):BindK b N i r δ μ k:=h
theorem gBlK {r:R}{QB:Bool→Mem→Prop}(h:BlK r μ QB):BlK r μ QB:=h
end
theorem px_callK {X:Cx}{W:WX}{P:Program}{w:World}{K:PySem.W.Frag}{mg:Str→Option Value}{base:Heap}{cx:CXT}{k n:Nat}{x:Str}{F:List DV→Mem→Res DV}{e:Expr}{es:List Expr}{tA:TA}{fA:AM}{p pos:Pos}(Fn:FnDX P w K mg base cx k x n F)(hr:Room k X.A)(hgd:X.A.guards=some [])(hg:Gl X x)
  (hx:∀ σ,PassesAt cx X σ (EW W σ)) (ha:PMA X W (e::es) tA fA) (h1:X.prog=P:=by rfl) (h2:X.w=w:=by rfl) (h3:X.K=K:=by rfl) (h4:X.mg=mg:=by rfl) (h5:X.base=base:=by rfl) (hdb:(x==("__debug__":Str))=false:=by decide)
  (he:starEach (e::es) X.env=(false,eval e X.env)::starEach es X.env:=by rfl) (hpl:(backTo pos (starEach es X.env)).any (·.1)=false:=by rfl) :
  PMX X W (.Call (.Name x p) (e::es) [] pos) (tCallSD (spX K n F) [] (EW W) tA) (xCall F fA):=by
 subst h1 h2 h3 h4 h5;exact px_call Fn hr hgd hg hx ha hdb he hpl
section
variable {QR:R→Mem→Prop}{QV:DV→Mem→Prop}{QA:List DV→Mem→Prop}{QI:List D→Mem→Prop}{QF:Fds→Mem→Prop}{QE:Env→Mem→Prop}{E:Xc→Mem→Prop}{μ ν:Mem}{δ:Env}{N n c:Nat}{P:PO}{x y:DV}{kvs:List (Ky×DV)}{ds:List (Ky×D)}{fs:Fds}
theorem gBb {r:Res Fds}{QF:Fds→Mem→Prop}{E:Xc→Mem→Prop}(h:Sat r QF E):Sat r QF E:=h
theorem gHh {r:Res Env}{QF:Env→Mem→Prop}{E:Xc→Mem→Prop}(h:Sat r QF E):Sat r QF E:=h
def UnK (c:Nat)(μ:Mem)(Q:Mem→Prop):Prop:=∃ kvs,μ[c]?=some (.lkd kvs)∧Q (μ.set c (.dct kvs))
theorem UnK.of {Q:Mem→Prop}(h:UnK c μ Q):∃ μ',unlk c μ=some μ'∧Q μ':=by
 obtain⟨kvs,e,q⟩:=h
 exact⟨_,by unfold unlk;rw[e],q⟩
def LkK (x:DV)(μ:Mem)(Q:List (Ky×D)→Prop):Prop:=∃ ds,lkdOf x μ=some ds∧allKD ds=true∧Q ds
theorem i_keysL {f:EM}(h:Sat (frzV f δ μ) (fun x μ'=>LkK x μ' fun ds=>QI (keysD ds) μ') E):Sat (imKeysL f δ μ) QI E:=by
 refine sat_bind (h.mono (fun x m ⟨ds,e,hk,q⟩=>?_) fun _ _ q=>q)
 rw[e];simp only[hk,if_true];exact q
theorem i_itemsL {f:EM}(h:Sat (frzV f δ μ) (fun x μ'=>LkK x μ' fun ds=>QI (pairsOf ds) μ') E):Sat (imItemsL f δ μ) QI E:=by
 refine sat_bind (h.mono (fun x m ⟨ds,e,hk,q⟩=>?_) fun _ _ q=>q)
 rw[e];simp only[hk,if_true];exact q
theorem x_xof {f:EM}(h:Sat (f δ μ) (fun r μ'=>NpK μ.length r μ' QV) E):Sat (xOf f δ μ) QV E:=by
 refine sat_bind (h.mono (fun r m q=>?_) fun _ _ q=>q)
 unfold NpK at q
 cases e:newPl μ.length r m with
 | none=>rw[e] at q;exact q.elim
 | some p=>rw[e] at q;exact q
theorem xa_nilK (h:QA [] μ):Sat (xaNil δ μ) QA E:=h
theorem xa_consK {f:XM}{g:XA}(h:Sat (f δ μ) (fun x μ1=>μ.length≤μ1.length∧Sat (g δ μ1) (fun xs μ2=>QA (x::xs) μ2) E) E):Sat (xaCons f g δ μ) QA E:=by
 refine sat_bind (h.mono (fun x m q=>?_) fun _ _ q=>q)
 rw[if_pos q.1];exact sat_bind q.2
theorem s_asgX {i:Nat}{f:XM}(hN:N≤μ.length)(h:Sat (f δ μ) (fun x μ'=>P.nx (δ.set i (some x)) μ') (fun x μ=>P.ex x δ μ)):SatS (gAsgX i f N δ μ) P:=by
 unfold gAsgX;rw[if_pos hN];exact sat_lift h
theorem s_retX {f:XM}(hN:N≤μ.length)(h:Sat (f δ μ) (fun x μ'=>P.rt (ofV x) μ') (fun x μ=>P.ex x δ μ)):SatS (gRetX f N δ μ) P:=by
 unfold gRetX;rw[if_pos hN];exact sat_lift h
theorem x_xcall {F:List DV→Mem→Res DV}{fa:AM}(h:Sat (fa δ μ) (fun xs μ1=>μ.length≤μ1.length∧Sat (F xs μ1) QV E) E):Sat (xCall F fa δ μ) QV E:=by
 refine sat_bind (h.mono (fun xs m q=>?_) fun _ _ q=>q)
 rw[if_pos q.1];exact q.2
theorem x_xmeth {nm m:Str}{F:List DV→Mem→Res DV}{f:EM}{fa:AM}(h:Sat (frzV f δ μ) (fun x μ1=>isI nm m x μ1=true∧Sat (fa δ μ1) (fun xs μ2=>μ.length≤μ2.length∧Sat (F (x::xs) μ2) QV E) E) E):Sat (xMeth nm m F f fa δ μ) QV E:=by
 refine sat_bind (h.mono (fun x m q=>?_) fun _ _ q=>q)
 rw[if_pos q.1]
 refine sat_bind (q.2.mono (fun xs m q=>?_) fun _ _ q=>q)
 rw[if_pos q.1];exact q.2
theorem x_xmake {nm:Str}{F:List DV→Mem→Res Fds}{fa:AM}(h:Sat (fa δ μ) (fun xs μ1=>μ.length≤μ1.length∧Sat (F xs μ1) (fun fs μ2=>QV (.loc (μ2.length+1)) (μ2++[.own]++[.ins nm fs])) E) E):Sat (xMake nm F fa δ μ) QV E:=by
 refine sat_bind (h.mono (fun xs m q=>?_) fun _ _ q=>q)
 rw[if_pos q.1];exact sat_bind q.2
abbrev endX (N:Nat)(QV:DV→Mem→Prop)(E:Xc→Mem→Prop):PO :=
 { nx:=fun _ μ'=>QV (.dat .non) (μ'.take N),rt:=fun r μ'=>Sat (closeX N r μ') QV E,bk:=fun _ _=>False,ct:=fun _ _=>False,ex:=fun x _ μ'=>E x (μ'.take N) }
theorem x_callX {g:SM}{n m:Nat}{args:List DV}(hn:args.length=n)(h:SatS (g μ.length (args.map some++List.replicate m none) μ) (endX μ.length QV E)):Sat (callDX g n m args μ) QV E:=by
 unfold callDX;rw[if_pos hn];unfold callX
 cases e:g μ.length (args.map some++List.replicate m none) μ <;> rw[e] at h <;> exact h
theorem cx_new {r:Nat}(hn:N≤r)(h:QV (.loc r) μ):Sat (closeX N (.loc r) μ) QV E:=by
 unfold closeX;simp only;rw[if_neg (by omega)];exact h
theorem b_nilK (h:QF fs μ):Sat (bNil δ μ fs) QF E:=h
theorem b_seqK {g h:BM}(k:Sat (g δ μ fs) (fun fs' μ'=>Sat (h δ μ' fs') QF E) E):Sat (bSeq g h δ μ fs) QF E:=sat_bind k
theorem b_fldK {m:Str}{f:EM}(h:Sat (xOf f δ μ) (fun y μ1=>(μ.length≤μ1.length∧fs.length<1000)∧QF (putD m y fs) μ1) E):Sat (bFld m f δ μ fs) QF E:=by
 refine sat_bind (h.mono (fun y m q=>?_) fun _ _ q=>q)
 rw[if_pos q.1];exact q.2
theorem s_bld {i:Nat}{F:List DV→Mem→Res Fds}{fa:AM}{g:Fds→SM}(h:Sat (fa δ μ) (fun xs μ1=>(N≤μ1.length∧i<δ.length)∧Sat (F xs μ1) (fun fs μ2=>SatS (g fs N (δ.set i none) μ2) P) (fun x μ=>P.ex x δ μ)) (fun x μ=>P.ex x δ μ)):SatS (gBld i F fa g N δ μ) P:=by
 refine sat_lift (h.mono (fun xs m q=>?_) fun _ _ q=>q)
 rw[if_pos q.1];exact sat_lift q.2
theorem s_bseq {b:BM}{g:Fds→SM}(h:Sat (b δ μ fs) (fun fs' μ'=>SatS (g fs' N δ μ') P) (fun x μ=>P.ex x δ μ)):SatS (gBSeq b g fs N δ μ) P:=sat_lift h
theorem s_pub {nm:Str}{i:Nat}{g:SM}(h:SatS (g N (δ.set i (some (.loc (μ.length+1)))) (μ++[.own]++[.ins nm fs])) P):SatS (gPub nm i g fs N δ μ) P:=h
theorem x_dpop1 {fd fy:EM}(h:Sat (frzV fd δ μ) (fun x μ1=>isDct x μ1=true∧Sat (frzV fy δ μ1) (fun y μ2=>Sat (dPopK x y none μ2) QR E) E) E):Sat (eDPop1 fd fy δ μ) QR E:=by
 refine sat_bind (h.mono (fun x m q=>?_) fun _ _ q=>q)
 rw[if_pos q.1];exact sat_bind q.2
theorem x_dpop2 {fd fy fz:EM}(h:Sat (frzV fd δ μ) (fun x μ1=>isDct x μ1=true∧Sat (frzV fy δ μ1) (fun y μ2=>Sat (frzV fz δ μ2) (fun z μ3=>Sat (dPopK x y (some z) μ3) QR E) E) E) E):Sat (eDPop2 fd fy fz δ μ) QR E:=by
 refine sat_bind (h.mono (fun x m q=>?_) fun _ _ q=>q)
 rw[if_pos q.1]
 exact sat_bind (q.2.mono (fun _ _ q=>sat_bind q) fun _ _ q=>q)
theorem s_daug {fo fi fe:EM}(h:Sat (frzV fo δ μ) (fun x μ1=>Sat (frzV fi δ μ1) (fun i μ2=>Sat (dGet x i μ2) (fun r μ3=>Sat (frzV fe δ μ3) (fun y μ4=>∃ a b μ5,r=.dat (.int a)∧y=.dat (.int b)∧setDct μ4 x i (.dat (.int (a+b)))=some μ5∧P.nx δ μ5) (fun x μ=>P.ex x δ μ)) (fun x μ=>P.ex x δ μ)) (fun x μ=>P.ex x δ μ)) (fun x μ=>P.ex x δ μ)):SatS (gDAug fo fi fe N δ μ) P:=by
 refine sat_lift (sat_bind (h.mono (fun x m q=>sat_bind (q.mono (fun i m q=>sat_bind (q.mono (fun r m q=>sat_bind (q.mono (fun y m q=>?_) fun _ _ q=>q)) fun _ _ q=>q)) fun _ _ q=>q)) fun _ _ q=>q))
 obtain⟨a,b,μ5,rfl,rfl,e,q⟩:=q
 simp only[e];exact q
theorem s_fldaug {nms:List Str}{m:Str}{fo fe:EM}(h:Sat (frzV fo δ μ) (fun x μ1=>∃ a,fldI nms m x μ1=some a∧Sat (frzV fe δ μ1) (fun y μ2=>∃ b μ3,y=.dat (.int b)∧(insAt μ2 x).map (·.1)=(insAt μ1 x).map (·.1)∧setFld nms μ2 x m (.dat (.int (a+b)))=some μ3∧P.nx δ μ3) (fun x μ=>P.ex x δ μ)) (fun x μ=>P.ex x δ μ)):SatS (gFldAug nms m fo fe N δ μ) P:=by
 refine sat_lift (sat_bind (h.mono (fun x m q=>?_) fun _ _ q=>q))
 obtain⟨a,e,q⟩:=q
 rw[e]
 refine sat_bind (q.mono (fun y m q=>?_) fun _ _ q=>q)
 obtain⟨b,μ3,rfl,e1,e2,q⟩:=q
 simp only;rw[if_pos e1,e2];exact q
def SoK (x:DV)(Q:List D→Prop):Prop:=∃ ds,seqOf x=some ds∧Q ds
theorem a_starK {f:EM}{g:AM}(h:Sat (frzV f δ μ) (fun x μ1=>SoK x fun ds=>Sat (g δ μ1) (fun xs μ2=>QA (ds.map DV.dat++xs) μ2) E) E):Sat (aStar f g δ μ) QA E:=by
 refine sat_bind (h.mono (fun x m ⟨ds,e,q⟩=>?_) fun _ _ q=>q)
 rw[e];exact sat_bind q
theorem s_tgtM {n:Nat}{h:List DV→Env→Mem→Res Env}{f:EM}(k:Sat (frzV f δ μ) (fun x μ1=>∃ ds,x=.dat (.tup ds)∧ds.length=n∧Sat (h (ds.map DV.dat) δ μ1) (fun δ' μ'=>P.nx δ' μ') (fun _ _=>False)) (fun x μ=>P.ex x δ μ)):SatS (gTgtM n h f N δ μ) P:=by
 refine sat_lift (k.mono (fun x m q=>?_) fun _ _ q=>q)
 obtain⟨ds,rfl,e,q⟩:=q
 simp only;rw[if_pos e]
 cases eh:h (ds.map DV.dat) δ m with
 | bad=>rw[eh] at q;exact q.elim
 | exc x m=>rw[eh] at q;exact q.elim
 | ok d m=>rw[eh] at q;exact q
theorem h_nilK (h:QE δ μ):Sat (hNil [] δ μ) QE E:=h
theorem h_consK {g:TGM}{r:List DV→Env→Mem→Res Env}{xs:List DV}(h:Sat (g x δ μ) (fun δ1 μ1=>Sat (r xs δ1 μ1) QE E) E):Sat (hCons g r (x::xs) δ μ) QE E:=sat_bind h
theorem h_nameK {i:Nat}(h:QE (δ.set i (some x)) μ):Sat (hName i x δ μ) QE E:=h
theorem h_fldK {nms:List Str}{m:Str}{fo:EM}(h:Sat (frzV fo δ μ) (fun o μ1=>∃ μ2,setFld nms μ1 o m x=some μ2∧QE δ μ2) E):Sat (hFld nms m fo x δ μ) QE E:=by
 refine sat_bind (h.mono (fun o m ⟨μ2,e,q⟩=>?_) fun _ _ q=>q)
 rw[e];exact q
theorem h_dputK {fo fi:EM}(h:Sat (frzV fo δ μ) (fun o μ1=>Sat (frzV fi δ μ1) (fun i μ2=>∃ μ3,setDct μ2 o i x=some μ3∧QE δ μ3) E) E):Sat (hDPut fo fi x δ μ) QE E:=by
 refine sat_bind (h.mono (fun o m q=>sat_bind (q.mono (fun i m ⟨μ3,e,q⟩=>?_) fun _ _ q=>q)) fun _ _ q=>q)
 rw[e];exact q
theorem x_dictZip {fa:AM}(h:Sat (fa δ μ) (fun xs μ1=>∃ ps,zipOf xs=some ps∧QR (.nk (mergeD [] ps)) μ1) E):Sat (eDictZip fa δ μ) QR E:=by
 refine sat_bind (h.mono (fun xs m ⟨ps,e,q⟩=>?_) fun _ _ q=>q)
 rw[e];exact q
end
section
variable {QR:R→Mem→Prop}{QI:List D→Mem→Prop}{E:Xc→Mem→Prop}{μ ν:Mem}{δ:Env}{N n c:Nat}{P:PO}{x y:DV}{xs:List DV}{ds:List D}
def UnL (c:Nat)(μ:Mem)(Q:Mem→Prop):Prop:=∃ xs,μ[c]?=some (.lkl xs)∧Q (μ.set c (.lst xs))
theorem UnL.of {Q:Mem→Prop}(h:UnL c μ Q):∃ μ',unlkL c μ=some μ'∧Q μ':=by
 obtain⟨kvs,e,q⟩:=h
 exact⟨_,by unfold unlkL;rw[e],q⟩
def LkLK (x:DV)(μ:Mem)(Q:List D→Prop):Prop:=∃ ds,lklOf x μ=some ds∧Q ds
theorem i_enumL {f:EM}(h:Sat (frzV f δ μ) (fun x μ'=>LkLK x μ' fun ds=>QI (enumD 0 ds) μ') E):Sat (imEnumL (aCons f aNil) δ μ) QI E:=by
 refine sat_bind (sat_bind (h.mono (fun x μ1 q=>?_) fun _ _ q=>q))
 obtain⟨ds,e,q⟩:=q
 show Sat (match lklOf x μ1 with|some ds=>_|none=>_) _ _
 rw[e];exact q
end
section
variable {K:PySem.W.Frag}{ρ:Pm}{G:Hp}{σ:Slots}{δ:Env}{W:WX}{t:TS}{g:SM}
end
section
variable {QV:DV→Mem→Prop}{E:Xc→Mem→Prop}{μ:Mem}{δ:Env}{N:Nat}{P:PO}
end
section
variable {K:PySem.W.Frag}{W:WX}{N M:Nat}{ρ ρ1 ρ0:Pm}{G H G1 H1 G0 H0:Hp}{σ:Slots}{δ:Env}{μ:Mem}{Dn:Ends}{te:TE}{ta:TA}{f:EM}{xa:XA}
def xTup (g:XA):XM:=fun δ μ=>(g δ μ).bind fun xs μ'=>if μ.length≤μ'.length∧xs.length≤sizeLine then .ok (.loc μ'.length) (μ'++[.tp xs]) else .bad
def xLst (g:XA):XM:=fun δ μ=>(g δ μ).bind fun xs μ'=>if μ.length≤μ'.length∧xs.length≤sizeLine then .ok (.loc μ'.length) (μ'++[.lst xs]) else .bad
theorem new_place {vs:List V}{xs:List DV}{p:Addr}{o:HO}{q:Pl}{μ':Mem}(R1:Rel K ρ1 G1 H1 μ')(t1:TrS M ρ G H ρ1 G1 H1)(hM:M≤μ'.length)(hn:H1 p=none)(d:DvL K ρ1 G1 vs xs)
  (hq:∀ ρ2:Pm,(∀ n b,ρ1 n=some b→ρ2 n=some b)→ρ2 μ'.length=some p→PlOk K ρ2 G1 (upd H1 p o) μ'.length q) :
  ∃ ρ2,TrS M ρ G H ρ2 G1 (upd H1 p o)∧Rel K ρ2 G1 (upd H1 p o) (μ'++[q])∧DvOk K ρ2 G1 (.ref p) (.loc μ'.length):=by
 obtain⟨R2,t2⟩:=R1.lay (o:=o) hn
 have g0:G1 p=none:=by
  cases e:G1 p with
  | none=>rfl
  | some u=>rw[R1.ex _ _ e] at hn;cases hn
 have np:∀ n,ρ1 n≠some p:=fun n e=>R1.hs n p e hn
 have up:∀ n b,ρ1 n=some b→addP ρ1 μ'.length p n=some b:=fun n b e=>by
  unfold addP;rw[if_neg (Nat.ne_of_lt (R1.lt n b e))];exact e
 obtain⟨R3,t3,_,at_⟩:=R2.alloc (p:=q) hM (t1.trans t2.toS) (by rw[upd_same];simp) g0 np (t1.th _ hn) (hq _ up (by unfold addP;rw[if_pos rfl]))
 exact⟨_,t3,R3,⟨p,rfl,at_⟩⟩
theorem snd_xlst (h:SndXA K W ta xa):SndX K W (tLst ta) (xLst xa):=fun ρ G H σ δ μ Q R E hp=>by
 unfold xLst at hp
 refine h ρ G H σ δ μ _ R E ?_
 cases e:xa δ μ with
 | bad=>rw[e] at hp;exact hp
 | exc x μ'=>rw[e] at hp;exact hp
 | ok xs μ1 =>
  rw[e] at hp
  simp only[Res.bind_ok] at hp
  intro ρ1 G1 H1 vs t1 R1 d1
  by_cases hz:μ.length≤μ1.length∧xs.length≤sizeLine
  case neg=>rw[if_neg hz] at hp;exact hp.elim
  rw[if_pos hz] at hp
  refine⟨by rw[paired_len d1];exact hz.2,fun p hn=>?_⟩
  obtain⟨ρ2,t2,R2,dv⟩:=new_place (o:=.lst vs) (q:=.lst xs) R1 t1 hz.1 hn d1 fun ρ2 up at_=>⟨DvL.below R1 d1,p,vs,at_,upd_same,DvL.mono (Ex.refl _) up d1⟩
  exact hp ρ2 G1 _ _ t2 R2 dv
def tpOf (x:DV)(μ:Mem):Option (List DV):=match x with
 | .dat _=>none
 | .loc n=>match μ[n]? with
  | some (.tp xs)=>some xs
  | _=>none
theorem tpOf_ok {v:V}{x:DV}{xs:List DV}(R:Rel K ρ G H μ)(hx:DvOk K ρ G v x)(e:tpOf x μ=some xs):∃ a vs,v=.ref a∧SqT K H a vs∧DvL K ρ G vs xs:=by
 cases x with
 | dat d=>cases e
 | loc n =>
  obtain⟨a,rfl,ea⟩:=hx
  unfold tpOf at e
  simp only at e
  cases em:μ[n]? with
  | none=>rw[em] at e;cases e
  | some p =>
   rw[em] at e
   cases p with
   | tp ys =>
    cases e
    obtain⟨_,b,_,vs,h1,h2,h3⟩:=R.pl n _ em
    rw[ea] at h1;cases h1
    exact⟨a,vs,rfl,.inl (.inl h2),h3⟩
   | _=>cases e
end
section
variable {X:Cx}{W:WX}{te ta:TE}{tA:TA}{f fa fb:EM}{xA:XA}{tb:TE}{a b e:Expr}{es:List Expr}{pos:Pos}{body:List Stmt}{t:TS}{g:SM}
theorem px_lst (h:PMXA X W es tA xA):PMX X W (.List es pos) (tLst tA) (xLst xA):=⟨pe_lst h.pe,snd_xlst h.sd⟩
end
def lcX (M:Nat)(h:D→Env→Option Env)(ft:TM)(fx:XM)(δ:Env):List D→Mem→Res (List DV)
 | [],μ=>.ok [] μ
 | d::ds,μ=>match h d δ with
  | none=>.bad
  | some δ1=>match ft δ1 μ with
   | .ok true μ1=>if M≤μ1.length then match fx δ1 μ1 with
    | .ok y μ2=>(lcX M h ft fx δ ds μ2).bind fun ys μ3=>.ok (y::ys) μ3
    | _=>.bad
    else .bad
   | .ok false μ1=>lcX M h ft fx δ ds μ1
   | _=>.bad
def xLc (fi:IM)(h:D→Env→Option Env)(ft:TM)(fx:XM)(vs:List Nat):XM:=fun δ μ=>(fi δ μ).bind fun xs μ' =>
 if xs.length≤sizeLine then(lcX μ.length h ft fx (wipeE δ vs) xs μ').bind fun ys μ2=>if μ.length≤μ2.length then .ok (.loc μ2.length) (μ2++[.lst ys]) else .bad else .bad
section
variable {K:PySem.W.Frag}{W:WX}{N M:Nat}{ρ ρ0 ρ1 ρ2:Pm}{G H G0 H0 G1 H1 G2 H2:Hp}{σ:Slots}{δ:Env}{μ:Mem}{Dn:Ends}
theorem TrS.ndl {p:Addr}{o:HO}(t:TrS N ρ G H ρ1 G1 H1)(hn:∀ n,ρ n≠some p)(h:H p=some o):∀ n,ρ1 n≠some p:=fun n e=>(t.nρ n p e).elim (fun z=>z.elim (hn n) fun⟨m,_,w⟩=>hn m w) fun z=>by rw[h] at z;cases z
theorem TrS.gdl {p:Addr}{o:HO}(t:TrS N ρ G H ρ1 G1 H1)(hn:∀ n,ρ n≠some p)(hg:G p=none)(h:H p=some o):G1 p=none:=by
 cases q:G1 p with
 | none=>rfl
 | some u =>
  rcases t.nG p (by rw[q];simp) with z|z|⟨n,_,z⟩
  ·exact absurd hg z
  ·rw[h] at z;cases z
  ·exact absurd z (hn n)
theorem snd_xlc {wi:TI}{fi:IM}{g:TG}{h:D→Env→Option Env}{tv vs:List Nat}{tt:TT}{ft:TM}{te:TE}{fx:XM}(hi:SndI K W wi fi)(hg:TgOk K g h tv)(hv:∀ i∈tv,i∈vs)(ht:SndT K WF tt ft)(he:SndX K WF te fx) :
  SndX K W (tLc wi g tt te vs) (xLc fi h ft fx vs):=fun ρ G H σ δ μ Q R E hp=>by
 unfold xLc at hp
 refine hi ρ G H σ δ μ _ R E ?_
 cases e0:fi δ μ with
 | bad=>rw[e0] at hp;exact hp
 | exc x μ'=>rw[e0] at hp;exact fun G' H' cls d t R' q=>hp ρ G' H' cls d t.toS R' q
 | ok xs μ0 =>
 rw[e0] at hp
 simp only[Res.bind_ok] at hp
 intro G0 H0 J t0 R0 it
 have E0:EnvOk K ρ G0 σ δ:=E.mono t0.exG
 by_cases hz:xs.length≤sizeLine
 case neg=>rw[if_neg hz] at hp;exact hp.elim
 rw[if_pos hz] at hp
 intro Dl hD
 obtain⟨nG0,nρ0⟩:=fresh_ne R0 hD
 refine⟨fun i m H1=>∃ ρ1 G1 μ1 accV pre,TrS μ.length ρ G H ρ1 G1 H1∧Ex G0 G1∧Fz H0 H1∧(∀ n b,ρ n=some b→ρ1 n=some b)∧Rel K ρ1 G1 H1 μ1∧G1 Dl=none∧(∀ n,ρ1 n≠some Dl)∧H1 Dl=some (.lst accV)∧DvL K ρ1 G1 accV pre∧pre.length≤i∧m=xs.length-i∧i≤xs.length ∧
  PostX K W μ.length ρ G H σ Q (((lcX μ.length h ft fx (wipeE δ vs) (xs.drop i) μ1).bind fun ys μ2=>.ok (pre++ys) μ2).bind fun ys μ2=>if μ.length≤μ2.length then .ok (.loc μ2.length) (μ2++[.lst ys]) else .bad),
  ⟨xs.length,ρ,G0,μ0,[],[],(t0.toS (N:=μ.length)).pokeH (t0.th _ hD),Ex.refl _,fun a od u q=>by rw[upd_ne (ne_of_none q hD)];exact q,fun _ _ q=>q,R0.poke nG0 nρ0,nG0,nρ0,upd_same,.nil,by simp,by omega,by omega,?_⟩,fun i m H1 hW=>?_⟩
 ·have z:((lcX μ.length h ft fx (wipeE δ vs) (xs.drop 0) μ0).bind fun ys μ2=>Res.ok ([]++ys) μ2)=lcX μ.length h ft fx (wipeE δ vs) xs μ0:=by
   rw[List.drop_zero]
   cases lcX μ.length h ft fx (wipeE δ vs) xs μ0 <;> rfl
  rw[z];exact hp
 obtain⟨ρ1,G1,μ1,accV,pre,t1,x1,f1,up1,R1,nG1,nρ1,eD,dl,hlen,em,hle,hp1⟩:=hW
 obtain⟨go,stop⟩:=it ρ1 G1 H1 μ1 R1 x1 f1
 cases e:xs.drop i with
 | nil =>
  rw[e] at hp1
  have hl:xs.length≤i:=by
   have:=congrArg List.length e
   rw[List.length_drop] at this
   simp at this;omega
  simp only[lcX,Res.bind_ok,List.append_nil] at hp1
  refine .inl ⟨stop i hl,?_⟩
  by_cases hM:μ.length≤μ1.length
  case neg=>rw[if_neg hM] at hp1;exact hp1.elim
  rw[if_pos hM] at hp1
  have up:∀ n b,ρ1 n=some b→addP ρ1 μ1.length Dl n=some b:=fun n b q=>by
   unfold addP;rw[if_neg (Nat.ne_of_lt (R1.lt n b q))];exact q
  obtain⟨R3,t3,_,at_⟩:=R1.alloc (p:=.lst pre) hM t1 (by rw[eD];simp) nG1 nρ1 (t0.th _ hD) ⟨DvL.below R1 dl,Dl,accV,by unfold addP;rw[if_pos rfl],eD,DvL.mono (Ex.refl _) up dl⟩
  exact hp1 _ G1 H1 _ t3 R3 ⟨Dl,rfl,at_⟩
 | cons d ds =>
  rw[e] at hp1
  obtain⟨hd,hds,hlt⟩:=drop_cons e
  obtain⟨g1,g2⟩:=go i d hd
  refine .inr ⟨g1,fun H'=>∃ m',m'<m∧_,fun H' q=>q,fun v H2 hy=>?_⟩
  obtain⟨G2,t2,R2,rp⟩:=g2 v H2 hy
  have E2:EnvOk K ρ1 G2 (wipe σ vs) (wipeE δ vs):=(E0.up (x1.trans t2.exG) up1).wipe vs
  unfold lcX at hp1
  cases eh:h d (wipeE δ vs) with
  | none=>simp only[eh] at hp1;exact hp1.elim
  | some δ1 =>
   simp only[eh] at hp1
   refine hg ρ1 G2 H2 μ1 _ (wipeE δ vs) δ1 v d _ R2 E2 rp eh fun σ2 E3 hl hσ=>⟨?_,?_⟩
   ·refine(wipe_ext (τ:=wipe σ vs) hl fun i hi=>hσ i fun z=>hi (hv i z)).trans ?_
    exact wipe_ext (by rw[wipe_length]) fun i hi=>wipe_out hi
   refine ht ρ1 G2 H2 σ2 δ1 μ1 _ R2 E3 ?_
   cases et:ft δ1 μ1 with
   | exc x μ'=>simp only[et] at hp1;exact hp1.elim
   | bad=>simp only[et] at hp1;exact hp1.elim
   | ok b μ2 =>
    intro G3 H3 bv t3 R3 eb
    subst eb
    simp only[et] at hp1
    have T3:=t2.trans t3
    have T3S:TrS μ.length ρ1 G1 H1 ρ1 G3 H3:=T3.toS
    cases bv with
    | false =>
     refine⟨xs.length-(i+1),by omega,ρ1,G3,μ2,accV,pre,t1.trans T3S,x1.trans T3.exG,fun a od u q=>T3.fz a od u (f1 a od u q),up1,R3,T3S.gdl nρ1 nG1 eD,nρ1,T3.keep _ _ nρ1 eD,DvL.mono T3.exG (fun _ _ q=>q) dl,by omega,rfl,hlt,?_⟩
     rw[hds];exact hp1
    | true =>
     by_cases hM:μ.length≤μ2.length
     case neg=>simp only[if_neg hM] at hp1;exact hp1.elim
     simp only[if_pos hM] at hp1
     refine he ρ1 G3 H3 σ2 δ1 μ2 _ R3 (E3.mono t3.exG) ?_
     cases ee:fx δ1 μ2 with
     | exc x μ'=>simp only[ee] at hp1;exact hp1.elim
     | bad=>simp only[ee] at hp1;exact hp1.elim
     | ok y μ3 =>
      simp only[ee] at hp1
      intro ρ4 G4 H4 yv t4 R4 dy
      have T4:TrS μ.length ρ1 G1 H1 ρ4 G4 H4:=T3S.trans (t4.low hM)
      have up4:∀ n b,ρ1 n=some b→ρ4 n=some b:=fun n b q=>(t4.pre n (R3.lt n b q)).trans q
      have eD4:=T4.keep _ _ nρ1 eD
      have nD4:=T4.ndl nρ1 eD
      have gD4:=T4.gdl nρ1 nG1 eD
      refine⟨accV,eD4,?_,xs.length-(i+1),by omega,ρ4,G4,μ3,accV++[yv],pre++[y],(t1.trans T4).pokeH (t0.th _ hD),x1.trans T4.exG,fun a od u q=>?_,fun n b q=>up4 n b (up1 n b q),R4.poke gD4 nD4,gD4,nD4,upd_same,paired_snoc (DvL.mono T4.exG up4 dl) dy,?_,rfl,hlt,?_⟩
      ·rw[paired_len dl];omega
      ·rw[upd_ne (ne_of_none q hD)];exact T4.fz a od u (f1 a od u q)
      ·rw[List.length_append,List.length_singleton];omega
      ·rw[hds]
       have z:((lcX μ.length h ft fx (wipeE δ vs) ds μ3).bind fun ys μ2=>Res.ok (pre++[y]++ys) μ2)=(((lcX μ.length h ft fx (wipeE δ vs) ds μ3).bind fun ys μ3=>Res.ok (y::ys) μ3).bind fun ys μ2=>.ok (pre++ys) μ2):=by
        cases lcX μ.length h ft fx (wipeE δ vs) ds μ3 <;> simp
       rw[z];exact hp1
end
section
variable {X:Cx}{W:WX}
end
set_option maxHeartbeats 1000000
section
variable {QR:R→Mem→Prop}{QV:DV→Mem→Prop}{QA:List DV→Mem→Prop}{E:Xc→Mem→Prop}{μ:Mem}{δ:Env}{N M:Nat}{P:PO}
theorem x_xtup {g:XA}(h:Sat (g δ μ) (fun xs μ'=>(μ.length≤μ'.length∧xs.length≤sizeLine)∧QV (.loc μ'.length) (μ'++[.tp xs])) E):Sat (xTup g δ μ) QV E:=by
 refine sat_bind (h.mono (fun xs m q=>?_) fun _ _ q=>q)
 rw[if_pos q.1];exact q.2
theorem x_xlst {g:XA}(h:Sat (g δ μ) (fun xs μ'=>(μ.length≤μ'.length∧xs.length≤sizeLine)∧QV (.loc μ'.length) (μ'++[.lst xs])) E):Sat (xLst g δ μ) QV E:=by
 refine sat_bind (h.mono (fun xs m q=>?_) fun _ _ q=>q)
 rw[if_pos q.1];exact q.2
theorem x_xlc {fi:IM}{h:D→Env→Option Env}{ft:TM}{fx:XM}{vs:List Nat}(k:Sat (fi δ μ) (fun ds μ1=>ds.length≤sizeLine∧Sat (lcX μ.length h ft fx (wipeE δ vs) ds μ1) (fun ys μ2=>μ.length≤μ2.length∧QV (.loc μ2.length) (μ2++[.lst ys])) E) E):Sat (xLc fi h ft fx vs δ μ) QV E:=by
 refine sat_bind (k.mono (fun ds m q=>?_) fun _ _ q=>q)
 rw[if_pos q.1]
 refine sat_bind (q.2.mono (fun ys m2 q2=>?_) fun _ _ q=>q)
 rw[if_pos q2.1];exact q2.2
theorem lcX_invK {h:D→Env→Option Env}{ft:TM}{fx:XM}{ds:List D}(I:Nat→List DV→Mem→Prop)(h0:I 0 [] μ)
  (ht:∀ i d,ds[i]?=some d→∀ ys μ,I i ys μ→∃ δ1,h d δ=some δ1∧Sat (ft δ1 μ) (fun b μ1=>if b=true then M≤μ1.length∧Sat (fx δ1 μ1) (fun y μ2=>I (i+1) (ys++[y]) μ2) (fun _ _=>False) else I (i+1) ys μ1) (fun _ _=>False))
  (hq:∀ ys μ,I ds.length ys μ→QA ys μ):Sat (lcX M h ft fx δ ds μ) QA E:=by
 have key:∀ (n:Nat) (i:Nat) (zs:List DV) (μ:Mem),i+n=ds.length→I i zs μ→Sat (lcX M h ft fx δ (ds.drop i) μ) (fun ys μ'=>I ds.length (zs++ys) μ') (fun _ _=>False):=by
  intro n
  induction n with
  | zero =>
   intro i zs μ hi hI
   rw[List.drop_of_length_le (by omega)]
   have:i=ds.length:=by omega
   subst this
   show I ds.length (zs++[]) μ
   rw[List.append_nil];exact hI
  | succ n ih =>
   intro i zs μ hi hI
   have hl:i<ds.length:=by omega
   rw[List.drop_eq_getElem_cons hl]
   obtain⟨δ1,h1,h2⟩:=ht i ds[i] (List.getElem?_eq_getElem hl) zs μ hI
   simp only[lcX,h1]
   cases e:ft δ1 μ with
   | bad=>rw[e] at h2;exact h2
   | exc x m=>rw[e] at h2;exact h2
   | ok b m =>
    rw[e] at h2
    cases b with
    | false=>exact ih (i+1) zs m (by omega) h2
    | true =>
     obtain⟨hM,h2⟩:=h2
     simp only[if_pos hM]
     cases e2:fx δ1 m with
     | bad=>rw[e2] at h2;exact h2
     | exc x m=>rw[e2] at h2;exact h2
     | ok y m2 =>
      rw[e2] at h2
      simp only
      refine sat_bind ((ih (i+1) _ m2 (by omega) h2).mono (fun ys m3 q=>?_) fun _ _ q=>q)
      show I ds.length (zs++y::ys) m3
      have z:zs++y::ys=zs++[y]++ys:=by simp
      rw[z];exact q
 have:=key ds.length 0 [] μ (by omega) h0
 rw[List.drop_zero] at this
 exact this.mono (fun ys m q=>hq _ _ (by rw[List.nil_append] at q;exact q)) fun _ _ q=>q.elim
end
open Classical in
noncomputable def lcP (c:Mem→Prop)(i:Nat)(ft:TM)(fe:EM)(δ:Env):List DV→Mem→Res (List DV)
 | [],μ=>if c μ then .ok [] μ else .bad
 | x::xs,μ=>if c μ then match ft (δ.set i (some x)) μ with
   | .ok true μ1=>match frzV fe (δ.set i (some x)) μ1 with
    | .ok y μ2=>(lcP c i ft fe δ xs μ2).bind fun ys μ3=>.ok (y::ys) μ3
    | _=>.bad
   | .ok false μ1=>lcP c i ft fe δ xs μ1
   | _=>.bad
  else .bad
noncomputable def runLcP (i:Nat)(ft:TM)(fe:EM)(vs:List Nat)(δ:Env)(r:R)(μ:Mem):Res R:=match r with
 | .loc n=>match μ[n]? with
  | some (.lst xs)=>if xs.length≤sizeLine then(lcP (fun m=>m[n]?=some (.lst xs)) i ft fe (wipeE δ vs) xs μ).bind fun ys μ2=>.ok (.nl ys) μ2 else .bad
  | some (.tp xs)=>if xs.length≤sizeLine then(lcP (fun m=>m[n]?=some (.tp xs)) i ft fe (wipeE δ vs) xs μ).bind fun ys μ2=>.ok (.nl ys) μ2 else .bad
  | _=>.bad
 | .nl xs=>if xs.length≤sizeLine then(lcP (fun _=>True) i ft fe (wipeE δ vs) xs μ).bind fun ys μ2=>.ok (.nl ys) μ2 else .bad
 | _=>.bad
noncomputable def eLcP (f:EM)(i:Nat)(ft:TM)(fe:EM)(vs:List Nat):EM:=fun δ μ=>(f δ μ).bind fun r μ'=>runLcP i ft fe vs δ r μ'
section
variable {K:PySem.W.Frag}{W:WX}{N M:Nat}{ρ ρ0 ρ1 ρ2:Pm}{G H G0 H0 G1 H1 G2 H2:Hp}{σ:Slots}{δ:Env}{μ:Mem}{Dn:Ends}
def ItV (K:PySem.W.Frag)(J:It)(xs:List DV)(ρ:Pm)(G H:Hp):Prop:=(∀ i x,xs[i]?=some x→J.go i H∧∀ v H',J.yld i H v H'→H=H'∧DvOk K ρ G v x)∧∀ i,xs.length≤i→J.stop i H
theorem itv_l {a:Addr}{vs:List V}{xs:List DV}(h:H a=some (.lst vs))(d:DvL K ρ G vs xs):ItV K (Itl K a) xs ρ G H:=by
 have hq:SqL K H a vs:=.inl (.inl h)
 refine⟨fun i x hx=>?_,fun i hi=>⟨vs,hq,by rw[paired_len d];exact hi⟩⟩
 obtain⟨u,hu,du⟩:=paired_at d hx
 refine⟨⟨vs,u,hq,hu⟩,fun v H' hy=>?_⟩
 obtain⟨rfl,hy⟩:=hy
 have e2:=hy vs hq
 rw[hu] at e2;cases e2
 exact⟨rfl,du⟩
theorem itv_t {a:Addr}{vs:List V}{xs:List DV}(h:H a=some (.tup vs))(d:DvL K ρ G vs xs):ItV K (Itt K a) xs ρ G H:=by
 have hq:SqT K H a vs:=.inl (.inl h)
 refine⟨fun i x hx=>?_,fun i hi=>⟨vs,hq,by rw[paired_len d];exact hi⟩⟩
 obtain⟨u,hu,du⟩:=paired_at d hx
 refine⟨⟨vs,u,hq,hu⟩,fun v H' hy=>?_⟩
 obtain⟨rfl,hy⟩:=hy
 have e2:=hy vs hq
 rw[hu] at e2;cases e2
 exact⟨rfl,du⟩
theorem lcP_c {c:Mem→Prop}{i:Nat}{ft:TM}{fe:EM}{xs:List DV}{μ:Mem}{δ:Env}(h:lcP c i ft fe δ xs μ≠.bad):c μ:=by
 cases xs with
 | nil=>unfold lcP at h;by_cases e:c μ;exact e;rw[if_neg e] at h;exact absurd rfl h
 | cons x xs=>unfold lcP at h;by_cases e:c μ;exact e;rw[if_neg e] at h;exact absurd rfl h
theorem lcP_ok {c:Mem→Prop}{J:It}{i:Nat}{vs:List Nat}{tt:TT}{ft:TM}{te:TE}{fe:EM}{xs:List DV}{Q:V→Hp→Prop}(hv:i∈vs)(hz:xs.length≤sizeLine)(ht:SndT K WF tt ft)(he:SndE K WF te fe)
  (R0:Rel K ρ G0 H0 μ) (E0:EnvOk K ρ G0 σ δ)
  (it:∀ G H μ,Tr ρ G0 H0 G H→Rel K ρ G H μ→c μ→ItV K J xs ρ G H)
  (hp0:PostG K W ρ G0 H0 σ (fun G' H'=>rpE K ρ G' H0 H') Q ((lcP c i ft fe (wipeE δ vs) xs μ).bind fun ys μ2=>.ok (.nl ys) μ2)) :
  ∀ Dl,H0 Dl=none→∃ W':Nat→Nat→Hp→Prop,(∃ m,W' 0 m (upd H0 Dl (.lst [])))∧∀ n m H1,W' n m H1→(J.stop n H1∧Q (.ref Dl) H1)∨(J.go n H1∧∃ Nx:Hp→Prop,(∀ H',Nx H'→∃ m',m'<m∧W' (n+1) m' H') ∧
   ∀ v H2,J.yld n H1 v H2→gName i v (wipe σ vs) H2 fun σ2 H3=>wipe σ2 vs=wipe σ vs∧tt σ2 H3 fun b H4=>if b=true then te σ2 H4 fun y H5=>∃ ys,H5 Dl=some (.lst ys)∧ys.length<sizeLine∧Nx (upd H5 Dl (.lst (ys++[y]))) else Nx H4):=by
 intro Dl hD
 obtain⟨nG0,nρ0⟩:=fresh_ne R0 hD
 refine⟨fun n m H1=>∃ G1 μ1 accV pre,Tr ρ G0 H0 G1 H1∧Rel K ρ G1 H1 μ1∧G1 Dl=none∧H1 Dl=some (.lst accV)∧DvL K ρ G1 accV pre∧pre.length≤n∧xs.length≤sizeLine∧m=xs.length-n∧n≤xs.length ∧
  PostG K W ρ G0 H0 σ (fun G' H'=>rpE K ρ G' H0 H') Q ((lcP c i ft fe (wipeE δ vs) (xs.drop n) μ1).bind fun ys μ2=>.ok (.nl (pre++ys)) μ2),⟨xs.length,G0,μ,[],[],(Tr.refl _ _ _).poke hD,R0.poke nG0 nρ0,nG0,upd_same,.nil,by simp,hz,by omega,by omega,hp0⟩,fun n m H1 hW=>?_⟩
 obtain⟨G1,μ1,accV,pre,t1,R1,nG1,eD,dl,hlen,_,em,hle,hp1⟩:=hW
 have hc:c μ1:=lcP_c (xs:=xs.drop n) (i:=i) (ft:=ft) (fe:=fe) (δ:=wipeE δ vs) fun e=>by rw[e] at hp1;exact hp1
 obtain⟨go,stop⟩:=it G1 H1 μ1 t1 R1 hc
 cases e:xs.drop n with
 | nil =>
  rw[e] at hp1
  have hl:xs.length≤n:=by
   have:=congrArg List.length e
   rw[List.length_drop] at this
   simp at this;omega
  unfold lcP at hp1
  rw[if_pos hc] at hp1
  simp only[Res.bind_ok,List.append_nil] at hp1
  exact .inl ⟨stop n hl,hp1 G1 H1 _ t1 R1 ⟨Dl,accV,rfl,eD,dl,nG1,nρ0,hD⟩⟩
 | cons d ds =>
  rw[e] at hp1
  obtain⟨hd,hds,hlt⟩:=drop_cons e
  obtain⟨g1,g2⟩:=go n d hd
  refine .inr ⟨g1,fun H'=>∃ m',m'<m∧_,fun H' q=>q,fun v H2 hy=>?_⟩
  obtain⟨rfl,rp⟩:=g2 v H2 hy
  have E2:EnvOk K ρ G1 (wipe σ vs) (wipeE δ vs):=(E0.mono t1.exG).wipe vs
  unfold lcP at hp1
  rw[if_pos hc] at hp1
  have E3:EnvOk K ρ G1 ((wipe σ vs).set i (some v)) ((wipeE δ vs).set i (some d)):=E2.set i rp
  show wipe ((wipe σ vs).set i (some v)) vs=wipe σ vs∧_
  refine⟨?_,?_⟩
  ·refine(wipe_ext (τ:=wipe σ vs) List.length_set fun j hj=>List.getElem?_set_ne fun z=>hj (z▸hv)).trans ?_
   exact wipe_ext (by rw[wipe_length]) fun j hj=>wipe_out hj
  have nG2:∀ {G' H'},Tr ρ G1 H1 G' H'→G' Dl=none:=fun {G' H'} t'=>by
   cases q:G' Dl with
   | none=>rfl
   | some o=>exact((t'.nG Dl (by rw[q];simp)).elim (fun z=>absurd nG1 z) fun z=>by rw[eD] at z;cases z)
  refine ht ρ G1 H1 _ _ μ1 _ R1 E3 ?_
  cases et:ft ((wipeE δ vs).set i (some d)) μ1 with
  | exc x μ'=>simp only[et] at hp1;exact hp1.elim
  | bad=>simp only[et] at hp1;exact hp1.elim
  | ok b μ2 =>
   intro G3 H3 bv t3 R3 eb
   subst eb
   simp only[et] at hp1
   cases bv with
   | false =>
    refine⟨xs.length-(n+1),by omega,G3,μ2,accV,pre,t1.trans t3,R3,nG2 t3,t3.keep _ _ nρ0 eD,DvL.mono t3.exG (fun _ _ q=>q) dl,by omega,hz,rfl,hlt,?_⟩
    rw[hds];exact hp1
   | true =>
    refine he.toV ρ G3 H3 _ _ μ2 _ R3 (E3.mono t3.exG) ?_
    simp only at hp1
    cases ee:frzV fe ((wipeE δ vs).set i (some d)) μ2 with
    | exc x μ'=>simp only[ee] at hp1;exact hp1.elim
    | bad=>simp only[ee] at hp1;exact hp1.elim
    | ok y μ3 =>
     simp only[ee] at hp1
     intro G4 H4 yv t4 R4 dy
     have T4:=t3.trans t4
     refine⟨accV,T4.keep _ _ nρ0 eD,?_,xs.length-(n+1),by omega,G4,μ3,accV++[yv],pre++[y],(t1.trans T4).poke hD,R4.poke (nG2 T4) nρ0,nG2 T4,upd_same,paired_snoc (DvL.mono T4.exG (fun _ _ q=>q) dl) dy,?_,hz,rfl,hlt,?_⟩
     ·rw[paired_len dl];omega
     ·rw[List.length_append,List.length_singleton];omega
     ·rw[hds]
      have z:((lcP c i ft fe (wipeE δ vs) ds μ3).bind fun ys μ2=>Res.ok (DL.R.nl (pre++[y]++ys)) μ2)=(((lcP c i ft fe (wipeE δ vs) ds μ3).bind fun ys μ3=>Res.ok (y::ys) μ3).bind fun ys μ2=>.ok (DL.R.nl (pre++ys)) μ2):=by
       cases lcP c i ft fe (wipeE δ vs) ds μ3 <;> simp
      rw[z];exact hp1
theorem snd_lcP {te0 te:TE}{f fe:EM}{i:Nat}{vs:List Nat}{tt:TT}{ft:TM}(hv:i∈vs)(h:SndE K W te0 f)(ht:SndT K WF tt ft)(he:SndE K WF te fe):SndE K W (tLc (iSeq K te0) (gName i) tt te vs) (eLcP f i ft fe vs):=fun ρ G H σ δ μ Q R E hp=>by
 refine SndG.seq (t:=te0) h R E hp fun r μ0 G0 H0 v t0 R0 E0 d0 hp0=>?_
 have hp0:=hp0.shiftE t0
 match r,d0,hp0 with
 | .dat _,_,hp0=>exact hp0.elim
 | .nk _,_,hp0=>exact hp0.elim
 | .loc n,d0,hp0 =>
  obtain⟨a,rfl,ea⟩:=d0
  simp only[runLcP] at hp0
  cases e:μ0[n]? with
  | none=>rw[e] at hp0;exact hp0.elim
  | some p =>
   rw[e] at hp0
   match p,e,hp0 with
   | .dct _,_,hp0=>exact hp0.elim
   | .lkd _,_,hp0=>exact hp0.elim
   | .lkl _,_,hp0=>exact hp0.elim
   | .own,_,hp0=>exact hp0.elim
   | .ins _ _,_,hp0=>exact hp0.elim
   | .gone,_,hp0=>exact hp0.elim
   | .lst xs,e,hp0 =>
    simp only at hp0
    by_cases hz:xs.length≤sizeLine
    case neg=>rw[if_neg hz] at hp0;exact hp0.elim
    rw[if_pos hz] at hp0
    obtain⟨_,a',us,q1,q2,_⟩:=R0.pl n _ e
    rw[ea] at q1;cases q1
    refine⟨a,rfl,.inl ⟨⟨us,.inl (.inl q2)⟩,lcP_ok hv hz ht he R0 E0 (fun G1 H1 μ1 t1 R1 c=>?_) hp0⟩⟩
    obtain⟨_,a2,us2,p1,p2,p3⟩:=R1.pl n _ c
    rw[ea] at p1;cases p1
    exact itv_l p2 p3
   | .tp xs,e,hp0 =>
    simp only at hp0
    by_cases hz:xs.length≤sizeLine
    case neg=>rw[if_neg hz] at hp0;exact hp0.elim
    rw[if_pos hz] at hp0
    obtain⟨_,a',_,us,q1,q2,_⟩:=R0.pl n _ e
    rw[ea] at q1;cases q1
    refine⟨a,rfl,.inr ⟨⟨us,.inl (.inl q2)⟩,lcP_ok hv hz ht he R0 E0 (fun G1 H1 μ1 t1 R1 c=>?_) hp0⟩⟩
    obtain⟨_,a2,_,us2,p1,p2,p3⟩:=R1.pl n _ c
    rw[ea] at p1;cases p1
    exact itv_t p2 p3
 | .nl xs,d0,hp0 =>
  obtain⟨a,us,rfl,q1,q2,q3,q4,q5⟩:=d0
  simp only[runLcP] at hp0
  by_cases hz:xs.length≤sizeLine
  case neg=>rw[if_neg hz] at hp0;exact hp0.elim
  rw[if_pos hz] at hp0
  exact⟨a,rfl,.inl ⟨⟨us,.inl (.inl q1)⟩,lcP_ok hv hz ht he R0 E0 (fun G1 H1 μ1 t1 R1 _=>itv_l (t1.keep a _ q4 q1) (DvL.mono t1.exG (fun _ _ q=>q) q2)) hp0⟩⟩
end
section
variable {X:Cx}{W:WX}
theorem pm_lcP (K:PySem.W.Frag){elt iter:Expr}{x:Str}{i:Nat}{px:Pos}{ifs:List Expr}{scope:Scope}{own:List (Str×Nat)}{pos:Pos}{te0:TE}{f:EM}{tt:TT}{ft:TM}{te:TE}{fe:EM}(hc:X.calm=true)(hN:X.N.Nodup)
  (hi:PM X W iter te0 f) (ok:BlkOk X.N X.env.scope scope own)
  (hg:∀ (s:Shared) (H:Hp) (C:Addr) (cl:List (Str×Addr)) (fp:List Addr),PMG (X.blk s H scope (compEnvC scope cl C X.env) fp) (.Name x px) (gName i) (tgName i) [i])
  (hv:∀ j∈[i],j∈own.map (·.2))
  (ht:∀ (s:Shared) (H:Hp) (C:Addr) (cl:List (Str×Addr)) (fp:List Addr),PMTs (X.blk s H scope (compEnvC scope cl C X.env) fp) WF ifs tt ft)
  (he:∀ (s:Shared) (H:Hp) (C:Addr) (cl:List (Str×Addr)) (fp:List Addr),PM (X.blk s H scope (compEnvC scope cl C X.env) fp) WF elt te fe)
  (hs:∀ x,foldedSetIterable iter X.env x=pure x:=by intro _;rfl) (hK:X.K=K:=by rfl) :
  PM X W (.ListComp elt [⟨.Name x px,iter,ifs,0⟩] scope pos) (tLc (iSeq K te0) (gName i) tt te (own.map (·.2))) (eLcP f i ft fe (own.map (·.2))):=by
 subst hK
 exact⟨pe_lc hc hN (pi_seq hi.pe) ok (fun s H C cl fp=>(hg s H C cl fp).pg) (fun s H C cl fp=>(ht s H C cl fp).pe) (fun s H C cl fp=>(he s H C cl fp).pe) hs,
  snd_lcP (hv i (by simp)) hi.sd (ht X.s_0 X.H_0 0 [] []).sd (he X.s_0 X.H_0 0 [] []).sd⟩
end
section
variable {QR:R→Mem→Prop}{QV:DV→Mem→Prop}{QA:List DV→Mem→Prop}{E:Xc→Mem→Prop}{μ:Mem}{δ:Env}{N M n:Nat}{P:PO}
theorem x_lcPl {f fe:EM}{i:Nat}{ft:TM}{vs:List Nat}(k:Sat (f δ μ) (fun r μ1=>∃ n xs,r=.loc n∧μ1[n]?=some (.lst xs)∧xs.length≤sizeLine∧Sat (lcP (fun m=>m[n]?=some (.lst xs)) i ft fe (wipeE δ vs) xs μ1) (fun ys μ2=>QR (.nl ys) μ2) E) E):Sat (eLcP f i ft fe vs δ μ) QR E:=by
 refine sat_bind (k.mono (fun r m ⟨n,xs,e,e2,hz,q⟩=>?_) fun _ _ q=>q)
 subst e
 show Sat (match m[n]? with|some (.lst xs)=>_|some (.tp xs)=>_|_=>_) QR E
 rw[e2];simp only;rw[if_pos hz];exact sat_bind q
theorem x_lcPt {f fe:EM}{i:Nat}{ft:TM}{vs:List Nat}(k:Sat (f δ μ) (fun r μ1=>∃ n xs,r=.loc n∧μ1[n]?=some (.tp xs)∧xs.length≤sizeLine∧Sat (lcP (fun m=>m[n]?=some (.tp xs)) i ft fe (wipeE δ vs) xs μ1) (fun ys μ2=>QR (.nl ys) μ2) E) E):Sat (eLcP f i ft fe vs δ μ) QR E:=by
 refine sat_bind (k.mono (fun r m ⟨n,xs,e,e2,hz,q⟩=>?_) fun _ _ q=>q)
 subst e
 show Sat (match m[n]? with|some (.lst xs)=>_|some (.tp xs)=>_|_=>_) QR E
 rw[e2];simp only;rw[if_pos hz];exact sat_bind q
theorem lcP_invK {c:Mem→Prop}{i:Nat}{ft:TM}{fe:EM}{xs:List DV}(I:Nat→List DV→Mem→Prop)(h0:I 0 [] μ)(hc:∀ k ys μ,I k ys μ→c μ)
  (ht:∀ k x,xs[k]?=some x→∀ ys μ,I k ys μ→Sat (ft (δ.set i (some x)) μ) (fun b μ1=>if b=true then Sat (frzV fe (δ.set i (some x)) μ1) (fun y μ2=>I (k+1) (ys++[y]) μ2) (fun _ _=>False) else I (k+1) ys μ1) (fun _ _=>False))
  (hq:∀ ys μ,I xs.length ys μ→QA ys μ):Sat (lcP c i ft fe δ xs μ) QA E:=by
 have key:∀ (n k:Nat) (zs:List DV) (μ:Mem),k+n=xs.length→I k zs μ→Sat (lcP c i ft fe δ (xs.drop k) μ) (fun ys μ'=>I xs.length (zs++ys) μ') (fun _ _=>False):=by
  intro n
  induction n with
  | zero =>
   intro k zs μ hi hI
   rw[List.drop_of_length_le (by omega)]
   have:k=xs.length:=by omega
   subst this
   unfold lcP
   rw[if_pos (hc _ _ _ hI)]
   show I xs.length (zs++[]) μ
   rw[List.append_nil];exact hI
  | succ n ih =>
   intro k zs μ hi hI
   have hl:k<xs.length:=by omega
   rw[List.drop_eq_getElem_cons hl]
   have h2:=ht k xs[k] (List.getElem?_eq_getElem hl) zs μ hI
   unfold lcP
   rw[if_pos (hc _ _ _ hI)]
   cases e:ft (δ.set i (some xs[k])) μ with
   | bad=>rw[e] at h2;exact h2
   | exc x m=>rw[e] at h2;exact h2
   | ok b m =>
    rw[e] at h2
    cases b with
    | false=>exact ih (k+1) zs m (by omega) h2
    | true =>
     have h2:Sat (frzV fe (δ.set i (some xs[k])) m) (fun y μ2=>I (k+1) (zs++[y]) μ2) (fun _ _=>False):=h2
     simp only
     cases e2:frzV fe (δ.set i (some xs[k])) m with
     | bad=>rw[e2] at h2;exact h2
     | exc x m=>rw[e2] at h2;exact h2
     | ok y m2 =>
      rw[e2] at h2
      simp only
      refine sat_bind ((ih (k+1) _ m2 (by omega) h2).mono (fun ys m3 q=>?_) fun _ _ q=>q)
      show I xs.length (zs++y::ys) m3
      have z:zs++y::ys=zs++[y]++ys:=by simp
      rw[z];exact q
 have:=key xs.length 0 [] μ (by omega) h0
 rw[List.drop_zero] at this
 exact this.mono (fun ys m q=>hq _ _ (by rw[List.nil_append] at q;exact q)) fun _ _ q=>q.elim
end
section
variable {K:PySem.W.Frag}{W:WX}{N M:Nat}{ρ ρ1:Pm}{G H G1 H1:Hp}{σ:Slots}{δ:Env}{μ:Mem}{Dn:Ends}
end
section
variable {X:Cx}{W:WX}
end
section
variable {QR:R→Mem→Prop}{QV:DV→Mem→Prop}{QA:List DV→Mem→Prop}{E:Xc→Mem→Prop}{μ:Mem}{δ:Env}{N M n:Nat}{P:PO}
end
section
variable {X:Cx}{W:WX}{spos pos py px:Pos}{te te0:TE}
theorem sm_lcX {j:Nat}{y:Str}{elt tg iter:Expr}{ifs:List Expr}{scope:Scope}{own:List (Str×Nat)}{wi:TI}{fI:IM}{g:TG}{h:D→Env→Option Env}{tv:List Nat}{tt:TT}{ft:TM}{fx:XM}(hc:X.calm=true)(hN:X.N.Nodup)(hy:X.N[j]?=some y)(hyl:X.env.scope.names.lookup y=some .local)
  (hsw:swapsWith (.ListComp elt [⟨tg,iter,ifs,0⟩] scope pos) (some (.Name y py)) spos.line X.env=pure true)
  (hi:PMI X W tg iter wi fI) (ok:BlkOk X.N X.env.scope scope own)
  (hg:∀ (s:Shared) (H:Hp) (C:Addr) (cl:List (Str×Addr)) (fp:List Addr),PMG (X.blk s H scope (compEnvC scope cl C X.env) fp) tg g h tv)
  (hv:∀ i∈tv,i∈own.map (·.2))
  (ht:∀ (s:Shared) (H:Hp) (C:Addr) (cl:List (Str×Addr)) (fp:List Addr),PMTs (X.blk s H scope (compEnvC scope cl C X.env) fp) WF ifs tt ft)
  (he:∀ (s:Shared) (H:Hp) (C:Addr) (cl:List (Str×Addr)) (fp:List Addr),PMX (X.blk s H scope (compEnvC scope cl C X.env) fp) WF elt te fx)
  (hs:∀ x,foldedSetIterable iter X.env x=pure x:=by intro _;rfl) :
  PSM X W (.Assign [.Name y py] (.ListComp elt [⟨tg,iter,ifs,0⟩] scope pos) spos) (tAsg (tLc wi g tt te (own.map (·.2))) (gName j)) (gAsgX j (xLc fI h ft fx (own.map (·.2)))) :=
 ⟨ps_setLc hc hN hy hyl hsw hi.pi ok (fun s H C cl fp=>(hg s H C cl fp).pg) (fun s H C cl fp=>(ht s H C cl fp).pe) (fun s H C cl fp=>(he s H C cl fp).pe) hs,
  snd_asgX j (snd_xlc hi.sd (hg X.s_0 X.H_0 0 [] []).ok hv (ht X.s_0 X.H_0 0 [] []).sd (he X.s_0 X.H_0 0 [] []).sd)⟩
end
abbrev YM:=Env→Mem→Res R
def PostY (K:PySem.W.Frag)(W:WX)(M:Nat)(ρ:Pm)(G H:Hp)(σ:Slots)(Q:VK):Res R→Prop
 | .ok r μ'=>∀ ρ' G' H' v,TrS M ρ G H ρ' G' H'→Rel K ρ' G' H' μ'→RpR K ρ' G' H H' v r→Q v H'
 | .exc x μ'=>∀ ρ' G' H' cls d,TrS M ρ G H ρ' G' H'→Rel K ρ' G' H' μ'→XcOk K G' H' x cls d→W cls d σ H'
 | .bad=>False
def SndY (K:PySem.W.Frag)(W:WX)(t:TE)(f:YM):Prop:=∀ (ρ:Pm) (G H:Hp) (σ:Slots) (δ:Env) (μ:Mem) (Q:VK),Rel K ρ G H μ→EnvOk K ρ G σ δ →
 PostY K W μ.length ρ G H σ Q (f δ μ)→t σ H Q
def eCut (f:YM):EM:=fun δ μ=>match f δ μ with
 | .ok r μ'=>closeR μ.length r μ'
 | .exc x μ'=>.exc x (μ'.take μ.length)
 | .bad=>.bad
section
variable {K:PySem.W.Frag}{W:WX}{N M n:Nat}{ρ ρ1:Pm}{G H G1 H1 G0 H0:Hp}{σ:Slots}{δ:Env}{μ:Mem}{t te to ty tz td:TE}{ta:TA}{f fy fz fd:EM}{fa:AM}{fx:XM}{Dn:Ends}{nm m:Str}{F:List DV→Mem→Res R}{C:Addr}{Q:VK}
theorem snd_cut {fY:YM}(h:SndY K W t fY):SndE K W t (eCut fY):=fun ρ G H σ δ μ Q R E hp=>by
 refine h ρ G H σ δ μ Q R E ?_
 unfold eCut at hp
 cases e:fY δ μ with
 | bad=>rw[e] at hp;exact hp
 | exc x μ' =>
  rw[e] at hp
  intro ρ' G' H' cls d t R' q
  have z:=R'.cut μ.length
  rw[res_back R t] at z
  exact hp G' H' cls d (tr_back R t) z q
 | ok r μ' =>
  rw[e] at hp
  intro ρ' G' H' v t R' q
  simp only at hp
  cases ec:closeR μ.length r μ' with
  | bad=>rw[ec] at hp;exact hp.elim
  | exc x μ2=>exact(by cases r <;> simp only[closeR] at ec <;> (repeat' split at ec) <;> cases ec)
  | ok r' μ2 =>
   rw[ec] at hp
   obtain⟨q',em⟩:=RpR.close R t R' q ec
   have z:=R'.cut μ.length
   rw[res_back R t,←em] at z
   exact hp G' H' v (tr_back R t) z q'
end
section
variable {X:Cx}{W:WX}{P:Program}{w:World}{K:PySem.W.Frag}{mg:Str→Option Value}{base:Heap}{cx:CXT}{k n:Nat}{nm m x:Str}{F:List DV→Mem→Res R}{e o:Expr}{es:List Expr}{tA:TA}{fA:AM}{to te:TE}{fe:EM}{fx:XM}{p pos apos cpos:Pos}
end
section
variable {X:Cx}{W:WX}
end
section
variable {X:Cx}{W:WX}{spos pos py:Pos}{te:TE}
end
section
variable {QR:R→Mem→Prop}{E:Xc→Mem→Prop}{μ:Mem}{δ:Env}
end
section
variable {K:PySem.W.Frag}{W:WX}{N M n:Nat}{ρ ρ0 ρ1 ρ2:Pm}{G H G0 H0 G1 H1 G2 H2:Hp}{σ:Slots}{δ:Env}{μ:Mem}{Dn:Ends}{te te0:TE}{fx:XM}{f:EM}
end
section
open StX
variable {X:Cx}{W:WX}{spos pos py px tpos:Pos}{te te0:TE}{e:Expr}{es:List Expr}{g:TGs}{h:List DV→Env→Mem→Res Env}{fx:XM}
end
section
variable {QV:DV→Mem→Prop}{QA:List DV→Mem→Prop}{E:Xc→Mem→Prop}{μ:Mem}{δ:Env}{N M n:Nat}{P:PO}
end
end DL
set_option maxHeartbeats 1000000
namespace DL
open PySem PySem.Spec PyProof.Rows L2
section
variable {K:PySem.W.Frag}{W:WX}{N n:Nat}{ρ ρ1:Pm}{G H G1 H1:Hp}{σ:Slots}{δ:Env}{μ:Mem}{Dn:Ends}{to te:TE}{fx:XM}
end
section
open StX
variable {X:Cx}{W:WX}{to:TE}{tA:TA}{fx:XM}{o e:Expr}{apos cpos spos:Pos}
end
section
variable {E:Xc→Mem→Prop}{μ:Mem}{δ:Env}{N n:Nat}{P:PO}
end
end DL
set_option maxHeartbeats 1000000
namespace DL
open PySem PySem.Spec PyProof.Rows L2
abbrev PxM:=Env→Mem→Res (List (Ky×DV))
section
variable {K:PySem.W.Frag}{W:WX}{N M n:Nat}{ρ ρ0 ρ1 ρ2:Pm}{G H G0 H0 G1 H1 G2 H2:Hp}{σ:Slots}{δ:Env}{μ:Mem}{Dn:Ends}{te:TE}{fx:XM}{f:EM}
def SndPX (K:PySem.W.Frag)(W:WX)(trs:List (TE×TE))(f:PxM):Prop:=∀ (ρ:Pm) (G H:Hp) (σ:Slots) (δ:Env) (μ:Mem) (Q:List (V×V)→Hp→Prop),Rel K ρ G H μ→EnvOk K ρ G σ δ →
 (match f δ μ with
  | .ok ps μ'=>∀ ρ' G' H' vs,TrS μ.length ρ G H ρ' G' H'→Rel K ρ' G' H' μ'→(∃ ls:List (Key×V),vs=ls.map (fun kv=>(kV kv.1,kv.2))∧PrL K ρ' G' ls ps)→Q vs H'
  | .exc x μ'=>∀ ρ' G' H' cls d,TrS μ.length ρ G H ρ' G' H'→Rel K ρ' G' H' μ'→XcOk K G' H' x cls d→W cls d σ H'
  | .bad=>False)→tPairs trs σ H Q
end
section
variable {X:Cx}{W:WX}{pos:Pos}{i e:Expr}{ty te:TE}{fy:EM}{fx:XM}
structure PMPX (X:Cx)(W:WX)(pos:Pos)(ks:List (Option Expr))(vs:List Expr)(trs:List (TE×TE))(f:PxM):Prop where
 pp:PPs X pos ks vs trs
 sd:SndPX X.K W trs f
end
section
variable {QV:DV→Mem→Prop}{QP:List (Ky×DV)→Mem→Prop}{E:Xc→Mem→Prop}{μ:Mem}{δ:Env}
end
def yCall (F:List DV→Mem→Res R)(fa:XA):YM:=fun δ μ=>(fa δ μ).bind fun xs μ1=>F xs μ1
section
variable {K:PySem.W.Frag}{W:WX}{n:Nat}{ta:TA}{fa:XA}{F:List DV→Mem→Res R}
end
section
variable {X:Cx}{W:WX}{pos:Pos}{tA:TA}{fA:XA}
end
section
variable {QR:R→Mem→Prop}{E:Xc→Mem→Prop}{μ:Mem}{δ:Env}
theorem x_ycall {F:List DV→Mem→Res R}{fa:XA}(h:Sat (fa δ μ) (fun xs μ1=>Sat (F xs μ1) (fun r μ2=>Sat (closeR μ.length r μ2) QR E) (fun x μ2=>E x (μ2.take μ.length))) (fun x μ2=>E x (μ2.take μ.length))):Sat (eCut (yCall F fa) δ μ) QR E:=by
 unfold eCut yCall
 cases e:fa δ μ with
 | bad=>rw[e] at h;exact h
 | exc x m=>rw[e] at h;exact h
 | ok xs m =>
  rw[e] at h
  simp only[Res.bind_ok]
  have h:Sat (F xs m) _ _:=h
  cases e2:F xs m with
  | bad=>rw[e2] at h;exact h
  | exc x m=>rw[e2] at h;exact h
  | ok r m=>rw[e2] at h;exact h
end
section
variable {K:PySem.W.Frag}{W:WX}{N M:Nat}{ρ ρ1:Pm}{G H G1 H1:Hp}{σ:Slots}{δ:Env}{μ:Mem}{Dn:Ends}{te:TE}{fx:XM}
end
section
open StX
variable {X:Cx}{W:WX}{te:TE}{fx:XM}{t:TS}{g:SM}{tg iter:Expr}{body:List Stmt}{pos:Pos}
end
section
variable {E:Xc→Mem→Prop}{μ:Mem}{δ:Env}{N n:Nat}{P:PO}
end
section
variable {K:PySem.W.Frag}{W:WX}{te:TE}{f:EM}
end
end DL
set_option maxHeartbeats 1000000
namespace DL
open PySem PySem.Spec PyProof.Rows L2
structure Err0 (K:PySem.W.Frag)(mg:Str→Option Value)(nm:Str)(C:Addr):Prop where
 gC:mg nm=some (.ref C)
 exc:PySem.W.excIn K C [.type "ValueError",.type "Exception",.type "BaseException",.type "object"] "ValueError.__new__"=true
 kC:PySem.W.keepIn K (.ref C)=true
 exC:PySem.W.subIn K (.ref C) (.type "BaseException")=some true
 tyC:PySem.W.typeIn K (.ref C)=some (.type "type")
def gRaise0 (nm:Str):SM:=fun _ δ μ=>.exc ⟨nm,[]⟩ δ μ
def errAt0 (i:Nat)(δ:Env):Option (Addr×Addr×Str):=match δ[i]? with
 | some (some (.dat (.err a C _ nm [])))=>some (a,C,nm)
 | _=>none
def eIsE0 (i:Nat)(a C:Addr)(tab:List (Str×Bool)):EM:=fun δ μ=>match errAt0 i δ with
 | some (a',C',nm)=>if a'=a∧C'=C then match tab.lookup nm with
   | some b=>.ok (.dat (.bl b)) μ
   | none=>.bad
  else .bad
 | none=>.bad
section
variable {X:Cx}{W:WX}{a C:Addr}{oe:Obj}{pn:List (Addr×Obj)}{n:Str}{p p1 p2 pos:Pos}
end
open Classical in
noncomputable def gTryE (cat:List (Str×Bool))(i:Nat)(gb:SM)(gs:Addr→Addr→Addr→SM)(gs0:Addr→Addr→SM):SM:=fun N δ μ=>match gb N δ μ with
 | .exc x δ' μ'=>match cat.lookup x.nm with
  | some true=>if x.fs≠[] then suiteOut i fun a C d=>gs a C d N (δ'.set i (some (.dat (.err a C d x.nm x.fs)))) μ'
   else suiteOut i fun a C _=>gs0 a C N (δ'.set i (some (.dat (.err a C 0 x.nm [])))) μ'
  | some false=>.exc x δ' μ'
  | none=>.bad
 | o=>o
section
variable {K:PySem.W.Frag}{W:WX}
end
section
variable {P:Program}{w:World}{K:PySem.W.Frag}{mg:Str→Option Value}{base:Heap}
end
set_option maxHeartbeats 2000000
section
variable {K:PySem.W.Frag}
end
def dEq1 (x y:DV)(μ:Mem):Res R:=match x,y with
 | .dat (.tup (.str i::ds)),.dat (.tup [.str j])=>.ok (.dat (.bl (decide (i=j)&&ds.isEmpty))) μ
 | _,_=>.bad
theorem l_eq1 {QR:R→Mem→Prop}{E:Xc→Mem→Prop}{μ:Mem}{i j:Str}{ds:List D}(h:QR (.dat (.bl (decide (i=j)&&ds.isEmpty))) μ):Sat (dEq1 (.dat (.tup (.str i::ds))) (.dat (.tup [.str j])) μ) QR E:=h
section
variable {X:Cx}{pins:List (Addr×Obj)}{σ:Slots}{H:Hp}{s:Shared}
end
section
variable {K:PySem.W.Frag}{W:WX}{ρ:Pm}{G H:Hp}{σ:Slots}{μ:Mem}{v u:V}{x y:DV}{Q:VK}
end
structure FnDKd (P:Program)(w:World)(K:PySem.W.Frag)(mg:Str→Option Value)(base:Heap)(cx:CXT)(k:Nat)(x:Str)(n:Nat)(d:Int)(F:List DV→Mem→Res R):Prop where
 ar:∀ xs μ,F xs μ≠.bad→xs.length=n+1
 ex:∃ (f:Addr) (fd:FuncData) (ps:List Str) (ds:List Value),ps.length=n+1∧FnG P w K mg base cx k f fd ps (spF K (n+1) F)∧mg x=some (.ref f)∧PySem.W.keepIn K (.ref f)=true∧Vals [V.int d] ds∧Binds K fd ps ds
variable {X:Cx}{W:WX}
end DL
namespace DL
open PySem PySem.Spec PyProof.Rows L2
section
variable {QR:R→Mem→Prop}{E:Xc→Mem→Prop}{δ:DL.Env}{μ:Mem}{y:DV}
end
section
variable {QR:R→Mem→Prop}{E:Xc→Mem→Prop}{μ:Mem}
end
section
variable {P:Program}{w:World}{K:PySem.W.Frag}{mg:Str→Option Value}{base:Heap}
end
section
variable {QR:R→Mem→Prop}{E:Xc→Mem→Prop}{μ:Mem}{n:Nat}{kvs:List (Ky×DV)}
end
section
variable {QR:R→Mem→Prop}{E:Xc→Mem→Prop}{μ:Mem}
end
section
variable {M:Model}{A:Around}{E:Value→Shared→Prop}{s:Shared}
end
section
variable {M:Model}{A:Around}{E:Value→Shared→Prop}{s:Shared}{K:PySem.W.Frag}{env:PySem.Env}{pos p:Pos}{f:Value}{first:List Value}{Q:Value→Shared→Prop}{h₀:Heap}{e e2:Expr}{rest:List Expr}
end
section
variable {X:Cx}{cx:CXT}{k:Nat}{C f:Addr}{fd:FuncData}{ps:List Str}{sp:Sp}{E:L2.St→XK}{m:Str}{o e e2:Expr}{es:List Expr}{ta:TE}{t:TA}{pos apos q:Pos}
end
section
variable {X:Cx}{W:WX}{P:Program}{w:World}{K:PySem.W.Frag}{mg:Str→Option Value}{base:Heap}{cx:CXT}{k n:Nat}{nm m:Str}{F:List DV→Mem→Res R}{o e e2:Expr}{es:List Expr}{tA:TA}{to:TE}{fo:EM}{fA:AM}{pos apos q:Pos}
end
section
variable {K:PySem.W.Frag}{W:WX}{te:TE}{f:EM}{ρ:Pm}{G H:Hp}{μ:Mem}
def bFldV (m:Str)(f:EM):BM:=fun δ μ fs=>(frzV f δ μ).bind fun y μ1=>if μ.length≤μ1.length∧fs.length<1000 then .ok (putD m y fs) μ1 else .bad
def bTup2 (m1 m2:Str)(f:EM):BM:=fun δ μ fs=>(frzV f δ μ).bind fun y μ1=>match y with
 | .dat (.tup [a,b])=>if μ.length≤μ1.length∧fs.length<900 then .ok (putD m2 (.dat b) (putD m1 (.dat a) fs)) μ1 else .bad
 | _=>.bad
end
section
variable {X:Cx}{W:WX}{pos p apos:Pos}{e:Expr}{te:TE}{fe:EM}{nm m:Str}{ss:List Stmt}{u:TS}
end
def xIx (i:Int)(fx:XM):XM:=fun δ μ=>(fx δ μ).bind fun x μ1=>match tpOf x μ1 with
 | some xs=>match atI xs i with
  | some z=>.ok z μ1
  | none=>.bad
 | none=>.bad
def yIx (i:Int)(fx:XM):YM:=fun δ μ=>(fx δ μ).bind fun x μ1=>match tpOf x μ1 with
 | some xs=>match atI xs i with
  | some z=>.ok (ofV z) μ1
  | none=>.bad
 | none=>.bad
section
variable {K:PySem.W.Frag}{W:WX}{te:TE}{fx:XM}{i:Int}
end
section
variable {X:Cx}{W:WX}{pos ap:Pos}{a:Expr}{ta:TE}{fx:XM}{i:Int}{j:Nat}
end
section
variable {QR:R→Mem→Prop}{QV:DV→Mem→Prop}{E:Xc→Mem→Prop}{μ:Mem}{δ:Env}
theorem x_xix {k:Nat}{fx:XM}(h:Sat (fx δ μ) (fun x μ1=>∃ n xs z,x=.loc n∧μ1[n]?=some (.tp xs)∧xs[k]?=some z∧QV z μ1) E):Sat (xIx (k:Int) fx δ μ) QV E:=by
 refine sat_bind (h.mono (fun x m q=>?_) fun _ _ q=>q)
 obtain⟨n,xs,z,rfl,e1,e2,q⟩:=q
 have z1:tpOf (.loc n) m=some xs:=by unfold tpOf;simp only[e1]
 simp only[z1,atI_nat e2]
 exact q
theorem x_yix {k:Nat}{fx:XM}(h:Sat (fx δ μ) (fun x μ1=>∃ n xs z,x=.loc n∧μ1[n]?=some (.tp xs)∧xs[k]?=some z∧Sat (closeR μ.length (ofV z) μ1) QR E) (fun x μ2=>E x (μ2.take μ.length))):Sat (eCut (yIx (k:Int) fx) δ μ) QR E:=by
 unfold eCut yIx
 cases e:fx δ μ with
 | bad=>rw[e] at h;exact h
 | exc x m=>rw[e] at h;exact h
 | ok x m =>
  rw[e] at h
  obtain⟨n,xs,z,rfl,e1,e2,q⟩:=h
  have z1:tpOf (.loc n) m=some xs:=by unfold tpOf;simp only[e1]
  simp only[Res.bind_ok,z1,atI_nat e2]
  exact q
theorem b_fldVK {m:Str}{f:EM}{fs:Fds}{QF:Fds→Mem→Prop}(h:Sat (frzV f δ μ) (fun y μ1=>(μ.length≤μ1.length∧fs.length<1000)∧QF (putD m y fs) μ1) E):Sat (bFldV m f δ μ fs) QF E:=by
 refine sat_bind (h.mono (fun y m q=>?_) fun _ _ q=>q)
 rw[if_pos q.1];exact q.2
theorem b_tup2K {m1 m2:Str}{f:EM}{fs:Fds}{QF:Fds→Mem→Prop}(h:Sat (frzV f δ μ) (fun y μ1=>∃ a b,y=.dat (.tup [a,b])∧(μ.length≤μ1.length∧fs.length<900)∧QF (putD m2 (.dat b) (putD m1 (.dat a) fs)) μ1) E):Sat (bTup2 m1 m2 f δ μ fs) QF E:=by
 refine sat_bind (h.mono (fun y m q=>?_) fun _ _ q=>q)
 obtain⟨a,b,rfl,q1,q2⟩:=q
 show Sat (if _ then _ else _) _ _
 rw[if_pos q1];exact q2
end
def yMethA (nm m:Str)(F:List DV→Mem→Res R)(fo:EM)(fa:XA):YM:=fun δ μ=>(frzV fo δ μ).bind fun x μ1=>if μ.length≤μ1.length∧isI nm m x μ1=true then(fa δ μ1).bind fun xs μ2=>F (x::xs) μ2 else .bad
section
variable {K:PySem.W.Frag}{W:WX}{n:Nat}{to:TE}{ta:TA}{fo:EM}{fa:XA}{nm m:Str}{F:List DV→Mem→Res R}{C:Addr}
end
section
variable {X:Cx}{W:WX}{P:Program}{w:World}{K:PySem.W.Frag}{mg:Str→Option Value}{base:Heap}{cx:CXT}{k n:Nat}{nm m x:Str}{F:List DV→Mem→Res R}{e o:Expr}{es:List Expr}{tA:TA}{fA:XA}{to:TE}{fo:EM}{p pos apos cpos:Pos}
end
section
variable {QR:R→Mem→Prop}{E:Xc→Mem→Prop}{μ:Mem}{δ:Env}
theorem x_ymethA {nm m:Str}{F:List DV→Mem→Res R}{fo:EM}{fa:XA}(h:Sat (frzV fo δ μ) (fun x μ1=>(μ.length≤μ1.length∧isI nm m x μ1=true)∧Sat (fa δ μ1) (fun xs μ2=>Sat (F (x::xs) μ2) (fun r μ3=>Sat (closeR μ.length r μ3) QR E) (fun x μ2=>E x (μ2.take μ.length))) (fun x μ2=>E x (μ2.take μ.length))) (fun x μ2=>E x (μ2.take μ.length))):Sat (eCut (yMethA nm m F fo fa) δ μ) QR E:=by
 unfold eCut yMethA
 cases e:frzV fo δ μ with
 | bad=>rw[e] at h;exact h
 | exc x m=>rw[e] at h;exact h
 | ok x m =>
  rw[e] at h
  obtain⟨h1,h2⟩:=h
  simp only[Res.bind_ok]
  rw[if_pos h1]
  cases e1:fa δ m with
  | bad=>rw[e1] at h2;exact h2
  | exc x m=>rw[e1] at h2;exact h2
  | ok xs m2 =>
   rw[e1] at h2
   simp only[Res.bind_ok]
   have h2:Sat (F (x::xs) m2) _ _:=h2
   cases e2:F (x::xs) m2 with
   | bad=>rw[e2] at h2;exact h2
   | exc x m=>rw[e2] at h2;exact h2
   | ok r m=>rw[e2] at h2;exact h2
end
section
variable {prog:Program}{w:World}{A:Around}{E:Value→Shared→Prop}{s:Shared}{d:Addr}{o:Obj}{es:Array DictEntry}{ep:Nat}{xs:List T3}
end
section
variable {K:PySem.W.Frag}
end
structure KeyD (P:Program)(w:World)(K:PySem.W.Frag)(mg:Str→Option Value)(x:Str):Prop where
 ex:∃ f:Addr,mg x=some (.ref f)∧PySem.W.keepIn K (.ref f)=true∧∀ (A:Around) (s:Shared) (a:Addr) (v0:Value) (its:List Value),K.In s.heap→s.heap.NoLimit→A.depth<recursionLimit→IsTup s.heap a (v0::its).toArray →
  wpAny (model P w) A (call (.ref f) [.ref a]) (fun v s'=>v=v0∧∃ h' tk,s'={ s with heap:=h',toks:=tk }∧∀ b o,s.heap.get? b=some o→h'.get? b=some o) (fun _ _=>False) s
def keyB:D→Bool
 | .int _=>true
 | .tup ds=>ds.all fun d=>match d with
  | .int _=>true
  | _=>false
 | _=>false
def fstP:D→PyData
 | .tup (k::_)=>pyD k
 | _=>.none
def fstB:D→Bool
 | .tup (k::_)=>keyB k
 | _=>false
section
variable {K:PySem.W.Frag}
def dSort0:List DV→Mem→Res R:=d1 fun x μ=>match (asL μ x).bind allDat with
 | some ds=>if ds.all fstB=true∧alikeB (ds.map fstP)=true∧sortableB (ds.map fstP)=true then .ok (.nl ((ds.mergeSort (PySem.W.dataLe false fstP)).map DV.dat)) μ else .bad
 | none=>.bad
def eSortF (f:EM):EM:=fun δ μ=>(frzV f δ μ).bind fun x μ1=>dSort0 [x] μ1
theorem l_sortF {QR:R→Mem→Prop}{E:Xc→Mem→Prop}{μ:Mem}{δ:Env}{fe:EM}(h:Sat (frzV fe δ μ) (fun x μ1=>∃ ds,(asL μ1 x).bind allDat=some ds∧(ds.all fstB=true∧alikeB (ds.map fstP)=true∧sortableB (ds.map fstP)=true)∧QR (.nl ((ds.mergeSort (PySem.W.dataLe false fstP)).map DV.dat)) μ1) E):Sat (eSortF fe δ μ) QR E:=by
 refine sat_bind (h.mono (fun x m q=>?_) fun _ _ q=>q)
 obtain⟨ds,q1,q2,q3⟩:=q
 unfold dSort0 d1
 simp only[q1]
 rw[if_pos q2];exact q3
end
section
variable {X:Cx}{cx:CXT}{k:Nat}{C g:Addr}{fd:FuncData}{ps:List Str}{sp:Sp}{E:L2.St→XK}{nm m:Str}{o e e2:Expr}{to:TE}{t:TA}{pos apos q:Pos}
end
section
variable {K:PySem.W.Frag}{W:WX}{n:Nat}{to:TE}{ta:TA}{fo:EM}{fa:AM}{nm m:Str}{F:List DV→Mem→Res R}{C g:Addr}
end
section
variable {X:Cx}{W:WX}{P:Program}{w:World}{K:PySem.W.Frag}{mg:Str→Option Value}{base:Heap}{cx:CXT}{k n:Nat}{nm m:Str}{F:List DV→Mem→Res R}{o e e2:Expr}{tA:TA}{to:TE}{fo:EM}{fA:AM}{pos apos q:Pos}
end
section
variable {K:PySem.W.Frag}
end
section
variable {QR:R→Mem→Prop}{E:Xc→Mem→Prop}{μ:Mem}{neg:Bool}{x y:DV}
end
end DL
theorem L2.Room.units65 {k:Nat}{A:PySem.Around}(r:L2.Room k A):A.units+65<PySem.cLine:=by have:=r.un;omega
set_option maxHeartbeats 2500000
namespace DL
open PySem PySem.Spec PyProof.Rows L2
section
variable {X:Cx}
end
section
variable {K:PySem.W.Frag}{W:WX}{ρ:Pm}{G H G0 H0:Hp}{μ:Mem}{σ:Slots}{δ:Env}
def Mk1 (K:PySem.W.Frag)(ρ:Pm)(G H:Hp)(D:Addr)(pre:List (Ky×DV)):Prop:=∃ xs:List T3,((∃ es,H D=some (TX D es)∧TIs K G D es xs∧xs≠[])∨(xs=[]∧H D=some (.dK [])))∧TrL K ρ G xs pre
theorem trl_mono {G':Hp}(ex:Ex G G'){xs:List T3}{kvs:List (Ky×DV)}(h:TrL K ρ G xs kvs):TrL K ρ G' xs kvs:=Paired.mapP h fun _ _ q=>⟨q.1,q.2.choose,q.2.choose_spec.1,q.2.choose_spec.2.mono ex fun _ _ z=>z⟩
theorem Mk1.mono {G' H':Hp}{D:Addr}{pre:List (Ky×DV)}(ex:Ex G G')(k:∀ o,H D=some o→H' D=some o)(h:Mk1 K ρ G H D pre):Mk1 K ρ G' H' D pre:=by
 obtain⟨xs,h1,h2⟩:=h
 refine⟨xs,?_,trl_mono ex h2⟩
 rcases h1 with⟨es,e,t,ne⟩|⟨e1,e2⟩
 ·exact .inl ⟨es,k _ e,t.up ex,ne⟩
 ·exact .inr ⟨e1,k _ e2⟩
theorem Mk1.dct {D:Addr}{pre:List (Ky×DV)}(h:Mk1 K ρ G H D pre):∃ o vs,H D=some o∧DctIs K G D o (pre.map (·.1)) vs∧DvL K ρ G vs (pre.map (·.2)):=by
 obtain⟨xs,h1,h2⟩:=h
 rcases h1 with⟨es,e,t,ne⟩|⟨rfl,e2⟩
 ·obtain⟨vs,q1,q2⟩:=dct_T ne t h2
  exact⟨_,vs,e,q1,q2⟩
 ·cases h2
  exact⟨_,[],e2,.inl ⟨[],rfl,rfl,rfl⟩,.nil⟩
end
section
variable {X:Cx}
end
section
variable {K:PySem.W.Frag}{W:WX}{ρ:Pm}{G H G0 H0:Hp}{μ:Mem}{σ:Slots}{δ:Env}
end
section
variable {X:Cx}{W:WX}{o e:Expr}{to te:TE}{f fe:EM}{apos cpos:Pos}
end
section
variable {P:Program}{w:World}{A:Around}{E:Value→Shared→Prop}{s:Shared}
end
section
variable {P:Program}{w:World}{A:Around}{E:Value→Shared→Prop}{s:Shared}{a:Addr}{S:Key→Bool}{n:Nat}
end
section
variable {X:Cx}
end
section
variable {K:PySem.W.Frag}{W:WX}{ρ:Pm}{G H:Hp}{w:World}
end
def RgS (i j k:Int):Prop:=(1≤k∧k≤1000000)∧(0≤i∧i≤1000000)∧0≤j∧j≤1000000
instance (i j k:Int):Decidable (RgS i j k):=by unfold RgS;exact inferInstance
section
variable {X:Cx}{W:WX}{a b c:Expr}{ta:TA}{fa:AM}{p p2 pos pos2:Pos}
end
section
variable {K:PySem.W.Frag}{W:WX}
end
section
variable {X:Cx}{W:WX}{e:Expr}{te:TE}{f:EM}{p p2 q pos:Pos}
end
section
variable {QR:R→Mem→Prop}{E:Xc→Mem→Prop}{δ:Env}{μ:Mem}
end
section
variable {K:PySem.W.Frag}{X:Cx}{W:WX}{pos:Pos}
end
section
variable {QR:R→Mem→Prop}{E:Xc→Mem→Prop}
end
section
variable {QR:R→Mem→Prop}{E:Xc→Mem→Prop}{μ:Mem}{ds:List D}{b:Bool}
end
section
variable {prog:Program}{w:World}{A:Around}{E:Value→Shared→Prop}{s:Shared}{K:PySem.W.Frag}{x C L f:Addr}{h₀:Heap}{m:Str→Option Value}{ox:Obj}{od:Option Obj}{a:Value}{T id:String}
end
section
variable {X:Cx}{sp:Sp}{f:Addr}{fd:FuncData}{ps:List Str}{k:Nat}{C:Addr}
end
section
variable {K:PySem.W.Frag}{W:WX}{ρ:Pm}{G H:Hp}{μ:Mem}{nm:Str}{C:Addr}{F:List DV→Mem→Res R}{n:Nat}
end
section
variable {X:Cx}{W:WX}{P:Program}{w:World}{K:PySem.W.Frag}{mg:Str→Option Value}{base:Heap}{k n:Nat}{nm:Str}{F:List DV→Mem→Res R}{a b e:Expr}{ta tb te:TE}{fa fb f:EM}{p pos:Pos}
end
section
variable {QR:R→Mem→Prop}{E:Xc→Mem→Prop}{δ:Env}{μ:Mem}{nm:Str}{F:List DV→Mem→Res R}{fa fb:EM}
end
section
variable {K:PySem.W.Frag}
end
section
variable {QR:R→Mem→Prop}{E:Xc→Mem→Prop}{μ:Mem}{n:Nat}{kvs:List (Ky×DV)}
end
structure FnGH (P:Program)(w:World)(K:PySem.W.Frag)(mg:Str→Option Value)(base:Heap)(cx:CXT)(k:Nat)(f:Addr)(fd:FuncData)(ps:List Str)(sp:Sp):Prop where
 len:∀ vs H Q E,sp vs H Q E→vs.length=ps.length
 run:∀ (A:Around) (out:List PySem.Env) (s:Shared) (H:Hp) (args:Args) (us:List Value) (vs:List V) (Q:VK) (E:XK) (p:Addr×Obj),L2H.RoomH k A→A.guards=some []→L2H.PinOk out H s p→Env0 P w K mg base A out s H→BindsTo s fd args (ps.zip us)→Vals vs us →
  sp vs H Q E→codeAny (model P w) A (.call (.ref f) args) (CR cx out P w H s Q E) s
section
variable {X:Cx}{cx:CXT}{k:Nat}{f:Addr}{fd:FuncData}{ps:List Str}{sp:Sp}{E:L2.St→XK}{x:Str}{p pos:Pos}{e:Expr}{es:List Expr}{t:TA}
end
structure FnDH (P:Program)(w:World)(K:PySem.W.Frag)(mg:Str→Option Value)(base:Heap)(cx:CXT)(k:Nat)(x:Str)(n:Nat)(F:List DV→Mem→Res R):Prop where
 ar:∀ xs μ,F xs μ≠.bad→xs.length=n
 ex:∃ (f:Addr) (fd:FuncData) (ps:List Str),ps.length=n∧FnGH P w K mg base cx k f fd ps (spF K n F)∧mg x=some (.ref f)∧PySem.W.keepIn K (.ref f)=true∧Binds K fd ps []
section
variable {P:Program}{w:World}{K:PySem.W.Frag}{mg:Str→Option Value}{base:Heap}
end
section
variable {X:Cx}{W:WX}{ta:TA}{fa:AM}{e:Expr}{es:List Expr}{p pos:Pos}
end
section
end
section
variable {K:PySem.W.Frag}{W:WX}{N M M' n:Nat}{ρ ρ1:Pm}{G H G1 H1 G0 H0:Hp}{σ:Slots}{δ:Env}{μ:Mem}{ta tb te:TE}{tA:TA}{fa fb fx:XM}{f:EM}{xa:XA}{Dn:Ends}
theorem PostX.shift {r:Res DV}{Q:VK}(t:TrS M ρ G H ρ1 G1 H1)(hM:M≤M')(hp:PostX K W M ρ G H σ Q r):PostX K W M' ρ1 G1 H1 σ Q r:=by
 cases r with
 | ok x μ'=>exact fun ρ' G' H' v t2 R' d=>hp ρ' G' H' v (t.trans (t2.low hM)) R' d
 | exc x μ'=>exact fun ρ' G' H' cls d t2 R' q=>hp ρ' G' H' cls d (t.trans (t2.low hM)) R' q
 | bad=>exact hp
def xIf (ft:TM)(fa fb:XM):XM:=fun δ μ=>(ft δ μ).bind fun b μ'=>if μ.length≤μ'.length then(if b=true then fa δ μ' else fb δ μ') else .bad
theorem snd_xif {tt:TT}{ft:TM}(ht:SndT K W tt ft)(ha:SndX K W ta fa)(hb:SndX K W tb fb):SndX K W (tIf tt ta tb) (xIf ft fa fb):=fun ρ G H σ δ μ Q R E hp=>by
 unfold xIf at hp
 refine ht ρ G H σ δ μ _ R E ?_
 cases e:ft δ μ with
 | bad=>rw[e] at hp;exact hp
 | exc x μ'=>rw[e] at hp;exact fun G' H' cls d t R' q=>hp ρ G' H' cls d t.toS R' q
 | ok b μ' =>
  rw[e] at hp
  simp only[Res.bind_ok] at hp
  intro G' H' v t R' q
  subst q
  by_cases hl:μ.length≤μ'.length
  case neg=>rw[if_neg hl] at hp;exact hp.elim
  rw[if_pos hl] at hp
  cases v with
  | true=>exact ha ρ G' H' σ δ μ' Q R' (E.mono t.exG) (PostX.shift t.toS hl hp)
  | false=>exact hb ρ G' H' σ δ μ' Q R' (E.mono t.exG) (PostX.shift t.toS hl hp)
def xOp (g:DV→DV→Mem→Res R)(fa fb:XM):XM:=fun δ μ=>(fa δ μ).bind fun x μ1=>if μ.length≤μ1.length then(fb δ μ1).bind fun y μ2=>if μ.length≤μ2.length then(g x y μ2).bind fun r μ3=>(match newPl μ.length r μ3 with
 | some (z,μ4)=>.ok z μ4
 | none=>.bad) else .bad else .bad
theorem snd_xop {r:R2}{g:DV→DV→Mem→Res R}(ho:OpD K r g)(ha:SndX K W ta fa)(hb:SndX K W tb fb):SndX K W (tOp r ta tb) (xOp g fa fb):=fun ρ G H σ δ μ Q R E hp=>by
 unfold xOp at hp
 refine ha ρ G H σ δ μ _ R E ?_
 cases e:fa δ μ with
 | bad=>rw[e] at hp;exact hp
 | exc x μ'=>rw[e] at hp;exact hp
 | ok x μ1 =>
  rw[e] at hp
  simp only[Res.bind_ok] at hp
  intro ρ1 G1 H1 v t1 R1 d1
  by_cases h1:μ.length≤μ1.length
  case neg=>rw[if_neg h1] at hp;exact hp.elim
  rw[if_pos h1] at hp
  refine hb ρ1 G1 H1 σ δ μ1 _ R1 (E.up t1.exG (up_of R t1)) ?_
  cases e2:fb δ μ1 with
  | bad=>rw[e2] at hp;exact hp
  | exc x μ'=>rw[e2] at hp;exact fun ρ' G' H' cls d t2 R' q=>hp ρ' G' H' cls d (t1.trans (t2.low h1)) R' q
  | ok y μ2 =>
   rw[e2] at hp
   simp only[Res.bind_ok] at hp
   intro ρ2 G2 H2 w t2 R2 d2
   by_cases h2:μ.length≤μ2.length
   case neg=>rw[if_neg h2] at hp;exact hp.elim
   rw[if_pos h2] at hp
   have T2:=t1.trans (t2.low h1)
   refine ho W ρ2 G2 H2 σ μ2 v w x y Q R2 (d1.mono t2.exG (up_of R1 t2)) d2 ?_
   cases e3:g x y μ2 with
   | bad=>rw[e3] at hp;exact hp
   | exc z μ'=>rw[e3] at hp;exact fun G' H' cls d t3 R' q=>hp ρ2 G' H' cls d (T2.trans t3.toS) R' q
   | ok r μ3 =>
    rw[e3] at hp
    simp only[Res.bind_ok] at hp
    intro G' H' u t3 R' q
    cases e4:newPl μ.length r μ3 with
    | none=>rw[e4] at hp;exact hp.elim
    | some p =>
     obtain⟨z,μ4⟩:=p
     rw[e4] at hp
     obtain⟨ρ3,t4,R3,_,d3⟩:=newPl_ok R' (t3.toS (N:=μ.length)) q e4
     exact hp ρ3 G' H' u (T2.trans t4) R3 d3
theorem mk_core {nm:Str}{F:List DV→Mem→Res R}{n:Nat}{C:Addr}{vs:List V}{xs:List DV}{μ1:Mem}{Q:VK}(c:ClsAt K nm C)(R1:Rel K ρ G1 H1 μ1)(d1:DvL K ρ G1 vs xs)(hn:∀ xs μ,F xs μ≠.bad→xs.length=n)
  (hp1:PostG K W ρ G1 H1 σ (fun G' H'=>rpE K ρ G' H1 H') Q (mkRun F nm xs μ1)) :
  ∀ x dx,H1 x=none→H1 dx=none→dx≠x→spF K n F (.ref x::vs) (upd (upd H1 dx (.own x)) x (.ins C dx [])) (fun v H2=>v=.non∧Q (.ref x) H2) (EW W σ):=by
 intro x dx hx hdx hne
 obtain⟨Ra,Ta⟩:=R1.lay (o:=.own x) hdx
 have hx2:upd H1 dx (.own x) x=none:=by rw[upd_ne (Ne.symm hne)];exact hx
 obtain⟨Rb,Tb⟩:=Ra.lay (o:=.ins C dx []) hx2
 have e1:upd (upd H1 dx (.own x)) x (.ins C dx []) dx=some (.own x):=by rw[upd_ne hne,upd_same]
 have e2:upd (upd H1 dx (.own x)) x (.ins C dx []) x=some (.ins C dx []):=upd_same
 obtain⟨n1,n2⟩:=fresh_ne R1 hdx
 obtain⟨m1,m2⟩:=fresh_ne R1 hx
 have T0:TrS μ1.length ρ G1 H1 ρ G1 (upd (upd H1 dx (.own x)) x (.ins C dx [])):=(Ta.trans Tb).toS
 obtain⟨Rc,Tc,upc,atc⟩:=Rb.alloc (N:=μ1.length) (p:=.own) (Nat.le_refl _) T0 (by rw[e1];simp) n1 n2 hdx ⟨dx,x,by unfold addP;rw[if_pos rfl],e1⟩
 have hl:(μ1++[Pl.own]).length=μ1.length+1:=by simp
 have m3:∀ n,addP ρ μ1.length dx n≠some x:=fun n q=>by
  unfold addP at q
  by_cases e:n=μ1.length
  ·rw[if_pos e] at q;cases q;exact hne rfl
  ·rw[if_neg e] at q;exact m2 n q
 obtain⟨Rd,Td,upd_,atd⟩:=Rc.alloc (N:=μ1.length) (p:=.ins nm []) (by rw[hl];omega) Tc (by rw[e2];simp) m1 m3 hx ⟨fun _ h=>by(cases h),x,dx,C,[],μ1.length,⟨hl,by rw[hl];unfold addP;rw[if_neg (by omega),if_pos rfl]⟩,by unfold addP;rw[if_pos rfl],e2,c,e1,rfl,.nil⟩
 rw[hl] at Rd Td upd_ atd
 generalize eρ:addP (addP ρ μ1.length dx) (μ1.length+1) x=ρd at *
 have hb:F (.loc (μ1.length+1)::xs) (μ1++[.own]++[.ins nm []])≠.bad:=fun e=>by
  unfold mkRun at hp1;rw[e] at hp1;exact hp1
 have atN:ρd μ1.length=some dx:=by rw[←eρ];unfold addP;rw[if_neg (by omega),if_pos rfl]
 refine⟨by have:=hn _ _ hb;simp only[List.length_cons] at this ⊢;rw[paired_len d1];exact this,ρd,G1,_,.loc (μ1.length+1)::xs,Rd,.cons (show DvOk K ρd G1 (.ref x) (.loc (μ1.length+1)) from⟨x,rfl,atd⟩) (DvL.mono (Ex.refl _) (fun n b q=>upd_ n b (upc n b q)) d1),?_⟩
 unfold mkRun at hp1
 cases e:F (.loc (μ1.length+1)::xs) (μ1++[.own]++[.ins nm []]) with
 | bad=>exact hb e
 | exc xx μ2 =>
  rw[e] at hp1
  intro G' H' cls d t' R' q
  have TT:=Td.trans (t'.toS (N:=μ1.length))
  have z:=R'.cut μ1.length
  rw[res_back R1 TT] at z
  exact hp1 G' H' cls d (tr_back R1 TT) z q
 | ok r μ2 =>
  rw[e] at hp1
  intro G' H' v t' R' q
  match r,q,hp1 with
  | .dat .non,q,hp1 =>
   have hv:v=.non:=by cases q;rfl
   refine⟨hv,?_⟩
   have TT:=Td.trans (t'.toS (N:=μ1.length))
   have z:=R'.cut μ1.length
   rw[res_back R1 TT] at z
   have tb:=tr_back R1 TT
   simp only[mkEnd] at hp1
   match em:μ2[μ1.length+1]? with
   | none=>rw[em] at hp1;exact hp1.elim
   | some (.lst _)=>rw[em] at hp1;exact hp1.elim
   | some (.dct _)=>rw[em] at hp1;exact hp1.elim
   | some (.lkd _)=>rw[em] at hp1;exact hp1.elim
   | some (.lkl _)=>rw[em] at hp1;exact hp1.elim
   | some (.tp _)=>rw[em] at hp1;exact hp1.elim
   | some .own=>rw[em] at hp1;exact hp1.elim
   | some .gone=>rw[em] at hp1;exact hp1.elim
   | some (.ins nm' fs) =>
    rw[em] at hp1
    simp only at hp1
    cases ed:allDat (fs.map (·.2)) with
    | none=>rw[ed] at hp1;exact hp1.elim
    | some ds =>
     rw[ed] at hp1
     obtain⟨_,a,dx',C',ws,k,hk,h1,h2,c',h4,h5,h6⟩:=R'.pl _ _ em
     rw[atd] at h1;cases h1
     have hk1:k=μ1.length:=by omega
     rw[hk1,atN] at hk;cases hk.2
     have g1:G' x=none:=R'.nG _ _ atd
     have g2:G' dx=none:=R'.nG _ _ atN
     obtain⟨R3,t3,x3⟩:=z.freeze tb h2 hx g1 m2
     obtain⟨R4,t4,x4⟩:=R3.freeze t3 h4 hdx (by rw[upd_ne hne];exact g2) n2
     have el:(fs.map (·.1)).length=ds.length:=by rw[←allDat_len ed];simp
     refine hp1 _ _ _ t4 R4 (Rp.ins (C:=C') (dx:=dx) (vs:=ws) c' (by rw[upd_ne (Ne.symm hne),upd_same]) upd_same (by rw[h5,List.map_fst_zip (by omega)]) ?_)
     rw[List.map_snd_zip (by omega)]
     exact RpL.mono (x3.trans x4) (allDat_ok ed h6)
  | .dat (.bl _),q,hp1=>exact hp1.elim
  | .dat (.int _),q,hp1=>exact hp1.elim
  | .dat (.str _),q,hp1=>exact hp1.elim
  | .dat (.ty _),q,hp1=>exact hp1.elim
  | .dat (.ref _),q,hp1=>exact hp1.elim
  | .dat (.tup _),q,hp1=>exact hp1.elim
  | .dat (.lst _),q,hp1=>exact hp1.elim
  | .dat (.fro _),q,hp1=>exact hp1.elim
  | .dat (.dct _),q,hp1=>exact hp1.elim
  | .dat (.ins _ _),q,hp1=>exact hp1.elim
  | .loc _,q,hp1=>exact hp1.elim
  | .nl _,q,hp1=>exact hp1.elim
  | .nk _,q,hp1=>exact hp1.elim
def yMake (nm:Str)(F:List DV→Mem→Res R)(fa:XA):YM:=fun δ μ=>(fa δ μ).bind fun xs μ1=>mkRun F nm xs μ1
theorem snd_ymake {nm:Str}{F:List DV→Mem→Res R}{C:Addr}(c:ClsAt K nm C)(ha:SndXA K W tA xa)(hn:∀ xs μ,F xs μ≠.bad→xs.length=n):SndY K W (tMakeN K nm (spF K n F) (EW W) tA) (yMake nm F xa):=fun ρ G H σ δ μ Q R E hp=>by
 refine⟨C,c,?_⟩
 unfold yMake at hp
 refine ha ρ G H σ δ μ _ R E ?_
 cases e:xa δ μ with
 | bad=>rw[e] at hp;exact hp
 | exc x μ'=>rw[e] at hp;exact hp
 | ok xs μ1 =>
  rw[e] at hp
  simp only[Res.bind_ok] at hp
  intro ρ1 G1 H1 vs t1 R1 d1
  refine mk_core c R1 d1 hn ?_
  cases e2:mkRun F nm xs μ1 with
  | bad=>rw[e2] at hp;exact hp
  | exc x μ'=>rw[e2] at hp;exact fun G' H' cls d t R' q=>hp ρ1 G' H' cls d (t1.trans t.toS) R' q
  | ok r μ'=>rw[e2] at hp;exact fun G' H' v t R' q=>hp ρ1 G' H' v (t1.trans t.toS) R' (q.back t1.th)
def dIsiT (tab:Kd→Option Bool)(x:DV)(μ:Mem):Res R:=match tpOf x μ with
 | some _=>(match tab (.b "tuple") with
  | some b=>.ok (.dat (.bl b)) μ
  | none=>.bad)
 | none=>.bad
def dIsiB (tab:Kd→Option Bool)(x:DV)(μ:Mem):Res R:=altR (dIsi tab x μ) (dIsiT tab x μ)
theorem isiB_ok {tab:Kd→Option Bool}{ans:Value→Bool→Prop}{x:DV}{v:V}{Q:VK}(T:TabOk K tab ans)(R:Rel K ρ G H μ)(t0:Tr ρ G0 H0 G H)(d:DvOk K ρ G v x)(hp:PostG K W ρ G0 H0 σ (fun G' H'=>rpE K ρ G' H0 H') Q (dIsiB tab x μ)) :
  ∃ t b,TyZ K H v t∧ans t b∧Q (.bl b) H:=by
 unfold dIsiB altR at hp
 cases e:dIsi tab x μ with
 | ok r m=>rw[e] at hp;exact isi_ok T R t0 d (by rw[e];exact hp)
 | exc r m=>rw[e] at hp;exact isi_ok T R t0 d (by rw[e];exact hp)
 | bad =>
  rw[e] at hp
  simp only at hp
  unfold dIsiT at hp
  cases e1:tpOf x μ with
  | none=>rw[e1] at hp;exact hp.elim
  | some xs =>
   rw[e1] at hp
   simp only at hp
   obtain⟨a,vs,rfl,h2,_⟩:=tpOf_ok R d e1
   cases et:tab (.b "tuple") with
   | none=>rw[et] at hp;exact hp.elim
   | some b =>
    rw[et] at hp
    exact⟨.type "tuple",b,.inl (ty_tup h2),T.ok _ b _ et rfl,hp G H (.bl b) t0 R (Rp.bl b)⟩
theorem snd_isiB {tab:Kd→Option Bool}{c:V}{u:Value}(k:ClsV c u)(T:TabOk K tab fun t b=>PySem.W.kitOne K t u=some b)(h:SndE K W te f):SndE K W (tCB (rIsiZ K) (tCons te (tCons (tC c) tNil))) (eUn (dIsiB tab) f):=fun ρ G H σ δ μ Q R E hp=>by
 refine SndG.seq (t:=te) h.toV R E hp fun x μ1 G1 H1 v t1 R1 E1 d1 hp1=>?_
 obtain⟨t,b,h1,h2,h3⟩:=isiB_ok T R1 t1 d1 hp1
 exact⟨v,c,t,u,b,rfl,k,h1,h2,h3⟩
def dLenT (x:DV)(μ:Mem):Res R:=match tpOf x μ with
 | some xs=>.ok (.dat (.int xs.length)) μ
 | none=>.bad
theorem cd_lenT:CallD K (fun xs H Q=>∃ x n,xs=[x]∧LenV K x H n∧Q (.int (n:Nat)) H) (d1 dLenT):=cd_1 fun W ρ G H σ μ v x Q R hx hp=>by
 unfold dLenT at hp
 split at hp
 ·rename_i xs e
  obtain⟨a,vs,rfl,h2,h3⟩:=tpOf_ok R hx e
  refine⟨_,vs.length,rfl,.inr ⟨vs,h2,rfl⟩,?_⟩
  rw[paired_len h3];exact hp.okD R (.int _)
 ·exact hp.elim
def dLenB:List DV→Mem→Res R:=alt1 dLenA (d1 dLenT)
def rLenB (K:PySem.W.Frag):List V→Hp→VK→Prop:=fun xs H Q=>((∃ x n,xs=[x]∧LenV K x H n∧Q (V.int (n:Nat)) H)∨rLenK xs H Q)∨∃ x n,xs=[x]∧LenV K x H n∧Q (V.int (n:Nat)) H
theorem cd_lenB:CallD K (rLenB K) dLenB:=CallD.alt cd_lenA cd_lenT
theorem call_lenB (K:PySem.W.Frag){X:Cx}(hK:X.K=K:=by rfl):CallR X (.builtin "len") (rLenB K):=CallR.or (call_lenA K hK) (call_lenK K hK)
def xTupL (fa:XM):XM:=fun δ μ=>(fa δ μ).bind fun x μ1=>match asL μ1 x with
 | some xs=>if μ.length≤μ1.length then .ok (.loc μ1.length) (μ1++[.tp xs]) else .bad
 | none=>.bad
theorem snd_xtupl (ha:SndX K W ta fa):SndX K W (tCB (fun xs H Q=>∃ p ys,xs=[V.ref p]∧((SqL K H p ys∧∀ (l:Addr),H l=none→Q (V.ref l) (upd H l (HO.tup ys)))∨SqT K H p ys∧Q (V.ref p) H)) (tCons ta tNil)) (xTupL fa):=fun ρ G H σ δ μ Q R E hp=>by
 unfold xTupL at hp
 refine ha ρ G H σ δ μ _ R E ?_
 cases e:fa δ μ with
 | bad=>rw[e] at hp;exact hp
 | exc x μ'=>rw[e] at hp;exact hp
 | ok x μ1 =>
  rw[e] at hp
  simp only[Res.bind_ok] at hp
  intro ρ1 G1 H1 v t1 R1 d1
  cases el:asL μ1 x with
  | none=>rw[el] at hp;exact hp.elim
  | some xs =>
   rw[el] at hp
   simp only at hp
   by_cases hz:μ.length≤μ1.length
   case neg=>rw[if_neg hz] at hp;exact hp.elim
   rw[if_pos hz] at hp
   obtain⟨p,vs,rfl,h2,d2⟩:=asL_ok R1 d1 el
   refine⟨p,vs,rfl,.inl ⟨h2,fun l hn=>?_⟩⟩
   obtain⟨ρ2,t2,R2,dv⟩:=new_place (o:=.tup vs) (q:=.tp xs) R1 t1 hz hn d2 fun ρ2 up at_=>⟨DvL.below R1 d2,l,(),vs,at_,upd_same,DvL.mono (Ex.refl _) up d2⟩
   exact hp ρ2 G1 _ _ t2 R2 dv
theorem forT_ok {tb:TS}{gb:SM}{n j:Nat}{xs:List DV}{ks:List Bool}{a:Addr}(hb:SndS K W tb gb)(R:Rel K ρ G H μ)(E:EnvOk K ρ G σ δ)(hNM:N≤M)(hM:∀ n a,ρ n=some a→n<M)(hn:n<M)(ea:ρ n=some a)
  (hp:PostS K W N ρ G H Dn (forP M ks n (.tp xs) j gb xs δ μ)) :
  ∃ W':Nat→Nat→Slots→Hp→Prop,(∃ m,W' 0 m σ H)∧∀ i m σ H,W' i m σ H→((Itt K a).stop i H∧Dn.nx σ H)∨((Itt K a).go i H∧∃ Nn:Slots→Hp→Prop,(∀ σ' H',Nn σ' H'→∃ m',m'<m∧W' (i+1) m' σ' H') ∧
   ∀ v H',(Itt K a).yld i H v H'→gName j v σ H' fun σ2 H2=>tb { nx:=Nn,rt:=Dn.rt,bk:=Dn.nx,ct:=Nn } σ2 H2):=by
 refine⟨fun i m σ H=>∃ ρ1 G1 δ1 μ1,Rel K ρ1 G1 H μ1∧EnvOk K ρ1 G1 σ δ1∧(∀ n a,ρ1 n=some a→n<M)∧ρ1 n=some a∧m=xs.length-i∧i≤xs.length∧PostS K W N ρ1 G1 H Dn (forP M ks n (.tp xs) j gb (xs.drop i) δ1 μ1),
  ⟨xs.length,ρ,G,δ,μ,R,E,hM,ea,by omega,by omega,hp⟩,?_⟩
 rintro i m σ1 H1 ⟨ρ1,G1,δ1,μ1,R1,E1,hM1,ea1,em,hi,hp1⟩
 have hl:μ1[n]?=some (.tp xs):=by
  cases e:xs.drop i with
  | nil =>
   rw[e] at hp1;unfold forP at hp1
   by_cases c:μ1[n]?=some (.tp xs)
   ·exact c
   ·rw[if_neg c] at hp1;exact hp1.elim
  | cons x r =>
   rw[e] at hp1;unfold forP at hp1
   by_cases c:μ1[n]?=some (.tp xs)
   ·exact c
   ·rw[if_neg c] at hp1;exact hp1.elim
 obtain⟨_,a',_,vs,q1,q2,q3⟩:=R1.pl n _ hl
 rw[ea1] at q1
 cases q1
 have hq:SqT K H1 a vs:=.inl (.inl q2)
 have lv:vs.length=xs.length:=paired_len q3
 cases e:xs.drop i with
 | nil =>
  rw[e] at hp1;unfold forP at hp1;rw[if_pos hl] at hp1
  have hl2:xs.length≤i:=by
   have:=congrArg List.length e
   rw[List.length_drop] at this
   simp at this;omega
  exact .inl ⟨⟨vs,hq,by omega⟩,hp1 ρ1 G1 H1 σ1 (TrS.refl _ _ _ _) R1 E1⟩
 | cons x r =>
  rw[e] at hp1;unfold forP at hp1;rw[if_pos hl] at hp1
  obtain⟨hd,hds,hlt⟩:=drop_cons e
  obtain⟨u,hu,du⟩:=paired_at q3 hd
  refine .inr ⟨⟨vs,u,hq,hu⟩,fun σ' H'=>∃ m',m'<m∧_,fun σ' H' q=>q,fun v H' hy=>?_⟩
  obtain⟨rfl,hy⟩:=hy
  have e2:=hy vs hq
  rw[hu] at e2;cases e2
  refine turn_low hb hNM R1 (E1.set j du) hM1 hp1 fun ρ3 G3 H3 σ3 δ3 μ3 t3 sm R3 E3 hM3 hp3=>?_
  refine⟨xs.length-(i+1),by omega,ρ3,G3,δ3,μ3,R3,E3,hM3,by rw[sm n hn];exact ea1,rfl,hlt,?_⟩
  rw[hds];exact PostS.shift t3 hp3
noncomputable def runPT (ks:List Bool)(j:Nat)(gb:SM)(N:Nat)(δ:Env)(r:R)(μ:Mem):Out:=match r with
 | .loc n=>match μ[n]? with
  | some (.lst xs)=>if N≤μ.length then forP μ.length ks n (.lst xs) j gb xs δ μ else .bad
  | some (.tp xs)=>if N≤μ.length then forP μ.length ks n (.tp xs) j gb xs δ μ else .bad
  | _=>.bad
 | _=>.bad
noncomputable def gForPT (ks:List Bool)(f:EM)(j:Nat)(gb:SM):SM:=fun N δ μ=>lift (f δ μ) δ fun r μ'=>runPT ks j gb N δ r μ'
theorem snd_forPT {tb:TS}{gb:SM}(ks:List Bool)(j:Nat)(h:SndE K W te f)(hb:SndS K W tb gb):SndS K W (tFor (iSeq K te) (gName j) tb) (gForPT ks f j gb):=fun N ρ G H σ δ μ Dn R E hp=>by
 refine SndG.stm (t:=te) h R E hp fun r μ1 G1 H1 v t1 R1 E1 d1 hp1=>?_
 match r,d1,hp1 with
 | .dat _,_,hp1=>exact hp1.elim
 | .nk _,_,hp1=>exact hp1.elim
 | .nl _,_,hp1=>exact hp1.elim
 | .loc n,d1,hp1 =>
  obtain⟨a,rfl,ea⟩:=d1
  simp only[runPT] at hp1
  cases e:μ1[n]? with
  | none=>rw[e] at hp1;exact hp1.elim
  | some p =>
   rw[e] at hp1
   match p,e,hp1 with
   | .dct _,_,hp1=>exact hp1.elim
   | .lkd _,_,hp1=>exact hp1.elim
   | .lkl _,_,hp1=>exact hp1.elim
   | .own,_,hp1=>exact hp1.elim
   | .ins _ _,_,hp1=>exact hp1.elim
   | .gone,_,hp1=>exact hp1.elim
   | .lst xs,e,hp1 =>
    simp only at hp1
    by_cases c:N≤μ1.length
    case neg=>rw[if_neg c] at hp1;exact hp1.elim
    rw[if_pos c] at hp1
    obtain⟨_,a',vs,q1,q2,_⟩:=R1.pl n _ e
    rw[ea] at q1;cases q1
    exact⟨a,rfl,.inl ⟨⟨vs,.inl (.inl q2)⟩,forP_ok hb R1 E1 c R1.lt (R1.lt n a ea) ea (PostS.shift (t1.toS (N:=N)) hp1)⟩⟩
   | .tp xs,e,hp1 =>
    simp only at hp1
    by_cases c:N≤μ1.length
    case neg=>rw[if_neg c] at hp1;exact hp1.elim
    rw[if_pos c] at hp1
    obtain⟨_,a',_,vs,q1,q2,_⟩:=R1.pl n _ e
    rw[ea] at q1;cases q1
    exact⟨a,rfl,.inr ⟨⟨vs,.inl (.inl q2)⟩,forT_ok hb R1 E1 c R1.lt (R1.lt n a ea) ea (PostS.shift (t1.toS (N:=N)) hp1)⟩⟩
end
set_option maxHeartbeats 2000000
section
variable {K:PySem.W.Frag}{W:WX}{ρ:Pm}{G H:Hp}{σ:Slots}{δ:Env}{μ:Mem}
theorem snd_isi2B {tab:Kd→Option Bool}{te:TE}{f:EM}{c1 c2:V}{u1 u2:Value}(k1:ClsV c1 u1)(k2:ClsV c2 u2)(T:TabOk K tab fun t b=>PySem.W.kitAny K t [u1,u2]=some b)(h:SndE K W te f) :
  SndE K W (tCB (rIsiTZ K) (tCons te (tCons (tTup (tCons (tC c1) (tCons (tC c2) tNil))) tNil))) (eUn (dIsiB tab) f):=fun ρ G H σ δ μ Q R E hp=>by
 refine SndG.seq (t:=te) h.toV R E hp fun x μ1 G1 H1 v t1 R1 E1 d1 hp1=>?_
 refine⟨by show 2≤sizeLine;decide,fun p hn=>?_⟩
 obtain⟨R2,t2⟩:=R1.lay (o:=.tup [c1,c2]) hn
 obtain⟨t,b,h1,h2,h3⟩:=isiB_ok T R2 (t1.trans t2) d1 hp1
 exact⟨v,p,[c1,c2],t,[u1,u2],b,rfl,upd_same,.cons k1 (.cons k2 .nil),h1,h2,h3⟩
end
section
variable {X:Cx}{W:WX}{a b c e c1 c2:Expr}{es:List Expr}{ta tb te:TE}{tt:TT}{tA:TA}{fa fb fx:XM}{f:EM}{ft:TM}{fA:XA}{p pos p1 p2:Pos}
theorem px_if (hc:PMT X W c tt ft)(ha:PMX X W a ta fa)(hb:PMX X W b tb fb):PMX X W (.IfExp c a b pos) (tIf tt ta tb) (xIf ft fa fb):=⟨pe_ifExp hc.pe ha.pe hb.pe,snd_xif hc.sd ha.sd hb.sd⟩
theorem px_op {op:Operator}{r:R2}{g:DV→DV→Mem→Res R}(ho:OpR X (binaryOp op) r)(hd:OpD X.K r g)(ha:PMX X W a ta fa)(hb:PMX X W b tb fb):PMX X W (.BinOp a op b pos) (tOp r ta tb) (xOp g fa fb):=⟨pe_op ho ha.pe hb.pe,snd_xop hd ha.sd hb.sd⟩
theorem px_addK (K:PySem.W.Frag)(ha:PMX X W a ta fa)(hb:PMX X W b tb fb)(hK:X.K=K:=by rfl):PMX X W (.BinOp a .Add b pos) (tOp (rPlus K) ta tb) (xOp dAdd fa fb):=by subst hK;exact px_op op_plus od_add ha hb
theorem pm_makeX {P:Program}{w:World}{K:PySem.W.Frag}{mg:Str→Option Value}{base:Heap}{cx:CXT}{k n:Nat}{nm:Str}{F:List DV→Mem→Res R}(Fn:MakD P w K mg base cx k nm n F)(hr:Room (k+1) X.A)(hgd:X.A.guards=some [])(hg:Gl X nm)(hx:∀ σ,PassesAt cx X σ (EW W σ))(ha:PMXA X W (e::es) tA fA)
  (h1:X.prog=P:=by rfl) (h2:X.w=w:=by rfl) (h3:X.K=K:=by rfl) (h4:X.mg=mg:=by rfl) (h5:X.base=base:=by rfl)
  (hdb:(nm==("__debug__":Str))=false:=by decide) (he:starEach (e::es) X.env=(false,eval e X.env)::starEach es X.env:=by rfl) (hpl:(backTo pos (starEach es X.env)).any (·.1)=false:=by rfl) :
  PM X W (.Call (.Name nm p) (e::es) [] pos) (tMakeN K nm (spF K n F) (EW W) tA) (eCut (yMake nm F fA)):=by
 subst h1 h2 h3 h4 h5
 obtain⟨C,f,fd,ps,hn,c,hm,G,M,hb⟩:=Fn.ex
 refine⟨⟨fun pins s σ H Q I h=>?_⟩,snd_cut (snd_ymake c ha.sd Fn.ar)⟩
 obtain⟨C',c',h⟩:=h
 cases c.uniq c'
 exact(pe_makeG M G hr hgd hg hm hb hx ha.pe hdb he hpl).run pins s σ H Q I h
theorem pm_isiB (K:PySem.W.Frag) {tab:Kd→Option Bool} {c:V} {u:Value} (hg:Gl X "isinstance") (hm:X.mg "isinstance"=none) (k:ClsV c u) (T:TabOk K tab fun t b=>PySem.W.kitOne K t u=some b) (h:PM X W e te f) (hc:PE X c1 (tC c)) (hK:X.K=K:=by rfl)
  (hs:starEach (e::[c1]) X.env=(false,eval e X.env)::starEach [c1] X.env:=by rfl) (hs1:starEach [c1] X.env=(false,eval c1 X.env)::starEach [] X.env:=by rfl) (hpl:(backTo pos (starEach [c1] X.env)).any (·.1)=false:=by rfl) :
  PM X W (.Call (.Name "isinstance" p) [e,c1] [] pos) (tCB (rIsiZ K) (tCons te (tCons (tC c) tNil))) (eUn (dIsiB tab) f):=by
 subst hK
 exact⟨(pm_isi X.K hg hm k T h hc rfl hs hs1 hpl).pe,snd_isiB k T h.sd⟩
theorem pm_isi2B (K:PySem.W.Frag) {tab:Kd→Option Bool} {a1 a2:V} {u1 u2:Value} {x1} (hg:Gl X "isinstance") (hm:X.mg "isinstance"=none) (k1:ClsV a1 u1) (k2:ClsV a2 u2) (T:TabOk K tab fun t b=>PySem.W.kitAny K t [u1,u2]=some b) (h:PM X W e te f) (hc1:PE X c1 (tC a1)) (hc2:PE X c2 (tC a2)) (hK:X.K=K:=by rfl)
  (hs:starEach (e::[.Tuple [c1,c2] x1 p1]) X.env=(false,eval e X.env)::starEach [.Tuple [c1,c2] x1 p1] X.env:=by rfl) (hs1:starEach [.Tuple [c1,c2] x1 p1] X.env=(false,eval (.Tuple [c1,c2] x1 p1) X.env)::starEach [] X.env:=by rfl)
  (hs2:starEach [c1,c2] X.env=(false,eval c1 X.env)::starEach [c2] X.env:=by rfl) (hs3:starEach [c2] X.env=(false,eval c2 X.env)::starEach [] X.env:=by rfl) (hpl:(backTo pos (starEach [.Tuple [c1,c2] x1 p1] X.env)).any (·.1)=false:=by rfl) :
  PM X W (.Call (.Name "isinstance" p) [e,.Tuple [c1,c2] x1 p1] [] pos) (tCB (rIsiTZ K) (tCons te (tCons (tTup (tCons (tC a1) (tCons (tC a2) tNil))) tNil))) (eUn (dIsiB tab) f):=by
 subst hK
 exact⟨(pm_isi2 X.K hg hm k1 k2 T h hc1 hc2 rfl hs hs1 hs2 hs3 hpl).pe,snd_isi2B k1 k2 T h.sd⟩
theorem px_tupl (K:PySem.W.Frag) (hg:Gl X "tuple") (hm:X.mg "tuple"=none) (h:PMX X W e te fx) (hK:X.K=K:=by rfl) (he:starEach [e] X.env=(false,eval e X.env)::starEach [] X.env:=by rfl) (hpl:(backTo pos (starEach [] X.env)).any (·.1)=false:=by rfl) :
  PMX X W (.Call (.Name "tuple" p) [e] [] pos) (tCB (fun xs H Q=>∃ p ys,xs=[V.ref p]∧((SqL K H p ys∧∀ (l:Addr),H l=none→Q (V.ref l) (upd H l (HO.tup ys)))∨SqT K H p ys∧Q (V.ref p) H)) (tCons te tNil)) (xTupL fx):=by
 subst hK
 exact⟨pe_callTy (call_tuple_ofK X.K) hg hm (by decide +kernel) (pa_cons h.pe pa_nil he) (by decide) (by decide) he hpl,snd_xtupl h.sd⟩
theorem sm_forPT (K:PySem.W.Frag){x:Str}{itr:Expr}{te:TE}{f:EM}{body:List Stmt}{t:TS}{g:SM}(ks:List Bool)(j:Nat)(hN:X.N.Nodup)(hp:PassesOwn (model X.prog X.w) X.A X.env X.xe)(hc:X.calm=true)(hi:PM X W itr te f)(hb:PSMs X W body t g)
  (hK:X.K=K:=by rfl) (hj:X.N[j]?=some x:=by rfl) (hx:Loc X.env.scope x:=by first|exact Or.inl rfl|exact Or.inr rfl)
  (hf:X.fn x=true∨X.env.scope.names.lookup x=some .local:=by first|exact .inl rfl|exact .inr rfl)
  (hs:∀ (x:Value),foldedSetIterable itr X.env x=pure x:=by intro _;rfl):PSM X W (.For (.Name x p) itr body [] pos) (tFor (iSeq K te) (gName j) t) (gForPT ks f j g):=by
 subst hK
 exact⟨ps_for hp hc (pi_seq hi.pe) (pg_name hN hj hx hf) hb.ps hs,snd_forPT ks j hi.sd hb.sd⟩
end
section
variable {QR:R→Mem→Prop}{QV:DV→Mem→Prop}{QA:List DV→Mem→Prop}{E:Xc→Mem→Prop}{μ:Mem}{δ:Env}{N M n:Nat}{P:PO}
theorem x_xif {ft:TM}{fa fb:XM}(h:Sat (ft δ μ) (fun b μ1=>μ.length≤μ1.length∧(if b=true then Sat (fa δ μ1) QV E else Sat (fb δ μ1) QV E)) E):Sat (xIf ft fa fb δ μ) QV E:=by
 refine sat_bind (h.mono (fun b m q=>?_) fun _ _ q=>q)
 rw[if_pos q.1]
 cases b with
 | true=>exact q.2
 | false=>exact q.2
theorem x_xop {g:DV→DV→Mem→Res R}{fa fb:XM}(h:Sat (fa δ μ) (fun x μ1=>μ.length≤μ1.length∧Sat (fb δ μ1) (fun y μ2=>μ.length≤μ2.length∧Sat (g x y μ2) (fun r μ3=>NpK μ.length r μ3 QV) E) E) E):Sat (xOp g fa fb δ μ) QV E:=by
 refine sat_bind (h.mono (fun x m q=>?_) fun _ _ q=>q)
 rw[if_pos q.1]
 refine sat_bind (q.2.mono (fun y m2 q2=>?_) fun _ _ q=>q)
 rw[if_pos q2.1]
 refine sat_bind (q2.2.mono (fun r m3 q3=>?_) fun _ _ q=>q)
 unfold NpK at q3
 cases e:newPl μ.length r m3 with
 | none=>rw[e] at q3;exact q3.elim
 | some p=>rw[e] at q3;exact q3
theorem x_ymake {nm:Str}{F:List DV→Mem→Res R}{fa:XA}(h:Sat (fa δ μ) (fun xs μ1=>Sat (F (.loc (μ1.length+1)::xs) (μ1++[.own]++[.ins nm []])) (MkK μ1.length fun r μ2=>Sat (closeR μ.length r μ2) QR E) (fun x μ2=>E x ((μ2.take μ1.length).take μ.length))) (fun x μ2=>E x (μ2.take μ.length))):Sat (eCut (yMake nm F fa) δ μ) QR E:=by
 unfold eCut yMake
 cases e:fa δ μ with
 | bad=>rw[e] at h;exact h
 | exc x m=>rw[e] at h;exact h
 | ok xs m =>
  rw[e] at h
  simp only[Res.bind_ok]
  have h:Sat (F _ _) _ _:=h
  unfold mkRun
  cases e2:F (.loc (m.length+1)::xs) (m++[.own]++[.ins nm []]) with
  | ok r μ2 =>
   rw[e2] at h
   obtain⟨nm',gs,ds,rfl,e3,e4,q⟩:=h
   simp only[mkEnd,e3,e4];exact q
  | exc x μ2=>rw[e2] at h;exact h
  | bad=>rw[e2] at h;exact h
theorem w_isiB {tab:Kd→Option Bool}{x:DV}(h:Sat (dIsi tab x μ) QR E):Sat (dIsiB tab x μ) QR E:=sat_alt h
theorem l_isiTp {tab:Kd→Option Bool} {xs:List DV} {b:Bool} (e:μ[n]?=some (.tp xs)) (e2:tab (.b "tuple")=some b) (h:QR (.dat (.bl b)) μ):Sat (dIsiB tab (.loc n) μ) QR E:=by
 have e0:dIsi tab (.loc n) μ=.bad:=by unfold dIsi kindOf;simp only[e]
 refine sat_altR e0 ?_
 have e1:tpOf (.loc n) μ=some xs:=by unfold tpOf;simp only[e]
 unfold dIsiT
 rw[e1];simp only;rw[e2];exact h
theorem w_lenB {xs:List DV}(h:Sat (dLenA xs μ) QR E):Sat (dLenB xs μ) QR E:=sat_alt h
theorem l_lenTp {xs:List DV}(e:μ[n]?=some (.tp xs))(h:QR (.dat (.int xs.length)) μ):Sat (dLenB [.loc n] μ) QR E:=by
 have e1:tpOf (.loc n) μ=some xs:=by unfold tpOf;simp only[e]
 have e0:dLenA [.loc n] μ=.bad:=by
  have z1:asS μ (.loc n)=none:=by unfold asS asL asT;simp only[e];rfl
  have z2:dctOf (.loc n) μ=none:=by unfold dctOf;simp only[e]
  unfold dLenA alt1 d1 dLen dLenK
  simp only[z1,z2];rfl
 refine sat_altR e0 ?_
 show Sat (dLenT (.loc n) μ) QR E
 unfold dLenT
 rw[e1];exact h
theorem x_xtupl {fa:XM}(h:Sat (fa δ μ) (fun x μ1=>μ.length≤μ1.length∧∃ xs,asL μ1 x=some xs∧QV (.loc μ1.length) (μ1++[.tp xs])) E):Sat (xTupL fa δ μ) QV E:=by
 refine sat_bind (h.mono (fun x m q=>?_) fun _ _ q=>q)
 obtain⟨q1,xs,e,q2⟩:=q
 rw[e];simp only;rw[if_pos q1];exact q2
theorem s_forPT {ks:List Bool}{f:EM}{j:Nat}{gb:SM}(h:Sat (f δ μ) (fun r μ'=>∃ n p xs,r=.loc n∧(p=.lst xs∨p=.tp xs)∧μ'[n]?=some p∧N≤μ'.length∧SatS (forP μ'.length ks n p j gb xs δ μ') P) (fun x μ=>P.ex x δ μ)):SatS (gForPT ks f j gb N δ μ) P:=by
 refine sat_lift (h.mono (fun r m q=>?_) fun _ _ q=>q)
 obtain⟨n,p,xs,rfl,hp,e,hN,q⟩:=q
 rcases hp with rfl|rfl
 ·show SatS (match m[n]? with|some (.lst xs)=>_|some (.tp xs)=>_|_=>_) P
  rw[e];simp only;rw[if_pos hN];exact q
 ·show SatS (match m[n]? with|some (.lst xs)=>_|some (.tp xs)=>_|_=>_) P
  rw[e];simp only;rw[if_pos hN];exact q
end
section
variable {P:Program}{w:World}{K:PySem.W.Frag}{mg:Str→Option Value}{base:Heap}
end
section
variable {prog:Program}{w:World}{A:Around}{E:Value→Shared→Prop}{s:Shared}
end
section
variable {X:Cx}{e st:Expr}{te ts:TE}{pos p2:Pos}
end
section
variable {K:PySem.W.Frag}{W:WX}{ρ:Pm}{G H:Hp}
end
section
variable {QR:R→Mem→Prop}{E:Xc→Mem→Prop}{μ:Mem}{δ:Env}{P:PO}{N:Nat}
theorem s_raise0 {nm:Str}(h:P.ex ⟨nm,[]⟩ δ μ):SatS (gRaise0 nm N δ μ) P:=h
theorem x_isE0 {i:Nat}{a C d:Addr}{tab:List (Str×Bool)}{nm:Str}{b:Bool}(e:δ[i]?=some (some (.dat (.err a C d nm []))))(hb:tab.lookup nm=some b)(h:QR (.dat (.bl b)) μ):Sat (eIsE0 i a C tab δ μ) QR E:=by
 unfold eIsE0 errAt0
 simp only[e,and_self,if_true,hb]
 exact h
def TryE (cat:List (Str×Bool))(i:Nat)(gs:Addr→Addr→Addr→SM)(gs0:Addr→Addr→SM)(N:Nat)(P:PO)(x:Xc)(δ:Env)(μ:Mem):Prop :=
 cat.lookup x.nm=some true∧((x.fs≠[]∧∃ o,(∀ a C d,SatS (gs a C d N (δ.set i (some (.dat (.err a C d x.nm x.fs)))) μ) (IsP o))∧SatS (unset i o) P) ∨
  (x.fs=[]∧∃ o,(∀ a C,SatS (gs0 a C N (δ.set i (some (.dat (.err a C 0 x.nm [])))) μ) (IsP o))∧SatS (unset i o) P))
theorem s_tryE {cat:List (Str×Bool)}{i:Nat}{gb:SM}{gs:Addr→Addr→Addr→SM}{gs0:Addr→Addr→SM}(h:SatS (gb N δ μ) { P with ex:=fun x δ' μ'=>TryE cat i gs gs0 N P x δ' μ' }):SatS (gTryE cat i gb gs gs0 N δ μ) P:=by
 unfold gTryE
 cases e:gb N δ μ with
 | exc x δ' μ' =>
  rw[e] at h
  obtain⟨h1,h2⟩:=h
  simp only[h1]
  rcases h2 with⟨h2,o,h3,h4⟩|⟨h2,o,h3,h4⟩
  ·rw[if_pos h2,suiteOut_of fun a C d=>isP (h3 a C d)]
   exact h4
  ·rw[if_neg (fun z=>z h2),suiteOut_of fun a C _=>isP (h3 a C)]
   exact h4
 | next _ _=>rw[e] at h;exact h
 | ret _ _=>rw[e] at h;exact h
 | brk _ _=>rw[e] at h;exact h
 | cnt _ _=>rw[e] at h;exact h
 | bad=>rw[e] at h;exact h
end
def letters:Str:="abcdefghijklmnopqrstuvwxyz"
def nameB (s:Str):Bool:=decide (1≤s.length∧s.length≤8)&&s.cps.toList.all fun c=>decide (c∈letters.cps.toList)
structure DdOk (as os:List Str)(xs:List Sp1):Prop where
 nd:as.Nodup
 nm:∀ s∈as++os,nameB s=true∧PyData.strOk s=true∧s.cps.size≤16
 a1:1≤as.length
 a3:as.length≤3
 o2:os.length≤2
 x1:1≤xs.length
 x8:xs.length≤8
 st:∀ x∈xs,StOk false (as++os) x
theorem menu_name:∀ s∈menu,nameB s=true:=by decide +kernel
theorem StOk.wide {b:Bool}{ss:List Str}{x:Sp1}(h:StOk b ss x):StOk false ss x:=⟨h.word,h.sh,h.ot⟩
theorem DeedOk.dd {b:Bool}{as os:List Str}{xs:List Sp1}(h:DeedOk b as os xs):DdOk as os xs :=
 ⟨(List.nodup_append.mp h.nd).1,fun s hs=>⟨menu_name s (h.me s hs),menu_fit s (h.me s hs)⟩,h.a1,h.a3,h.o2,h.x1,h.x8,fun x hx=>(h.st x hx).wide⟩
abbrev Dd:=List Str×List Sp1
def DdV (d:Dd):Prop:=∃ os,DdOk d.1 os d.2
abbrev Sd:=List (Str×Dd)
structure SdOk (sd:Sd):Prop where
 n1:1≤sd.length
 n5:sd.length≤5
 nd:(sd.map (·.1)).Nodup
 nm:∀ p∈sd,nameB p.1=true∧PyData.strOk p.1=true∧p.1.cps.size≤16
 dd:∀ p∈sd,DdV p.2
def sget (sd:Sd)(n:Str):Option Dd:=(sd.find? fun p=>decide (p.1=n)).map (·.2)
variable {sd sd':Sd}{n:Str}{d:Dd}
theorem sget_none:sget sd n=none↔∀ p∈sd,p.1≠n:=by
 unfold sget;rw[Option.map_eq_none_iff,List.find?_eq_none];simp
end DL
namespace DL
open PySem PySem.Spec PyProof.Rows L2
section
variable {as os:List Str}{xs:List Sp1}{sd:Sd}{d:Dd}{n:Str}{QR:R→Mem→Prop}{E:Xc→Mem→Prop}{μ:Mem}
def plainNames:List Str:=["give","let","put","same"]
def moreNames:List Str:=["go","gone","peek"]
theorem stock_names:∀ s∈plainNames++moreNames,nameB s=true∧PyData.strOk s=true∧s.cps.size≤16:=by decide +kernel
structure StkIn (ns:List Str)(sd:Sd):Prop where
 n5:sd.length≤5
 nd:(sd.map (·.1)).Nodup
 nm:∀ p∈sd,p.1∈ns
 dd:∀ p∈sd,DdV p.2
theorem StkIn.mono {ns ms:List Str}(h:StkIn ns sd)(hs:∀ s∈ns,s∈ms):StkIn ms sd:=⟨h.n5,h.nd,fun p hp=>hs _ (h.nm p hp),h.dd⟩
theorem StkIn.put {ns:List Str}{s:Str}(h:StkIn ns sd)(hs:s∉ns)(hl:sd.length<5)(hd:DdV d):sget sd s=none∧StkIn (ns++[s]) (sd++[(s,d)]):=by
 have e:∀ p∈sd,p.1≠s:=fun p hp z=>hs (z▸h.nm p hp)
 refine⟨sget_none.mpr e,by simp;omega,?_,fun p hp=>?_,fun p hp=>?_⟩
 ·rw[List.map_append]
  refine List.nodup_append.mpr ⟨h.nd,by simp,fun a ha b hb=>?_⟩
  obtain⟨p,hp,rfl⟩:=List.mem_map.mp ha
  simp at hb;subst hb;exact e p hp
 ·rcases List.mem_append.mp hp with q|q
  ·exact List.mem_append_left _ (h.nm p q)
  ·simp at q;subst q;simp
 ·rcases List.mem_append.mp hp with q|q
  ·exact h.dd p q
  ·simp at q;subst q;exact hd
theorem StkIn.ok {ns:List Str}(h:StkIn ns sd)(hn:sd≠[])(hs:∀ s∈ns,s∈plainNames++moreNames):SdOk sd :=
 ⟨List.length_pos_iff.mpr hn,h.n5,h.nd,fun p hp=>stock_names _ (hs _ (h.nm p hp)),h.dd⟩
end
def KdB:D→Bool
 | .non=>true
 | .bl _=>true
 | .int _=>true
 | .str _=>true
 | .tup _=>true
 | .lst _=>true
 | .dct _=>true
 | _=>false
structure Kv (d:D):Prop where
 k:KdB d=true
 s:∀ s:Str,d=.str s→s.length≤1000
structure Kt (d:D):Prop where
 v:Kv d
 l:∀ ds,d=.tup ds→ds.length≤1000
 t:∀ ds,d=.tup ds→∀ x∈ds,Kv x
theorem kb_cases {d:D}(hd:KdB d=true):d=.non∨(∃ b,d=.bl b)∨(∃ i,d=.int i)∨(∃ s,d=.str s)∨(∃ l,d=.tup l)∨(∃ l,d=.lst l)∨(∃ l,d=.dct l):=by
 cases d <;> simp[KdB] at hd <;> simp
section assoc
variable {κ α:Type}[DecidableEq κ]
def getA (l:List (κ×α))(k:κ):Option α:=(l.find? fun p=>decide (p.1=k)).map (·.2)
def putA (l:List (κ×α))(k:κ)(v:α):List (κ×α) :=
 if(l.any fun p=>decide (p.1=k))=true then l.map (fun p=>if p.1=k then(p.1,v) else p) else l++[(k,v)]
def dropA (l:List (κ×α))(k:κ):List (κ×α):=l.filter fun p=>decide (p.1≠k)
variable {l:List (κ×α)}{k j:κ}{v:α}
theorem getA_nil:getA ([]:List (κ×α)) k=none:=rfl
theorem getA_cons {p:κ×α}:getA (p::l) k=if p.1=k then some p.2 else getA l k:=by
 unfold getA;rw[List.find?_cons]
 by_cases e:p.1=k
 ·simp[e]
 ·simp[e]
theorem getA_none:getA l k=none↔∀ p∈l,p.1≠k:=by
 induction l with
 | nil=>simp[getA_nil]
 | cons p l ih =>
  rw[getA_cons]
  by_cases e:p.1=k
  ·simp[e]
  ·simp[e,ih]
theorem getA_mem (h:getA l k=some v):(k,v)∈l:=by
 induction l with
 | nil=>cases h
 | cons p l ih =>
  rw[getA_cons] at h
  by_cases e:p.1=k
  ·rw[if_pos e] at h;obtain rfl:=Option.some.inj h;subst e;simp
  ·rw[if_neg e] at h;exact List.mem_cons_of_mem _ (ih h)
theorem getA_of (hn:(l.map (·.1)).Nodup)(h:(k,v)∈l):getA l k=some v:=by
 induction l with
 | nil=>cases h
 | cons p l ih =>
  rw[List.map_cons,List.nodup_cons] at hn
  rw[getA_cons]
  rcases List.mem_cons.mp h with e|e
  ·subst e;simp
  ·rw[if_neg (fun q=>hn.1 (by rw[q];exact List.mem_map.mpr ⟨_,e,rfl⟩))];exact ih hn.2 e
theorem getA_app {m:List (κ×α)}:getA (l++m) k=(getA l k).or (getA m k):=by
 induction l with
 | nil=>simp[getA_nil]
 | cons p l ih=>rw[List.cons_append,getA_cons,getA_cons];split <;> simp[ih]
theorem getA_put:getA (putA l k v) j=if k=j then some v else getA l j:=by
 unfold putA
 by_cases h:(l.any fun p=>decide (p.1=k))=true
 ·rw[if_pos h]
  induction l with
  | nil=>simp at h
  | cons p l ih =>
   rw[List.map_cons,getA_cons,getA_cons]
   by_cases e:p.1=k
   ·simp only[e,↓reduceIte]
    by_cases q:k=j
    ·simp[q]
    ·simp only[q,↓reduceIte]
     clear ih h
     induction l with
     | nil=>rfl
     | cons p' l ih2 =>
      rw[List.map_cons,getA_cons,getA_cons]
      by_cases e2:p'.1=k
      ·simp only[e2,↓reduceIte,q,↓reduceIte];exact ih2
      ·simp only[e2,↓reduceIte];rw[ih2]
   ·simp only[e,↓reduceIte]
    have h':(l.any fun p=>decide (p.1=k))=true:=by simpa [e] using h
    rw[ih h']
    by_cases q:k=j
    ·simp only[q,↓reduceIte];rw[if_neg (by rw[←q];exact e)]
    ·simp only[q,↓reduceIte]
 ·rw[if_neg h,getA_app,getA_cons,getA_nil]
  by_cases q:k=j
  ·subst q
   have:getA l k=none:=getA_none.mpr fun p hp e=>h (List.any_eq_true.mpr ⟨p,hp,by simp[e]⟩)
   simp[this]
  ·simp[q]
theorem getA_drop:getA (dropA l k) j=if k=j then none else getA l j:=by
 unfold dropA
 induction l with
 | nil=>simp[getA_nil]
 | cons p l ih =>
  rw[List.filter_cons,getA_cons]
  by_cases e:p.1=k
  ·simp only[e,ne_eq,not_true_eq_false,decide_false,Bool.false_eq_true,↓reduceIte]
   rw[ih]
   by_cases q:k=j
   ·simp[q]
   ·simp[q]
  ·simp only[e,ne_eq,not_false_eq_true,decide_true,↓reduceIte]
   rw[getA_cons,ih]
   by_cases q:k=j
   ·subst q;simp[e]
   ·simp[q]
theorem putA_len:(putA l k v).length≤l.length+1:=by
 unfold putA;split <;> simp
theorem dropA_len:(dropA l k).length≤l.length:=List.length_filter_le _ _
theorem putA_keys:(putA l k v).map (·.1)=l.map (·.1)∨((putA l k v).map (·.1)=l.map (·.1)++[k]∧k∉l.map (·.1)):=by
 unfold putA
 by_cases h:(l.any fun p=>decide (p.1=k))=true
 ·left;rw[if_pos h,List.map_map]
  refine List.map_congr_left fun p _=>?_
  simp only[Function.comp_apply];split <;> rfl
 ·right;rw[if_neg h,List.map_append]
  refine⟨rfl,fun q=>h ?_⟩
  obtain⟨p,hp,e⟩:=List.mem_map.mp q
  exact List.any_eq_true.mpr ⟨p,hp,by simp[e]⟩
theorem putA_nodup (h:(l.map (·.1)).Nodup):((putA l k v).map (·.1)).Nodup:=by
 rcases putA_keys (l:=l) (k:=k) (v:=v) with e|⟨e,q⟩
 ·rw[e];exact h
 ·rw[e,List.nodup_append]
  refine⟨h,by simp,fun a ha b hb=>?_⟩
  rw[List.mem_singleton] at hb;subst hb;intro e;exact q (e▸ha)
theorem dropA_nodup (h:(l.map (·.1)).Nodup):((dropA l k).map (·.1)).Nodup :=
 List.Nodup.sublist (List.Sublist.map _ List.filter_sublist) h
theorem foldA_nodup (ns:List κ)(h:(l.map (·.1)).Nodup):((ns.foldl dropA l).map (·.1)).Nodup:=by
 induction ns generalizing l with
 | nil=>exact h
 | cons n ns ih=>exact ih (dropA_nodup h)
theorem foldA_len (ns:List κ):(ns.foldl dropA l).length≤l.length:=by
 induction ns generalizing l with
 | nil=>exact Nat.le_refl _
 | cons n ns ih=>exact Nat.le_trans ih dropA_len
theorem foldA_get (ns:List κ):getA (ns.foldl dropA l) j=if j∈ns then none else getA l j:=by
 induction ns generalizing l with
 | nil=>simp
 | cons n ns ih =>
  rw[List.foldl_cons,ih,getA_drop]
  by_cases a:j∈ns
  ·simp[a]
  ·by_cases b:n=j
   ·simp[b]
   ·have:¬j=n:=fun e=>b e.symm
    simp[a,b,this]
end assoc
section enc
variable {κ α:Type}[DecidableEq κ]
variable {f:κ→Ky}{g:α→D}{l:List (κ×α)}{k:κ}{v:α}
end enc
structure Sg where
 reach:List (Str×Int)
 marks:List (Int×Int)
 nums:List (Int×Int)
 plain:List (Str×Option Int)
 made:Int
 writes:Int
 copies:Int
def sg0:Sg:=⟨[],[],[],[],0,0,0⟩
def holders (st:Sg)(c:Int):List Str:=(st.reach.filter fun p=>decide (p.2=c)).map (·.1)
def takenOut (st:Sg)(c:Int):Sg:={ st with marks:=dropA st.marks c,nums:=dropA st.nums c }
def wCut:Str:="cut"
def wLost:Str:="lost"
def wIdle:Str:="idle"
def wSpoils:Str:="spoils"
def touched (ms:List Mk)(st:Sg)(c:Int)(b:Bool):Sg×List Str :=
 match stepO ms (getA st.marks c) b with
 | some j=>({ st with marks:=putA st.marks c j },[])
 | none=>(takenOut { st with reach:=(holders st c).foldl dropA st.reach } c,if holders st c≠[] then [wCut] else [])
def left (st:Sg)(c:Int):Sg×List Str :=
 if getA st.marks c=none∨holders st c≠[] then(st,[]) else(takenOut st c,[wLost])
def unR (st:Sg)(n:Str):Sg:={ st with reach:=dropA st.reach n }
def letGo (ms:List Mk)(st:Sg)(n:Str):Sg×List Str:=match getA st.reach n with
 | none=>(st,[])
 | some c=>((left (touched ms (unR st n) c false).1 c).1,(touched ms (unR st n) c false).2++(left (touched ms (unR st n) c false).1 c).2)
def leftQ (st:Sg)(n:Str):Sg×List Str:=match getA st.reach n with
 | none=>(st,[])
 | some c=>left (unR st n) c
def begin' (st:Sg)(n:Str)(v:Int):Sg :=
 { st with reach:=putA st.reach n st.made,marks:=putA st.marks st.made 0,nums:=putA st.nums st.made v,made:=st.made+1 }
def upTo (ms:List Mk)(st:Sg)(m:Str)(q:Bool):Sg×List Str:=match getA st.reach m with
 | some c=>if q=true then touched ms st c true else(st,[])
 | none=>(st,[])
def join' (st:Sg)(n m:Str):Sg:=match getA st.reach m with
 | some c=>{ st with reach:=putA st.reach n c }
 | none=>st
def shared (ms:List Mk)(st:Sg)(n m:Str)(q:Bool):Sg×List Str :=
 (join' (letGo ms (upTo ms st m q).1 n).1 n m,(upTo ms st m q).2++(letGo ms (upTo ms st m q).1 n).2)
def pln (p:List (Str×Option Int))(n:Str):Option Int:=(getA p n).getD none
def putP (st:Sg)(n:Str)(v:Option Int):Sg:={ st with plain:=putA st.plain n v }
def wPl (p:List (Str×Option Int))(w:Int)(n:Str):List (Str×Option Int):=if(pln p n).isSome=true then putA p n (some w) else p
def wr1 (st:Sg)(n:Str):Sg:={ st with writes:=st.writes+1,plain:=wPl st.plain (st.writes+1) n }
def copyAt (ms:List Mk)(st:Sg)(c:Int):Bool:=match getA st.marks c with
 | some i=>match ms[i.toNat]? with
  | some m=>m.c
  | none=>false
 | none=>false
def setN (st:Sg)(n:Str):Sg:=match getA st.reach n with
 | some c=>{ st with nums:=putA st.nums c st.writes }
 | none=>st
def wr2 (ms:List Mk)(st:Sg)(n:Str)(c:Int):Sg×List Str :=
 if copyAt ms st c=true then(setN { begin' (letGo ms st n).1 n 0 with copies:=(letGo ms st n).1.copies+1 } n,(if(holders st c).length=1 then [wIdle] else [])++(letGo ms st n).2)
 else(setN st n,if(holders st c).length=1 then [] else [wSpoils])
def written (ms:List Mk)(st:Sg)(n:Str):Sg×List Str:=match getA (wr1 st n).reach n with
 | none=>(wr1 st n,[])
 | some c=>wr2 ms (wr1 st n) n c
def moreLess (ms:List Mk)(st:Sg)(n:Str)(b:Bool):Sg×List Str:=match getA st.reach n with
 | none=>(st,[])
 | some c=>touched ms st c b
def n0 (ns:List Str):Str:=ns.getD 0 ""
def n1 (ns:List Str):Str:=ns.getD 1 ""
def done (ms:List Mk)(st:Sg)(x:Sp1):Sg×List Str :=
 if x.1="share"∨x.1="hold" then shared ms (putP st (n0 x.2) (pln st.plain (n1 x.2))) (n0 x.2) (n1 x.2) (decide (x.1="share"))
 else if x.1="write" then written ms st (n0 x.2)
 else if x.1="leave" then leftQ (putP st (n0 x.2) none) (n0 x.2)
 else if x.1="more"∨x.1="less" then moreLess ms st (n0 x.2) (decide (x.1="more"))
 else if x.1="new" then(begin' (letGo ms (putP st (n0 x.2) (some 0)) (n0 x.2)).1 (n0 x.2) 0,(letGo ms (putP st (n0 x.2) (some 0)) (n0 x.2)).2)
 else if x.1="end" then letGo ms (putP st (n0 x.2) none) (n0 x.2)
 else letGo ms st (n0 x.2)
theorem w_ne1:wSpoils≠wCut:=by decide
theorem w_ne2:wCut≠wLost:=by decide
theorem w_ne3:wSpoils≠wLost:=by decide
variable {ms:List Mk}{st st' s1 s2:Sg}{c:Int}{b q:Bool}{n m:Str}{ws:List Str}{v:Option Int}
structure Wf (ms:List Mk)(st:Sg):Prop where
 nd:(st.reach.map (·.1)).Nodup
 ce:∀ n c,getA st.reach n=some c→(getA st.marks c).isSome=true∧c<st.made
 km:∀ c,(getA st.marks c).isSome=(getA st.nums c).isSome
 rg:∀ c i,getA st.marks c=some i→0≤i∧i<ms.length
structure Kp (a b:Sg):Prop where
 sub:∀ m c,getA b.reach m=some c→getA a.reach m=some c
 nums:∀ m c,getA b.reach m=some c→getA b.nums c=getA a.nums c
 pl:b.plain=a.plain
 wr:b.writes=a.writes
 md:b.made=a.made
theorem Kp.refl (a:Sg):Kp a a:=⟨fun _ _ h=>h,fun _ _ _=>rfl,rfl,rfl,rfl⟩
theorem Kp.trans {a b c:Sg}(h:Kp a b)(k:Kp b c):Kp a c :=
 ⟨fun m x e=>h.sub m x (k.sub m x e),fun m x e=>(k.nums m x e).trans (h.nums m x (k.sub m x e)),k.pl.trans h.pl,k.wr.trans h.wr,k.md.trans h.md⟩
theorem Kp.none {a b:Sg}(h:Kp a b)(e:getA a.reach m=none):getA b.reach m=none:=by
 cases q:getA b.reach m with
 | none=>rfl
 | some c=>rw[h.sub m c q] at e;cases e
theorem holders_mem (h:Wf ms st):n∈holders st c↔getA st.reach n=some c:=by
 unfold holders
 rw[List.mem_map]
 constructor
 ·rintro ⟨⟨k,d⟩,hp,rfl⟩
  rw[List.mem_filter] at hp
  have:=of_decide_eq_true hp.2
  simp only at this;subst this
  exact getA_of h.nd hp.1
 ·intro e
  exact⟨(n,c),List.mem_filter.mpr ⟨getA_mem e,by simp⟩,rfl⟩
theorem holders_nodup (h:Wf ms st):(holders st c).Nodup:=by
 unfold holders
 exact List.Nodup.sublist (List.Sublist.map _ List.filter_sublist) h.nd
theorem stepO_rg (hms:MsOk ms)(h:Wf ms st){j:Int}(e:stepO ms (getA st.marks c) b=some j):0≤j∧j<ms.length:=by
 have:InR ms.length (stepO ms (getA st.marks c) b):=step_in hms (fun i q=>h.rg c i q)
 exact this j e
theorem take_wf (h:Wf ms st)(hc:∀ n,getA st.reach n≠some c):Wf ms (takenOut st c):=by
 refine⟨h.nd,fun n d e=>?_,fun d=>?_,fun d i e=>?_⟩
 ·have:c≠d:=fun q=>hc n (by rw[q];exact e)
  refine⟨?_,(h.ce n d e).2⟩
  show(getA (dropA st.marks c) d).isSome=true
  rw[getA_drop,if_neg this];exact(h.ce n d e).1
 ·show(getA (dropA st.marks c) d).isSome=(getA (dropA st.nums c) d).isSome
  rw[getA_drop,getA_drop];split
  ·rfl
  ·exact h.km d
 ·have e:getA (dropA st.marks c) d=some i:=e
  rw[getA_drop] at e;split at e
  ·cases e
  ·exact h.rg d i e
theorem take_kp (hc:∀ n,getA st.reach n≠some c):Kp st (takenOut st c):=by
 refine⟨fun _ _ e=>e,fun m d e=>?_,rfl,rfl,rfl⟩
 show getA (dropA st.nums c) d=_
 rw[getA_drop,if_neg (fun q=>hc m (by rw[q];exact e))]
theorem fold_wf (ns:List Str)(h:Wf ms st):Wf ms { st with reach:=ns.foldl dropA st.reach }:=by
 refine⟨foldA_nodup ns h.nd,fun n d e=>?_,h.km,h.rg⟩
 have e:getA (ns.foldl dropA st.reach) n=some d:=e
 rw[foldA_get] at e;split at e
 ·cases e
 ·exact h.ce n d e
theorem fold_kp (ns:List Str):Kp st { st with reach:=ns.foldl dropA st.reach }:=by
 refine⟨fun m d e=>?_,fun _ _ _=>rfl,rfl,rfl,rfl⟩
 have e:getA (ns.foldl dropA st.reach) m=some d:=e
 rw[foldA_get] at e;split at e
 ·cases e
 ·exact e
theorem fold_no (h:Wf ms st)(n:Str):getA ((holders st c).foldl dropA st.reach) n≠some c:=by
 rw[foldA_get];split
 ·simp
 ·rename_i q;intro e;exact q ((holders_mem h).mpr e)
theorem unR_wf (h:Wf ms st):Wf ms (unR st n):=fold_wf [n] h
theorem unR_kp:Kp st (unR st n):=fold_kp [n]
theorem unR_n:getA (unR st n).reach n=none:=by show getA (dropA st.reach n) n=none;rw[getA_drop,if_pos rfl]
theorem unR_m (h:m≠n):getA (unR st n).reach m=getA st.reach m:=by
 show getA (dropA st.reach n) m=_;rw[getA_drop,if_neg (fun q=>h q.symm)]
theorem touched_wf (hms:MsOk ms)(h:Wf ms st)(hc:(getA st.marks c).isSome=true):Wf ms (touched ms st c b).1:=by
 unfold touched
 cases e:stepO ms (getA st.marks c) b with
 | none=>exact take_wf (fold_wf _ h) (fold_no h)
 | some j =>
  refine⟨h.nd,fun n d q=>⟨?_,(h.ce n d q).2⟩,fun d=>?_,fun d i q=>?_⟩
  ·show(getA (putA st.marks c j) d).isSome=true
   rw[getA_put];split
   ·rfl
   ·exact(h.ce n d q).1
  ·show(getA (putA st.marks c j) d).isSome=_
   rw[getA_put];split
   ·rename_i q;subst q;rw[←h.km,hc];rfl
   ·exact h.km d
  ·have q:getA (putA st.marks c j) d=some i:=q
   rw[getA_put] at q;split at q
   ·obtain rfl:=Option.some.inj q;exact stepO_rg hms h e
   ·exact h.rg d i q
theorem touched_kp (h:Wf ms st):Kp st (touched ms st c b).1:=by
 unfold touched
 cases e:stepO ms (getA st.marks c) b with
 | none=>exact(fold_kp _).trans (take_kp (fold_no h))
 | some j=>exact⟨fun _ _ q=>q,fun _ _ _=>rfl,rfl,rfl,rfl⟩
theorem touched_nc (h:Wf ms st)(hw:wCut∉(touched ms st c b).2)(m:Str):getA (touched ms st c b).1.reach m=getA st.reach m:=by
 unfold touched at hw ⊢
 cases e:stepO ms (getA st.marks c) b with
 | none =>
  rw[e] at hw;simp only at hw ⊢
  by_cases k:holders st c=[]
  ·show getA ((holders st c).foldl dropA st.reach) m=_
   rw[k];rfl
  ·rw[if_pos k] at hw;simp at hw
 | some j=>rfl
theorem touched_cut (h:Wf ms st)(hw:wCut∈(touched ms st c b).2):∃ m,getA st.reach m=some c∧getA (touched ms st c b).1.reach m=none:=by
 unfold touched at hw ⊢
 cases e:stepO ms (getA st.marks c) b with
 | none =>
  rw[e] at hw;simp only at hw ⊢
  by_cases k:holders st c=[]
  ·rw[if_neg (by simp[k])] at hw;cases hw
  ·obtain⟨m,hm⟩:=List.exists_mem_of_ne_nil _ k
   refine⟨m,(holders_mem h).mp hm,?_⟩
   show getA ((holders st c).foldl dropA st.reach) m=none
   rw[foldA_get,if_pos hm]
 | some j=>rw[e] at hw;cases hw
theorem touched_sp:wSpoils∉(touched ms st c b).2:=by
 unfold touched
 cases e:stepO ms (getA st.marks c) b with
 | none=>simp only;split <;> simp[w_ne1]
 | some j=>simp
theorem left_wf (h:Wf ms st):Wf ms (left st c).1:=by
 unfold left;split
 ·exact h
 ·rename_i q
  refine take_wf h fun n e=>q (Or.inr fun k=>?_)
  have:=(holders_mem h).mpr e
  rw[k] at this;cases this
theorem left_kp (h:Wf ms st):Kp st (left st c).1:=by
 unfold left;split
 ·exact Kp.refl _
 ·rename_i q
  refine take_kp fun n e=>q (Or.inr fun k=>?_)
  have:=(holders_mem h).mpr e
  rw[k] at this;cases this
theorem left_r:(left st c).1.reach=st.reach:=by unfold left;split <;> rfl
theorem left_w:wCut∉(left st c).2∧wSpoils∉(left st c).2:=by unfold left;split <;> simp[w_ne2,w_ne3]
theorem letGo_wf (hms:MsOk ms)(h:Wf ms st):Wf ms (letGo ms st n).1:=by
 unfold letGo
 cases e:getA st.reach n with
 | none=>exact h
 | some c=>exact left_wf (touched_wf hms (unR_wf h) (h.ce n c e).1)
theorem letGo_kp (hms:MsOk ms)(h:Wf ms st):Kp st (letGo ms st n).1:=by
 unfold letGo
 cases e:getA st.reach n with
 | none=>exact Kp.refl _
 | some c=>exact(unR_kp.trans (touched_kp (unR_wf h))).trans (left_kp (touched_wf hms (unR_wf h) (h.ce n c e).1))
theorem letGo_n (hms:MsOk ms)(h:Wf ms st):getA (letGo ms st n).1.reach n=none:=by
 unfold letGo
 cases e:getA st.reach n with
 | none=>exact e
 | some c=>simp only;rw[left_r];exact(touched_kp (unR_wf h)).none unR_n
theorem letGo_nc (h:Wf ms st)(hw:wCut∉(letGo ms st n).2)(hm:m≠n):getA (letGo ms st n).1.reach m=getA st.reach m:=by
 unfold letGo at hw ⊢
 cases e:getA st.reach n with
 | none=>rfl
 | some c =>
  rw[e] at hw;simp only at hw ⊢
  rw[left_r,touched_nc (unR_wf h) (fun q=>hw (List.mem_append_left _ q)),unR_m hm]
theorem letGo_cut (h:Wf ms st)(hw:wCut∈(letGo ms st n).2):∃ m,m≠n∧getA st.reach m≠none∧getA (letGo ms st n).1.reach m=none:=by
 unfold letGo at hw ⊢
 cases e:getA st.reach n with
 | none=>rw[e] at hw;cases hw
 | some c =>
  rw[e] at hw;simp only at hw ⊢
  rcases List.mem_append.mp hw with hw|hw
  ·obtain⟨m,e1,e2⟩:=touched_cut (unR_wf h) hw
   have hm:m≠n:=fun q=>by rw[q,unR_n] at e1;cases e1
   rw[unR_m hm] at e1
   exact⟨m,hm,by rw[e1];simp,by rw[left_r];exact e2⟩
  ·exact absurd hw left_w.1
theorem letGo_sp:wSpoils∉(letGo ms st n).2:=by
 unfold letGo
 cases e:getA st.reach n with
 | none=>simp
 | some c=>simp only;intro q;exact(List.mem_append.mp q).elim touched_sp left_w.2
theorem leftQ_wf (h:Wf ms st):Wf ms (leftQ st n).1:=by
 unfold leftQ
 cases e:getA st.reach n with
 | none=>exact h
 | some c=>exact left_wf (unR_wf h)
theorem leftQ_kp (h:Wf ms st):Kp st (leftQ st n).1:=by
 unfold leftQ
 cases e:getA st.reach n with
 | none=>exact Kp.refl _
 | some c=>exact unR_kp.trans (left_kp (unR_wf h))
theorem leftQ_n:getA (leftQ st n).1.reach n=none:=by
 unfold leftQ
 cases e:getA st.reach n with
 | none=>exact e
 | some c=>simp only;rw[left_r];exact unR_n
theorem leftQ_m (hm:m≠n):getA (leftQ st n).1.reach m=getA st.reach m:=by
 unfold leftQ
 cases e:getA st.reach n with
 | none=>rfl
 | some c=>simp only;rw[left_r];exact unR_m hm
theorem leftQ_w:wCut∉(leftQ st n).2∧wSpoils∉(leftQ st n).2:=by
 unfold leftQ
 cases e:getA st.reach n with
 | none=>simp
 | some c=>exact left_w
theorem begin_wf (hms:MsOk ms)(h:Wf ms st){z:Int}:Wf ms (begin' st n z):=by
 refine⟨putA_nodup h.nd,fun m d e=>?_,fun d=>?_,fun d i e=>?_⟩
 ·have e:getA (putA st.reach n st.made) m=some d:=e
  show(getA (putA st.marks st.made 0) d).isSome=true∧d<st.made+1
  rw[getA_put] at e ⊢
  split at e
  ·obtain rfl:=Option.some.inj e;simp;omega
  ·have:=h.ce m d e
   refine⟨?_,by omega⟩
   split
   ·rfl
   ·exact this.1
 ·show(getA (putA st.marks st.made 0) d).isSome=(getA (putA st.nums st.made z) d).isSome
  rw[getA_put,getA_put];split
  ·rfl
  ·exact h.km d
 ·have e:getA (putA st.marks st.made 0) d=some i:=e
  rw[getA_put] at e;split at e
  ·obtain rfl:=Option.some.inj e
   have:=hms.h1
   exact⟨by omega,by omega⟩
  ·exact h.rg d i e
theorem begin_n {z:Int}:getA (begin' st n z).reach n=some st.made∧getA (begin' st n z).nums st.made=some z:=by
 refine⟨?_,?_⟩
 ·show getA (putA st.reach n st.made) n=_;rw[getA_put,if_pos rfl]
 ·show getA (putA st.nums st.made z) st.made=_;rw[getA_put,if_pos rfl]
theorem begin_m {z:Int}(hm:m≠n):getA (begin' st n z).reach m=getA st.reach m:=by
 show getA (putA st.reach n st.made) m=_;rw[getA_put,if_neg (fun q=>hm q.symm)]
theorem begin_num (h:Wf ms st){z:Int}(e:getA st.reach m=some c):getA (begin' st n z).nums c=getA st.nums c:=by
 show getA (putA st.nums st.made z) c=_
 rw[getA_put,if_neg]
 have:=(h.ce m c e).2;omega
theorem setN_wf (h:Wf ms st):Wf ms (setN st n):=by
 unfold setN
 cases e:getA st.reach n with
 | none=>exact h
 | some c =>
  show Wf ms { st with nums:=putA st.nums c st.writes }
  refine⟨h.nd,h.ce,fun d=>?_,h.rg⟩
  show _=(getA (putA st.nums c st.writes) d).isSome
  rw[getA_put];split
  ·rename_i q;subst q;exact(h.ce n c e).1
  ·exact h.km d
theorem setN_r:(setN st n).reach=st.reach∧(setN st n).plain=st.plain∧(setN st n).writes=st.writes∧(setN st n).made=st.made:=by
 unfold setN;split <;> exact⟨rfl,rfl,rfl,rfl⟩
theorem setN_n (e:getA st.reach n=some c){d:Int}:getA (setN st n).nums d=if c=d then some st.writes else getA st.nums d:=by
 unfold setN;rw[e];simp only;exact getA_put
def val (st:Sg)(n:Str):Option Int:=(getA st.reach n).bind (getA st.nums)
theorem pln_put {p:List (Str×Option Int)}:pln (putA p n v) m=if n=m then v else pln p m:=by
 unfold pln;rw[getA_put];split <;> rfl
theorem pln_wPl {p:List (Str×Option Int)}{w:Int}:pln (wPl p w n) m=if n=m∧(pln p n).isSome=true then some w else pln p m:=by
 unfold wPl
 by_cases h:(pln p n).isSome=true
 ·rw[if_pos h,pln_put];simp[h]
 ·rw[if_neg h,if_neg (fun q=>h q.2)]
structure Inv (ms:List Mk)(st:Sg):Prop where
 wf:Wf ms st
 rp:∀ n,getA st.reach n≠none→(pln st.plain n).isSome=true
 pl:∀ n v,pln st.plain n=some v→v≤st.writes
 w0:0≤st.writes
def G (st:Sg):Prop:=∀ n,val st n=pln st.plain n
def BadW (ws:List Str):Prop:=wSpoils∈ws∨wCut∈ws
structure StG (ms:List Mk)(st st':Sg)(ws:List Str):Prop where
 inv:Inv ms st'
 g:G st→¬BadW ws→G st'
 s:BadW ws→∃ m,getA st.reach m≠none∧val st' m≠pln st'.plain m
structure Els (st st':Sg)(n:Str)(ws:List Str):Prop where
 sub:∀ m,m≠n→∀ c,getA st'.reach m=some c→getA st.reach m=some c
 nums:∀ m,m≠n→∀ c,getA st'.reach m=some c→getA st'.nums c=getA st.nums c
 pl:∀ m,m≠n→pln st'.plain m=pln st.plain m
 nc:wCut∉ws→∀ m,m≠n→getA st'.reach m=getA st.reach m
 ct:wCut∈ws→∃ m,m≠n∧getA st.reach m≠none∧getA st'.reach m=none
 sp:wSpoils∉ws
theorem Els.good (h:Els st st' n ws)(hi:Inv ms st)(hw:Wf ms st')(hr:getA st'.reach n≠none→(pln st'.plain n).isSome=true)(hp:∀ v,pln st'.plain n=some v→v≤st'.writes)(hl:st.writes≤st'.writes)
  (hg:G st→wCut∉ws→val st' n=pln st'.plain n):StG ms st st' ws:=by
 refine⟨⟨hw,fun m e=>?_,fun m v e=>?_,?_⟩,fun g nb m=>?_,fun hb=>?_⟩
 ·by_cases hm:m=n
  ·subst hm;exact hr e
  ·rw[h.pl m hm]
   refine hi.rp m fun q=>e ?_
   cases k:getA st'.reach m with
   | none=>rfl
   | some c=>rw[h.sub m hm c k] at q;cases q
 ·by_cases hm:m=n
  ·subst hm;exact hp v e
  ·rw[h.pl m hm] at e
   exact Int.le_trans (hi.pl m v e) hl
 ·exact Int.le_trans hi.w0 hl
 ·by_cases hm:m=n
  ·subst hm;exact hg g fun q=>nb (Or.inr q)
  ·rw[h.pl m hm,←g m]
   have e:=h.nc (fun q=>nb (Or.inr q)) m hm
   unfold val
   cases k:getA st.reach m with
   | none=>rw[k] at e;rw[e];rfl
   | some c=>rw[k] at e;rw[e];exact h.nums m hm c e
 ·rcases hb with hb|hb
  ·exact absurd hb h.sp
  ·obtain⟨m,hm,e1,e2⟩:=h.ct hb
   refine⟨m,e1,?_⟩
   rw[h.pl m hm]
   have:=hi.rp m e1
   unfold val;rw[e2]
   intro q
   have q:(none:Option Int)=pln st.plain m:=q
   rw[←q] at this;cases this
theorem putP_wf (h:Wf ms st):Wf ms (putP st n v):=⟨h.nd,h.ce,h.km,h.rg⟩
theorem letGo_els (hms:MsOk ms)(h:Wf ms st):Els st (letGo ms (putP st n v) n).1 n (letGo ms (putP st n v) n).2:=by
 have hw:=putP_wf (n:=n) (v:=v) h
 have k:=letGo_kp (n:=n) hms hw
 refine⟨fun m _ c e=>k.sub m c e,fun m _ c e=>k.nums m c e,fun m hm=>?_,fun q m hm=>letGo_nc hw q hm,fun q=>letGo_cut hw q,letGo_sp⟩
 rw[k.pl]
 show pln (putA st.plain n v) m=_
 rw[pln_put,if_neg (fun q=>hm q.symm)]
theorem end_good (hms:MsOk ms)(h:Inv ms st):StG ms st (letGo ms (putP st n none) n).1 (letGo ms (putP st n none) n).2:=by
 have hw:=putP_wf (n:=n) (v:=none) h.wf
 have k:=letGo_kp (n:=n) hms hw
 have en:=letGo_n (n:=n) hms hw
 have ep:pln (letGo ms (putP st n none) n).1.plain n=none:=by rw[k.pl];show pln (putA st.plain n none) n=_;rw[pln_put,if_pos rfl]
 refine(letGo_els hms h.wf).good h (letGo_wf hms hw) (fun q=>absurd en q) (fun v e=>?_) (Int.le_of_eq k.wr.symm) fun _ _=>?_
 ·rw[ep] at e;cases e
 ·unfold val;rw[en,ep];rfl
theorem leave_good (h:Inv ms st):StG ms st (leftQ (putP st n none) n).1 (leftQ (putP st n none) n).2:=by
 have hw:=putP_wf (n:=n) (v:=none) h.wf
 have k:=leftQ_kp (n:=n) hw
 have en:getA (leftQ (putP st n none) n).1.reach n=none:=leftQ_n
 have ep:pln (leftQ (putP st n none) n).1.plain n=none:=by rw[k.pl];show pln (putA st.plain n none) n=_;rw[pln_put,if_pos rfl]
 have el:Els st (leftQ (putP st n none) n).1 n (leftQ (putP st n none) n).2:=by
  refine⟨fun m _ c e=>k.sub m c e,fun m _ c e=>k.nums m c e,fun m hm=>?_,fun q m hm=>leftQ_m hm,fun q=>absurd q leftQ_w.1,leftQ_w.2⟩
  rw[k.pl]
  show pln (putA st.plain n none) m=_
  rw[pln_put,if_neg (fun q=>hm q.symm)]
 refine el.good h (leftQ_wf hw) (fun q=>absurd en q) (fun v e=>?_) (Int.le_of_eq k.wr.symm) fun _ _=>?_
 ·rw[ep] at e;cases e
 ·unfold val;rw[en,ep];rfl
theorem new_good (hms:MsOk ms)(h:Inv ms st):StG ms st (begin' (letGo ms (putP st n (some 0)) n).1 n 0) (letGo ms (putP st n (some 0)) n).2:=by
 have hw:=putP_wf (n:=n) (v:=some 0) h.wf
 have k:=letGo_kp (n:=n) hms hw
 have hw2:=letGo_wf (n:=n) hms hw
 have el:=letGo_els (n:=n) (v:=some 0) hms h.wf
 have ep:pln (letGo ms (putP st n (some 0)) n).1.plain n=some 0:=by rw[k.pl];show pln (putA st.plain n (some 0)) n=_;rw[pln_put,if_pos rfl]
 generalize letGo ms (putP st n (some 0)) n=z at *
 obtain⟨s2,ws⟩:=z
 simp only at *
 have el2:Els st (begin' s2 n 0) n ws:=by
  refine⟨fun m hm c e=>?_,fun m hm c e=>?_,el.pl,fun q m hm=>?_,fun q=>?_,el.sp⟩
  ·rw[begin_m hm] at e;exact el.sub m hm c e
  ·rw[begin_m hm] at e;rw[begin_num hw2 e];exact el.nums m hm c e
  ·rw[begin_m hm];exact el.nc q m hm
  ·obtain⟨m,hm,e1,e2⟩:=el.ct q
   exact⟨m,hm,e1,by rw[begin_m hm];exact e2⟩
 refine el2.good h (begin_wf hms hw2) (fun q=>?_) (fun v e=>?_) (Int.le_of_eq k.wr.symm) fun _ _=>?_
 ·show(pln s2.plain n).isSome=true
  rw[ep];rfl
 ·have e:pln s2.plain n=some v:=e
  rw[ep] at e;obtain rfl:=Option.some.inj e
  show(0:Int)≤s2.writes
  have:=h.w0;rw[k.wr];exact this
 ·unfold val;rw[begin_n.1]
  show getA (begin' s2 n 0).nums s2.made=pln s2.plain n
  rw[begin_n.2,ep]
theorem more_good (hms:MsOk ms)(h:Inv ms st):StG ms st (moreLess ms st n b).1 (moreLess ms st n b).2:=by
 unfold moreLess
 cases e:getA st.reach n with
 | none=>exact⟨h,fun g _=>g,fun hb=>by rcases hb with hb|hb <;> cases hb⟩
 | some c =>
  simp only
  have k:=touched_kp (c:=c) (b:=b) h.wf
  refine⟨⟨touched_wf hms h.wf (h.wf.ce n c e).1,fun m q=>?_,fun m v q=>?_,by rw[k.wr];exact h.w0⟩,fun g nb m=>?_,fun hb=>?_⟩
  ·rw[k.pl];exact h.rp m fun z=>q (k.none z)
  ·rw[k.pl] at q;rw[k.wr];exact h.pl m v q
  ·rw[k.pl,←g m]
   have e:=touched_nc h.wf (fun q=>nb (Or.inr q)) m
   unfold val
   cases z:getA st.reach m with
   | none=>rw[z] at e;rw[e];rfl
   | some d=>rw[z] at e;rw[e];exact k.nums m d e
  ·rcases hb with hb|hb
   ·exact absurd hb touched_sp
   ·obtain⟨m,e1,e2⟩:=touched_cut h.wf hb
    refine⟨m,by rw[e1];simp,?_⟩
    have:=h.rp m (by rw[e1];simp)
    rw[k.pl];unfold val;rw[e2]
    intro q
    have q:(none:Option Int)=pln st.plain m:=q
    rw[←q] at this;cases this
theorem upTo_wf (hms:MsOk ms)(h:Wf ms st):Wf ms (upTo ms st m q).1:=by
 unfold upTo
 cases e:getA st.reach m with
 | none=>exact h
 | some c =>
  simp only;split
  ·exact touched_wf hms h (h.ce m c e).1
  ·exact h
theorem upTo_kp (h:Wf ms st):Kp st (upTo ms st m q).1:=by
 unfold upTo
 cases e:getA st.reach m with
 | none=>exact Kp.refl _
 | some c =>
  simp only;split
  ·exact touched_kp h
  ·exact Kp.refl _
theorem upTo_nc (h:Wf ms st){x:Str}(hw:wCut∉(upTo ms st m q).2):getA (upTo ms st m q).1.reach x=getA st.reach x:=by
 unfold upTo at hw ⊢
 cases e:getA st.reach m with
 | none=>rfl
 | some c =>
  rw[e] at hw;simp only at hw ⊢;split
  ·rename_i k;rw[if_pos k] at hw;exact touched_nc h hw x
  ·rfl
theorem touched_more (hms:MsOk ms)(h:Wf ms st)(hc:(getA st.marks c).isSome=true):(touched ms st c true).2=[]:=by
 unfold touched
 obtain⟨i,e⟩:=Option.isSome_iff_exists.mp hc
 have:=h.rg c i e
 have hl:i.toNat<ms.length:=by omega
 rw[e]
 simp only[stepO,List.getElem?_eq_getElem hl,stepM,↓reduceIte]
theorem upTo_w (hms:MsOk ms)(h:Wf ms st):(upTo ms st m q).2=[]:=by
 unfold upTo
 cases e:getA st.reach m with
 | none=>rfl
 | some c =>
  simp only;split
  ·exact touched_more hms h (h.ce m c e).1
  ·rfl
theorem join_wf (h:Wf ms st):Wf ms (join' st n m):=by
 unfold join'
 cases e:getA st.reach m with
 | none=>exact h
 | some c =>
  refine⟨putA_nodup h.nd,fun x d q=>?_,h.km,h.rg⟩
  have q:getA (putA st.reach n c) x=some d:=q
  rw[getA_put] at q;split at q
  ·obtain rfl:=Option.some.inj q;exact h.ce m c e
  ·exact h.ce x d q
theorem join_s:(join' st n m).nums=st.nums∧(join' st n m).plain=st.plain∧(join' st n m).writes=st.writes:=by
 unfold join';split <;> exact⟨rfl,rfl,rfl⟩
theorem join_x {x:Str}(hx:x≠n):getA (join' st n m).reach x=getA st.reach x:=by
 unfold join'
 cases e:getA st.reach m with
 | none=>rfl
 | some c=>show getA (putA st.reach n c) x=_;rw[getA_put,if_neg (fun q=>hx q.symm)]
theorem join_n (h:getA st.reach n=none):getA (join' st n m).reach n=getA st.reach m:=by
 unfold join'
 cases e:getA st.reach m with
 | none=>exact h
 | some c=>show getA (putA st.reach n c) n=_;rw[getA_put,if_pos rfl]
theorem share_good (hms:MsOk ms)(h:Inv ms st)(hnm:m≠n):StG ms st (shared ms (putP st n (pln st.plain m)) n m q).1 (shared ms (putP st n (pln st.plain m)) n m q).2:=by
 have hw:=putP_wf (n:=n) (v:=pln st.plain m) h.wf
 have k1:=upTo_kp (m:=m) (q:=q) hw
 have hw1:=upTo_wf (m:=m) (q:=q) hms hw
 have nc1:=fun x=>upTo_nc (x:=x) hw (by rw[upTo_w (m:=m) (q:=q) hms hw];simp)
 have k2:=letGo_kp (n:=n) hms hw1
 have hw2:=letGo_wf (n:=n) hms hw1
 have en:=letGo_n (n:=n) hms hw1
 have nc2:=fun x (hx:x≠n) z=>letGo_nc (m:=x) hw1 z hx
 have ct2:=fun z=>letGo_cut (n:=n) hw1 z
 have sp2:wSpoils∉(letGo ms (upTo ms (putP st n (pln st.plain m)) m q).1 n).2:=letGo_sp
 have k:=k1.trans k2
 unfold shared
 rw[upTo_w hms hw,List.nil_append]
 generalize upTo ms (putP st n (pln st.plain m)) m q=z1 at *
 generalize letGo ms z1.1 n=z2 at *
 obtain⟨s2,ws⟩:=z2
 simp only at *
 have el:Els st (join' s2 n m) n ws:=by
  refine⟨fun x hx c e=>?_,fun x hx c e=>?_,fun x hx=>?_,fun w x hx=>?_,fun w=>?_,sp2⟩
  ·rw[join_x hx] at e;exact k.sub x c e
  ·rw[join_x hx] at e;rw[join_s.1];exact k.nums x c e
  ·rw[join_s.2.1,k.pl];show pln (putA st.plain n _) x=_;rw[pln_put,if_neg (fun q=>hx q.symm)]
  ·rw[join_x hx,nc2 x hx w];exact nc1 x
  ·obtain⟨x,hx,e1,e2⟩:=ct2 w
   refine⟨x,hx,?_,by rw[join_x hx];exact e2⟩
   rw[nc1 x] at e1;exact e1
 have ep:pln (join' s2 n m).plain n=pln st.plain m:=by
  rw[join_s.2.1,k.pl];show pln (putA st.plain n _) n=_;rw[pln_put,if_pos rfl]
 refine el.good h (join_wf hw2) (fun z=>?_) (fun v e=>?_) (by rw[join_s.2.2,k.wr];exact Int.le_refl _) fun g w=>?_
 ·rw[ep];rw[join_n en] at z
  refine h.rp m fun e=>z ?_
  exact k.none (a:=putP st n (pln st.plain m)) e
 ·rw[ep] at e;rw[join_s.2.2,k.wr];exact h.pl m v e
 ·rw[ep,←g m]
  have e1:getA s2.reach m=getA st.reach m:=(nc2 m hnm w).trans (nc1 m)
  unfold val;rw[join_n en,join_s.1,e1]
  cases e:getA st.reach m with
  | none=>rfl
  | some c=>exact k.nums m c (e1.trans e)
theorem wr1_wf (h:Wf ms st):Wf ms (wr1 st n):=⟨h.nd,h.ce,h.km,h.rg⟩
theorem write_good (hms:MsOk ms)(h:Inv ms st):StG ms st (written ms st n).1 (written ms st n).2:=by
 have hw:=wr1_wf (n:=n) h.wf
 have pm:∀ x,x≠n→pln (wr1 st n).plain x=pln st.plain x:=fun x hx=>by
  show pln (wPl st.plain (st.writes+1) n) x=_
  rw[pln_wPl,if_neg (fun q=>hx q.1.symm)]
 have hle:∀ x v,pln (wr1 st n).plain x=some v→v≤st.writes+1:=fun x v e=>by
  have e:pln (wPl st.plain (st.writes+1) n) x=some v:=e
  rw[pln_wPl] at e;split at e
  ·obtain rfl:=Option.some.inj e;exact Int.le_refl _
  ·have:=h.pl x v e;omega
 have hsm:∀ x,(pln st.plain x).isSome=true→(pln (wr1 st n).plain x).isSome=true:=fun x e=>by
  show(pln (wPl st.plain (st.writes+1) n) x).isSome=true
  rw[pln_wPl];split
  ·rfl
  ·exact e
 have hw0:=h.w0
 have er:(wr1 st n).reach=st.reach:=rfl
 unfold written
 cases e:getA (wr1 st n).reach n with
 | none =>
  refine⟨⟨hw,fun x z=>hsm x (h.rp x z),hle,by show(0:Int)≤st.writes+1;omega⟩,fun g _ x=>?_,fun hb=>by rcases hb with hb|hb <;> cases hb⟩
  by_cases hx:x=n
  ·subst hx
   have e2:getA st.reach x=none:=e
   have:=g x
   unfold val at this ⊢
   rw[e2] at this
   rw[e]
   show none=pln (wPl st.plain (st.writes+1) x) x
   rw[pln_wPl,if_neg (fun q=>by have q2:=q.2;rw[←this] at q2;cases q2)]
   exact this
  ·rw[pm x hx,←g x];rfl
 | some c =>
  have ec:getA st.reach n=some c:=e
  have pn:pln (wr1 st n).plain n=some (st.writes+1):=by
   show pln (wPl st.plain (st.writes+1) n) n=_
   rw[pln_wPl,if_pos ⟨rfl,h.rp n (by rw[ec];simp)⟩]
  simp only;unfold wr2
  split
  ·have k:=letGo_kp (n:=n) hms hw
   have hw2:=letGo_wf (n:=n) hms hw
   have en:=letGo_n (n:=n) hms hw
   have nc2:=fun x (hx:x≠n) z=>letGo_nc (m:=x) hw z hx
   have ct2:=fun z=>letGo_cut (n:=n) hw z
   have sp2:wSpoils∉(letGo ms (wr1 st n) n).2:=letGo_sp
   generalize letGo ms (wr1 st n) n=z2 at *
   obtain⟨s2,ws⟩:=z2
   simp only at *
   have hb:=begin_wf (n:=n) (z:=0) hms hw2
   have b1:getA ({ begin' s2 n 0 with copies:=s2.copies+1 }:Sg).reach n=some s2.made:=(begin_n (z:=0)).1
   have hb2:Wf ms { begin' s2 n 0 with copies:=s2.copies+1 }:=⟨hb.nd,hb.ce,hb.km,hb.rg⟩
   have hid:∀ z:List Str,(∀ x∈z,x=wIdle)→(wCut∈z++ws↔wCut∈ws)∧(wSpoils∈z++ws↔wSpoils∈ws):=fun z hz=>by
    refine⟨⟨fun q=>?_,fun q=>List.mem_append_right _ q⟩,fun q=>?_,fun q=>List.mem_append_right _ q⟩
    ·rcases List.mem_append.mp q with q|q
     ·exact absurd (hz _ q) (by decide)
     ·exact q
    ·rcases List.mem_append.mp q with q|q
     ·exact absurd (hz _ q) (by decide)
     ·exact q
   have hi:=hid (if(holders (wr1 st n) c).length=1 then [wIdle] else []) (fun x hx=>by split at hx <;> simp at hx;exact hx)
   have el:Els st (setN { begin' s2 n 0 with copies:=s2.copies+1 } n) n ((if(holders (wr1 st n) c).length=1 then [wIdle] else [])++ws):=by
    refine⟨fun x hx d q=>?_,fun x hx d q=>?_,fun x hx=>?_,fun w x hx=>?_,fun w=>?_,fun w=>sp2 (hi.2.mp w)⟩
    ·rw[setN_r.1] at q
     have q:getA (begin' s2 n 0).reach x=some d:=q
     rw[begin_m hx] at q;exact k.sub x d q
    ·rw[setN_r.1] at q
     have q:getA (begin' s2 n 0).reach x=some d:=q
     rw[begin_m hx] at q
     rw[setN_n b1,if_neg (by have:=(hw2.ce x d q).2;omega)]
     show getA (begin' s2 n 0).nums d=_
     rw[begin_num hw2 q];exact k.nums x d q
    ·rw[setN_r.2.1]
     show pln s2.plain x=_
     rw[k.pl];exact pm x hx
    ·rw[setN_r.1]
     show getA (begin' s2 n 0).reach x=_
     rw[begin_m hx,nc2 x hx (fun q=>w (hi.1.mpr q))];rfl
    ·obtain⟨x,hx,e1,e2⟩:=ct2 (hi.1.mp w)
     refine⟨x,hx,e1,?_⟩
     rw[setN_r.1]
     show getA (begin' s2 n 0).reach x=_
     rw[begin_m hx];exact e2
   have ep:pln (setN { begin' s2 n 0 with copies:=s2.copies+1 } n).plain n=some (st.writes+1):=by
    rw[setN_r.2.1]
    show pln s2.plain n=_
    rw[k.pl];exact pn
   have ew:(setN { begin' s2 n 0 with copies:=s2.copies+1 } n).writes=st.writes+1:=by
    rw[setN_r.2.2.1]
    show s2.writes=_
    rw[k.wr];rfl
   refine el.good h (setN_wf hb2) (fun _=>by rw[ep];rfl) (fun v q=>?_) (by rw[ew];omega) fun g w=>?_
   ·rw[ep] at q;obtain rfl:=Option.some.inj q;rw[ew];exact Int.le_refl _
   ·rw[ep];unfold val;rw[setN_r.1,b1]
    show getA (setN _ n).nums s2.made=_
    rw[setN_n b1,if_pos rfl]
    show some s2.writes=_
    rw[k.wr];rfl
  ·have ev:∀ x,val (setN (wr1 st n) n) x=if getA st.reach x=some c then some (st.writes+1) else val st x:=fun x=>by
    unfold val;rw[setN_r.1]
    show(getA st.reach x).bind _=_
    cases z:getA st.reach x with
    | none=>simp
    | some d =>
     show getA (setN (wr1 st n) n).nums d=_
     rw[setN_n e]
     by_cases q:c=d
     ·subst q;simp;rfl
     ·have:¬d=c:=fun w=>q w.symm
      simp[q,this];rfl
   have hinv:Inv ms (setN (wr1 st n) n):=by
    refine⟨setN_wf hw,fun x z=>?_,fun x v z=>?_,?_⟩
    ·rw[setN_r.1] at z;rw[setN_r.2.1];exact hsm x (h.rp x z)
    ·rw[setN_r.2.1] at z;rw[setN_r.2.2.1];exact hle x v z
    ·rw[setN_r.2.2.1];show(0:Int)≤st.writes+1;omega
   by_cases al:(holders (wr1 st n) c).length=1
   ·rw[if_pos al]
    refine⟨hinv,fun g _ x=>?_,fun hb=>by rcases hb with hb|hb <;> cases hb⟩
    rw[ev,setN_r.2.1]
    obtain⟨y,ey⟩:=List.length_eq_one_iff.mp al
    have hn:n∈holders (wr1 st n) c:=(holders_mem hw).mpr e
    rw[ey,List.mem_singleton] at hn;subst hn
    by_cases hx:x=n
    ·subst hx;rw[if_pos ec,pn]
    ·rw[pm x hx,if_neg]
     ·exact g x
     ·intro q
      have:x∈holders (wr1 st n) c:=(holders_mem hw).mpr q
      rw[ey,List.mem_singleton] at this;exact hx this
   ·rw[if_neg al]
    refine⟨hinv,fun _ nb=>absurd (Or.inl (by simp)) nb,fun _=>?_⟩
    have hn:n∈holders (wr1 st n) c:=(holders_mem hw).mpr e
    have nd:=holders_nodup (c:=c) hw
    have:∃ x∈holders (wr1 st n) c,x≠n:=by
     cases z:holders (wr1 st n) c with
     | nil=>rw[z] at hn;cases hn
     | cons a l =>
      cases l with
      | nil=>rw[z] at al;simp at al
      | cons a2 l =>
       rw[z] at nd
       by_cases q:a=n
       ·refine⟨a2,by simp,fun w=>?_⟩
        rw[List.nodup_cons] at nd
        exact nd.1 (by rw[q,←w];simp)
       ·exact⟨a,by simp,q⟩
    obtain⟨x,hx,hne⟩:=this
    have ex:getA st.reach x=some c:=(holders_mem hw).mp hx
    refine⟨x,by rw[ex];simp,?_⟩
    rw[ev,if_pos ex,setN_r.2.1,pm x hne]
    intro q
    have:=h.pl x _ q.symm
    omega
end DL
namespace DL
open PySem PySem.Spec PyProof.Rows L2
abbrev Td:=List (Str×Str)
def tget (td:Td)(n:Str):Option Str:=(td.find? fun p=>decide (p.1=n)).map (·.2)
section
variable {td td':Td}{n m:Str}{QR:R→Mem→Prop}{E:Xc→Mem→Prop}{μ:Mem}
theorem tget_none:tget td n=none↔∀ p∈td,p.1≠n:=by
 unfold tget;rw[Option.map_eq_none_iff,List.find?_eq_none];simp
theorem tget_mem (h:tget td n=some m):(n,m)∈td:=by
 unfold tget at h
 obtain⟨p,h1,h2⟩:=Option.map_eq_some_iff.mp h
 have a:=List.mem_of_find?_eq_some h1
 have b:=List.find?_some h1
 simp at b
 subst b;subst h2;exact a
theorem tget_of (nd:(td.map (·.1)).Nodup)(h:(n,m)∈td):tget td n=some m:=by
 induction td with
 | nil=>cases h
 | cons p td ih =>
  rw[List.map_cons,List.nodup_cons] at nd
  unfold tget
  rcases List.mem_cons.mp h with rfl|h2
  ·rw[List.find?_cons_of_pos (by simp)];rfl
  ·have:¬p.1=n:=fun e=>nd.1 (e▸List.mem_map.mpr ⟨(n,m),h2,rfl⟩)
   rw[List.find?_cons_of_neg (by simpa using this)]
   exact ih nd.2 h2
def rn (td:Td)(s:Str):Str:=(tget td s).getD ""
def rnS (f:Str→Str)(x:Sp1):Sp1:=(x.1,x.2.map f)
theorem rn_some (h:n∈td.map (·.1)):tget td n=some (rn td n):=by
 unfold rn
 cases e:tget td n with
 | none =>
  obtain⟨p,hp,rfl⟩:=List.mem_map.mp h
  exact absurd rfl (tget_none.mp e p hp)
 | some m=>rfl
def back (td:Td):Td:=td.map fun p=>(p.2,p.1)
end
variable {ms:List Mk}{st st' s1 s2:Sg}{c:Int}{b q:Bool}{n m:Str}{ws ss:List Str}{v:Option Int}{x:Sp1}{xs:List Sp1}{os:List Str}{t j:Nat}
def isDone (x:Sp1):Prop:=(two x.1=true→∃ a c,x.2=[a,c]∧a≠c)∧(two x.1=false→∃ a,x.2=[a])
theorem StOk.isDone (h:StOk b ss x):isDone x:=⟨fun q=>by obtain⟨a,c,e,n,_⟩:=h.sh q;exact⟨a,c,e,n⟩,fun q=>by obtain⟨a,e,_⟩:=h.ot q;exact⟨a,e⟩⟩
theorem two_iff (w:Str):two w=true↔w="share"∨w="hold":=by unfold two;simp
theorem done_good (hms:MsOk ms)(h:Inv ms st)(hx:isDone x)(hw:x.1∈louds++quiets):StG ms st (done ms st x).1 (done ms st x).2:=by
 unfold done
 by_cases c1:x.1="share"∨x.1="hold"
 ·rw[if_pos c1]
  obtain⟨a,c,e,hn⟩:=hx.1 ((two_iff _).mpr c1)
  rw[e]
  exact share_good hms h (fun q=>hn q.symm)
 rw[if_neg c1]
 by_cases c2:x.1="write"
 ·rw[if_pos c2];exact write_good hms h
 rw[if_neg c2]
 by_cases c3:x.1="leave"
 ·rw[if_pos c3];exact leave_good h
 rw[if_neg c3]
 by_cases c4:x.1="more"∨x.1="less"
 ·rw[if_pos c4];exact more_good hms h
 rw[if_neg c4]
 by_cases c5:x.1="new"
 ·rw[if_pos c5];exact new_good hms h
 rw[if_neg c5]
 by_cases c6:x.1="end"
 ·rw[if_pos c6];exact end_good hms h
 ·exfalso
  simp[louds,quiets] at hw
  simp only[not_or] at c1 c4
  grind
theorem Kp.some' {a b:Sg}(h:Kp a b)(e:getA b.reach m≠Option.none):getA a.reach m≠Option.none:=fun q=>e (h.none q)
theorem done_sub (hms:MsOk ms)(h:Wf ms st)(hm:m≠n0 x.2)(e:getA (done ms st x).1.reach m≠none):getA st.reach m≠none:=by
 unfold done at e
 split at e
 ·have hw:=putP_wf (n:=n0 x.2) (v:=pln st.plain (n1 x.2)) h
  unfold shared at e
  simp only at e
  rw[join_x hm] at e
  exact((upTo_kp hw).trans (letGo_kp hms (upTo_wf hms hw))).some' e
 split at e
 ·have hw:=wr1_wf (n:=n0 x.2) h
  unfold written at e
  split at e
  ·exact e
  ·unfold wr2 at e
   split at e
   ·simp only at e
    rw[setN_r.1] at e
    have e:getA (begin' (letGo ms (wr1 st (n0 x.2)) (n0 x.2)).1 (n0 x.2) 0).reach m≠none:=e
    rw[begin_m hm] at e
    exact(letGo_kp hms hw).some' e
   ·simp only at e
    rw[setN_r.1] at e;exact e
 split at e
 ·exact(leftQ_kp (putP_wf h)).some' e
 split at e
 ·unfold moreLess at e
  split at e
  ·exact e
  ·exact(touched_kp h).some' e
 split at e
 ·simp only at e
  rw[begin_m hm] at e
  exact(letGo_kp hms (putP_wf h)).some' e
 split at e
 ·exact(letGo_kp hms (putP_wf h)).some' e
 ·exact(letGo_kp hms h).some' e
structure Sz (t:Nat)(st:Sg):Prop where
 r:st.reach.length≤t
 m:st.marks.length≤t
 n:st.nums.length≤t
 p:st.plain.length≤t
theorem Sz.mono {t u:Nat}(h:Sz t st)(k:t≤u):Sz u st:=⟨Nat.le_trans h.r k,Nat.le_trans h.m k,Nat.le_trans h.n k,Nat.le_trans h.p k⟩
theorem putA_len' {κ α:Type}[DecidableEq κ]{l:List (κ×α)}{k:κ}{v:α}(h:(getA l k).isSome=true):(putA l k v).length=l.length:=by
 unfold putA
 rw[if_pos,List.length_map]
 cases e:l.any fun p=>decide (p.1=k) with
 | true=>rfl
 | false =>
  have:getA l k=none:=getA_none.mpr fun p hp q=>by
   have:=List.any_eq_false.mp e p hp
   simp[q] at this
  rw[this] at h;cases h
theorem touched_sz (hc:(getA st.marks c).isSome=true)(h:Sz t st):Sz t (touched ms st c b).1:=by
 unfold touched
 cases e:stepO ms (getA st.marks c) b with
 | none=>exact⟨Nat.le_trans (foldA_len _) h.r,Nat.le_trans dropA_len h.m,Nat.le_trans dropA_len h.n,h.p⟩
 | some j=>exact⟨h.r,by show(putA st.marks c j).length≤t;rw[putA_len' hc];exact h.m,h.n,h.p⟩
theorem left_sz (h:Sz t st):Sz t (left st c).1:=by
 unfold left;split
 ·exact h
 ·exact⟨h.r,Nat.le_trans dropA_len h.m,Nat.le_trans dropA_len h.n,h.p⟩
theorem unR_sz (h:Sz t st):Sz t (unR st n):=⟨Nat.le_trans dropA_len h.r,h.m,h.n,h.p⟩
theorem letGo_sz (hw:Wf ms st)(h:Sz t st):Sz t (letGo ms st n).1:=by
 unfold letGo
 cases e:getA st.reach n with
 | none=>exact h
 | some c=>exact left_sz (touched_sz (hw.ce n c e).1 (unR_sz h))
theorem upTo_sz (hw:Wf ms st)(h:Sz t st):Sz t (upTo ms st m q).1:=by
 unfold upTo
 cases e:getA st.reach m with
 | none=>exact h
 | some c =>
  simp only;split
  ·exact touched_sz (hw.ce m c e).1 h
  ·exact h
structure Sz1 (t:Nat)(st:Sg):Prop where
 r:st.reach.length≤t
 m:st.marks.length≤t
 n:st.nums.length≤t
theorem putP_sz (h:Sz t st):Sz (t+1) (putP st n v):=⟨by have:=h.r;show st.reach.length≤_;omega,by have:=h.m;show st.marks.length≤_;omega,by have:=h.n;show st.nums.length≤_;omega,Nat.le_trans putA_len (by have:=h.p;omega)⟩
theorem begin_sz {z:Int}(h:Sz t st):Sz (t+1) (begin' st n z):=⟨Nat.le_trans putA_len (by have:=h.r;omega),Nat.le_trans putA_len (by have:=h.m;omega),Nat.le_trans putA_len (by have:=h.n;omega),by have:=h.p;show st.plain.length≤_;omega⟩
theorem join_sz (h:Sz t st):Sz (t+1) (join' st n m):=by
 unfold join'
 cases e:getA st.reach m with
 | none=>exact h.mono (by omega)
 | some c=>exact⟨Nat.le_trans putA_len (by have:=h.r;omega),by have:=h.m;show st.marks.length≤_;omega,by have:=h.n;show st.nums.length≤_;omega,by have:=h.p;show st.plain.length≤_;omega⟩
theorem setN_sz (hw:Wf ms st)(h:Sz t st):Sz t (setN st n):=by
 unfold setN
 cases e:getA st.reach n with
 | none=>exact h
 | some c=>exact⟨h.r,h.m,by show(putA st.nums c st.writes).length≤t;rw[putA_len' (by rw[←hw.km];exact(hw.ce n c e).1)];exact h.n,h.p⟩
theorem wr1_sz (h:Sz t st):Sz (t+1) (wr1 st n):=by
 refine⟨by have:=h.r;show st.reach.length≤_;omega,by have:=h.m;show st.marks.length≤_;omega,by have:=h.n;show st.nums.length≤_;omega,?_⟩
 show(wPl st.plain (st.writes+1) n).length≤_
 have:=h.p
 unfold wPl;split
 ·exact Nat.le_trans putA_len (by omega)
 ·omega
theorem leftQ_sz (h:Sz t st):Sz t (leftQ st n).1:=by
 unfold leftQ
 cases e:getA st.reach n with
 | none=>exact h
 | some c=>exact left_sz (unR_sz h)
theorem done_sz (hms:MsOk ms)(hw:Wf ms st)(h:Sz t st):Sz (t+2) (done ms st x).1:=by
 unfold done
 split
 ·have hw':=putP_wf (n:=n0 x.2) (v:=pln st.plain (n1 x.2)) hw
  exact join_sz (letGo_sz (upTo_wf hms hw') (upTo_sz hw' (putP_sz h)))
 split
 ·have hw':=wr1_wf (n:=n0 x.2) hw
  unfold written
  split
  ·exact(wr1_sz h).mono (by omega)
  ·unfold wr2
   split
   ·have hb:=begin_wf (n:=n0 x.2) (z:=0) hms (letGo_wf (n:=n0 x.2) hms hw')
    have hs:=begin_sz (n:=n0 x.2) (z:=0) (letGo_sz (n:=n0 x.2) hw' (wr1_sz h))
    exact setN_sz (ms:=ms) ⟨hb.nd,hb.ce,hb.km,hb.rg⟩ ⟨hs.r,hs.m,hs.n,hs.p⟩
   ·exact setN_sz hw' ((wr1_sz h).mono (by omega))
 split
 ·exact leftQ_sz ((putP_sz h).mono (by omega))
 split
 ·unfold moreLess
  split
  ·exact h.mono (by omega)
  ·rename_i c e
   exact touched_sz (hw.ce _ c e).1 (h.mono (by omega))
 split
 ·exact begin_sz (letGo_sz (putP_wf hw) (putP_sz h))
 split
 ·exact letGo_sz (putP_wf hw) ((putP_sz h).mono (by omega))
 ·exact letGo_sz hw (h.mono (by omega))
def runN (ms:List Mk)(st:Sg)(xs:List Sp1):Nat→Sg×List (Int×Str)
 | 0=>(st,[])
 | j+1=>match xs[j]? with
  | some x=>((done ms (runN ms st xs j).1 x).1,(runN ms st xs j).2++(done ms (runN ms st xs j).1 x).2.map fun w=>((j:Int),w))
  | none=>runN ms st xs j
def offP (st:Sg)(n:Str):Sg:={ st with plain:=dropA st.plain n }
def ownN (ms:List Mk)(k:Int)(z:Sg×List (Int×Str))(os:List Str):Nat→Sg×List (Int×Str)
 | 0=>z
 | j+1=>match os[j]? with
  | some n=>(offP (letGo ms (ownN ms k z os j).1 n).1 n,(ownN ms k z os j).2++(letGo ms (ownN ms k z os j).1 n).2.map fun w=>(k,w))
  | none=>ownN ms k z os j
def callS (ms:List Mk)(st:Sg)(xs:List Sp1)(os:List Str):Sg×List (Int×Str):=ownN ms xs.length (runN ms st xs xs.length) os os.length
theorem pln_drop {p:List (Str×Option Int)}:pln (dropA p n) m=if n=m then none else pln p m:=by
 unfold pln;rw[getA_drop];split <;> rfl
theorem off_good (hms:MsOk ms)(h:Inv ms st):StG ms st (offP (letGo ms st n).1 n) (letGo ms st n).2:=by
 have k:=letGo_kp (n:=n) hms h.wf
 have en:=letGo_n (n:=n) hms h.wf
 have hw:=letGo_wf (n:=n) hms h.wf
 have ep:pln (offP (letGo ms st n).1 n).plain n=none:=by show pln (dropA _ n) n=_;rw[pln_drop,if_pos rfl]
 have el:Els st (offP (letGo ms st n).1 n) n (letGo ms st n).2:=by
  refine⟨fun m _ c e=>k.sub m c e,fun m _ c e=>k.nums m c e,fun m hm=>?_,fun q m hm=>letGo_nc h.wf q hm,fun q=>letGo_cut h.wf q,letGo_sp⟩
  show pln (dropA (letGo ms st n).1.plain n) m=_
  rw[pln_drop,if_neg (fun q=>hm q.symm),k.pl]
 refine el.good h ⟨hw.nd,hw.ce,hw.km,hw.rg⟩ (fun q=>absurd en q) (fun v e=>?_) (Int.le_of_eq k.wr.symm) fun _ _=>?_
 ·rw[ep] at e;cases e
 ·rw[ep]
  show(getA (letGo ms st n).1.reach n).bind _=none
  rw[en];rfl
theorem off_sz (hw:Wf ms st)(h:Sz t st):Sz t (offP (letGo ms st n).1 n):=by
 have:=letGo_sz (n:=n) hw h
 exact⟨this.r,this.m,this.n,Nat.le_trans dropA_len this.p⟩
def NoBad (fs:List (Int×Str)):Prop:=¬BadW (fs.map (·.2))
theorem noBad_app {fs gs:List (Int×Str)}:NoBad (fs++gs)↔NoBad fs∧NoBad gs:=by
 unfold NoBad BadW;rw[List.map_append];simp only[List.mem_append];grind
theorem noBad_map {k:Int}:NoBad (ws.map fun w=>(k,w))↔¬BadW ws:=by
 unfold NoBad;rw[List.map_map]
 have:(Prod.snd∘fun w:Str=>(k,w))=id:=rfl
 rw[this,List.map_id]
structure XsOk (xs:List Sp1):Prop where
 d:∀ x∈xs,isDone x∧x.1∈louds++quiets
structure RunOk (ms:List Mk)(st:Sg)(z:Sg×List (Int×Str))(t:Nat)(A:Str→Prop):Prop where
 inv:Inv ms z.1
 g:G st→NoBad z.2→G z.1
 sz:Sz t z.1
 rs:∀ m,getA z.1.reach m≠none→getA st.reach m≠none∨A m
theorem run_ok (hms:MsOk ms)(h:Inv ms st)(hz:Sz t st)(hx:XsOk xs):∀ j,RunOk ms st (runN ms st xs j) (t+2*j) fun m=>∃ x∈xs,m=n0 x.2
 | 0=>⟨h,fun g _=>g,hz,fun m q=>Or.inl q⟩
 | j+1=>by
  have ih:=run_ok hms h hz hx j
  unfold runN
  cases e:xs[j]? with
  | none=>exact⟨ih.inv,ih.g,ih.sz.mono (by omega),ih.rs⟩
  | some x =>
   have hm:=List.mem_of_getElem? e
   have k:=done_good hms ih.inv (hx.d x hm).1 (hx.d x hm).2
   refine⟨k.inv,fun g nb=>?_,(done_sz hms ih.inv.wf ih.sz).mono (by omega),fun m q=>?_⟩
   ·obtain⟨n1,n2⟩:=noBad_app.mp nb
    exact k.g (ih.g g n1) (noBad_map.mp n2)
   ·by_cases hn:m=n0 x.2
    ·exact Or.inr ⟨x,hm,hn⟩
    ·exact ih.rs m (done_sub hms ih.inv.wf hn q)
theorem own_ok (hms:MsOk ms){k:Int}{z:Sg×List (Int×Str)}{A:Str→Prop}(h:RunOk ms st z t A):∀ j,j≤os.length→RunOk ms st (ownN ms k z os j) t (fun m=>A m)∧∀ n∈os.take j,getA (ownN ms k z os j).1.reach n=none
 | 0,_=>⟨h,fun n q=>by simp at q⟩
 | j+1,hj=>by
  obtain⟨ih,ih2⟩:=own_ok hms (k:=k) h j (by omega)
  unfold ownN
  have e:os[j]?=some os[j]:=List.getElem?_eq_getElem (by omega)
  rw[e]
  have kp:=letGo_kp (n:=os[j]) hms ih.inv.wf
  have og:=off_good (n:=os[j]) hms ih.inv
  refine⟨⟨og.inv,fun g nb=>?_,off_sz ih.inv.wf ih.sz,fun m q=>ih.rs m (kp.some' q)⟩,fun n q=>?_⟩
  ·obtain⟨n1,n2⟩:=noBad_app.mp nb
   exact og.g (ih.g g n1) (noBad_map.mp n2)
  ·rw[List.take_add_one,e] at q
   rcases List.mem_append.mp q with q|q
   ·exact kp.none (ih2 n q)
   ·simp at q;subst q;exact letGo_n hms ih.inv.wf
theorem call_ok (hms:MsOk ms)(h:Inv ms st)(hz:Sz t st)(hx:XsOk xs):RunOk ms st (callS ms st xs os) (t+2*xs.length) (fun m=>(∃ x∈xs,m=n0 x.2)∧m∉os):=by
 unfold callS
 obtain⟨a,b⟩:=own_ok hms (k:=xs.length) (os:=os) (run_ok hms h hz hx xs.length) os.length (Nat.le_refl _)
 refine⟨a.inv,a.g,a.sz,fun m q=>?_⟩
 rw[List.take_length] at b
 rcases a.rs m q with w|w
 ·exact Or.inl w
 ·exact Or.inr ⟨w,fun k=>q (b m k)⟩
theorem g0:G sg0:=fun _=>rfl
end DL
set_option maxHeartbeats 1000000
namespace DL
open PySem PySem.Spec PyProof.Rows L2
section
variable {c:D}{ν τ σ:Mem}{st:Sg}{nms:List Str}{Q:DV→Prop}{Qp:Prop}{QR:R→Mem→Prop}{E:Xc→Mem→Prop}{m n:Str}{i j:Int}
variable {μ:Mem}
end
def FitN (s:Str):Prop:=PyData.strOk s=true∧s.cps.size≤20
structure Ok (ms:List Mk)(t:Nat)(st:Sg):Prop where
 wf:Wf ms st
 nm:∀ n,getA st.reach n≠none→FitN n
 sz:Sz t st
section
variable {ms:List Mk}{st:Sg}{t:Nat}{c:Int}{b q:Bool}{n m:Str}{v:Option Int}
theorem Ok.mono {u:Nat}(h:Ok ms t st)(k:t≤u):Ok ms u st:=⟨h.wf,h.nm,h.sz.mono k⟩
end
variable {as ns os people:List Str}{xs:List Sp1}{x:Sp1}{a c o s:Str}{td te:Td}{ms:List Mk}{st:Sg}{t:Nat}
def ownP (s:Str):Str:="own "++s
def calT (as ns os:List Str):Td:=as.zip ns++os.map fun o=>(o,ownP o)
theorem zip_keys (h:as.length=ns.length):(as.zip ns).map (·.1)=as:=by
 rw[←List.unzip_fst,List.unzip_zip (by omega)]
theorem cal_keys (h:as.length=ns.length):(calT as ns os).map (·.1)=as++os:=by
 unfold calT;rw[List.map_append,zip_keys h,List.map_map]
 congr 1
 exact List.map_id _
abbrev calF (as ns os:List Str):Str→Str:=rn (calT as ns os)
structure CalOk (as ns os:List Str):Prop where
 l:as.length=ns.length
 nd:(as++os).Nodup
 nn:ns.Nodup
 nb:∀ s∈ns,nameB s=true∧PyData.strOk s=true∧s.cps.size≤16
 ob:∀ s∈os,PyData.strOk s=true∧s.cps.size≤16
theorem cal_get (h:CalOk as ns os)(hs:s∈as++os):tget (calT as ns os) s=some (calF as ns os s):=rn_some (by rw[cal_keys h.l];exact hs)
theorem cal_nd (h:CalOk as ns os):((calT as ns os).map (·.1)).Nodup:=by rw[cal_keys h.l];exact h.nd
theorem cal_arg (h:CalOk as ns os)(hs:s∈as):(s,calF as ns os s)∈as.zip ns:=by
 have hm:=tget_mem (cal_get h (s:=s) (List.mem_append_left _ hs))
 unfold calT at hm
 rcases List.mem_append.mp hm with q|q
 ·exact q
 ·obtain⟨o,ho,e⟩:=List.mem_map.mp q
  obtain⟨e1,_⟩:=Prod.mk.inj e
  exact absurd rfl ((List.nodup_append.mp h.nd).2.2 s hs s (e1▸ho))
theorem cal_argn (h:CalOk as ns os)(hs:s∈as):calF as ns os s∈ns:=(List.of_mem_zip (cal_arg h hs)).2
theorem cal_own (h:CalOk as ns os)(hs:s∈os):calF as ns os s=ownP s:=by
 have e:=cal_get h (s:=s) (List.mem_append_right _ hs)
 have:=tget_of (cal_nd h) (n:=s) (m:=ownP s) (by unfold calT;exact List.mem_append_right _ (List.mem_map.mpr ⟨s,hs,rfl⟩))
 rw[this] at e
 exact(Option.some.inj e).symm
theorem own_list (s:Str):(ownP s).cps.toList=("own ":Str).cps.toList++s.cps.toList:=by
 show(("own ":Str)++s).cps.toList=_
 exact Array.toList_append
theorem own_nb (s:Str):nameB (ownP s)=false:=by
 unfold nameB
 rw[own_list,List.all_append]
 have:(("own ":Str).cps.toList.all fun c=>decide (c∈letters.cps.toList))=false:=by decide +kernel
 rw[this];simp
theorem own_inj (h:ownP a=ownP c):a=c:=by
 have:=congrArg (fun s:Str=>s.cps.toList) h
 simp only[own_list,List.append_cancel_left_eq] at this
 cases a;cases c
 simp only at this
 rw[Array.ext' this]
theorem own_fit (h:PyData.strOk s=true∧s.cps.size≤16):FitN (ownP s):=by
 constructor
 ·have h1:=h.1
  unfold PyData.strOk at h1 ⊢
  rw[←Array.all_toList] at h1 ⊢
  rw[own_list,List.all_append,h1]
  decide +kernel
 ·have:(ownP s).cps.size=4+s.cps.size:=by
   rw[←Array.length_toList,own_list,List.length_append];rfl
  rw[this];omega
theorem cal_fit (h:CalOk as ns os)(hs:s∈as++os):FitN (calF as ns os s):=by
 rcases List.mem_append.mp hs with q|q
 ·have:=h.nb _ (cal_argn h q);exact⟨this.2.1,by omega⟩
 ·rw[cal_own h q];exact own_fit (h.ob s q)
theorem zip_inj {as ns:List Str}(hn:ns.Nodup){v:Str}(h1:(a,v)∈as.zip ns)(h2:(c,v)∈as.zip ns):a=c:=by
 induction as generalizing ns with
 | nil=>cases h1
 | cons x as ih =>
  cases ns with
  | nil=>cases h1
  | cons n ns =>
   rw[List.zip_cons_cons] at h1 h2
   rw[List.nodup_cons] at hn
   rcases List.mem_cons.mp h1 with e1|e1 <;> rcases List.mem_cons.mp h2 with e2|e2
   ·obtain⟨rfl,rfl⟩:=Prod.mk.inj e1;exact(Prod.mk.inj e2).1.symm
   ·obtain⟨rfl,rfl⟩:=Prod.mk.inj e1;exact absurd (List.of_mem_zip e2).2 hn.1
   ·obtain⟨rfl,rfl⟩:=Prod.mk.inj e2;exact absurd (List.of_mem_zip e1).2 hn.1
   ·exact ih hn.2 e1 e2
theorem cal_inj (h:CalOk as ns os)(ha:a∈as++os)(hc:c∈as++os)(e:calF as ns os a=calF as ns os c):a=c:=by
 rcases List.mem_append.mp ha with qa|qa <;> rcases List.mem_append.mp hc with qc|qc
 ·have h1:=cal_arg h qa
  have h2:=cal_arg h qc
  rw[e] at h1
  exact zip_inj h.nn h1 h2
 ·have:=(h.nb _ (cal_argn h qa)).1
  rw[e,cal_own h qc,own_nb] at this;cases this
 ·have:=(h.nb _ (cal_argn h qc)).1
  rw[←e,cal_own h qa,own_nb] at this;cases this
 ·rw[cal_own h qa,cal_own h qc] at e;exact own_inj e
theorem stok_calls (h:CalOk as ns os)(hx:StOk false (as++os) x):isDone (rnS (calF as ns os) x)∧x.1∈louds++quiets∧(∀ s∈(rnS (calF as ns os) x).2,FitN s)∧n0 (rnS (calF as ns os) x).2∈(as++os).map (calF as ns os):=by
 refine⟨⟨fun q=>?_,fun q=>?_⟩,by simpa using hx.w,fun s hs=>?_,?_⟩
 ·obtain⟨a,c,e,hn,ha,hc⟩:=hx.sh q
  exact⟨_,_,by unfold rnS;rw[e];rfl,fun z=>hn (cal_inj h ha hc z)⟩
 ·obtain⟨a,e,ha⟩:=hx.ot q
  exact⟨_,by unfold rnS;rw[e];rfl⟩
 ·cases w:two x.1 with
  | true =>
   obtain⟨a,c,e,hn,ha,hc⟩:=hx.sh w
   unfold rnS at hs;rw[e] at hs
   simp at hs
   rcases hs with rfl|rfl
   ·exact cal_fit h ha
   ·exact cal_fit h hc
  | false =>
   obtain⟨a,e,ha⟩:=hx.ot w
   unfold rnS at hs;rw[e] at hs
   simp at hs
   subst hs;exact cal_fit h ha
 ·cases w:two x.1 with
  | true =>
   obtain⟨a,c,e,hn,ha,hc⟩:=hx.sh w
   unfold rnS;rw[e]
   exact List.mem_map.mpr ⟨a,ha,rfl⟩
  | false =>
   obtain⟨a,e,ha⟩:=hx.ot w
   unfold rnS;rw[e]
   exact List.mem_map.mpr ⟨a,ha,rfl⟩
def calX (as ns os:List Str)(xs:List Sp1):List Sp1:=xs.map (rnS (calF as ns os))
def calO (as ns os:List Str):List Str:=os.map (calF as ns os)
structure DdC (as ns os:List Str)(xs:List Sp1):Prop where
 c:CalOk as ns os
 st:∀ x∈xs,StOk false (as++os) x
 x8:xs.length≤8
theorem DdC.xok (h:DdC as ns os xs):XsOk (calX as ns os xs):=⟨fun x hx=>by
 obtain⟨y,hy,rfl⟩:=List.mem_map.mp hx
 have:=stok_calls h.c (h.st y hy)
 exact⟨this.1,this.2.1⟩⟩
structure MI (ms:List Mk)(people:List Str)(k:Nat)(st:Sg):Prop where
 inv:Inv ms st
 sz:Sz (16*k) st
 rs:∀ m,getA st.reach m≠none→m∈people
theorem MI.call (hms:MsOk ms){k:Nat}(h:MI ms people k st)(hd:DdC as ns os xs)(hp:∀ s∈ns,s∈people):MI ms people (k+1) (callS ms st (calX as ns os xs) (calO as ns os)).1:=by
 have r:=call_ok (os:=calO as ns os) hms h.inv h.sz hd.xok
 refine⟨r.inv,r.sz.mono ?_,fun m e=>?_⟩
 ·unfold calX;rw[List.length_map];have:=hd.x8;omega
 ·rcases r.rs m e with q|⟨⟨x,hx,rfl⟩,q⟩
  ·exact h.rs m q
  ·obtain⟨y,hy,rfl⟩:=List.mem_map.mp hx
   obtain⟨s,hs,e⟩:=List.mem_map.mp (stok_calls hd.c (hd.st y hy)).2.2.2
   rw[←e]
   rcases List.mem_append.mp hs with w|w
   ·exact hp _ (cal_argn hd.c w)
   ·exact absurd (List.mem_map.mpr ⟨s,w,e⟩) q
end DL
set_option maxHeartbeats 1000000
namespace DL
open PySem PySem.Spec PyProof.Rows L2
structure Mc where
 calls:List D
 stands:List D
 faults:List D
section
variable {sk c:D}{ν τ σ:Mem}{mc:Mc}{nms:List Str}{Q:DV→Prop}{Qp:Prop}{QR:R→Mem→Prop}{E:Xc→Mem→Prop}{m:Str}{d:D}{δ:List (Option DV)}{N:Nat}{st:Sg}{P:PO}
end
variable {ms:List Mk}{st:Sg}{c k:Int}{b q:Bool}{n m:Str}{x:Sp1}{as ns os people:List Str}{xs:List Sp1}{t j:Nat}{z:Sg×List (Int×Str)}{A:Str→Prop}
end DL
namespace DL
open PySem PySem.Spec PyProof.Rows L2
def KP {α:Type}(P:Str→Prop)(l:List (Str×α)):Prop:=∀ p∈l,P p.1
def InjP (f:Str→Str)(P:Str→Prop):Prop:=∀ a b,P a→P b→f a=f b→a=b
section
variable {α:Type}{f:Str→Str}{P:Str→Prop}{l:List (Str×α)}{k:Str}{v:α}
theorem KP.put (hl:KP P l)(hk:P k):KP P (putA l k v):=by
 unfold putA
 split
 ·intro p hp
  obtain⟨q,hq,rfl⟩:=List.mem_map.mp hp
  split
  ·exact hl q hq
  ·exact hl q hq
 ·intro p hp
  rcases List.mem_append.mp hp with q|q
  ·exact hl p q
  ·rw[List.mem_singleton.mp q];exact hk
theorem KP.drop (hl:KP P l):KP P (dropA l k):=fun p hp=>hl p (List.mem_filter.mp hp).1
end
structure SP (P:Str→Prop)(st:Sg):Prop where
 r:KP P st.reach
 p:KP P st.plain
section
variable {ms:List Mk}{st:Sg}{c:Int}{b q:Bool}{n m:Str}{v:Option Int}{x:Sp1}{f:Str→Str}{P:Str→Prop}
end
def MonoP (f:Str→Str)(P:Str→Prop):Prop:=∀ a b,P a→P b→ltS (f a) (f b)=ltS a b
section
variable {f:Str→Str}{P:Str→Prop}{xs ys:List Str}{x:Str}
theorem MonoP.inj (h:MonoP f P):InjP f P:=fun a b ha hb e=>by
 have h1:=h a b ha hb
 have h2:=h b a hb ha
 rw[e,ltS_irrefl] at h1
 rw[e,ltS_irrefl] at h2
 exact ltS_total h1.symm h2.symm
def sg1 (i:Nat):Str:=match letters.cps.toList[i]? with
 | some c=>⟨#[c]⟩
 | none=>""
def othS (k:Nat):Str:=(("n":Str)++sg1 k)++repS "n" (k % 3)
def dictTo (ls:List Str):Td:=(sortS ls).zip ((List.range ls.length).map othS)
variable {ls:List Str}{s t:Str}
variable {L W:Str→Str}{as ns os people:List Str}{ys:List Sp1}{y:Sp1}{o:Str}{ms:List Mk}{st:Sg}{k:Nat}
structure RnC (L W:Str→Str)(people as os:List Str):Prop where
 li:InjP L (·∈people)
 lb:∀ s∈people,nameB s=true∧nameB (L s)=true
 wi:InjP W (·∈as++os)
end
variable {sd:Sd}{n:Str}{l:List Str}{QR:R→Mem→Prop}{E:Xc→Mem→Prop}{μ:Mem}
end DL
namespace DL
open PySem PySem.Spec PyProof.Rows L2
variable {as os ns people:List Str}{xs:List Sp1}{x:Sp1}{sd:Sd}{n s:Str}{d:Dd}
end DL
namespace DL
open PySem PySem.Spec PyProof.Rows L2
variable {as os ns people:List Str}{xs:List Sp1}{x:Sp1}{sd:Sd}{n s:Str}{d:Dd}{L W:Str→Str}{ms:List Mk}{st:Sg}{k:Nat}
structure PpOk (ss:List Str):Prop where
 n5:ss.length≤20
 nd:ss.Nodup
 nm:∀ s∈ss,nameB s=true∧PyData.strOk s=true∧s.cps.size≤16
abbrev lb (ss:List Str):Str→Str:=rn (dictTo ss)
end DL
namespace DL
open PySem PySem.Spec PyProof.Rows L2
section
variable {ms:List Mk}{st:Sg}{c:Int}{b q:Bool}{n m:Str}{x:Sp1}{k:Int}{xs:List Sp1}{os:List Str}{z:Sg×List (Int×Str)}
end
def Sh (k:Nat)(d:D):Prop:=∃ p,toPy d=some p∧p.canLay0=true∧p.depth≤k
section
variable {k k':Nat}{d:D}{QR:R→Mem→Prop}{E:Xc→Mem→Prop}{μ:Mem}{x y:DV}
theorem Sh.mono (h:Sh k d)(hk:k≤k'):Sh k' d:=by obtain⟨p,a,b,c⟩:=h;exact⟨p,a,b,Nat.le_trans c hk⟩
end
section
variable {α:Type}[DecidableEq α]
abbrev WG (α:Type):=List (α×List Bool)
variable (st:α→Bool→Option α)(s0:α)
variable {st s0}
structure GGd (ok:α→Prop)(s0:α)(s:WG α×List α):Prop where
 nd:(s.1.map (·.1)).Nodup
 lt:∀ p∈s.1,ok p.1
 q:∀ x∈s.2,x∈s.1.map (·.1)
 ln:∀ p∈s.1,p.2.length+1≤s.1.length
 z:∃ r,s.1=(s0,([]:List Bool))::r
structure SOk (st:α→Bool→Option α)(s0:α)(ok:α→Prop)(n:Nat):Prop where
 cl:∀ x b y,ok x→st x b=some y→ok y
 s0:ok s0
 bd:∀ l:List α,l.Nodup→(∀ x∈l,ok x)→l.length≤n
variable {ok:α→Prop}{n:Nat}
variable (st)
variable {st}
end
abbrev Pr:=Int×Int
variable {ms ns:List Mk}{W:WG Pr}
end DL
namespace DL
open PySem PySem.Spec PyProof.Rows L2
section
variable (ms ns:List Mk)
end
variable {ms ns:List Mk}{W:WG Pr}
end DL
namespace DL
section
variable {α:Type}[DecidableEq α]{st:α→Bool→Option α}{s0 x y:α}{t u ts:List Bool}{W:WG α}{b:Bool}{A q:List α}{s:WG α×List α}
def ledA (st:α→Bool→Option α)(o:Option α)(ts:List Bool):Option α:=ts.foldl (fun o b=>o.bind fun x=>st x b) o
structure BfI (st:α→Bool→Option α)(s0:α)(A:List α)(s:WG α×List α):Prop where
 nd:(s.1.map (·.1)).Nodup
 ks:s.1.map (·.1)=A++s.2
 pa:∀ p∈s.1,ledA st (some s0) p.2=some p.1
 so:s.1.Pairwise (fun p q=>p.2.length≤q.2.length)
 ma:∀ x q,s.2=x::q→∀ t,(x,t)∈s.1→∀ p∈s.1,p.2.length≤t.length+1
 cl:∀ x∈A,∀ t,(x,t)∈s.1→∀ b y,st x b=some y→∃ u,(y,u)∈s.1∧u.length≤t.length+1
structure BfM (st:α→Bool→Option α)(s0:α)(A:List α)(x:α)(t:List Bool)(s:WG α×List α):Prop where
 nd:(s.1.map (·.1)).Nodup
 ks:s.1.map (·.1)=A++x::s.2
 pa:∀ p∈s.1,ledA st (some s0) p.2=some p.1
 so:s.1.Pairwise (fun p q=>p.2.length≤q.2.length)
 xt:(x,t)∈s.1
 ma:∀ p∈s.1,p.2.length≤t.length+1
 cl:∀ x∈A,∀ t,(x,t)∈s.1→∀ b y,st x b=some y→∃ u,(y,u)∈s.1∧u.length≤t.length+1
end
end DL
namespace DL
open PySem PySem.Spec PyProof.Rows L2
variable {ms ns:List Mk}{ts w u:List Bool}{b:Bool}{k:Nat}{m j:Int}{o:Option Int}{W:WG Pr}{p q:Pr}
end DL
namespace DL
open PySem PySem.Spec PyProof.Rows L2
variable {ms:List Mk}{ts:List Bool}{b:Bool}{k:Nat}{m j:Int}{o:Option Int}{st:Sg}{x:Sp1}
end DL
namespace DL
open PySem PySem.Spec PyProof.Rows L2
section
variable {k:Nat}{d e:D}{QR:R→Mem→Prop}{E:Xc→Mem→Prop}{μ:Mem}{x y:DV}
def d3 (r:Int×Int×Str):D:=.tup [.int r.1,.int r.2.1,.str r.2.2]
def t3 (r:Int×Int×Str):PySem.W.T3 Int Int Str:=⟨r.1,r.2.1,r.2.2⟩
end
section
variable {k:Nat}{d e:D}{QR:R→Mem→Prop}{E:Xc→Mem→Prop}{μ:Mem}{x y:DV}
theorem l_eqG {p q:PyData}(hx:peek μ x=some d)(hy:peek μ y=some e)(ep:toPy d=some p)(eq:toPy e=some q)(f:p.canLay0=true)(g:p.depth≤64)(f':q.canLay0=true)(g':q.depth≤64)(h:QR (.dat (.bl (PyData.eqv p q))) μ):Sat (dEqA x y μ) QR E:=by
 have hs:SeqAt.shaped p=true:=by unfold SeqAt.shaped;rw[f,decide_eq_true g];rfl
 have hs':SeqAt.shaped q=true:=by unfold SeqAt.shaped;rw[f',decide_eq_true g'];rfl
 have hpx:=peekPy_of hx ep
 have hpy:=peekPy_of hy eq
 have hB:dEqB true x y μ=.ok (.dat (.bl (PyData.eqv p q==true))) μ:=by
  unfold dEqB;rw[hpx];simp only;rw[hpy];simp only;rw[if_pos ⟨hs,hs'⟩]
 have hS:dEqS true x y μ=.ok (.dat (.bl (PyData.eqv p q==true))) μ:=by
  unfold dEqS
  cases e1:asStr x with
  | none=>exact hB
  | some s =>
   cases e2:asStr y with
   | none=>exact hB
   | some t =>
    rw[asStr_dat e1] at hpx
    rw[asStr_dat e2] at hpy
    have hx':some (PyData.str s)=some p:=by rw[←hpx];unfold peekPy peek;cases s;rfl
    have hy':some (PyData.str t)=some q:=by rw[←hpy];unfold peekPy peek;cases t;rfl
    cases hx';cases hy'
    simp only[PyData.eqv,str_beq]
 refine sat_alt ?_
 rw[show dEq x y μ=dEqS true x y μ from rfl,hS]
 have:(PyData.eqv p q==true)=PyData.eqv p q:=by cases PyData.eqv p q <;> rfl
 rw[this];exact h
end
def KdO:D→Bool
 | .non=>true
 | .bl _=>true
 | .int _=>true
 | .str _=>true
 | .tup _=>true
 | .lst _=>true
 | .dct _=>true
 | .ins nm _=>decide (nm="Counter"∨nm="Stock")
 | _=>false
def seqO:D→Option (List D)
 | .tup ds=>some ds
 | .lst ds=>some ds
 | _=>none
def itemsO (d:D):List D:=(seqO d).getD []
def O2 (d:D):Prop:=KdO d=true∧∀ x∈itemsO d,KdO x=true
def O3 (d:D):Prop:=KdO d=true∧∀ x∈itemsO d,O2 x
def wtD (d:D):Nat:=match toPyK d with
 | some p=>p.weight
 | none=>0
def Sw (k:Nat)(d:D):Prop:=∃ p,toPyK d=some p∧p.showable=true∧p.depth≤k∧p.leavesShort 13=true
section
variable {k k':Nat}{d:D}{ds:List D}
theorem wt_of {p:PyData}(e:toPyK d=some p):wtD d=p.weight:=by unfold wtD;rw[e]
theorem Sw.mono (h:Sw k d)(hk:k≤k'):Sw k' d:=let ⟨p,a,b,c,e⟩:=h;⟨p,a,b,Nat.le_trans c hk,e⟩
theorem sw_all:∀ {ds:List D},(∀ d∈ds,Sw k d)→∃ ps,toPyKL ds=some ps∧PyData.showableAll ps=true∧PyData.depthAll ps≤k∧PyData.leavesShortAll 13 ps=true∧PyData.weightAll ps=(ds.map wtD).sum+ds.length
 | [],_=>⟨[],rfl,rfl,Nat.zero_le _,rfl,rfl⟩
 | d::ds,h=>by
  obtain⟨ps,a1,a2,a3,a4,a5⟩:=sw_all fun x hx=>h x (List.mem_cons_of_mem _ hx)
  obtain⟨p,b1,b2,b3,b4⟩:=h d List.mem_cons_self
  have e:wtD d=p.weight:=by unfold wtD;rw[b1]
  refine⟨p::ps,by simp only[toPyKL,b1,a1];rfl,by simp[PyData.showableAll,b2,a2],by simp only[PyData.depthAll];omega,by simp[PyData.leavesShortAll,b4,a4],?_⟩
  simp only[PyData.weightAll,List.map_cons,List.sum_cons,List.length_cons]
  omega
theorem sw_lst (h:∀ d∈ds,Sw k d):Sw (k+1) (.lst ds)∧wtD (.lst ds)=(ds.map wtD).sum+ds.length:=by
 obtain⟨ps,a1,a2,a3,a4,a5⟩:=sw_all h
 have e:toPyK (.lst ds)=some (.list ps):=by simp only[toPyK,a1];rfl
 refine⟨⟨.list ps,e,by simpa [PyData.showable] using a2,by simp only[PyData.depth];omega,by simpa [PyData.leavesShort] using a4⟩,?_⟩
 rw[wt_of e];simpa only[PyData.weight] using a5
theorem sw_tup (h:∀ d∈ds,Sw k d):Sw (k+1) (.tup ds)∧wtD (.tup ds)=(ds.map wtD).sum+ds.length:=by
 obtain⟨ps,a1,a2,a3,a4,a5⟩:=sw_all h
 have e:toPyK (.tup ds)=some (.tuple ps):=by simp only[toPyK,a1];rfl
 refine⟨⟨.tuple ps,e,by simpa [PyData.showable] using a2,by simp only[PyData.depth];omega,by simpa [PyData.leavesShort] using a4⟩,?_⟩
 rw[wt_of e];simpa only[PyData.weight] using a5
end
inductive Ob (W:Nat):D→Prop
 | a {d:D}:KdO d=true→seqO d=none→Ob W d
 | s {d:D} {ds:List D}:KdO d=true→seqO d=some ds→(∀ x∈ds,Ob W x)→(∀ x∈ds,Sw 26 x∧wtD x≤W)→Ob W d
def It (W:Nat)(x:D):Prop:=Ob W x∧Sw 26 x∧wtD x≤W
section
variable {W W' S L S' L':Nat}{d:D}{ds:List D}
theorem Ob.k (h:Ob W d):KdO d=true:=by cases h <;> assumption
theorem Ob.it (h:Ob W d)(e:seqO d=some ds):∀ x∈ds,It W x:=by
 cases h with
 | a _ e2=>rw[e] at e2;cases e2
 | s _ e2 h3 h4=>rw[e] at e2;cases e2;exact fun x hx=>⟨h3 x hx,h4 x hx⟩
theorem Ob.its (h:Ob W d):∀ x∈itemsO d,It W x:=by
 unfold itemsO
 cases e:seqO d with
 | none=>intro x hx;cases hx
 | some ds=>exact h.it e
theorem Ob.mono (h:Ob W d)(hw:W≤W'):Ob W' d:=by
 induction h with
 | a h1 h2=>exact .a h1 h2
 | s h1 h2 _ h4 ih=>exact .s h1 h2 ih fun x hx=>⟨(h4 x hx).1,Nat.le_trans (h4 x hx).2 hw⟩
theorem It.mono (h:It W d)(hw:W≤W'):It W' d:=⟨h.1.mono hw,h.2.1,Nat.le_trans h.2.2 hw⟩
theorem Ob.o2 (h:Ob W d):O2 d:=⟨h.k,fun x hx=>(h.its x hx).1.k⟩
theorem Ob.o3 (h:Ob W d):O3 d:=⟨h.k,fun x hx=>(h.its x hx).1.o2⟩
theorem wt_seq (h:Ob W d)(e:seqO d=some ds):wtD d=(ds.map wtD).sum+ds.length∧Sw 27 d:=by
 have hi:=h.it e
 cases d <;> simp[seqO] at e
 ·subst e;obtain⟨a,b⟩:=sw_tup fun x hx=>(hi x hx).2.1;exact⟨b,a⟩
 ·subst e;obtain⟨a,b⟩:=sw_lst fun x hx=>(hi x hx).2.1;exact⟨b,a⟩
structure Th (W S L:Nat)(d:D):Prop where
 o:Ob W d
 f:Sw 28 d
 s:∀ ds,seqO d=some ds→(ds.map wtD).sum≤S∧ds.length≤L
 w:wtD d≤S+42*L
theorem Th.mono (h:Th W S L d)(hw:W≤W')(hs:S≤S')(hl:L≤L'):Th W' S' L' d :=
 ⟨h.o.mono hw,h.f,fun ds e=>⟨Nat.le_trans (h.s ds e).1 hs,Nat.le_trans (h.s ds e).2 hl⟩,by have:=h.w;omega⟩
theorem It.th (h:It W d):Th W W W d :=
 ⟨h.1,h.2.1.mono (by decide),fun ds e=>by have:=(wt_seq h.1 e).1;have:=h.2.2;omega,by have:=h.2.2;omega⟩
end
theorem sum_subW {es ds:List D}(h:es.Sublist ds):(es.map wtD).sum≤(ds.map wtD).sum:=by
 induction h with
 | slnil=>exact Nat.le_refl _
 | cons a _ ih=>rw[List.map_cons,List.sum_cons];omega
 | cons_cons a _ ih=>rw[List.map_cons,List.map_cons,List.sum_cons,List.sum_cons];omega
def KdN:D→Bool
 | .non=>true
 | .bl _=>true
 | .int _=>true
 | .str _=>true
 | .tup _=>true
 | .lst _=>true
 | .dct _=>true
 | _=>false
def tupO:D→Option (List D)
 | .tup ds=>some ds
 | _=>none
def lstO:D→Option (List D)
 | .lst ds=>some ds
 | _=>none
structure Itm (d:D):Prop where
 k:KdN d=true
 i:∀ ds,tupO d=some ds→∀ x∈ds,KdN x=true
 f:FitD 3 200 d
section
variable {QR:R→Mem→Prop}{E:Xc→Mem→Prop}{μ:Mem}{ds:List D}{p:Pr}{neg:Bool}
end
variable {ms ns:List Mk}{p:Pr}{ds:List D}
end DL
namespace DL
open PySem PySem.Spec PyProof.Rows L2
section
variable {QR:R→Mem→Prop}{E:Xc→Mem→Prop}{μ ν:Mem}{B:Bg}{d:D}{ds:List D}{k:Nat}
end
structure Tg (x:D):Prop where
 k:KdN x=true
 f:Fk 8 1000000 x
 i:∀ ds,lstO x=some ds→(∀ d∈ds,Itm d)∧ds.length≤4000
section
variable {QR:R→Mem→Prop}{E:Xc→Mem→Prop}{μ:Mem}{n:Int}{m:Mk}{ms a b:List Mk}
instance:DecidableEq Mk:=fun⟨a,l,c⟩ ⟨a',l',c'⟩=>decidable_of_iff (a=a'∧l=l'∧c=c') (by simp)
def t3m (m:Mk):PySem.W.T3 Int (Option Int) Bool:=⟨m.a,m.l,m.c⟩
theorem t3m_inj (h:a.map t3m=b.map t3m):a=b:=(List.map_inj_right (fun x y e=>by
 obtain⟨x1,x2,x3⟩:=x;obtain⟨y1,y2,y3⟩:=y
 simp only[t3m,PySem.W.T3.mk.injEq] at e
 rw[e.1,e.2.1,e.2.2])).mp h
theorem pyM (ms:List Mk):toPy (.lst (ms.map markD))=some (PySem.W.Datum.toD (ms.map t3m)):=by
 have:∀ ms:List Mk,toPyL (ms.map markD)=some ((ms.map t3m).map PySem.W.Datum.toD):=fun ms=>by
  induction ms with
  | nil=>rfl
  | cons m ms ih =>
   obtain⟨x1,x2,x3⟩:=m
   rw[List.map_cons,List.map_cons,List.map_cons,toPyL,ih]
   cases x2 <;> rfl
 show(toPyL (ms.map markD)).map PyData.list=_
 rw[this];rfl
theorem eqM (ha:MsOk a)(hb:MsOk b)(h:QR (.dat (.bl (decide (a=b)))) μ):Sat (dEqA (.dat (.lst (a.map markD))) (.dat (.lst (b.map markD))) μ) QR E:=by
 obtain⟨p,e1,f1⟩:=fit_marks ha
 obtain⟨q,e2,f2⟩:=fit_marks hb
 have g1:=f1.dep
 have g2:=f2.dep
 refine l_eqG (d:=.lst (a.map markD)) (e:=.lst (b.map markD)) rfl rfl e1 e2 f1.lay (by omega) f2.lay (by omega) ?_
 rw[pyM] at e1 e2
 cases e1;cases e2
 rw[PySem.W.Datum.eqv]
 have:decide (a.map t3m=b.map t3m)=decide (a=b):=decide_eq_decide.mpr ⟨t3m_inj,fun e=>by rw[e]⟩
 rw[this];exact h
theorem fk_mk (h:MkOk n m)(hn:n≤6):Fk 1 60 (markD m):=by
 obtain⟨⟨h1,h2⟩,h3⟩:=h
 refine(fk_tup (k:=0) (w:=13) (n:=3) (fun d hd=>?_) (by simp)).mono (by decide) (by decide)
 simp only[List.mem_cons,List.not_mem_nil,or_false] at hd
 rcases hd with rfl|rfl|rfl
 ·exact fk_int (by omega)
 ·cases e:m.l with
  | none=>exact fk_non.mono (by decide) (by decide)
  | some i=>have:=h3 i e;exact fk_int (by omega)
 ·exact fk_bl.mono (by decide) (by decide)
theorem fk_mks (h:MsOk ms):Fk 2 400 (.lst (ms.map markD)):=by
 have h6:=h.h6
 refine(fk_lst (k:=1) (w:=60) (n:=6) (fun d hd=>?_) (by rw[List.length_map];omega)).mono (by decide) (by decide)
 obtain⟨m,hm,rfl⟩:=List.mem_map.mp hd
 exact fk_mk (h.ok m hm) (by omega)
end
def Sx (k:Nat)(d:D):Prop:=∃ p,toPyK d=some p∧p.showable=true∧p.depth≤k∧p.leavesShort 45=true
inductive Kn:D→Prop
 | a {d}:KdB d=true→seqO d=none→(∀ s:Str,d=.str s→s.length≤1000)→Kn d
 | s {d ds}:KdB d=true→seqO d=some ds→ds.length≤20000→(∀ x∈ds,Kn x)→Kn d
structure Vo (k W:Nat)(d:D):Prop where
 kn:Kn d
 sx:Sx k d
 wt:wtD d≤W
structure VoL (k S L:Nat)(ds:List D):Prop where
 kn:∀ x∈ds,Kn x
 sx:∀ x∈ds,Sx k x
 sum:(ds.map wtD).sum≤S
 len:ds.length≤L
section
variable {k k' W:Nat}{d x:D}{ds es:List D}{s:Str}
theorem Sx.mono (h:Sx k d)(hk:k≤k'):Sx k' d:=let ⟨p,a,b,c,e⟩:=h;⟨p,a,b,Nat.le_trans c hk,e⟩
theorem sx_all:∀ {ds:List D},(∀ d∈ds,Sx k d)→∃ ps,toPyKL ds=some ps∧PyData.showableAll ps=true∧PyData.depthAll ps≤k∧PyData.leavesShortAll 45 ps=true∧PyData.weightAll ps=(ds.map wtD).sum+ds.length
 | [],_=>⟨[],rfl,rfl,Nat.zero_le _,rfl,rfl⟩
 | d::ds,h=>by
  obtain⟨ps,a1,a2,a3,a4,a5⟩:=sx_all fun x hx=>h x (List.mem_cons_of_mem _ hx)
  obtain⟨p,b1,b2,b3,b4⟩:=h d List.mem_cons_self
  have e:wtD d=p.weight:=by unfold wtD;rw[b1]
  refine⟨p::ps,by simp only[toPyKL,b1,a1];rfl,by simp[PyData.showableAll,b2,a2],by simp only[PyData.depthAll];omega,by simp[PyData.leavesShortAll,b4,a4],?_⟩
  simp only[PyData.weightAll,List.map_cons,List.sum_cons,List.length_cons]
  omega
theorem sx_lst (h:∀ d∈ds,Sx k d):Sx (k+1) (.lst ds)∧wtD (.lst ds)=(ds.map wtD).sum+ds.length:=by
 obtain⟨ps,a1,a2,a3,a4,a5⟩:=sx_all h
 have e:toPyK (.lst ds)=some (.list ps):=by simp only[toPyK,a1];rfl
 refine⟨⟨.list ps,e,by simpa [PyData.showable] using a2,by simp only[PyData.depth];omega,by simpa [PyData.leavesShort] using a4⟩,?_⟩
 rw[wt_of e];simpa only[PyData.weight] using a5
theorem sx_tup (h:∀ d∈ds,Sx k d):Sx (k+1) (.tup ds)∧wtD (.tup ds)=(ds.map wtD).sum+ds.length:=by
 obtain⟨ps,a1,a2,a3,a4,a5⟩:=sx_all h
 have e:toPyK (.tup ds)=some (.tuple ps):=by simp only[toPyK,a1];rfl
 refine⟨⟨.tuple ps,e,by simpa [PyData.showable] using a2,by simp only[PyData.depth];omega,by simpa [PyData.leavesShort] using a4⟩,?_⟩
 rw[wt_of e];simpa only[PyData.weight] using a5
theorem Kn.kb (h:Kn d):KdB d=true:=by cases h <;> assumption
theorem Kn.it (h:Kn d)(e:seqO d=some ds):∀ x∈ds,Kn x:=by
 cases h with
 | a _ e2 _=>rw[e] at e2;cases e2
 | s _ e2 _ h=>rw[e] at e2;cases e2;exact h
theorem Kn.len (h:Kn d)(e:seqO d=some ds):ds.length≤20000:=by
 cases h with
 | a _ e2 _=>rw[e] at e2;cases e2
 | s _ e2 h _=>rw[e] at e2;cases e2;exact h
theorem Kn.kv (h:Kn d):Kv d:=⟨h.kb,fun s e=>by
 subst e
 cases h with
 | a _ _ h=>exact h s rfl
 | s _ e2 _ _=>cases e2⟩
theorem Kn.tup (hl:ds.length≤20000)(h:∀ x∈ds,Kn x):Kn (.tup ds):=.s rfl rfl hl h
theorem Kn.lst (hl:ds.length≤20000)(h:∀ x∈ds,Kn x):Kn (.lst ds):=.s rfl rfl hl h
theorem Vo.mono {W':Nat}(h:Vo k W d)(hk:k≤k')(hw:W≤W'):Vo k' W' d:=⟨h.kn,h.sx.mono hk,Nat.le_trans h.wt hw⟩
theorem VoL.lst {S L:Nat}(h:VoL k S L ds)(hL:L≤20000):Vo (k+1) (S+L) (.lst ds):=⟨.lst (Nat.le_trans h.len hL) h.kn,(sx_lst h.sx).1,by rw[(sx_lst h.sx).2];have:=h.sum;have:=h.len;omega⟩
theorem VoL.tup {S L:Nat}(h:VoL k S L ds)(hL:L≤20000):Vo (k+1) (S+L) (.tup ds):=⟨.tup (Nat.le_trans h.len hL) h.kn,(sx_tup h.sx).1,by rw[(sx_tup h.sx).2];have:=h.sum;have:=h.len;omega⟩
theorem VoL.mono {S L S' L':Nat}(h:VoL k S L ds)(hk:k≤k')(hS:S≤S')(hL:L≤L'):VoL k' S' L' ds:=⟨h.kn,fun x hx=>(h.sx x hx).mono hk,Nat.le_trans h.sum hS,Nat.le_trans h.len hL⟩
theorem VoL.app {S L S' L':Nat}(h:VoL k S L ds)(h':VoL k S' L' es):VoL k (S+S') (L+L') (ds++es) :=
 ⟨fun x hx=>(List.mem_append.mp hx).elim (h.kn x) (h'.kn x),fun x hx=>(List.mem_append.mp hx).elim (h.sx x) (h'.sx x),by rw[List.map_append,List.sum_append];have:=h.sum;have:=h'.sum;omega,by rw[List.length_append];have:=h.len;have:=h'.len;omega⟩
theorem VoL.one (h:Vo k W d):VoL k W 1 [d]:=⟨fun x hx=>by cases List.mem_singleton.mp hx;exact h.kn,fun x hx=>by cases List.mem_singleton.mp hx;exact h.sx,by simpa using h.wt,Nat.le_refl _⟩
theorem VoL.sub {S L:Nat}(h:VoL k S L ds)(q:es.Sublist ds):VoL k S L es:=⟨fun x hx=>h.kn x (q.subset hx),fun x hx=>h.sx x (q.subset hx),Nat.le_trans (sum_subW q) h.sum,Nat.le_trans q.length_le h.len⟩
end
def sxB (k W:Nat)(d:D):Bool:=match toPyK d with
 | some p=>p.showable&&decide (p.depth≤k)&&p.leavesShort 45&&decide (p.weight≤W)
 | none=>false
end DL
namespace K30
open PySem PySem.Spec PyProof.Rows L2 DL
noncomputable section
def topS (i:Nat):Stmt:=PySem.Challenge.pw_smallcount_k30_counters_told.main.body.getD i (.Pass ⟨0,0,0,0⟩)
def clsS (i j:Nat):Stmt:=(clsBody (topS i)).getD j (.Pass ⟨0,0,0,0⟩)
abbrev s_Counter___eq__:Stmt:=clsS 11 2
abbrev N_Counter___eq__:List Str:=["self","other"]
theorem sc_Counter___eq__:FnScope N_Counter___eq__ ["self","other"] (defScope s_Counter___eq__):=⟨rfl,rfl,rfl,by decide +kernel,rfl,by decide +kernel,by decide +kernel⟩
abbrev s_is_integer:Stmt:=topS 6
abbrev N_is_integer:List Str:=["thing"]
theorem sc_is_integer:FnScope N_is_integer ["thing"] (defScope s_is_integer):=⟨rfl,rfl,rfl,by decide +kernel,rfl,by decide +kernel,by decide +kernel⟩
abbrev s_is_number:Stmt:=topS 8
abbrev N_is_number:List Str:=["thing","many"]
theorem sc_is_number:FnScope N_is_number ["thing","many"] (defScope s_is_number):=⟨rfl,rfl,rfl,by decide +kernel,rfl,by decide +kernel,by decide +kernel⟩
abbrev s_is_mark:Stmt:=topS 9
abbrev N_is_mark:List Str:=["thing","many"]
theorem sc_is_mark:FnScope N_is_mark ["thing","many"] (defScope s_is_mark):=⟨rfl,rfl,rfl,by decide +kernel,rfl,by decide +kernel,by decide +kernel⟩
abbrev s_are_marks:Stmt:=topS 10
abbrev N_are_marks:List Str:=["thing","mark"]
theorem sc_are_marks:FnScope N_are_marks ["thing"] (defScope s_are_marks):=⟨rfl,rfl,rfl,by decide +kernel,rfl,by decide +kernel,by decide +kernel⟩
abbrev s_Counter___init__:Stmt:=clsS 11 0
abbrev N_Counter___init__:List Str:=["self","marks","mark"]
theorem sc_Counter___init__:FnScope N_Counter___init__ ["self","marks"] (defScope s_Counter___init__):=⟨rfl,rfl,rfl,by decide +kernel,rfl,by decide +kernel,by decide +kernel⟩
abbrev s__law_alike:Stmt:=topS 15
abbrev N__law_alike:List Str:=["_law_found","_law_due"]
theorem sc__law_alike:FnScope N__law_alike ["_law_found","_law_due"] (defScope s__law_alike):=⟨rfl,rfl,rfl,by decide +kernel,rfl,by decide +kernel,by decide +kernel⟩
abbrev s__law_bag:Stmt:=topS 13
abbrev N__law_bag:List Str:=["_law_script","_law_cell"]
theorem sc__law_bag:FnScope N__law_bag ["_law_script"] (defScope s__law_bag):=⟨rfl,rfl,rfl,by decide +kernel,rfl,by decide +kernel,by decide +kernel⟩
abbrev s__law_sticking:Stmt:=topS 17
abbrev N__law_sticking:List Str:=["_law_many","_law_found","_law_at"]
theorem sc__law_sticking:FnScope N__law_sticking ["_law_many"] (defScope s__law_sticking):=⟨rfl,rfl,rfl,by decide +kernel,rfl,by decide +kernel,by decide +kernel⟩
abbrev s__law_take:Stmt:=topS 14
abbrev N__law_take:List Str:=["_law_bag_here","_law_many","_law_cell","_law_mixed_here","_law_drawn","_law_early","_law_second"]
theorem sc__law_take:FnScope N__law_take ["_law_bag_here","_law_many"] (defScope s__law_take):=⟨rfl,rfl,rfl,by decide +kernel,rfl,by decide +kernel,by decide +kernel⟩
abbrev s__law_counter:Stmt:=topS 18
abbrev N__law_counter:List Str:=["_law_bag_here","_law_many","_law_found","_law_turn","_law_at","_law_less"]
theorem sc__law_counter:FnScope N__law_counter ["_law_bag_here"] (defScope s__law_counter):=⟨rfl,rfl,rfl,by decide +kernel,rfl,by decide +kernel,by decide +kernel⟩
abbrev s__law_handed:Stmt:=topS 20
abbrev N__law_handed:List Str:=["_law_bag_here","_law_marks","_law_found","_law_mark"]
theorem sc__law_handed:FnScope N__law_handed ["_law_bag_here","_law_marks"] (defScope s__law_handed):=⟨rfl,rfl,rfl,by decide +kernel,rfl,by decide +kernel,by decide +kernel⟩
abbrev s_Counter___len__:Stmt:=clsS 11 1
abbrev N_Counter___len__:List Str:=["self"]
theorem sc_Counter___len__:FnScope N_Counter___len__ ["self"] (defScope s_Counter___len__):=⟨rfl,rfl,rfl,by decide +kernel,rfl,by decide +kernel,by decide +kernel⟩
abbrev s_Counter_need_mark:Stmt:=clsS 11 4
abbrev N_Counter_need_mark:List Str:=["self","number"]
theorem sc_Counter_need_mark:FnScope N_Counter_need_mark ["self","number"] (defScope s_Counter_need_mark):=⟨rfl,rfl,rfl,by decide +kernel,rfl,by decide +kernel,by decide +kernel⟩
abbrev s_Counter_copies:Stmt:=clsS 11 7
abbrev N_Counter_copies:List Str:=["self","number"]
theorem sc_Counter_copies:FnScope N_Counter_copies ["self","number"] (defScope s_Counter_copies):=⟨rfl,rfl,rfl,by decide +kernel,rfl,by decide +kernel,by decide +kernel⟩
abbrev s_Counter_less:Stmt:=clsS 11 6
abbrev N_Counter_less:List Str:=["self","number"]
theorem sc_Counter_less:FnScope N_Counter_less ["self","number"] (defScope s_Counter_less):=⟨rfl,rfl,rfl,by decide +kernel,rfl,by decide +kernel,by decide +kernel⟩
abbrev s_Counter_marks:Stmt:=clsS 11 3
abbrev N_Counter_marks:List Str:=["self"]
theorem sc_Counter_marks:FnScope N_Counter_marks ["self"] (defScope s_Counter_marks):=⟨rfl,rfl,rfl,by decide +kernel,rfl,by decide +kernel,by decide +kernel⟩
abbrev s_Counter_more:Stmt:=clsS 11 5
abbrev N_Counter_more:List Str:=["self","number"]
theorem sc_Counter_more:FnScope N_Counter_more ["self","number"] (defScope s_Counter_more):=⟨rfl,rfl,rfl,by decide +kernel,rfl,by decide +kernel,by decide +kernel⟩
abbrev s_Counter_with_mark:Stmt:=clsS 11 8
abbrev N_Counter_with_mark:List Str:=["self","number","mark"]
theorem sc_Counter_with_mark:FnScope N_Counter_with_mark ["self","number","mark"] (defScope s_Counter_with_mark):=⟨rfl,rfl,rfl,by decide +kernel,rfl,by decide +kernel,by decide +kernel⟩
abbrev s__law_heard:Stmt:=topS 21
abbrev N__law_heard:List Str:=["_law_way","_law_counter_here","_law_thing","e"]
theorem sc__law_heard:FnScope N__law_heard ["_law_way","_law_counter_here","_law_thing"] (defScope s__law_heard):=⟨rfl,rfl,rfl,by decide +kernel,rfl,by decide +kernel,by decide +kernel⟩
abbrev s__law_near_counter:Stmt:=topS 19
abbrev N__law_near_counter:List Str:=["_law_bag_here","_law_marks","_law_found","_law_turn","_law_at","_law_many","_law_more","_law_less","_law_copies","_law_way"]
theorem sc__law_near_counter:FnScope N__law_near_counter ["_law_bag_here","_law_marks"] (defScope s__law_near_counter):=⟨rfl,rfl,rfl,by decide +kernel,rfl,by decide +kernel,by decide +kernel⟩
abbrev s__law_mixed:Stmt:=topS 16
abbrev N__law_mixed:List Str:=["_law_bag_here","_law_things","_law_left","_law_found"]
theorem sc__law_mixed:FnScope N__law_mixed ["_law_bag_here","_law_things"] (defScope s__law_mixed):=⟨rfl,rfl,rfl,by decide +kernel,rfl,by decide +kernel,by decide +kernel⟩
abbrev s__law_right:Stmt:=topS 22
abbrev N__law_right:List Str:=["_law_bag_here","_law_counter_here","_law_marks","_law_way","_law_at","_law_told","_law_many","_law_mark","_law_handed_here","_law_other","_law_due","_law_found","_law_wanted","_law_k","_law_one"]
theorem sc__law_right:FnScope N__law_right ["_law_bag_here","_law_counter_here","_law_marks"] (defScope s__law_right):=⟨rfl,rfl,rfl,by decide +kernel,rfl,by decide +kernel,by decide +kernel⟩
abbrev s_law:Stmt:=topS 23
abbrev N_law:List Str:=["_law_script","_law_bag_here","_law_turn","_law_marks","_law_handed_here","_law_counter_here","_law_mark","_law_again","_law_thing","_law_way","_law_k","_law_near","_law_other","_law_same"]
theorem sc_law:FnScope N_law ["_law_script"] (defScope s_law):=⟨rfl,rfl,rfl,by decide +kernel,rfl,by decide +kernel,by decide +kernel⟩
@[irreducible] def g_Counter___eq__:SM :=
  (gRet (eAnd (eUn (dIsi (tabC "Counter" [])) (eVar 1)) (eOp dEqA (eFld ["Counter"] "its_marks" (eVar 0)) (eFld ["Counter"] "its_marks" (eVar 1)))))
def F_Counter___eq__:List DV→Mem→Res R:=callD g_Counter___eq__ 2 0
theorem w_Counter___eq__ {a0 a1:DV}{μ:Mem}{Q:R→Mem→Prop}{E:Xc→Mem→Prop}(h:SatS (g_Counter___eq__ μ.length [some a0,some a1] μ) (endP μ.length Q E)):Sat (F_Counter___eq__ [a0,a1] μ) Q E:=x_call rfl h
@[irreducible] def g_is_integer:SM :=
  (gRet (eAnd (eUn (dIsi (tabT "int" ["Counter"])) (eVar 0)) (eNot (eUn (dIsi (tabT "bool" ["Counter"])) (eVar 0)))))
def F_is_integer:List DV→Mem→Res R:=callD g_is_integer 1 0
theorem w_is_integer {a0:DV}{μ:Mem}{Q:R→Mem→Prop}{E:Xc→Mem→Prop}(h:SatS (g_is_integer μ.length [some a0] μ) (endP μ.length Q E)):Sat (F_is_integer [a0] μ) Q E:=x_call rfl h
@[irreducible] def g_is_number:SM :=
  (gRet (eAnd (eCB F_is_integer (aCons (eVar 0) aNil)) (eChain dLe dLt (eD (.int 0)) (eVar 0) (eVar 1))))
def F_is_number:List DV→Mem→Res R:=callD g_is_number 2 0
theorem w_is_number {a0 a1:DV}{μ:Mem}{Q:R→Mem→Prop}{E:Xc→Mem→Prop}(h:SatS (g_is_number μ.length [some a0,some a1] μ) (endP μ.length Q E)):Sat (F_is_number [a0,a1] μ) Q E:=x_call rfl h
@[irreducible] def g_is_mark:SM :=
  (gSeq (gIf (tmOr (tmNot (tmB (eUn (dIsi (tabT2 "list" "tuple" ["Counter"])) (eVar 0)))) (tmOr (tmB (eOp dNe (eCB dLenA (aCons (eVar 0) aNil)) (eD (.int 3)))) (tmNot (tmB (eCB F_is_number (aCons (eOp dIxA (eVar 0) (eD (.int 0))) (aCons (eVar 1) aNil))))))) (gRet (eD (.bl false))) gNext)
  (gRet (eAnd (eOr (eIsN (eOp dIxA (eVar 0) (eD (.int 1)))) (eCB F_is_number (aCons (eOp dIxA (eVar 0) (eD (.int 1))) (aCons (eVar 1) aNil)))) (eUn (dIsi (tabT "bool" ["Counter"])) (eOp dIxA (eVar 0) (eD (.int 2)))))))
def F_is_mark:List DV→Mem→Res R:=callD g_is_mark 2 0
theorem w_is_mark {a0 a1:DV}{μ:Mem}{Q:R→Mem→Prop}{E:Xc→Mem→Prop}(h:SatS (g_is_mark μ.length [some a0,some a1] μ) (endP μ.length Q E)):Sat (F_is_mark [a0,a1] μ) Q E:=x_call rfl h
@[irreducible] def g_are_marks:SM :=
  (gSeq (gIf (tmOr (tmNot (tmB (eUn (dIsiB (tabT2 "list" "tuple" ["Counter"])) (eVar 0)))) (tmNot (tmB (eChain dLe dLe (eD (.int 1)) (eCB dLenB (aCons (eVar 0) aNil)) (eD (.int 6)))))) (gRet (eD (.bl false))) gNext)
  (gRet (eCB (d1 (dAll fun bs=>bs.all id)) (aCons (altE (eLc (imSeq (eVar 0)) (tgName 1) tmYes (eCB F_is_mark (aCons (eVar 1) (aCons (eCB dLenB (aCons (eVar 0) aNil)) aNil))) [1]) (eLcP (eVar 0) 1 tmYes (eCB F_is_mark (aCons (eVar 1) (aCons (eCB dLenB (aCons (eVar 0) aNil)) aNil))) [1])) aNil))))
def F_are_marks:List DV→Mem→Res R:=callD g_are_marks 1 1
theorem w_are_marks {a0:DV}{μ:Mem}{Q:R→Mem→Prop}{E:Xc→Mem→Prop}(h:SatS (g_are_marks μ.length [some a0,none] μ) (endP μ.length Q E)):Sat (F_are_marks [a0] μ) Q E:=x_call rfl h
@[irreducible] def g_Counter___init__:SM :=
  (gSeq (gIf (tmNot (tmB (eCB F_are_marks (aCons (eVar 1) aNil)))) gBad gNext)
  (gFld ["Counter"] "its_marks" (eVar 0) (altE (eLc (imSeq (eVar 1)) (tgName 2) tmYes (eCB (d1 dTuple) (aCons (eVar 2) aNil)) [2]) (eLcP (eVar 1) 2 tmYes (eCB (d1 dTuple) (aCons (eVar 2) aNil)) [2]))))
def F_Counter___init__:List DV→Mem→Res R:=callD g_Counter___init__ 2 1
theorem w_Counter___init__ {a0 a1:DV}{μ:Mem}{Q:R→Mem→Prop}{E:Xc→Mem→Prop}(h:SatS (g_Counter___init__ μ.length [some a0,some a1,none] μ) (endP μ.length Q E)):Sat (F_Counter___init__ [a0,a1] μ) Q E:=x_call rfl h
@[irreducible] def g__law_alike:SM :=
  (gRet (eAnd (eOp dEqA (eVar 0) (eVar 1)) (eOp dEqA (eCB dReprA (aCons (eVar 0) aNil)) (eCB dReprA (aCons (eVar 1) aNil)))))
def F__law_alike:List DV→Mem→Res R:=callD g__law_alike 2 0
theorem e__law_alike:F__law_alike=callD gAlikeA 2 0:=by unfold F__law_alike g__law_alike gAlikeA;try rfl
@[irreducible] def g__law_bag:SM :=
  (gRet (eLst (aCons (eD (.int 0)) (aCons (eD (.int 1234567891)) (aCons (eD (.int 0)) (aCons (eLc (imSeq (eSl (eVar 0) oNone (oSome (eD (.int 63))))) (tgName 1) tmYes (eCB (d1 dAbs) (aCons (eVar 1) aNil)) [1]) aNil))))))
def F__law_bag:List DV→Mem→Res R:=callD g__law_bag 1 1
theorem e__law_bag:F__law_bag=callD gBag 1 1:=by unfold F__law_bag g__law_bag gBag;try rfl
@[irreducible] def g__law_sticking:SM :=
  (gSeq (gAsg 1 (eOp dAdd (eLst (aCons (eTup (aCons (eD (.int 1)) (aCons (eD .non) (aCons (eD (.bl false)) aNil)))) aNil)) (eLc (imRng2 (aCons (eD (.int 1)) (aCons (eOp dSub (eVar 0) (eD (.int 1))) aNil))) (tgName 2) tmYes (eTup (aCons (eOp dAdd (eVar 2) (eD (.int 1))) (aCons (eOp dSub (eVar 2) (eD (.int 1))) (aCons (eD (.bl true)) aNil)))) [2])))
  (gRet (eIf (tmB (eOp dGt (eVar 0) (eD (.int 1)))) (eOp dAdd (eVar 1) (eLst (aCons (eTup (aCons (eOp dSub (eVar 0) (eD (.int 1))) (aCons (eOp dSub (eVar 0) (eD (.int 1))) (aCons (eD (.bl true)) aNil)))) aNil))) (eLst (aCons (eTup (aCons (eD (.int 0)) (aCons (eD (.int 0)) (aCons (eD (.bl true)) aNil)))) aNil)))))
def F__law_sticking:List DV→Mem→Res R:=callD g__law_sticking 1 2
theorem w__law_sticking {a0:DV}{μ:Mem}{Q:R→Mem→Prop}{E:Xc→Mem→Prop}(h:SatS (g__law_sticking μ.length [some a0,none,none] μ) (endP μ.length Q E)):Sat (F__law_sticking [a0] μ) Q E:=x_call rfl h
@[irreducible] def g__law_take:SM :=
  (gSeq (gIf (tmB (eOp dEq (eOp dIx (eVar 0) (eD (.int 0))) (eD (.int 0)))) (gSeq (gAsg 2 (eD (.int 0)))
  (gSeq (gIf (tmB (eOp dLt (eOp dIx (eVar 0) (eD (.int 2))) (eCB (d1 dLen) (aCons (eOp dIx (eVar 0) (eD (.int 3))) aNil)))) (gAsg 2 (eOp dIx (eOp dIx (eVar 0) (eD (.int 3))) (eOp dIx (eVar 0) (eD (.int 2))))) gNext)
  (gSeq (gAugS (fun i j=>i+j) (eVar 0) (eD (.int 2)) (eD (.int 1)))
  (gSeq (gIf (tmB (eOp dGe (eVar 2) (eD (.int 1000000000000000000)))) (gSet (eVar 0) (eD (.int 0)) (eVar 2)) gNext)
  (gSeq (gAsg 3 (eOp dAdd (eOp dAdd (eOp dMul (eOp dIx (eVar 0) (eD (.int 1))) (eD (.int 48271))) (eOp dMod (eCB (d1 dInt) (aCons (eVar 2) aNil)) (eD (.int 2147483647)))) (eOp dMul (eD (.int 7919)) (eOp dIx (eVar 0) (eD (.int 2))))))
  (gSet (eVar 0) (eD (.int 1)) (eOp dMod (eCB (d1 dInt) (aCons (eVar 3) aNil)) (eD (.int 2147483647))))))))) gNext)
  (gSeq (gIf (tmB (eOp dGt (eOp dIx (eVar 0) (eD (.int 0))) (eD (.int 0)))) (gSeq (gAsg 4 (eOp dMod (eCB (d1 dInt) (aCons (eOp dIx (eVar 0) (eD (.int 0))) aNil)) (eVar 1)))
  (gSeq (gSet (eVar 0) (eD (.int 0)) (eOp dDiv (eCB (d1 dInt) (aCons (eOp dIx (eVar 0) (eD (.int 0))) aNil)) (eVar 1)))
  (gRet (eVar 4)))) gNext)
  (gSeq (gAsg 5 (eOp dMod (eCB (d1 dInt) (aCons (eOp dMul (eOp dAdd (eOp dIx (eVar 0) (eD (.int 1))) (eD (.int 1))) (eD (.int 39373))) aNil)) (eD (.int 1000000007))))
  (gSeq (gAsg 6 (eOp dMod (eCB (d1 dInt) (aCons (eOp dMul (eOp dMod (eCB (d1 dInt) (aCons (eOp dMul (eVar 5) (eVar 5)) aNil)) (eD (.int 998244353))) (eD (.int 30011))) aNil)) (eD (.int 998244353))))
  (gRet (eOp dMod (eCB (d1 dInt) (aCons (eOp dDiv (eVar 6) (eD (.int 7))) aNil)) (eVar 1)))))))
def F__law_take:List DV→Mem→Res R:=callD g__law_take 2 5
theorem e__law_take:F__law_take=callD gTake 2 5:=by unfold F__law_take g__law_take gTake;try rfl
@[irreducible] def b__law_counter_1:SM :=
  (gSeq (gAsg 4 (eCB F__law_take (aCons (eVar 0) (aCons (eVar 1) aNil))))
  (gSeq (gAsg 5 (eOp dIxA (eLst (aCons (eD .non) (aCons (eCB F__law_take (aCons (eVar 0) (aCons (eVar 1) aNil))) aNil))) (eCB F__law_take (aCons (eVar 0) (aCons (eD (.int 2)) aNil)))))
  (gSet (eVar 2) (eVar 4) (eTup (aCons (eCB F__law_take (aCons (eVar 0) (aCons (eVar 1) aNil))) (aCons (eVar 5) (aCons (eOp dEqA (eCB F__law_take (aCons (eVar 0) (aCons (eD (.int 2)) aNil))) (eD (.int 0))) aNil)))))))
@[irreducible] def g__law_counter:SM :=
  (gSeq (gAsg 1 (eOp dAdd (eD (.int 1)) (eCB F__law_take (aCons (eVar 0) (aCons (eD (.int 6)) aNil)))))
  (gSeq (gNew 2 (eCB F__law_sticking (aCons (eVar 1) aNil)))
  (gSeq (gIf (tmB (eOp dGt (eCB F__law_take (aCons (eVar 0) (aCons (eD (.int 3)) aNil))) (eD (.int 0)))) (gRet (eVar 2)) gNext)
  (gSeq (gFor [true,true,true,false,false,false] (imRng (aCons (eOp dAdd (eD (.int 1)) (eCB F__law_take (aCons (eVar 0) (aCons (eD (.int 3)) aNil)))) aNil)) (tgName 3) b__law_counter_1)
  (gRet (eVar 2))))))
def F__law_counter:List DV→Mem→Res R:=callD g__law_counter 1 5
theorem w__law_counter {a0:DV}{μ:Mem}{Q:R→Mem→Prop}{E:Xc→Mem→Prop}(h:SatS (g__law_counter μ.length [some a0,none,none,none,none,none] μ) (endP μ.length Q E)):Sat (F__law_counter [a0] μ) Q E:=x_call rfl h
@[irreducible] def g__law_handed:SM :=
  (gSeq (gAsgX 2 (xLc (imSeq (eVar 1)) (tgName 3) tmYes (xIf (tmB (eOp dEqA (eCB F__law_take (aCons (eVar 0) (aCons (eD (.int 2)) aNil))) (eD (.int 0)))) (xOf (eCB dListA (aCons (eVar 3) aNil))) (xOf (eVar 3))) [3]))
  (gRetX (xIf (tmB (eOp dEqA (eCB F__law_take (aCons (eVar 0) (aCons (eD (.int 2)) aNil))) (eD (.int 0)))) (xOf (eVar 2)) (xTupL (xOf (eVar 2))))))
def F__law_handed:List DV→Mem→Res DV:=callDX g__law_handed 2 2
theorem w__law_handed {a0 a1:DV}{μ:Mem}{Q:DV→Mem→Prop}{E:Xc→Mem→Prop}(h:SatS (g__law_handed μ.length [some a0,some a1,none,none] μ) (endX μ.length Q E)):Sat (F__law_handed [a0,a1] μ) Q E:=x_callX rfl h
@[irreducible] def g_Counter___len__:SM :=
  (gRet (eCB dLenA (aCons (eFld ["Counter"] "its_marks" (eVar 0)) aNil)))
def F_Counter___len__:List DV→Mem→Res R:=callD g_Counter___len__ 1 0
theorem w_Counter___len__ {a0:DV}{μ:Mem}{Q:R→Mem→Prop}{E:Xc→Mem→Prop}(h:SatS (g_Counter___len__ μ.length [some a0] μ) (endP μ.length Q E)):Sat (F_Counter___len__ [a0] μ) Q E:=x_call rfl h
@[irreducible] def g_Counter_need_mark:SM :=
  (gIf (tmNot (tmB (eCB F_is_number (aCons (eVar 1) (aCons (eLenO "Counter" F_Counter___len__ (eVar 0)) aNil))))) (gRaise "NoMark" "number" (eVar 1)) gNext)
def F_Counter_need_mark:List DV→Mem→Res R:=callD g_Counter_need_mark 2 0
theorem w_Counter_need_mark {a0 a1:DV}{μ:Mem}{Q:R→Mem→Prop}{E:Xc→Mem→Prop}(h:SatS (g_Counter_need_mark μ.length [some a0,some a1] μ) (endP μ.length Q E)):Sat (F_Counter_need_mark [a0,a1] μ) Q E:=x_call rfl h
@[irreducible] def g_Counter_copies:SM :=
  (gSeq (gDrop (eMeth "Counter" "need_mark" F_Counter_need_mark (eVar 0) (aCons (eVar 1) aNil)))
  (gRet (eOp dIxA (eOp dIxA (eFld ["Counter"] "its_marks" (eVar 0)) (eVar 1)) (eD (.int 2)))))
def F_Counter_copies:List DV→Mem→Res R:=callD g_Counter_copies 2 0
theorem w_Counter_copies {a0 a1:DV}{μ:Mem}{Q:R→Mem→Prop}{E:Xc→Mem→Prop}(h:SatS (g_Counter_copies μ.length [some a0,some a1] μ) (endP μ.length Q E)):Sat (F_Counter_copies [a0,a1] μ) Q E:=x_call rfl h
@[irreducible] def g_Counter_less:SM :=
  (gSeq (gDrop (eMeth "Counter" "need_mark" F_Counter_need_mark (eVar 0) (aCons (eVar 1) aNil)))
  (gRet (eOp dIxA (eOp dIxA (eFld ["Counter"] "its_marks" (eVar 0)) (eVar 1)) (eD (.int 1)))))
def F_Counter_less:List DV→Mem→Res R:=callD g_Counter_less 2 0
theorem w_Counter_less {a0 a1:DV}{μ:Mem}{Q:R→Mem→Prop}{E:Xc→Mem→Prop}(h:SatS (g_Counter_less μ.length [some a0,some a1] μ) (endP μ.length Q E)):Sat (F_Counter_less [a0,a1] μ) Q E:=x_call rfl h
@[irreducible] def g_Counter_marks:SM :=
  (gRet (eCB dListA (aCons (eFld ["Counter"] "its_marks" (eVar 0)) aNil)))
def F_Counter_marks:List DV→Mem→Res R:=callD g_Counter_marks 1 0
theorem w_Counter_marks {a0:DV}{μ:Mem}{Q:R→Mem→Prop}{E:Xc→Mem→Prop}(h:SatS (g_Counter_marks μ.length [some a0] μ) (endP μ.length Q E)):Sat (F_Counter_marks [a0] μ) Q E:=x_call rfl h
@[irreducible] def g_Counter_more:SM :=
  (gSeq (gDrop (eMeth "Counter" "need_mark" F_Counter_need_mark (eVar 0) (aCons (eVar 1) aNil)))
  (gRet (eOp dIxA (eOp dIxA (eFld ["Counter"] "its_marks" (eVar 0)) (eVar 1)) (eD (.int 0)))))
def F_Counter_more:List DV→Mem→Res R:=callD g_Counter_more 2 0
theorem w_Counter_more {a0 a1:DV}{μ:Mem}{Q:R→Mem→Prop}{E:Xc→Mem→Prop}(h:SatS (g_Counter_more μ.length [some a0,some a1] μ) (endP μ.length Q E)):Sat (F_Counter_more [a0,a1] μ) Q E:=x_call rfl h
@[irreducible] def g_Counter_with_mark:SM :=
  (gSeq (gDrop (eMeth "Counter" "need_mark" F_Counter_need_mark (eVar 0) (aCons (eVar 1) aNil)))
  (gSeq (gIf (tmNot (tmB (eCB F_is_mark (aCons (eVar 2) (aCons (eLenO "Counter" F_Counter___len__ (eVar 0)) aNil))))) (gRaise "Wrong" "place" (eD (.int 1))) gNext)
  (gRet (eCut (yMake "Counter" F_Counter___init__ (xaCons (xOp dAdd (xOp dAdd (xOf (eSl (eFld ["Counter"] "its_marks" (eVar 0)) oNone (oSome (eVar 1)))) (xLst (xaCons (xOf (eVar 2)) xaNil))) (xOf (eSl (eFld ["Counter"] "its_marks" (eVar 0)) (oSome (eOp dAdd (eVar 1) (eD (.int 1)))) oNone))) xaNil))))))
def F_Counter_with_mark:List DV→Mem→Res R:=callD g_Counter_with_mark 3 0
theorem w_Counter_with_mark {a0 a1 a2:DV}{μ:Mem}{Q:R→Mem→Prop}{E:Xc→Mem→Prop}(h:SatS (g_Counter_with_mark μ.length [some a0,some a1,some a2] μ) (endP μ.length Q E)):Sat (F_Counter_with_mark [a0,a1,a2] μ) Q E:=x_call rfl h
@[irreducible] def b__law_heard_1:SM :=
  (gSeq (gIf (tmB (eOp dEqA (eVar 0) (eD (.int 0)))) (gRet (eTup (aCons (eD (.str "told")) (aCons (eMeth "Counter" "more" F_Counter_more (eVar 1) (aCons (eVar 2) aNil)) aNil)))) gNext)
  (gSeq (gIf (tmB (eOp dEqA (eVar 0) (eD (.int 1)))) (gRet (eTup (aCons (eD (.str "told")) (aCons (eMeth "Counter" "less" F_Counter_less (eVar 1) (aCons (eVar 2) aNil)) aNil)))) gNext)
  (gSeq (gIf (tmB (eOp dEqA (eVar 0) (eD (.int 2)))) (gRet (eTup (aCons (eD (.str "told")) (aCons (eMeth "Counter" "copies" F_Counter_copies (eVar 1) (aCons (eVar 2) aNil)) aNil)))) gNext)
  (gRet (eTup (aCons (eD (.str "told")) (aCons (eMeth "Counter" "marks" F_Counter_marks (eMeth "Counter" "with_mark" F_Counter_with_mark (eVar 1) (aCons (eVar 2) (aCons (eD .non) aNil))) aNil) aNil)))))))
@[irreducible] def g__law_heard:SM :=
  (gTry [("NoMark",true),("Wrong",true)] 3 b__law_heard_1 (fun a C dd=>(gSeq (gIf (tmB (eOp dEqA (eIsE 3 a C dd [("NoMark",true),("Wrong",false)]) (eIsE 3 a C dd [("NoMark",false),("Wrong",true)]))) (gRet (eTup (aCons (eD (.str "other")) (aCons (eD .non) aNil)))) gNext)
  (gRet (eIf (tmB (eIsE 3 a C dd [("NoMark",true),("Wrong",false)])) (eTup (aCons (eD (.str "none")) (aCons (eXf 3 a C dd "NoMark" "number") aNil))) (eTup (aCons (eD (.str "wrong")) (aCons (eXf 3 a C dd "Wrong" "place") aNil))))))))
def F__law_heard:List DV→Mem→Res R:=callD0 g__law_heard 3 1
theorem w__law_heard {a0 a1 a2:DV}{μ:Mem}{Q:R→Mem→Prop}{E:Xc→Mem→Prop}(h:SatS (g__law_heard μ.length [some a0,some a1,some a2,none] μ) (endP μ.length Q (fun _ _=>False))):Sat (F__law_heard [a0,a1,a2] μ) Q E:=x_call0 rfl h
@[irreducible] def b__law_near_counter_1:SM :=
  (gSeq (gPar 4 5 (aCons (eCB F__law_take (aCons (eVar 0) (aCons (eCB dLenA (aCons (eVar 2) aNil)) aNil))) (aCons (eCB dLenA (aCons (eVar 2) aNil)) aNil)))
  (gSeq (gTgt (tgTup 3 (tgCons (tgName 6) (tgCons (tgName 7) (tgCons (tgName 8) tgNil)))) (eOp dIxA (eVar 2) (eVar 4)))
  (gSeq (gAsg 9 (eCB F__law_take (aCons (eVar 0) (aCons (eD (.int 4)) aNil))))
  (gSeq (gIf (tmB (eOp dEqA (eVar 9) (eD (.int 0)))) (gAsg 6 (eCB F__law_take (aCons (eVar 0) (aCons (eVar 5) aNil)))) gNext)
  (gSeq (gIf (tmB (eOp dEqA (eVar 9) (eD (.int 1)))) (gAsg 7 (eOp dIxA (eLst (aCons (eD .non) (aCons (eCB F__law_take (aCons (eVar 0) (aCons (eVar 5) aNil))) aNil))) (eCB F__law_take (aCons (eVar 0) (aCons (eD (.int 2)) aNil))))) gNext)
  (gSeq (gIf (tmB (eOp dEqA (eVar 9) (eD (.int 2)))) (gAsg 8 (eNot (eVar 8))) gNext)
  (gSeq (gSet (eVar 2) (eVar 4) (eTup (aCons (eVar 6) (aCons (eVar 7) (aCons (eVar 8) aNil)))))
  (gIf (tmAnd (tmB (eOp dEqA (eVar 9) (eD (.int 3)))) (tmB (eOp dLt (eVar 5) (eD (.int 6))))) (gSeq (gDrop (eBM tyL dAppend (eVar 2) (aCons (eOp dIxA (eVar 2) (eVar 4)) aNil)))
  (gSet (eVar 2) (eCB F__law_take (aCons (eVar 0) (aCons (eVar 5) aNil))) (eOp dAdd (eTup (aCons (eVar 5) aNil)) (eSl (eOp dIxA (eVar 2) (eCB F__law_take (aCons (eVar 0) (aCons (eVar 5) aNil)))) (oSome (eD (.int 1))) oNone)))) gNext))))))))
@[irreducible] def g__law_near_counter:SM :=
  (gSeq (gNew 2 (eCB dListA (aCons (eVar 1) aNil)))
  (gSeq (gFor [true,true,true,false,false,false,false,false,false,false] (imRng (aCons (eCB F__law_take (aCons (eVar 0) (aCons (eD (.int 3)) aNil))) aNil)) (tgName 3) b__law_near_counter_1)
  (gRet (eVar 2))))
def F__law_near_counter:List DV→Mem→Res R:=callD g__law_near_counter 2 8
theorem w__law_near_counter {a0 a1:DV}{μ:Mem}{Q:R→Mem→Prop}{E:Xc→Mem→Prop}(h:SatS (g__law_near_counter μ.length [some a0,some a1,none,none,none,none,none,none,none,none] μ) (endP μ.length Q E)):Sat (F__law_near_counter [a0,a1] μ) Q E:=x_call rfl h
@[irreducible] def b__law_mixed_1:SM :=
  (gDrop (eBM tyL dAppend (eVar 3) (aCons (eBM tyL dPop (eVar 2) (aCons (eCB F__law_take (aCons (eVar 0) (aCons (eCB (d1 dLen) (aCons (eVar 2) aNil)) aNil))) aNil)) aNil)))
@[irreducible] def g__law_mixed:SM :=
  (gSeq (gPar2 2 3 (eCB (d1 dList) (aCons (eVar 1) aNil)) (eLst aNil))
  (gSeq (gWh 100000 [true,true,true,true] (tmB (eOp dNe (eVar 2) (eLst aNil))) b__law_mixed_1)
  (gRet (eVar 3))))
def F__law_mixed:List DV→Mem→Res R:=callD g__law_mixed 2 2
theorem e__law_mixed:F__law_mixed=callD gMixed 2 2:=by unfold F__law_mixed g__law_mixed gMixed b__law_mixed_1;rw[e__law_take];try rfl
@[irreducible] def b__law_right_1:SM :=
  (gIf (tmNot (tmB (eCB F__law_alike (aCons (eCB F__law_heard (aCons (eVar 3) (aCons (eVar 1) (aCons (eVar 4) aNil)))) (aCons (eTup (aCons (eD (.str "told")) (aCons (eOp dIxA (eOp dIxA (eVar 2) (eVar 4)) (eVar 3)) aNil))) aNil))))) (gRet (eD (.bl false))) gNext)
@[irreducible] def b__law_right_2:SM :=
  (gIf (tmB (eOp dLt (eVar 3) (eD (.int 3)))) (gFor [true,true,true,true,false,false,false,false,false,false,false,false,false,false,false] (imSeq (eCB F__law_mixed (aCons (eVar 0) (aCons (eListRng (eCB dLenA (aCons (eVar 2) aNil))) aNil)))) (tgName 4) b__law_right_1) (gIf (tmB (eOp dEqA (eVar 3) (eD (.int 3)))) (gSeq (gNew 5 (eMeth "Counter" "marks" F_Counter_marks (eVar 1) aNil))
  (gSeq (gIf (tmOr (tmNot (tmB (eCB F__law_alike (aCons (eVar 5) (aCons (eVar 2) aNil))))) (tmB (eOp dNe (eLenO "Counter" F_Counter___len__ (eVar 1)) (eCB dLenA (aCons (eVar 2) aNil))))) (gRet (eD (.bl false))) gNext)
  (gDrop (eBM0 tyL dClear (eVar 5))))) (gSeq (gPar 4 6 (aCons (eCB F__law_take (aCons (eVar 0) (aCons (eCB dLenA (aCons (eVar 2) aNil)) aNil))) (aCons (eCB dLenA (aCons (eVar 2) aNil)) aNil)))
  (gSeq (gAsg 7 (eTup (aCons (eCB F__law_take (aCons (eVar 0) (aCons (eVar 6) aNil))) (aCons (eOp dIxA (eLst (aCons (eD .non) (aCons (eCB F__law_take (aCons (eVar 0) (aCons (eVar 6) aNil))) aNil))) (eCB F__law_take (aCons (eVar 0) (aCons (eD (.int 2)) aNil)))) (aCons (eOp dEqA (eCB F__law_take (aCons (eVar 0) (aCons (eD (.int 2)) aNil))) (eD (.int 0))) aNil)))))
  (gSeq (gAsgX 8 (xIf (tmB (eOp dEqA (eCB F__law_take (aCons (eVar 0) (aCons (eD (.int 2)) aNil))) (eD (.int 0)))) (xOf (eCB dListA (aCons (eVar 7) aNil))) (xOf (eVar 7))))
  (gSeq (gTgt (tgTup 2 (tgCons (tgName 9) (tgCons (tgName 10) tgNil))) (eTup (aCons (eMeth "Counter" "with_mark" F_Counter_with_mark (eVar 1) (aCons (eVar 4) (aCons (eVar 8) aNil))) (aCons (eOp dAdd (eOp dAdd (eSl (eVar 2) oNone (oSome (eVar 4))) (eLst (aCons (eVar 7) aNil))) (eSl (eVar 2) (oSome (eOp dAdd (eVar 4) (eD (.int 1)))) oNone)) aNil))))
  (gSeq (gIf (tmB (eUn (dIsi (tabT "list" ["Counter"])) (eVar 8))) (gDrop (eBM0 tyL dClear (eVar 8))) gNext)
  (gSeq (gAsg 11 (eLst (aCons (eMeth "Counter" "marks" F_Counter_marks (eVar 9) aNil) (aCons (eLc (imRng (aCons (eVar 6) aNil)) (tgName 13) tmYes (eMeth "Counter" "more" F_Counter_more (eVar 9) (aCons (eVar 13) aNil)) [13]) (aCons (eLc (imRng (aCons (eVar 6) aNil)) (tgName 13) tmYes (eMeth "Counter" "less" F_Counter_less (eVar 9) (aCons (eVar 13) aNil)) [13]) aNil)))))
  (gSeq (gAsg 11 (eOp dAdd (eVar 11) (eLst (aCons (eLc (imRng (aCons (eVar 6) aNil)) (tgName 13) tmYes (eMeth "Counter" "copies" F_Counter_copies (eVar 9) (aCons (eVar 13) aNil)) [13]) (aCons (eLenO "Counter" F_Counter___len__ (eVar 9)) aNil)))))
  (gSeq (gAsg 12 (eLst (aCons (eVar 10) (aCons (eLc (imSeq (eVar 10)) (tgName 14) tmYes (eOp dIxA (eVar 14) (eD (.int 0))) [14]) (aCons (eLc (imSeq (eVar 10)) (tgName 14) tmYes (eOp dIxA (eVar 14) (eD (.int 1))) [14]) (aCons (eLc (imSeq (eVar 10)) (tgName 14) tmYes (eOp dIxA (eVar 14) (eD (.int 2))) [14]) (aCons (eVar 6) aNil)))))))
  (gIf (tmOr (tmNot (tmB (eCB F__law_alike (aCons (eVar 11) (aCons (eVar 12) aNil))))) (tmNot (tmB (eEqO "Counter" [] F_Counter___eq__ (eVar 9) (eMake "Counter" F_Counter___init__ (aCons (eVar 10) aNil)))))) (gRet (eD (.bl false))) gNext)))))))))))
@[irreducible] def g__law_right:SM :=
  (gSeq (gFor [true,true,true,false,false,false,false,false,false,false,false,false,false,false,false] (imSeq (eCB F__law_mixed (aCons (eVar 0) (aCons (eLst (aCons (eD (.int 0)) (aCons (eD (.int 1)) (aCons (eD (.int 2)) (aCons (eD (.int 3)) (aCons (eD (.int 4)) aNil)))))) aNil)))) (tgName 3) b__law_right_2)
  (gRet (eD (.bl true))))
def F__law_right:List DV→Mem→Res R:=callD0 g__law_right 3 12
theorem w__law_right {a0 a1 a2:DV}{μ:Mem}{Q:R→Mem→Prop}{E:Xc→Mem→Prop}(h:SatS (g__law_right μ.length [some a0,some a1,some a2,none,none,none,none,none,none,none,none,none,none,none,none] μ) (endP μ.length Q (fun _ _=>False))):Sat (F__law_right [a0,a1,a2] μ) Q E:=x_call0 rfl h
@[irreducible] def b_law_1:SM :=
  (gIf (tmB (eUn (dIsi (tabT "list" ["Counter"])) (eVar 6))) (gDrop (eBM0 tyL dClear (eVar 6))) gNext)
@[irreducible] def b_law_2:SM :=
  (gIf (tmNot (tmB (eCB F__law_right (aCons (eVar 1) (aCons (eVar 5) (aCons (eVar 3) aNil)))))) (gRet (eD (.bl false))) gNext)
@[irreducible] def b_law_3:SM :=
  (gIf (tmNot (tmB (eCB F__law_alike (aCons (eCB F__law_heard (aCons (eVar 9) (aCons (eVar 5) (aCons (eVar 8) aNil)))) (aCons (eTup (aCons (eD (.str "none")) (aCons (eVar 8) aNil))) aNil))))) (gRet (eD (.bl false))) gNext)
@[irreducible] def b_law_4:SM :=
  (gFor [true,true,true,true,true,true,false,false,true,false,false,false,false,false] (imRng (aCons (eD (.int 4)) aNil)) (tgName 9) b_law_3)
@[irreducible] def b_law_5:SM :=
  (gSeq (gAsg 11 (eCB F__law_near_counter (aCons (eVar 1) (aCons (eVar 3) aNil))))
  (gSeq (gPar 12 13 (aCons (eMake "Counter" F_Counter___init__ (aCons (eVar 11) aNil)) (aCons (eOp dEqA (eVar 11) (eVar 3)) aNil)))
  (gIf (tmNot (tmB (eCB F__law_alike (aCons (eLst (aCons (eEqO "Counter" [] F_Counter___eq__ (eVar 5) (eVar 12)) (aCons (eEqO "Counter" [] F_Counter___eq__ (eVar 12) (eVar 5)) (aCons (eNeO "Counter" [] F_Counter___eq__ (eVar 5) (eVar 12)) aNil)))) (aCons (eLst (aCons (eVar 13) (aCons (eVar 13) (aCons (eNot (eVar 13)) aNil)))) aNil))))) (gRet (eD (.bl false))) gNext)))
@[irreducible] def b_law_6:SM :=
  (gSeq (gAsg 3 (eCB F__law_counter (aCons (eVar 1) aNil)))
  (gSeq (gAsgX 4 (xCall F__law_handed (aCons (eVar 1) (aCons (eVar 3) aNil))))
  (gSeq (gAsg 5 (eMake "Counter" F_Counter___init__ (aCons (eVar 4) aNil)))
  (gSeq (gForPT [true,true,true,true,true,true,false,false,false,false,false,false,false,false] (eVar 4) 6 b_law_1)
  (gSeq (gIf (tmB (eUn (dIsiB (tabT "list" ["Counter"])) (eVar 4))) (gDrop (eBM0 tyL dClear (eVar 4))) gNext)
  (gSeq (gFor [true,true,true,true,true,true,false,false,false,false,false,false,false,false] (imRng (aCons (eD (.int 2)) aNil)) (tgName 7) b_law_2)
  (gSeq (gFor [true,true,true,true,true,true,false,false,false,false,false,false,false,false] (imSeq (eTup (aCons (eUn dNeg (eD (.int 1))) (aCons (eCB dLenA (aCons (eVar 3) aNil)) (aCons (eOp dAdd (eCB dLenA (aCons (eVar 3) aNil)) (eD (.int 7))) (aCons (eD (.bl true)) (aCons (eD (.bl false)) (aCons (eD .non) (aCons (eD (.str "0")) (aCons (eTup aNil) (aCons (eLst aNil) (aCons (eLk eDNew) (aCons (eTup (aCons (eD (.int 0)) aNil)) (aCons (eOp dPow (eD (.int 10)) (eD (.int 30))) aNil)))))))))))))) (tgName 8) b_law_4)
  (gSeq (gFor [true,true,true,true,true,true,false,false,false,false,false,false,false,false] (imRng (aCons (eD (.int 3)) aNil)) (tgName 10) b_law_5)
  (gIf (tmOr (tmNot (tmB (eEqO "Counter" [] F_Counter___eq__ (eVar 5) (eMake "Counter" F_Counter___init__ (aCons (eCB (d1 dTuple) (aCons (eVar 3) aNil)) aNil))))) (tmOr (tmB (eEqO "Counter" [] F_Counter___eq__ (eVar 5) (eVar 3))) (tmOr (tmB (eEqO "Counter" [] F_Counter___eq__ (eVar 5) (eD .non))) (tmB (eEqO "Counter" [] F_Counter___eq__ (eVar 5) (eCB dLenA (aCons (eVar 3) aNil))))))) (gRet (eD (.bl false))) gNext)))))))))
@[irreducible] def g_law:SM :=
  (gSeq (gNew 1 (eCB F__law_bag (aCons (eVar 0) aNil)))
  (gSeq (gFor [true,true,false,false,false,false,false,false,false,false,false,false,false,false] (imRng (aCons (eD (.int 5)) aNil)) (tgName 2) b_law_6)
  (gRet (eD (.bl true)))))
def F_law:List DV→Mem→Res R:=callD g_law 1 13
theorem w_law {a0:DV}{μ:Mem}{Q:R→Mem→Prop}{E:Xc→Mem→Prop}(h:SatS (g_law μ.length [some a0,none,none,none,none,none,none,none,none,none,none,none,none,none] μ) (endP μ.length Q E)):Sat (F_law [a0] μ) Q E:=x_call rfl h
structure Tx (P:Program)(w:World)(K:PySem.W.Frag)(mg:Str→Option Value)(c_Counter:Addr)(c_CountError:Addr)(c_NoMark:Addr)(c_Wrong:Addr)(i_NoMark:Addr)(i_Wrong:Addr):Prop where
 m_abs:mg "abs"=none
 m_all:mg "all"=none
 m_bool:mg "bool"=none
 m_int:mg "int"=none
 m_isinstance:mg "isinstance"=none
 m_len:mg "len"=none
 m_list:mg "list"=none
 m_range:mg "range"=none
 m_repr:mg "repr"=none
 m_tuple:mg "tuple"=none
 g_MOST_MARKS:∃ t,mg "MOST_MARKS"=some (.int 6 t)
 g_Counter:mg "Counter"=some (.ref c_Counter)
 k_Counter:ClsAt K "Counter" c_Counter
 g_CountError:mg "CountError"=some (.ref c_CountError)
 k_CountError:ClsAt K "CountError" c_CountError
 g_NoMark:mg "NoMark"=some (.ref c_NoMark)
 k_NoMark:ClsAt K "NoMark" c_NoMark
 g_Wrong:mg "Wrong"=some (.ref c_Wrong)
 k_Wrong:ClsAt K "Wrong" c_Wrong
 ct_CountError:CatOk K (.ref c_CountError) ([("NoMark",true),("Wrong",true)]:List (Str×Bool))
 er_NoMark:DX.ErrTxt P K mg "NoMark" "number" c_NoMark i_NoMark
 er_Wrong:DX.ErrTxt P K mg "Wrong" "place" c_Wrong i_Wrong
 ie_NoMark:TabE K (.ref c_NoMark) ([("NoMark",true),("Wrong",false)]:List (Str×Bool))
 ie_Wrong:TabE K (.ref c_Wrong) ([("NoMark",false),("Wrong",true)]:List (Str×Bool))
 xf_NoMark:XfC K c_NoMark
 xn_NoMark:PySem.W.findIn K (.ref c_NoMark) "number"=some none
 xf_Wrong:XfC K c_Wrong
 xn_Wrong:PySem.W.findIn K (.ref c_Wrong) "place"=some none
 f_its_marks:∀ nm∈(["Counter"]:List Str),FldOk K nm "its_marks"
 iC_Counter:TabOk K (tabC "Counter" []) fun t b=>PySem.W.kitOne K t (.ref c_Counter)=some b
 iT_bool:TabOk K (tabT "bool" ["Counter"]) fun t b=>PySem.W.kitOne K t (.type "bool")=some b
 iT_int:TabOk K (tabT "int" ["Counter"]) fun t b=>PySem.W.kitOne K t (.type "int")=some b
 iT_list:TabOk K (tabT "list" ["Counter"]) fun t b=>PySem.W.kitOne K t (.type "list")=some b
 iT2_list_tuple:TabOk K (tabT2 "list" "tuple" ["Counter"]) fun t b=>PySem.W.kitAny K t [.type "list",.type "tuple"]=some b
 nn_Counter:NoNe K c_Counter
section
variable {P:Program}{w:World}{K:PySem.W.Frag}{mg:Str→Option Value}{base:Heap}{c_Counter c_CountError c_NoMark c_Wrong i_NoMark i_Wrong:Addr}
set_option maxHeartbeats 4000000 in
theorem ok_Counter___eq__ {f:Addr} {fd:FuncData} (F:Fun K "__eq__" "Counter.__eq__" s_Counter___eq__ f fd) (cl:Cls K c_Counter) (hm:Meth K c_Counter "__eq__" f) (T:Tx P w K mg c_Counter c_CountError c_NoMark c_Wrong i_NoMark i_Wrong) :MthD P w K mg base CX0 1 "Counter" "__eq__" 2 F_Counter___eq__:=by
 refine fn_okM F sc_Counter___eq__ T.k_Counter cl hm rfl rfl (fun _ _ _ _ _ _ us hl=>match us,hl with | [_,_],_=>rfl) fun cdv A out s H E hr hgd=>?_
 have nd:=(sc_Counter___eq__).nd
 unfold g_Counter___eq__
 exact Exists.intro _ (ss_one (sm_ret (pm_and (pm_isi K rfl T.m_isinstance (.own c_Counter) T.iC_Counter (pm_var 1) (pe_glob (v:=.ref c_Counter) rfl T.g_Counter rfl)) (pm_one (pm_cmpK (op_eqA K hr.units) (od_eqA (K:=K)) (pm_fld K T.f_its_marks (pm_var 0)) (pm_fld K T.f_its_marks (pm_var 1)) (nomark _))))))
set_option maxHeartbeats 4000000 in
theorem ok_is_integer {f:Addr} {fd:FuncData} (F:Fun K "is_integer" "is_integer" s_is_integer f fd) (hm:mg "is_integer"=some (.ref f)) (T:Tx P w K mg c_Counter c_CountError c_NoMark c_Wrong i_NoMark i_Wrong) :FnD P w K mg base CX0 1 "is_integer" 1 F_is_integer:=by
 refine fn_ok F sc_is_integer hm rfl rfl (fun _ _ _ _ _ _ us hl=>match us,hl with | [_],_=>rfl) fun cdv A out s H E hr hgd=>?_
 have nd:=(sc_is_integer).nd
 unfold g_is_integer
 exact Exists.intro _ (ss_one (sm_ret (pm_and (pm_isi K rfl T.m_isinstance (.ty "int") T.iT_int (pm_var 0) (pe_tyN rfl T.m_int (by decide +kernel))) (pm_one (pm_not (pm_isi K rfl T.m_isinstance (.ty "bool") T.iT_bool (pm_var 0) (pe_tyN rfl T.m_bool (by decide +kernel))))))))
set_option maxHeartbeats 4000000 in
theorem ok_is_number {f:Addr} {fd:FuncData} (F:Fun K "is_number" "is_number" s_is_number f fd) (hm:mg "is_number"=some (.ref f)) (T:Tx P w K mg c_Counter c_CountError c_NoMark c_Wrong i_NoMark i_Wrong) (C_is_integer:FnD P w K mg base CX0 1 "is_integer" 1 F_is_integer):FnD P w K mg base CX0 2 "is_number" 2 F_is_number:=by
 refine fn_ok F sc_is_number hm rfl rfl (fun _ _ _ _ _ _ us hl=>match us,hl with | [_,_],_=>rfl) fun cdv A out s H E hr hgd=>?_
 have nd:=(sc_is_number).nd
 unfold g_is_number
 exact Exists.intro _ (ss_one (sm_ret (pm_and (pm_callK C_is_integer (hr.mono (by decide)) hgd rfl pass_0 (pma_cons (pm_var 0) pma_nil)) (pm_one (pm_chain op_le (od_le (K:=K)) op_lt (od_lt (K:=K)) pm_int (pm_var 0) (pm_var 1))))))
set_option maxHeartbeats 4000000 in
theorem ok_is_mark {f:Addr} {fd:FuncData} (F:Fun K "is_mark" "is_mark" s_is_mark f fd) (hm:mg "is_mark"=some (.ref f)) (T:Tx P w K mg c_Counter c_CountError c_NoMark c_Wrong i_NoMark i_Wrong) (C_is_number:FnD P w K mg base CX0 2 "is_number" 2 F_is_number):FnD P w K mg base CX0 3 "is_mark" 2 F_is_mark:=by
 refine fn_ok F sc_is_mark hm rfl rfl (fun _ _ _ _ _ _ us hl=>match us,hl with | [_,_],_=>rfl) fun cdv A out s H E hr hgd=>?_
 have nd:=(sc_is_mark).nd
 unfold g_is_mark
 exact Exists.intro _ (ss_cons (sm_if (PMW.t (w_or (pt_no (pt_of (pm_isi2 K rfl T.m_isinstance (.ty "list") (.ty "tuple") T.iT2_list_tuple (pm_var 0) (pe_tyN rfl T.m_list (by decide +kernel)) (pe_tyN rfl T.m_tuple (by decide +kernel))))) (w_or (pt_cmpK (op_neK K hr.units) (od_ne (K:=K)) (pm_cbK (call_lenA K) (cd_lenA (K:=K)) (by rfl) T.m_len PySem.boot_len (pma_cons (pm_var 0) pma_nil)) pm_int (nomark _)) (w_or1 (pt_no (pt_of (pm_callK C_is_number (hr.mono (by decide)) hgd rfl pass_0 (pma_cons (pm_idxA K hr.units (pm_var 0) pm_int (fun _ _=>rfl)) (pma_cons (pm_var 1) pma_nil))))))))) (ss_one (sm_ret pm_bl)) ss_nil)
   (ss_one (sm_ret (pm_and (pm_or (pm_isN (pm_idxA K hr.units (pm_var 0) pm_int (fun _ _=>rfl))) (pm_one (pm_callK C_is_number (hr.mono (by decide)) hgd rfl pass_0 (pma_cons (pm_idxA K hr.units (pm_var 0) pm_int (fun _ _=>rfl)) (pma_cons (pm_var 1) pma_nil))))) (pm_one (pm_isi K rfl T.m_isinstance (.ty "bool") T.iT_bool (pm_idxA K hr.units (pm_var 0) pm_int (fun _ _=>rfl)) (pe_tyN rfl T.m_bool (by decide +kernel))))))))
set_option maxHeartbeats 4000000 in
theorem ok_are_marks {f:Addr} {fd:FuncData} (F:Fun K "are_marks" "are_marks" s_are_marks f fd) (hm:mg "are_marks"=some (.ref f)) (T:Tx P w K mg c_Counter c_CountError c_NoMark c_Wrong i_NoMark i_Wrong) (C_is_mark:FnD P w K mg base CX0 3 "is_mark" 2 F_is_mark):FnD P w K mg base CX0 4 "are_marks" 1 F_are_marks:=by
 obtain⟨t_MOST_MARKS,gt_MOST_MARKS⟩:=T.g_MOST_MARKS
 refine fn_ok F sc_are_marks hm rfl rfl (fun _ _ _ _ _ _ us hl=>match us,hl with | [_],_=>rfl) fun cdv A out s H E hr hgd=>?_
 have nd:=(sc_are_marks).nd
 unfold g_are_marks
 exact Exists.intro _ (ss_cons (sm_if (PMW.t (w_or (pt_no (pt_of (pm_isi2B K rfl T.m_isinstance (.ty "list") (.ty "tuple") T.iT2_list_tuple (pm_var 0) (pe_tyN rfl T.m_list (by decide +kernel)) (pe_tyN rfl T.m_tuple (by decide +kernel))))) (w_or1 (pt_no (pt_chain op_le (od_le (K:=K)) op_le (od_le (K:=K)) pm_int (pm_cbK (call_lenB K) (cd_lenB (K:=K)) (by rfl) T.m_len PySem.boot_len (pma_cons (pm_var 0) pma_nil)) (pm_glob (v:=.int 6) rfl gt_MOST_MARKS ⟨_,rfl⟩ (fun _=>.int _))))))) (ss_one (sm_ret pm_bl)) ss_nil)
   (ss_one (sm_ret (pm_cbK (cr_allK K rfl) (cd_all (K:=K) fun bs=>bs.all id) (by rfl) T.m_all (by decide +kernel) (pma_cons (pm_alt (pm_lc (own:=[("mark",1)]) rfl nd (mi_seqK K (pm_var 0)) (blkOk_by (N:=N_are_marks) (sc:=defScope s_are_marks) (by decide +kernel)) (fun _ _ _ _ _=>(pg_nm 1 nd)) (by decide) (fun _ _ _ _ _=>ts_nil) (fun _ _ _ _ _=>(pm_callK C_is_mark (hr.mono (by decide)) hgd rfl pass_0 (pma_cons (pm_var 1) (pma_cons (pm_cbK (call_lenB K) (cd_lenB (K:=K)) (by rfl) T.m_len PySem.boot_len (pma_cons (pm_var 0) pma_nil)) pma_nil))))) (pm_lcP K (own:=[("mark",1)]) rfl nd (pm_var 0) (blkOk_by (N:=N_are_marks) (sc:=defScope s_are_marks) (by decide +kernel)) (fun _ _ _ _ _=>(pg_nm 1 nd)) (by decide) (fun _ _ _ _ _=>ts_nil) (fun _ _ _ _ _=>(pm_callK C_is_mark (hr.mono (by decide)) hgd rfl pass_0 (pma_cons (pm_var 1) (pma_cons (pm_cbK (call_lenB K) (cd_lenB (K:=K)) (by rfl) T.m_len PySem.boot_len (pma_cons (pm_var 0) pma_nil)) pma_nil)))))) pma_nil)))))
set_option maxHeartbeats 4000000 in
theorem ok_Counter___init__ {f:Addr} {fd:FuncData} (F:Fun K "__init__" "Counter.__init__" s_Counter___init__ f fd) (M:Mk K c_Counter f) (T:Tx P w K mg c_Counter c_CountError c_NoMark c_Wrong i_NoMark i_Wrong) (C_are_marks:FnD P w K mg base CX0 4 "are_marks" 1 F_are_marks):MakD P w K mg base CX0 5 "Counter" 2 F_Counter___init__:=by
 refine fn_okI F sc_Counter___init__ T.k_Counter T.g_Counter M rfl rfl (fun _ _ _ _ _ _ us hl=>match us,hl with | [_,_],_=>rfl) fun cdv A out s H E hr hgd=>?_
 have nd:=(sc_Counter___init__).nd
 unfold g_Counter___init__
 exact Exists.intro _ (ss_cons (sm_if (pt_no (pt_of (pm_callK C_are_marks (hr.mono (by decide)) hgd rfl pass_0 (pma_cons (pm_var 1) pma_nil)))) (ss_one sm_bad) ss_nil)
   (ss_one (sm_fld K T.f_its_marks (pm_var 0) (pm_alt (pm_lc (own:=[("mark",2)]) rfl nd (mi_seqK K (pm_var 1)) (blkOk_by (N:=N_Counter___init__) (sc:=defScope s_Counter___init__) (by decide +kernel)) (fun _ _ _ _ _=>(pg_nm 2 nd)) (by decide) (fun _ _ _ _ _=>ts_nil) (fun _ _ _ _ _=>(pm_ctK (call_tuple_ofK K) (cd_tuple (K:=K)) (by rfl) T.m_tuple (by decide +kernel) (pma_cons (pm_var 2) pma_nil)))) (pm_lcP K (own:=[("mark",2)]) rfl nd (pm_var 1) (blkOk_by (N:=N_Counter___init__) (sc:=defScope s_Counter___init__) (by decide +kernel)) (fun _ _ _ _ _=>(pg_nm 2 nd)) (by decide) (fun _ _ _ _ _=>ts_nil) (fun _ _ _ _ _=>(pm_ctK (call_tuple_ofK K) (cd_tuple (K:=K)) (by rfl) T.m_tuple (by decide +kernel) (pma_cons (pm_var 2) pma_nil))))))))
set_option maxHeartbeats 4000000 in
theorem ok__law_alike {f:Addr} {fd:FuncData} (F:Fun K "_law_alike" "_law_alike" s__law_alike f fd) (hm:mg "_law_alike"=some (.ref f)) (T:Tx P w K mg c_Counter c_CountError c_NoMark c_Wrong i_NoMark i_Wrong) :FnD P w K mg base CX0 1 "_law_alike" 2 F__law_alike:=by
 refine fn_ok F sc__law_alike hm rfl rfl (fun _ _ _ _ _ _ us hl=>match us,hl with | [_,_],_=>rfl) fun cdv A out s H E hr hgd=>?_
 have nd:=(sc__law_alike).nd
 unfold g__law_alike
 exact Exists.intro _ (ss_one (sm_ret (pm_and (pm_cmpK (op_eqA K hr.units) (od_eqA (K:=K)) (pm_var 0) (pm_var 1) (nomark _)) (pm_one (pm_cmpK (op_eqA K hr.units) (od_eqA (K:=K)) (pm_cbK (cr_reprA K hr hgd) (cd_reprA (K:=K)) (by rfl) T.m_repr (by decide +kernel) (pma_cons (pm_var 0) pma_nil)) (pm_cbK (cr_reprA K hr hgd) (cd_reprA (K:=K)) (by rfl) T.m_repr (by decide +kernel) (pma_cons (pm_var 1) pma_nil)) (nomark _))))))
set_option maxHeartbeats 4000000 in
theorem ok__law_bag {f:Addr} {fd:FuncData} (F:Fun K "_law_bag" "_law_bag" s__law_bag f fd) (hm:mg "_law_bag"=some (.ref f)) (T:Tx P w K mg c_Counter c_CountError c_NoMark c_Wrong i_NoMark i_Wrong) :FnD P w K mg base CX0 1 "_law_bag" 1 F__law_bag:=by
 refine fn_ok F sc__law_bag hm rfl rfl (fun _ _ _ _ _ _ us hl=>match us,hl with | [_],_=>rfl) fun cdv A out s H E hr hgd=>?_
 have nd:=(sc__law_bag).nd
 unfold g__law_bag
 exact Exists.intro _ (ss_one (sm_ret (pm_lst (pma_cons pm_int (pma_cons pm_int (pma_cons pm_int (pma_cons (pm_lc (own:=[("_law_cell",1)]) rfl nd (mi_seqK K (pm_slK K (pm_var 0) mo_none (mo_some pm_int))) (blkOk_by (N:=N__law_bag) (sc:=defScope s__law_bag) (by decide +kernel)) (fun _ _ _ _ _=>(pg_nm 1 nd)) (by decide) (fun _ _ _ _ _=>ts_nil) (fun _ _ _ _ _=>(pm_cbK call_abs (cd_abs (K:=K)) (by rfl) T.m_abs (by decide +kernel) (pma_cons (pm_var 1) pma_nil)))) pma_nil)))))))
set_option maxHeartbeats 4000000 in
theorem ok__law_sticking {f:Addr} {fd:FuncData} (F:Fun K "_law_sticking" "_law_sticking" s__law_sticking f fd) (hm:mg "_law_sticking"=some (.ref f)) (T:Tx P w K mg c_Counter c_CountError c_NoMark c_Wrong i_NoMark i_Wrong) :FnD P w K mg base CX0 1 "_law_sticking" 1 F__law_sticking:=by
 refine fn_ok F sc__law_sticking hm rfl rfl (fun _ _ _ _ _ _ us hl=>match us,hl with | [_],_=>rfl) fun cdv A out s H E hr hgd=>?_
 have nd:=(sc__law_sticking).nd
 unfold g__law_sticking
 exact Exists.intro _ (ss_cons (sm_asg 1 nd (pm_addK K (pm_lst (pma_cons (pm_tup (pma_cons pm_int (pma_cons pm_non (pma_cons pm_bl pma_nil)))) pma_nil)) (pm_lc (own:=[("_law_at",2)]) rfl nd (mi_rng2 rfl T.m_range (pma_cons pm_int (pma_cons (pm_sub (pm_var 0) pm_int) pma_nil))) (blkOk_by (N:=N__law_sticking) (sc:=defScope s__law_sticking) (by decide +kernel)) (fun _ _ _ _ _=>(pg_nm 2 nd)) (by decide) (fun _ _ _ _ _=>ts_nil) (fun _ _ _ _ _=>(pm_tup (pma_cons (pm_addK K (pm_var 2) pm_int) (pma_cons (pm_sub (pm_var 2) pm_int) (pma_cons pm_bl pma_nil))))))))
   (ss_one (sm_ret (pm_if (pt_cmpK op_gt (od_gt (K:=K)) (pm_var 0) pm_int (nomark _)) (pm_addK K (pm_var 1) (pm_lst (pma_cons (pm_tup (pma_cons (pm_sub (pm_var 0) pm_int) (pma_cons (pm_sub (pm_var 0) pm_int) (pma_cons pm_bl pma_nil)))) pma_nil))) (pm_lst (pma_cons (pm_tup (pma_cons pm_int (pma_cons pm_int (pma_cons pm_bl pma_nil)))) pma_nil))))))
set_option maxHeartbeats 4000000 in
theorem ok__law_take {f:Addr} {fd:FuncData} (F:Fun K "_law_take" "_law_take" s__law_take f fd) (hm:mg "_law_take"=some (.ref f)) (T:Tx P w K mg c_Counter c_CountError c_NoMark c_Wrong i_NoMark i_Wrong) :FnD P w K mg base CX0 1 "_law_take" 2 F__law_take:=by
 refine fn_ok F sc__law_take hm rfl rfl (fun _ _ _ _ _ _ us hl=>match us,hl with | [_,_],_=>rfl) fun cdv A out s H E hr hgd=>?_
 have nd:=(sc__law_take).nd
 unfold g__law_take
 exact Exists.intro _ (ss_cons (sm_if (pt_cmpK (op_eqK K hr.units) (od_eq (K:=K)) (pm_idxK K (pm_var 0) pm_int (fun _ _=>rfl)) pm_int (nomark _)) (ss_cons (sm_asg 2 nd pm_int)
   (ss_cons (sm_if (pt_cmpK op_lt (od_lt (K:=K)) (pm_idxK K (pm_var 0) pm_int (fun _ _=>rfl)) (pm_cbK (call_lenK K) (cd_len (K:=K)) (by rfl) T.m_len PySem.boot_len (pma_cons (pm_idxK K (pm_var 0) pm_int (fun _ _=>rfl)) pma_nil)) (nomark _)) (ss_one (sm_asg 2 nd (pm_idxK K (pm_idxK K (pm_var 0) pm_int (fun _ _=>rfl)) (pm_idxK K (pm_var 0) pm_int (fun _ _=>rfl)) (fun _ _=>rfl)))) ss_nil)
   (ss_cons (sm_augSK K (pm_var 0) pm_int pm_int)
   (ss_cons (sm_if (pt_cmpK op_ge (od_ge (K:=K)) (pm_var 2) pm_int (nomark _)) (ss_one (sm_set (pm_var 0) pm_int (pm_var 2))) ss_nil)
   (ss_cons (sm_asg 3 nd (pm_addK K (pm_addK K (pm_mul (pm_idxK K (pm_var 0) pm_int (fun _ _=>rfl)) pm_int) (pm_mod (pm_ctK call_int1 (cd_int (K:=K)) (by rfl) T.m_int (by decide +kernel) (pma_cons (pm_var 2) pma_nil)) pm_int)) (pm_mul pm_int (pm_idxK K (pm_var 0) pm_int (fun _ _=>rfl)))))
   (ss_one (sm_set (pm_var 0) pm_int (pm_mod (pm_ctK call_int1 (cd_int (K:=K)) (by rfl) T.m_int (by decide +kernel) (pma_cons (pm_var 3) pma_nil)) pm_int)))))))) ss_nil)
   (ss_cons (sm_if (pt_cmpK op_gt (od_gt (K:=K)) (pm_idxK K (pm_var 0) pm_int (fun _ _=>rfl)) pm_int (nomark _)) (ss_cons (sm_asg 4 nd (pm_mod (pm_ctK call_int1 (cd_int (K:=K)) (by rfl) T.m_int (by decide +kernel) (pma_cons (pm_idxK K (pm_var 0) pm_int (fun _ _=>rfl)) pma_nil)) (pm_var 1)))
   (ss_cons (sm_set (pm_var 0) pm_int (pm_div (pm_ctK call_int1 (cd_int (K:=K)) (by rfl) T.m_int (by decide +kernel) (pma_cons (pm_idxK K (pm_var 0) pm_int (fun _ _=>rfl)) pma_nil)) (pm_var 1)))
   (ss_one (sm_ret (pm_var 4))))) ss_nil)
   (ss_cons (sm_asg 5 nd (pm_mod (pm_ctK call_int1 (cd_int (K:=K)) (by rfl) T.m_int (by decide +kernel) (pma_cons (pm_mul (pm_addK K (pm_idxK K (pm_var 0) pm_int (fun _ _=>rfl)) pm_int) pm_int) pma_nil)) pm_int))
   (ss_cons (sm_asg 6 nd (pm_mod (pm_ctK call_int1 (cd_int (K:=K)) (by rfl) T.m_int (by decide +kernel) (pma_cons (pm_mul (pm_mod (pm_ctK call_int1 (cd_int (K:=K)) (by rfl) T.m_int (by decide +kernel) (pma_cons (pm_mul (pm_var 5) (pm_var 5)) pma_nil)) pm_int) pm_int) pma_nil)) pm_int))
   (ss_one (sm_ret (pm_mod (pm_ctK call_int1 (cd_int (K:=K)) (by rfl) T.m_int (by decide +kernel) (pma_cons (pm_div (pm_var 6) pm_int) pma_nil)) (pm_var 1))))))))
set_option maxHeartbeats 4000000 in
theorem ok__law_counter {f:Addr} {fd:FuncData} (F:Fun K "_law_counter" "_law_counter" s__law_counter f fd) (hm:mg "_law_counter"=some (.ref f)) (T:Tx P w K mg c_Counter c_CountError c_NoMark c_Wrong i_NoMark i_Wrong) (C__law_sticking:FnD P w K mg base CX0 1 "_law_sticking" 1 F__law_sticking) (C__law_take:FnD P w K mg base CX0 1 "_law_take" 2 F__law_take):FnD P w K mg base CX0 2 "_law_counter" 1 F__law_counter:=by
 refine fn_ok F sc__law_counter hm rfl rfl (fun _ _ _ _ _ _ us hl=>match us,hl with | [_],_=>rfl) fun cdv A out s H E hr hgd=>?_
 have nd:=(sc__law_counter).nd
 unfold g__law_counter b__law_counter_1
 exact Exists.intro _ (ss_cons (sm_asg 1 nd (pm_addK K pm_int (pm_callK C__law_take (hr.mono (by decide)) hgd rfl pass_0 (pma_cons (pm_var 0) (pma_cons pm_int pma_nil)))))
   (ss_cons (sm_new 2 nd (pm_callK C__law_sticking (hr.mono (by decide)) hgd rfl pass_0 (pma_cons (pm_var 1) pma_nil)))
   (ss_cons (sm_if (pt_cmpK op_gt (od_gt (K:=K)) (pm_callK C__law_take (hr.mono (by decide)) hgd rfl pass_0 (pma_cons (pm_var 0) (pma_cons pm_int pma_nil))) pm_int (nomark _)) (ss_one (sm_ret (pm_var 2))) ss_nil)
   (ss_cons (sm_for [true,true,true,false,false,false] PassesOwn.never rfl (mi_rng1 rfl T.m_range (pma_cons (pm_addK K pm_int (pm_callK C__law_take (hr.mono (by decide)) hgd rfl pass_0 (pma_cons (pm_var 0) (pma_cons pm_int pma_nil)))) pma_nil)) (pg_nm 3 nd) (ss_cons (sm_asg 4 nd (pm_callK C__law_take (hr.mono (by decide)) hgd rfl pass_0 (pma_cons (pm_var 0) (pma_cons (pm_var 1) pma_nil))))
   (ss_cons (sm_asg 5 nd (pm_idxA K hr.units (pm_lst (pma_cons pm_non (pma_cons (pm_callK C__law_take (hr.mono (by decide)) hgd rfl pass_0 (pma_cons (pm_var 0) (pma_cons (pm_var 1) pma_nil))) pma_nil))) (pm_callK C__law_take (hr.mono (by decide)) hgd rfl pass_0 (pma_cons (pm_var 0) (pma_cons pm_int pma_nil))) (fun _ _=>rfl)))
   (ss_one (sm_set (pm_var 2) (pm_var 4) (pm_tup (pma_cons (pm_callK C__law_take (hr.mono (by decide)) hgd rfl pass_0 (pma_cons (pm_var 0) (pma_cons (pm_var 1) pma_nil))) (pma_cons (pm_var 5) (pma_cons (pm_cmpK (op_eqA K hr.units) (od_eqA (K:=K)) (pm_callK C__law_take (hr.mono (by decide)) hgd rfl pass_0 (pma_cons (pm_var 0) (pma_cons pm_int pma_nil))) pm_int (nomark _)) pma_nil)))))))))
   (ss_one (sm_ret (pm_var 2)))))))
set_option maxHeartbeats 4000000 in
theorem ok__law_handed {f:Addr} {fd:FuncData} (F:Fun K "_law_handed" "_law_handed" s__law_handed f fd) (hm:mg "_law_handed"=some (.ref f)) (T:Tx P w K mg c_Counter c_CountError c_NoMark c_Wrong i_NoMark i_Wrong) (C__law_take:FnD P w K mg base CX0 1 "_law_take" 2 F__law_take):FnDX P w K mg base CX0 2 "_law_handed" 2 F__law_handed:=by
 refine fn_okg F sc__law_handed hm rfl rfl (fun _ _ _ _ _ _ us hl=>match us,hl with | [_,_],_=>rfl) fun cdv A out s H E hr hgd=>?_
 have nd:=(sc__law_handed).nd
 unfold g__law_handed
 exact Exists.intro _ (ss_cons (sm_lcX (own:=[("_law_mark",3)]) (j:=2) rfl nd rfl rfl (sw_true rfl rfl rfl (by decide +kernel)) (mi_seqK K (pm_var 1)) (blkOk_by (N:=N__law_handed) (sc:=defScope s__law_handed) (by decide +kernel)) (fun _ _ _ _ _=>(pg_nm 3 nd)) (by decide) (fun _ _ _ _ _=>ts_nil) (fun _ _ _ _ _=>(px_if (pt_cmpK (op_eqA K hr.units) (od_eqA (K:=K)) (pm_callK C__law_take (hr.mono (by decide)) hgd rfl pass_0 (pma_cons (pm_var 0) (pma_cons pm_int pma_nil))) pm_int (nomark _)) (px_of (pm_ctK (call_listA K rfl) (cd_listA (K:=K)) (by rfl) T.m_list (by decide +kernel) (pma_cons (pm_var 3) pma_nil))) (px_of (pm_var 3)))))
   (ss_one (sm_retX (px_if (pt_cmpK (op_eqA K hr.units) (od_eqA (K:=K)) (pm_callK C__law_take (hr.mono (by decide)) hgd rfl pass_0 (pma_cons (pm_var 0) (pma_cons pm_int pma_nil))) pm_int (nomark _)) (px_of (pm_var 2)) (px_tupl K rfl T.m_tuple (px_of (pm_var 2)))))))
set_option maxHeartbeats 4000000 in
theorem ok_Counter___len__ {f:Addr} {fd:FuncData} (F:Fun K "__len__" "Counter.__len__" s_Counter___len__ f fd) (cl:Cls K c_Counter) (hm:Meth K c_Counter "__len__" f) (T:Tx P w K mg c_Counter c_CountError c_NoMark c_Wrong i_NoMark i_Wrong) :MthD P w K mg base CX0 1 "Counter" "__len__" 1 F_Counter___len__:=by
 refine fn_okM F sc_Counter___len__ T.k_Counter cl hm rfl rfl (fun _ _ _ _ _ _ us hl=>match us,hl with | [_],_=>rfl) fun cdv A out s H E hr hgd=>?_
 have nd:=(sc_Counter___len__).nd
 unfold g_Counter___len__
 exact Exists.intro _ (ss_one (sm_ret (pm_cbK (call_lenA K) (cd_lenA (K:=K)) (by rfl) T.m_len PySem.boot_len (pma_cons (pm_fld K T.f_its_marks (pm_var 0)) pma_nil))))
set_option maxHeartbeats 4000000 in
theorem ok_Counter_need_mark {f:Addr} {fd:FuncData} (F:Fun K "need_mark" "Counter.need_mark" s_Counter_need_mark f fd) (cl:Cls K c_Counter) (hm:Meth K c_Counter "need_mark" f) (T:Tx P w K mg c_Counter c_CountError c_NoMark c_Wrong i_NoMark i_Wrong) (C_Counter___len__:MthD P w K mg base CX0 1 "Counter" "__len__" 1 F_Counter___len__) (C_is_number:FnD P w K mg base CX0 2 "is_number" 2 F_is_number):MthD P w K mg base (L2.CX P w) 3 "Counter" "need_mark" 2 F_Counter_need_mark:=by
 refine fn_okMX F sc_Counter_need_mark T.k_Counter cl hm rfl rfl (fun _ _ _ _ _ _ us hl=>match us,hl with | [_,_],_=>rfl) fun cdv A out s H E hr hgd=>?_
 have nd:=(sc_Counter_need_mark).nd
 unfold g_Counter_need_mark
 exact Exists.intro _ (ss_one (sm_if (pt_no (pt_of (pm_callK C_is_number (hr.mono (by decide)) hgd rfl pass_0 (pma_cons (pm_var 1) (pma_cons (pm_lenO C_Counter___len__ (hr.mono (by decide)) hgd rfl T.m_len (pm_var 0)) pma_nil))))) (ss_one (sm_raise rfl tk_of T.er_NoMark T.k_NoMark hr (pm_var 1) rfl)) ss_nil))
set_option maxHeartbeats 4000000 in
theorem ok_Counter_copies {f:Addr} {fd:FuncData} (F:Fun K "copies" "Counter.copies" s_Counter_copies f fd) (cl:Cls K c_Counter) (hm:Meth K c_Counter "copies" f) (T:Tx P w K mg c_Counter c_CountError c_NoMark c_Wrong i_NoMark i_Wrong) (C_Counter_need_mark:MthD P w K mg base (L2.CX P w) 3 "Counter" "need_mark" 2 F_Counter_need_mark):MthD P w K mg base (L2.CX P w) 4 "Counter" "copies" 2 F_Counter_copies:=by
 refine fn_okMX F sc_Counter_copies T.k_Counter cl hm rfl rfl (fun _ _ _ _ _ _ us hl=>match us,hl with | [_,_],_=>rfl) fun cdv A out s H E hr hgd=>?_
 have nd:=(sc_Counter_copies).nd
 unfold g_Counter_copies
 exact Exists.intro _ (ss_cons (sm_expr (pm_meth C_Counter_need_mark (hr.mono (by decide)) hgd (fun σ=>passAt tk_of σ) (pm_var 0) (pma_cons (pm_var 1) pma_nil)))
   (ss_one (sm_ret (pm_idxA K hr.units (pm_idxA K hr.units (pm_fld K T.f_its_marks (pm_var 0)) (pm_var 1) (fun _ _=>rfl)) pm_int (fun _ _=>rfl)))))
set_option maxHeartbeats 4000000 in
theorem ok_Counter_less {f:Addr} {fd:FuncData} (F:Fun K "less" "Counter.less" s_Counter_less f fd) (cl:Cls K c_Counter) (hm:Meth K c_Counter "less" f) (T:Tx P w K mg c_Counter c_CountError c_NoMark c_Wrong i_NoMark i_Wrong) (C_Counter_need_mark:MthD P w K mg base (L2.CX P w) 3 "Counter" "need_mark" 2 F_Counter_need_mark):MthD P w K mg base (L2.CX P w) 4 "Counter" "less" 2 F_Counter_less:=by
 refine fn_okMX F sc_Counter_less T.k_Counter cl hm rfl rfl (fun _ _ _ _ _ _ us hl=>match us,hl with | [_,_],_=>rfl) fun cdv A out s H E hr hgd=>?_
 have nd:=(sc_Counter_less).nd
 unfold g_Counter_less
 exact Exists.intro _ (ss_cons (sm_expr (pm_meth C_Counter_need_mark (hr.mono (by decide)) hgd (fun σ=>passAt tk_of σ) (pm_var 0) (pma_cons (pm_var 1) pma_nil)))
   (ss_one (sm_ret (pm_idxA K hr.units (pm_idxA K hr.units (pm_fld K T.f_its_marks (pm_var 0)) (pm_var 1) (fun _ _=>rfl)) pm_int (fun _ _=>rfl)))))
set_option maxHeartbeats 4000000 in
theorem ok_Counter_marks {f:Addr} {fd:FuncData} (F:Fun K "marks" "Counter.marks" s_Counter_marks f fd) (cl:Cls K c_Counter) (hm:Meth K c_Counter "marks" f) (T:Tx P w K mg c_Counter c_CountError c_NoMark c_Wrong i_NoMark i_Wrong) :MthD P w K mg base CX0 1 "Counter" "marks" 1 F_Counter_marks:=by
 refine fn_okM F sc_Counter_marks T.k_Counter cl hm rfl rfl (fun _ _ _ _ _ _ us hl=>match us,hl with | [_],_=>rfl) fun cdv A out s H E hr hgd=>?_
 have nd:=(sc_Counter_marks).nd
 unfold g_Counter_marks
 exact Exists.intro _ (ss_one (sm_ret (pm_ctK (call_listA K rfl) (cd_listA (K:=K)) (by rfl) T.m_list (by decide +kernel) (pma_cons (pm_fld K T.f_its_marks (pm_var 0)) pma_nil))))
set_option maxHeartbeats 4000000 in
theorem ok_Counter_more {f:Addr} {fd:FuncData} (F:Fun K "more" "Counter.more" s_Counter_more f fd) (cl:Cls K c_Counter) (hm:Meth K c_Counter "more" f) (T:Tx P w K mg c_Counter c_CountError c_NoMark c_Wrong i_NoMark i_Wrong) (C_Counter_need_mark:MthD P w K mg base (L2.CX P w) 3 "Counter" "need_mark" 2 F_Counter_need_mark):MthD P w K mg base (L2.CX P w) 4 "Counter" "more" 2 F_Counter_more:=by
 refine fn_okMX F sc_Counter_more T.k_Counter cl hm rfl rfl (fun _ _ _ _ _ _ us hl=>match us,hl with | [_,_],_=>rfl) fun cdv A out s H E hr hgd=>?_
 have nd:=(sc_Counter_more).nd
 unfold g_Counter_more
 exact Exists.intro _ (ss_cons (sm_expr (pm_meth C_Counter_need_mark (hr.mono (by decide)) hgd (fun σ=>passAt tk_of σ) (pm_var 0) (pma_cons (pm_var 1) pma_nil)))
   (ss_one (sm_ret (pm_idxA K hr.units (pm_idxA K hr.units (pm_fld K T.f_its_marks (pm_var 0)) (pm_var 1) (fun _ _=>rfl)) pm_int (fun _ _=>rfl)))))
set_option maxHeartbeats 4000000 in
theorem ok_Counter_with_mark {f:Addr} {fd:FuncData} (F:Fun K "with_mark" "Counter.with_mark" s_Counter_with_mark f fd) (cl:Cls K c_Counter) (hm:Meth K c_Counter "with_mark" f) (T:Tx P w K mg c_Counter c_CountError c_NoMark c_Wrong i_NoMark i_Wrong) (C_Counter___init__:MakD P w K mg base CX0 5 "Counter" 2 F_Counter___init__) (C_Counter___len__:MthD P w K mg base CX0 1 "Counter" "__len__" 1 F_Counter___len__) (C_Counter_need_mark:MthD P w K mg base (L2.CX P w) 3 "Counter" "need_mark" 2 F_Counter_need_mark) (C_is_mark:FnD P w K mg base CX0 3 "is_mark" 2 F_is_mark):MthD P w K mg base (L2.CX P w) 7 "Counter" "with_mark" 3 F_Counter_with_mark:=by
 refine fn_okMX F sc_Counter_with_mark T.k_Counter cl hm rfl rfl (fun _ _ _ _ _ _ us hl=>match us,hl with | [_,_,_],_=>rfl) fun cdv A out s H E hr hgd=>?_
 have nd:=(sc_Counter_with_mark).nd
 unfold g_Counter_with_mark
 exact Exists.intro _ (ss_cons (sm_expr (pm_meth C_Counter_need_mark (hr.mono (by decide)) hgd (fun σ=>passAt tk_of σ) (pm_var 0) (pma_cons (pm_var 1) pma_nil)))
   (ss_cons (sm_if (pt_no (pt_of (pm_callK C_is_mark (hr.mono (by decide)) hgd rfl pass_0 (pma_cons (pm_var 2) (pma_cons (pm_lenO C_Counter___len__ (hr.mono (by decide)) hgd rfl T.m_len (pm_var 0)) pma_nil))))) (ss_one (sm_raise rfl tk_of T.er_Wrong T.k_Wrong hr pm_int rfl)) ss_nil)
   (ss_one (sm_ret (pm_makeX C_Counter___init__ (hr.mono (by decide)) hgd rfl pass_0 (pxa_cons (px_addK K (px_addK K (px_of (pm_slK K (pm_fld K T.f_its_marks (pm_var 0)) mo_none (mo_some (pm_var 1)))) (px_lst (pxa_cons (px_of (pm_var 2)) pxa_nil))) (px_of (pm_slK K (pm_fld K T.f_its_marks (pm_var 0)) (mo_some (pm_addK K (pm_var 1) pm_int)) mo_none))) pxa_nil))))))
set_option maxHeartbeats 4000000 in
theorem ok__law_heard {f:Addr} {fd:FuncData} (F:Fun K "_law_heard" "_law_heard" s__law_heard f fd) (hm:mg "_law_heard"=some (.ref f)) (T:Tx P w K mg c_Counter c_CountError c_NoMark c_Wrong i_NoMark i_Wrong) (C_Counter_copies:MthD P w K mg base (L2.CX P w) 4 "Counter" "copies" 2 F_Counter_copies) (C_Counter_less:MthD P w K mg base (L2.CX P w) 4 "Counter" "less" 2 F_Counter_less) (C_Counter_marks:MthD P w K mg base CX0 1 "Counter" "marks" 1 F_Counter_marks) (C_Counter_more:MthD P w K mg base (L2.CX P w) 4 "Counter" "more" 2 F_Counter_more) (C_Counter_with_mark:MthD P w K mg base (L2.CX P w) 7 "Counter" "with_mark" 3 F_Counter_with_mark):FnD P w K mg base CX0 8 "_law_heard" 3 F__law_heard:=by
 refine fn_ok0 F sc__law_heard hm rfl rfl (fun _ _ _ _ _ _ us hl=>match us,hl with | [_,_,_],_=>rfl) fun cdv A out s H E hr hgd=>?_
 have nd:=(sc__law_heard).nd
 unfold g__law_heard b__law_heard_1
 exact Exists.intro _ (ss_one (sm_try2 rfl rfl nd rfl rfl ⟨rfl,by decide,.inl T.g_CountError⟩ takesWF T.ct_CountError (fun W' pn xe tk' po=>(ss_cons (sm_if (pt_cmpK (op_eqA K hr.units) (od_eqA (K:=K)) (pm_var 0) pm_int (nomark _)) (ss_one (sm_ret (pm_tup (pma_cons pm_str (pma_cons (pm_meth C_Counter_more (hr.mono (by decide)) hgd (fun σ=>passAt tk' σ) (pm_var 1) (pma_cons (pm_var 2) pma_nil)) pma_nil))))) ss_nil)
   (ss_cons (sm_if (pt_cmpK (op_eqA K hr.units) (od_eqA (K:=K)) (pm_var 0) pm_int (nomark _)) (ss_one (sm_ret (pm_tup (pma_cons pm_str (pma_cons (pm_meth C_Counter_less (hr.mono (by decide)) hgd (fun σ=>passAt tk' σ) (pm_var 1) (pma_cons (pm_var 2) pma_nil)) pma_nil))))) ss_nil)
   (ss_cons (sm_if (pt_cmpK (op_eqA K hr.units) (od_eqA (K:=K)) (pm_var 0) pm_int (nomark _)) (ss_one (sm_ret (pm_tup (pma_cons pm_str (pma_cons (pm_meth C_Counter_copies (hr.mono (by decide)) hgd (fun σ=>passAt tk' σ) (pm_var 1) (pma_cons (pm_var 2) pma_nil)) pma_nil))))) ss_nil)
   (ss_one (sm_ret (pm_tup (pma_cons pm_str (pma_cons (pm_meth0 C_Counter_marks (hr.mono (by decide)) hgd pass_0 (pm_meth C_Counter_with_mark (hr.mono (by decide)) hgd (fun σ=>passAt tk' σ) (pm_var 1) (pma_cons (pm_var 2) (pma_cons pm_non pma_nil)))) pma_nil))))))))) (fun a oe C dd pn hz hf=>(ss_cons (sm_if (pt_cmpK (op_eqA K hr.units) (od_eqA (K:=K)) (pm_isE K 3 hz hf rfl T.m_isinstance T.ie_NoMark rfl T.g_NoMark) (pm_isE K 3 hz hf rfl T.m_isinstance T.ie_Wrong rfl T.g_Wrong) (nomark _)) (ss_one (sm_ret (pm_tup (pma_cons pm_str (pma_cons pm_non pma_nil))))) ss_nil)
   (ss_one (sm_ret (pm_if (pt_of (pm_isE K 3 hz hf rfl T.m_isinstance T.ie_NoMark rfl T.g_NoMark)) (pm_tup (pma_cons pm_str (pma_cons (pm_xf K 3 hz hf T.xf_NoMark T.xn_NoMark T.k_NoMark) pma_nil))) (pm_tup (pma_cons pm_str (pma_cons (pm_xf K 3 hz hf T.xf_Wrong T.xn_Wrong T.k_Wrong) pma_nil))))))))))
set_option maxHeartbeats 4000000 in
theorem ok__law_near_counter {f:Addr} {fd:FuncData} (F:Fun K "_law_near_counter" "_law_near_counter" s__law_near_counter f fd) (hm:mg "_law_near_counter"=some (.ref f)) (T:Tx P w K mg c_Counter c_CountError c_NoMark c_Wrong i_NoMark i_Wrong) (C__law_take:FnD P w K mg base CX0 1 "_law_take" 2 F__law_take):FnD P w K mg base CX0 2 "_law_near_counter" 2 F__law_near_counter:=by
 refine fn_ok F sc__law_near_counter hm rfl rfl (fun _ _ _ _ _ _ us hl=>match us,hl with | [_,_],_=>rfl) fun cdv A out s H E hr hgd=>?_
 have nd:=(sc__law_near_counter).nd
 unfold g__law_near_counter b__law_near_counter_1
 exact Exists.intro _ (ss_cons (sm_new 2 nd (pm_ctK (call_listA K rfl) (cd_listA (K:=K)) (by rfl) T.m_list (by decide +kernel) (pma_cons (pm_var 1) pma_nil)))
   (ss_cons (sm_for [true,true,true,false,false,false,false,false,false,false] PassesOwn.never rfl (mi_rng1 rfl T.m_range (pma_cons (pm_callK C__law_take (hr.mono (by decide)) hgd rfl pass_0 (pma_cons (pm_var 0) (pma_cons pm_int pma_nil))) pma_nil)) (pg_nm 3 nd) (ss_cons (sm_par 4 5 rfl nd (pma_cons (pm_callK C__law_take (hr.mono (by decide)) hgd rfl pass_0 (pma_cons (pm_var 0) (pma_cons (pm_cbK (call_lenA K) (cd_lenA (K:=K)) (by rfl) T.m_len PySem.boot_len (pma_cons (pm_var 2) pma_nil)) pma_nil))) (pma_cons (pm_cbK (call_lenA K) (cd_lenA (K:=K)) (by rfl) T.m_len PySem.boot_len (pma_cons (pm_var 2) pma_nil)) pma_nil)))
   (ss_cons (sm_tgt (pg_tpK K rfl (gs_cons (pg_nm 6 nd) (gs_cons (pg_nm 7 nd) (gs_cons (pg_nm 8 nd) gs_nil)))) (pm_idxA K hr.units (pm_var 2) (pm_var 4) (fun _ _=>rfl)))
   (ss_cons (sm_asg 9 nd (pm_callK C__law_take (hr.mono (by decide)) hgd rfl pass_0 (pma_cons (pm_var 0) (pma_cons pm_int pma_nil))))
   (ss_cons (sm_if (pt_cmpK (op_eqA K hr.units) (od_eqA (K:=K)) (pm_var 9) pm_int (nomark _)) (ss_one (sm_asg 6 nd (pm_callK C__law_take (hr.mono (by decide)) hgd rfl pass_0 (pma_cons (pm_var 0) (pma_cons (pm_var 5) pma_nil))))) ss_nil)
   (ss_cons (sm_if (pt_cmpK (op_eqA K hr.units) (od_eqA (K:=K)) (pm_var 9) pm_int (nomark _)) (ss_one (sm_asg 7 nd (pm_idxA K hr.units (pm_lst (pma_cons pm_non (pma_cons (pm_callK C__law_take (hr.mono (by decide)) hgd rfl pass_0 (pma_cons (pm_var 0) (pma_cons (pm_var 5) pma_nil))) pma_nil))) (pm_callK C__law_take (hr.mono (by decide)) hgd rfl pass_0 (pma_cons (pm_var 0) (pma_cons pm_int pma_nil))) (fun _ _=>rfl)))) ss_nil)
   (ss_cons (sm_if (pt_cmpK (op_eqA K hr.units) (od_eqA (K:=K)) (pm_var 9) pm_int (nomark _)) (ss_one (sm_asg 8 nd (pm_not (pm_var 8)))) ss_nil)
   (ss_cons (sm_set (pm_var 2) (pm_var 4) (pm_tup (pma_cons (pm_var 6) (pma_cons (pm_var 7) (pma_cons (pm_var 8) pma_nil)))))
   (ss_one (sm_if (PMW.t (w_and (pt_cmpK (op_eqA K hr.units) (od_eqA (K:=K)) (pm_var 9) pm_int (nomark _)) (w_and1 (pt_cmpK op_lt (od_lt (K:=K)) (pm_var 5) pm_int (nomark _))))) (ss_cons (sm_expr (pm_bmK K PySem.F.plainAttrs_list PySem.F.slot_list_append PySem.F.type_list_append mt_append td_list md_append (pm_var 2) (pma_cons (pm_idxA K hr.units (pm_var 2) (pm_var 4) (fun _ _=>rfl)) pma_nil)))
   (ss_one (sm_set (pm_var 2) (pm_callK C__law_take (hr.mono (by decide)) hgd rfl pass_0 (pma_cons (pm_var 0) (pma_cons (pm_var 5) pma_nil))) (pm_addK K (pm_tup (pma_cons (pm_var 5) pma_nil)) (pm_slK K (pm_idxA K hr.units (pm_var 2) (pm_callK C__law_take (hr.mono (by decide)) hgd rfl pass_0 (pma_cons (pm_var 0) (pma_cons (pm_var 5) pma_nil))) (fun _ _=>rfl)) (mo_some pm_int) mo_none))))) ss_nil))))))))))
   (ss_one (sm_ret (pm_var 2)))))
set_option maxHeartbeats 4000000 in
theorem ok__law_mixed {f:Addr} {fd:FuncData} (F:Fun K "_law_mixed" "_law_mixed" s__law_mixed f fd) (hm:mg "_law_mixed"=some (.ref f)) (T:Tx P w K mg c_Counter c_CountError c_NoMark c_Wrong i_NoMark i_Wrong) (C__law_take:FnD P w K mg base CX0 1 "_law_take" 2 F__law_take):FnD P w K mg base CX0 2 "_law_mixed" 2 F__law_mixed:=by
 refine fn_ok F sc__law_mixed hm rfl rfl (fun _ _ _ _ _ _ us hl=>match us,hl with | [_,_],_=>rfl) fun cdv A out s H E hr hgd=>?_
 have nd:=(sc__law_mixed).nd
 unfold g__law_mixed b__law_mixed_1
 exact Exists.intro _ (ss_cons (sm_par2 2 3 rfl nd (pm_ctK (call_list_ofK K) (cd_list (K:=K)) (by rfl) T.m_list (by decide +kernel) (pma_cons (pm_var 1) pma_nil)) (pm_lst pma_nil))
   (ss_cons (sm_while 100000 [true,true,true,true] PassesOwn.never (pt_cmpK (op_neK K hr.units) (od_ne (K:=K)) (pm_var 2) (pm_lst pma_nil) (nomark _)) (ss_one (sm_expr (pm_bmK K PySem.F.plainAttrs_list PySem.F.slot_list_append PySem.F.type_list_append mt_append td_list md_append (pm_var 3) (pma_cons (pm_bmK K PySem.F.plainAttrs_list PySem.F.slot_list_pop PySem.F.type_list_pop mt_popAt td_list md_popAt (pm_var 2) (pma_cons (pm_callK C__law_take (hr.mono (by decide)) hgd rfl pass_0 (pma_cons (pm_var 0) (pma_cons (pm_cbK (call_lenK K) (cd_len (K:=K)) (by rfl) T.m_len PySem.boot_len (pma_cons (pm_var 2) pma_nil)) pma_nil))) pma_nil)) pma_nil)))))
   (ss_one (sm_ret (pm_var 3)))))
set_option maxHeartbeats 4000000 in
theorem ok__law_right {f:Addr} {fd:FuncData} (F:Fun K "_law_right" "_law_right" s__law_right f fd) (hm:mg "_law_right"=some (.ref f)) (T:Tx P w K mg c_Counter c_CountError c_NoMark c_Wrong i_NoMark i_Wrong) (C_Counter___eq__:MthD P w K mg base CX0 1 "Counter" "__eq__" 2 F_Counter___eq__) (C_Counter___init__:MakD P w K mg base CX0 5 "Counter" 2 F_Counter___init__) (C_Counter___len__:MthD P w K mg base CX0 1 "Counter" "__len__" 1 F_Counter___len__) (C_Counter_copies:MthD P w K mg base (L2.CX P w) 4 "Counter" "copies" 2 F_Counter_copies) (C_Counter_less:MthD P w K mg base (L2.CX P w) 4 "Counter" "less" 2 F_Counter_less) (C_Counter_marks:MthD P w K mg base CX0 1 "Counter" "marks" 1 F_Counter_marks) (C_Counter_more:MthD P w K mg base (L2.CX P w) 4 "Counter" "more" 2 F_Counter_more) (C_Counter_with_mark:MthD P w K mg base (L2.CX P w) 7 "Counter" "with_mark" 3 F_Counter_with_mark) (C__law_alike:FnD P w K mg base CX0 1 "_law_alike" 2 F__law_alike) (C__law_heard:FnD P w K mg base CX0 8 "_law_heard" 3 F__law_heard) (C__law_mixed:FnD P w K mg base CX0 2 "_law_mixed" 2 F__law_mixed) (C__law_take:FnD P w K mg base CX0 1 "_law_take" 2 F__law_take):FnD P w K mg base CX0 9 "_law_right" 3 F__law_right:=by
 refine fn_ok0 F sc__law_right hm rfl rfl (fun _ _ _ _ _ _ us hl=>match us,hl with | [_,_,_],_=>rfl) fun cdv A out s H E hr hgd=>?_
 have nd:=(sc__law_right).nd
 unfold g__law_right b__law_right_2 b__law_right_1
 exact Exists.intro _ (ss_cons (sm_for [true,true,true,false,false,false,false,false,false,false,false,false,false,false,false] PassesOwn.never rfl (mi_seqK K (pm_callK C__law_mixed (hr.mono (by decide)) hgd rfl pass_0 (pma_cons (pm_var 0) (pma_cons (pm_lst (pma_cons pm_int (pma_cons pm_int (pma_cons pm_int (pma_cons pm_int (pma_cons pm_int pma_nil)))))) pma_nil)))) (pg_nm 3 nd) (ss_one (sm_if (pt_cmpK op_lt (od_lt (K:=K)) (pm_var 3) pm_int (nomark _)) (ss_one (sm_for [true,true,true,true,false,false,false,false,false,false,false,false,false,false,false] PassesOwn.never rfl (mi_seqK K (pm_callK C__law_mixed (hr.mono (by decide)) hgd rfl pass_0 (pma_cons (pm_var 0) (pma_cons (pm_listRng rfl rfl T.m_list rfl T.m_range (pm_cbK (call_lenA K) (cd_lenA (K:=K)) (by rfl) T.m_len PySem.boot_len (pma_cons (pm_var 2) pma_nil))) pma_nil)))) (pg_nm 4 nd) (ss_one (sm_if (pt_no (pt_of (pm_callK C__law_alike (hr.mono (by decide)) hgd rfl pass_0 (pma_cons (pm_callK C__law_heard (hr.mono (by decide)) hgd rfl pass_0 (pma_cons (pm_var 3) (pma_cons (pm_var 1) (pma_cons (pm_var 4) pma_nil)))) (pma_cons (pm_tup (pma_cons pm_str (pma_cons (pm_idxA K hr.units (pm_idxA K hr.units (pm_var 2) (pm_var 4) (fun _ _=>rfl)) (pm_var 3) (fun _ _=>rfl)) pma_nil))) pma_nil))))) (ss_one (sm_ret pm_bl)) ss_nil)))) (ss_one (sm_if (pt_cmpK (op_eqA K hr.units) (od_eqA (K:=K)) (pm_var 3) pm_int (nomark _)) (ss_cons (sm_new 5 nd (pm_meth0 C_Counter_marks (hr.mono (by decide)) hgd pass_0 (pm_var 1)))
   (ss_cons (sm_if (PMW.t (w_or (pt_no (pt_of (pm_callK C__law_alike (hr.mono (by decide)) hgd rfl pass_0 (pma_cons (pm_var 5) (pma_cons (pm_var 2) pma_nil))))) (w_or1 (pt_cmpK (op_neK K hr.units) (od_ne (K:=K)) (pm_lenO C_Counter___len__ (hr.mono (by decide)) hgd rfl T.m_len (pm_var 1)) (pm_cbK (call_lenA K) (cd_lenA (K:=K)) (by rfl) T.m_len PySem.boot_len (pma_cons (pm_var 2) pma_nil)) (nomark _))))) (ss_one (sm_ret pm_bl)) ss_nil)
   (ss_one (sm_expr (pm_bm0K K PySem.F.plainAttrs_list PySem.F.slot_list_clear PySem.F.type_list_clear mt_clear td_list md_clear (pm_var 5)))))) (ss_cons (sm_par 4 6 rfl nd (pma_cons (pm_callK C__law_take (hr.mono (by decide)) hgd rfl pass_0 (pma_cons (pm_var 0) (pma_cons (pm_cbK (call_lenA K) (cd_lenA (K:=K)) (by rfl) T.m_len PySem.boot_len (pma_cons (pm_var 2) pma_nil)) pma_nil))) (pma_cons (pm_cbK (call_lenA K) (cd_lenA (K:=K)) (by rfl) T.m_len PySem.boot_len (pma_cons (pm_var 2) pma_nil)) pma_nil)))
   (ss_cons (sm_asg 7 nd (pm_tup (pma_cons (pm_callK C__law_take (hr.mono (by decide)) hgd rfl pass_0 (pma_cons (pm_var 0) (pma_cons (pm_var 6) pma_nil))) (pma_cons (pm_idxA K hr.units (pm_lst (pma_cons pm_non (pma_cons (pm_callK C__law_take (hr.mono (by decide)) hgd rfl pass_0 (pma_cons (pm_var 0) (pma_cons (pm_var 6) pma_nil))) pma_nil))) (pm_callK C__law_take (hr.mono (by decide)) hgd rfl pass_0 (pma_cons (pm_var 0) (pma_cons pm_int pma_nil))) (fun _ _=>rfl)) (pma_cons (pm_cmpK (op_eqA K hr.units) (od_eqA (K:=K)) (pm_callK C__law_take (hr.mono (by decide)) hgd rfl pass_0 (pma_cons (pm_var 0) (pma_cons pm_int pma_nil))) pm_int (nomark _)) pma_nil)))))
   (ss_cons (sm_asgX 8 nd (px_if (pt_cmpK (op_eqA K hr.units) (od_eqA (K:=K)) (pm_callK C__law_take (hr.mono (by decide)) hgd rfl pass_0 (pma_cons (pm_var 0) (pma_cons pm_int pma_nil))) pm_int (nomark _)) (px_of (pm_ctK (call_listA K rfl) (cd_listA (K:=K)) (by rfl) T.m_list (by decide +kernel) (pma_cons (pm_var 7) pma_nil))) (px_of (pm_var 7))))
   (ss_cons (sm_tgt (pg_tpK K rfl (gs_cons (pg_nm 9 nd) (gs_cons (pg_nm 10 nd) gs_nil))) (pm_tup (pma_cons (pm_meth C_Counter_with_mark (hr.mono (by decide)) hgd passWF (pm_var 1) (pma_cons (pm_var 4) (pma_cons (pm_var 8) pma_nil))) (pma_cons (pm_addK K (pm_addK K (pm_slK K (pm_var 2) mo_none (mo_some (pm_var 4))) (pm_lst (pma_cons (pm_var 7) pma_nil))) (pm_slK K (pm_var 2) (mo_some (pm_addK K (pm_var 4) pm_int)) mo_none)) pma_nil))))
   (ss_cons (sm_if (pt_of (pm_isi K rfl T.m_isinstance (.ty "list") T.iT_list (pm_var 8) (pe_tyN rfl T.m_list (by decide +kernel)))) (ss_one (sm_expr (pm_bm0K K PySem.F.plainAttrs_list PySem.F.slot_list_clear PySem.F.type_list_clear mt_clear td_list md_clear (pm_var 8)))) ss_nil)
   (ss_cons (sm_asg 11 nd (pm_lst (pma_cons (pm_meth0 C_Counter_marks (hr.mono (by decide)) hgd pass_0 (pm_var 9)) (pma_cons (pm_lc (own:=[("_law_k",13)]) rfl nd (mi_rng1 rfl T.m_range (pma_cons (pm_var 6) pma_nil)) (blkOk_by (N:=N__law_right) (sc:=defScope s__law_right) (by decide +kernel)) (fun _ _ _ _ _=>(pg_nm 13 nd)) (by decide) (fun _ _ _ _ _=>ts_nil) (fun _ _ _ _ _=>(pm_meth C_Counter_more (hr.mono (by decide)) hgd passWF (pm_var 9) (pma_cons (pm_var 13) pma_nil)))) (pma_cons (pm_lc (own:=[("_law_k",13)]) rfl nd (mi_rng1 rfl T.m_range (pma_cons (pm_var 6) pma_nil)) (blkOk_by (N:=N__law_right) (sc:=defScope s__law_right) (by decide +kernel)) (fun _ _ _ _ _=>(pg_nm 13 nd)) (by decide) (fun _ _ _ _ _=>ts_nil) (fun _ _ _ _ _=>(pm_meth C_Counter_less (hr.mono (by decide)) hgd passWF (pm_var 9) (pma_cons (pm_var 13) pma_nil)))) pma_nil)))))
   (ss_cons (sm_asg 11 nd (pm_addK K (pm_var 11) (pm_lst (pma_cons (pm_lc (own:=[("_law_k",13)]) rfl nd (mi_rng1 rfl T.m_range (pma_cons (pm_var 6) pma_nil)) (blkOk_by (N:=N__law_right) (sc:=defScope s__law_right) (by decide +kernel)) (fun _ _ _ _ _=>(pg_nm 13 nd)) (by decide) (fun _ _ _ _ _=>ts_nil) (fun _ _ _ _ _=>(pm_meth C_Counter_copies (hr.mono (by decide)) hgd passWF (pm_var 9) (pma_cons (pm_var 13) pma_nil)))) (pma_cons (pm_lenO C_Counter___len__ (hr.mono (by decide)) hgd rfl T.m_len (pm_var 9)) pma_nil)))))
   (ss_cons (sm_asg 12 nd (pm_lst (pma_cons (pm_var 10) (pma_cons (pm_lc (own:=[("_law_one",14)]) rfl nd (mi_seqK K (pm_var 10)) (blkOk_by (N:=N__law_right) (sc:=defScope s__law_right) (by decide +kernel)) (fun _ _ _ _ _=>(pg_nm 14 nd)) (by decide) (fun _ _ _ _ _=>ts_nil) (fun _ _ _ _ _=>(pm_idxA K hr.units (pm_var 14) pm_int (fun _ _=>rfl)))) (pma_cons (pm_lc (own:=[("_law_one",14)]) rfl nd (mi_seqK K (pm_var 10)) (blkOk_by (N:=N__law_right) (sc:=defScope s__law_right) (by decide +kernel)) (fun _ _ _ _ _=>(pg_nm 14 nd)) (by decide) (fun _ _ _ _ _=>ts_nil) (fun _ _ _ _ _=>(pm_idxA K hr.units (pm_var 14) pm_int (fun _ _=>rfl)))) (pma_cons (pm_lc (own:=[("_law_one",14)]) rfl nd (mi_seqK K (pm_var 10)) (blkOk_by (N:=N__law_right) (sc:=defScope s__law_right) (by decide +kernel)) (fun _ _ _ _ _=>(pg_nm 14 nd)) (by decide) (fun _ _ _ _ _=>ts_nil) (fun _ _ _ _ _=>(pm_idxA K hr.units (pm_var 14) pm_int (fun _ _=>rfl)))) (pma_cons (pm_var 6) pma_nil)))))))
   (ss_one (sm_if (PMW.t (w_or (pt_no (pt_of (pm_callK C__law_alike (hr.mono (by decide)) hgd rfl pass_0 (pma_cons (pm_var 11) (pma_cons (pm_var 12) pma_nil))))) (w_or1 (pt_no (pt_eqO C_Counter___eq__ (hr.mono (by decide)) hgd (fun _ c=>T.k_Counter.uniq c▸T.iC_Counter) (pm_var 9) (pm_make C_Counter___init__ (hr.mono (by decide)) hgd rfl pass_0 (pma_cons (pm_var 10) pma_nil))))))) (ss_one (sm_ret pm_bl)) ss_nil)))))))))))))))
   (ss_one (sm_ret pm_bl)))
set_option maxHeartbeats 4000000 in
theorem ok_law {f:Addr} {fd:FuncData} (F:Fun K "law" "law" s_law f fd) (T:Tx P w K mg c_Counter c_CountError c_NoMark c_Wrong i_NoMark i_Wrong) (C_Counter___eq__:MthD P w K mg base CX0 1 "Counter" "__eq__" 2 F_Counter___eq__) (C_Counter___init__:MakD P w K mg base CX0 5 "Counter" 2 F_Counter___init__) (C__law_alike:FnD P w K mg base CX0 1 "_law_alike" 2 F__law_alike) (C__law_bag:FnD P w K mg base CX0 1 "_law_bag" 1 F__law_bag) (C__law_counter:FnD P w K mg base CX0 2 "_law_counter" 1 F__law_counter) (C__law_handed:FnDX P w K mg base CX0 2 "_law_handed" 2 F__law_handed) (C__law_heard:FnD P w K mg base CX0 8 "_law_heard" 3 F__law_heard) (C__law_near_counter:FnD P w K mg base CX0 2 "_law_near_counter" 2 F__law_near_counter) (C__law_right:FnD P w K mg base CX0 9 "_law_right" 3 F__law_right):FnG P w K mg base CX0 10 f fd ["_law_script"] (spF K 1 F_law):=by
 refine fn_okG F sc_law rfl rfl fun cdv A out s H E hr hgd=>?_
 have nd:=(sc_law).nd
 unfold g_law b_law_6 b_law_5 b_law_4 b_law_3 b_law_2 b_law_1
 exact Exists.intro _ (ss_cons (sm_new 1 nd (pm_callK C__law_bag (hr.mono (by decide)) hgd rfl pass_0 (pma_cons (pm_var 0) pma_nil)))
   (ss_cons (sm_for [true,true,false,false,false,false,false,false,false,false,false,false,false,false] PassesOwn.never rfl (mi_rng1 rfl T.m_range (pma_cons pm_int pma_nil)) (pg_nm 2 nd) (ss_cons (sm_asg 3 nd (pm_callK C__law_counter (hr.mono (by decide)) hgd rfl pass_0 (pma_cons (pm_var 1) pma_nil)))
   (ss_cons (sm_asgX 4 nd (px_callK C__law_handed (hr.mono (by decide)) hgd rfl pass_0 (pma_cons (pm_var 1) (pma_cons (pm_var 3) pma_nil))))
   (ss_cons (sm_asg 5 nd (pm_make C_Counter___init__ (hr.mono (by decide)) hgd rfl pass_0 (pma_cons (pm_var 4) pma_nil)))
   (ss_cons (sm_forPT K [true,true,true,true,true,true,false,false,false,false,false,false,false,false] 6 nd PassesOwn.never rfl (pm_var 4) (ss_one (sm_if (pt_of (pm_isi K rfl T.m_isinstance (.ty "list") T.iT_list (pm_var 6) (pe_tyN rfl T.m_list (by decide +kernel)))) (ss_one (sm_expr (pm_bm0K K PySem.F.plainAttrs_list PySem.F.slot_list_clear PySem.F.type_list_clear mt_clear td_list md_clear (pm_var 6)))) ss_nil)))
   (ss_cons (sm_if (pt_of (pm_isiB K rfl T.m_isinstance (.ty "list") T.iT_list (pm_var 4) (pe_tyN rfl T.m_list (by decide +kernel)))) (ss_one (sm_expr (pm_bm0K K PySem.F.plainAttrs_list PySem.F.slot_list_clear PySem.F.type_list_clear mt_clear td_list md_clear (pm_var 4)))) ss_nil)
   (ss_cons (sm_for [true,true,true,true,true,true,false,false,false,false,false,false,false,false] PassesOwn.never rfl (mi_rng1 rfl T.m_range (pma_cons pm_int pma_nil)) (pg_nm 7 nd) (ss_one (sm_if (pt_no (pt_of (pm_callK C__law_right (hr.mono (by decide)) hgd rfl pass_0 (pma_cons (pm_var 1) (pma_cons (pm_var 5) (pma_cons (pm_var 3) pma_nil)))))) (ss_one (sm_ret pm_bl)) ss_nil)))
   (ss_cons (sm_for [true,true,true,true,true,true,false,false,false,false,false,false,false,false] PassesOwn.never rfl (mi_seqK K (pm_tup (pma_cons (pm_neg pm_int) (pma_cons (pm_cbK (call_lenA K) (cd_lenA (K:=K)) (by rfl) T.m_len PySem.boot_len (pma_cons (pm_var 3) pma_nil)) (pma_cons (pm_addK K (pm_cbK (call_lenA K) (cd_lenA (K:=K)) (by rfl) T.m_len PySem.boot_len (pma_cons (pm_var 3) pma_nil)) pm_int) (pma_cons pm_bl (pma_cons pm_bl (pma_cons pm_non (pma_cons pm_str (pma_cons (pm_tup pma_nil) (pma_cons (pm_lst pma_nil) (pma_cons (pm_lk pm_dnew) (pma_cons (pm_tup (pma_cons pm_int pma_nil)) (pma_cons (pm_op op_pow (od_pow (K:=K)) pm_int pm_int) pma_nil)))))))))))))) (pg_nm 8 nd) (ss_one (sm_for [true,true,true,true,true,true,false,false,true,false,false,false,false,false] PassesOwn.never rfl (mi_rng1 rfl T.m_range (pma_cons pm_int pma_nil)) (pg_nm 9 nd) (ss_one (sm_if (pt_no (pt_of (pm_callK C__law_alike (hr.mono (by decide)) hgd rfl pass_0 (pma_cons (pm_callK C__law_heard (hr.mono (by decide)) hgd rfl pass_0 (pma_cons (pm_var 9) (pma_cons (pm_var 5) (pma_cons (pm_var 8) pma_nil)))) (pma_cons (pm_tup (pma_cons pm_str (pma_cons (pm_var 8) pma_nil))) pma_nil))))) (ss_one (sm_ret pm_bl)) ss_nil)))))
   (ss_cons (sm_for [true,true,true,true,true,true,false,false,false,false,false,false,false,false] PassesOwn.never rfl (mi_rng1 rfl T.m_range (pma_cons pm_int pma_nil)) (pg_nm 10 nd) (ss_cons (sm_asg 11 nd (pm_callK C__law_near_counter (hr.mono (by decide)) hgd rfl pass_0 (pma_cons (pm_var 1) (pma_cons (pm_var 3) pma_nil))))
   (ss_cons (sm_par 12 13 rfl nd (pma_cons (pm_make C_Counter___init__ (hr.mono (by decide)) hgd rfl pass_0 (pma_cons (pm_var 11) pma_nil)) (pma_cons (pm_cmpK (op_eqA K hr.units) (od_eqA (K:=K)) (pm_var 11) (pm_var 3) (nomark _)) pma_nil)))
   (ss_one (sm_if (pt_no (pt_of (pm_callK C__law_alike (hr.mono (by decide)) hgd rfl pass_0 (pma_cons (pm_lst (pma_cons (pm_eqO C_Counter___eq__ (hr.mono (by decide)) hgd (fun _ c=>T.k_Counter.uniq c▸T.iC_Counter) (pm_var 5) (pm_var 12)) (pma_cons (pm_eqO C_Counter___eq__ (hr.mono (by decide)) hgd (fun _ c=>T.k_Counter.uniq c▸T.iC_Counter) (pm_var 12) (pm_var 5)) (pma_cons (pm_neO C_Counter___eq__ (hr.mono (by decide)) hgd (fun _ c=>T.k_Counter.uniq c▸T.iC_Counter) (fun _ c=>T.k_Counter.uniq c▸T.nn_Counter) (pm_var 5) (pm_var 12)) pma_nil)))) (pma_cons (pm_lst (pma_cons (pm_var 13) (pma_cons (pm_var 13) (pma_cons (pm_not (pm_var 13)) pma_nil)))) pma_nil))))) (ss_one (sm_ret pm_bl)) ss_nil)))))
   (ss_one (sm_if (PMW.t (w_or (pt_no (pt_eqO C_Counter___eq__ (hr.mono (by decide)) hgd (fun _ c=>T.k_Counter.uniq c▸T.iC_Counter) (pm_var 5) (pm_make C_Counter___init__ (hr.mono (by decide)) hgd rfl pass_0 (pma_cons (pm_ctK (call_tuple_ofK K) (cd_tuple (K:=K)) (by rfl) T.m_tuple (by decide +kernel) (pma_cons (pm_var 3) pma_nil)) pma_nil)))) (w_or (pt_eqO C_Counter___eq__ (hr.mono (by decide)) hgd (fun _ c=>T.k_Counter.uniq c▸T.iC_Counter) (pm_var 5) (pm_var 3)) (w_or (pt_eqO C_Counter___eq__ (hr.mono (by decide)) hgd (fun _ c=>T.k_Counter.uniq c▸T.iC_Counter) (pm_var 5) pm_non) (w_or1 (pt_eqO C_Counter___eq__ (hr.mono (by decide)) hgd (fun _ c=>T.k_Counter.uniq c▸T.iC_Counter) (pm_var 5) (pm_cbK (call_lenA K) (cd_lenA (K:=K)) (by rfl) T.m_len PySem.boot_len (pma_cons (pm_var 3) pma_nil)))))))) (ss_one (sm_ret pm_bl)) ss_nil)))))))))))
   (ss_one (sm_ret pm_bl))))
end
end
end K30
set_option maxHeartbeats 8000000
noncomputable section
namespace K30
open PySem PySem.Spec PyProof.Rows L2 DL
local macro_rules | `(tactic| walk_at "isi") => `(tactic| first
 | (with_reducible refine is_non_int ?_)|(with_reducible refine is_non_bool ?_)|(with_reducible refine is_non_str ?_)|(with_reducible refine is_non_tuple ?_)|(with_reducible refine is_non_list ?_)|(with_reducible refine is_non_dict ?_)|(with_reducible refine is2_non_list_tuple ?_)|(with_reducible refine isC_non ?_)|(with_reducible refine is_bl_int ?_)|(with_reducible refine is_bl_bool ?_)|(with_reducible refine is_bl_str ?_)|(with_reducible refine is_bl_tuple ?_)|(with_reducible refine is_bl_list ?_)|(with_reducible refine is_bl_dict ?_)|(with_reducible refine is2_bl_list_tuple ?_)|(with_reducible refine isC_bl ?_)|(with_reducible refine is_int_int ?_)|(with_reducible refine is_int_bool ?_)|(with_reducible refine is_int_str ?_)|(with_reducible refine is_int_tuple ?_)|(with_reducible refine is_int_list ?_)|(with_reducible refine is_int_dict ?_)|(with_reducible refine is2_int_list_tuple ?_)|(with_reducible refine isC_int ?_)|(with_reducible refine is_str_int ?_)|(with_reducible refine is_str_bool ?_)|(with_reducible refine is_str_str ?_)|(with_reducible refine is_str_tuple ?_)|(with_reducible refine is_str_list ?_)|(with_reducible refine is_str_dict ?_)|(with_reducible refine is2_str_list_tuple ?_)|(with_reducible refine isC_str ?_)|(with_reducible refine is_tup_int ?_)|(with_reducible refine is_tup_bool ?_)|(with_reducible refine is_tup_str ?_)|(with_reducible refine is_tup_tuple ?_)|(with_reducible refine is_tup_list ?_)|(with_reducible refine is_tup_dict ?_)|(with_reducible refine is2_tup_list_tuple ?_)|(with_reducible refine isC_tup ?_)|(with_reducible refine is_lst_int ?_)|(with_reducible refine is_lst_bool ?_)|(with_reducible refine is_lst_str ?_)|(with_reducible refine is_lst_tuple ?_)|(with_reducible refine is_lst_list ?_)|(with_reducible refine is_lst_dict ?_)|(with_reducible refine is2_lst_list_tuple ?_)|(with_reducible refine isC_lst ?_)|(with_reducible refine is_fro_int ?_)|(with_reducible refine is_fro_bool ?_)|(with_reducible refine is_fro_str ?_)|(with_reducible refine is_fro_tuple ?_)|(with_reducible refine is_fro_list ?_)|(with_reducible refine is_fro_dict ?_)|(with_reducible refine is2_fro_list_tuple ?_)|(with_reducible refine isC_fro ?_)|(with_reducible refine is_dct_int ?_)|(with_reducible refine is_dct_bool ?_)|(with_reducible refine is_dct_str ?_)|(with_reducible refine is_dct_tuple ?_)|(with_reducible refine is_dct_list ?_)|(with_reducible refine is_dct_dict ?_)|(with_reducible refine is2_dct_list_tuple ?_)|(with_reducible refine isC_dct ?_)|(with_reducible refine isC_own ?_)
 | (with_reducible refine is2_ins (by simp) ?_)|(with_reducible refine is_ins_int (by simp) ?_)|(with_reducible refine is_ins_bool (by simp) ?_)|(with_reducible refine is_ins_str (by simp) ?_)|(with_reducible refine is_ins_tuple (by simp) ?_)|(with_reducible refine is_ins_list (by simp) ?_)|(with_reducible refine is_ins_dict (by simp) ?_)|fail "isi")
local macro_rules | `(tactic| walk_at "tk") => `(tactic| first | exact List.take_length | exact take_cons | exact take_consA | exact mem_take | exact take_len | fail "tk")
local macro_rules | `(tactic| walk_at "al") => `(tactic| first | exact allDat_mapf _ _ | exact allDat_map _ | (repeat (first | exact al_nil | apply al_cons)))
local macro_rules | `(tactic| walk_at "set") => `(tactic| (simp only [List.set_cons_succ, List.set_cons_zero]; exact rfl))
local macro_rules | `(tactic| walk_at "sxS") => `(tactic| first | (with_reducible refine set_now (by walk_at "set") ?_) | (with_reducible refine s_seq ?_) | (with_reducible refine s_asg ?_) | (with_reducible refine s_ret ?_) | (with_reducible refine s_if ?_) | (with_reducible refine s_drop ?_) | (with_reducible refine s_next ?_) | (with_reducible refine s_new ?_) | (with_reducible refine s_for ?_) | (with_reducible refine s_tgt ?_) | (with_reducible refine s_par ?_) | (with_reducible refine s_disp ?_) | (with_reducible refine s_wh ?_) | (with_reducible refine s_fld ?_) | (with_reducible refine s_set ?_) | (with_reducible refine s_aug rfl ?_) | (with_reducible refine s_par2 ?_) | (with_reducible refine s_raiseK ?_) | (with_reducible refine s_raise0 ?_) | (with_reducible refine s_tryE ?_) | (with_reducible refine s_try ?_) | (with_reducible refine s_dput ?_) | (with_reducible refine s_tput ?_) | (with_reducible refine s_par3 ?_) | (with_reducible refine s_swp ?_) | (with_reducible refine r_dat ?_) | (with_reducible refine r_loc ?_) | (with_reducible refine s_bld ?_) | (with_reducible refine s_bseq ?_) | (with_reducible refine s_pub ?_) | (with_reducible refine s_tgtM ?_) | (with_reducible refine s_daug ?_) | (with_reducible refine s_fldaug ?_) | fail "sxS")
local macro_rules | `(tactic| walk_at "sxV") => `(tactic| first | (with_reducible refine v_var rfl ?_) | (with_reducible refine v_D ?_) | (with_reducible refine x_fz ?_) | (with_reducible refine x_xof ?_) | (with_reducible refine x_xcall ?_) | (with_reducible refine x_xmeth ?_) | (with_reducible refine x_xmake ?_) | (with_reducible refine x_xix (k := 0) ?_) | (with_reducible refine x_xix (k := 1) ?_) | (with_reducible refine x_xtup ?_) | fail "sxV")
local macro_rules | `(tactic| walk_at "sxA") => `(tactic| first | (with_reducible refine a_consK ?_) | (with_reducible refine a_nilK ?_) | (with_reducible refine n_consK ?_) | (with_reducible refine n_nilK ?_) | (with_reducible refine a_starK ?_) | (with_reducible refine xa_nilK ?_) | (with_reducible refine xa_consK ?_) | fail "sxA")
local macro_rules | `(tactic| walk_at "sxT") => `(tactic| first | (with_reducible refine t_B ?_) | (with_reducible refine t_not ?_) | (with_reducible refine t_and ?_) | (with_reducible refine t_or ?_) | (with_reducible refine t_yes ?_) | fail "sxT")
local macro_rules | `(tactic| walk_at "sxO") => `(tactic| first | (with_reducible refine o_noneK ?_) | (with_reducible refine o_someK ?_) | fail "sxO")
local macro_rules | `(tactic| walk_at "sxP") => `(tactic| first | (with_reducible refine p_nilK ?_) | (with_reducible refine p_consK ?_) | fail "sxP")
local macro_rules | `(tactic| walk_at "sxI") => `(tactic| first | (with_reducible refine i_seq ?_) | (with_reducible refine i_keysT ?_) | (with_reducible refine i_itemsT ?_) | (with_reducible refine i_keysK ?_) | (with_reducible refine i_itemsK ?_) | (with_reducible refine i_vals ?_) | (with_reducible refine i_dwn ?_) | (with_reducible refine i_enum ?_) | (with_reducible refine i_enumL ?_) | (with_reducible refine i_rng ?_) | (with_reducible refine i_rng2 ?_) | (with_reducible refine i_keysL ?_) | (with_reducible refine i_itemsL ?_) | fail "sxI")
local macro_rules | `(tactic| walk_at "sxF") => `(tactic| first | (with_reducible refine z_dat ?_) | (with_reducible refine z_loc ?_) | (with_reducible refine z_ofD ?_) | (with_reducible refine z_nlm ?_) | (with_reducible refine z_nlf ?_) | (with_reducible refine z_nlc ?_) | (with_reducible refine z_nl (by walk_at "al") ?_) | fail "sxF")
local macro_rules | `(tactic| walk_at "sxC") => `(tactic| first | (with_reducible refine if_T ?_) | (with_reducible refine if_F ?_) | (with_reducible refine if_bT (by decide +kernel) ?_) | (with_reducible refine if_bF (by decide +kernel) ?_) | (with_reducible refine if_bT (by with_unfolding_all exact rfl) ?_) | (with_reducible refine if_bF (by with_unfolding_all exact rfl) ?_) | fail "sxC")
local macro_rules | `(tactic| walk_at "sxD") => `(tactic| first | (with_reducible refine l_addI ?_) | (with_reducible refine l_sub ?_) | (with_reducible refine l_neg ?_) | (with_reducible refine l_eqI ?_) | (with_reducible refine l_neI ?_) | (with_reducible refine l_eqS ?_) | (with_reducible refine l_neS ?_) | (with_reducible refine l_lt ?_) | (with_reducible refine l_le ?_) | (with_reducible refine l_gt ?_) | (with_reducible refine l_ge ?_) | (with_reducible refine l_ixT rfl ?_) | (with_reducible refine l_ixL rfl ?_) | (with_reducible refine l_slT ?_) | (with_reducible refine l_slL ?_) | (with_reducible refine l_lenT ?_) | (with_reducible refine l_lenL ?_) | (with_reducible refine l_int ?_) | (with_reducible refine l_intB ?_) | (with_reducible refine l_listT ?_) | (with_reducible refine l_listL ?_) | (with_reducible refine l_tupL ?_) | (with_reducible refine l_tupT ?_) | (with_reducible refine l_inT ?_) | (with_reducible refine l_ninT ?_) | (with_reducible refine l_inL ?_) | (with_reducible refine l_ninL ?_) | (with_reducible refine l_mm ?_) | (with_reducible refine w_ix ?_; first | (with_reducible refine l_ixT rfl ?_) | (with_reducible refine l_ixL rfl ?_) | (with_reducible refine l_ix0T ?_) | (with_reducible refine l_ix0L ?_)) | (with_reducible refine w_in ?_; first | (with_reducible refine l_inT ?_) | (with_reducible refine l_ninT ?_) | (with_reducible refine l_inL ?_) | (with_reducible refine l_ninL ?_)) | (with_reducible refine w_eq ?_; first | (with_reducible refine l_eqI ?_) | (with_reducible refine l_eqS ?_)) | (with_reducible refine w_eqC (w_eq ?_); first | (with_reducible refine l_eqI ?_) | (with_reducible refine l_eqS ?_)) | (with_reducible refine w_len ?_; first | (with_reducible refine l_lenT ?_) | (with_reducible refine l_lenL ?_)) | (with_reducible refine w_list ?_; first | (with_reducible refine l_listT ?_) | (with_reducible refine l_listL ?_)) | (walk_at "isi") | fail "sxD")
local macro_rules | `(tactic| walk_at "sxR") => `(tactic| first | (with_reducible refine x_op ?_) | (with_reducible refine x_cb ?_) | (with_reducible refine x_varD rfl ?_) | (with_reducible refine x_varL rfl ?_) | (with_reducible refine x_D ?_) | (with_reducible refine x_if ?_) | (with_reducible refine x_tup ?_) | (with_reducible refine x_lst ?_) | (with_reducible refine x_bm ?_) | (with_reducible refine x_bm0 ?_) | (with_reducible refine x_sl ?_) | (with_reducible refine x_and ?_) | (with_reducible refine x_or ?_) | (with_reducible refine x_not ?_) | (with_reducible refine x_un ?_) | (with_reducible refine x_isN ?_) | (with_reducible refine x_notN ?_) | (with_reducible refine x_chain ?_) | (with_reducible refine x_inK ?_) | (with_reducible refine x_lc ?_) | (with_reducible refine x_fldK ?_) | (with_reducible refine x_meth ?_) | (with_reducible refine x_make ?_) | (with_reducible refine x_lenO ?_) | (with_reducible refine x_eqO ?_) | (with_reducible refine x_inO ?_) | (with_reducible refine x_kget ?_) | (with_reducible refine x_lk ?_) | (with_reducible refine x_disK ?_) | (with_reducible refine x_dnew ?_) | (with_reducible refine x_dget1 ?_) | (with_reducible refine x_tget ?_) | (with_reducible refine x_tin ?_) | (with_reducible refine x_disT ?_) | (with_reducible refine x_dc ?_) | (with_reducible refine x_lc2 ?_) | (with_reducible refine x_disU ?_) | (with_reducible refine x_neO ?_) | (with_reducible refine x_cbT ?_) | (with_reducible refine x_listRng ?_) | (with_reducible refine x_isE rfl rfl ?_) | (with_reducible refine x_isE0 rfl rfl ?_) | (with_reducible refine l_eq1 ?_) | (with_reducible refine x_ymethA ?_) | (with_reducible refine x_yix (k := 0) ?_) | (with_reducible refine x_yix (k := 1) ?_) | (with_reducible refine x_ycall ?_) | (with_reducible refine l_sortF ?_) | (with_reducible refine x_xf rfl rfl ?_) | (walk_at "sxD") | (with_reducible refine x_dpop1 ?_) | (with_reducible refine x_dpop2 ?_) | (with_reducible refine x_dictZip ?_) | fail "sxR")
local macro_rules | `(tactic| walk_at "sxE") => `(tactic| first | (with_reducible refine e_dat (by walk_at "tk") ?_) | (with_reducible refine e_ofD (by walk_at "tk") ?_) | (with_reducible refine e_nlf (by walk_at "tk") ?_) | (with_reducible refine e_nlm (by walk_at "tk") ?_) | (with_reducible refine e_nl (by walk_at "tk") (by with_unfolding_all exact rfl) ?_) | fail "sxE")
local macro_rules | `(tactic| walk_at "sxX") => `(tactic| first | (with_reducible refine gBlK ?_; first | (with_reducible refine b_bl ?_) | (with_reducible refine b_ofD ?_)) | (with_reducible refine p_dat ?_) | (with_reducible refine p_loc ?_) | (with_reducible refine ik ?_) | (with_reducible refine stk ?_) | (with_reducible refine sk_l ?_) | (with_reducible refine sk_t ?_) | (with_reducible refine sk_f ?_) | (with_reducible refine pk ?_) | (with_reducible refine gTgt' ?_; with_reducible refine gk rfl ?_) | (with_reducible refine gTup ?_; with_reducible refine tk (by walk_at "al") (sz_lit rfl) ?_) | (with_reducible refine gFld' ?_; with_reducible refine fk1 (by simp) ?_) | (with_reducible refine gNxt ?_; with_reducible refine e_nx (by walk_at "tk") ?_) | (with_reducible refine dkk ?_)   | (with_reducible refine gAnd ?_; first | (with_reducible refine And.intro (sz_lit rfl) ?_) | (with_reducible refine And.intro (isDct_dat (by assumption)) ?_) | (with_reducible refine And.intro ty_l ?_) | (with_reducible refine And.intro ty_s ?_) | (with_reducible refine And.intro (isI_one (by decide)) ?_) | (with_reducible refine And.intro (tyL_loc mem_here) ?_))   | (with_reducible refine gBind ?_; first | (with_reducible refine bk_dat ?_) | (with_reducible refine bk_loc ?_) | (with_reducible refine bk_nlF (by walk_at "al") ?_)) | fail "sxX")
local macro_rules | `(tactic| walk_at "sxB") => `(tactic| first | (with_reducible refine b_seqK ?_) | (with_reducible refine b_nilK ?_) | (with_reducible refine b_fldK ?_) | (with_reducible refine b_fldVK ?_) | (with_reducible refine b_tup2K ?_) | fail "sxB")
local macro_rules | `(tactic| walk_at "sxH") => `(tactic| first | (with_reducible refine h_nilK ?_) | (with_reducible refine h_consK ?_) | (with_reducible refine h_nameK ?_) | (with_reducible refine h_fldK ?_) | (with_reducible refine h_dputK ?_) | fail "sxH")
local macro_rules | `(tactic| walk_at "sx1") => `(tactic| first | (with_reducible refine gS ?_; walk_at "sxS") | (with_reducible refine gV ?_; walk_at "sxV") | (with_reducible refine gR ?_; walk_at "sxR") | (with_reducible refine gA ?_; walk_at "sxA") | (with_reducible refine gT ?_; walk_at "sxT") | (with_reducible refine gF ?_; walk_at "sxF") | (with_reducible refine gC ?_; walk_at "sxC") | (with_reducible refine gRt ?_; walk_at "sxE") | (with_reducible refine gO ?_; walk_at "sxO") | (with_reducible refine gI ?_; walk_at "sxI") | (with_reducible refine gP ?_; walk_at "sxP") | (with_reducible refine gBb ?_; walk_at "sxB") | (with_reducible refine gHh ?_; walk_at "sxH") | (walk_at "sxX") | fail "sx")
local macro_rules | `(tactic| walk_at "sx") => `(tactic| repeat' (walk_at "sx1"))
local macro_rules | `(tactic| walk_at "sxs") => `(tactic| repeat' (first | (walk_at "sx1") | (with_reducible refine if_dec (fun _ => ?_) (fun _ => ?_)) | (with_reducible refine if_ndec (fun _ => ?_) (fun _ => ?_)) | fail "sxs"))
section
variable {QR:R→Mem→Prop}{E:Xc→Mem→Prop}{μ ν:Mem}{B:Bg}{i n:Int}{ms:List Mk}{b:Bool}{k:Nat}{d:D}
theorem take_s {m:Int}(hB:B.ok)(hm:0<m)(hm':m<1073741824)(h:∀ (r:Nat) (B':Bg),B'.ok→(r:Int)<m→QR (.dat (.int r)) (B'.pl::ν)):Sat (F__law_take [.loc 0,.dat (.int m)] (B.pl::ν)) QR E:=by
 rw[e__law_take];exact d_take hB hm hm' h
theorem integer_I (h:QR (.dat (.bl true)) μ):Sat (F_is_integer [.dat (.int i)] μ) QR E:=by
 refine w_is_integer ?_
 unfold g_is_integer
 walk_at "sx"
 exact h
theorem number_I (h:QR (.dat (.bl (decide (0≤i∧i<n)))) μ):Sat (F_is_number [.dat (.int i),.dat (.int n)] μ) QR E:=by
 refine w_is_number ?_
 unfold g_is_number
 walk_at "sx"
 refine integer_I ?_
 walk_at "sx"
 refine if_dec (fun h1=>?_) (fun h1=>?_)
 ·walk_at "sx"
  rw[show decide (i<n)=decide (0≤i∧i<n) by simp[h1]];exact h
 ·walk_at "sx"
  rw[show decide (0≤i∧i<n)=false by simp[h1]] at h;exact h
def NoI:D→Bool
 | .non=>true
 | .bl _=>true
 | .str _=>true
 | .tup _=>true
 | .lst _=>true
 | .dct _=>true
 | _=>false
theorem integer_N (hd:NoI d=true)(h:QR (.dat (.bl false)) μ):Sat (F_is_integer [.dat d] μ) QR E:=by
 refine w_is_integer ?_
 unfold g_is_integer
 cases d <;> simp[NoI] at hd <;> (walk_at "sx";exact h)
theorem number_N (hd:NoI d=true)(h:QR (.dat (.bl false)) μ):Sat (F_is_number [.dat d,.dat (.int n)] μ) QR E:=by
 refine w_is_number ?_
 unfold g_is_number
 walk_at "sx"
 refine integer_N hd ?_
 walk_at "sx"
 exact h
theorem mark_spec {m:Mk}(hm:MkOk n m)(h:QR (.dat (.bl true)) μ):Sat (F_is_mark [.dat (markD m),.dat (.int n)] μ) QR E:=by
 obtain⟨a,l,c⟩:=m
 have h1:0≤a∧a<n:=hm.1
 refine w_is_mark ?_
 unfold g_is_mark
 walk_at "sx"
 refine number_I ?_
 walk_at "sx"
 refine if_bF (by simp[h1]) ?_
 cases l with
 | none =>
  walk_at "sx"
  exact h
 | some j =>
  have h2:0≤j∧j<n:=hm.2 j rfl
  walk_at "sx"
  refine number_I ?_
  walk_at "sx"
  refine if_bT (by simp[h2]) ?_
  walk_at "sx"
  exact h
theorem marks_spec (hms:MsOk ms)(h:QR (.dat (.bl true)) μ):Sat (F_are_marks [.dat (.lst (ms.map markD))] μ) QR E:=by
 have a1:=hms.h1
 have a2:=hms.h6
 refine w_are_marks ?_
 unfold g_are_marks
 walk_at "sx"
 refine w_isiB (is2_lst_list_tuple ?_)
 walk_at "sx"
 refine w_lenB ?_
 walk_at "sx"
 refine if_bT (by simp;omega) ?_
 walk_at "sx"
 refine if_bF (by simp;omega) ?_
 walk_at "sx"
 refine x_alt ?_
 walk_at "sx"
 refine⟨sl_sz (by simp;omega),lc_mapK (fun _=>.bl true) (fun m hm=>⟨_,rfl,?_⟩) ?_⟩
 ·walk_at "sx"
  refine w_lenB ?_
  walk_at "sx"
  rw[List.length_map]
  refine mark_spec (hms.ok m hm) ?_
  walk_at "sx"
  exact⟨rfl,rfl⟩
 ·walk_at "sx"
  refine l_all (f:=fun _=>true) ?_
  walk_at "sx"
  rw[show(ms.map fun _=>true).all id=true by simp];exact h
theorem init_spec (hms:MsOk ms) (h:QR (.dat (ctrD ms)) μ):Sat (F_Counter___init__ [.loc (μ.length+1),.dat (.lst (ms.map markD))] (μ++[.own]++[.ins "Counter" []])) (MkK μ.length QR) E:=by
 have a2:=hms.h6
 refine w_Counter___init__ ?_
 unfold g_Counter___init__
 walk_at "sx"
 refine marks_spec hms ?_
 walk_at "sx"
 refine x_alt ?_
 walk_at "sx"
 refine⟨sl_sz (by simp;omega),lc_mapK markD (fun m hm=>⟨_,rfl,?_⟩) ?_⟩
 ·walk_at "sx"
  exact⟨rfl,rfl⟩
 ·walk_at "sx"
  refine⟨_,init1 (by simp),?_⟩
  refine e_nx (List.take_of_length_le (by simp)) ?_
  exact init1_end h
theorem ctr_len (h:QR (.dat (.int ms.length)) μ):Sat (F_Counter___len__ [.dat (ctrD ms)] μ) QR E:=by
 refine w_Counter___len__ ?_
 unfold g_Counter___len__
 walk_at "sx"
 rw[List.length_map];exact h
theorem ctr_need (hk:k<ms.length)(h6:ms.length≤6)(h:QR (.dat .non) μ):Sat (F_Counter_need_mark [.dat (ctrD ms),.dat (.int k)] μ) QR E:=by
 refine w_Counter_need_mark ?_
 unfold g_Counter_need_mark
 walk_at "sx"
 refine ctr_len ⟨_,rfl,⟨by omega,by omega⟩,?_⟩
 walk_at "sx"
 refine number_I ?_
 walk_at "sx"
 refine if_bF (by simp;omega) ?_
 walk_at "sx"
 exact h
theorem ctr_more {m:Mk}(hk:ms[k]?=some m)(h6:ms.length≤6)(h:QR (.dat (.int m.a)) μ):Sat (F_Counter_more [.dat (ctrD ms),.dat (.int k)] μ) QR E:=by
 refine w_Counter_more ?_
 unfold g_Counter_more
 walk_at "sx"
 refine ctr_need (lt_of_at hk) h6 ?_
 walk_at "sx"
 refine w_ix (l_ixL (at_map hk) ?_)
 walk_at "sx"
 exact h
theorem ctr_less {m:Mk}(hk:ms[k]?=some m)(h6:ms.length≤6)(h:QR (.dat (optD m.l)) μ):Sat (F_Counter_less [.dat (ctrD ms),.dat (.int k)] μ) QR E:=by
 refine w_Counter_less ?_
 unfold g_Counter_less
 walk_at "sx"
 refine ctr_need (lt_of_at hk) h6 ?_
 walk_at "sx"
 refine w_ix (l_ixL (at_map hk) ?_)
 walk_at "sx"
 exact h
theorem ctr_copies {m:Mk}(hk:ms[k]?=some m)(h6:ms.length≤6)(h:QR (.dat (.bl m.c)) μ):Sat (F_Counter_copies [.dat (ctrD ms),.dat (.int k)] μ) QR E:=by
 refine w_Counter_copies ?_
 unfold g_Counter_copies
 walk_at "sx"
 refine ctr_need (lt_of_at hk) h6 ?_
 walk_at "sx"
 refine w_ix (l_ixL (at_map hk) ?_)
 walk_at "sx"
 exact h
theorem ctr_marks (h:QR (.nl (ms.map fun m=>.dat (markD m))) μ):Sat (F_Counter_marks [.dat (ctrD ms)] μ) QR E:=by
 refine w_Counter_marks ?_
 unfold g_Counter_marks
 walk_at "sx"
 rw[List.map_map];exact h
theorem lsticking_spec {n:Nat}(h1:1≤n)(h6:n≤6)(h:QR (.nl ((lawL n).map fun m=>.dat (markD m))) μ):Sat (F__law_sticking [.dat (.int n)] μ) QR E:=by
 with_reducible refine w__law_sticking ?_
 unfold g__law_sticking
 walk_at "sx"
 refine And.intro ⟨by omega,by omega,by omega,by omega⟩ (And.intro (sl_sz (by simp[rngD];omega)) ?_)
 rw[show((n:Int)-1-1).toNat=n-2 by omega]
 unfold rngD
 refine lc_mapK (fun i=>markD ⟨1+(i:Int)+1,some (1+(i:Int)-1),true⟩) (fun i hi=>⟨_,rfl,?_⟩) ?_
 ·walk_at "sx"
  exact⟨rfl,rfl⟩
 ·walk_at "sx"
  refine l_addL (sz_lit' (by simp;omega)) ?_
  walk_at "sx"
  refine if_dec (fun e=>?_) (fun e=>?_)
  ·walk_at "sx"
   refine l_addL (sz_lit' (by simp;omega)) ?_
   have el:lawL n=⟨1,none,false⟩::((List.range (n-2)).map fun i=>⟨1+(i:Int)+1,some (1+(i:Int)-1),true⟩)++[⟨(n:Int)-1,some ((n:Int)-1),true⟩]:=if_pos (by omega)
   rw[el] at h
   refine e_nlm List.take_length ?_
   simpa [Function.comp_def] using h
  ·walk_at "sx"
   have el:lawL n=[⟨0,some 0,true⟩]:=if_neg (by omega)
   rw[el] at h
   exact h
end
--SXMAC
abbrev mV (m:Mk):DV:=.dat (markD m)
theorem pick2 {r r2:Nat}(h:(r2:Int)<2):∃ o:Option Int,atI ([.non,.int (r:Int)]:List D) (r2:Int)=some (optD o)∧∀ i,o=some i→i=r:=by
 have:r2=0∨r2=1:=by omega
 rcases this with rfl|rfl
 ·exact⟨none,rfl,fun i e=>by cases e⟩
 ·exact⟨some r,rfl,fun i e=>by cases e;rfl⟩
theorem ms_set {ms:List Mk}{k:Nat}{m:Mk}(h:MsOk ms)(hm:MkOk ms.length m):MsOk (ms.set k m):=by
 refine⟨by rw[List.length_set];exact h.h1,by rw[List.length_set];exact h.h6,fun x hx=>?_⟩
 rw[List.length_set]
 rcases List.mem_or_eq_of_mem_set hx with q|rfl
 ·exact h.ok x q
 ·exact hm
theorem mk_up {n n':Int}{m:Mk}(h:MkOk n m)(hn:n≤n'):MkOk n' m:=by
 obtain⟨⟨h1,h2⟩,h3⟩:=h
 exact⟨⟨h1,by omega⟩,fun i e=>by have:=h3 i e;omega⟩
theorem ms_app {ms:List Mk}{m:Mk}(h:MsOk ms)(h6:ms.length<6)(hm:MkOk ms.length m):MsOk (ms++[m]):=by
 refine⟨by simp,by simp;omega,fun x hx=>?_⟩
 have e:((ms++[m]).length:Int)=ms.length+1:=by simp
 rw[e]
 rcases List.mem_append.mp hx with q|q
 ·exact mk_up (h.ok x q) (by omega)
 ·simp at q;subst q;exact mk_up hm (by omega)
section
variable {QR:R→Mem→Prop}{E:Xc→Mem→Prop}{μ ν:Mem}{B:Bg}{ms:List Mk}{b:Bool}{k N:Nat}{d:D}{P:PO}
theorem cbody_s {x3 x4 x5:Option DV}(hB:B.ok)(hms:MsOk ms)(h:∀ (B':Bg) (ms':List Mk) (y4 y5:Option DV),B'.ok→MsOk ms'→ms'.length=ms.length→P.nx [some (.loc 0),some (.dat (.int ms.length)),some (.loc (ν.length+1)),x3,y4,y5] (B'.pl::(ν++[.lst (ms'.map mV)]))) :
  SatS (b__law_counter_1 N [some (.loc 0),some (.dat (.int ms.length)),some (.loc (ν.length+1)),x3,x4,x5] (B.pl::(ν++[.lst (ms.map mV)]))) P:=by
 have a1:=hms.h1
 have a2:=hms.h6
 unfold b__law_counter_1
 walk_at "sx"
 refine take_s hB (by omega) (by omega) fun r B1 hB1 hr=>?_
 walk_at "sx"
 refine take_s hB1 (by omega) (by omega) fun r1 B2 hB2 hr1=>?_
 walk_at "sx"
 refine take_s hB2 (by omega) (by omega) fun r2 B3 hB3 hr2=>?_
 obtain⟨o,eo,ho⟩:=pick2 (r:=r1) hr2
 walk_at "sx"
 refine w_ix (l_ixL eo ?_)
 walk_at "sx"
 refine take_s hB3 (by omega) (by omega) fun r4 B4 hB4 hr4=>?_
 walk_at "sx"
 refine take_s hB4 (by omega) (by omega) fun r5 B5 hB5 hr5=>?_
 walk_at "sx"
 refine⟨_,setPl_at (μ:=B5.pl::ν) (k:=r) (by rw[List.length_map];omega) rfl,?_⟩
 have e:(ms.map mV).set r (.dat (.tup [.int r4,optD o,.bl (decide ((r5:Int)=0))]))=(ms.set r ⟨r4,o,decide ((r5:Int)=0)⟩).map mV:=by rw[List.map_set]
 rw[e]
 exact h B5 _ _ _ hB5 (ms_set hms ⟨⟨by simp,by simpa using hr4⟩,fun i ei=>by have:=ho i ei;omega⟩) (by simp)
theorem counter_s (hB:B.ok)(h:∀ (ms:List Mk) (B':Bg),B'.ok→MsOk ms→QR (.nl (ms.map mV)) (B'.pl::ν)):Sat (F__law_counter [.loc 0] (B.pl::ν)) QR E:=by
 refine w__law_counter ?_
 unfold g__law_counter
 walk_at "sx"
 refine take_s hB (by decide) (by decide) fun r B1 hB1 hr=>?_
 walk_at "sx"
 have e:(1+(r:Int))=((1+r:Nat):Int):=by push_cast;rfl
 rw[e]
 refine lsticking_spec (n:=1+r) (by omega) (by omega) ?_
 refine r_nl (Nat.le_refl _) ?_
 have hl:=lawL_ok (n:=1+r) (by omega) (by omega)
 have el:=lawL_len (n:=1+r) (by omega)
 generalize lawL (1+r)=ms at hl el
 walk_at "sx"
 refine take_s (m:=3) (ν:=ν++[.lst (ms.map mV)]) hB1 (by decide) (by decide) fun r2 B2 hB2 hr2=>?_
 have a1:=hl.h1
 have fin:∀ (B':Bg) (ms':List Mk),B'.ok→MsOk ms'→(endP (B.pl::ν).length QR E).rt (.loc (ν.length+1)) (B'.pl::(ν++[.lst (ms'.map mV)])):=fun B' ms' hB' hm' =>
  e_locN (μ:=B'.pl::ν) (xs:=ms'.map mV) (by simp) (by simp) (by simp) (by
   have:ms'.map mV=(ms'.map markD).map DV.dat:=by rw[List.map_map];rfl
   rw[this];exact below_map _) (h ms' B' hB' hm')
 walk_at "sxs"
 ·exact fin B2 ms hB2 hl
 ·refine take_s (m:=3) (ν:=ν++[.lst (ms.map mV)]) hB2 (by decide) (by decide) fun r3 B3 hB3 hr3=>?_
  walk_at "sx"
  refine And.intro ⟨by omega,by omega⟩ ?_
  refine for_inv (fun k δ μ'=>∃ (B':Bg) (ms':List Mk),B'.ok∧MsOk ms'∧ms'.length=ms.length∧δ=[some (.loc 0),some (.dat (.int ms'.length)),some (.loc (ν.length+1)),none,none,none]∧μ'=B'.pl::(ν++[.lst (ms'.map mV)])) ⟨B3,ms,hB3,hl,rfl,by rw[el];rfl,rfl⟩ (fun k d hd δ μ' hI=>?_) fun δ μ' hI=>?_
  ·obtain⟨B',ms',hB',hm',hl',rfl,rfl⟩:=hI
   refine⟨_,rfl,cbody_s hB' hm' fun B5 ms5 y4 y5 hB5 hm5 hl5=>?_⟩
   exact⟨B5,ms5,hB5,hm5,by omega,by rw[hl5];simp[cut,DL.cutV],List.take_of_length_le (by simp)⟩
  ·obtain⟨B',ms',hB',hm',hl',rfl,rfl⟩:=hI
   walk_at "sx"
   exact fin B' ms' hB' hm'
theorem nbody_s {dm:DV}{x3 x4 x5 x6 x7 x8 x9:Option DV}(hB:B.ok)(hms:MsOk ms)(h:∀ (B':Bg) (ms':List Mk) (y4 y5 y6 y7 y8 y9:Option DV),B'.ok→MsOk ms'→P.nx [some (.loc 0),some dm,some (.loc (ν.length+1)),x3,y4,y5,y6,y7,y8,y9] (B'.pl::(ν++[.lst (ms'.map mV)]))) :
  SatS (b__law_near_counter_1 N [some (.loc 0),some dm,some (.loc (ν.length+1)),x3,x4,x5,x6,x7,x8,x9] (B.pl::(ν++[.lst (ms.map mV)]))) P:=by
 have a1:=hms.h1
 have a2:=hms.h6
 have at0:∀ (B:Bg) (ms:List Mk),(B.pl::(ν++[.lst (ms.map mV)]))[ν.length+1]?=some (.lst (ms.map mV)):=fun B ms=>by simp
 unfold b__law_near_counter_1
 walk_at "sx"
 refine w_len (l_lenM (at0 B ms) ?_)
 walk_at "sx"
 rw[List.length_map]
 refine take_s hB (by omega) (by omega) fun r B1 hB1 hr=>?_
 walk_at "sx"
 refine w_len (l_lenM (at0 B1 ms) ?_)
 walk_at "sx"
 rw[List.length_map]
 have hr':r<ms.length:=by omega
 obtain⟨⟨a,l,c⟩,em⟩:∃ m,ms[r]?=some m:=⟨_,List.getElem?_eq_getElem hr'⟩
 have hok:=hms.ok _ (List.mem_of_getElem? em)
 have em2:atI (ms.map mV) (r:Int)=some (mV ⟨a,l,c⟩):=at_map em
 refine w_ix (l_ixM (at0 B1 ms) em2 ?_)
 walk_at "sx"
 refine take_s hB1 (by decide) (by decide) fun w B2 hB2 hw=>?_
 have hw4:w=0∨w=1∨w=2∨w=3:=by omega
 rcases hw4 with rfl|rfl|rfl|rfl
 ·walk_at "sx"
  refine take_s hB2 (by omega) (by omega) fun r2 B3 hB3 hr2=>?_
  walk_at "sx"
  refine⟨_,setPl_at (μ:=B3.pl::ν) (k:=r) (by rw[List.length_map];omega) rfl,?_⟩
  walk_at "sx"
  have e:(ms.map mV).set r (.dat (.tup [.int r2,optD l,.bl c]))=(ms.set r ⟨r2,l,c⟩).map mV:=by rw[List.map_set]
  rw[e]
  exact h _ _ _ _ _ _ _ _ hB3 (ms_set hms ⟨⟨by simp,by simpa using hr2⟩,hok.2⟩)
 ·walk_at "sx"
  refine take_s hB2 (by omega) (by omega) fun r1 B3 hB3 hr1=>?_
  walk_at "sx"
  refine take_s hB3 (by decide) (by decide) fun r2 B4 hB4 hr2=>?_
  obtain⟨o,eo,ho⟩:=pick2 (r:=r1) hr2
  walk_at "sx"
  refine w_ix (l_ixL eo ?_)
  walk_at "sx"
  refine⟨_,setPl_at (μ:=B4.pl::ν) (k:=r) (by rw[List.length_map];omega) rfl,?_⟩
  walk_at "sx"
  have e:(ms.map mV).set r (.dat (.tup [.int a,optD o,.bl c]))=(ms.set r ⟨a,o,c⟩).map mV:=by rw[List.map_set]
  rw[e]
  exact h _ _ _ _ _ _ _ _ hB4 (ms_set hms ⟨hok.1,fun i ei=>by have:=ho i ei;omega⟩)
 ·walk_at "sx"
  refine⟨_,setPl_at (μ:=B2.pl::ν) (k:=r) (by rw[List.length_map];omega) rfl,?_⟩
  walk_at "sx"
  have e:(ms.map mV).set r (.dat (.tup [.int a,optD l,.bl (!c)]))=(ms.set r ⟨a,l,!c⟩).map mV:=by rw[List.map_set]
  rw[e]
  exact h _ _ _ _ _ _ _ _ hB2 (ms_set hms ⟨hok.1,hok.2⟩)
 ·walk_at "sx"
  refine⟨_,setPl_at (μ:=B2.pl::ν) (k:=r) (by rw[List.length_map];omega) rfl,?_⟩
  walk_at "sx"
  have e:(ms.map mV).set r (.dat (.tup [.int a,optD l,.bl c]))=ms.map mV:=by
   rw[show(DV.dat (.tup [.int a,optD l,.bl c]))=mV ⟨a,l,c⟩ from rfl,←List.map_set]
   congr 1
   exact List.ext_getElem? fun j=>by
    rw[List.getElem?_set]
    split
    ·rename_i ej;subst ej;first|exact em.symm|(rw[if_pos hr'];exact em.symm)
    ·rfl
  rw[e]
  refine if_dec (fun c6=>?_) (fun c6=>?_)
  ·walk_at "sx"
   refine w_ix (l_ixM (at0 B2 ms) em2 ?_)
   walk_at "sx"
   refine l_app (at0 B2 ms) (Nat.lt_of_le_of_lt (show _≤6 by simpa using a2) (by decide)) rfl ?_
   have hap:=ms_app hms (by omega) hok
   have es:List.set (B2.pl::ν++[Pl.lst (ms.map mV)]) (ν.length+1) (.lst (ms.map mV++[.dat (markD ⟨a,l,c⟩)]))=B2.pl::(ν++[.lst ((ms++[(⟨a,l,c⟩:Mk)]).map mV)]):=by simp
   rw[es]
   generalize hms2:ms++[(⟨a,l,c⟩:Mk)]=ms2 at hap
   have hl2:ms2.length=ms.length+1:=by rw[←hms2];simp
   walk_at "sx"
   refine take_s hB2 (by omega) (by omega) fun r2 B3 hB3 hr2=>?_
   have hr2':r2<ms2.length:=by omega
   obtain⟨⟨a2,l2,c2⟩,em3⟩:∃ m,ms2[r2]?=some m:=⟨_,List.getElem?_eq_getElem hr2'⟩
   have hok2:=hap.ok _ (List.mem_of_getElem? em3)
   have em4:atI (ms2.map mV) (r2:Int)=some (mV ⟨a2,l2,c2⟩):=at_map em3
   walk_at "sx"
   refine w_ix (l_ixM (at0 B3 ms2) em4 ?_)
   walk_at "sx"
   refine l_addT (sz_lit' (by simp[cutL] <;> omega)) ?_
   walk_at "sx"
   refine take_s hB3 (by omega) (by omega) fun r3 B4 hB4 hr3=>?_
   walk_at "sx"
   refine⟨_,setPl_at (μ:=B4.pl::ν) (k:=r3) (by rw[List.length_map];omega) rfl,?_⟩
   have e:(ms2.map mV).set r3 (.dat (.tup ([.int ms.length]++cutL [.int a2,optD l2,.bl c2] (some 1) none)))=(ms2.set r3 ⟨ms.length,l2,c2⟩).map mV:=by rw[List.map_set];rfl
   rw[e]
   exact h _ _ _ _ _ _ _ _ hB4 (ms_set hap ⟨⟨by simp,by rw[hl2];simp;omega⟩,hok2.2⟩)
  ·walk_at "sx"
   exact h _ _ _ _ _ _ _ _ hB2 hms
theorem near_s (hB:B.ok)(hms:MsOk ms)(h:∀ (ms:List Mk) (B':Bg),B'.ok→MsOk ms→QR (.nl (ms.map mV)) (B'.pl::ν)):Sat (F__law_near_counter [.loc 0,.dat (.lst (ms.map markD))] (B.pl::ν)) QR E:=by
 refine w__law_near_counter ?_
 unfold g__law_near_counter
 walk_at "sx"
 refine r_nl (Nat.le_refl _) ?_
 rw[show(ms.map markD).map DV.dat=ms.map mV by rw[List.map_map];rfl]
 walk_at "sx"
 refine take_s (m:=3) (ν:=ν++[.lst (ms.map mV)]) hB (by decide) (by decide) fun r3 B3 hB3 hr3=>?_
 walk_at "sx"
 refine And.intro ⟨by omega,by omega⟩ ?_
 refine for_inv (fun k δ μ'=>∃ (B':Bg) (ms':List Mk),B'.ok∧MsOk ms'∧δ=[some (.loc 0),some (.dat (.lst (ms.map markD))),some (.loc (ν.length+1)),none,none,none,none,none,none,none]∧μ'=B'.pl::(ν++[.lst (ms'.map mV)])) ⟨B3,ms,hB3,hms,rfl,rfl⟩ (fun k d hd δ μ' hI=>?_) fun δ μ' hI=>?_
 ·obtain⟨B',ms',hB',hm',rfl,rfl⟩:=hI
  refine⟨_,rfl,nbody_s hB' hm' fun B5 ms5 y4 y5 y6 y7 y8 y9 hB5 hm5=>?_⟩
  exact⟨B5,ms5,hB5,hm5,by simp[cut,DL.cutV],List.take_of_length_le (by simp)⟩
 ·obtain⟨B',ms',hB',hm',rfl,rfl⟩:=hI
  walk_at "sx"
  exact e_locN (μ:=B'.pl::ν) (xs:=ms'.map mV) (by simp) (by simp) (by simp) (by
   have:ms'.map mV=(ms'.map markD).map DV.dat:=by rw[List.map_map];rfl
   rw[this];exact below_map _) (h ms' B' hB' hm')
end
def mL (m:Mk):List D:=[.int m.a,optD m.l,.bl m.c]
inductive MkAt (μ:Mem) (m:Mk):DV→Prop
 | dat:MkAt μ m (.dat (markD m))
 | loc {c:Nat} (h:μ[c]?=some (.lst ((mL m).map DV.dat))):MkAt μ m (.loc c)
structure HdAt (μ:Mem)(n:Nat)(p:Pl)(xs:List DV)(ms:List Mk):Prop where
 pl:μ[n]?=some p
 ty:p=.lst xs∨p=.tp xs
 len:xs.length=ms.length
 at_:∀ (k:Nat) (m:Mk),ms[k]?=some m→∃ x,xs[k]?=some x∧MkAt μ m x
section
variable {QR:R→Mem→Prop}{E:Xc→Mem→Prop}{μ ν:Mem}{B:Bg}{i:Int}{n:Nat}{ms:List Mk}{m:Mk}{b:Bool}{k:Nat}{d:D}{p:Pl}{xs:List DV}{x:DV}{P:PO}
theorem MkAt.app (h:MkAt μ m x)(τ:Mem):MkAt (μ++τ) m x:=by
 cases h with
 | dat=>exact .dat
 | loc e=>exact .loc (by rw[List.getElem?_append_left (List.getElem?_eq_some_iff.mp e).1];exact e)
theorem HdAt.app (h:HdAt μ n p xs ms)(τ:Mem):HdAt (μ++τ) n p xs ms :=
 ⟨by rw[List.getElem?_append_left (List.getElem?_eq_some_iff.mp h.pl).1];exact h.pl,h.ty,h.len,fun k m e=>let ⟨x,e2,q⟩:=h.at_ k m e;⟨x,e2,q.app τ⟩⟩
theorem mark_at {z:Int}(hx:MkAt μ m x)(hm:MkOk z m)(h:QR (.dat (.bl true)) μ):Sat (F_is_mark [x,.dat (.int z)] μ) QR E:=by
 cases hx with
 | dat=>exact mark_spec hm h
 | @loc c e =>
  obtain⟨a,l,b⟩:=m
  have h1:0≤a∧a<z:=hm.1
  refine w_is_mark ?_
  unfold g_is_mark
  walk_at "sx"
  refine l_isi (kd:=.b "list") (b:=true) (by unfold DL.kindOf;simp only[e]) (by decide +kernel) ?_
  walk_at "sx"
  refine w_len (l_lenM e ?_)
  walk_at "sx"
  refine w_ix (l_ixM e (x:=.dat (.int a)) rfl ?_)
  walk_at "sx"
  refine number_I ?_
  walk_at "sx"
  refine if_bF (by simp[h1]) ?_
  walk_at "sx"
  refine w_ix (l_ixM e (x:=.dat (optD l)) rfl ?_)
  cases l with
  | none =>
   walk_at "sx"
   refine w_ix (l_ixM e (x:=.dat (.bl b)) rfl ?_)
   walk_at "sx"
   exact h
  | some j =>
   have h2:0≤j∧j<z:=hm.2 j rfl
   walk_at "sx"
   refine w_ix (l_ixM e (x:=.dat (.int j)) rfl ?_)
   walk_at "sx"
   refine number_I ?_
   walk_at "sx"
   refine if_bT (by simp[h2]) ?_
   walk_at "sx"
   refine w_ix (l_ixM e (x:=.dat (.bl b)) rfl ?_)
   walk_at "sx"
   exact h
theorem tup_at (hx:MkAt μ m x)(h:QR (.dat (markD m)) μ):Sat (d1 dTuple [x] μ) QR E:=by
 cases hx with
 | dat=>exact l_tupT h
 | @loc c e=>exact l_tupM e (allDat_map _) h
theorem lcp_inv {δ:DL.Env}{j i:Nat}{fe:EM}{vs:List Nat}(g:Mk→D)(hj:δ[j]?=some (some (.loc n)))(hh:HdAt μ n p xs ms)(h6:ms.length≤6)
  (step:∀ (k:Nat) (m:Mk) (x:DV),ms[k]?=some m→MkAt μ m x→Sat (frzV fe ((wipeE δ vs).set i (some x)) μ) (fun y μ2=>y=.dat (g m)∧μ2=μ) (fun _ _=>False))
  (h:QR (.nl (ms.map fun m=>.dat (g m))) μ):Sat (eLcP (eVar j) i tmYes fe vs δ μ) QR E:=by
 have fin:∀ (c:Mem→Prop),c μ→Sat (lcP c i tmYes fe (wipeE δ vs) xs μ) (fun ys μ2=>QR (.nl ys) μ2) E:=fun c hc=>by
  refine lcP_invK (fun k ys μ'=>ys=(ms.take k).map (fun m=>.dat (g m))∧μ'=μ) ⟨rfl,rfl⟩ (fun k ys μ' hI=>hI.2▸hc) (fun k x hx ys μ' hI=>?_) fun ys μ' hI=>?_
  ·obtain⟨rfl,rfl⟩:=hI
   have hk:k<ms.length:=by have:=lt_of_at hx;rw[hh.len] at this;exact this
   obtain⟨x2,e2,q⟩:=hh.at_ k _ (List.getElem?_eq_getElem hk)
   cases e2.symm.trans hx
   refine t_yes ?_
   rw[if_pos rfl]
   refine(step k _ x (List.getElem?_eq_getElem hk) q).mono (fun y μ2 hy=>⟨?_,hy.2⟩) fun _ _ q=>q
   rw[hy.1,DL.take_snoc (List.getElem?_eq_getElem hk),List.map_append];rfl
  ·obtain⟨rfl,rfl⟩:=hI
   rw[hh.len,List.take_length];exact h
 have hl:xs.length≤sizeLine:=by rw[hh.len];exact sl_sz (by omega)
 have hv:∀ {Q:R→Mem→Prop} {E2:Xc→Mem→Prop},Q (.loc n) μ→Sat (eVar j δ μ) Q E2:=fun q=>x_varL hj q
 rcases hh.ty with rfl|rfl
 ·refine x_lcPl (hv ⟨n,xs,rfl,hh.pl,hl,?_⟩)
  exact fin _ hh.pl
 ·refine x_lcPt (hv ⟨n,xs,rfl,hh.pl,hl,?_⟩)
  exact fin _ hh.pl
theorem marks_at (hh:HdAt μ n p xs ms)(hms:MsOk ms)(h:QR (.dat (.bl true)) μ):Sat (F_are_marks [.loc n] μ) QR E:=by
 have a1:=hms.h1
 have a2:=hms.h6
 have len:∀ {Q:R→Mem→Prop} {E2:Xc→Mem→Prop},Q (.dat (.int ms.length)) μ→Sat (dLenB [.loc n] μ) Q E2:=fun q=>by
  rw[←hh.len] at q
  rcases hh.ty with rfl|rfl
  ·exact w_lenB (w_len (l_lenM hh.pl q))
  ·exact l_lenTp hh.pl q
 refine w_are_marks ?_
 unfold g_are_marks
 walk_at "sx"
 have isi:∀ {Q:R→Mem→Prop} {E2:Xc→Mem→Prop},Q (.dat (.bl true)) μ→Sat (dIsiB (tabT2 "list" "tuple" ["Counter"]) (.loc n) μ) Q E2:=fun q=>by
  rcases hh.ty with rfl|rfl
  ·exact w_isiB (l_isi (kd:=.b "list") (b:=true) (by unfold DL.kindOf;simp only[hh.pl]) (by decide +kernel) q)
  ·exact l_isiTp hh.pl (by decide +kernel) q
 refine isi ?_
 walk_at "sx"
 refine len ?_
 walk_at "sx"
 refine if_bT (by simp;omega) ?_
 walk_at "sx"
 refine if_bF (by simp;omega) ?_
 walk_at "sx"
 refine x_altR rfl ?_
 refine lcp_inv (j:=0) (fun _=>.bl true) rfl hh a2 (fun k m x hm hx=>?_) ?_
 ·walk_at "sx"
  refine len ?_
  walk_at "sx"
  refine mark_at hx (hms.ok m (List.mem_of_getElem? hm)) ?_
  walk_at "sx"
  exact⟨rfl,rfl⟩
 ·walk_at "sx"
  refine l_all (f:=fun _=>true) ?_
  walk_at "sx"
  rw[show(ms.map fun _=>true).all id=true by simp];exact h
theorem init_at (hh:HdAt μ n p xs ms) (hms:MsOk ms) (h:QR (.dat (ctrD ms)) μ):Sat (F_Counter___init__ [.loc (μ.length+1),.loc n] (μ++[.own]++[.ins "Counter" []])) (MkK μ.length QR) E:=by
 have a2:=hms.h6
 have hh2:HdAt (μ++[.own]++[.ins "Counter" []]) n p xs ms:=(hh.app _).app _
 refine w_Counter___init__ ?_
 unfold g_Counter___init__
 walk_at "sx"
 refine marks_at hh2 hms ?_
 walk_at "sx"
 refine x_altR rfl ?_
 refine lcp_inv (j:=1) markD rfl hh2 a2 (fun k m x hm hx=>?_) ?_
 ·walk_at "sx"
  refine tup_at hx ?_
  walk_at "sx"
  exact⟨rfl,rfl⟩
 ·walk_at "sx"
  refine⟨_,init1 (by simp),?_⟩
  refine e_nx (List.take_of_length_le (by simp)) ?_
  exact init1_end h
end
abbrev HS:Addr→Addr→Addr→SM:=(fun a C dd=>(gSeq (gIf (tmB (eOp dEqA (eIsE 3 a C dd [("NoMark",true),("Wrong",false)]) (eIsE 3 a C dd [("NoMark",false),("Wrong",true)]))) (gRet (eTup (aCons (eD (.str "other")) (aCons (eD .non) aNil)))) gNext)
  (gRet (eIf (tmB (eIsE 3 a C dd [("NoMark",true),("Wrong",false)])) (eTup (aCons (eD (.str "none")) (aCons (eXf 3 a C dd "NoMark" "number") aNil))) (eTup (aCons (eD (.str "wrong")) (aCons (eXf 3 a C dd "Wrong" "place") aNil)))))))
section
variable {QR:R→Mem→Prop}{E:Xc→Mem→Prop}{μ ν:Mem}{B:Bg}{i:Int}{n:Nat}{ms:List Mk}{m:Mk}{b:Bool}{k N:Nat}{d:D}{p:Pl}{xs:List DV}{x:DV}{P:PO}{x0 x1 x2:Option DV}
def Off (n:Nat)(d:D):Prop:=NoI d=true∨∃ i:Int,d=.int i∧¬(0≤i∧i<n)
theorem need_off (h6:ms.length≤6) (hd:Off ms.length d) (h:E ⟨"NoMark",[("number",d)]⟩ μ):Sat (F_Counter_need_mark [.dat (ctrD ms),.dat d] μ) QR E:=by
 refine w_Counter_need_mark ?_
 unfold g_Counter_need_mark
 walk_at "sx"
 refine ctr_len ⟨_,rfl,⟨by omega,by omega⟩,?_⟩
 walk_at "sx"
 rcases hd with hd|⟨i,rfl,hi⟩
 ·refine number_N hd ?_
  walk_at "sx"
  show E _ (μ.take μ.length)
  rw[List.take_length];exact h
 ·refine number_I ?_
  walk_at "sx"
  refine if_bT (by simp;omega) ?_
  walk_at "sx"
  show E _ (μ.take μ.length)
  rw[List.take_length];exact h
theorem more_off (h6:ms.length≤6) (hd:Off ms.length d) (h:E ⟨"NoMark",[("number",d)]⟩ μ):Sat (F_Counter_more [.dat (ctrD ms),.dat d] μ) QR E:=by
 refine w_Counter_more ?_
 unfold g_Counter_more
 walk_at "sx"
 refine need_off h6 hd ?_
 show E _ (μ.take μ.length)
 rw[List.take_length];exact h
theorem less_off (h6:ms.length≤6) (hd:Off ms.length d) (h:E ⟨"NoMark",[("number",d)]⟩ μ):Sat (F_Counter_less [.dat (ctrD ms),.dat d] μ) QR E:=by
 refine w_Counter_less ?_
 unfold g_Counter_less
 walk_at "sx"
 refine need_off h6 hd ?_
 show E _ (μ.take μ.length)
 rw[List.take_length];exact h
theorem copies_off (h6:ms.length≤6) (hd:Off ms.length d) (h:E ⟨"NoMark",[("number",d)]⟩ μ):Sat (F_Counter_copies [.dat (ctrD ms),.dat d] μ) QR E:=by
 refine w_Counter_copies ?_
 unfold g_Counter_copies
 walk_at "sx"
 refine need_off h6 hd ?_
 show E _ (μ.take μ.length)
 rw[List.take_length];exact h
theorem with_off {z:DV} (h6:ms.length≤6) (hd:Off ms.length d) (h:E ⟨"NoMark",[("number",d)]⟩ μ):Sat (F_Counter_with_mark [.dat (ctrD ms),.dat d,z] μ) QR E:=by
 refine w_Counter_with_mark ?_
 unfold g_Counter_with_mark
 walk_at "sx"
 refine need_off h6 hd ?_
 show E _ (μ.take μ.length)
 rw[List.take_length];exact h
theorem eqB_s {a b:Bool}(h:QR (.dat (.bl (a==b))) μ):Sat (dEqA (.dat (.bl a)) (.dat (.bl b)) μ) QR E:=by
 refine w_eq ?_
 have:dEq (.dat (.bl a)) (.dat (.bl b)) μ=.ok (.dat (.bl (a==b))) μ:=by cases a <;> cases b <;> rfl
 rw[this];exact h
theorem suite_s (h:P.rt (.dat (.tup [.str "none",d])) μ):TryK [("NoMark",true),("Wrong",true)] 3 HS N P ⟨"NoMark",[("number",d)]⟩ [x0,x1,x2,none] μ:=by
 refine⟨⟨by rfl,by simp⟩,.ret (.dat (.tup [.str "none",d])) μ,fun a C dd=>?_,h⟩
 unfold HS
 walk_at "sx"
 refine eqB_s ?_
 walk_at "sx"
 exact rfl
theorem heard_off {w:Nat} (hw:w<4) (h6:ms.length≤6) (hd:Off ms.length d) (h:QR (.dat (.tup [.str "none",d])) μ):Sat (F__law_heard [.dat (.int w),.dat (ctrD ms),.dat d] μ) QR E:=by
 refine w__law_heard ?_
 unfold g__law_heard
 walk_at "sx"
 unfold b__law_heard_1
 have h1:(endP μ.length QR (fun _ _=>False)).rt (.dat (.tup [.str "none",d])) μ:=by
  walk_at "sx"
  exact h
 have h3:w=0∨w=1∨w=2∨w=3:=by omega
 rcases h3 with rfl|rfl|rfl|rfl
 ·walk_at "sx"
  exact more_off h6 hd (suite_s h1)
 ·walk_at "sx"
  exact less_off h6 hd (suite_s h1)
 ·walk_at "sx"
  exact copies_off h6 hd (suite_s h1)
 ·walk_at "sx"
  exact with_off h6 hd (suite_s h1)
def tellD (m:Mk):Nat→D
 | 0=>.int m.a
 | 1=>optD m.l
 | _=>.bl m.c
theorem heard_ok {w:Nat} (hw:w<3) (h6:ms.length≤6) (hk:ms[k]?=some m) (h:QR (.dat (.tup [.str "told",tellD m w])) μ):Sat (F__law_heard [.dat (.int w),.dat (ctrD ms),.dat (.int k)] μ) QR E:=by
 refine w__law_heard ?_
 unfold g__law_heard
 walk_at "sx"
 unfold b__law_heard_1
 have h3:w=0∨w=1∨w=2:=by omega
 rcases h3 with rfl|rfl|rfl
 ·walk_at "sx"
  refine ctr_more hk h6 ?_
  walk_at "sx"
  exact h
 ·walk_at "sx"
  refine ctr_less hk h6 ?_
  walk_at "sx"
  exact h
 ·walk_at "sx"
  refine ctr_copies hk h6 ?_
  walk_at "sx"
  exact h
def msW (ms:List Mk)(k:Nat)(m:Mk):List Mk:=ms.take k++[m]++ms.drop (k+1)
theorem msW_len (hk:k<ms.length):(msW ms k m).length=ms.length:=by
 unfold msW;simp;omega
theorem msW_ok (hms:MsOk ms)(hk:k<ms.length)(hm:MkOk ms.length m):MsOk (msW ms k m):=by
 refine⟨by rw[msW_len hk];exact hms.h1,by rw[msW_len hk];exact hms.h6,fun z hz=>?_⟩
 rw[msW_len hk]
 unfold msW at hz
 rcases List.mem_append.mp hz with q|q
 ·rcases List.mem_append.mp q with q|q
  ·exact hms.ok z (List.mem_of_mem_take q)
  ·simp at q;subst q;exact hm
 ·exact hms.ok z (List.mem_of_mem_drop q)
theorem hd_with {c:Nat}(hk:k<ms.length)(hx:MkAt μ m x)(e:μ[c]?=some (.lst (((ms.take k).map fun m=>DV.dat (markD m))++[x]++((ms.drop (k+1)).map fun m=>DV.dat (markD m))))) :
  HdAt μ c (.lst (((ms.take k).map fun m=>DV.dat (markD m))++[x]++((ms.drop (k+1)).map fun m=>DV.dat (markD m)))) (((ms.take k).map fun m=>DV.dat (markD m))++[x]++((ms.drop (k+1)).map fun m=>DV.dat (markD m))) (msW ms k m):=by
 refine⟨e,.inl rfl,by rw[msW_len hk];simp;omega,fun j z hz=>?_⟩
 unfold msW at hz
 have lt:(List.take k ms).length=k:=by simp;omega
 by_cases h1:j<k
 ·rw[List.append_assoc,List.getElem?_append_left (by omega)] at hz
  refine⟨.dat (markD z),?_,.dat⟩
  rw[List.append_assoc,List.getElem?_append_left (by rw[List.length_map];omega),List.getElem?_map,hz];rfl
 ·by_cases h2:j=k
  ·subst h2
   rw[List.append_assoc,List.getElem?_append_right (by omega),lt] at hz
   simp at hz
   subst hz
   refine⟨x,?_,hx⟩
   rw[List.append_assoc,List.getElem?_append_right (by rw[List.length_map];omega),List.length_map,lt];simp
  ·rw[List.getElem?_append_right (by simp;omega)] at hz
   refine⟨.dat (markD z),?_,.dat⟩
   rw[List.getElem?_append_right (by simp;omega)]
   have e1:((List.map (fun m=>DV.dat (markD m)) (List.take k ms))++[x]).length=(List.take k ms++[m]).length:=by simp
   rw[e1,List.getElem?_map,hz];rfl
theorem xof_v {QV:DV→Mem→Prop}{δ:DL.Env}{j:Nat}(e:δ[j]?=some (some x))(h:QV x μ):Sat (xOf (eVar j) δ μ) QV E:=by
 refine x_xof ?_
 cases x with
 | dat d=>exact x_varD e (p_dat h)
 | loc c=>exact x_varL e (p_loc h)
theorem l_addPP {a b:Nat}{ys:List DV}(e:μ[a]?=some (.lst xs))(e2:μ[b]?=some (.lst ys))(hl:xs.length+ys.length≤sizeLine)(h:QR (.nl (xs++ys)) μ):Sat (dAdd (.loc a) (.loc b) μ) QR E:=by
 have h1:asM μ (.loc a)=some xs:=by simp[asM,e]
 have h2:asM μ (.loc b)=some ys:=by simp[asM,e2]
 have:dAdd (.loc a) (.loc b) μ=.ok (.nl (xs++ys)) μ:=by
  unfold dAdd
  simp only[asI,asStr,asT,h1,h2]
  rw[if_pos hl]
 rw[this];exact h
theorem with_at (hms:MsOk ms)(hk:k<ms.length)(hx:MkAt μ m x)(hm:MkOk ms.length m)(h:QR (.dat (ctrD (msW ms k m))) μ):Sat (F_Counter_with_mark [.dat (ctrD ms),.dat (.int k),x] μ) QR E:=by
 have h6:=hms.h6
 refine w_Counter_with_mark ?_
 unfold g_Counter_with_mark
 walk_at "sx"
 refine ctr_need hk h6 ?_
 walk_at "sx"
 refine ctr_len ⟨_,rfl,⟨by omega,by omega⟩,?_⟩
 walk_at "sx"
 refine mark_at hx hm ?_
 walk_at "sx"
 refine x_ymake ?_
 walk_at "sx"
 refine x_xop ?_
 refine x_xop ?_
 walk_at "sx"
 rw[cutL_map,cut_to]
 refine p_nl (Nat.le_refl _) ?_
 refine And.intro (by simp) ?_
 refine x_xlst ?_
 refine xa_consK ?_
 refine xof_v rfl ?_
 walk_at "sx"
 refine And.intro (Nat.le_refl _) ?_
 walk_at "sx"
 refine And.intro ⟨Nat.le_refl _,sl_sz (by simp)⟩ (And.intro (by simp) ?_)
 refine l_addPP (xs:=(((ms.take k).map markD).map DV.dat)) (ys:=[x]) (by simp) (by simp) (sl_sz2 (by simp;omega)) ?_
 refine p_nl (by simp) ?_
 refine And.intro (by simp) ?_
 walk_at "sx"
 rw[show((k:Int)+1)=((k+1:Nat):Int) by push_cast;rfl,cutL_map,cut_from _ (k+1)]
 refine p_nl (Nat.le_refl _) ?_
 refine And.intro (by simp) ?_
 refine l_addPP (xs:=((ms.take k).map markD).map DV.dat++[x]) (ys:=((ms.drop (k+1)).map markD).map DV.dat) (by simp) (by simp) (sl_sz2 (by simp;omega)) ?_
 refine p_nl (by simp) ?_
 refine And.intro (by simp) ?_
 walk_at "sx"
 have e1:∀ l:List Mk,(l.map markD).map DV.dat=l.map fun m=>DV.dat (markD m):=fun l=>by rw[List.map_map];rfl
 simp only[e1]
 generalize hρ:μ++[Pl.lst (List.map (fun m=>DV.dat (markD m)) (List.take k ms))]++[Pl.lst [x]]++[Pl.lst (List.map (fun m=>DV.dat (markD m)) (List.take k ms)++[x])]++[Pl.lst (List.map (fun m=>DV.dat (markD m)) (List.drop (k+1) ms))]=ρ
 have hpre:∀ τ,(ρ++τ).take μ.length=μ:=fun τ=>by rw[←hρ];simp
 have hx2:MkAt (ρ++[.lst (((ms.take k).map fun m=>DV.dat (markD m))++[x]++((ms.drop (k+1)).map fun m=>DV.dat (markD m)))]) m x:=by
  rw[←hρ];simp only[List.append_assoc];exact hx.app _
 refine init_at (hd_with hk hx2 (by simp)) (msW_ok hms hk hm) ?_
 show ClK μ.length (.dat (ctrD (msW ms k m))) (List.take μ.length (ρ++_)) QR E
 rw[hpre]
 exact e_dat (E:=E) List.take_length h
end
section
variable {QR:R→Mem→Prop}{E:Xc→Mem→Prop}{μ ν:Mem}{B:Bg}{ms:List Mk}{m:Mk}{b:Bool}{k N:Nat}{d:D}{p:Pl}{xs:List DV}{x:DV}{P:PO}
theorem mixed_s {ds:List D}{k w:Nat}(hk:k<64)(hB:B.ok)(hs:ds.length<100000)(hd:∀ d∈ds,∃ p,toPy d=some p∧Fit k w p)(h:∀ (ys:List D) (B':Bg),B'.ok→ys.Perm ds→QR (.nl (ys.map DV.dat)) (B'.pl::ν)):Sat (F__law_mixed [.loc 0,.dat (.lst ds)] (B.pl::ν)) QR E:=by
 rw[e__law_mixed];exact d_mixed hk hB hs hd h
theorem alike_s {x y:DV}{k w:Nat}(hx:peek μ x=some d)(hy:peek μ y=some d)(h:Fk k w d)(hk:k≤64)(hw:w≤2^20)(q:QR (.dat (.bl true)) μ):Sat (F__law_alike [x,y] μ) QR E:=by
 rw[e__law_alike];exact alikeA hx hy h hk hw q
theorem fk_tell {n:Int}(h:MkOk n m)(hn:n≤6)(w:Nat):Fk 0 13 (tellD m w):=by
 obtain⟨⟨h1,h2⟩,h3⟩:=h
 unfold tellD
 split
 ·exact fk_int (by omega)
 ·cases e:m.l with
  | none=>exact fk_non.mono (by decide) (by decide)
  | some i=>have:=h3 i e;exact fk_int (by omega)
 ·exact fk_bl.mono (by decide) (by decide)
theorem fk_told (w:Nat) {n:Int} (h:MkOk n m) (hn:n≤6):Fk 1 200 (.tup [.str "told",tellD m w]):=by
 refine(fk_tup (k:=0) (w:=80) (n:=2) (fun d hd=>?_) (by simp)).mono (by decide) (by decide)
 simp only[List.mem_cons,List.not_mem_nil,or_false] at hd
 rcases hd with rfl|rfl
 ·exact(fk_str (m:=4) (by decide +kernel) (by decide)).mono (by decide) (by decide)
 ·exact(fk_tell h hn w).mono (by decide) (by decide)
theorem rb1_s {w:Nat}{x5 x6 x7 x8 x9 x10 x11 x12 x13 x14:Option DV}(hw:w<3)(hms:MsOk ms)(hk:k<ms.length)(h:P.nx [some (.loc 0),some (.dat (ctrD ms)),some (.dat (.lst (ms.map markD))),some (.dat (.int w)),some (.dat (.int k)),x5,x6,x7,x8,x9,x10,x11,x12,x13,x14] μ) :
  SatS (b__law_right_1 N [some (.loc 0),some (.dat (ctrD ms)),some (.dat (.lst (ms.map markD))),some (.dat (.int w)),some (.dat (.int k)),x5,x6,x7,x8,x9,x10,x11,x12,x13,x14] μ) P:=by
 have h6:=hms.h6
 obtain⟨m,hm⟩:∃ m,ms[k]?=some m:=⟨_,List.getElem?_eq_getElem hk⟩
 have hok:=hms.ok m (List.mem_of_getElem? hm)
 unfold b__law_right_1
 walk_at "sx"
 refine heard_ok hw h6 hm ?_
 walk_at "sx"
 refine w_ix (l_ixL (at_map hm) ?_)
 walk_at "sx"
 refine w_ix (l_ixT (show atI [D.int m.a,optD m.l,.bl m.c] (w:Int)=some (tellD m w) from ?_) ?_)
 ·have h3:w=0∨w=1∨w=2:=by omega
  rcases h3 with rfl|rfl|rfl <;> rfl
 walk_at "sx"
 refine alike_s rfl rfl (fk_told w hok (by omega)) (by decide) (by decide) ?_
 walk_at "sx"
 exact h
theorem rw_s {w:Nat}(hw:w<3)(hB:B.ok)(hms:MsOk ms)(hN:N=(B.pl::ν).length)(h:∀ (B':Bg) y4 y5 y6 y7 y8 y9 y10 y11 y12 y13 y14 σ,B'.ok→P.nx [some (.loc 0),some (.dat (ctrD ms)),some (.dat (.lst (ms.map markD))),some (.dat (.int w)),y4,y5,y6,y7,y8,y9,y10,y11,y12,y13,y14] (B'.pl::ν++σ)) :
  SatS (b__law_right_2 N [some (.loc 0),some (.dat (ctrD ms)),some (.dat (.lst (ms.map markD))),some (.dat (.int w)),none,none,none,none,none,none,none,none,none,none,none] (B.pl::ν)) P:=by
 subst hN
 have h6:=hms.h6
 unfold b__law_right_2
 walk_at "sx"
 refine if_bT (by simp;omega) ?_
 walk_at "sx"
 refine And.intro ⟨by omega,by simp;omega⟩ ?_
 walk_at "sx"
 refine mixed_s (k:=0) (w:=40) (by decide) hB (by simp;omega) (fun d hd=>?_) fun ys B1 hB1 hp=>?_
 ·obtain⟨i,hi,rfl⟩:=List.mem_map.mp hd
  have hi:i<ms.length:=by simpa using hi
  exact⟨_,rfl,(fit_int (by omega)).mono (by decide) (by decide)⟩
 walk_at "sx"
 refine for_inv (fun j δ μ'=>∃ B':Bg,B'.ok∧δ=[some (.loc 0),some (.dat (ctrD ms)),some (.dat (.lst (ms.map markD))),some (.dat (.int w)),none,none,none,none,none,none,none,none,none,none,none]∧μ'=B'.pl::ν) ⟨B1,hB1,rfl,rfl⟩ (fun j d hd δ μ' hI=>?_) fun δ μ' hI=>?_
 ·obtain⟨B2,hB2,rfl,rfl⟩:=hI
  have hd2:=hp.mem_iff.mp (List.mem_of_getElem? hd)
  obtain⟨i,hi,rfl⟩:=List.mem_map.mp hd2
  have hi:i<ms.length:=by simpa using hi
  refine⟨_,rfl,rb1_s hw hms hi ?_⟩
  exact⟨B2,hB2,by simp[cut,DL.cutV],by simp⟩
 ·obtain⟨B2,hB2,rfl,rfl⟩:=hI
  walk_at "sx"
  have:=h B2 none none none none none none none none none none none [] hB2
  simpa using this
theorem r3_s (hB:B.ok)(hms:MsOk ms)(hN:N=(B.pl::ν).length)(h:∀ (B':Bg) y4 y5 y6 y7 y8 y9 y10 y11 y12 y13 y14 σ,B'.ok→P.nx [some (.loc 0),some (.dat (ctrD ms)),some (.dat (.lst (ms.map markD))),some (.dat (.int (3:Nat))),y4,y5,y6,y7,y8,y9,y10,y11,y12,y13,y14] (B'.pl::ν++σ)) :
  SatS (b__law_right_2 N [some (.loc 0),some (.dat (ctrD ms)),some (.dat (.lst (ms.map markD))),some (.dat (.int (3:Nat))),none,none,none,none,none,none,none,none,none,none,none] (B.pl::ν)) P:=by
 subst hN
 have h6:=hms.h6
 have em:(ms.map markD).map DV.dat=ms.map fun m=>DV.dat (markD m):=by rw[List.map_map];rfl
 unfold b__law_right_2
 walk_at "sx"
 refine ctr_marks ?_
 refine r_nl (Nat.le_refl _) ?_
 walk_at "sx"
 refine alike_s (d:=.lst (ms.map markD)) (peek_loc (by simp)) rfl (fk_mks hms) (by decide) (by decide) ?_
 walk_at "sx"
 refine ctr_len ⟨_,rfl,⟨by omega,by omega⟩,?_⟩
 walk_at "sx"
 rw[List.length_map]
 refine if_bF (by simp) ?_
 walk_at "sx"
 refine l_clear (xs:=ms.map fun m=>DV.dat (markD m)) (by simp) ?_
 walk_at "sx"
 have:=h B none (some (.loc (B.pl::ν).length)) none none none none none none none none none [.lst []] hB
 simpa using this
theorem if_good {c:Prop}[Decidable c]{A B:Res DV}{Q:DV→Mem→Prop}(good:DV→Mem→Prop)(hA:c→Sat A good E)(hB:¬c→Sat B good E)(hq:∀ x μ',good x μ'→Q x μ'):if c then Sat A Q E else Sat B Q E:=by
 split
 ·rename_i h;exact(hA h).mono hq fun _ _ q=>q
 ·rename_i h;exact(hB h).mono hq fun _ _ q=>q
abbrev TL:SM:=(gSeq (gAsg 11 (eLst (aCons (eMeth "Counter" "marks" F_Counter_marks (eVar 9) aNil) (aCons (eLc (imRng (aCons (eVar 6) aNil)) (tgName 13) tmYes (eMeth "Counter" "more" F_Counter_more (eVar 9) (aCons (eVar 13) aNil)) [13]) (aCons (eLc (imRng (aCons (eVar 6) aNil)) (tgName 13) tmYes (eMeth "Counter" "less" F_Counter_less (eVar 9) (aCons (eVar 13) aNil)) [13]) aNil)))))
  (gSeq (gAsg 11 (eOp dAdd (eVar 11) (eLst (aCons (eLc (imRng (aCons (eVar 6) aNil)) (tgName 13) tmYes (eMeth "Counter" "copies" F_Counter_copies (eVar 9) (aCons (eVar 13) aNil)) [13]) (aCons (eLenO "Counter" F_Counter___len__ (eVar 9)) aNil)))))
  (gSeq (gAsg 12 (eLst (aCons (eVar 10) (aCons (eLc (imSeq (eVar 10)) (tgName 14) tmYes (eOp dIxA (eVar 14) (eD (.int 0))) [14]) (aCons (eLc (imSeq (eVar 10)) (tgName 14) tmYes (eOp dIxA (eVar 14) (eD (.int 1))) [14]) (aCons (eLc (imSeq (eVar 10)) (tgName 14) tmYes (eOp dIxA (eVar 14) (eD (.int 2))) [14]) (aCons (eVar 6) aNil)))))))
  (gIf (tmOr (tmNot (tmB (eCB F__law_alike (aCons (eVar 11) (aCons (eVar 12) aNil))))) (tmNot (tmB (eEqO "Counter" [] F_Counter___eq__ (eVar 9) (eMake "Counter" F_Counter___init__ (aCons (eVar 10) aNil)))))) (gRet (eD (.bl false))) gNext))))
theorem rng_eq (n:Nat):rngD 0 ((n:Int)).toNat=(List.range n).map fun i=>D.int (i:Nat):=by simp[rngD]
abbrev gm (l:List Mk)(i:Nat):Mk:=l.getD i ⟨0,none,false⟩
theorem range_map {β:Type}(g:Mk→β)(l:List Mk):(List.range l.length).map (fun i=>g (gm l i))=l.map g :=
 List.ext_getElem (by simp) fun i h1 h2=>by
  have h2:i<l.length:=by simpa using h2
  simp[gm,List.getD_eq_getElem?_getD,List.getElem?_eq_getElem h2]
theorem gm_at {l:List Mk}{i:Nat}(hi:i∈List.range l.length):l[i]?=some (gm l i):=by
 have h2:i<l.length:=by simpa using hi
 simp[gm,List.getD_eq_getElem?_getD,List.getElem?_eq_getElem h2]
theorem fk_all5 {due:List Mk}(hd:MsOk due):Fk 3 3000 (.lst [.lst (due.map markD),.lst (due.map fun m=>tellD m 0),.lst (due.map fun m=>tellD m 1),.lst (due.map fun m=>tellD m 2),.int due.length]):=by
 have h6:=hd.h6
 have ft:∀ w,Fk 2 400 (.lst (due.map fun m=>tellD m w)):=fun w=>(fk_lst (k:=0) (w:=13) (n:=6) (fun d hm=>by
  obtain⟨z,hz,rfl⟩:=List.mem_map.mp hm
  exact fk_tell (hd.ok z hz) (by omega) w) (by simpa using h6)).mono (by decide) (by decide)
 refine(fk_lst (k:=2) (w:=400) (n:=5) (fun d hm=>?_) (by simp)).mono (by decide) (by decide)
 simp only[List.mem_cons,List.not_mem_nil,or_false] at hm
 rcases hm with rfl|rfl|rfl|rfl|rfl
 ·exact fk_mks hd
 ·exact ft 0
 ·exact ft 1
 ·exact ft 2
 ·exact(fk_int (by omega)).mono (by decide) (by decide)
theorem isC {m:Str} (h:(m==("its_marks":Str))=false):isI "Counter" m (.dat (ctrD ms)) μ=true:=isI_one h
theorem kC:((kindOf μ (.dat (ctrD ms))).bind (tabC "Counter" [])).isSome=true:=by
 show((some (Kd.c "Counter")).bind (tabC "Counter" [])).isSome=true
 simp[tabC]
theorem ctr_eq {due:List Mk}(hms:MsOk ms)(hd:MsOk due)(h:QR (.dat (.bl (decide (ms=due)))) μ):Sat (F_Counter___eq__ [.dat (ctrD ms),.dat (ctrD due)] μ) QR E:=by
 with_reducible refine w_Counter___eq__ ?_
 unfold g_Counter___eq__
 walk_at "sx"
 refine eqM hms hd ?_
 walk_at "sx"
 exact h
theorem tail_s {x5 x8:Option DV}{k:Nat}{mk:D}{due:List Mk}(hd:MsOk due)(h:∀ y11 y12 y13 y14,P.nx [some (.loc 0),some (.dat (ctrD ms)),some (.dat (.lst (ms.map markD))),some (.dat (.int (4:Nat))),some (.dat (.int k)),x5,some (.dat (.int due.length)),some (.dat mk),x8,some (.dat (ctrD due)),some (.dat (.lst (due.map markD))),y11,y12,y13,y14] μ) :
  SatS (TL N [some (.loc 0),some (.dat (ctrD ms)),some (.dat (.lst (ms.map markD))),some (.dat (.int (4:Nat))),some (.dat (.int k)),x5,some (.dat (.int due.length)),some (.dat mk),x8,some (.dat (ctrD due)),some (.dat (.lst (due.map markD))),none,none,none,none] μ) P:=by
 have h1:=hd.h1
 have h6:=hd.h6
 unfold TL
 walk_at "sx"
 refine ctr_marks ?_
 walk_at "sx"
 refine And.intro ⟨by omega,by omega⟩ (And.intro (sl_sz (by simp[rngD];omega)) ?_)
 rw[rng_eq]
 refine lc_mapK (fun i=>tellD (gm due i) 0) (fun i hi=>⟨_,rfl,?_⟩) ?_
 ·walk_at "sx"
  refine ctr_more (gm_at hi) h6 ?_
  walk_at "sx"
  exact⟨rfl,rfl⟩
 walk_at "sx"
 refine And.intro ⟨by omega,by omega⟩ (And.intro (sl_sz (by simp[rngD];omega)) ?_)
 rw[rng_eq]
 refine lc_mapK (fun i=>tellD (gm due i) 1) (fun i hi=>⟨_,rfl,?_⟩) ?_
 ·walk_at "sx"
  refine ctr_less (gm_at hi) h6 ?_
  walk_at "sx"
  exact⟨rfl,rfl⟩
 walk_at "sx"
 refine And.intro ⟨by omega,by omega⟩ (And.intro (sl_sz (by simp[rngD];omega)) ?_)
 rw[rng_eq]
 refine lc_mapK (fun i=>tellD (gm due i) 2) (fun i hi=>⟨_,rfl,?_⟩) ?_
 ·walk_at "sx"
  refine ctr_copies (gm_at hi) h6 ?_
  walk_at "sx"
  exact⟨rfl,rfl⟩
 walk_at "sx"
 refine ctr_len ⟨_,rfl,⟨by omega,by omega⟩,?_⟩
 walk_at "sx"
 refine l_addL (sl_sz2 (by simp)) ?_
 walk_at "sx"
 refine And.intro (sl_sz (by simp;omega)) ?_
 refine lc_mapK (fun m=>tellD m 0) (fun m hm=>⟨_,rfl,?_⟩) ?_
 ·walk_at "sx"
  exact⟨rfl,rfl⟩
 walk_at "sx"
 refine And.intro (sl_sz (by simp;omega)) ?_
 refine lc_mapK (fun m=>tellD m 1) (fun m hm=>⟨_,rfl,?_⟩) ?_
 ·walk_at "sx"
  exact⟨rfl,rfl⟩
 walk_at "sx"
 refine And.intro (sl_sz (by simp;omega)) ?_
 refine lc_mapK (fun m=>tellD m 2) (fun m hm=>⟨_,rfl,?_⟩) ?_
 ·walk_at "sx"
  exact⟨rfl,rfl⟩
 walk_at "sx"
 refine alike_s (d:=.lst [.lst (due.map markD),.lst (due.map fun m=>tellD m 0),.lst (due.map fun m=>tellD m 1),.lst (due.map fun m=>tellD m 2),.int due.length]) (by rw[←range_map (fun m=>tellD m 0) due,←range_map (fun m=>tellD m 1) due,←range_map (fun m=>tellD m 2) due];rfl) rfl (fk_all5 hd) (by decide) (by decide) ?_
 walk_at "sx"
 refine init_spec hd ?_
 walk_at "sx"
 refine⟨⟨isC (by decide),kC⟩,ctr_eq hd hd ?_⟩
 rw[decide_eq_true (show due=due from rfl)]
 walk_at "sx"
 exact h _ _ _ _
theorem r4_s (hB:B.ok)(hms:MsOk ms)(hN:N=(B.pl::ν).length)(h:∀ (B':Bg) y4 y5 y6 y7 y8 y9 y10 y11 y12 y13 y14 σ,B'.ok→P.nx [some (.loc 0),some (.dat (ctrD ms)),some (.dat (.lst (ms.map markD))),some (.dat (.int (4:Nat))),y4,y5,y6,y7,y8,y9,y10,y11,y12,y13,y14] (B'.pl::ν++σ)) :
  SatS (b__law_right_2 N [some (.loc 0),some (.dat (ctrD ms)),some (.dat (.lst (ms.map markD))),some (.dat (.int (4:Nat))),none,none,none,none,none,none,none,none,none,none,none] (B.pl::ν)) P:=by
 subst hN
 have h1:=hms.h1
 have h6:=hms.h6
 unfold b__law_right_2
 walk_at "sx"
 rw[List.length_map]
 refine take_s hB (by omega) (by omega) fun r B1 hB1 hr=>?_
 walk_at "sx"
 rw[List.length_map]
 refine take_s hB1 (by omega) (by omega) fun r1 B2 hB2 hr1=>?_
 walk_at "sx"
 refine take_s hB2 (by omega) (by omega) fun r2 B3 hB3 hr2=>?_
 walk_at "sx"
 refine take_s hB3 (by omega) (by omega) fun r3 B4 hB4 hr3=>?_
 obtain⟨o,eo,ho⟩:=pick2 (r:=r2) hr3
 walk_at "sx"
 refine w_ix (l_ixL eo ?_)
 walk_at "sx"
 refine take_s hB4 (by omega) (by omega) fun r4 B5 hB5 hr4=>?_
 walk_at "sx"
 refine s_asgX (by simp) ?_
 refine x_xif ?_
 walk_at "sx"
 refine take_s (m:=2) hB5 (by decide) (by decide) fun r5 B6 hB6 hr5=>?_
 walk_at "sx"
 refine And.intro (by simp) ?_
 have hmk:MkOk ms.length ⟨r1,o,decide ((r4:Int)=0)⟩:=⟨⟨by simp,by simpa using hr1⟩,fun i e=>by have:=ho i e;omega⟩
 generalize hm:(⟨r1,o,decide ((r4:Int)=0)⟩:Mk)=m at hmk
 have em:D.tup [D.int r1,optD o,D.bl (decide ((r4:Int)=0))]=markD m:=by rw[←hm]
 rw[em]
 refine if_good (fun x μ'=>∃ σ,μ'=B6.pl::ν++σ∧MkAt μ' m x∧∀ c,x=.loc c→(B6.pl::ν).length≤c) (fun _=>?_) (fun _=>?_) fun x μ' ⟨σ,eμ,hx,hc⟩=>?_
 ·refine x_xof ?_
  walk_at "sx"
  refine p_nl (Nat.le_refl _) ?_
  exact⟨[.lst ((mL m).map DV.dat)],rfl,.loc (by simp[mL]),fun c e=>by cases e;exact Nat.le_refl _⟩
 ·refine xof_v rfl ?_
  exact⟨[],by simp,.dat,fun c e=>by cases e⟩
 subst eμ
 walk_at "sx"
 have hr':r<ms.length:=by omega
 refine with_at hms hr' hx hmk ?_
 walk_at "sx"
 rw[cutL_map,cut_to]
 refine l_addL (es:=[markD m]) (sl_sz2 (by simp;omega)) ?_
 walk_at "sx"
 rw[show((r:Int)+1)=((r+1:Nat):Int) by push_cast;rfl,cutL_map,cut_from _ (r+1)]
 refine l_addL (sl_sz2 (by simp;omega)) ?_
 rw[show(ms.take r).map markD++[markD m]++(ms.drop (r+1)).map markD=(msW ms r m).map markD by unfold msW;simp]
 walk_at "sx"
 have hd:=msW_ok hms hr' hmk
 have hdl:=msW_len (m:=m) hr'
 generalize msW ms r m=due at hd hdl
 rw[←hdl]
 cases hx with
 | dat =>
  repeat (first|(with_reducible refine tail_s hd fun y11 y12 y13 y14=>?_)|(walk_at "sx1"))
  rw[hdl]
  exact h B6 _ _ _ _ _ _ _ _ _ _ _ σ hB6
 | @loc c e =>
  have hcl:=hc c rfl
  obtain⟨j,rfl⟩:∃ j,c=(B6.pl::ν).length+j:=⟨c-(B6.pl::ν).length,by omega⟩
  refine l_isi (kd:=.b "list") (b:=true) (by unfold DL.kindOf;simp only[e]) (by decide +kernel) ?_
  walk_at "sx"
  refine And.intro (tyL_loc e) ?_
  refine l_clear e ?_
  repeat (first|(with_reducible refine tail_s hd fun y11 y12 y13 y14=>?_)|(walk_at "sx1"))
  rw[hdl,List.set_append_right _ _ (by omega)]
  exact h B6 _ _ _ _ _ _ _ _ _ _ _ _ hB6
theorem right_s (hB:B.ok)(hms:MsOk ms)(h:∀ B':Bg,B'.ok→QR (.dat (.bl true)) (B'.pl::ν)):Sat (F__law_right [.loc 0,.dat (ctrD ms),.dat (.lst (ms.map markD))] (B.pl::ν)) QR E:=by
 refine w__law_right ?_
 unfold g__law_right
 walk_at "sx"
 refine mixed_s (k:=0) (w:=40) (ds:=[.int 0,.int 1,.int 2,.int 3,.int 4]) (by decide) hB (by simp) (fun d hd=>?_) fun ys B1 hB1 hp=>?_
 ·simp only[List.mem_cons,List.not_mem_nil,or_false] at hd
  rcases hd with rfl|rfl|rfl|rfl|rfl <;> exact⟨_,rfl,(fit_int (by decide)).mono (by decide) (by decide)⟩
 walk_at "sx"
 refine for_inv (fun j δ μ'=>∃ B':Bg,B'.ok∧δ=[some (.loc 0),some (.dat (ctrD ms)),some (.dat (.lst (ms.map markD))),none,none,none,none,none,none,none,none,none,none,none,none]∧μ'=B'.pl::ν) ⟨B1,hB1,rfl,rfl⟩ (fun j d hd δ μ' hI=>?_) fun δ μ' hI=>?_
 ·obtain⟨B2,hB2,rfl,rfl⟩:=hI
  have hd2:=hp.mem_iff.mp (List.mem_of_getElem? hd)
  simp only[List.mem_cons,List.not_mem_nil,or_false] at hd2
  rcases hd2 with rfl|rfl|rfl|rfl|rfl
  ·exact⟨_,rfl,rw_s (w:=0) (by decide) hB2 hms (by simp) fun B3 y4 y5 y6 y7 y8 y9 y10 y11 y12 y13 y14 σ hB3=>⟨B3,hB3,by simp[cut,DL.cutV],by simp⟩⟩
  ·exact⟨_,rfl,rw_s (w:=1) (by decide) hB2 hms (by simp) fun B3 y4 y5 y6 y7 y8 y9 y10 y11 y12 y13 y14 σ hB3=>⟨B3,hB3,by simp[cut,DL.cutV],by simp⟩⟩
  ·exact⟨_,rfl,rw_s (w:=2) (by decide) hB2 hms (by simp) fun B3 y4 y5 y6 y7 y8 y9 y10 y11 y12 y13 y14 σ hB3=>⟨B3,hB3,by simp[cut,DL.cutV],by simp⟩⟩
  ·exact⟨_,rfl,r3_s hB2 hms (by simp) fun B3 y4 y5 y6 y7 y8 y9 y10 y11 y12 y13 y14 σ hB3=>⟨B3,hB3,by simp[cut,DL.cutV],by simp⟩⟩
  ·exact⟨_,rfl,r4_s hB2 hms (by simp) fun B3 y4 y5 y6 y7 y8 y9 y10 y11 y12 y13 y14 σ hB3=>⟨B3,hB3,by simp[cut,DL.cutV],by simp⟩⟩
 ·obtain⟨B2,hB2,rfl,rfl⟩:=hI
  walk_at "sx"
  exact h B2 hB2
end
def Its (μ:Mem)(ys:List DV)(ms:List Mk):Prop:=ys.length=ms.length∧∀ (k:Nat) (m:Mk),ms[k]?=some m→∃ x,ys[k]?=some x∧MkAt μ m x
section
variable {QR:R→Mem→Prop}{QV:DV→Mem→Prop}{E:Xc→Mem→Prop}{μ ν:Mem}{B:Bg}{i:Int}{n:Nat}{ms:List Mk}{m:Mk}{b:Bool}{k N:Nat}{d:D}{p:Pl}{xs ys:List DV}{x:DV}{P:PO}
theorem Its.app (h:Its μ ys ms)(τ:Mem):Its (μ++τ) ys ms:=⟨h.1,fun k m e=>let ⟨x,e2,q⟩:=h.2 k m e;⟨x,e2,q.app τ⟩⟩
theorem Its.snoc (h:Its μ ys (ms.take k))(hm:ms[k]?=some m)(hx:MkAt μ m x):Its μ (ys++[x]) (ms.take (k+1)):=by
 rw[DL.take_snoc hm]
 refine⟨by simp[h.1],fun j z hz=>?_⟩
 by_cases hj:j<(ms.take k).length
 ·rw[List.getElem?_append_left hj] at hz
  obtain⟨y,e,q⟩:=h.2 j z hz
  exact⟨y,by rw[List.getElem?_append_left (by rw[h.1];exact hj)];exact e,q⟩
 ·have hl:j<(ms.take k++[m]).length:=(List.getElem?_eq_some_iff.mp hz).1
  simp only[List.length_append,List.length_cons,List.length_nil] at hl
  have hj2:j=(ms.take k).length:=by omega
  subst hj2
  simp at hz
  subst hz
  exact⟨x,by rw[←h.1];simp,hx⟩
theorem mkAt_bag {B':Bg}(h:MkAt (B.pl::ν) m x):MkAt (B'.pl::ν) m x:=by
 cases h with
 | dat=>exact .dat
 | @loc c e =>
  cases c with
  | zero =>
   have:B.pl=.lst ((mL m).map DV.dat):=by simpa using e
   unfold Bg.pl mL at this
   injection this with q
   have:=congrArg List.length q
   simp at this
  | succ c=>exact .loc (by simpa using e)
theorem its_bag {B':Bg}(h:Its (B.pl::ν) ys ms):Its (B'.pl::ν) ys ms:=⟨h.1,fun k m e=>let ⟨x,e2,q⟩:=h.2 k m e;⟨x,e2,mkAt_bag q⟩⟩
theorem handed_s (hB:B.ok)(hms:MsOk ms)(h:∀ (B':Bg) (σ:Mem) (c:Nat) (p:Pl) (xs:List DV),B'.ok→HdAt (B'.pl::(ν++σ)) c p xs ms→QV (.loc c) (B'.pl::(ν++σ))) :
  Sat (F__law_handed [.loc 0,.dat (.lst (ms.map markD))] (B.pl::ν)) QV E:=by
 have h6:=hms.h6
 refine w__law_handed ?_
 unfold g__law_handed
 walk_at "sx"
 refine s_asgX (Nat.le_refl _) ?_
 refine x_xlc ?_
 walk_at "sx"
 refine⟨sl_sz (by simp;omega),lcX_invK (fun k ys μ'=>∃ (B':Bg) (σ:Mem),B'.ok∧μ'=B'.pl::(ν++σ)∧Its μ' ys (ms.take k)) ⟨B,[],hB,by simp,rfl,fun k m e=>by simp at e⟩ (fun k d hd ys μ' hI=>?_) fun ys μ' hI=>?_⟩
 ·obtain⟨B1,σ,hB1,rfl,it⟩:=hI
  rw[List.getElem?_map] at hd
  obtain⟨m,hm,rfl⟩:=Option.map_eq_some_iff.mp hd
  refine⟨_,rfl,?_⟩
  walk_at "sx"
  refine And.intro (by simp) ?_
  refine x_xif ?_
  walk_at "sx"
  refine take_s (m:=2) (ν:=ν++σ) hB1 (by decide) (by decide) fun r B2 hB2 hr=>?_
  walk_at "sx"
  refine And.intro (by simp) ?_
  by_cases e:r=0
  ·subst e
   rw[if_pos (by simp)]
   refine x_xof ?_
   walk_at "sx"
   refine p_nl (Nat.le_refl _) ?_
   exact⟨B2,σ++[.lst ((mL m).map DV.dat)],hB2,by simp[mL],((its_bag it).app _).snoc hm (.loc (by simp[mL]))⟩
  ·rw[if_neg (by simp;omega)]
   refine xof_v rfl ?_
   exact⟨B2,σ,hB2,rfl,(its_bag it).snoc hm .dat⟩
 ·obtain⟨B1,σ,hB1,rfl,it⟩:=hI
  rw[List.length_map,List.take_length] at it
  refine And.intro (by simp) ?_
  refine s_retX (by simp) ?_
  refine x_xif ?_
  walk_at "sx"
  refine take_s (m:=2) (ν:=ν++σ++[.lst ys]) hB1 (by decide) (by decide) fun r B2 hB2 hr=>?_
  walk_at "sx"
  refine And.intro (by simp) ?_
  have hl:((B1.pl::(ν++σ)).length)=(B2.pl::(ν++σ)).length:=by simp
  have it2:Its (B2.pl::(ν++(σ++[.lst ys]))) ys ms:=by
   have:=(its_bag (B':=B2) it).app [.lst ys]
   simpa using this
  by_cases e:r=0
  ·subst e
   rw[if_pos (by simp)]
   refine xof_v rfl ?_
   refine cx_new (by simp) ?_
   rw[List.append_assoc]
   exact h B2 (σ++[.lst ys]) (B1.pl::(ν++σ)).length (.lst ys) ys hB2 ⟨by simp,.inl rfl,it2.1,it2.2⟩
  ·rw[if_neg (by simp;omega)]
   refine x_xtupl ?_
   refine xof_v rfl ?_
   refine And.intro (Nat.le_refl _) ⟨ys,by simp[asL],?_⟩
   refine cx_new (by simp) ?_
   have it3:Its (B2.pl::(ν++(σ++[.lst ys,.tp ys]))) ys ms:=by
    have:=it2.app [.tp ys]
    simpa using this
   have e3:B2.pl::(ν++σ++[Pl.lst ys])++[.tp ys]=B2.pl::(ν++(σ++[.lst ys,.tp ys])):=by simp
   rw[e3]
   exact h B2 (σ++[.lst ys,.tp ys]) (B2.pl::(ν++σ++[.lst ys])).length (.tp ys) ys hB2 ⟨by simp,.inr rfl,it3.1,it3.2⟩
end
section
variable {QR:R→Mem→Prop}{E:Xc→Mem→Prop}{μ ν:Mem}{B:Bg}{ms:List Mk}{m:Mk}{b:Bool}{k N n:Nat}{d:D}{p:Pl}{xs:List DV}{x:DV}{P:PO}
theorem bag_s {ns:List Int}(h:QR (.nl [.dat (.int (bag0 ns).a),.dat (.int (bag0 ns).b),.dat (.int (bag0 ns).c),.dat (.lst ((bag0 ns).cs.map D.int))]) μ):Sat (F__law_bag [.dat (.fro (ns.map D.int))] μ) QR E:=by
 rw[e__law_bag,bag_spec];exact h
theorem b4_s {x4 x6 x7 x9 x10 x11 x12 x13:Option DV}{d0 d2:D}(h6:ms.length≤6)(hd:Off ms.length d)(hf:Fk 2 100 d)
  (h:∀ y4 y6 y7 y9 y10 y11 y12 y13,P.nx [some (.dat d0),some (.loc 0),some (.dat d2),some (.dat (.lst (ms.map markD))),y4,some (.dat (ctrD ms)),y6,y7,some (.dat d),y9,y10,y11,y12,y13] (B.pl::ν)) :
  SatS (b_law_4 N [some (.dat d0),some (.loc 0),some (.dat d2),some (.dat (.lst (ms.map markD))),x4,some (.dat (ctrD ms)),x6,x7,some (.dat d),x9,x10,x11,x12,x13] (B.pl::ν)) P:=by
 have hf2:Fk 3 300 (.tup [.str "none",d]):=by
  refine(fk_tup (k:=2) (w:=100) (n:=2) (fun z hz=>?_) (by simp)).mono (by decide) (by decide)
  simp only[List.mem_cons,List.not_mem_nil,or_false] at hz
  rcases hz with rfl|rfl
  ·exact(fk_str (m:=4) (by decide +kernel) (by decide)).mono (by decide) (by decide)
  ·exact hf
 unfold b_law_4
 walk_at "sx"
 refine And.intro ⟨by decide,by decide⟩ ?_
 refine for_inv (fun k δ μ'=>∃ y4 y6 y7 y9 y10 y11 y12 y13,δ=[some (.dat d0),some (.loc 0),some (.dat d2),some (.dat (.lst (ms.map markD))),y4,some (.dat (ctrD ms)),y6,y7,some (.dat d),y9,y10,y11,y12,y13]∧μ'=B.pl::ν) ⟨_,_,_,_,_,_,_,_,rfl,rfl⟩ (fun k e he δ μ' hI=>?_) fun δ μ' hI=>?_
 ·obtain⟨y4,y6,y7,y9,y10,y11,y12,y13,rfl,rfl⟩:=hI
  rw[show rngD 0 (Int.toNat 4)=(List.range 4).map fun i=>D.int (i:Nat) from rfl] at he
  obtain⟨w,hw,rfl⟩:=List.mem_map.mp (List.mem_of_getElem? he)
  have hw:=List.mem_range.mp hw
  refine⟨_,rfl,?_⟩
  unfold b_law_3
  walk_at "sx"
  refine heard_off hw h6 hd ?_
  walk_at "sx"
  refine alike_s rfl rfl hf2 (by decide) (by decide) ?_
  walk_at "sx"
  exact⟨_,_,_,_,_,_,_,_,rfl,by simp⟩
 ·obtain⟨y4,y6,y7,y9,y10,y11,y12,y13,rfl,rfl⟩:=hI
  exact h _ _ _ _ _ _ _ _
theorem b5_s {x4 x6 x7 x8 x9 x10 x11 x12 x13:Option DV}{d0 d2:D}(hB:B.ok)(hms:MsOk ms)(h:∀ (B':Bg) y11 y12 y13,B'.ok→P.nx [some (.dat d0),some (.loc 0),some (.dat d2),some (.dat (.lst (ms.map markD))),x4,some (.dat (ctrD ms)),x6,x7,x8,x9,x10,y11,y12,y13] (B'.pl::ν)) :
  SatS (b_law_5 N [some (.dat d0),some (.loc 0),some (.dat d2),some (.dat (.lst (ms.map markD))),x4,some (.dat (ctrD ms)),x6,x7,x8,x9,x10,x11,x12,x13] (B.pl::ν)) P:=by
 unfold b_law_5
 walk_at "sx"
 refine near_s hB hms fun mn B1 hB1 hmn=>?_
 walk_at "sx"
 refine init_spec hmn ?_
 walk_at "sx"
 refine eqM hmn hms ?_
 walk_at "sx"
 refine⟨⟨isC (by decide),kC⟩,ctr_eq hms hmn ?_⟩
 walk_at "sx"
 refine⟨⟨isC (by decide),kC⟩,ctr_eq hmn hms ?_⟩
 walk_at "sx"
 refine⟨⟨isC (by decide),kC⟩,ctr_eq hms hmn ?_⟩
 have ecom:decide (ms=mn)=decide (mn=ms):=decide_eq_decide.mpr eq_comm
 rw[ecom]
 walk_at "sx"
 have fb:∀ a b c:Bool,Fk 1 100 (.lst [.bl a,.bl b,.bl c]):=fun a b c=>(fk_lst (k:=0) (w:=5) (n:=3) (fun d hd=>by
  simp only[List.mem_cons,List.not_mem_nil,or_false] at hd
  rcases hd with rfl|rfl|rfl <;> exact fk_bl) (by simp)).mono (by decide) (by decide)
 refine alike_s (d:=.lst [.bl (decide (mn=ms)),.bl (decide (mn=ms)),.bl (!decide (mn=ms))]) rfl rfl (fb _ _ _) (by decide) (by decide) ?_
 walk_at "sx"
 exact h B1 _ _ _ hB1
abbrev TB:SM:=(gSeq (gFor [true,true,true,true,true,true,false,false,false,false,false,false,false,false] (imRng (aCons (eD (.int 2)) aNil)) (tgName 7) b_law_2)
  (gSeq (gFor [true,true,true,true,true,true,false,false,false,false,false,false,false,false] (imSeq (eTup (aCons (eUn dNeg (eD (.int 1))) (aCons (eCB dLenA (aCons (eVar 3) aNil)) (aCons (eOp dAdd (eCB dLenA (aCons (eVar 3) aNil)) (eD (.int 7))) (aCons (eD (.bl true)) (aCons (eD (.bl false)) (aCons (eD .non) (aCons (eD (.str "0")) (aCons (eTup aNil) (aCons (eLst aNil) (aCons (eLk eDNew) (aCons (eTup (aCons (eD (.int 0)) aNil)) (aCons (eOp dPow (eD (.int 10)) (eD (.int 30))) aNil)))))))))))))) (tgName 8) b_law_4)
  (gSeq (gFor [true,true,true,true,true,true,false,false,false,false,false,false,false,false] (imRng (aCons (eD (.int 3)) aNil)) (tgName 10) b_law_5)
  (gIf (tmOr (tmNot (tmB (eEqO "Counter" [] F_Counter___eq__ (eVar 5) (eMake "Counter" F_Counter___init__ (aCons (eCB (d1 dTuple) (aCons (eVar 3) aNil)) aNil))))) (tmOr (tmB (eEqO "Counter" [] F_Counter___eq__ (eVar 5) (eVar 3))) (tmOr (tmB (eEqO "Counter" [] F_Counter___eq__ (eVar 5) (eD .non))) (tmB (eEqO "Counter" [] F_Counter___eq__ (eVar 5) (eCB dLenA (aCons (eVar 3) aNil))))))) (gRet (eD (.bl false))) gNext))))
def oddM (n:Nat):List D:=[.int (-1),.int n,.int (n+7),.bl true,.bl false,.non,.str "0",.tup [],.lst [],.dct [],.tup [.int 0],.int 1000000000000000000000000000000]
theorem marks_specT (hms:MsOk ms)(h:QR (.dat (.bl true)) μ):Sat (F_are_marks [.dat (.tup (ms.map markD))] μ) QR E:=by
 have a1:=hms.h1
 have a2:=hms.h6
 refine w_are_marks ?_
 unfold g_are_marks
 walk_at "sx"
 refine w_isiB (is2_tup_list_tuple ?_)
 walk_at "sx"
 refine w_lenB ?_
 walk_at "sx"
 refine if_bT (by simp;omega) ?_
 walk_at "sx"
 refine if_bF (by simp;omega) ?_
 walk_at "sx"
 refine x_alt ?_
 walk_at "sx"
 refine⟨sl_sz (by simp;omega),lc_mapK (fun _=>.bl true) (fun m hm=>⟨_,rfl,?_⟩) ?_⟩
 ·walk_at "sx"
  refine w_lenB ?_
  walk_at "sx"
  rw[List.length_map]
  refine mark_spec (hms.ok m hm) ?_
  walk_at "sx"
  exact⟨rfl,rfl⟩
 ·walk_at "sx"
  refine l_all (f:=fun _=>true) ?_
  walk_at "sx"
  rw[show(ms.map fun _=>true).all id=true by simp];exact h
theorem init_specT (hms:MsOk ms) (h:QR (.dat (ctrD ms)) μ):Sat (F_Counter___init__ [.loc (μ.length+1),.dat (.tup (ms.map markD))] (μ++[.own]++[.ins "Counter" []])) (MkK μ.length QR) E:=by
 have a2:=hms.h6
 refine w_Counter___init__ ?_
 unfold g_Counter___init__
 walk_at "sx"
 refine marks_specT hms ?_
 walk_at "sx"
 refine x_alt ?_
 walk_at "sx"
 refine⟨sl_sz (by simp;omega),lc_mapK markD (fun m hm=>⟨_,rfl,?_⟩) ?_⟩
 ·walk_at "sx"
  exact⟨rfl,rfl⟩
 ·walk_at "sx"
  refine⟨_,init1 (by simp),?_⟩
  refine e_nx (List.take_of_length_le (by simp)) ?_
  exact init1_end h
theorem eq_no (hd:KdB d=true)(h:QR (.dat (.bl false)) μ):Sat (F_Counter___eq__ [.dat (ctrD ms),.dat d] μ) QR E:=by
 refine w_Counter___eq__ ?_
 unfold g_Counter___eq__
 rcases kb_cases hd with rfl|⟨b,rfl⟩|⟨b,rfl⟩|⟨b,rfl⟩|⟨b,rfl⟩|⟨b,rfl⟩|⟨b,rfl⟩ <;> (walk_at "sx";exact h)
theorem kK {x:D} (h:KdB x=true):((kindOf μ (.dat x)).bind (tabC "Counter" [])).isSome=true:=by
 rcases kb_cases h with rfl|⟨b,rfl⟩|⟨b,rfl⟩|⟨b,rfl⟩|⟨b,rfl⟩|⟨b,rfl⟩|⟨b,rfl⟩ <;> rfl
theorem odd_off (h6:ms.length≤6)(hd:d∈oddM ms.length):Off ms.length d:=by
 simp only[oddM,List.mem_cons,List.not_mem_nil,or_false] at hd
 rcases hd with rfl|rfl|rfl|rfl|rfl|rfl|rfl|rfl|rfl|rfl|rfl|rfl
 ·exact .inr ⟨_,rfl,by omega⟩
 ·exact .inr ⟨_,rfl,by omega⟩
 ·exact .inr ⟨_,rfl,by omega⟩
 ·exact .inl rfl
 ·exact .inl rfl
 ·exact .inl rfl
 ·exact .inl rfl
 ·exact .inl rfl
 ·exact .inl rfl
 ·exact .inl rfl
 ·exact .inl rfl
 ·exact .inr ⟨_,rfl,by omega⟩
theorem odd_fk (h6:ms.length≤6)(hd:d∈oddM ms.length):Fk 2 100 d:=by
 simp only[oddM,List.mem_cons,List.not_mem_nil,or_false] at hd
 rcases hd with rfl|rfl|rfl|rfl|rfl|rfl|rfl|rfl|rfl|rfl|rfl|rfl
 ·exact(fk_int (by decide)).mono (by decide) (by decide)
 ·exact(fk_int (by omega)).mono (by decide) (by decide)
 ·exact(fk_int (by omega)).mono (by decide) (by decide)
 ·exact fk_bl.mono (by decide) (by decide)
 ·exact fk_bl.mono (by decide) (by decide)
 ·exact fk_non.mono (by decide) (by decide)
 ·exact(fk_str (m:=1) (by decide +kernel) (by decide)).mono (by decide) (by decide)
 ·exact⟨_,rfl,by decide +kernel,by decide +kernel,by decide +kernel⟩
 ·exact⟨_,rfl,by decide +kernel,by decide +kernel,by decide +kernel⟩
 ·exact⟨_,rfl,by decide +kernel,by decide +kernel,by decide +kernel⟩
 ·exact⟨_,rfl,by decide +kernel,by decide +kernel,by decide +kernel⟩
 ·exact⟨_,rfl,by decide +kernel,by decide +kernel,by decide +kernel⟩
theorem tb_s {x4 x6 x7 x8 x9 x10 x11 x12 x13:Option DV}{d0 d2:D}(hB:B.ok)(hms:MsOk ms)
  (h:∀ (B':Bg) σ y4 y6 y7 y8 y9 y10 y11 y12 y13,B'.ok→P.nx [some (.dat d0),some (.loc 0),some (.dat d2),some (.dat (.lst (ms.map markD))),y4,some (.dat (ctrD ms)),y6,y7,y8,y9,y10,y11,y12,y13] (B'.pl::σ)) :
  SatS (TB 0 [some (.dat d0),some (.loc 0),some (.dat d2),some (.dat (.lst (ms.map markD))),x4,some (.dat (ctrD ms)),x6,x7,x8,x9,x10,x11,x12,x13] (B.pl::ν)) P:=by
 have h6:=hms.h6
 unfold TB
 walk_at "sx"
 refine And.intro ⟨by decide,by decide⟩ ?_
 refine for_inv (fun k δ μ'=>∃ (B':Bg) (y4 y6 y7 y8 y9 y10 y11 y12 y13:Option DV),B'.ok∧δ=[some (.dat d0),some (.loc 0),some (.dat d2),some (.dat (.lst (ms.map markD))),y4,some (.dat (ctrD ms)),y6,y7,y8,y9,y10,y11,y12,y13]∧μ'=B'.pl::ν) ⟨B,_,_,_,_,_,_,_,_,_,hB,rfl,rfl⟩ (fun k d hd δ μ' hI=>?_) fun δ μ' hI=>?_
 ·obtain⟨B4,y4,y6,y7,y8,y9,y10,y11,y12,y13,hB4,rfl,rfl⟩:=hI
  refine⟨_,rfl,?_⟩
  unfold b_law_2
  walk_at "sx"
  refine right_s hB4 hms fun B5 hB5=>?_
  walk_at "sx"
  exact⟨B5,_,_,_,_,_,_,_,_,_,hB5,rfl,by simp⟩
 obtain⟨B1,y4,y6,y7,y8,y9,y10,y11,y12,y13,hB1,rfl,rfl⟩:=hI
 walk_at "sx"
 refine⟨[],[],rfl,rfl,?_⟩
 walk_at "sx"
 refine l_pow (by decide) ?_
 rw[show((10:Int)^(30:Int).toNat)=1000000000000000000000000000000 by decide +kernel]
 walk_at "sx"
 rw[List.length_map]
 refine for_inv (fun k δ μ'=>∃ (y4 y6 y7 y8 y9 y10 y11 y12 y13:Option DV),δ=[some (.dat d0),some (.loc 0),some (.dat d2),some (.dat (.lst (ms.map markD))),y4,some (.dat (ctrD ms)),y6,y7,y8,y9,y10,y11,y12,y13]∧μ'=B1.pl::ν) ⟨_,_,_,_,_,_,_,_,_,rfl,rfl⟩ (fun k d hd δ μ' hI=>?_) fun δ μ' hI=>?_
 ·obtain⟨y4,y6,y7,y8,y9,y10,y11,y12,y13,rfl,rfl⟩:=hI
  have hm:d∈oddM ms.length:=List.mem_of_getElem? hd
  refine⟨_,rfl,b4_s h6 (odd_off h6 hm) (odd_fk h6 hm) fun y4 y6 y7 y9 y10 y11 y12 y13=>?_⟩
  exact⟨_,_,_,_,_,_,_,_,_,rfl,by simp⟩
 obtain⟨y4,y6,y7,y8,y9,y10,y11,y12,y13,rfl,rfl⟩:=hI
 walk_at "sx"
 refine And.intro ⟨by decide,by decide⟩ ?_
 refine for_inv (fun k δ μ'=>∃ (B':Bg) (y4 y6 y7 y8 y9 y10 y11 y12 y13:Option DV),B'.ok∧δ=[some (.dat d0),some (.loc 0),some (.dat d2),some (.dat (.lst (ms.map markD))),y4,some (.dat (ctrD ms)),y6,y7,y8,y9,y10,y11,y12,y13]∧μ'=B'.pl::ν) ⟨B1,_,_,_,_,_,_,_,_,_,hB1,rfl,rfl⟩ (fun k d hd δ μ' hI=>?_) fun δ μ' hI=>?_
 ·obtain⟨B4,y4,y6,y7,y8,y9,y10,y11,y12,y13,hB4,rfl,rfl⟩:=hI
  refine⟨_,rfl,b5_s hB4 hms fun B5 y11 y12 y13 hB5=>?_⟩
  exact⟨B5,_,_,_,_,_,_,_,_,_,hB5,rfl,by simp⟩
 obtain⟨B2,y4,y6,y7,y8,y9,y10,y11,y12,y13,hB2,rfl,rfl⟩:=hI
 walk_at "sx"
 refine init_specT hms ?_
 walk_at "sx"
 refine⟨⟨isC (by decide),kC⟩,ctr_eq hms hms ?_⟩
 rw[decide_eq_true (show ms=ms from rfl)]
 walk_at "sx"
 refine⟨⟨isC (by decide),kK (by rfl)⟩,eq_no (by rfl) ?_⟩
 walk_at "sx"
 refine⟨⟨isC (by decide),kK (by rfl)⟩,eq_no (by rfl) ?_⟩
 walk_at "sx"
 refine⟨⟨isC (by decide),kK (by rfl)⟩,eq_no (by rfl) ?_⟩
 walk_at "sx"
 exact h B2 ν _ _ _ _ _ _ _ _ _ hB2
theorem hd_first (hh:HdAt μ n p xs ms)(hms:MsOk ms){zs:List DV}{i:Int}(e:μ[n]?=some (.lst (.dat (.int i)::zs))):False:=by
 have h1:=hms.h1
 obtain⟨m,hm⟩:∃ m,ms[0]?=some m:=⟨_,List.getElem?_eq_getElem (by omega)⟩
 obtain⟨x,hx,hat⟩:=hh.at_ 0 m hm
 have ep:=hh.pl.symm.trans e
 rcases hh.ty with rfl|rfl
 ·injection ep with ep
  injection ep with ep
  subst ep
  simp at hx
  subst hx
  cases hat
 ·injection ep with ep
  cases ep
theorem hd_ne0 (hh:HdAt (B.pl::ν) n p xs ms)(hms:MsOk ms):n≠0:=fun e=>by
 subst e
 exact hd_first hh hms (i:=B.a) (zs:=[.dat (.int B.b),.dat (.int B.c),.dat (.lst (B.cs.map D.int))]) rfl
theorem hd_item (hh:HdAt μ n p xs ms){j:Nat}(e:xs[j]?=some x):∃ m,MkAt μ m x:=by
 have hj:j<ms.length:=by have:=lt_of_at e;rw[hh.len] at this;exact this
 obtain⟨y,hy,q⟩:=hh.at_ j _ (List.getElem?_eq_getElem hj)
 cases hy.symm.trans e
 exact⟨_,q⟩
theorem hd_loc (hh:HdAt (B.pl::ν) n p xs ms)(hms:MsOk ms){j c:Nat}(e:xs[j]?=some (.loc c)):(c≠n∧c≠0)∧∃ ys,(B.pl::ν)[c]?=some (.lst ys):=by
 obtain⟨m,hm⟩:=hd_item hh e
 cases hm with
 | loc h =>
  refine⟨⟨fun ec=>?_,fun ec=>?_⟩,_,h⟩
  ·subst ec;exact hd_first hh hms (i:=m.a) (zs:=[.dat (optD m.l),.dat (.bl m.c)]) h
  ·subst ec
   have:B.pl=.lst ((mL m).map DV.dat):=by simpa using h
   unfold Bg.pl mL at this
   injection this with q
   have:=congrArg List.length q
   simp at this
theorem b6_s {x3 x4 x5 x6 x7 x8 x9 x10 x11 x12 x13:Option DV}{d0 d2:D}(hB:B.ok)
  (h:∀ (B':Bg) σ y3 y4 y5 y6 y7 y8 y9 y10 y11 y12 y13,B'.ok→P.nx [some (.dat d0),some (.loc 0),some (.dat d2),y3,y4,y5,y6,y7,y8,y9,y10,y11,y12,y13] (B'.pl::σ)) :
  SatS (b_law_6 0 [some (.dat d0),some (.loc 0),some (.dat d2),x3,x4,x5,x6,x7,x8,x9,x10,x11,x12,x13] [B.pl]) P:=by
 unfold b_law_6
 walk_at "sx"
 refine counter_s (ν:=[]) hB fun ms B1 hB1 hms=>?_
 refine z_nlf (f:=markD) ?_
 walk_at "sx"
 refine s_asgX (Nat.zero_le _) ?_
 walk_at "sx"
 refine And.intro (by simp) ?_
 refine handed_s (ν:=[]) hB1 hms fun B2 σ c p xs hB2 hh=>?_
 walk_at "sx"
 refine init_at hh hms ?_
 walk_at "sx"
 refine s_forPT ?_
 walk_at "sx"
 have hh:HdAt (B2.pl::σ) c p xs ms:=hh
 refine⟨c,p,xs,rfl,hh.ty,hh.pl,Nat.zero_le _,?_⟩
 have hc0:=hd_ne0 hh hms
 have hcl:c<(B2.pl::σ).length:=(List.getElem?_eq_some_iff.mp hh.pl).1
 refine forP_inv (fun k δ μ'=>∃ (τ:Mem) (y6 y7 y8 y9 y10 y11 y12 y13:Option DV),δ=[some (.dat d0),some (.loc 0),some (.dat d2),some (.dat (.lst (ms.map markD))),some (.loc c),some (.dat (ctrD ms)),y6,y7,y8,y9,y10,y11,y12,y13]∧μ'=B2.pl::τ∧τ.length=σ.length∧μ'[c]?=some p∧∀ (j c':Nat),xs[j]?=some (DV.loc c')→∃ ys:List DV,μ'[c']?=some (Pl.lst ys))
  ⟨σ,_,_,_,_,_,_,_,_,rfl,rfl,rfl,hh.pl,fun j c' e=>(hd_loc hh hms e).2⟩ (fun k δ μ' hI=>?_) (fun k x hx δ μ' hI=>?_) fun δ μ' hI=>?_
 ·obtain⟨τ,y6,y7,y8,y9,y10,y11,y12,y13,_,_,_,e,_⟩:=hI
  exact e
 ·obtain⟨τ,y6,y7,y8,y9,y10,y11,y12,y13,rfl,rfl,hl,ep,hall⟩:=hI
  unfold b_law_1
  cases x with
  | dat d =>
   obtain⟨m,hm⟩:=hd_item hh hx
   cases hm
   walk_at "sx"
   have et:(B2.pl::τ).take (B2.pl::([]++σ)).length=B2.pl::τ:=List.take_of_length_le (by simp[hl])
   have hc2:c<(B2.pl::([]++σ)).length:=hcl
   exact⟨τ,none,none,none,none,none,none,none,none,by simp only[cut,DL.cutV,if_pos hc2];simp,et,hl,by rw[et];exact ep,by rw[et];exact hall⟩
  | loc c' =>
   obtain⟨⟨hn1,hn2⟩,_⟩:=hd_loc hh hms hx
   obtain⟨ys,hys⟩:=hall k c' hx
   walk_at "sx"
   refine l_isi (kd:=.b "list") (b:=true) (by unfold DL.kindOf;simp only[hys]) (by decide +kernel) ?_
   walk_at "sx"
   refine And.intro (tyL_loc hys) ?_
   refine l_clear hys ?_
   walk_at "sx"
   obtain⟨q,rfl⟩:∃ q,c'=q+1:=⟨c' - 1,by omega⟩
   have e1:(B2.pl::τ).set (q+1) (.lst [])=B2.pl::τ.set q (.lst []):=rfl
   rw[e1]
   have et:(B2.pl::τ.set q (.lst [])).take (B2.pl::([]++σ)).length=B2.pl::τ.set q (.lst []):=List.take_of_length_le (by simp[hl])
   have hc2:c<(B2.pl::([]++σ)).length:=hcl
   refine⟨τ.set q (.lst []),none,none,none,none,none,none,none,none,by simp only[cut,DL.cutV,if_pos hc2];simp,et,by simp[hl],?_,?_⟩
   ·rw[et,←e1,List.getElem?_set_ne hn1];exact ep
   ·rw[et,←e1]
    intro j c'' e
    by_cases ec:q+1=c''
    ·subst ec
     exact⟨[],List.getElem?_set_self (List.getElem?_eq_some_iff.mp hys).1⟩
    ·rw[List.getElem?_set_ne ec];exact hall j c'' e
 obtain⟨τ,y6,y7,y8,y9,y10,y11,y12,y13,rfl,rfl,hl,ep,hall⟩:=hI
 walk_at "sx"
 rcases hh.ty with rfl|rfl
 ·refine w_isiB (l_isi (kd:=.b "list") (b:=true) (by unfold DL.kindOf;simp only[ep]) (by decide +kernel) ?_)
  walk_at "sx"
  refine And.intro (tyL_loc ep) ?_
  refine l_clear ep ?_
  obtain⟨q,rfl⟩:∃ q,c=q+1:=⟨c-1,by omega⟩
  rw[show(B2.pl::τ).set (q+1) (.lst [])=B2.pl::τ.set q (.lst []) from rfl]
  repeat (first|(with_reducible refine tb_s hB2 hms fun B3 σ y4 y6 y7 y8 y9 y10 y11 y12 y13 hB3=>?_)|(walk_at "sx1"))
  exact h _ _ _ _ _ _ _ _ _ _ _ _ _ hB3
 ·refine l_isiTp ep (b:=false) (by decide +kernel) ?_
  repeat (first|(with_reducible refine tb_s hB2 hms fun B3 σ y4 y6 y7 y8 y9 y10 y11 y12 y13 hB3=>?_)|(walk_at "sx1"))
  exact h _ _ _ _ _ _ _ _ _ _ _ _ _ hB3
theorem law_sat (ns:List Int):Sat (F_law [.dat (.fro (ns.map D.int))] []) (fun r _=>r=.dat (.bl true)) (fun _ _=>False):=by
 with_reducible refine w_law ?_
 unfold g_law
 walk_at "sx"
 with_reducible refine bag_s ?_
 with_reducible refine r_nl (Nat.zero_le _) ?_
 walk_at "sx"
 refine And.intro ⟨by decide,by decide⟩ ?_
 refine for_inv (fun k δ μ'=>∃ B:Bg,B.ok∧δ=[some (.dat (.fro (ns.map D.int))),some (.loc 0),none,none,none,none,none,none,none,none,none,none,none,none]∧μ'=[B.pl]) ⟨bag0 ns,bag0_ok ns,rfl,rfl⟩ (fun k d hd δ μ' hI=>?_) fun δ μ' hI=>?_
 ·obtain⟨B,hB,rfl,rfl⟩:=hI
  refine⟨_,rfl,b6_s hB fun B3 σ y3 y4 y5 y6 y7 y8 y9 y10 y11 y12 y13 hB3=>?_⟩
  exact⟨B3,hB3,by simp[cut,DL.cutV],rfl⟩
 ·obtain⟨B,hB,rfl,rfl⟩:=hI
  walk_at "sx"
  exact e_dat rfl rfl
theorem law_true (ns:List Int):∃ μ',F_law [.dat (.fro (ns.map D.int))] []=.ok (.dat (.bl true)) μ':=by
 have h:=law_sat ns
 cases e:F_law [.dat (.fro (ns.map D.int))] [] with
 | ok r μ'=>rw[e] at h;exact⟨μ',by rw[show r=.dat (.bl true) from h]⟩
 | exc x μ'=>rw[e] at h;exact h.elim
 | bad=>rw[e] at h;exact h.elim
end
end K30
end
namespace K30
open PySem PySem.Spec PyProof.Rows L2 DL
theorem all_mk {l:PySem.W.OpenLaw} {w:World} {K:PySem.W.Frag} {h:Heap} {mg:Str→Option Value} {fa:Addr} (X:K.In h) (G:h.Ns mainGlobals mg) (hfa:mg "law"=some (.ref fa))
  {f0:Addr} {od0 an0:Option Addr} {sl0:Array (Option Value)} {oc0 kV0 dc0 pm0 cd0 ct0:Value}
  {f1:Addr} {od1 an1:Option Addr} {sl1:Array (Option Value)} {oc1 kV1 dc1 pm1 cd1 ct1:Value}
  {f2:Addr} {od2 an2:Option Addr} {sl2:Array (Option Value)} {oc2 kV2 dc2 pm2 cd2 ct2:Value}
  {f3:Addr} {od3 an3:Option Addr} {sl3:Array (Option Value)} {oc3 kV3 dc3 pm3 cd3 ct3:Value}
  {f4:Addr} {od4 an4:Option Addr} {sl4:Array (Option Value)} {oc4 kV4 dc4 pm4 cd4 ct4:Value}
  {f5:Addr} {od5 an5:Option Addr} {sl5:Array (Option Value)} {oc5 kV5 dc5 pm5 cd5 ct5:Value}
  {f6:Addr} {od6 an6:Option Addr} {sl6:Array (Option Value)} {oc6 kV6 dc6 pm6 cd6 ct6:Value}
  {f7:Addr} {od7 an7:Option Addr} {sl7:Array (Option Value)} {oc7 kV7 dc7 pm7 cd7 ct7:Value}
  {f8:Addr} {od8 an8:Option Addr} {sl8:Array (Option Value)} {oc8 kV8 dc8 pm8 cd8 ct8:Value}
  {f9:Addr} {od9 an9:Option Addr} {sl9:Array (Option Value)} {oc9 kV9 dc9 pm9 cd9 ct9:Value}
  {f10:Addr} {od10 an10:Option Addr} {sl10:Array (Option Value)} {oc10 kV10 dc10 pm10 cd10 ct10:Value}
  {f11:Addr} {od11 an11:Option Addr} {sl11:Array (Option Value)} {oc11 kV11 dc11 pm11 cd11 ct11:Value}
  {f12:Addr} {od12 an12:Option Addr} {sl12:Array (Option Value)} {oc12 kV12 dc12 pm12 cd12 ct12:Value}
  {f13:Addr} {od13 an13:Option Addr} {sl13:Array (Option Value)} {oc13 kV13 dc13 pm13 cd13 ct13:Value}
  {f14:Addr} {od14 an14:Option Addr} {sl14:Array (Option Value)} {oc14 kV14 dc14 pm14 cd14 ct14:Value}
  {f15:Addr} {od15 an15:Option Addr} {sl15:Array (Option Value)} {oc15 kV15 dc15 pm15 cd15 ct15:Value}
  {f16:Addr} {od16 an16:Option Addr} {sl16:Array (Option Value)} {oc16 kV16 dc16 pm16 cd16 ct16:Value}
  {f17:Addr} {od17 an17:Option Addr} {sl17:Array (Option Value)} {oc17 kV17 dc17 pm17 cd17 ct17:Value}
  {f18:Addr} {od18 an18:Option Addr} {sl18:Array (Option Value)} {oc18 kV18 dc18 pm18 cd18 ct18:Value}
  {f19:Addr} {od19 an19:Option Addr} {sl19:Array (Option Value)} {oc19 kV19 dc19 pm19 cd19 ct19:Value}
  {f20:Addr} {od20 an20:Option Addr} {sl20:Array (Option Value)} {oc20 kV20 dc20 pm20 cd20 ct20:Value}
  {f21:Addr} {od21 an21:Option Addr} {sl21:Array (Option Value)} {oc21 kV21 dc21 pm21 cd21 ct21:Value}
  {f22:Addr} {od22 an22:Option Addr} {sl22:Array (Option Value)} {oc22 kV22 dc22 pm22 cd22 ct22:Value}
  {f23:Addr} {od23 an23:Option Addr} {sl23:Array (Option Value)} {oc23 kV23 dc23 pm23 cd23 ct23:Value}
  {c_Counter:Addr}
  (q_Counter:PySem.W.nsIn K mainGlobals "Counter"=some (some (.ref c_Counter))) (pg_Counter:PySem.W.plainGet K c_Counter Str.empty=true) (hd_Counter:PySem.W.hasDictIn K c_Counter=true) (po_Counter:PySem.W.plainOver K c_Counter=true) (sa_Counter:PySem.W.findIn K (.ref c_Counter) "__setattr__"=some (some (.builtin "object.__setattr__"))) (cc_Counter:PySem.W.findIn K (.ref c_Counter) "__class__"=some (some (.builtin "object.__class__"))) (mo_Counter:PySem.W.mroIn K c_Counter (.type "object")=some true)
  (a0:PySem.W.findIn K (.ref c_Counter) "__eq__"=some (some (.ref f0))) (i0:PySem.W.isFn K (.ref f0)=true)
  (l0:K.lookup f0=some ⟨oc0,od0,.func (PySem.W.fnOf "__eq__" "Counter.__eq__" (defArgs s_Counter___eq__) (defBody s_Counter___eq__) (defScope s_Counter___eq__) .none kV0 dc0 pm0 an0 cd0 ct0),sl0⟩) (c0:PySem.W.codeIn K cd0 "Counter.__eq__"=true) (k0:PySem.W.keepIn K (.ref f0)=true)
  (a1:PySem.W.nsIn K mainGlobals "is_integer"=some (some (.ref f1)))
  (l1:K.lookup f1=some ⟨oc1,od1,.func (PySem.W.fnOf "is_integer" "is_integer" (defArgs s_is_integer) (defBody s_is_integer) (defScope s_is_integer) .none kV1 dc1 pm1 an1 cd1 ct1),sl1⟩) (c1:PySem.W.codeIn K cd1 "is_integer"=true) (k1:PySem.W.keepIn K (.ref f1)=true)
  (a2:PySem.W.nsIn K mainGlobals "is_number"=some (some (.ref f2)))
  (l2:K.lookup f2=some ⟨oc2,od2,.func (PySem.W.fnOf "is_number" "is_number" (defArgs s_is_number) (defBody s_is_number) (defScope s_is_number) .none kV2 dc2 pm2 an2 cd2 ct2),sl2⟩) (c2:PySem.W.codeIn K cd2 "is_number"=true) (k2:PySem.W.keepIn K (.ref f2)=true)
  (a3:PySem.W.nsIn K mainGlobals "is_mark"=some (some (.ref f3)))
  (l3:K.lookup f3=some ⟨oc3,od3,.func (PySem.W.fnOf "is_mark" "is_mark" (defArgs s_is_mark) (defBody s_is_mark) (defScope s_is_mark) .none kV3 dc3 pm3 an3 cd3 ct3),sl3⟩) (c3:PySem.W.codeIn K cd3 "is_mark"=true) (k3:PySem.W.keepIn K (.ref f3)=true)
  (a4:PySem.W.nsIn K mainGlobals "are_marks"=some (some (.ref f4)))
  (l4:K.lookup f4=some ⟨oc4,od4,.func (PySem.W.fnOf "are_marks" "are_marks" (defArgs s_are_marks) (defBody s_are_marks) (defScope s_are_marks) .none kV4 dc4 pm4 an4 cd4 ct4),sl4⟩) (c4:PySem.W.codeIn K cd4 "are_marks"=true) (k4:PySem.W.keepIn K (.ref f4)=true)
  (a5:PySem.W.findIn K (.ref c_Counter) "__init__"=some (some (.ref f5))) (i5:PySem.W.isFn K (.ref f5)=true)
  (l5:K.lookup f5=some ⟨oc5,od5,.func (PySem.W.fnOf "__init__" "Counter.__init__" (defArgs s_Counter___init__) (defBody s_Counter___init__) (defScope s_Counter___init__) .none kV5 dc5 pm5 an5 cd5 ct5),sl5⟩) (c5:PySem.W.codeIn K cd5 "Counter.__init__"=true) (k5:PySem.W.keepIn K (.ref f5)=true)
  (a6:PySem.W.nsIn K mainGlobals "_law_alike"=some (some (.ref f6)))
  (l6:K.lookup f6=some ⟨oc6,od6,.func (PySem.W.fnOf "_law_alike" "_law_alike" (defArgs s__law_alike) (defBody s__law_alike) (defScope s__law_alike) .none kV6 dc6 pm6 an6 cd6 ct6),sl6⟩) (c6:PySem.W.codeIn K cd6 "_law_alike"=true) (k6:PySem.W.keepIn K (.ref f6)=true)
  (a7:PySem.W.nsIn K mainGlobals "_law_bag"=some (some (.ref f7)))
  (l7:K.lookup f7=some ⟨oc7,od7,.func (PySem.W.fnOf "_law_bag" "_law_bag" (defArgs s__law_bag) (defBody s__law_bag) (defScope s__law_bag) .none kV7 dc7 pm7 an7 cd7 ct7),sl7⟩) (c7:PySem.W.codeIn K cd7 "_law_bag"=true) (k7:PySem.W.keepIn K (.ref f7)=true)
  (a8:PySem.W.nsIn K mainGlobals "_law_sticking"=some (some (.ref f8)))
  (l8:K.lookup f8=some ⟨oc8,od8,.func (PySem.W.fnOf "_law_sticking" "_law_sticking" (defArgs s__law_sticking) (defBody s__law_sticking) (defScope s__law_sticking) .none kV8 dc8 pm8 an8 cd8 ct8),sl8⟩) (c8:PySem.W.codeIn K cd8 "_law_sticking"=true) (k8:PySem.W.keepIn K (.ref f8)=true)
  (a9:PySem.W.nsIn K mainGlobals "_law_take"=some (some (.ref f9)))
  (l9:K.lookup f9=some ⟨oc9,od9,.func (PySem.W.fnOf "_law_take" "_law_take" (defArgs s__law_take) (defBody s__law_take) (defScope s__law_take) .none kV9 dc9 pm9 an9 cd9 ct9),sl9⟩) (c9:PySem.W.codeIn K cd9 "_law_take"=true) (k9:PySem.W.keepIn K (.ref f9)=true)
  (a10:PySem.W.nsIn K mainGlobals "_law_counter"=some (some (.ref f10)))
  (l10:K.lookup f10=some ⟨oc10,od10,.func (PySem.W.fnOf "_law_counter" "_law_counter" (defArgs s__law_counter) (defBody s__law_counter) (defScope s__law_counter) .none kV10 dc10 pm10 an10 cd10 ct10),sl10⟩) (c10:PySem.W.codeIn K cd10 "_law_counter"=true) (k10:PySem.W.keepIn K (.ref f10)=true)
  (a11:PySem.W.nsIn K mainGlobals "_law_handed"=some (some (.ref f11)))
  (l11:K.lookup f11=some ⟨oc11,od11,.func (PySem.W.fnOf "_law_handed" "_law_handed" (defArgs s__law_handed) (defBody s__law_handed) (defScope s__law_handed) .none kV11 dc11 pm11 an11 cd11 ct11),sl11⟩) (c11:PySem.W.codeIn K cd11 "_law_handed"=true) (k11:PySem.W.keepIn K (.ref f11)=true)
  (a12:PySem.W.findIn K (.ref c_Counter) "__len__"=some (some (.ref f12))) (i12:PySem.W.isFn K (.ref f12)=true)
  (l12:K.lookup f12=some ⟨oc12,od12,.func (PySem.W.fnOf "__len__" "Counter.__len__" (defArgs s_Counter___len__) (defBody s_Counter___len__) (defScope s_Counter___len__) .none kV12 dc12 pm12 an12 cd12 ct12),sl12⟩) (c12:PySem.W.codeIn K cd12 "Counter.__len__"=true) (k12:PySem.W.keepIn K (.ref f12)=true)
  (a13:PySem.W.findIn K (.ref c_Counter) "need_mark"=some (some (.ref f13))) (i13:PySem.W.isFn K (.ref f13)=true)
  (l13:K.lookup f13=some ⟨oc13,od13,.func (PySem.W.fnOf "need_mark" "Counter.need_mark" (defArgs s_Counter_need_mark) (defBody s_Counter_need_mark) (defScope s_Counter_need_mark) .none kV13 dc13 pm13 an13 cd13 ct13),sl13⟩) (c13:PySem.W.codeIn K cd13 "Counter.need_mark"=true) (k13:PySem.W.keepIn K (.ref f13)=true)
  (a14:PySem.W.findIn K (.ref c_Counter) "copies"=some (some (.ref f14))) (i14:PySem.W.isFn K (.ref f14)=true)
  (l14:K.lookup f14=some ⟨oc14,od14,.func (PySem.W.fnOf "copies" "Counter.copies" (defArgs s_Counter_copies) (defBody s_Counter_copies) (defScope s_Counter_copies) .none kV14 dc14 pm14 an14 cd14 ct14),sl14⟩) (c14:PySem.W.codeIn K cd14 "Counter.copies"=true) (k14:PySem.W.keepIn K (.ref f14)=true)
  (a15:PySem.W.findIn K (.ref c_Counter) "less"=some (some (.ref f15))) (i15:PySem.W.isFn K (.ref f15)=true)
  (l15:K.lookup f15=some ⟨oc15,od15,.func (PySem.W.fnOf "less" "Counter.less" (defArgs s_Counter_less) (defBody s_Counter_less) (defScope s_Counter_less) .none kV15 dc15 pm15 an15 cd15 ct15),sl15⟩) (c15:PySem.W.codeIn K cd15 "Counter.less"=true) (k15:PySem.W.keepIn K (.ref f15)=true)
  (a16:PySem.W.findIn K (.ref c_Counter) "marks"=some (some (.ref f16))) (i16:PySem.W.isFn K (.ref f16)=true)
  (l16:K.lookup f16=some ⟨oc16,od16,.func (PySem.W.fnOf "marks" "Counter.marks" (defArgs s_Counter_marks) (defBody s_Counter_marks) (defScope s_Counter_marks) .none kV16 dc16 pm16 an16 cd16 ct16),sl16⟩) (c16:PySem.W.codeIn K cd16 "Counter.marks"=true) (k16:PySem.W.keepIn K (.ref f16)=true)
  (a17:PySem.W.findIn K (.ref c_Counter) "more"=some (some (.ref f17))) (i17:PySem.W.isFn K (.ref f17)=true)
  (l17:K.lookup f17=some ⟨oc17,od17,.func (PySem.W.fnOf "more" "Counter.more" (defArgs s_Counter_more) (defBody s_Counter_more) (defScope s_Counter_more) .none kV17 dc17 pm17 an17 cd17 ct17),sl17⟩) (c17:PySem.W.codeIn K cd17 "Counter.more"=true) (k17:PySem.W.keepIn K (.ref f17)=true)
  (a18:PySem.W.findIn K (.ref c_Counter) "with_mark"=some (some (.ref f18))) (i18:PySem.W.isFn K (.ref f18)=true)
  (l18:K.lookup f18=some ⟨oc18,od18,.func (PySem.W.fnOf "with_mark" "Counter.with_mark" (defArgs s_Counter_with_mark) (defBody s_Counter_with_mark) (defScope s_Counter_with_mark) .none kV18 dc18 pm18 an18 cd18 ct18),sl18⟩) (c18:PySem.W.codeIn K cd18 "Counter.with_mark"=true) (k18:PySem.W.keepIn K (.ref f18)=true)
  (a19:PySem.W.nsIn K mainGlobals "_law_heard"=some (some (.ref f19)))
  (l19:K.lookup f19=some ⟨oc19,od19,.func (PySem.W.fnOf "_law_heard" "_law_heard" (defArgs s__law_heard) (defBody s__law_heard) (defScope s__law_heard) .none kV19 dc19 pm19 an19 cd19 ct19),sl19⟩) (c19:PySem.W.codeIn K cd19 "_law_heard"=true) (k19:PySem.W.keepIn K (.ref f19)=true)
  (a20:PySem.W.nsIn K mainGlobals "_law_near_counter"=some (some (.ref f20)))
  (l20:K.lookup f20=some ⟨oc20,od20,.func (PySem.W.fnOf "_law_near_counter" "_law_near_counter" (defArgs s__law_near_counter) (defBody s__law_near_counter) (defScope s__law_near_counter) .none kV20 dc20 pm20 an20 cd20 ct20),sl20⟩) (c20:PySem.W.codeIn K cd20 "_law_near_counter"=true) (k20:PySem.W.keepIn K (.ref f20)=true)
  (a21:PySem.W.nsIn K mainGlobals "_law_mixed"=some (some (.ref f21)))
  (l21:K.lookup f21=some ⟨oc21,od21,.func (PySem.W.fnOf "_law_mixed" "_law_mixed" (defArgs s__law_mixed) (defBody s__law_mixed) (defScope s__law_mixed) .none kV21 dc21 pm21 an21 cd21 ct21),sl21⟩) (c21:PySem.W.codeIn K cd21 "_law_mixed"=true) (k21:PySem.W.keepIn K (.ref f21)=true)
  (a22:PySem.W.nsIn K mainGlobals "_law_right"=some (some (.ref f22)))
  (l22:K.lookup f22=some ⟨oc22,od22,.func (PySem.W.fnOf "_law_right" "_law_right" (defArgs s__law_right) (defBody s__law_right) (defScope s__law_right) .none kV22 dc22 pm22 an22 cd22 ct22),sl22⟩) (c22:PySem.W.codeIn K cd22 "_law_right"=true) (k22:PySem.W.keepIn K (.ref f22)=true)
  (a23:PySem.W.nsIn K mainGlobals "law"=some (some (.ref f23)))
  (l23:K.lookup f23=some ⟨oc23,od23,.func (PySem.W.fnOf "law" "law" (defArgs s_law) (defBody s_law) (defScope s_law) .none kV23 dc23 pm23 an23 cd23 ct23),sl23⟩) (c23:PySem.W.codeIn K cd23 "law"=true) (k23:PySem.W.keepIn K (.ref f23)=true)
  (mk_Counter:PySem.W.makesIn K c_Counter=true) (kc_Counter:PySem.W.keepIn K (.ref c_Counter)=true)
  (z_abs:PySem.W.nsIn K mainGlobals "abs"=some none)
  (z_all:PySem.W.nsIn K mainGlobals "all"=some none)
  (z_bool:PySem.W.nsIn K mainGlobals "bool"=some none)
  (z_int:PySem.W.nsIn K mainGlobals "int"=some none)
  (z_isinstance:PySem.W.nsIn K mainGlobals "isinstance"=some none)
  (z_len:PySem.W.nsIn K mainGlobals "len"=some none)
  (z_list:PySem.W.nsIn K mainGlobals "list"=some none)
  (z_range:PySem.W.nsIn K mainGlobals "range"=some none)
  (z_repr:PySem.W.nsIn K mainGlobals "repr"=some none)
  (z_tuple:PySem.W.nsIn K mainGlobals "tuple"=some none)
  {tk_MOST_MARKS:Tok} (v_MOST_MARKS:PySem.W.nsIn K mainGlobals "MOST_MARKS"=some (some (.int 6 tk_MOST_MARKS)))
  (nf_Counter_its_marks:PySem.W.findIn K (.ref c_Counter) "its_marks"=some none)
  (nx_Counter:PySem.W.findIn K (.ref c_Counter) "__ne__"=some (some (.builtin "object.__ne__")))
  (ns_Counter_bool:PySem.W.subIn K (.ref c_Counter) (.type "bool")=some false)
  (ns_Counter_int:PySem.W.subIn K (.ref c_Counter) (.type "int")=some false)
  (ns_Counter_list:PySem.W.subIn K (.ref c_Counter) (.type "list")=some false)
  (ns_Counter_tuple:PySem.W.subIn K (.ref c_Counter) (.type "tuple")=some false)
  (ic_Counter:PySem.W.isClsIn K c_Counter=true) (tc_Counter:PySem.W.typeIn K (.ref c_Counter)=some (.type "type"))
  (nb_Counter_NoneType:PySem.W.subIn K (.type "NoneType") (.ref c_Counter)=some false)
  (nb_Counter_bool:PySem.W.subIn K (.type "bool") (.ref c_Counter)=some false)
  (nb_Counter_int:PySem.W.subIn K (.type "int") (.ref c_Counter)=some false)
  (nb_Counter_str:PySem.W.subIn K (.type "str") (.ref c_Counter)=some false)
  (nb_Counter_tuple:PySem.W.subIn K (.type "tuple") (.ref c_Counter)=some false)
  (nb_Counter_list:PySem.W.subIn K (.type "list") (.ref c_Counter)=some false)
  (nb_Counter_dict:PySem.W.subIn K (.type "dict") (.ref c_Counter)=some false)
  {c_CountError:Addr}
  {c_NoMark:Addr}
  {c_Wrong:Addr}
  (q_CountError:PySem.W.nsIn K mainGlobals "CountError"=some (some (.ref c_CountError)))
  (ga_CountError:PySem.W.findIn K (.ref c_CountError) "__getattribute__"=some (some (.builtin "BaseException.__getattribute__"))) (gg_CountError:PySem.W.findIn K (.ref c_CountError) "__getattr__"=some none) (exC_CountError:PySem.W.subIn K (.ref c_CountError) (.type "BaseException")=some true) (hdC_CountError:PySem.W.hasDictIn K c_CountError=true) (cc_CountError:PySem.W.findIn K (.ref c_CountError) "__class__"=some (some (.builtin "object.__class__"))) (mo_CountError:PySem.W.mroIn K c_CountError (.type "object")=some true) (iC_CountError:PySem.W.isClsIn K c_CountError=true) (tyC_CountError:PySem.W.typeIn K (.ref c_CountError)=some (.type "type"))
  (q_NoMark:PySem.W.nsIn K mainGlobals "NoMark"=some (some (.ref c_NoMark)))
  (ga_NoMark:PySem.W.findIn K (.ref c_NoMark) "__getattribute__"=some (some (.builtin "BaseException.__getattribute__"))) (gg_NoMark:PySem.W.findIn K (.ref c_NoMark) "__getattr__"=some none) (exC_NoMark:PySem.W.subIn K (.ref c_NoMark) (.type "BaseException")=some true) (hdC_NoMark:PySem.W.hasDictIn K c_NoMark=true) (cc_NoMark:PySem.W.findIn K (.ref c_NoMark) "__class__"=some (some (.builtin "object.__class__"))) (mo_NoMark:PySem.W.mroIn K c_NoMark (.type "object")=some true) (iC_NoMark:PySem.W.isClsIn K c_NoMark=true) (tyC_NoMark:PySem.W.typeIn K (.ref c_NoMark)=some (.type "type"))
  (noN_NoMark:PySem.W.findIn K (.ref c_NoMark) "number"=some none)
  (q_Wrong:PySem.W.nsIn K mainGlobals "Wrong"=some (some (.ref c_Wrong)))
  (ga_Wrong:PySem.W.findIn K (.ref c_Wrong) "__getattribute__"=some (some (.builtin "BaseException.__getattribute__"))) (gg_Wrong:PySem.W.findIn K (.ref c_Wrong) "__getattr__"=some none) (exC_Wrong:PySem.W.subIn K (.ref c_Wrong) (.type "BaseException")=some true) (hdC_Wrong:PySem.W.hasDictIn K c_Wrong=true) (cc_Wrong:PySem.W.findIn K (.ref c_Wrong) "__class__"=some (some (.builtin "object.__class__"))) (mo_Wrong:PySem.W.mroIn K c_Wrong (.type "object")=some true) (iC_Wrong:PySem.W.isClsIn K c_Wrong=true) (tyC_Wrong:PySem.W.typeIn K (.ref c_Wrong)=some (.type "type"))
  (noN_Wrong:PySem.W.findIn K (.ref c_Wrong) "place"=some none)
  (cls_sp:PySem.W.specialIn K (.builtin "object.__class__") "__get__"=some (some (.builtin "getset_descriptor.__get__"))) (cls_tk:PySem.W.takesIn K (.builtin "object.__class__")=some true)
  (op_any:PySem.W.nsIn K cStatics "thirdparty.any"=some none) (z_super:PySem.W.nsIn K mainGlobals "super"=some none) (top_s:(l.prog.main.scope.names.lookup ("super":Str)).isSome=false)
  {i_NoMark:Addr} {nmx_NoMark qx_NoMark:Str} {Nx_NoMark:Addr} {bsx_NoMark bmx_NoMark:List Value} {snx_NoMark:List Str} {sbx_NoMark:List Value} {abx_NoMark:Bool} {cox_NoMark:Option Bool} {ddx_NoMark:Option Addr} {k0x_NoMark k1x_NoMark k2x_NoMark k3x_NoMark k5x_NoMark:Option Value}
  {ocx_NoMark:Value} {odx_NoMark:Option Addr} {dcx_NoMark pmx_NoMark:Value} {anx_NoMark:Option Addr} {ctx_NoMark:Value} {slx_NoMark:Array (Option Value)} {qlx_NoMark:Str} {p1x_NoMark p2x_NoMark q1x_NoMark q2x_NoMark q3x_NoMark q4x_NoMark q5x_NoMark q6x_NoMark q7x_NoMark q8x_NoMark q9x_NoMark q10x_NoMark:Pos} {cdx_NoMark ccx_NoMark:Addr} {clx_NoMark cmx_NoMark:Value} {dex_NoMark dfx_NoMark:Option Addr} {vsx_NoMark:Array Value} {csx_NoMark ctl_NoMark:Array (Option Value)} {fix_NoMark:Str} {tfx_NoMark:Tok} {plx_NoMark:Sem Bool}
  (lk_NoMark:K.lookup c_NoMark=some (excClassObj nmx_NoMark qx_NoMark c_NoMark Nx_NoMark bsx_NoMark bmx_NoMark true snx_NoMark sbx_NoMark abx_NoMark cox_NoMark ddx_NoMark k0x_NoMark k1x_NoMark k2x_NoMark k3x_NoMark k5x_NoMark "ValueError.__new__"))
  (sa_NoMark:PySem.W.findIn K (.ref c_NoMark) "__setattr__"=some (some (.builtin "object.__setattr__"))) (in_NoMark:PySem.W.findIn K (.ref c_NoMark) "__init__"=some (some (.ref i_NoMark))) (tf_NoMark:PySem.W.typeIn K (.ref i_NoMark)=some (.type "function")) (kC_NoMark:PySem.W.keepIn K (.ref c_NoMark)=true) (exV_NoMark:PySem.W.subIn K (.ref c_NoMark) (.type "ValueError")=some true) (su_NoMark:PySem.W.ks_superIn K c_NoMark c_NoMark "__init__"=some (some (.builtin "ValueError.__init__"))) (mr_NoMark:PySem.W.mroIn K c_NoMark (.ref c_NoMark)=some true)
  (lfn_NoMark:K.lookup i_NoMark=some ⟨ocx_NoMark,odx_NoMark,.func (PySem.W.ksFn "__init__" qlx_NoMark (DX.eArgs "number" p1x_NoMark p2x_NoMark) (DX.eBody "number" q1x_NoMark q2x_NoMark q3x_NoMark q4x_NoMark q5x_NoMark q6x_NoMark q7x_NoMark q8x_NoMark q9x_NoMark q10x_NoMark) (DX.eScope "number") .none .none dcx_NoMark pmx_NoMark anx_NoMark (.ref cdx_NoMark) ctx_NoMark ccx_NoMark),slx_NoMark⟩)
  (cod_NoMark:PySem.W.codeIn K (.ref cdx_NoMark) qlx_NoMark=true) (lcd_NoMark:K.lookup cdx_NoMark=some ⟨clx_NoMark,dex_NoMark,.fields vsx_NoMark,csx_NoMark⟩) (lcc_NoMark:K.lookup ccx_NoMark=some ⟨cmx_NoMark,dfx_NoMark,.cell (some (.ref c_NoMark)),ctl_NoMark⟩)
  (rv_NoMark:PySem.HandSPX.refsVE bmx_NoMark=true) (v2_NoMark:vsx_NoMark[2]?=some (.str fix_NoMark tfx_NoMark)) (fl_NoMark:((l.prog.main.file:Str)==fix_NoMark)=true)
  (ev_NoMark:∀ env:PySem.Env,eval (.Call (.Attribute (.Call (.Name "super" q1x_NoMark) [] [] q2x_NoMark) "__init__" q3x_NoMark) [.Name "number" q4x_NoMark] [] q5x_NoMark) env=(do
   let ov ←attributeBase (.Call (.Name "super" q1x_NoMark) [] [] q2x_NoMark) "__init__" env (eval (.Call (.Name "super" q1x_NoMark) [] [] q2x_NoMark) env)
   standAt q3x_NoMark.atName
   let (f1,first) ←holding [ov] (getMethod ov "__init__" plx_NoMark)
   callWith q5x_NoMark f1 first (backTo q5x_NoMark (starEach [.Name "number" q4x_NoMark] env)) []))
  (s1_NoMark:∀ env:PySem.Env,swapsWith (.Call (.Attribute (.Call (.Name "super" q1x_NoMark) [] [] q2x_NoMark) "__init__" q3x_NoMark) [.Name "number" q4x_NoMark] [] q5x_NoMark) none q6x_NoMark.line env=pure false) (s2_NoMark:∀ env:PySem.Env,swapsWith (.Name "number" q9x_NoMark) (some (.Attribute (.Name "self" q7x_NoMark) "number" q8x_NoMark)) q10x_NoMark.line env=pure false)
  {i_Wrong:Addr} {nmx_Wrong qx_Wrong:Str} {Nx_Wrong:Addr} {bsx_Wrong bmx_Wrong:List Value} {snx_Wrong:List Str} {sbx_Wrong:List Value} {abx_Wrong:Bool} {cox_Wrong:Option Bool} {ddx_Wrong:Option Addr} {k0x_Wrong k1x_Wrong k2x_Wrong k3x_Wrong k5x_Wrong:Option Value}
  {ocx_Wrong:Value} {odx_Wrong:Option Addr} {dcx_Wrong pmx_Wrong:Value} {anx_Wrong:Option Addr} {ctx_Wrong:Value} {slx_Wrong:Array (Option Value)} {qlx_Wrong:Str} {p1x_Wrong p2x_Wrong q1x_Wrong q2x_Wrong q3x_Wrong q4x_Wrong q5x_Wrong q6x_Wrong q7x_Wrong q8x_Wrong q9x_Wrong q10x_Wrong:Pos} {cdx_Wrong ccx_Wrong:Addr} {clx_Wrong cmx_Wrong:Value} {dex_Wrong dfx_Wrong:Option Addr} {vsx_Wrong:Array Value} {csx_Wrong ctl_Wrong:Array (Option Value)} {fix_Wrong:Str} {tfx_Wrong:Tok} {plx_Wrong:Sem Bool}
  (lk_Wrong:K.lookup c_Wrong=some (excClassObj nmx_Wrong qx_Wrong c_Wrong Nx_Wrong bsx_Wrong bmx_Wrong true snx_Wrong sbx_Wrong abx_Wrong cox_Wrong ddx_Wrong k0x_Wrong k1x_Wrong k2x_Wrong k3x_Wrong k5x_Wrong "ValueError.__new__"))
  (sa_Wrong:PySem.W.findIn K (.ref c_Wrong) "__setattr__"=some (some (.builtin "object.__setattr__"))) (in_Wrong:PySem.W.findIn K (.ref c_Wrong) "__init__"=some (some (.ref i_Wrong))) (tf_Wrong:PySem.W.typeIn K (.ref i_Wrong)=some (.type "function")) (kC_Wrong:PySem.W.keepIn K (.ref c_Wrong)=true) (exV_Wrong:PySem.W.subIn K (.ref c_Wrong) (.type "ValueError")=some true) (su_Wrong:PySem.W.ks_superIn K c_Wrong c_Wrong "__init__"=some (some (.builtin "ValueError.__init__"))) (mr_Wrong:PySem.W.mroIn K c_Wrong (.ref c_Wrong)=some true)
  (lfn_Wrong:K.lookup i_Wrong=some ⟨ocx_Wrong,odx_Wrong,.func (PySem.W.ksFn "__init__" qlx_Wrong (DX.eArgs "place" p1x_Wrong p2x_Wrong) (DX.eBody "place" q1x_Wrong q2x_Wrong q3x_Wrong q4x_Wrong q5x_Wrong q6x_Wrong q7x_Wrong q8x_Wrong q9x_Wrong q10x_Wrong) (DX.eScope "place") .none .none dcx_Wrong pmx_Wrong anx_Wrong (.ref cdx_Wrong) ctx_Wrong ccx_Wrong),slx_Wrong⟩)
  (cod_Wrong:PySem.W.codeIn K (.ref cdx_Wrong) qlx_Wrong=true) (lcd_Wrong:K.lookup cdx_Wrong=some ⟨clx_Wrong,dex_Wrong,.fields vsx_Wrong,csx_Wrong⟩) (lcc_Wrong:K.lookup ccx_Wrong=some ⟨cmx_Wrong,dfx_Wrong,.cell (some (.ref c_Wrong)),ctl_Wrong⟩)
  (rv_Wrong:PySem.HandSPX.refsVE bmx_Wrong=true) (v2_Wrong:vsx_Wrong[2]?=some (.str fix_Wrong tfx_Wrong)) (fl_Wrong:((l.prog.main.file:Str)==fix_Wrong)=true)
  (ev_Wrong:∀ env:PySem.Env,eval (.Call (.Attribute (.Call (.Name "super" q1x_Wrong) [] [] q2x_Wrong) "__init__" q3x_Wrong) [.Name "place" q4x_Wrong] [] q5x_Wrong) env=(do
   let ov ←attributeBase (.Call (.Name "super" q1x_Wrong) [] [] q2x_Wrong) "__init__" env (eval (.Call (.Name "super" q1x_Wrong) [] [] q2x_Wrong) env)
   standAt q3x_Wrong.atName
   let (f1,first) ←holding [ov] (getMethod ov "__init__" plx_Wrong)
   callWith q5x_Wrong f1 first (backTo q5x_Wrong (starEach [.Name "place" q4x_Wrong] env)) []))
  (s1_Wrong:∀ env:PySem.Env,swapsWith (.Call (.Attribute (.Call (.Name "super" q1x_Wrong) [] [] q2x_Wrong) "__init__" q3x_Wrong) [.Name "place" q4x_Wrong] [] q5x_Wrong) none q6x_Wrong.line env=pure false) (s2_Wrong:∀ env:PySem.Env,swapsWith (.Name "place" q9x_Wrong) (some (.Attribute (.Name "self" q7x_Wrong) "place" q8x_Wrong)) q10x_Wrong.line env=pure false)
  (sb_NoMark_CountError:PySem.W.subIn K (.ref c_NoMark) (.ref c_CountError)=some true)
  (sb_Wrong_CountError:PySem.W.subIn K (.ref c_Wrong) (.ref c_CountError)=some true)
  (no_Wrong_NoMark:PySem.W.subIn K (.ref c_Wrong) (.ref c_NoMark)=some false) (ne_Wrong_NoMark:(c_Wrong==c_NoMark)=false)
  (no_NoMark_Wrong:PySem.W.subIn K (.ref c_NoMark) (.ref c_Wrong)=some false) (ne_NoMark_Wrong:(c_NoMark==c_Wrong)=false)
  : ∃ fd:FuncData,(∀ (s:Shared) (v:Value),BindsTo s fd ⟨[v],[]⟩ [("_law_script",v)])∧∀ base:Heap,K.In base→base.Ns mainGlobals mg→FnG l.prog w K mg base CX0 10 fa fd ["_law_script"] (spF K 1 F_law):=by
 have e:=hfa.symm.trans (PySem.W.mg_of X G a23)
 cases e
 have cl_Counter:Cls K c_Counter:=⟨pg_Counter,hd_Counter,po_Counter,sa_Counter⟩
 have ty_Counter:ClsTy K "Counter":=⟨c_Counter,q_Counter,cl_Counter,cc_Counter,mo_Counter⟩
 have er_NoMark:DX.ErrTxt l.prog K mg "NoMark" "number" c_NoMark i_NoMark:=DX.errTxt_mk (PySem.W.mg_of X G q_NoMark) lk_NoMark sa_NoMark ga_NoMark gg_NoMark noN_NoMark in_NoMark tf_NoMark kC_NoMark exC_NoMark exV_NoMark tyC_NoMark hdC_NoMark su_NoMark mr_NoMark op_any (PySem.W.mg_none_of X G z_super) lfn_NoMark cod_NoMark lcd_NoMark lcc_NoMark rv_NoMark top_s (by decide) (by decide) rfl rfl rfl (fun _ _ _ _ _ _ _ _ _ _ _ _=>rfl) v2_NoMark fl_NoMark ev_NoMark s1_NoMark s2_NoMark
 have er_Wrong:DX.ErrTxt l.prog K mg "Wrong" "place" c_Wrong i_Wrong:=DX.errTxt_mk (PySem.W.mg_of X G q_Wrong) lk_Wrong sa_Wrong ga_Wrong gg_Wrong noN_Wrong in_Wrong tf_Wrong kC_Wrong exC_Wrong exV_Wrong tyC_Wrong hdC_Wrong su_Wrong mr_Wrong op_any (PySem.W.mg_none_of X G z_super) lfn_Wrong cod_Wrong lcd_Wrong lcc_Wrong rv_Wrong top_s (by decide) (by decide) rfl rfl rfl (fun _ _ _ _ _ _ _ _ _ _ _ _=>rfl) v2_Wrong fl_Wrong ev_Wrong s1_Wrong s2_Wrong
 have t4:∀ nm∈(["Counter"]:List Str),FldOk K nm "its_marks":=(fun _ h=>by
   simp only[List.mem_cons,List.not_mem_nil,or_false] at h
   subst h
   ·exact⟨c_Counter,q_Counter,cl_Counter,nf_Counter_its_marks⟩)
 have t5:TabOk K (tabC "Counter" []) (fun t b=>PySem.W.kitOne K t (.ref c_Counter)=some b):=tabC_ok q_Counter ty_Counter (fun _ h=>by
   simp only[List.mem_cons,List.not_mem_nil,or_false] at h
   rcases h with rfl|rfl|rfl|rfl|rfl|rfl|rfl
   ·exact kit_noB ic_Counter tc_Counter nb_Counter_NoneType
   ·exact kit_noB ic_Counter tc_Counter nb_Counter_bool
   ·exact kit_noB ic_Counter tc_Counter nb_Counter_int
   ·exact kit_noB ic_Counter tc_Counter nb_Counter_str
   ·exact kit_noB ic_Counter tc_Counter nb_Counter_tuple
   ·exact kit_noB ic_Counter tc_Counter nb_Counter_list
   ·exact kit_noB ic_Counter tc_Counter nb_Counter_dict) (fun _ h=>nomatch h)
 have t8:TabOk K (tabT "bool" ["Counter"]) (fun t b=>PySem.W.kitOne K t (.type "bool")=some b):=tabT_ok (fun _ h=>by
   simp only[List.mem_cons,List.not_mem_nil,or_false] at h
   subst h
   ·exact⟨ty_Counter,c_Counter,q_Counter,kit_noT ns_Counter_bool (by decide +kernel)⟩)
 have t9:TabOk K (tabT "int" ["Counter"]) (fun t b=>PySem.W.kitOne K t (.type "int")=some b):=tabT_ok (fun _ h=>by
   simp only[List.mem_cons,List.not_mem_nil,or_false] at h
   subst h
   ·exact⟨ty_Counter,c_Counter,q_Counter,kit_noT ns_Counter_int (by decide +kernel)⟩)
 have t10:TabOk K (tabT "list" ["Counter"]) (fun t b=>PySem.W.kitOne K t (.type "list")=some b):=tabT_ok (fun _ h=>by
   simp only[List.mem_cons,List.not_mem_nil,or_false] at h
   subst h
   ·exact⟨ty_Counter,c_Counter,q_Counter,kit_noT ns_Counter_list (by decide +kernel)⟩)
 have t11:TabOk K (tabT2 "list" "tuple" ["Counter"]) (fun t b=>PySem.W.kitAny K t [.type "list",.type "tuple"]=some b):=tabT2_ok (fun _ h=>by
   simp only[List.mem_cons,List.not_mem_nil,or_false] at h
   subst h
   ·exact⟨ty_Counter,⟨c_Counter,q_Counter,kit_noT ns_Counter_list (by decide +kernel)⟩,⟨c_Counter,q_Counter,kit_noT ns_Counter_tuple (by decide +kernel)⟩⟩)
 have t12:NoNe K c_Counter:=⟨nx_Counter,mo_Counter⟩
 have T:Tx l.prog w K mg c_Counter c_CountError c_NoMark c_Wrong i_NoMark i_Wrong:=⟨PySem.W.mg_none_of X G z_abs,PySem.W.mg_none_of X G z_all,PySem.W.mg_none_of X G z_bool,PySem.W.mg_none_of X G z_int,PySem.W.mg_none_of X G z_isinstance,PySem.W.mg_none_of X G z_len,PySem.W.mg_none_of X G z_list,PySem.W.mg_none_of X G z_range,PySem.W.mg_none_of X G z_repr,PySem.W.mg_none_of X G z_tuple,⟨tk_MOST_MARKS,PySem.W.mg_of X G v_MOST_MARKS⟩,PySem.W.mg_of X G q_Counter,q_Counter,PySem.W.mg_of X G q_CountError,q_CountError,PySem.W.mg_of X G q_NoMark,q_NoMark,PySem.W.mg_of X G q_Wrong,q_Wrong,(catOk_cons q_NoMark (PySem.W.exm_ref exC_CountError hdC_CountError tyC_CountError sb_NoMark_CountError) (catOk_cons q_Wrong (PySem.W.exm_ref exC_CountError hdC_CountError tyC_CountError sb_Wrong_CountError) catOk_nil)),er_NoMark,er_Wrong,(tabE_cons q_NoMark ⟨ga_NoMark,gg_NoMark,exC_NoMark,hdC_NoMark,cc_NoMark,cls_sp,cls_tk,mo_NoMark⟩ kit_same (tabE_cons q_Wrong ⟨ga_Wrong,gg_Wrong,exC_Wrong,hdC_Wrong,cc_Wrong,cls_sp,cls_tk,mo_Wrong⟩ (kit_noO iC_NoMark tyC_NoMark ne_Wrong_NoMark no_Wrong_NoMark) tabE_nil)),(tabE_cons q_NoMark ⟨ga_NoMark,gg_NoMark,exC_NoMark,hdC_NoMark,cc_NoMark,cls_sp,cls_tk,mo_NoMark⟩ (kit_noO iC_Wrong tyC_Wrong ne_NoMark_Wrong no_NoMark_Wrong) (tabE_cons q_Wrong ⟨ga_Wrong,gg_Wrong,exC_Wrong,hdC_Wrong,cc_Wrong,cls_sp,cls_tk,mo_Wrong⟩ kit_same tabE_nil)),⟨ga_NoMark,gg_NoMark,exC_NoMark,hdC_NoMark⟩,noN_NoMark,⟨ga_Wrong,gg_Wrong,exC_Wrong,hdC_Wrong⟩,noN_Wrong,t4,t5,t8,t9,t10,t11,t12⟩
 refine⟨PySem.W.fnOf "law" "law" (defArgs s_law) (defBody s_law) (defScope s_law) .none kV23 dc23 pm23 an23 cd23 ct23,fun s v=>.of_eq rfl,fun base _ _=>?_⟩
 have C_Counter___eq__:=ok_Counter___eq__ (P:=l.prog) (w:=w) (base:=base) (fun_mk (st:=s_Counter___eq__) l0 c0 k0) cl_Counter ⟨a0,i0,k0⟩ T
 have C_is_integer:=ok_is_integer (P:=l.prog) (w:=w) (base:=base) (fun_mk (st:=s_is_integer) l1 c1 k1) (PySem.W.mg_of X G a1) T
 have C_is_number:=ok_is_number (P:=l.prog) (w:=w) (base:=base) (fun_mk (st:=s_is_number) l2 c2 k2) (PySem.W.mg_of X G a2) T C_is_integer
 have C_is_mark:=ok_is_mark (P:=l.prog) (w:=w) (base:=base) (fun_mk (st:=s_is_mark) l3 c3 k3) (PySem.W.mg_of X G a3) T C_is_number
 have C_are_marks:=ok_are_marks (P:=l.prog) (w:=w) (base:=base) (fun_mk (st:=s_are_marks) l4 c4 k4) (PySem.W.mg_of X G a4) T C_is_mark
 have C_Counter___init__:=ok_Counter___init__ (P:=l.prog) (w:=w) (base:=base) (fun_mk (st:=s_Counter___init__) l5 c5 k5) ⟨mk_Counter,a5,i5,kc_Counter⟩ T C_are_marks
 have C__law_alike:=ok__law_alike (P:=l.prog) (w:=w) (base:=base) (fun_mk (st:=s__law_alike) l6 c6 k6) (PySem.W.mg_of X G a6) T
 have C__law_bag:=ok__law_bag (P:=l.prog) (w:=w) (base:=base) (fun_mk (st:=s__law_bag) l7 c7 k7) (PySem.W.mg_of X G a7) T
 have C__law_sticking:=ok__law_sticking (P:=l.prog) (w:=w) (base:=base) (fun_mk (st:=s__law_sticking) l8 c8 k8) (PySem.W.mg_of X G a8) T
 have C__law_take:=ok__law_take (P:=l.prog) (w:=w) (base:=base) (fun_mk (st:=s__law_take) l9 c9 k9) (PySem.W.mg_of X G a9) T
 have C__law_counter:=ok__law_counter (P:=l.prog) (w:=w) (base:=base) (fun_mk (st:=s__law_counter) l10 c10 k10) (PySem.W.mg_of X G a10) T C__law_sticking C__law_take
 have C__law_handed:=ok__law_handed (P:=l.prog) (w:=w) (base:=base) (fun_mk (st:=s__law_handed) l11 c11 k11) (PySem.W.mg_of X G a11) T C__law_take
 have C_Counter___len__:=ok_Counter___len__ (P:=l.prog) (w:=w) (base:=base) (fun_mk (st:=s_Counter___len__) l12 c12 k12) cl_Counter ⟨a12,i12,k12⟩ T
 have C_Counter_need_mark:=ok_Counter_need_mark (P:=l.prog) (w:=w) (base:=base) (fun_mk (st:=s_Counter_need_mark) l13 c13 k13) cl_Counter ⟨a13,i13,k13⟩ T C_Counter___len__ C_is_number
 have C_Counter_copies:=ok_Counter_copies (P:=l.prog) (w:=w) (base:=base) (fun_mk (st:=s_Counter_copies) l14 c14 k14) cl_Counter ⟨a14,i14,k14⟩ T C_Counter_need_mark
 have C_Counter_less:=ok_Counter_less (P:=l.prog) (w:=w) (base:=base) (fun_mk (st:=s_Counter_less) l15 c15 k15) cl_Counter ⟨a15,i15,k15⟩ T C_Counter_need_mark
 have C_Counter_marks:=ok_Counter_marks (P:=l.prog) (w:=w) (base:=base) (fun_mk (st:=s_Counter_marks) l16 c16 k16) cl_Counter ⟨a16,i16,k16⟩ T
 have C_Counter_more:=ok_Counter_more (P:=l.prog) (w:=w) (base:=base) (fun_mk (st:=s_Counter_more) l17 c17 k17) cl_Counter ⟨a17,i17,k17⟩ T C_Counter_need_mark
 have C_Counter_with_mark:=ok_Counter_with_mark (P:=l.prog) (w:=w) (base:=base) (fun_mk (st:=s_Counter_with_mark) l18 c18 k18) cl_Counter ⟨a18,i18,k18⟩ T C_Counter___init__ C_Counter___len__ C_Counter_need_mark C_is_mark
 have C__law_heard:=ok__law_heard (P:=l.prog) (w:=w) (base:=base) (fun_mk (st:=s__law_heard) l19 c19 k19) (PySem.W.mg_of X G a19) T C_Counter_copies C_Counter_less C_Counter_marks C_Counter_more C_Counter_with_mark
 have C__law_near_counter:=ok__law_near_counter (P:=l.prog) (w:=w) (base:=base) (fun_mk (st:=s__law_near_counter) l20 c20 k20) (PySem.W.mg_of X G a20) T C__law_take
 have C__law_mixed:=ok__law_mixed (P:=l.prog) (w:=w) (base:=base) (fun_mk (st:=s__law_mixed) l21 c21 k21) (PySem.W.mg_of X G a21) T C__law_take
 have C__law_right:=ok__law_right (P:=l.prog) (w:=w) (base:=base) (fun_mk (st:=s__law_right) l22 c22 k22) (PySem.W.mg_of X G a22) T C_Counter___eq__ C_Counter___init__ C_Counter___len__ C_Counter_copies C_Counter_less C_Counter_marks C_Counter_more C_Counter_with_mark C__law_alike C__law_heard C__law_mixed C__law_take
 exact ok_law (fun_mk (st:=s_law) l23 c23 k23) T C_Counter___eq__ C_Counter___init__ C__law_alike C__law_bag C__law_counter C__law_handed C__law_heard C__law_near_counter C__law_right
end K30
open PySem PySem.W PyProof.Rows
set_option maxHeartbeats 0 in
theorem PySem.Challenge.cw_smallcount_k30_counters_told_holds : PySem.Challenge.rw_smallcount_k30_counters_told.Holds := by
 refine K30HD.hd ?_
 k_fill
 refine DL.walk_ofG (l:=PySem.Challenge.rw_smallcount_k30_counters_told) (n:=63) (k:=10) (x:="_law_script") (cx:=fun _=>L2.CX0) (sp:=fun w=>DL.spF _ 1 K30.F_law) rfl (by decide) rfl ⟨rfl,by decide,by decide⟩ (fun w h Y=>PySem.W.kIn_of Y) ?F (fun _ _ a ns _ _ hS=>let ⟨_,h⟩:=K30.law_true ns;DL.law_sp hS h) (fun _ _ _ _ _ h=>h)
 case F =>
  intro w mg fa h KX G hmg
  refine' K30.all_mk KX G hmg ?q_Counter ?pg_Counter ?hd_Counter ?po_Counter ?sa_Counter ?cc_Counter ?mo_Counter ?a0 ?i0 ?l0 ?c0 ?k0 ?a1 ?l1 ?c1 ?k1 ?a2 ?l2 ?c2 ?k2 ?a3 ?l3 ?c3 ?k3 ?a4 ?l4 ?c4 ?k4 ?a5 ?i5 ?l5 ?c5 ?k5 ?a6 ?l6 ?c6 ?k6 ?a7 ?l7 ?c7 ?k7 ?a8 ?l8 ?c8 ?k8 ?a9 ?l9 ?c9 ?k9 ?a10 ?l10 ?c10 ?k10 ?a11 ?l11 ?c11 ?k11 ?a12 ?i12 ?l12 ?c12 ?k12 ?a13 ?i13 ?l13 ?c13 ?k13 ?a14 ?i14 ?l14 ?c14 ?k14 ?a15 ?i15 ?l15 ?c15 ?k15 ?a16 ?i16 ?l16 ?c16 ?k16 ?a17 ?i17 ?l17 ?c17 ?k17 ?a18 ?i18 ?l18 ?c18 ?k18 ?a19 ?l19 ?c19 ?k19 ?a20 ?l20 ?c20 ?k20 ?a21 ?l21 ?c21 ?k21 ?a22 ?l22 ?c22 ?k22 ?a23 ?l23 ?c23 ?k23 ?mk_Counter ?kc_Counter ?z_abs ?z_all ?z_bool ?z_int ?z_isinstance ?z_len ?z_list ?z_range ?z_repr ?z_tuple ?v_MOST_MARKS ?nf_Counter_its_marks ?nx_Counter ?ns_Counter_bool ?ns_Counter_int ?ns_Counter_list ?ns_Counter_tuple ?ic_Counter ?tc_Counter ?nb_Counter_NoneType ?nb_Counter_bool ?nb_Counter_int ?nb_Counter_str ?nb_Counter_tuple ?nb_Counter_list ?nb_Counter_dict ?q_CountError ?ga_CountError ?gg_CountError ?exC_CountError ?hdC_CountError ?cc_CountError ?mo_CountError ?iC_CountError ?tyC_CountError ?q_NoMark ?ga_NoMark ?gg_NoMark ?exC_NoMark ?hdC_NoMark ?cc_NoMark ?mo_NoMark ?iC_NoMark ?tyC_NoMark ?noN_NoMark ?q_Wrong ?ga_Wrong ?gg_Wrong ?exC_Wrong ?hdC_Wrong ?cc_Wrong ?mo_Wrong ?iC_Wrong ?tyC_Wrong ?noN_Wrong ?cls_sp ?cls_tk ?op_any ?z_super ?top_s ?lk_NoMark ?sa_NoMark ?in_NoMark ?tf_NoMark ?kC_NoMark ?exV_NoMark ?su_NoMark ?mr_NoMark ?lfn_NoMark ?cod_NoMark ?lcd_NoMark ?lcc_NoMark ?rv_NoMark ?v2_NoMark ?fl_NoMark ?ev_NoMark ?s1_NoMark ?s2_NoMark ?lk_Wrong ?sa_Wrong ?in_Wrong ?tf_Wrong ?kC_Wrong ?exV_Wrong ?su_Wrong ?mr_Wrong ?lfn_Wrong ?cod_Wrong ?lcd_Wrong ?lcc_Wrong ?rv_Wrong ?v2_Wrong ?fl_Wrong ?ev_Wrong ?s1_Wrong ?s2_Wrong ?sb_NoMark_CountError ?sb_Wrong_CountError ?no_Wrong_NoMark ?ne_Wrong_NoMark ?no_NoMark_Wrong ?ne_NoMark_Wrong
  (case q_Counter=>k_is)
  (case pg_Counter=>k_is)
  (case hd_Counter=>k_is)
  (case po_Counter=>k_is)
  (case sa_Counter=>k_is)
  (case cc_Counter=>k_is)
  (case mo_Counter=>k_is)
  (case a0=>k_is)
  (case i0=>k_is)
  (case l0=>k_is)
  (case c0=>k_is)
  (case k0=>k_is)
  (case a1=>k_is)
  (case l1=>k_is)
  (case c1=>k_is)
  (case k1=>k_is)
  (case a2=>k_is)
  (case l2=>k_is)
  (case c2=>k_is)
  (case k2=>k_is)
  (case a3=>k_is)
  (case l3=>k_is)
  (case c3=>k_is)
  (case k3=>k_is)
  (case a4=>k_is)
  (case l4=>k_is)
  (case c4=>k_is)
  (case k4=>k_is)
  (case a5=>k_is)
  (case i5=>k_is)
  (case l5=>k_is)
  (case c5=>k_is)
  (case k5=>k_is)
  (case a6=>k_is)
  (case l6=>k_is)
  (case c6=>k_is)
  (case k6=>k_is)
  (case a7=>k_is)
  (case l7=>k_is)
  (case c7=>k_is)
  (case k7=>k_is)
  (case a8=>k_is)
  (case l8=>k_is)
  (case c8=>k_is)
  (case k8=>k_is)
  (case a9=>k_is)
  (case l9=>k_is)
  (case c9=>k_is)
  (case k9=>k_is)
  (case a10=>k_is)
  (case l10=>k_is)
  (case c10=>k_is)
  (case k10=>k_is)
  (case a11=>k_is)
  (case l11=>k_is)
  (case c11=>k_is)
  (case k11=>k_is)
  (case a12=>k_is)
  (case i12=>k_is)
  (case l12=>k_is)
  (case c12=>k_is)
  (case k12=>k_is)
  (case a13=>k_is)
  (case i13=>k_is)
  (case l13=>k_is)
  (case c13=>k_is)
  (case k13=>k_is)
  (case a14=>k_is)
  (case i14=>k_is)
  (case l14=>k_is)
  (case c14=>k_is)
  (case k14=>k_is)
  (case a15=>k_is)
  (case i15=>k_is)
  (case l15=>k_is)
  (case c15=>k_is)
  (case k15=>k_is)
  (case a16=>k_is)
  (case i16=>k_is)
  (case l16=>k_is)
  (case c16=>k_is)
  (case k16=>k_is)
  (case a17=>k_is)
  (case i17=>k_is)
  (case l17=>k_is)
  (case c17=>k_is)
  (case k17=>k_is)
  (case a18=>k_is)
  (case i18=>k_is)
  (case l18=>k_is)
  (case c18=>k_is)
  (case k18=>k_is)
  (case a19=>k_is)
  (case l19=>k_is)
  (case c19=>k_is)
  (case k19=>k_is)
  (case a20=>k_is)
  (case l20=>k_is)
  (case c20=>k_is)
  (case k20=>k_is)
  (case a21=>k_is)
  (case l21=>k_is)
  (case c21=>k_is)
  (case k21=>k_is)
  (case a22=>k_is)
  (case l22=>k_is)
  (case c22=>k_is)
  (case k22=>k_is)
  (case a23=>k_is)
  (case l23=>k_is)
  (case c23=>k_is)
  (case k23=>k_is)
  (case mk_Counter=>k_is)
  (case kc_Counter=>k_is)
  (case z_abs=>k_is)
  (case z_all=>k_is)
  (case z_bool=>k_is)
  (case z_int=>k_is)
  (case z_isinstance=>k_is)
  (case z_len=>k_is)
  (case z_list=>k_is)
  (case z_range=>k_is)
  (case z_repr=>k_is)
  (case z_tuple=>k_is)
  (case v_MOST_MARKS=>k_is)
  (case nf_Counter_its_marks=>k_is)
  (case nx_Counter=>k_is)
  (case ns_Counter_bool=>k_is)
  (case ns_Counter_int=>k_is)
  (case ns_Counter_list=>k_is)
  (case ns_Counter_tuple=>k_is)
  (case ic_Counter=>k_is)
  (case tc_Counter=>k_is)
  (case nb_Counter_NoneType=>k_is)
  (case nb_Counter_bool=>k_is)
  (case nb_Counter_int=>k_is)
  (case nb_Counter_str=>k_is)
  (case nb_Counter_tuple=>k_is)
  (case nb_Counter_list=>k_is)
  (case nb_Counter_dict=>k_is)
  (case q_CountError=>k_is)
  (case ga_CountError=>k_is)
  (case gg_CountError=>k_is)
  (case exC_CountError=>k_is)
  (case hdC_CountError=>k_is)
  (case cc_CountError=>k_is)
  (case mo_CountError=>k_is)
  (case iC_CountError=>k_is)
  (case tyC_CountError=>k_is)
  (case q_NoMark=>k_is)
  (case ga_NoMark=>k_is)
  (case gg_NoMark=>k_is)
  (case exC_NoMark=>k_is)
  (case hdC_NoMark=>k_is)
  (case cc_NoMark=>k_is)
  (case mo_NoMark=>k_is)
  (case iC_NoMark=>k_is)
  (case tyC_NoMark=>k_is)
  (case noN_NoMark=>k_is)
  (case q_Wrong=>k_is)
  (case ga_Wrong=>k_is)
  (case gg_Wrong=>k_is)
  (case exC_Wrong=>k_is)
  (case hdC_Wrong=>k_is)
  (case cc_Wrong=>k_is)
  (case mo_Wrong=>k_is)
  (case iC_Wrong=>k_is)
  (case tyC_Wrong=>k_is)
  (case noN_Wrong=>k_is)
  (case cls_sp=>k_is)
  (case cls_tk=>k_is)
  (case op_any=>k_is)
  (case z_super=>k_is)
  (case lk_NoMark=>k_is)
  (case sa_NoMark=>k_is)
  (case in_NoMark=>k_is)
  (case tf_NoMark=>k_is)
  (case kC_NoMark=>k_is)
  (case exV_NoMark=>k_is)
  (case su_NoMark=>ks_is)
  (case mr_NoMark=>k_is)
  (case lfn_NoMark=>k_is)
  (case cod_NoMark=>k_is)
  (case lcd_NoMark=>k_is)
  (case lcc_NoMark=>k_is)
  (case lk_Wrong=>k_is)
  (case sa_Wrong=>k_is)
  (case in_Wrong=>k_is)
  (case tf_Wrong=>k_is)
  (case kC_Wrong=>k_is)
  (case exV_Wrong=>k_is)
  (case su_Wrong=>ks_is)
  (case mr_Wrong=>k_is)
  (case lfn_Wrong=>k_is)
  (case cod_Wrong=>k_is)
  (case lcd_Wrong=>k_is)
  (case lcc_Wrong=>k_is)
  (case sb_NoMark_CountError=>k_is)
  (case sb_Wrong_CountError=>k_is)
  (case no_Wrong_NoMark=>k_is)
  (case no_NoMark_Wrong=>k_is)
  (case top_s=>rfl)
  (case rv_NoMark=>decide +kernel)
  (case v2_NoMark=>rfl)
  (case fl_NoMark=>first|rfl|decide +kernel)
  (case ev_NoMark=>exact fun _=>rfl)
  (case s1_NoMark=>exact fun _=>rfl)
  (case s2_NoMark=>exact fun _=>rfl)
  (case rv_Wrong=>decide +kernel)
  (case v2_Wrong=>rfl)
  (case fl_Wrong=>first|rfl|decide +kernel)
  (case ev_Wrong=>exact fun _=>rfl)
  (case s1_Wrong=>exact fun _=>rfl)
  (case s2_Wrong=>exact fun _=>rfl)
  (case ne_Wrong_NoMark=>rfl)
  (case ne_NoMark_Wrong=>rfl)
